/-
  Own work: the resolved code of some functions of chapter 6.
-/
import Derived.Test.YtciaaphffkhjeaaGreatDoorCh6Base
import Derived.Test.YtciaaphffkhjeaaGreatDoorLib2
import Derived.Test.YtciaaphffkhjeaaGreatDoorCh6Row
import Derived.IntWalk
namespace Go.Ab.Ch6
set_option maxRecDepth 1000000
def b3:ICode:=.seq (.region [⟨.p 2,.box 24 4 (.p 0),none⟩,⟨.p 3,.box 27 3 (.p 1),none⟩,⟨.p 4,.mv (.c (.bool false)),none⟩]) (.seq (.seq (.region [⟨.l 5,.faddr 0 (.p 2),none⟩,⟨.l 6,.load 1 false (.l 5),none⟩,⟨.l 7,.call (.c (.fn (.func 9) [] [])) [(.l 6)],none⟩,⟨.l 8,.un .not (.l 7),none⟩,⟨.l 9,.mv (.l 8),none⟩,⟨.l 10,.faddr 0 (.p 3),some ((.l 9),false)⟩,⟨.l 11,.load 1 false (.l 10),some ((.l 9),false)⟩,⟨.l 12,.call (.c (.fn (.func 9) [] [])) [(.l 11)],some ((.l 9),false)⟩,⟨.l 13,.un .not (.l 12),some ((.l 9),false)⟩,⟨.l 14,.pick (.l 9) (.c (.bool true)) (.l 13),none⟩,⟨.l 15,.mv (.l 14),none⟩,⟨.l 16,.faddr 1 (.p 3),some ((.l 15),false)⟩,⟨.l 17,.load 1 false (.l 16),some ((.l 15),false)⟩,⟨.l 18,.len .sl (.l 17),some ((.l 15),false)⟩,⟨.l 19,.bin .gtr (.l 18) (.c (.int .i64 (27))),some ((.l 15),false)⟩,⟨.l 20,.pick (.l 15) (.c (.bool true)) (.l 19),none⟩]) (.cond (.l 20) (.seq (.region [⟨.l 21,.call (.c (.fn (.func 10) [] [])) [],none⟩,⟨.p 4,.mv (.l 21),none⟩]) (.ret)) (.skip))) (.seq (.draw [(⟨.l 22,.load 4 true (.p 2),none⟩,[]),(⟨.l 23,.call (.c (.fn (.func 11) [] [])) [(.l 22)],none⟩,[]),(⟨.l 24,.load 4 true (.p 2),none⟩,[0,1]),(⟨.l 25,.call (.c (.fn (.func 12) [] [])) [(.l 24)],none⟩,[]),(⟨.l 26,.bin .eql (.l 23) (.l 25),none⟩,[]),(⟨.l 27,.mv (.l 26),none⟩,[]),(⟨.l 28,.load 3 true (.p 3),some ((.l 27),true)⟩,[]),(⟨.l 29,.call (.c (.fn (.func 13) [] [])) [(.l 28)],some ((.l 27),true)⟩,[]),(⟨.l 30,.load 3 true (.p 3),some ((.l 27),true)⟩,[6,7]),(⟨.l 31,.call (.c (.fn (.func 14) [] [])) [(.l 30)],some ((.l 27),true)⟩,[]),(⟨.l 32,.bin .eql (.l 29) (.l 31),some ((.l 27),true)⟩,[]),(⟨.l 33,.pick (.l 27) (.l 32) (.c (.bool false)),none⟩,[]),(⟨.l 34,.mv (.l 33),none⟩,[]),(⟨.l 35,.call (.c (.fn (.func 10) [] [])) [],some ((.l 34),true)⟩,[]),(⟨.l 36,.pick (.l 34) (.l 35) (.c (.bool false)),none⟩,[]),(⟨.p 4,.mv (.l 36),none⟩,[])]) (.ret)))
def b9_0:ICode:=.seq (.seq (.region [⟨.l 7,.mv (.p 2),none⟩,⟨.l 8,.mv (.p 0),none⟩,⟨.l 9,.len .sl (.l 8),none⟩,⟨.l 10,.bin .lss (.l 7) (.l 9),none⟩]) (.cond (.l 10) (.skip) (.exit 0))) (.seq (.block 1 (.seq (.region [⟨.l 13,.mv (.p 0),none⟩,⟨.l 14,.mv (.p 2),none⟩,⟨.l 15,.iaddr none 1 (.l 13) (.l 14),none⟩,⟨.l 16,.load 1 false (.l 15),none⟩,⟨.l 17,.len .str (.l 16),none⟩,⟨.l 18,.bin .gtr (.l 17) (.c (.int .i64 (40))),none⟩]) (.cond (.l 18) (.seq (.region [⟨.p 1,.mv (.c (.bool false)),none⟩]) (.ret)) (.skip)))) (.region [⟨.l 11,.mv (.p 2),none⟩,⟨.l 12,.bin .add (.l 11) (.c (.int .i64 (1))),none⟩,⟨.p 2,.mv (.l 12),none⟩]))
def b9:ICode:=.seq (.region [⟨.p 1,.mv (.c (.bool false)),none⟩]) (.seq (.seq (.region [⟨.l 4,.mv (.p 0),none⟩,⟨.l 5,.len .sl (.l 4),none⟩,⟨.l 6,.bin .gtr (.l 5) (.c (.int .i64 (35))),none⟩]) (.cond (.l 6) (.seq (.region [⟨.p 1,.mv (.c (.bool false)),none⟩]) (.ret)) (.skip))) (.seq (.seq (.region [⟨.p 2,.mv (.c (.int .i64 (0))),none⟩]) (.block 0 (.loop b9_0))) (.seq (.region [⟨.p 1,.mv (.c (.bool true)),none⟩]) (.ret))))
theorem ft9:FT 9=some ⟨19,[0,2,3],[.var (.p 1)],b9⟩:=by kernel_rfl
def b13_0:ICode:=.seq (.region [⟨.l 30,.bin .lss (.p 9) (.p 8),none⟩]) (.seq (.cond (.l 30) (.skip) (.exit 0)) (.seq (.block 1 (.seq (.region [⟨.l 31,.iaddr none 1 (.p 7) (.p 9),none⟩,⟨.l 32,.load 1 false (.l 31),none⟩,⟨.p 5,.mv (.l 32),none⟩]) (.seq (.seq (.region [⟨.l 33,.mv (.p 5),none⟩,⟨.l 34,.call (.c (.fn (.func 63) [] [])) [(.l 33),(.c (.int .i64 (10))),(.c (.int .i64 (999999)))],none⟩,⟨.l 35,.mv (.p 5),none⟩,⟨.l 36,.bin .rem (.l 35) (.c (.int .i64 (10))),none⟩,⟨.l 37,.bin .neq (.l 36) (.c (.int .i64 (0))),none⟩,⟨.l 38,.call (.c (.fn (.func 64) [] [])) [(.l 37),(.c (.int .i64 (3)))],none⟩,⟨.l 39,.mv (.p 5),none⟩,⟨.l 40,.mv (.p 4),none⟩,⟨.l 41,.bin .leq (.l 39) (.l 40),none⟩,⟨.l 42,.call (.c (.fn (.func 64) [] [])) [(.l 41),(.c (.int .i64 (11)))],none⟩,⟨.l 43,.bslice 30 3 1 [.int .i64 (0)] [(0,1,(.l 34)),(1,1,(.l 38)),(2,1,(.l 42))],none⟩,⟨.l 44,.call (.c (.fn (.func 61) [] [])) [(.l 43)],none⟩,⟨.p 6,.mv (.l 44),none⟩]) (.seq (.region [⟨.l 45,.mv (.p 6),none⟩,⟨.l 46,.bin .neq (.l 45) (.c (.int .i64 (0))),none⟩]) (.cond (.l 46) (.seq (.region [⟨.l 47,.mv (.p 6),none⟩,⟨.p 2,.mv (.l 47),none⟩]) (.ret)) (.skip)))) (.region [⟨.l 48,.mv (.p 5),none⟩,⟨.p 4,.mv (.l 48),none⟩])))) (.region [⟨.l 49,.bin .add (.p 9) (.c (.int .i64 (1))),none⟩,⟨.p 9,.mv (.l 49),none⟩])))
def b13:ICode:=.seq (.region [⟨.p 1,.box 35 3 (.p 0),none⟩,⟨.p 2,.mv (.c (.int .i64 (0))),none⟩]) (.seq (.seq (.draw [(⟨.l 8,.faddr 0 (.p 1),none⟩,[]),(⟨.l 9,.load 1 false (.l 8),none⟩,[]),(⟨.l 10,.call (.c (.fn (.func 62) [] [])) [(.l 9)],none⟩,[]),(⟨.l 11,.faddr 1 (.p 1),none⟩,[0,1,2]),(⟨.l 12,.load 1 false (.l 11),none⟩,[0,1,2]),(⟨.l 13,.len .sl (.l 12),none⟩,[0,1,2]),(⟨.l 14,.bin .eql (.l 13) (.c (.int .i64 (0))),none⟩,[0,1,2]),(⟨.l 15,.call (.c (.fn (.func 64) [] [])) [(.l 14),(.c (.int .i64 (12)))],none⟩,[]),(⟨.l 16,.faddr 1 (.p 1),none⟩,[0,1,2,3,4,5,6,7]),(⟨.l 17,.load 1 false (.l 16),none⟩,[0,1,2,3,4,5,6,7]),(⟨.l 18,.len .sl (.l 17),none⟩,[0,1,2,3,4,5,6,7]),(⟨.l 19,.bin .gtr (.l 18) (.c (.int .i64 (24))),none⟩,[0,1,2,3,4,5,6,7]),(⟨.l 20,.call (.c (.fn (.func 64) [] [])) [(.l 19),(.c (.int .i64 (5)))],none⟩,[]),(⟨.l 21,.bslice 30 3 1 [.int .i64 (0)] [(0,1,(.l 10)),(1,1,(.l 15)),(2,1,(.l 20))],none⟩,[]),(⟨.l 22,.call (.c (.fn (.func 61) [] [])) [(.l 21)],none⟩,[]),(⟨.p 3,.mv (.l 22),none⟩,[])]) (.seq (.region [⟨.l 23,.mv (.p 3),none⟩,⟨.l 24,.bin .neq (.l 23) (.c (.int .i64 (0))),none⟩]) (.cond (.l 24) (.seq (.region [⟨.l 25,.mv (.p 3),none⟩,⟨.p 2,.mv (.l 25),none⟩]) (.ret)) (.skip)))) (.seq (.region [⟨.p 4,.mv (.c (.int .i64 (0))),none⟩]) (.seq (.seq (.region [⟨.l 26,.faddr 1 (.p 1),none⟩,⟨.p 7,.load 1 false (.l 26),none⟩,⟨.p 8,.len .sl (.p 7),none⟩,⟨.p 9,.mv (.c (.int .i64 (0))),none⟩]) (.block 0 (.loop b13_0))) (.seq (.draw [(⟨.l 50,.faddr 2 (.p 1),none⟩,[]),(⟨.l 51,.load 1 false (.l 50),none⟩,[]),(⟨.l 52,.call (.c (.fn (.func 63) [] [])) [(.l 51),(.c (.int .i64 (10))),(.c (.int .i64 (1000)))],none⟩,[]),(⟨.l 53,.faddr 2 (.p 1),none⟩,[0,1,2]),(⟨.l 54,.load 1 false (.l 53),none⟩,[0,1,2]),(⟨.l 55,.bin .rem (.l 54) (.c (.int .i64 (10))),none⟩,[0,1,2]),(⟨.l 56,.bin .neq (.l 55) (.c (.int .i64 (0))),none⟩,[0,1,2]),(⟨.l 57,.call (.c (.fn (.func 64) [] [])) [(.l 56),(.c (.int .i64 (3)))],none⟩,[]),(⟨.l 58,.bslice 30 2 1 [.int .i64 (0)] [(0,1,(.l 52)),(1,1,(.l 57))],none⟩,[]),(⟨.l 59,.call (.c (.fn (.func 61) [] [])) [(.l 58)],none⟩,[]),(⟨.p 2,.mv (.l 59),none⟩,[])]) (.ret)))))
theorem ft13:FT 13=some ⟨60,[0,1,2,3,4,6,7,27,28,29],[.var (.p 2)],b13⟩:=by kernel_rfl
def b14_0:ICode:=.seq (.seq (.region [⟨.l 20,.mv (.p 4),none⟩,⟨.l 21,.faddr 1 (.p 1),none⟩,⟨.l 22,.load 1 false (.l 21),none⟩,⟨.l 23,.len .sl (.l 22),none⟩,⟨.l 24,.bin .lss (.l 20) (.l 23),none⟩]) (.cond (.l 24) (.skip) (.exit 0))) (.seq (.block 1 (.seq (.region [⟨.l 27,.faddr 1 (.p 1),none⟩,⟨.l 28,.load 1 false (.l 27),none⟩,⟨.l 29,.mv (.p 4),none⟩,⟨.l 30,.iaddr none 1 (.l 28) (.l 29),none⟩,⟨.l 31,.load 1 false (.l 30),none⟩,⟨.p 5,.mv (.l 31),none⟩]) (.seq (.seq (.region [⟨.l 32,.mv (.p 5),none⟩,⟨.l 33,.bin .lss (.l 32) (.c (.int .i64 (10))),none⟩,⟨.l 34,.mv (.l 33),none⟩,⟨.l 35,.mv (.p 5),some ((.l 34),false)⟩,⟨.l 36,.bin .gtr (.l 35) (.c (.int .i64 (999999))),some ((.l 34),false)⟩,⟨.l 37,.pick (.l 34) (.c (.bool true)) (.l 36),none⟩,⟨.l 38,.mv (.l 37),none⟩,⟨.l 39,.mv (.p 5),some ((.l 38),false)⟩,⟨.l 40,.bin .rem (.l 39) (.c (.int .i64 (10))),some ((.l 38),false)⟩,⟨.l 41,.bin .neq (.l 40) (.c (.int .i64 (0))),some ((.l 38),false)⟩,⟨.l 42,.pick (.l 38) (.c (.bool true)) (.l 41),none⟩]) (.cond (.l 42) (.seq (.region [⟨.p 2,.mv (.c (.int .i64 (3))),none⟩]) (.ret)) (.skip))) (.seq (.region [⟨.l 43,.mv (.p 4),none⟩,⟨.l 44,.bin .gtr (.l 43) (.c (.int .i64 (0))),none⟩,⟨.l 45,.mv (.l 44),none⟩,⟨.l 46,.mv (.p 5),some ((.l 45),true)⟩,⟨.l 47,.faddr 1 (.p 1),some ((.l 45),true)⟩,⟨.l 48,.load 1 false (.l 47),some ((.l 45),true)⟩,⟨.l 49,.mv (.p 4),some ((.l 45),true)⟩,⟨.l 50,.bin .sub (.l 49) (.c (.int .i64 (1))),some ((.l 45),true)⟩,⟨.l 51,.iaddr none 1 (.l 48) (.l 50),some ((.l 45),true)⟩,⟨.l 52,.load 1 false (.l 51),some ((.l 45),true)⟩,⟨.l 53,.bin .leq (.l 46) (.l 52),some ((.l 45),true)⟩,⟨.l 54,.pick (.l 45) (.l 53) (.c (.bool false)),none⟩]) (.cond (.l 54) (.seq (.region [⟨.p 2,.mv (.c (.int .i64 (11))),none⟩]) (.ret)) (.skip)))))) (.region [⟨.l 25,.mv (.p 4),none⟩,⟨.l 26,.bin .add (.l 25) (.c (.int .i64 (1))),none⟩,⟨.p 4,.mv (.l 26),none⟩]))
def b14:ICode:=.seq (.region [⟨.p 1,.box 27 3 (.p 0),none⟩,⟨.p 2,.mv (.c (.int .i64 (0))),none⟩]) (.seq (.region [⟨.l 6,.faddr 0 (.p 1),none⟩,⟨.l 7,.load 1 false (.l 6),none⟩,⟨.l 8,.call (.c (.fn (.func 65) [] [])) [(.l 7)],none⟩,⟨.p 3,.mv (.l 8),none⟩]) (.seq (.seq (.region [⟨.l 9,.mv (.p 3),none⟩,⟨.l 10,.bin .neq (.l 9) (.c (.int .i64 (0))),none⟩]) (.cond (.l 10) (.seq (.region [⟨.l 11,.mv (.p 3),none⟩,⟨.p 2,.mv (.l 11),none⟩]) (.ret)) (.skip))) (.seq (.seq (.region [⟨.l 12,.faddr 1 (.p 1),none⟩,⟨.l 13,.load 1 false (.l 12),none⟩,⟨.l 14,.len .sl (.l 13),none⟩,⟨.l 15,.bin .eql (.l 14) (.c (.int .i64 (0))),none⟩]) (.cond (.l 15) (.seq (.region [⟨.p 2,.mv (.c (.int .i64 (12))),none⟩]) (.ret)) (.skip))) (.seq (.seq (.region [⟨.l 16,.faddr 1 (.p 1),none⟩,⟨.l 17,.load 1 false (.l 16),none⟩,⟨.l 18,.len .sl (.l 17),none⟩,⟨.l 19,.bin .gtr (.l 18) (.c (.int .i64 (24))),none⟩]) (.cond (.l 19) (.seq (.region [⟨.p 2,.mv (.c (.int .i64 (5))),none⟩]) (.ret)) (.skip))) (.seq (.seq (.region [⟨.p 4,.mv (.c (.int .i64 (0))),none⟩]) (.block 0 (.loop b14_0))) (.seq (.seq (.region [⟨.l 55,.faddr 2 (.p 1),none⟩,⟨.l 56,.load 1 false (.l 55),none⟩,⟨.l 57,.bin .lss (.l 56) (.c (.int .i64 (10))),none⟩,⟨.l 58,.mv (.l 57),none⟩,⟨.l 59,.faddr 2 (.p 1),some ((.l 58),false)⟩,⟨.l 60,.load 1 false (.l 59),some ((.l 58),false)⟩,⟨.l 61,.bin .gtr (.l 60) (.c (.int .i64 (1000))),some ((.l 58),false)⟩,⟨.l 62,.pick (.l 58) (.c (.bool true)) (.l 61),none⟩,⟨.l 63,.mv (.l 62),none⟩,⟨.l 64,.faddr 2 (.p 1),some ((.l 63),false)⟩,⟨.l 65,.load 1 false (.l 64),some ((.l 63),false)⟩,⟨.l 66,.bin .rem (.l 65) (.c (.int .i64 (10))),some ((.l 63),false)⟩,⟨.l 67,.bin .neq (.l 66) (.c (.int .i64 (0))),some ((.l 63),false)⟩,⟨.l 68,.pick (.l 63) (.c (.bool true)) (.l 67),none⟩]) (.cond (.l 68) (.seq (.region [⟨.p 2,.mv (.c (.int .i64 (3))),none⟩]) (.ret)) (.skip))) (.seq (.region [⟨.p 2,.mv (.c (.int .i64 (0))),none⟩]) (.ret))))))))
theorem ft14:FT 14=some ⟨69,[0,1,2,3,4,5],[.var (.p 2)],b14⟩:=by kernel_rfl
def b62_0:ICode:=.seq (.region [⟨.l 22,.bin .lss (.p 6) (.p 5),none⟩]) (.seq (.cond (.l 22) (.skip) (.exit 0)) (.seq (.block 1 (.seq (.region [⟨.l 23,.mv (.p 6),none⟩,⟨.p 3,.mv (.l 23),none⟩]) (.seq (.region [⟨.l 24,.mv (.p 0),none⟩,⟨.l 25,.mv (.p 3),none⟩,⟨.l 26,.call (.c (.fn (.func 76) [] [])) [(.l 24),(.l 25)],none⟩,⟨.p 4,.mv (.l 26),none⟩]) (.seq (.region [⟨.l 27,.mv (.p 4),none⟩,⟨.l 28,.bin .neq (.l 27) (.c (.int .i64 (0))),none⟩]) (.cond (.l 28) (.seq (.region [⟨.l 29,.mv (.p 4),none⟩,⟨.p 1,.mv (.l 29),none⟩]) (.ret)) (.skip)))))) (.region [⟨.l 30,.bin .add (.p 6) (.c (.int .i64 (1))),none⟩,⟨.p 6,.mv (.l 30),none⟩])))
def b62:ICode:=.seq (.region [⟨.p 1,.mv (.c (.int .i64 (0))),none⟩]) (.seq (.seq (.region [⟨.l 6,.mv (.p 0),none⟩,⟨.l 7,.len .sl (.l 6),none⟩,⟨.l 8,.bin .eql (.l 7) (.c (.int .i64 (0))),none⟩,⟨.l 9,.call (.c (.fn (.func 64) [] [])) [(.l 8),(.c (.int .i64 (12)))],none⟩,⟨.l 10,.mv (.p 0),none⟩,⟨.l 11,.len .sl (.l 10),none⟩,⟨.l 12,.bin .gtr (.l 11) (.c (.int .i64 (32))),none⟩,⟨.l 13,.call (.c (.fn (.func 64) [] [])) [(.l 12),(.c (.int .i64 (5)))],none⟩,⟨.l 14,.bslice 30 2 1 [.int .i64 (0)] [(0,1,(.l 9)),(1,1,(.l 13))],none⟩,⟨.l 15,.call (.c (.fn (.func 61) [] [])) [(.l 14)],none⟩,⟨.p 2,.mv (.l 15),none⟩]) (.seq (.region [⟨.l 16,.mv (.p 2),none⟩,⟨.l 17,.bin .neq (.l 16) (.c (.int .i64 (0))),none⟩]) (.cond (.l 17) (.seq (.region [⟨.l 18,.mv (.p 2),none⟩,⟨.p 1,.mv (.l 18),none⟩]) (.ret)) (.skip)))) (.seq (.seq (.region [⟨.l 19,.mv (.p 0),none⟩,⟨.p 5,.len .sl (.l 19),none⟩,⟨.p 6,.mv (.c (.int .i64 (0))),none⟩]) (.block 0 (.loop b62_0))) (.seq (.region [⟨.p 1,.mv (.c (.int .i64 (0))),none⟩]) (.ret))))
theorem ft62:FT 62=some ⟨31,[0,2,3,4,5,20,21],[.var (.p 1)],b62⟩:=by kernel_rfl
def b76:ICode:=.seq (.region [⟨.p 2,.mv (.c (.int .i64 (0))),none⟩]) (.seq (.draw [(⟨.l 5,.mv (.p 0),none⟩,[]),(⟨.l 6,.mv (.p 1),none⟩,[0]),(⟨.l 7,.iaddr none 1 (.l 5) (.l 6),none⟩,[]),(⟨.l 8,.load 1 false (.l 7),none⟩,[]),(⟨.l 9,.call (.c (.fn (.func 67) [] [])) [(.l 8)],none⟩,[]),(⟨.l 10,.un .not (.l 9),none⟩,[]),(⟨.l 11,.call (.c (.fn (.func 64) [] [])) [(.l 10),(.c (.int .i64 (8)))],none⟩,[]),(⟨.l 12,.mv (.p 0),none⟩,[0,1,2,3,4,5,6]),(⟨.l 13,.mv (.p 1),none⟩,[0,1,2,3,4,5,6,7]),(⟨.l 14,.slice .sl 1 (.l 12) none (some (.l 13)) none,none⟩,[0,1,2,3,4,5,6]),(⟨.l 15,.mv (.p 0),none⟩,[0,1,2,3,4,5,6,7,8,9]),(⟨.l 16,.mv (.p 1),none⟩,[0,1,2,3,4,5,6,7,8,9,10]),(⟨.l 17,.iaddr none 1 (.l 15) (.l 16),none⟩,[0,1,2,3,4,5,6,7,8,9]),(⟨.l 18,.load 1 false (.l 17),none⟩,[0,1,2,3,4,5,6,7,8,9]),(⟨.l 19,.call (.c (.fn (.func 126) [] [])) [(.l 14),(.l 18)],none⟩,[]),(⟨.l 20,.call (.c (.fn (.func 64) [] [])) [(.l 19),(.c (.int .i64 (9)))],none⟩,[]),(⟨.l 21,.bslice 30 2 1 [.int .i64 (0)] [(0,1,(.l 11)),(1,1,(.l 20))],none⟩,[]),(⟨.l 22,.call (.c (.fn (.func 61) [] [])) [(.l 21)],none⟩,[]),(⟨.p 2,.mv (.l 22),none⟩,[])]) (.ret))
theorem ft76:FT 76=some ⟨23,[0,1,4],[.var (.p 2)],b76⟩:=by kernel_rfl
def b61_0:ICode:=.seq (.region [⟨.l 8,.bin .lss (.p 5) (.p 4),none⟩]) (.seq (.cond (.l 8) (.skip) (.exit 0)) (.seq (.block 1 (.seq (.region [⟨.l 9,.iaddr none 1 (.p 3) (.p 5),none⟩,⟨.l 10,.load 1 false (.l 9),none⟩,⟨.p 2,.mv (.l 10),none⟩]) (.seq (.region [⟨.l 11,.mv (.p 2),none⟩,⟨.l 12,.bin .neq (.l 11) (.c (.int .i64 (0))),none⟩]) (.cond (.l 12) (.seq (.region [⟨.l 13,.mv (.p 2),none⟩,⟨.p 1,.mv (.l 13),none⟩]) (.ret)) (.skip))))) (.region [⟨.l 14,.bin .add (.p 5) (.c (.int .i64 (1))),none⟩,⟨.p 5,.mv (.l 14),none⟩])))
def b61:ICode:=.seq (.region [⟨.p 1,.mv (.c (.int .i64 (0))),none⟩]) (.seq (.seq (.region [⟨.p 3,.mv (.p 0),none⟩,⟨.p 4,.len .sl (.p 3),none⟩,⟨.p 5,.mv (.c (.int .i64 (0))),none⟩]) (.block 0 (.loop b61_0))) (.seq (.region [⟨.p 1,.mv (.c (.int .i64 (0))),none⟩]) (.ret)))
theorem ft61:FT 61=some ⟨15,[0,2,4,5,6,7],[.var (.p 1)],b61⟩:=by kernel_rfl
def b64:ICode:=.seq (.region [⟨.p 2,.mv (.c (.int .i64 (0))),none⟩]) (.seq (.seq (.region [⟨.l 5,.mv (.p 0),none⟩]) (.cond (.l 5) (.seq (.region [⟨.l 6,.mv (.p 1),none⟩,⟨.p 2,.mv (.l 6),none⟩]) (.ret)) (.skip))) (.seq (.region [⟨.p 2,.mv (.c (.int .i64 (0))),none⟩]) (.ret)))
theorem ft64:FT 64=some ⟨7,[0,1,4],[.var (.p 2)],b64⟩:=by kernel_rfl
def b63:ICode:=.seq (.region [⟨.p 3,.mv (.c (.int .i64 (0))),none⟩]) (.seq (.region [⟨.l 7,.mv (.p 0),none⟩,⟨.l 8,.mv (.p 1),none⟩,⟨.l 9,.bin .lss (.l 7) (.l 8),none⟩,⟨.l 10,.mv (.l 9),none⟩,⟨.l 11,.mv (.p 0),some ((.l 10),false)⟩,⟨.l 12,.mv (.p 2),some ((.l 10),false)⟩,⟨.l 13,.bin .gtr (.l 11) (.l 12),some ((.l 10),false)⟩,⟨.l 14,.pick (.l 10) (.c (.bool true)) (.l 13),none⟩,⟨.l 15,.call (.c (.fn (.func 64) [] [])) [(.l 14),(.c (.int .i64 (3)))],none⟩,⟨.p 3,.mv (.l 15),none⟩]) (.ret))
theorem ft63:FT 63=some ⟨16,[0,1,2,6],[.var (.p 3)],b63⟩:=by kernel_rfl
def b65_0:ICode:=.seq (.seq (.region [⟨.l 11,.mv (.p 2),none⟩,⟨.l 12,.mv (.p 0),none⟩,⟨.l 13,.len .sl (.l 12),none⟩,⟨.l 14,.bin .lss (.l 11) (.l 13),none⟩]) (.cond (.l 14) (.skip) (.exit 0))) (.seq (.block 1 (.seq (.region [⟨.l 17,.mv (.p 0),none⟩,⟨.l 18,.mv (.p 2),none⟩,⟨.l 19,.call (.c (.fn (.func 73) [] [])) [(.l 17),(.l 18)],none⟩,⟨.p 3,.mv (.l 19),none⟩]) (.seq (.region [⟨.l 20,.mv (.p 3),none⟩,⟨.l 21,.bin .neq (.l 20) (.c (.int .i64 (0))),none⟩]) (.cond (.l 21) (.seq (.region [⟨.l 22,.mv (.p 3),none⟩,⟨.p 1,.mv (.l 22),none⟩]) (.ret)) (.skip))))) (.region [⟨.l 15,.mv (.p 2),none⟩,⟨.l 16,.bin .add (.l 15) (.c (.int .i64 (1))),none⟩,⟨.p 2,.mv (.l 16),none⟩]))
def b65:ICode:=.seq (.region [⟨.p 1,.mv (.c (.int .i64 (0))),none⟩]) (.seq (.seq (.region [⟨.l 5,.mv (.p 0),none⟩,⟨.l 6,.len .sl (.l 5),none⟩,⟨.l 7,.bin .eql (.l 6) (.c (.int .i64 (0))),none⟩]) (.cond (.l 7) (.seq (.region [⟨.p 1,.mv (.c (.int .i64 (12))),none⟩]) (.ret)) (.skip))) (.seq (.seq (.region [⟨.l 8,.mv (.p 0),none⟩,⟨.l 9,.len .sl (.l 8),none⟩,⟨.l 10,.bin .gtr (.l 9) (.c (.int .i64 (32))),none⟩]) (.cond (.l 10) (.seq (.region [⟨.p 1,.mv (.c (.int .i64 (5))),none⟩]) (.ret)) (.skip))) (.seq (.seq (.region [⟨.p 2,.mv (.c (.int .i64 (0))),none⟩]) (.block 0 (.loop b65_0))) (.seq (.region [⟨.p 1,.mv (.c (.int .i64 (0))),none⟩]) (.ret)))))
theorem ft65:FT 65=some ⟨23,[0,2,3,4],[.var (.p 1)],b65⟩:=by kernel_rfl
def b73_0:ICode:=.seq (.seq (.region [⟨.l 12,.mv (.p 3),none⟩,⟨.l 13,.mv (.p 1),none⟩,⟨.l 14,.bin .lss (.l 12) (.l 13),none⟩]) (.cond (.l 14) (.skip) (.exit 0))) (.seq (.block 1 (.seq (.draw [(⟨.l 17,.mv (.p 0),none⟩,[]),(⟨.l 18,.mv (.p 3),none⟩,[0]),(⟨.l 19,.iaddr none 1 (.l 17) (.l 18),none⟩,[]),(⟨.l 20,.load 1 false (.l 19),none⟩,[]),(⟨.l 21,.mv (.p 0),none⟩,[0,1,2,3]),(⟨.l 22,.mv (.p 1),none⟩,[0,1,2,3,4]),(⟨.l 23,.iaddr none 1 (.l 21) (.l 22),none⟩,[0,1,2,3]),(⟨.l 24,.load 1 false (.l 23),none⟩,[0,1,2,3]),(⟨.l 25,.bin .eql (.l 20) (.l 24),none⟩,[])]) (.cond (.l 25) (.seq (.region [⟨.p 2,.mv (.c (.int .i64 (9))),none⟩]) (.ret)) (.skip)))) (.region [⟨.l 15,.mv (.p 3),none⟩,⟨.l 16,.bin .add (.l 15) (.c (.int .i64 (1))),none⟩,⟨.p 3,.mv (.l 16),none⟩]))
def b73:ICode:=.seq (.region [⟨.p 2,.mv (.c (.int .i64 (0))),none⟩]) (.seq (.seq (.region [⟨.l 6,.mv (.p 0),none⟩,⟨.l 7,.mv (.p 1),none⟩,⟨.l 8,.iaddr none 1 (.l 6) (.l 7),none⟩,⟨.l 9,.load 1 false (.l 8),none⟩,⟨.l 10,.call (.c (.fn (.func 68) [] [])) [(.l 9)],none⟩,⟨.l 11,.un .not (.l 10),none⟩]) (.cond (.l 11) (.seq (.region [⟨.p 2,.mv (.c (.int .i64 (8))),none⟩]) (.ret)) (.skip))) (.seq (.seq (.region [⟨.p 3,.mv (.c (.int .i64 (0))),none⟩]) (.block 0 (.loop b73_0))) (.seq (.region [⟨.p 2,.mv (.c (.int .i64 (0))),none⟩]) (.ret))))
theorem ft73:FT 73=some ⟨26,[0,1,4,5],[.var (.p 2)],b73⟩:=by kernel_rfl
def b67_0:ICode:=.seq (.region [⟨.p 6,.next (.p 5),none⟩,⟨.l 9,.extract 0 (.p 6),none⟩]) (.seq (.cond (.l 9) (.skip) (.exit 0)) (.block 1 (.seq (.region [⟨.l 10,.extract 1 (.p 6),none⟩,⟨.l 11,.extract 2 (.p 6),none⟩,⟨.p 2,.mv (.l 10),none⟩,⟨.p 3,.mv (.l 11),none⟩]) (.seq (.region [⟨.l 12,.mv (.p 3),none⟩,⟨.l 13,.bin .geq (.l 12) (.c (.int .i32 (97))),none⟩,⟨.l 14,.mv (.l 13),none⟩,⟨.l 15,.mv (.p 3),some ((.l 14),true)⟩,⟨.l 16,.bin .leq (.l 15) (.c (.int .i32 (122))),some ((.l 14),true)⟩,⟨.l 17,.pick (.l 14) (.l 16) (.c (.bool false)),none⟩,⟨.l 18,.mv (.l 17),none⟩,⟨.l 19,.mv (.p 3),some ((.l 18),false)⟩,⟨.l 20,.bin .geq (.l 19) (.c (.int .i32 (65))),some ((.l 18),false)⟩,⟨.l 21,.mv (.l 20),some ((.l 18),false)⟩,⟨.l 22,.mv (.p 3),some ((.l 21),true)⟩,⟨.l 23,.bin .leq (.l 22) (.c (.int .i32 (90))),some ((.l 21),true)⟩,⟨.l 24,.pick (.l 21) (.l 23) (.c (.bool false)),some ((.l 18),false)⟩,⟨.l 25,.pick (.l 18) (.c (.bool true)) (.l 24),none⟩,⟨.p 4,.mv (.l 25),none⟩]) (.seq (.region [⟨.l 26,.mv (.p 4),none⟩,⟨.l 27,.un .not (.l 26),none⟩,⟨.l 28,.mv (.l 27),none⟩,⟨.l 29,.mv (.p 2),some ((.l 28),true)⟩,⟨.l 30,.bin .eql (.l 29) (.c (.int .i64 (0))),some ((.l 28),true)⟩,⟨.l 31,.mv (.l 30),some ((.l 28),true)⟩,⟨.l 32,.mv (.p 3),some ((.l 31),false)⟩,⟨.l 33,.bin .neq (.l 32) (.c (.int .i32 (95))),some ((.l 31),false)⟩,⟨.l 34,.mv (.l 33),some ((.l 31),false)⟩,⟨.l 35,.mv (.p 3),some ((.l 34),true)⟩,⟨.l 36,.bin .lss (.l 35) (.c (.int .i32 (48))),some ((.l 34),true)⟩,⟨.l 37,.mv (.l 36),some ((.l 34),true)⟩,⟨.l 38,.mv (.p 3),some ((.l 37),false)⟩,⟨.l 39,.bin .gtr (.l 38) (.c (.int .i32 (57))),some ((.l 37),false)⟩,⟨.l 40,.pick (.l 37) (.c (.bool true)) (.l 39),some ((.l 34),true)⟩,⟨.l 41,.pick (.l 34) (.l 40) (.c (.bool false)),some ((.l 31),false)⟩,⟨.l 42,.pick (.l 31) (.c (.bool true)) (.l 41),some ((.l 28),true)⟩,⟨.l 43,.pick (.l 28) (.l 42) (.c (.bool false)),none⟩]) (.cond (.l 43) (.seq (.region [⟨.p 1,.mv (.c (.bool false)),none⟩]) (.ret)) (.skip)))))))
def b67:ICode:=.seq (.region [⟨.p 1,.mv (.c (.bool false)),none⟩]) (.seq (.seq (.region [⟨.l 6,.mv (.p 0),none⟩,⟨.p 5,.range (.l 6),none⟩]) (.block 0 (.loop b67_0))) (.seq (.region [⟨.l 44,.mv (.p 0),none⟩,⟨.l 45,.len .str (.l 44),none⟩,⟨.l 46,.bin .gtr (.l 45) (.c (.int .i64 (0))),none⟩,⟨.l 47,.mv (.l 46),none⟩,⟨.l 48,.mv (.p 0),some ((.l 47),true)⟩,⟨.l 49,.len .str (.l 48),some ((.l 47),true)⟩,⟨.l 50,.bin .leq (.l 49) (.c (.int .i64 (24))),some ((.l 47),true)⟩,⟨.l 51,.pick (.l 47) (.l 50) (.c (.bool false)),none⟩,⟨.p 1,.mv (.l 51),none⟩]) (.ret)))
theorem ft67:FT 67=some ⟨52,[0,2,3,4,5,7,8],[.var (.p 1)],b67⟩:=by kernel_rfl
def b68_0:ICode:=.seq (.seq (.region [⟨.l 14,.mv (.p 2),none⟩,⟨.l 15,.mv (.p 0),none⟩,⟨.l 16,.len .str (.l 15),none⟩,⟨.l 17,.bin .lss (.l 14) (.l 16),none⟩]) (.cond (.l 17) (.skip) (.exit 0))) (.seq (.block 1 (.seq (.region [⟨.l 20,.mv (.p 0),none⟩,⟨.l 21,.mv (.p 2),none⟩,⟨.l 22,.index (.l 20) (.l 21),none⟩,⟨.p 3,.mv (.l 22),none⟩]) (.seq (.region [⟨.l 23,.mv (.p 3),none⟩,⟨.l 24,.bin .geq (.l 23) (.c (.int .u8 (97))),none⟩,⟨.l 25,.mv (.l 24),none⟩,⟨.l 26,.mv (.p 3),some ((.l 25),true)⟩,⟨.l 27,.bin .leq (.l 26) (.c (.int .u8 (122))),some ((.l 25),true)⟩,⟨.l 28,.pick (.l 25) (.l 27) (.c (.bool false)),none⟩,⟨.l 29,.mv (.l 28),none⟩,⟨.l 30,.mv (.p 3),some ((.l 29),false)⟩,⟨.l 31,.bin .geq (.l 30) (.c (.int .u8 (65))),some ((.l 29),false)⟩,⟨.l 32,.mv (.l 31),some ((.l 29),false)⟩,⟨.l 33,.mv (.p 3),some ((.l 32),true)⟩,⟨.l 34,.bin .leq (.l 33) (.c (.int .u8 (90))),some ((.l 32),true)⟩,⟨.l 35,.pick (.l 32) (.l 34) (.c (.bool false)),some ((.l 29),false)⟩,⟨.l 36,.pick (.l 29) (.c (.bool true)) (.l 35),none⟩,⟨.p 4,.mv (.l 36),none⟩]) (.seq (.region [⟨.l 37,.mv (.p 4),none⟩,⟨.l 38,.un .not (.l 37),none⟩,⟨.l 39,.mv (.l 38),none⟩,⟨.l 40,.mv (.p 2),some ((.l 39),true)⟩,⟨.l 41,.bin .eql (.l 40) (.c (.int .i64 (0))),some ((.l 39),true)⟩,⟨.l 42,.mv (.l 41),some ((.l 39),true)⟩,⟨.l 43,.mv (.p 3),some ((.l 42),false)⟩,⟨.l 44,.bin .geq (.l 43) (.c (.int .u8 (48))),some ((.l 42),false)⟩,⟨.l 45,.mv (.l 44),some ((.l 42),false)⟩,⟨.l 46,.mv (.p 3),some ((.l 45),true)⟩,⟨.l 47,.bin .leq (.l 46) (.c (.int .u8 (57))),some ((.l 45),true)⟩,⟨.l 48,.pick (.l 45) (.l 47) (.c (.bool false)),some ((.l 42),false)⟩,⟨.l 49,.mv (.l 48),some ((.l 42),false)⟩,⟨.l 50,.mv (.p 3),some ((.l 49),false)⟩,⟨.l 51,.bin .eql (.l 50) (.c (.int .u8 (95))),some ((.l 49),false)⟩,⟨.l 52,.pick (.l 49) (.c (.bool true)) (.l 51),some ((.l 42),false)⟩,⟨.l 53,.un .not (.l 52),some ((.l 42),false)⟩,⟨.l 54,.pick (.l 42) (.c (.bool true)) (.l 53),some ((.l 39),true)⟩,⟨.l 55,.pick (.l 39) (.l 54) (.c (.bool false)),none⟩]) (.cond (.l 55) (.seq (.region [⟨.p 1,.mv (.c (.bool false)),none⟩]) (.ret)) (.skip)))))) (.region [⟨.l 18,.mv (.p 2),none⟩,⟨.l 19,.bin .add (.l 18) (.c (.int .i64 (1))),none⟩,⟨.p 2,.mv (.l 19),none⟩]))
def b68:ICode:=.seq (.region [⟨.p 1,.mv (.c (.bool false)),none⟩]) (.seq (.seq (.region [⟨.l 6,.mv (.p 0),none⟩,⟨.l 7,.len .str (.l 6),none⟩,⟨.l 8,.bin .lss (.l 7) (.c (.int .i64 (1))),none⟩,⟨.l 9,.mv (.l 8),none⟩,⟨.l 10,.mv (.p 0),some ((.l 9),false)⟩,⟨.l 11,.len .str (.l 10),some ((.l 9),false)⟩,⟨.l 12,.bin .gtr (.l 11) (.c (.int .i64 (24))),some ((.l 9),false)⟩,⟨.l 13,.pick (.l 9) (.c (.bool true)) (.l 12),none⟩]) (.cond (.l 13) (.seq (.region [⟨.p 1,.mv (.c (.bool false)),none⟩]) (.ret)) (.skip))) (.seq (.seq (.region [⟨.p 2,.mv (.c (.int .i64 (0))),none⟩]) (.block 0 (.loop b68_0))) (.seq (.region [⟨.p 1,.mv (.c (.bool true)),none⟩]) (.ret))))
theorem ft68:FT 68=some ⟨56,[0,2,3,4,5],[.var (.p 1)],b68⟩:=by kernel_rfl
def b126:ICode:=.seq (.region [⟨.p 2,.mv (.c (.bool false)),none⟩]) (.seq (.region [⟨.l 5,.mv (.p 0),none⟩,⟨.l 6,.mv (.p 1),none⟩,⟨.l 7,.call (.c (.fn (.func 186) [] [])) [(.l 5),(.l 6)],none⟩,⟨.l 8,.bin .geq (.l 7) (.c (.int .i64 (0))),none⟩,⟨.p 2,.mv (.l 8),none⟩]) (.ret))
theorem ft126:FT 126=some ⟨9,[0,1,4],[.var (.p 2)],b126⟩:=by kernel_rfl
def b186_0:ICode:=.seq (.region [⟨.l 9,.bin .lss (.p 5) (.p 4),none⟩]) (.seq (.cond (.l 9) (.skip) (.exit 0)) (.seq (.block 1 (.seq (.region [⟨.l 10,.mv (.p 5),none⟩,⟨.p 3,.mv (.l 10),none⟩]) (.seq (.region [⟨.l 11,.mv (.p 1),none⟩,⟨.l 12,.mv (.p 0),none⟩,⟨.l 13,.mv (.p 3),none⟩,⟨.l 14,.iaddr none 1 (.l 12) (.l 13),none⟩,⟨.l 15,.load 1 false (.l 14),none⟩,⟨.l 16,.bin .eql (.l 11) (.l 15),none⟩]) (.cond (.l 16) (.seq (.region [⟨.l 17,.mv (.p 3),none⟩,⟨.p 2,.mv (.l 17),none⟩]) (.ret)) (.skip))))) (.region [⟨.l 18,.bin .add (.p 5) (.c (.int .i64 (1))),none⟩,⟨.p 5,.mv (.l 18),none⟩])))
def b186:ICode:=.seq (.region [⟨.p 2,.mv (.c (.int .i64 (0))),none⟩]) (.seq (.seq (.region [⟨.l 6,.mv (.p 0),none⟩,⟨.p 4,.len .sl (.l 6),none⟩,⟨.p 5,.mv (.c (.int .i64 (0))),none⟩]) (.block 0 (.loop b186_0))) (.seq (.region [⟨.p 2,.mv (.c (.int .i64 (-1))),none⟩]) (.ret)))
theorem ft186:FT 186=some ⟨19,[0,1,4,5,7,8],[.var (.p 2)],b186⟩:=by kernel_rfl
end Go.Ab.Ch6

/-
  Own work: chapter 6: names, contests and heights: their first errors, in plain Lean.
-/
namespace Go.Ab.Ch6
def letterI (c:Int):Bool:=(decide (97≤c) && decide (c≤122)) || (decide (65≤c) && decide (c≤90))
def restI (c:Int):Bool:=letterI c || (decide (c=95) || (decide (48≤c) && decide (c≤57)))
def okAt (i:Nat) (c:Int):Bool:=if i=0 then letterI c else restI c
def nameB:Str→Nat→Bool
 | [],_=>true
 | b::r,i=>okAt i b.toNat && nameB r (i+1)
def isName (s:Str):Bool:=nameB s 0 && decide (0<s.length) && decide (s.length≤24)
theorem nameB_drop {s:Str} {i:Nat} (h:i<s.length):nameB (s.drop i) i=(okAt i (s[i]!).toNat && nameB (s.drop (i+1)) (i+1)):=by
 rw [List.drop_eq_getElem_cons h,getElem!_pos s i h,nameB]
theorem okAt_ge {i:Nat} {c:Int} (h:128≤c):okAt i c=false:=by
 unfold okAt restI letterI
 split <;> simp <;> omega
theorem okAt_iff {i:Nat} {c:Int}:okAt i c=true↔((97≤c∧c≤122)∨(65≤c∧c≤90))∨(i≠0∧(c=95∨(48≤c∧c≤57))):=by
 unfold okAt restI letterI
 split <;> simp_all
theorem okAt_no {i:Nat} {c:Int} (h:¬ (((97≤c∧c≤122)∨(65≤c∧c≤90))∨(i≠0∧(c=95∨(48≤c∧c≤57))))):okAt i c=false:=by
 cases h':okAt i c
 · rfl
 · exact absurd (okAt_iff.1 h') h
def nameE (l:List Str) (i:Nat):Int:=if isName l[i]! = false then 8 else if l[i]! ∈ l.take i then 9 else 0
def namesE (l:List Str):Nat→Nat→Int
 | 0,_=>0
 | r+1,i=>if nameE l i=0 then namesE l r (i+1) else nameE l i
def athE (l:List Str):Int:=if l.length=0 then 12 else if 32<l.length then 5 else namesE l l.length 0
def heightE (last h:Int):Int:=if h<10∨999999<h then 3 else if h%10≠0 then 3 else if h≤last then 11 else 0
def heightsE:Int→List Int→Int
 | _,[]=>0
 | last,h::r=>if heightE last h=0 then heightsE h r else heightE last h
def stepE (s:Int):Int:=if s<10∨1000<s then 3 else if s%10≠0 then 3 else 0
def verticalE (l:List Str) (hs:List Int) (step:Int):Int:=
 if athE l≠0 then athE l else if hs.length=0 then 12 else if 24<hs.length then 5 else if heightsE 0 hs≠0 then heightsE 0 hs else stepE step
def shortN (l:List Str):Bool:=decide (l.length≤35) && l.all (fun s=>decide (s.length≤40))
end Go.Ab.Ch6

/-
  Own work: chapter 6: names.
-/
namespace Go.Ab.Ch6
variable {M:Mach} {cap:Option Nat}
theorem loop67 (s:Str) (hl:s.length<4611686018427387904) {Q:Ex→StW→Prop}:∀ (r i:Nat) (a2 a3 a4 a6:AV) (lo:List (Nat×AV)) (wr:List Nat),i+r=s.length →
 (nameB (s.drop i) i=true→∀ a2 a3 a4 a6 lo J wr,Q (.exit 0) ⟨⟨[.str s,.bool false,a2,a3,a4,.ptr 0 0,a6],lo,J,[]⟩,wr⟩) →
 (nameB (s.drop i) i=false→∀ a2 a3 a4 a6 lo J wr,Q .ret ⟨⟨[.str s,.bool false,a2,a3,a4,.ptr 0 0,a6],lo,J,[]⟩,wr⟩) →
 W M (.loop b67_0) ⟨⟨[.str s,.bool false,a2,a3,a4,.ptr 0 0,a6],lo,[]++[some (.iter s i)],[]⟩,wr⟩ Q
 | 0,i,a2,a3,a4,a6,lo,wr,hi,h1,h2=>by
  obtain rfl:i=s.length:=by omega
  refine W.loop ?_
  unfold b67_0
  repeat' first|(apply WO.nxF;rfl;omega)|apply W.seq|apply SQn|apply W.region|apply WO.nil|apply W.exit|apply SQe|apply LQe|(apply W.condF;rfl)|(apply WO.pl;rfl;rfl)
  exact h1 (by simp [nameB]) _ _ _ _ _ _ _
 | r+1,i,a2,a3,a4,a6,lo,wr,hi,h1,h2=>by
  have e:=nameB_drop (s:=s) (i:=i) (by omega)
  have step:∀ (c:Nat) (w:Nat),Utf8.decode ⟨s.toArray⟩ i=(c,w)→(okAt i c=true→w=1∧nameB (s.drop i) i=nameB (s.drop (i+1)) (i+1))→(okAt i c=false→nameB (s.drop i) i=false)→W M (.loop b67_0) ⟨⟨[.str s,.bool false,a2,a3,a4,.ptr 0 0,a6],lo,[]++[some (.iter s i)],[]⟩,wr⟩ Q:=by
   intro c w hd ht hf
   refine W.loop ?_
   unfold b67_0
   have go:∀ a2 a3 a4 a6 lo wr,okAt i c=true→LQ M b67_0 Q .normal ⟨⟨[.str s,.bool false,a2,a3,a4,.ptr 0 0,a6],lo,[]++[some (.iter s (i+w))],[]⟩,wr⟩:=fun a2 a3 a4 a6 lo wr h=>by
    obtain ⟨rfl,e1⟩:=ht h
    rw [e1] at h1 h2
    exact LQn (loop67 s hl r (i+1) _ _ _ _ _ _ (by omega) h1 h2)
   have stop:∀ a2 a3 a4 a6 lo J wr,okAt i c=false→Q .ret ⟨⟨[.str s,.bool false,a2,a3,a4,.ptr 0 0,a6],lo,J,[]⟩,wr⟩:=fun a2 a3 a4 a6 lo J wr h=>h2 (hf h) _ _ _ _ _ _ _
   repeat' first|(apply WO.nxT;rfl;omega;exact hd)|apply W.seq|apply SQn|apply W.region|apply WO.nil|apply W.block|apply W.ret|apply W.skip|apply BQn|apply BQr|apply LQr|(apply W.condT;rfl)|(apply W.condF;rfl)|(apply WO.gT;rfl)|(apply WO.gF;rfl)|(apply WO.sT;rfl)|(apply WO.sF;rfl)|(apply WO.sU;rfl)|(apply WO.lss;rfl;rfl;all_goals first|(intro _;exfalso;omega)|intro _)|(apply WO.leq;rfl;rfl;all_goals first|(intro _;exfalso;omega)|intro _)|(apply WO.gtr;rfl;rfl;all_goals first|(intro _;exfalso;omega)|intro _)|(apply WO.geq;rfl;rfl;all_goals first|(intro _;exfalso;omega)|intro _)|(apply WO.eql;rfl;rfl;all_goals first|(intro _;exfalso;omega)|intro _)|(apply WO.neq;rfl;rfl;all_goals first|(intro _;exfalso;omega)|intro _)|(apply WO.pkT;rfl;rfl)|(apply WO.pkF;rfl;rfl)|(apply WO.pl;rfl;rfl)|(apply WO.pp;rfl;rfl)
   all_goals first
    | exact go _ _ _ _ _ _ (okAt_iff.2 (by omega))
    | exact stop _ _ _ _ _ _ _ (okAt_no (by omega))
  by_cases hb:(s[i]!).toNat<128
  · exact step _ _ (dec_ascii (by omega) hb) (fun h=>⟨rfl,by rw [e,h,Bool.true_and]⟩) (fun h=>by rw [e,h,Bool.false_and])
  · obtain ⟨c,w,hd,hc⟩:=dec_other (s:=s) (i:=i) (by omega) hb
    refine step c w hd (fun h=>?_) (fun _=>?_)
    · rw [okAt_ge (by omega)] at h;cases h
    · rw [e,okAt_ge (by omega),Bool.false_and]
theorem w67 (hft:M.FT=FT) (s:Str) (hl:s.length<4611686018427387904):Run M 67 [.str s] [] ⟨.bool (isName s),[],[]⟩:=by
 refine run_of_W (by rw [hft];exact ft67) (by simp) ?_
 unfold b67
 simp only [enter]
 repeat' first|apply W.seq|apply SQn|apply W.region|apply WO.nil|apply W.block|(apply WO.hpv;rfl;rfl;rfl)|(apply WO.pl;rfl;rfl)|(apply WO.pp;rfl;rfl)
 refine loop67 s hl s.length 0 _ _ _ _ _ _ (by omega) (fun h a2 a3 a4 a6 lo J wr=>?_) (fun h a2 a3 a4 a6 lo J wr=>?_)
 · rw [List.drop_zero] at h
   repeat' first|apply W.seq|apply SQn|apply W.region|apply WO.nil|apply W.ret|apply BQe|(apply WO.gT;rfl)|(apply WO.sT;rfl)|(apply WO.leq;rfl;rfl;all_goals first|(intro _;exfalso;omega)|intro _)|(apply WO.gtr;rfl;rfl;all_goals first|(intro _;exfalso;omega)|intro _)|(apply WO.pkT;rfl;rfl)|(apply WO.pkF;rfl;rfl)|(apply WO.pl;rfl;rfl)|(apply WO.pp;rfl;rfl)
   all_goals exact ⟨.inr rfl,rfl,_,rfl,congrArg AV.bool (by simp [isName, *] <;> omega),rfl⟩
 · rw [List.drop_zero] at h
   repeat' first|apply SQr|apply BQr
   exact ⟨.inr rfl,rfl,_,rfl,congrArg AV.bool (by simp [isName,h]),rfl⟩
theorem loop186 (l:List Str) (x:Str) (cap:Option Nat) (hl:l.length<4611686018427387904) {Q:Ex→StW→Prop}:∀ (r i:Nat),i+r=l.length→∀ (a2 a3:AV) (lo:List (Nat×AV)) (wr:List Nat),
 (indexOf x (l.drop i) i = -1→∀ a3 lo wr,Q (.exit 0) ⟨⟨[.vs (strs l) l.length cap,.str x,a2,a3,.int .i64 l.length,.int .i64 l.length],lo,[],[]⟩,wr⟩) →
 (∀ a3 a5 lo wr,Q .ret ⟨⟨[.vs (strs l) l.length cap,.str x,.int .i64 (indexOf x (l.drop i) i),a3,.int .i64 l.length,a5],lo,[],[]⟩,wr⟩) →
 W M (.loop b186_0) ⟨⟨[.vs (strs l) l.length cap,.str x,a2,a3,.int .i64 l.length,.int .i64 i],lo,[],[]⟩,wr⟩ Q
 | 0,i,hi,a2,a3,lo,wr,h1,h2=>by
  obtain rfl:i=l.length:=by omega
  refine W.loop ?_
  unfold b186_0
  repeat' first|apply W.seq|apply SQn|apply W.region|apply WO.nil|apply W.exit|apply SQe|apply LQe|(apply W.condF;rfl)|(apply WO.lss;rfl;rfl;all_goals first|(intro _;exfalso;omega)|intro _)
  exact h1 (by simp [indexOf]) _ _ _
 | r+1,i,hi,a2,a3,lo,wr,h1,h2=>by
  have e:=indexOf_drop (x:=x) (l:=l) (i:=(i:Int).toNat) (by omega)
  rw [Int.toNat_natCast] at e
  refine W.loop ?_
  unfold b186_0
  repeat' first|apply W.seq|apply SQn|apply W.region|apply WO.nil|apply W.block|apply W.ret|apply W.skip|apply SQr|apply BQn|apply BQr|apply LQr|(apply W.condT;rfl)|(apply W.condF;rfl)|(apply WO.lss;rfl;rfl;all_goals first|(intro _;exfalso;omega)|intro _)|(apply WO.add;rfl;rfl;omega)|(apply WO.iav;rfl;rfl;omega)|(apply WO.lda;rfl;exact fun _=>rfl;(first|omega|(simp only [List.length_set];omega)|(simp;omega));decide;rfl;case ia=>infer_instance)|(apply WO.seql;rfl;rfl;all_goals first|(intro h;exact absurd h (by decide))|(intro h;exact absurd rfl h)|(intro h;contradiction)|intro _)|(apply WO.pl;rfl;rfl)|(apply WO.pp;rfl;rfl)
  · rename_i he
    rw [Int.toNat_natCast] at he
    rw [if_pos he] at e
    rw [e] at h2
    exact h2 _ _ _ _
  · rename_i he
    rw [Int.toNat_natCast] at he
    rw [if_neg he] at e
    rw [e] at h1 h2
    exact LQn (loop186 l x cap hl r (i+1) (by omega) _ _ _ _ h1 h2)
theorem w186 (hft:M.FT=FT) (l:List Str) (x:Str) (cap:Option Nat) (hl:l.length<4611686018427387904):Run M 186 [.vs (strs l) l.length cap,.str x] [] ⟨.int .i64 (indexOf x l 0),[],[]⟩:=by
 refine run_of_W (by rw [hft];exact ft186) (by simp) ?_
 unfold b186
 simp only [enter]
 repeat' first|apply W.seq|apply SQn|apply W.region|apply WO.nil|apply W.block|(apply WO.pl;rfl;rfl)|(apply WO.pp;rfl;rfl)
 refine loop186 l x cap hl l.length 0 (by omega) _ _ _ _ (fun h a2 lo wr=>?_) (fun a2 a5 lo wr=>?_)
 · repeat' first|apply W.seq|apply SQn|apply W.region|apply WO.nil|apply W.ret|apply BQe|(apply WO.pp;rfl;rfl)
   exact ⟨.inr rfl,rfl,_,rfl,by rw [List.drop_zero] at h;rw [h];rfl,rfl⟩
 · repeat' first|apply SQr|apply BQr
   exact ⟨.inr rfl,rfl,_,rfl,rfl,rfl⟩
theorem w126 (hft:M.FT=FT) (c186:∀ l cap x h,l.length<4611686018427387904→M.ext 186 [.vs (strs l) l.length cap,.str x] h=some ⟨.int .i64 (indexOf x l 0),h,[]⟩) (l:List Str) (x:Str) (cap:Option Nat) (hl:l.length<4611686018427387904):Run M 126 [.vs (strs l) l.length cap,.str x] [] ⟨.bool (decide (x∈l)),[],[]⟩:=by
 have hi:=fun h=>c186 l cap x h hl
 refine run_of_W (by rw [hft];exact ft126) (by simp) ?_
 unfold b126
 simp only [enter]
 have hm:=indexOf_mem (x:=x) l 0
 repeat' first|apply W.seq|apply SQn|apply W.region|apply WO.nil|apply W.ret|(apply WO.geq;rfl;rfl;all_goals first|(intro _;exfalso;omega)|intro _)|(apply WO.cll;rfl;rfl;first|exact hi _)|(apply WO.pl;rfl;rfl)|(apply WO.pp;rfl;rfl)
 all_goals refine ⟨.inr rfl,rfl,_,rfl,?_,rfl⟩
 all_goals rw [← hm]
 · rename_i h;rw [decide_eq_true h];rfl
 · rename_i h;rw [decide_eq_false (by omega)];rfl
theorem w64 (hft:M.FT=FT) (t:Bool) (e:Int):Run M 64 [.bool t,.int .i64 e] [] ⟨.int .i64 (if t then e else 0),[],[]⟩:=by
 refine run_of_W (by rw [hft];exact ft64) (by simp) ?_
 unfold b64
 simp only [enter]
 cases t
 all_goals
  repeat' first|apply W.seq|apply SQn|apply W.region|apply WO.nil|apply W.ret|apply W.skip|apply SQr|(apply W.condT;rfl)|(apply W.condF;rfl)|(apply WO.pl;rfl;rfl)|(apply WO.pp;rfl;rfl)
 all_goals exact ⟨.inr rfl,rfl,_,rfl,rfl,rfl⟩
theorem w63 (hft:M.FT=FT) (h91:∀ t e h,M.ext 64 [.bool t,.int .i64 e] h=some ⟨.int .i64 (if t then e else 0),h,[]⟩) (x lo hi:Int):Run M 63 [.int .i64 x,.int .i64 lo,.int .i64 hi] [] ⟨.int .i64 (if outI x lo hi then 3 else 0),[],[]⟩:=by
 have q1:=h91 true 3
 have q2:=h91 false 3
 refine run_of_W (by rw [hft];exact ft63) (by simp) ?_
 unfold b63
 simp only [enter]
 repeat' first|apply W.seq|apply SQn|apply W.region|apply WO.nil|apply W.ret|(apply WO.gF;rfl)|(apply WO.sF;rfl)|(apply WO.lss;rfl;rfl;all_goals first|(intro _;exfalso;omega)|intro _)|(apply WO.gtr;rfl;rfl;all_goals first|(intro _;exfalso;omega)|intro _)|(apply WO.pkT;rfl;rfl)|(apply WO.pkF;rfl;rfl)|(apply WO.cll;rfl;rfl;first|exact q1 _|exact q2 _)|(apply WO.pl;rfl;rfl)|(apply WO.pp;rfl;rfl)
 all_goals exact ⟨.inr rfl,rfl,_,rfl,congrArg (AV.int .i64) (by simp_all [outI]),rfl⟩
theorem loop61 (l:List Int) (hl:l.length<4611686018427387904) {Q:Ex→StW→Prop}:∀ (r i:Nat) (a2:AV) (lo:List (Nat×AV)) (wr:List Nat),i+r=l.length →
 (firstNZ (l.drop i)=0→∀ a2 lo wr,Q (.exit 0) ⟨⟨[.vs (ints l) l.length cap,.int .i64 0,a2,.vs (ints l) l.length cap,.int .i64 l.length,.int .i64 l.length],lo,[],[]⟩,wr⟩) →
 (∀ a2 a5 lo wr,Q .ret ⟨⟨[.vs (ints l) l.length cap,.int .i64 (firstNZ (l.drop i)),a2,.vs (ints l) l.length cap,.int .i64 l.length,a5],lo,[],[]⟩,wr⟩) →
 W M (.loop b61_0) ⟨⟨[.vs (ints l) l.length cap,.int .i64 0,a2,.vs (ints l) l.length cap,.int .i64 l.length,.int .i64 i],lo,[],[]⟩,wr⟩ Q
 | 0,i,a2,lo,wr,hi,h1,h2=>by
  obtain rfl:i=l.length:=by omega
  refine W.loop ?_
  unfold b61_0
  repeat' first|apply W.seq|apply SQn|apply W.region|apply WO.nil|apply W.exit|apply SQe|apply LQe|(apply W.condF;rfl)|(apply WO.lss;rfl;rfl;all_goals first|(intro _;exfalso;omega)|intro _)
  exact h1 (by simp [firstNZ]) _ _ _
 | r+1,i,a2,lo,wr,hi,h1,h2=>by
  have e:=firstNZ_drop (l:=l) (i:=(i:Int).toNat) (by omega)
  rw [Int.toNat_natCast] at e
  refine W.loop ?_
  unfold b61_0
  repeat' first|apply W.seq|apply SQn|apply W.region|apply WO.nil|apply W.block|apply W.ret|apply W.skip|apply SQr|apply BQn|apply BQr|apply LQr|(apply W.condT;rfl)|(apply W.condF;rfl)|(apply WO.lss;rfl;rfl;all_goals first|(intro _;exfalso;omega)|intro _)|(apply WO.neq;rfl;rfl;all_goals first|(intro _;exfalso;omega)|intro _)|(apply WO.add;rfl;rfl;omega)|(apply WO.iav;rfl;rfl;omega)|(apply WO.lda;rfl;exact fun _=>rfl;(first|omega|(simp only [List.length_set];omega)|(simp;omega));decide;rfl;case ia=>infer_instance)|(apply WO.pl;rfl;rfl)|(apply WO.pp;rfl;rfl)
  · rename_i he
    rw [Int.toNat_natCast] at he
    rw [if_neg he] at e
    rw [e] at h2
    exact h2 _ _ _ _
  · rename_i he
    rw [Int.toNat_natCast] at he
    rw [if_pos he] at e
    rw [e] at h1 h2
    exact LQn (loop61 l hl r (i+1) _ _ _ (by omega) h1 h2)
theorem w61 (hft:M.FT=FT) (l:List Int) (hl:l.length<4611686018427387904):Run M 61 [.vs (ints l) l.length cap] [] ⟨.int .i64 (firstNZ l),[],[]⟩:=by
 refine run_of_W (by rw [hft];exact ft61) (by simp) ?_
 unfold b61
 simp only [enter]
 repeat' first|apply W.seq|apply SQn|apply W.region|apply WO.nil|apply W.block|(apply WO.pp;rfl;rfl)
 refine loop61 l hl l.length 0 _ _ _ (by omega) (fun h a2 lo wr=>?_) (fun a2 a5 lo wr=>?_)
 · repeat' first|apply W.seq|apply SQn|apply W.region|apply WO.nil|apply W.ret|apply BQe|(apply WO.pp;rfl;rfl)
   exact ⟨.inr rfl,rfl,_,rfl,by rw [List.drop_zero] at h;rw [h];rfl,rfl⟩
 · repeat' first|apply SQr|apply BQr
   exact ⟨.inr rfl,rfl,_,rfl,rfl,rfl⟩
end Go.Ab.Ch6

/-
  Own work: chapter 6: names of a list, one by one.
-/
namespace Go.Ab.Ch6
variable {M:Mach} {cap:Option Nat}
theorem loop68 (s:Str) (hl:s.length<1000000) {Q:Ex→StW→Prop}:∀ (r i:Nat) (a3 a4:AV) (lo:List (Nat×AV)),i+r=s.length →
 (nameB (s.drop i) i=true→∀ a3 a4 lo,Q (.exit 0) ⟨⟨[.str s,.bool false,.int .i64 s.length,a3,a4],lo,[],[]⟩,[]⟩) →
 (nameB (s.drop i) i=false→∀ a2 a3 a4 lo,Q .ret ⟨⟨[.str s,.bool false,a2,a3,a4],lo,[],[]⟩,[]⟩) →
 W M (.loop b68_0) ⟨⟨[.str s,.bool false,.int .i64 i,a3,a4],lo,[],[]⟩,[]⟩ Q
 | 0,i,a3,a4,lo,hi,h1,h2=>by
  obtain rfl:i=s.length:=by omega
  refine W.loop ?_
  unfold b68_0
  repeat' first|apply W.seq|apply SQn|apply W.region|apply WO.nil|apply W.exit|apply SQe|apply LQe|(apply W.condF;rfl)|(apply WO.lss;rfl;rfl;all_goals first|(intro _;exfalso;omega)|intro _)|(apply WO.pl;rfl;rfl)
  exact h1 (by simp [nameB]) _ _ _
 | r+1,i,a3,a4,lo,hi,h1,h2=>by
  have e:=nameB_drop (s:=s) (i:=i) (by omega)
  have ei:((i:Int)).toNat=i:=by omega
  have hc:=(s[i]!).toNat_lt
  have go:∀ a3 a4 lo,okAt i (s[i]!).toNat=true→LQ M b68_0 Q .normal ⟨⟨[.str s,.bool false,.int .i64 ((i:Int)+1),a3,a4],lo,[],[]⟩,[]⟩:=fun a3 a4 lo h=>by
   rw [e,h,Bool.true_and] at h1 h2
   exact LQn (loop68 s hl r (i+1) _ _ _ (by omega) h1 h2)
  have stop:∀ a3 a4 lo,okAt i (s[i]!).toNat=false→Q .ret ⟨⟨[.str s,.bool false,.int .i64 i,a3,a4],lo,[],[]⟩,[]⟩:=fun a3 a4 lo h=>h2 (by rw [e,h,Bool.false_and]) _ _ _ _
  have hv:(St.mk [.str s] [] [] []).opd (.p 0)=some (.str s):=rfl
  refine W.loop ?_
  unfold b68_0
  rw [← ei] at go stop
  repeat' first|apply W.seq|apply SQn|apply W.region|apply WO.nil|apply W.block|apply W.ret|apply W.skip|apply SQr|apply BQn|apply BQr|apply LQr|(apply W.condT;rfl)|(apply W.condF;rfl)|(apply WO.gT;rfl)|(apply WO.gF;rfl)|(apply WO.sT;rfl)|(apply WO.sF;rfl)|(apply WO.sU;rfl)|(apply WO.lss;rfl;rfl;all_goals first|(intro _;exfalso;omega)|intro _)|(apply WO.leq;rfl;rfl;all_goals first|(intro _;exfalso;omega)|intro _)|(apply WO.geq;rfl;rfl;all_goals first|(intro _;exfalso;omega)|intro _)|(apply WO.eql;rfl;rfl;all_goals first|(intro _;exfalso;omega)|intro _)|(apply WO.pkT;rfl;rfl)|(apply WO.pkF;rfl;rfl)|(apply WO.add;rfl;rfl;omega)|(apply WO.idx;rfl;rfl;omega)|(apply WO.pl;rfl;rfl)|(apply WO.pp;rfl;rfl)
  all_goals first
   | exact go _ _ _ (okAt_iff.2 (by omega))
   | exact stop _ _ _ (okAt_no (by omega))
theorem w68 (hft:M.FT=FT) (s:Str) (hl:s.length<1000000):Run M 68 [.str s] [] ⟨.bool (isName s),[],[]⟩:=by
 refine run_of_W (by rw [hft];exact ft68) (by simp) ?_
 unfold b68
 simp only [enter]
 by_cases hb:s.length<1∨24<s.length
 · repeat' first|apply W.seq|apply SQn|apply W.region|apply WO.nil|apply W.ret|apply SQr|(apply W.condT;rfl)|(apply WO.gF;rfl)|(apply WO.sF;rfl)|(apply WO.lss;rfl;rfl;all_goals first|(intro _;exfalso;omega)|intro _)|(apply WO.gtr;rfl;rfl;all_goals first|(intro _;exfalso;omega)|intro _)|(apply WO.pkT;rfl;rfl)|(apply WO.pkF;rfl;rfl)|(apply WO.pl;rfl;rfl)|(apply WO.pp;rfl;rfl)
   all_goals exact ⟨.inr rfl,rfl,_,rfl,congrArg AV.bool (by simp [isName];omega),rfl⟩
 · repeat' first|apply W.seq|apply SQn|apply W.region|apply WO.nil|apply W.block|apply W.skip|(apply W.condF;rfl)|(apply WO.gF;rfl)|(apply WO.lss;rfl;rfl;all_goals first|(intro _;exfalso;omega)|intro _)|(apply WO.gtr;rfl;rfl;all_goals first|(intro _;exfalso;omega)|intro _)|(apply WO.pkF;rfl;rfl)|(apply WO.pl;rfl;rfl)|(apply WO.pp;rfl;rfl)
   refine loop68 s hl s.length 0 _ _ _ (by omega) (fun h a3 a4 lo=>?_) (fun h a2 a3 a4 lo=>?_)
   · rw [List.drop_zero] at h
     repeat' first|apply W.seq|apply SQn|apply W.region|apply WO.nil|apply W.ret|apply BQe|(apply WO.pp;rfl;rfl)
     exact ⟨.inr rfl,rfl,_,rfl,congrArg AV.bool (by simp [isName,h];omega),rfl⟩
   · rw [List.drop_zero] at h
     repeat' first|apply SQr|apply BQr
     exact ⟨.inr rfl,rfl,_,rfl,congrArg AV.bool (by simp [isName,h]),rfl⟩
theorem take_drop_mem {l:List Str} {i k:Nat} {x:Str} (hi:i≤l.length) (h:k<i):(x∈(l.take i).drop k)=(l[k]! = x∨x∈(l.take i).drop (k+1)):=by
 have hk:k<(l.take i).length:=by rw [List.length_take];omega
 rw [List.drop_eq_getElem_cons hk,List.mem_cons,List.getElem_take,getElem!_pos l k (by omega)]
 exact propext ⟨fun h=>h.imp Eq.symm id,fun h=>h.imp Eq.symm id⟩
theorem loop73 (l:List Str) (hl:l.length<1000000) (i:Nat) (hi:i<l.length) {Q:Ex→StW→Prop}:∀ (r k:Nat) (lo:List (Nat×AV)) (wr:List Nat),k+r=i →
 (l[i]! ∉ (l.take i).drop k→∀ a3 lo wr,Q (.exit 0) ⟨⟨[.vs (strs l) l.length cap,.int .i64 i,.int .i64 0,a3],lo,[],[]⟩,wr⟩) →
 (l[i]! ∈ (l.take i).drop k→∀ a3 lo wr,Q .ret ⟨⟨[.vs (strs l) l.length cap,.int .i64 i,.int .i64 9,a3],lo,[],[]⟩,wr⟩) →
 W M (.loop b73_0) ⟨⟨[.vs (strs l) l.length cap,.int .i64 i,.int .i64 0,.int .i64 k],lo,[],[]⟩,wr⟩ Q
 | 0,k,lo,wr,hk,h1,h2=>by
  obtain rfl:k=i:=by omega
  refine W.loop ?_
  unfold b73_0
  repeat' first|apply W.seq|apply SQn|apply W.region|apply WO.nil|apply W.exit|apply SQe|apply LQe|(apply W.condF;rfl)|(apply WO.lss;rfl;rfl;all_goals first|(intro _;exfalso;omega)|intro _)|(apply WO.pl;rfl;rfl)
  exact h1 (by rw [List.drop_eq_nil_of_le (by rw [List.length_take];omega)];simp) _ _ _
 | r+1,k,lo,wr,hk,h1,h2=>by
  have e:=take_drop_mem (l:=l) (i:=i) (k:=k) (x:=l[i]!) (by omega) (by omega)
  have ei:((i:Int)).toNat=i:=by omega
  have ek:((k:Int)).toNat=k:=by omega
  rw [e] at h1 h2
  refine W.loop ?_
  unfold b73_0
  by_cases he:l[k]! = l[i]!
  · repeat' first|apply W.seq|apply SQn|apply W.region|apply WO.nil|apply W.block|apply W.ret|apply W.skip|apply SQr|apply BQr|apply LQr|(apply W.drawro;rfl)|(apply W.condT;rfl)|(apply WO.lss;rfl;rfl;all_goals first|(intro _;exfalso;omega)|intro _)|(apply WO.iav;rfl;rfl;omega)|(apply WO.lda;rfl;exact fun _=>rfl;(first|omega|(simp only [List.length_set];omega)|(simp;omega));decide;rfl;case ia=>infer_instance)|(apply WO.seql;rfl;rfl;all_goals first|(intro h;exact absurd h (by decide))|(intro h;exact absurd rfl h)|(intro h;contradiction)|intro _)|(apply WO.pl;rfl;rfl)|(apply WO.pp;rfl;rfl)
    exact h2 (.inl he) _ _ _
  · repeat' first|apply W.seq|apply SQn|apply W.region|apply WO.nil|apply W.block|apply W.skip|apply BQn|(apply W.drawro;rfl)|(apply W.condT;rfl)|(apply W.condF;rfl)|(apply WO.lss;rfl;rfl;all_goals first|(intro _;exfalso;omega)|intro _)|(apply WO.add;rfl;rfl;omega)|(apply WO.iav;rfl;rfl;omega)|(apply WO.lda;rfl;exact fun _=>rfl;(first|omega|(simp only [List.length_set];omega)|(simp;omega));decide;rfl;case ia=>infer_instance)|(apply WO.seql;rfl;rfl;all_goals first|(intro h;exact absurd h (by decide))|(intro h;exact absurd rfl h)|(intro h;contradiction)|intro _)|(apply WO.pl;rfl;rfl)|(apply WO.pp;rfl;rfl)
    exact LQn (loop73 l hl i hi r (k+1) _ _ (by omega) (fun h=>h1 (fun h'=>h'.elim he h)) (fun h=>h2 (.inr h)))
theorem w73 (hft:M.FT=FT) (c68:∀ (s:Str) h,s.length<1000000→M.ext 68 [.str s] h=some ⟨.bool (isName s),h,[]⟩) (l:List Str) (hl:l.length<1000000) (hL:∀ s∈l,s.length<1000000) (i:Nat) (hi:i<l.length) :
 Run M 73 [.vs (strs l) l.length cap,.int .i64 i] [] ⟨.int .i64 (nameE l i),[],[]⟩:=by
 have ei:((i:Int)).toNat=i:=by omega
 have q:=fun h=>c68 l[((i:Int)).toNat]! h (by rw [ei];exact hL _ (by rw [getElem!_pos l i hi];exact List.getElem_mem hi))
 refine run_of_W (by rw [hft];exact ft73) (by simp) ?_
 unfold b73
 simp only [enter]
 cases hn:isName l[((i:Int)).toNat]!
 · rw [hn] at q
   repeat' first|apply W.seq|apply SQn|apply W.region|apply WO.nil|apply W.ret|apply SQr|(apply W.condT;rfl)|(apply WO.cll;rfl;rfl;first|exact q _)|(apply WO.iav;rfl;rfl;omega)|(apply WO.lda;rfl;exact fun _=>rfl;(first|omega|(simp only [List.length_set];omega)|(simp;omega));decide;rfl;case ia=>infer_instance)|(apply WO.pl;rfl;rfl)|(apply WO.pp;rfl;rfl)
   exact ⟨.inr rfl,rfl,_,rfl,by rw [ei] at hn;rw [nameE,if_pos hn];rfl,rfl⟩
 · rw [hn] at q
   repeat' first|apply W.seq|apply SQn|apply W.region|apply WO.nil|apply W.block|apply W.skip|(apply W.condF;rfl)|(apply WO.cll;rfl;rfl;first|exact q _)|(apply WO.iav;rfl;rfl;omega)|(apply WO.lda;rfl;exact fun _=>rfl;(first|omega|(simp only [List.length_set];omega)|(simp;omega));decide;rfl;case ia=>infer_instance)|(apply WO.pl;rfl;rfl)|(apply WO.pp;rfl;rfl)
   rw [ei] at hn
   refine loop73 l hl i hi i 0 _ _ (by omega) (fun h a3 lo wr=>?_) (fun h a3 lo wr=>?_)
   · rw [List.drop_zero] at h
     repeat' first|apply W.seq|apply SQn|apply W.region|apply WO.nil|apply W.ret|apply BQe|(apply WO.pp;rfl;rfl)
     exact ⟨.inr rfl,rfl,_,rfl,by rw [nameE,if_neg (by rw [hn];decide),if_neg h];rfl,rfl⟩
   · rw [List.drop_zero] at h
     repeat' first|apply SQr|apply BQr
     exact ⟨.inr rfl,rfl,_,rfl,by rw [nameE,if_neg (by rw [hn];decide),if_pos h];rfl,rfl⟩
theorem loop65 (c73:∀ (l:List Str) cap (i:Nat) h,l.length<1000000→(∀ s∈l,s.length<1000000)→i<l.length→M.ext 73 [.vs (strs l) l.length cap,.int .i64 i] h=some ⟨.int .i64 (nameE l i),h,[]⟩) (l:List Str) (hl:l.length<1000000) (hL:∀ s∈l,s.length<1000000) {Q:Ex→StW→Prop}:∀ (r i:Nat) (a3:AV) (lo:List (Nat×AV)) (wr:List Nat),i+r=l.length →
 (namesE l r i=0→∀ a2 a3 lo wr,Q (.exit 0) ⟨⟨[.vs (strs l) l.length cap,.int .i64 0,a2,a3],lo,[],[]⟩,wr⟩) →
 (namesE l r i≠0→∀ a2 a3 lo wr,Q .ret ⟨⟨[.vs (strs l) l.length cap,.int .i64 (namesE l r i),a2,a3],lo,[],[]⟩,wr⟩) →
 W M (.loop b65_0) ⟨⟨[.vs (strs l) l.length cap,.int .i64 0,.int .i64 i,a3],lo,[],[]⟩,wr⟩ Q
 | 0,i,a3,lo,wr,hi,h1,h2=>by
  obtain rfl:i=l.length:=by omega
  refine W.loop ?_
  unfold b65_0
  repeat' first|apply W.seq|apply SQn|apply W.region|apply WO.nil|apply W.exit|apply SQe|apply LQe|(apply W.condF;rfl)|(apply WO.lss;rfl;rfl;all_goals first|(intro _;exfalso;omega)|intro _)|(apply WO.pl;rfl;rfl)
  exact h1 rfl _ _ _ _
 | r+1,i,a3,lo,wr,hi,h1,h2=>by
  have q:=fun h=>c73 l cap i h hl hL (by omega)
  have e:namesE l (r+1) i=if nameE l i=0 then namesE l r (i+1) else nameE l i:=rfl
  refine W.loop ?_
  unfold b65_0
  by_cases hn:nameE l i=0
  · rw [hn] at q
    rw [if_pos hn] at e
    rw [e] at h1 h2
    repeat' first|apply W.seq|apply SQn|apply W.region|apply WO.nil|apply W.block|apply W.skip|apply BQn|(apply W.condT;rfl)|(apply W.condF;rfl)|(apply WO.lss;rfl;rfl;all_goals first|(intro _;exfalso;omega)|intro _)|(apply WO.neq;rfl;rfl;all_goals first|(intro _;exfalso;omega)|intro _)|(apply WO.add;rfl;rfl;omega)|(apply WO.cll;rfl;rfl;first|exact q _)|(apply WO.pl;rfl;rfl)|(apply WO.pp;rfl;rfl)
    exact LQn (loop65 c73 l hl hL r (i+1) _ _ _ (by omega) h1 h2)
  · rw [if_neg hn] at e
    rw [e] at h1 h2
    generalize nameE l i=z at *
    repeat' first|apply W.seq|apply SQn|apply W.region|apply WO.nil|apply W.block|apply W.ret|apply W.skip|apply SQr|apply BQr|apply LQr|(apply W.condT;rfl)|(apply WO.lss;rfl;rfl;all_goals first|(intro _;exfalso;omega)|intro _)|(apply WO.neq;rfl;rfl;all_goals first|(intro _;exfalso;omega)|intro _)|(apply WO.cll;rfl;rfl;first|exact q _)|(apply WO.pl;rfl;rfl)|(apply WO.pp;rfl;rfl)
    exact h2 hn _ _ _ _
theorem w65 (hft:M.FT=FT) (c73:∀ (l:List Str) cap (i:Nat) h,l.length<1000000→(∀ s∈l,s.length<1000000)→i<l.length→M.ext 73 [.vs (strs l) l.length cap,.int .i64 i] h=some ⟨.int .i64 (nameE l i),h,[]⟩) (l:List Str) (hl:l.length<1000000) (hL:∀ s∈l,s.length<1000000) :
 Run M 65 [.vs (strs l) l.length cap] [] ⟨.int .i64 (athE l),[],[]⟩:=by
 refine run_of_W (by rw [hft];exact ft65) (by simp) ?_
 unfold b65
 simp only [enter]
 by_cases h0:l.length=0
 · repeat' first|apply W.seq|apply SQn|apply W.region|apply WO.nil|apply W.ret|apply SQr|(apply W.condT;rfl)|(apply WO.eql;rfl;rfl;all_goals first|(intro _;exfalso;omega)|intro _)|(apply WO.pl;rfl;rfl)|(apply WO.pp;rfl;rfl)
   exact ⟨.inr rfl,rfl,_,rfl,by rw [athE,if_pos h0];rfl,rfl⟩
 by_cases h32:32<l.length
 · repeat' first|apply W.seq|apply SQn|apply W.region|apply WO.nil|apply W.ret|apply W.skip|apply SQr|(apply W.condT;rfl)|(apply W.condF;rfl)|(apply WO.gtr;rfl;rfl;all_goals first|(intro _;exfalso;omega)|intro _)|(apply WO.eql;rfl;rfl;all_goals first|(intro _;exfalso;omega)|intro _)|(apply WO.pl;rfl;rfl)|(apply WO.pp;rfl;rfl)
   exact ⟨.inr rfl,rfl,_,rfl,by rw [athE,if_neg h0,if_pos h32];rfl,rfl⟩
 · repeat' first|apply W.seq|apply SQn|apply W.region|apply WO.nil|apply W.block|apply W.skip|(apply W.condF;rfl)|(apply WO.gtr;rfl;rfl;all_goals first|(intro _;exfalso;omega)|intro _)|(apply WO.eql;rfl;rfl;all_goals first|(intro _;exfalso;omega)|intro _)|(apply WO.pl;rfl;rfl)|(apply WO.pp;rfl;rfl)
   refine loop65 c73 l hl hL l.length 0 _ _ _ (by omega) (fun h a2 a3 lo wr=>?_) (fun h a2 a3 lo wr=>?_)
   · repeat' first|apply W.seq|apply SQn|apply W.region|apply WO.nil|apply W.ret|apply BQe|(apply WO.pp;rfl;rfl)
     exact ⟨.inr rfl,rfl,_,rfl,by rw [athE,if_neg h0,if_neg h32,h];rfl,rfl⟩
   · repeat' first|apply SQr|apply BQr
     exact ⟨.inr rfl,rfl,_,rfl,by rw [athE,if_neg h0,if_neg h32];rfl,rfl⟩
end Go.Ab.Ch6

/-
  Own work: chapter 6: names of a list by the program; contests.
-/
namespace Go.Ab.Ch6
variable {M:Mach} {cap:Option Nat}
structure CF (M:Mach):Prop where
 ft:M.FT=FT
 c64:∀ t e h,M.ext 64 [.bool t,.int .i64 e] h=some ⟨.int .i64 (if t then e else 0),h,[]⟩
 c63:∀ x lo hi h,M.ext 63 [.int .i64 x,.int .i64 lo,.int .i64 hi] h=some ⟨.int .i64 (if outI x lo hi then 3 else 0),h,[]⟩
 c61:∀ v l h,intsAt h v=some l→l.length<4611686018427387904→M.ext 61 [v] h=some ⟨.int .i64 (firstNZ l),h,[]⟩
theorem CF.q2 (C:CF M) (H:Heap) (a b:Int):M.ext 61 [.sl H.length 0 2 1 (some 2)] (H++[some (.cells [.int .i64 a,.int .i64 b] 30)])=some ⟨.int .i64 (firstNZ [a,b]),H++[some (.cells [.int .i64 a,.int .i64 b] 30)],[]⟩:=by
 have e:Heap.at (H++[some (.cells [.int .i64 a,.int .i64 b] 30)]) H.length=some (.cells (ints [a,b]) 30):=at_new
 exact C.c61 _ [a,b] _ (ints_at e rfl) (by simp)
theorem CF.q3 (C:CF M) (H:Heap) (a b c:Int):M.ext 61 [.sl H.length 0 3 1 (some 3)] (H++[some (.cells [.int .i64 a,.int .i64 b,.int .i64 c] 30)])=some ⟨.int .i64 (firstNZ [a,b,c]),H++[some (.cells [.int .i64 a,.int .i64 b,.int .i64 c] 30)],[]⟩:=by
 have e:Heap.at (H++[some (.cells [.int .i64 a,.int .i64 b,.int .i64 c] 30)]) H.length=some (.cells (ints [a,b,c]) 30):=at_new
 exact C.c61 _ [a,b,c] _ (ints_at e rfl) (by simp)
theorem nameE_first (l:List Str) (i:Nat):firstNZ [if (!isName l[i]!)=true then 8 else 0,if decide (l[i]! ∈ l.take i)=true then 9 else 0]=nameE l i:=by
 unfold nameE
 cases isName l[i]!
 · simp [firstNZ]
 · by_cases h:l[i]! ∈ l.take i
   · rw [decide_eq_true h,if_pos h];simp [firstNZ]
   · rw [decide_eq_false h,if_neg h];simp [firstNZ]
theorem w76 (C:CF M) (c67:∀ (s:Str) h,s.length<1000000→M.ext 67 [.str s] h=some ⟨.bool (isName s),h,[]⟩) (c126:∀ (l:List Str) x cap h,l.length<1000000→M.ext 126 [.vs (strs l) l.length cap,.str x] h=some ⟨.bool (decide (x∈l)),h,[]⟩) (l:List Str) (hl:l.length<1000000) (hL:∀ s∈l,s.length<1000000) (i:Nat) (hi:i<l.length) :
 Run M 76 [.vs (strs l) l.length cap,.int .i64 i] [] ⟨.int .i64 (nameE l i),[],[]⟩:=by
 have ei:((i:Int)).toNat=i:=by omega
 have q67:=fun h=>c67 l[((i:Int)).toNat]! h (by rw [ei];exact hL _ (by rw [getElem!_pos l i hi];exact List.getElem_mem hi))
 have q126:=fun h=>c126 (l.take ((i:Int)).toNat) l[((i:Int)).toNat]! cap h (by rw [List.length_take];omega)
 have q61:=fun a b=>C.q2 [] a b
 have hf:=nameE_first l ((i:Int)).toNat
 rw [show nameE l i=nameE l ((i:Int)).toNat from by rw [ei]]
 rw [← hf]
 refine run_of_W (by rw [C.ft];exact ft76) (by simp) ?_
 unfold b76
 simp only [enter]
 repeat' first|(apply WO.slv (f:=fun x=>[AV.str x]);rfl;rfl;exact fun _=>rfl;omega)|apply W.seq|apply SQn|apply W.region|apply WO.nil|apply W.ret|apply W.draw|apply WD.nil|(apply WD.pure1;rfl)|(apply WD.load1;rfl;rfl;(first|(simp only [List.nil_append,List.cons_append];rfl)|rfl))|(apply WD.new1;rfl)|(apply WD.cl0;rfl;rfl;(first|(simp only [List.nil_append,List.cons_append];rfl)|rfl);first|exact q67 _|exact q126 _|exact C.c64 _ _ _|exact q61 _ _)|(apply WO.iav;rfl;rfl;omega)|(apply WO.lda;rfl;exact fun _=>rfl;(first|omega|(simp only [List.length_set];omega)|(simp;omega));decide;rfl;case ia=>infer_instance)|(apply WO.hlv;rfl;rfl;rfl)|(apply WO.pl;rfl;rfl)|(apply WO.pp;rfl;rfl)
 all_goals exact ⟨.inr rfl,rfl,_,rfl,rfl,rfl⟩
theorem loop62 (c76:∀ (l:List Str) cap (i:Nat) h,l.length<1000000→(∀ s∈l,s.length<1000000)→i<l.length→M.ext 76 [.vs (strs l) l.length cap,.int .i64 i] h=some ⟨.int .i64 (nameE l i),h,[]⟩) (l:List Str) (hl:l.length<1000000) (hL:∀ s∈l,s.length<1000000) (hp:Heap) {Q:Ex→StW→Prop}:∀ (r i:Nat) (a2 a3 a4:AV) (lo:List (Nat×AV)) (wr:List Nat),i+r=l.length →
 (namesE l r i=0→∀ a2 a3 a4 lo wr,Q (.exit 0) ⟨⟨[.vs (strs l) l.length cap,.int .i64 0,a2,a3,a4,.int .i64 l.length,.int .i64 l.length],lo,hp,[]⟩,wr⟩) →
 (namesE l r i≠0→∀ a2 a3 a4 a6 lo wr,Q .ret ⟨⟨[.vs (strs l) l.length cap,.int .i64 (namesE l r i),a2,a3,a4,.int .i64 l.length,a6],lo,hp,[]⟩,wr⟩) →
 W M (.loop b62_0) ⟨⟨[.vs (strs l) l.length cap,.int .i64 0,a2,a3,a4,.int .i64 l.length,.int .i64 i],lo,hp,[]⟩,wr⟩ Q
 | 0,i,a2,a3,a4,lo,wr,hi,h1,h2=>by
  obtain rfl:i=l.length:=by omega
  refine W.loop ?_
  unfold b62_0
  repeat' first|apply W.seq|apply SQn|apply W.region|apply WO.nil|apply W.exit|apply SQe|apply LQe|(apply W.condF;rfl)|(apply WO.lss;rfl;rfl;all_goals first|(intro _;exfalso;omega)|intro _)
  exact h1 rfl _ _ _ _ _
 | r+1,i,a2,a3,a4,lo,wr,hi,h1,h2=>by
  have q:=fun h=>c76 l cap i h hl hL (by omega)
  have e:namesE l (r+1) i=if nameE l i=0 then namesE l r (i+1) else nameE l i:=rfl
  refine W.loop ?_
  unfold b62_0
  by_cases hn:nameE l i=0
  · rw [hn] at q
    rw [if_pos hn] at e
    rw [e] at h1 h2
    repeat' first|apply W.seq|apply SQn|apply W.region|apply WO.nil|apply W.block|apply W.skip|apply BQn|(apply W.condT;rfl)|(apply W.condF;rfl)|(apply WO.lss;rfl;rfl;all_goals first|(intro _;exfalso;omega)|intro _)|(apply WO.neq;rfl;rfl;all_goals first|(intro _;exfalso;omega)|intro _)|(apply WO.add;rfl;rfl;omega)|(apply WO.cll;rfl;rfl;first|exact q _)|(apply WO.pl;rfl;rfl)|(apply WO.pp;rfl;rfl)
    exact LQn (loop62 c76 l hl hL hp r (i+1) _ _ _ _ _ (by omega) h1 h2)
  · rw [if_neg hn] at e
    rw [e] at h1 h2
    generalize nameE l i=z at *
    repeat' first|apply W.seq|apply SQn|apply W.region|apply WO.nil|apply W.block|apply W.ret|apply W.skip|apply SQr|apply BQr|apply LQr|(apply W.condT;rfl)|(apply WO.lss;rfl;rfl;all_goals first|(intro _;exfalso;omega)|intro _)|(apply WO.neq;rfl;rfl;all_goals first|(intro _;exfalso;omega)|intro _)|(apply WO.cll;rfl;rfl;first|exact q _)|(apply WO.pl;rfl;rfl)|(apply WO.pp;rfl;rfl)
    exact h2 hn _ _ _ _ _ _
theorem w62 (C:CF M) (c76:∀ (l:List Str) cap (i:Nat) h,l.length<1000000→(∀ s∈l,s.length<1000000)→i<l.length→M.ext 76 [.vs (strs l) l.length cap,.int .i64 i] h=some ⟨.int .i64 (nameE l i),h,[]⟩) (l:List Str) (hl:l.length<1000000) (hL:∀ s∈l,s.length<1000000) :
 Run M 62 [.vs (strs l) l.length cap] [] ⟨.int .i64 (athE l),[],[]⟩:=by
 have lit:∀ a b c:Int,firstNZ [a,b]=c→M.ext 61 [.sl ([]:Heap).length 0 2 1 (some 2)] ([]++[some (.cells [.int .i64 a,.int .i64 b] 30)])=some ⟨.int .i64 c,[]++[some (.cells [.int .i64 a,.int .i64 b] 30)],[]⟩:=fun a b c h=>by rw [C.q2 [] a b,h]
 have q64:=C.c64
 refine run_of_W (by rw [C.ft];exact ft62) (by simp) ?_
 unfold b62
 simp only [enter]
 by_cases h0:l.length=0
 · repeat' first|apply W.seq|apply SQn|apply W.region|apply WO.nil|apply W.ret|apply SQr|(apply W.condT;rfl)|(apply WO.gtr;rfl;rfl;all_goals first|(intro _;exfalso;omega)|intro _)|(apply WO.eql;rfl;rfl;all_goals first|(intro _;exfalso;omega)|intro _)|(apply WO.neq;rfl;rfl;all_goals first|(intro _;exfalso;omega)|intro _)|(apply WO.cll;rfl;rfl;first|exact q64 true 12 _|exact q64 false 5 _|exact lit 12 0 12 rfl)|(apply WO.hlv;rfl;rfl;rfl)|(apply WO.pl;rfl;rfl)|(apply WO.pp;rfl;rfl)
   all_goals exact ⟨.inr rfl,rfl,_,rfl,by rw [athE,if_pos h0];rfl,rfl⟩
 by_cases h32:32<l.length
 · repeat' first|apply W.seq|apply SQn|apply W.region|apply WO.nil|apply W.ret|apply SQr|(apply W.condT;rfl)|(apply WO.gtr;rfl;rfl;all_goals first|(intro _;exfalso;omega)|intro _)|(apply WO.eql;rfl;rfl;all_goals first|(intro _;exfalso;omega)|intro _)|(apply WO.neq;rfl;rfl;all_goals first|(intro _;exfalso;omega)|intro _)|(apply WO.cll;rfl;rfl;first|exact q64 false 12 _|exact q64 true 5 _|exact lit 0 5 5 rfl)|(apply WO.hlv;rfl;rfl;rfl)|(apply WO.pl;rfl;rfl)|(apply WO.pp;rfl;rfl)
   all_goals exact ⟨.inr rfl,rfl,_,rfl,by rw [athE,if_neg h0,if_pos h32];rfl,rfl⟩
 · repeat' first|apply W.seq|apply SQn|apply W.region|apply WO.nil|apply W.block|apply W.skip|(apply W.condF;rfl)|(apply WO.gtr;rfl;rfl;all_goals first|(intro _;exfalso;omega)|intro _)|(apply WO.eql;rfl;rfl;all_goals first|(intro _;exfalso;omega)|intro _)|(apply WO.neq;rfl;rfl;all_goals first|(intro _;exfalso;omega)|intro _)|(apply WO.cll;rfl;rfl;first|exact q64 false 12 _|exact q64 false 5 _|exact lit 0 0 0 rfl)|(apply WO.hlv;rfl;rfl;rfl)|(apply WO.pl;rfl;rfl)|(apply WO.pp;rfl;rfl)
   all_goals first|(exfalso;omega)|skip
   refine loop62 c76 l hl hL _ l.length 0 _ _ _ _ _ (by omega) (fun h a2 a3 a4 lo wr=>?_) (fun h a2 a3 a4 a6 lo wr=>?_)
   · repeat' first|apply W.seq|apply SQn|apply W.region|apply WO.nil|apply W.ret|apply BQe|(apply WO.pp;rfl;rfl)
     exact ⟨.inr rfl,rfl,_,rfl,by rw [athE,if_neg h0,if_neg h32,h];rfl,rfl⟩
   · repeat' first|apply SQr|apply BQr
     exact ⟨.inr rfl,rfl,_,rfl,by rw [athE,if_neg h0,if_neg h32];rfl,rfl⟩
theorem all_dropN {l:List Str} {i:Nat} (h:i<l.length):(l.drop i).all (fun s=>decide (s.length≤40))=(decide (l[i]!.length≤40) && (l.drop (i+1)).all (fun s=>decide (s.length≤40))):=by
 rw [List.drop_eq_getElem_cons h,getElem!_pos l i h,List.all_cons]
theorem loop9 (l:List Str) (hl:l.length<1000000) {Q:Ex→StW→Prop}:∀ (r i:Nat) (lo:List (Nat×AV)) (wr:List Nat),i+r=l.length →
 ((l.drop i).all (fun s=>decide (s.length≤40))=true→∀ a2 lo wr,Q (.exit 0) ⟨⟨[.vs (strs l) l.length cap,.bool false,a2],lo,[],[]⟩,wr⟩) →
 ((l.drop i).all (fun s=>decide (s.length≤40))=false→∀ a2 lo wr,Q .ret ⟨⟨[.vs (strs l) l.length cap,.bool false,a2],lo,[],[]⟩,wr⟩) →
 W M (.loop b9_0) ⟨⟨[.vs (strs l) l.length cap,.bool false,.int .i64 i],lo,[],[]⟩,wr⟩ Q
 | 0,i,lo,wr,hi,h1,h2=>by
  obtain rfl:i=l.length:=by omega
  refine W.loop ?_
  unfold b9_0
  repeat' first|apply W.seq|apply SQn|apply W.region|apply WO.nil|apply W.exit|apply SQe|apply LQe|(apply W.condF;rfl)|(apply WO.lss;rfl;rfl;all_goals first|(intro _;exfalso;omega)|intro _)|(apply WO.pl;rfl;rfl)
  exact h1 (by simp) _ _ _
 | r+1,i,lo,wr,hi,h1,h2=>by
  have e:=all_dropN (l:=l) (i:=i) (by omega)
  have ei:((i:Int)).toNat=i:=by omega
  refine W.loop ?_
  unfold b9_0
  repeat' first|apply W.seq|apply SQn|apply W.region|apply WO.nil|apply W.block|apply W.ret|apply W.skip|apply SQr|apply BQn|apply BQr|apply LQr|(apply W.condT;rfl)|(apply W.condF;rfl)|(apply WO.lss;rfl;rfl;all_goals first|(intro _;exfalso;omega)|intro _)|(apply WO.gtr;rfl;rfl;all_goals first|(intro _;exfalso;omega)|intro _)|(apply WO.add;rfl;rfl;omega)|(apply WO.iav;rfl;rfl;omega)|(apply WO.lda;rfl;exact fun _=>rfl;(first|omega|(simp only [List.length_set];omega)|(simp;omega));decide;rfl;case ia=>infer_instance)|(apply WO.pl;rfl;rfl)|(apply WO.pp;rfl;rfl)
  · rename_i h
    rw [ei] at h
    exact h2 (by rw [e,decide_eq_false (by omega),Bool.false_and]) _ _ _
  · rename_i h
    rw [ei] at h
    rw [e,decide_eq_true (by omega),Bool.true_and] at h1 h2
    exact LQn (loop9 l hl r (i+1) _ _ (by omega) h1 h2)
theorem w9 (hft:M.FT=FT) (l:List Str):Run M 9 [.vs (strs l) l.length cap] [] ⟨.bool (shortN l),[],[]⟩:=by
 refine run_of_W (by rw [hft];exact ft9) (by simp) ?_
 unfold b9
 simp only [enter]
 by_cases h0:35<l.length
 · repeat' first|apply W.seq|apply SQn|apply W.region|apply WO.nil|apply W.ret|apply SQr|(apply W.condT;rfl)|(apply WO.gtr;rfl;rfl;all_goals first|(intro _;exfalso;omega)|intro _)|(apply WO.pl;rfl;rfl)|(apply WO.pp;rfl;rfl)
   exact ⟨.inr rfl,rfl,_,rfl,by rw [shortN,decide_eq_false (by omega)];rfl,rfl⟩
 · repeat' first|apply W.seq|apply SQn|apply W.region|apply WO.nil|apply W.block|apply W.skip|(apply W.condF;rfl)|(apply WO.gtr;rfl;rfl;all_goals first|(intro _;exfalso;omega)|intro _)|(apply WO.pl;rfl;rfl)|(apply WO.pp;rfl;rfl)
   refine loop9 l (by omega) l.length 0 _ _ (by omega) (fun h a2 lo wr=>?_) (fun h a2 lo wr=>?_)
   · rw [List.drop_zero] at h
     repeat' first|apply W.seq|apply SQn|apply W.region|apply WO.nil|apply W.ret|apply BQe|(apply WO.pp;rfl;rfl)
     exact ⟨.inr rfl,rfl,_,rfl,by rw [shortN,decide_eq_true (by omega),h];rfl,rfl⟩
   · rw [List.drop_zero] at h
     repeat' first|apply SQr|apply BQr
     exact ⟨.inr rfl,rfl,_,rfl,by rw [shortN,h,Bool.and_false];rfl,rfl⟩
end Go.Ab.Ch6

/-
  Own work: chapter 6: the errors of contests and of heights, by both.
-/
namespace Go.Ab.Ch6
variable {M:Mach} {cap:Option Nat}
theorem outI_iff {x lo hi:Int}:outI x lo hi=true↔x<lo∨hi<x:=by simp [outI]
theorem CF.lit3 (C:CF M) (H:Heap) (a b c r:Int) (h:firstNZ [a,b,c]=r):M.ext 61 [.sl H.length 0 3 1 (some 3)] (H++[some (.cells [.int .i64 a,.int .i64 b,.int .i64 c] 30)])=some ⟨.int .i64 r,H++[some (.cells [.int .i64 a,.int .i64 b,.int .i64 c] 30)],[]⟩:=by rw [C.q3 H a b c,h]
theorem CF.lit2 (C:CF M) (H:Heap) (a b r:Int) (h:firstNZ [a,b]=r):M.ext 61 [.sl H.length 0 2 1 (some 2)] (H++[some (.cells [.int .i64 a,.int .i64 b] 30)])=some ⟨.int .i64 r,H++[some (.cells [.int .i64 a,.int .i64 b] 30)],[]⟩:=by rw [C.q2 H a b,h]
end Go.Ab.Ch6

/-
  Own work: chapter 6: the errors of heights, by both.
-/
namespace Go.Ab.Ch6
variable {M:Mach} {cap c1 c2:Option Nat}
theorem heightsE_drop {hs:List Int} {last:Int} {i:Nat} (h:i<hs.length):heightsE last (hs.drop i)=if heightE last hs[i]! = 0 then heightsE hs[i]! (hs.drop (i+1)) else heightE last hs[i]! := by
 rw [List.drop_eq_getElem_cons h,getElem!_pos hs i h,heightsE]
set_option maxHeartbeats 1000000 in
theorem loop13 (C:CF M) (l:List Str) (hs:List Int) (step:Int) (hl:hs.length<1000000) (a0:AV) {Q:Ex→StW→Prop}:∀ (r i:Nat) (last:Int) (a3 a5 a6:AV) (H:Heap) (lo:List (Nat×AV)) (wr:List Nat),i+r=hs.length→H.at 0=some (.cells [.vs (strs l) l.length c1,.vs (ints hs) hs.length c2,.int .i64 step] 35) →
 (heightsE last (hs.drop i)=0→∀ a3 a4 a5 a6 lo H wr,H.at 0=some (.cells [.vs (strs l) l.length c1,.vs (ints hs) hs.length c2,.int .i64 step] 35)→Q (.exit 0) ⟨⟨[a0,.ptr 0 0,.int .i64 0,a3,a4,a5,a6,.vs (ints hs) hs.length c2,.int .i64 hs.length,.int .i64 hs.length],lo,H,[]⟩,wr⟩) →
 (heightsE last (hs.drop i)≠0→∀ a3 a4 a5 a6 a9 lo H wr,Q .ret ⟨⟨[a0,.ptr 0 0,.int .i64 (heightsE last (hs.drop i)),a3,a4,a5,a6,.vs (ints hs) hs.length c2,.int .i64 hs.length,a9],lo,H,[]⟩,wr⟩) →
 W M (.loop b13_0) ⟨⟨[a0,.ptr 0 0,.int .i64 0,a3,.int .i64 last,a5,a6,.vs (ints hs) hs.length c2,.int .i64 hs.length,.int .i64 i],lo,H,[]⟩,wr⟩ Q
 | 0,i,last,a3,a5,a6,H,lo,wr,hi,hb,h1,h2=>by
  obtain rfl:i=hs.length:=by omega
  refine W.loop ?_
  unfold b13_0
  repeat' first|apply W.seq|apply SQn|apply W.region|apply WO.nil|apply W.exit|apply SQe|apply LQe|(apply W.condF;rfl)|(apply WO.lss;rfl;rfl;all_goals first|(intro _;exfalso;omega)|intro _)
  exact h1 (by simp [heightsE]) _ _ _ _ _ _ _ hb
 | r+1,i,last,a3,a5,a6,H,lo,wr,hi,hb,h1,h2=>by
  have ei:((i:Int)).toNat=i:=by omega
  have e:=heightsE_drop (hs:=hs) (last:=last) (i:=((i:Int)).toNat) (by omega)
  rw [show heightsE last (hs.drop ((i:Int)).toNat)=heightsE last (hs.drop i) from by rw [ei]] at e
  have q64t:∀ e h,M.ext 64 [.bool true,.int .i64 e] h=some ⟨.int .i64 e,h,[]⟩:=fun e h=>C.c64 true e h
  have q64f:∀ e h,M.ext 64 [.bool false,.int .i64 e] h=some ⟨.int .i64 0,h,[]⟩:=fun e h=>C.c64 false e h
  have f1:∀ b c:Int,firstNZ [3,b,c]=3:=fun b c=>by simp [firstNZ]
  have f2:∀ c:Int,firstNZ [0,3,c]=3:=fun c=>by simp [firstNZ]
  have q63:=C.c63 hs[((i:Int)).toNat]! 10 999999
  have l3:=fun b c=>C.lit3 H 3 b c 3 (f1 b c)
  have l03:=fun c=>C.lit3 H 0 3 c 3 (f2 c)
  have l11:=C.lit3 H 0 0 11 11 rfl
  have l00:=C.lit3 H 0 0 0 0 rfl
  refine W.loop ?_
  by_cases ho:outI hs[((i:Int)).toNat]! 10 999999=true
  · rw [if_pos ho] at q63
    have ho':=outI_iff.1 ho
    have eE:heightE last hs[((i:Int)).toNat]! = 3:=by unfold heightE;rw [if_pos ho']
    rw [eE,if_neg (by decide)] at e
    rw [e] at h1 h2
    unfold b13_0
    repeat' first|apply W.seq|apply SQn|apply W.region|apply WO.nil|apply W.block|apply W.ret|apply W.skip|apply SQr|apply BQr|apply LQr|(apply W.condT;rfl)|(apply WO.lss;rfl;rfl;all_goals first|(intro _;exfalso;omega)|intro _)|(apply WO.leq;rfl;rfl;all_goals first|(intro _;exfalso;omega)|intro _)|(apply WO.neq;rfl;rfl;all_goals first|(intro _;exfalso;omega)|intro _)|(apply WO.rem;rfl;rfl;omega)|(apply WO.cll;rfl;rfl;first|exact q63 _|exact q64t _ _|exact q64f _ _|exact l3 _ _)|(apply WO.iav;rfl;rfl;omega)|(apply WO.lda;rfl;exact fun _=>rfl;(first|omega|(simp only [List.length_set];omega)|(simp;omega));decide;rfl;case ia=>infer_instance)|(apply WO.hlv;rfl;rfl;rfl)|(apply WO.pl;rfl;rfl)|(apply WO.pp;rfl;rfl)
    all_goals first|exact h2 (by decide) _ _ _ _ _ _ _ _|(exfalso;omega)
  · rw [if_neg ho] at q63
    have ho':¬ (hs[((i:Int)).toNat]! < 10∨999999<hs[((i:Int)).toNat]!):=fun h=>ho (outI_iff.2 h)
    by_cases hm:hs[((i:Int)).toNat]! % 10=0
    · by_cases hle:hs[((i:Int)).toNat]! ≤ last
      · have eE:heightE last hs[((i:Int)).toNat]! = 11:=by unfold heightE;rw [if_neg ho',if_neg (fun h=>h hm),if_pos hle]
        rw [eE,if_neg (by decide)] at e
        rw [e] at h1 h2
        unfold b13_0
        repeat' first|apply W.seq|apply SQn|apply W.region|apply WO.nil|apply W.block|apply W.ret|apply W.skip|apply SQr|apply BQr|apply LQr|(apply W.condT;rfl)|(apply WO.lss;rfl;rfl;all_goals first|(intro _;exfalso;omega)|intro _)|(apply WO.leq;rfl;rfl;all_goals first|(intro _;exfalso;omega)|intro _)|(apply WO.neq;rfl;rfl;all_goals first|(intro _;exfalso;omega)|intro _)|(apply WO.remp;rfl;rfl;omega;intro _ _)|(apply WO.cll;rfl;rfl;first|exact q63 _|exact q64t _ _|exact q64f _ _|exact l11)|(apply WO.iav;rfl;rfl;omega)|(apply WO.lda;rfl;exact fun _=>rfl;(first|omega|(simp only [List.length_set];omega)|(simp;omega));decide;rfl;case ia=>infer_instance)|(apply WO.hlv;rfl;rfl;rfl)|(apply WO.pl;rfl;rfl)|(apply WO.pp;rfl;rfl)
        all_goals first|exact h2 (by decide) _ _ _ _ _ _ _ _|(exfalso;omega)
      · have eE:heightE last hs[((i:Int)).toNat]! = 0:=by unfold heightE;rw [if_neg ho',if_neg (fun h=>h hm),if_neg hle]
        rw [eE,if_pos rfl,ei] at e
        rw [e] at h1 h2
        have hb':=at_old (l:=[some (.cells [.int .i64 0,.int .i64 0,.int .i64 0] 30)]) hb
        unfold b13_0
        repeat' first|apply W.seq|apply SQn|apply W.region|apply WO.nil|apply W.block|apply W.skip|apply BQn|(apply W.condT;rfl)|(apply W.condF;rfl)|(apply WO.lss;rfl;rfl;all_goals first|(intro _;exfalso;omega)|intro _)|(apply WO.leq;rfl;rfl;all_goals first|(intro _;exfalso;omega)|intro _)|(apply WO.neq;rfl;rfl;all_goals first|(intro _;exfalso;omega)|intro _)|(apply WO.add;rfl;rfl;omega)|(apply WO.remp;rfl;rfl;omega;intro _ _)|(apply WO.cll;rfl;rfl;first|exact q63 _|exact q64t _ _|exact q64f _ _|exact l00)|(apply WO.iav;rfl;rfl;omega)|(apply WO.lda;rfl;exact fun _=>rfl;(first|omega|(simp only [List.length_set];omega)|(simp;omega));decide;rfl;case ia=>infer_instance)|(apply WO.hlv;rfl;rfl;rfl)|(apply WO.pl;rfl;rfl)|(apply WO.pp;rfl;rfl)
        all_goals first|(exfalso;omega)|skip
        rw [ei]
        exact LQn (loop13 C l hs step hl a0 r (i+1) hs[i]! _ _ _ _ _ _ (by omega) hb' h1 h2)
    · have eE:heightE last hs[((i:Int)).toNat]! = 3:=by unfold heightE;rw [if_neg ho',if_pos hm]
      rw [eE,if_neg (by decide)] at e
      rw [e] at h1 h2
      unfold b13_0
      repeat' first|apply W.seq|apply SQn|apply W.region|apply WO.nil|apply W.block|apply W.ret|apply W.skip|apply SQr|apply BQr|apply LQr|(apply W.condT;rfl)|(apply WO.lss;rfl;rfl;all_goals first|(intro _;exfalso;omega)|intro _)|(apply WO.leq;rfl;rfl;all_goals first|(intro _;exfalso;omega)|intro _)|(apply WO.neq;rfl;rfl;all_goals first|(intro _;exfalso;omega)|intro _)|(apply WO.remp;rfl;rfl;omega;intro _ _)|(apply WO.cll;rfl;rfl;first|exact q63 _|exact q64t _ _|exact q64f _ _|exact l03 _)|(apply WO.iav;rfl;rfl;omega)|(apply WO.lda;rfl;exact fun _=>rfl;(first|omega|(simp only [List.length_set];omega)|(simp;omega));decide;rfl;case ia=>infer_instance)|(apply WO.hlv;rfl;rfl;rfl)|(apply WO.pl;rfl;rfl)|(apply WO.pp;rfl;rfl)
      all_goals first|exact h2 (by decide) _ _ _ _ _ _ _ _|(exfalso;omega)
set_option maxHeartbeats 1000000 in
theorem w13 (C:CF M) (c62:∀ (l:List Str) cap h,l.length<1000000→(∀ s∈l,s.length<1000000)→M.ext 62 [.vs (strs l) l.length cap] h=some ⟨.int .i64 (athE l),h,[]⟩) (l:List Str) (hs:List Int) (step:Int) (hl:l.length<1000000) (hL:∀ s∈l,s.length<1000000) (hh:hs.length<1000000) :
 Run M 13 [.agg [.vs (strs l) l.length c1,.vs (ints hs) hs.length c2,.int .i64 step]] [] ⟨.int .i64 (verticalE l hs step),[],[]⟩:=by
 have q:=fun h=>c62 l c1 h hl hL
 have lit:=C.lit3 [some (.cells [.vs (strs l) l.length c1,.vs (ints hs) hs.length c2,.int .i64 step] 35)]
 have q64t:∀ e h,M.ext 64 [.bool true,.int .i64 e] h=some ⟨.int .i64 e,h,[]⟩:=fun e h=>C.c64 true e h
 have q64f:∀ e h,M.ext 64 [.bool false,.int .i64 e] h=some ⟨.int .i64 0,h,[]⟩:=fun e h=>C.c64 false e h
 have f1:∀ a b c:Int,a≠0→firstNZ [a,b,c]=a:=fun a b c h=>by simp [firstNZ,h]
 refine run_of_W (by rw [C.ft];exact ft13) (by simp) ?_
 unfold b13
 simp only [enter]
 by_cases h0:athE l=0
 · rw [h0] at q
   by_cases hz:hs.length=0
   · have ql:=lit 0 12 0 12 rfl
     repeat' first|apply W.seq|apply SQn|apply W.region|apply WO.nil|apply W.ret|apply SQr|apply W.draw|apply WD.nil|(apply WD.pure1;rfl)|(apply WD.load1;rfl;rfl;(first|(simp only [List.nil_append,List.cons_append];rfl)|rfl))|(apply WD.new1;rfl)|(apply W.condT;rfl)|(apply WO.gtr;rfl;rfl;all_goals first|(intro _;exfalso;omega)|intro _)|(apply WO.eql;rfl;rfl;all_goals first|(intro _;exfalso;omega)|intro _)|(apply WO.neq;rfl;rfl;all_goals first|(intro _;exfalso;omega)|intro _)|(apply WD.cl0;rfl;rfl;(first|(simp only [List.nil_append,List.cons_append];rfl)|rfl);first|exact q _|exact q64t _ _|exact q64f _ _|exact ql)|(apply WO.hlv;rfl;rfl;rfl)|(apply WO.hpv;rfl;rfl;rfl)|(apply WO.pl;rfl;rfl)|(apply WO.pp;rfl;rfl)
     all_goals first|(exfalso;omega)|exact ⟨.inr rfl,rfl,_,rfl,congrArg (AV.int .i64) (by unfold verticalE;rw [if_neg (fun h=>h h0),if_pos hz]),rfl⟩
   by_cases hm:24<hs.length
   · have ql:=lit 0 0 5 5 rfl
     repeat' first|apply W.seq|apply SQn|apply W.region|apply WO.nil|apply W.ret|apply SQr|apply W.draw|apply WD.nil|(apply WD.pure1;rfl)|(apply WD.load1;rfl;rfl;(first|(simp only [List.nil_append,List.cons_append];rfl)|rfl))|(apply WD.new1;rfl)|(apply W.condT;rfl)|(apply WO.gtr;rfl;rfl;all_goals first|(intro _;exfalso;omega)|intro _)|(apply WO.eql;rfl;rfl;all_goals first|(intro _;exfalso;omega)|intro _)|(apply WO.neq;rfl;rfl;all_goals first|(intro _;exfalso;omega)|intro _)|(apply WD.cl0;rfl;rfl;(first|(simp only [List.nil_append,List.cons_append];rfl)|rfl);first|exact q _|exact q64t _ _|exact q64f _ _|exact ql)|(apply WO.hlv;rfl;rfl;rfl)|(apply WO.hpv;rfl;rfl;rfl)|(apply WO.pl;rfl;rfl)|(apply WO.pp;rfl;rfl)
     all_goals first|(exfalso;omega)|exact ⟨.inr rfl,rfl,_,rfl,congrArg (AV.int .i64) (by unfold verticalE;rw [if_neg (fun h=>h h0),if_neg hz,if_pos hm]),rfl⟩
   have ql:=lit 0 0 0 0 rfl
   have eV:verticalE l hs step=if heightsE 0 hs≠0 then heightsE 0 hs else stepE step:=by unfold verticalE;rw [if_neg (fun h=>h h0),if_neg hz,if_neg hm]
   rw [eV]
   repeat' first|apply W.seq|apply SQn|apply W.region|apply WO.nil|apply W.block|apply W.skip|apply W.draw|apply WD.nil|(apply WD.pure1;rfl)|(apply WD.load1;rfl;rfl;(first|(simp only [List.nil_append,List.cons_append];rfl)|rfl))|(apply WD.new1;rfl)|(apply W.condF;rfl)|(apply WO.gtr;rfl;rfl;all_goals first|(intro _;exfalso;omega)|intro _)|(apply WO.eql;rfl;rfl;all_goals first|(intro _;exfalso;omega)|intro _)|(apply WO.neq;rfl;rfl;all_goals first|(intro _;exfalso;omega)|intro _)|(apply WD.cl0;rfl;rfl;(first|(simp only [List.nil_append,List.cons_append];rfl)|rfl);first|exact q _|exact q64t _ _|exact q64f _ _|exact ql)|(apply WO.hlv;rfl;rfl;rfl)|(apply WO.hpv;rfl;rfl;rfl)|(apply WO.pl;rfl;rfl)|(apply WO.pp;rfl;rfl)
   all_goals first|(exfalso;omega)|skip
   refine loop13 C l hs step hh _ hs.length 0 0 _ _ _ _ _ _ (by omega) rfl (fun h a3 a4 a5 a6 lo H wr hb=>?_) (fun h a3 a4 a5 a6 a9 lo H wr=>?_)
   · rw [List.drop_zero] at h
     rw [if_neg (fun h'=>h' h)]
     have q63:=C.c63 step 10 1000
     have f2:∀ b:Int,firstNZ [3,b]=3:=fun b=>by simp [firstNZ]
     have l3:=fun b=>C.lit2 H 3 b 3 (f2 b)
     have l03:=C.lit2 H 0 3 3 rfl
     have l00:=C.lit2 H 0 0 0 rfl
     by_cases ho:outI step 10 1000=true
     · rw [if_pos ho] at q63
       have ho':=outI_iff.1 ho
       repeat' first|(apply WO.ldb;rfl;exact hb;rfl)|apply W.seq|apply SQn|apply WO.nil|apply W.ret|apply BQe|apply W.draw|apply WD.nil|(apply WD.pure1;rfl)|(apply WD.load1;rfl;rfl;(first|(simp only [List.nil_append,List.cons_append];rfl)|rfl))|(apply WD.new1;rfl)|(apply WO.neq;rfl;rfl;all_goals first|(intro _;exfalso;omega)|intro _)|(apply WO.rem;rfl;rfl;omega)|(apply WD.cl0;rfl;rfl;(first|(simp only [List.nil_append,List.cons_append];rfl)|rfl);first|exact q63 _|exact q64t _ _|exact q64f _ _|exact l3 _)|(apply WO.hlv;rfl;rfl;rfl)|(apply WO.pl;rfl;rfl)|(apply WO.pp;rfl;rfl)
       all_goals first|exact ⟨.inr rfl,rfl,_,rfl,congrArg (AV.int .i64) (by unfold stepE;rw [if_pos ho']),rfl⟩|(exfalso;omega)
     · rw [if_neg ho] at q63
       have ho':¬ (step<10∨1000<step):=fun h=>ho (outI_iff.2 h)
       by_cases hr:step%10=0
       · repeat' first|(apply WO.ldb;rfl;exact hb;rfl)|apply W.seq|apply SQn|apply WO.nil|apply W.ret|apply BQe|apply W.draw|apply WD.nil|(apply WD.pure1;rfl)|(apply WD.load1;rfl;rfl;(first|(simp only [List.nil_append,List.cons_append];rfl)|rfl))|(apply WD.new1;rfl)|(apply WO.neq;rfl;rfl;all_goals first|(intro _;exfalso;omega)|intro _)|(apply WO.remp;rfl;rfl;omega;intro _ _)|(apply WD.cl0;rfl;rfl;(first|(simp only [List.nil_append,List.cons_append];rfl)|rfl);first|exact q63 _|exact q64t _ _|exact q64f _ _|exact l00)|(apply WO.hlv;rfl;rfl;rfl)|(apply WO.pl;rfl;rfl)|(apply WO.pp;rfl;rfl)
         all_goals first|(exfalso;omega)|exact ⟨.inr rfl,rfl,_,rfl,congrArg (AV.int .i64) (by unfold stepE;rw [if_neg ho',if_neg (fun h=>h hr)]),rfl⟩
       · repeat' first|(apply WO.ldb;rfl;exact hb;rfl)|apply W.seq|apply SQn|apply WO.nil|apply W.ret|apply BQe|apply W.draw|apply WD.nil|(apply WD.pure1;rfl)|(apply WD.load1;rfl;rfl;(first|(simp only [List.nil_append,List.cons_append];rfl)|rfl))|(apply WD.new1;rfl)|(apply WO.neq;rfl;rfl;all_goals first|(intro _;exfalso;omega)|intro _)|(apply WO.remp;rfl;rfl;omega;intro _ _)|(apply WD.cl0;rfl;rfl;(first|(simp only [List.nil_append,List.cons_append];rfl)|rfl);first|exact q63 _|exact q64t _ _|exact q64f _ _|exact l03)|(apply WO.hlv;rfl;rfl;rfl)|(apply WO.pl;rfl;rfl)|(apply WO.pp;rfl;rfl)
         all_goals first|(exfalso;omega)|exact ⟨.inr rfl,rfl,_,rfl,congrArg (AV.int .i64) (by unfold stepE;rw [if_neg ho',if_pos hr]),rfl⟩
   · rw [List.drop_zero] at h
     rw [if_pos h]
     repeat' first|apply SQr|apply BQr
     exact ⟨.inr rfl,rfl,_,rfl,rfl,rfl⟩
 · have e:verticalE l hs step=athE l:=by unfold verticalE;rw [if_pos h0]
   rw [e]
   generalize athE l=z at *
   have ql:=fun b c=>lit z b c z (f1 z b c h0)
   repeat' first|apply W.seq|apply SQn|apply W.region|apply WO.nil|apply W.ret|apply SQr|apply W.draw|apply WD.nil|(apply WD.pure1;rfl)|(apply WD.load1;rfl;rfl;(first|(simp only [List.nil_append,List.cons_append];rfl)|rfl))|(apply WD.new1;rfl)|(apply W.condT;rfl)|(apply WO.gtr;rfl;rfl;all_goals first|(intro _;exfalso;omega)|intro _)|(apply WO.eql;rfl;rfl;all_goals first|(intro _;exfalso;omega)|intro _)|(apply WO.neq;rfl;rfl;all_goals first|(intro _;exfalso;omega)|intro _)|(apply WD.cl0;rfl;rfl;(first|(simp only [List.nil_append,List.cons_append];rfl)|rfl);first|exact q _|exact q64t _ _|exact q64f _ _|exact ql _ _)|(apply WO.hlv;rfl;rfl;rfl)|(apply WO.hpv;rfl;rfl;rfl)|(apply WO.pl;rfl;rfl)|(apply WO.pp;rfl;rfl)
   all_goals first|(exfalso;omega)|exact ⟨.inr rfl,rfl,_,rfl,rfl,rfl⟩
def lastAt (hs:List Int) (i:Nat):Int:=if i=0 then 0 else hs[i-1]!
set_option maxHeartbeats 1000000 in
theorem loop14 (l:List Str) (hs:List Int) (step:Int) (hl:hs.length<1000000) (a0 a3:AV) {Q:Ex→StW→Prop}:∀ (r i:Nat) (a5:AV) (lo:List (Nat×AV)) (wr:List Nat),i+r=hs.length →
 (heightsE (lastAt hs i) (hs.drop i)=0→∀ a4 a5 lo wr,Q (.exit 0) ⟨⟨[a0,.ptr 0 0,.int .i64 0,a3,a4,a5],lo,[some (.cells [.vs (strs l) l.length c1,.vs (ints hs) hs.length c2,.int .i64 step] 27)],[]⟩,wr⟩) →
 (heightsE (lastAt hs i) (hs.drop i)≠0→∀ a4 a5 lo wr,Q .ret ⟨⟨[a0,.ptr 0 0,.int .i64 (heightsE (lastAt hs i) (hs.drop i)),a3,a4,a5],lo,[some (.cells [.vs (strs l) l.length c1,.vs (ints hs) hs.length c2,.int .i64 step] 27)],[]⟩,wr⟩) →
 W M (.loop b14_0) ⟨⟨[a0,.ptr 0 0,.int .i64 0,a3,.int .i64 i,a5],lo,[some (.cells [.vs (strs l) l.length c1,.vs (ints hs) hs.length c2,.int .i64 step] 27)],[]⟩,wr⟩ Q
 | 0,i,a5,lo,wr,hi,h1,h2=>by
  obtain rfl:i=hs.length:=by omega
  refine W.loop ?_
  unfold b14_0
  repeat' first|apply W.seq|apply SQn|apply W.region|apply WO.nil|apply W.exit|apply SQe|apply LQe|(apply W.condF;rfl)|(apply WO.lss;rfl;rfl;all_goals first|(intro _;exfalso;omega)|intro _)|(apply WO.hlv;rfl;rfl;rfl)|(apply WO.pl;rfl;rfl)
  exact h1 (by simp [heightsE]) _ _ _ _
 | r+1,i,a5,lo,wr,hi,h1,h2=>by
  have ei:((i:Int)).toNat=i:=by omega
  have ej:((i:Int)-1).toNat=i-1:=by omega
  have e:=heightsE_drop (hs:=hs) (last:=lastAt hs i) (i:=i) (by omega)
  have eN:lastAt hs (i+1)=hs[i]! := by unfold lastAt;rw [if_neg (by omega),Nat.add_sub_cancel]
  have eL:0<i→lastAt hs i=hs[((i:Int)-1).toNat]! := fun h=>by unfold lastAt;rw [if_neg (by omega),ej]
  have eZ:i=0→lastAt hs i=0:=fun h=>by unfold lastAt;rw [if_pos h]
  have eH:hs[i]! = hs[((i:Int)).toNat]! := by rw [ei]
  have stop3:heightE (lastAt hs i) hs[i]! = 3→∀ a4 a5 lo wr,Q .ret ⟨⟨[a0,.ptr 0 0,.int .i64 3,a3,a4,a5],lo,[some (.cells [.vs (strs l) l.length c1,.vs (ints hs) hs.length c2,.int .i64 step] 27)],[]⟩,wr⟩:=fun h=>by
   rw [h,if_neg (by decide)] at e
   rw [e] at h2
   exact h2 (by decide)
  have stop11:heightE (lastAt hs i) hs[i]! = 11→∀ a4 a5 lo wr,Q .ret ⟨⟨[a0,.ptr 0 0,.int .i64 11,a3,a4,a5],lo,[some (.cells [.vs (strs l) l.length c1,.vs (ints hs) hs.length c2,.int .i64 step] 27)],[]⟩,wr⟩:=fun h=>by
   rw [h,if_neg (by decide)] at e
   rw [e] at h2
   exact h2 (by decide)
  have go:heightE (lastAt hs i) hs[i]! = 0→∀ a5 lo wr,LQ M b14_0 Q .normal ⟨⟨[a0,.ptr 0 0,.int .i64 0,a3,.int .i64 ((i:Int)+1),a5],lo,[some (.cells [.vs (strs l) l.length c1,.vs (ints hs) hs.length c2,.int .i64 step] 27)],[]⟩,wr⟩:=fun h a5 lo wr=>by
   rw [h,if_pos rfl,← eN] at e
   rw [e] at h1 h2
   exact LQn (loop14 l hs step hl a0 a3 r (i+1) _ _ _ (by omega) h1 h2)
  have e3:(hs[((i:Int)).toNat]! < 10∨999999<hs[((i:Int)).toNat]!)∨hs[((i:Int)).toNat]! % 10≠0→heightE (lastAt hs i) hs[i]! = 3:=fun h=>by
   rw [eH];unfold heightE
   (repeat' split) <;> first|rfl|(exfalso;omega)
  have e11:¬ (hs[((i:Int)).toNat]! < 10∨999999<hs[((i:Int)).toNat]!)→hs[((i:Int)).toNat]! % 10=0→hs[((i:Int)).toNat]! ≤ lastAt hs i→heightE (lastAt hs i) hs[i]! = 11:=fun h h' h''=>by
   rw [eH];unfold heightE
   rw [if_neg h,if_neg (fun x=>x h'),if_pos h'']
  have e0:¬ (hs[((i:Int)).toNat]! < 10∨999999<hs[((i:Int)).toNat]!)→hs[((i:Int)).toNat]! % 10=0→¬ hs[((i:Int)).toNat]! ≤ lastAt hs i→heightE (lastAt hs i) hs[i]! = 0:=fun h h' h''=>by
   rw [eH];unfold heightE
   rw [if_neg h,if_neg (fun x=>x h'),if_neg h'']
  clear e h1 h2 eN
  refine W.loop ?_
  unfold b14_0
  repeat' first|apply W.seq|apply SQn|apply W.region|apply WO.nil|apply W.block|apply W.ret|apply W.skip|apply SQr|apply BQn|apply BQr|apply LQr|(apply W.condT;rfl)|(apply W.condF;rfl)|(apply WO.gT;rfl)|(apply WO.gF;rfl)|(apply WO.sT;rfl)|(apply WO.sF;rfl)|(apply WO.lss;rfl;rfl;all_goals first|(intro _;exfalso;omega)|intro _)|(apply WO.leq;rfl;rfl;all_goals first|(intro _;exfalso;omega)|intro _)|(apply WO.gtr;rfl;rfl;all_goals first|(intro _;exfalso;omega)|intro _)|(apply WO.neq;rfl;rfl;all_goals first|(intro _;exfalso;omega)|intro _)|(apply WO.pkT;rfl;rfl)|(apply WO.pkF;rfl;rfl)|(apply WO.add;rfl;rfl;omega)|(apply WO.sub;rfl;rfl;omega)|(apply WO.remp;rfl;rfl;omega;intro _ _)|(apply WO.iav;rfl;rfl;omega)|(apply WO.lda;rfl;exact fun _=>rfl;(first|omega|(simp only [List.length_set];omega)|(simp;omega));decide;rfl;case ia=>infer_instance)|(apply WO.hlv;rfl;rfl;rfl)|(apply WO.pl;rfl;rfl)|(apply WO.pp;rfl;rfl)
  all_goals first
   | exact stop3 (e3 (by omega)) _ _ _ _
   | exact stop11 (e11 (by omega) (by omega) (by rw [eL (by omega)];omega)) _ _ _ _
   | exact go (e0 (by omega) (by omega) (by first|(rw [eL (by omega)];omega)|(rw [eZ (by omega)];omega))) _ _ _
theorem w14 (hft:M.FT=FT) (c65:∀ (l:List Str) cap h,l.length<1000000→(∀ s∈l,s.length<1000000)→M.ext 65 [.vs (strs l) l.length cap] h=some ⟨.int .i64 (athE l),h,[]⟩) (l:List Str) (hs:List Int) (step:Int) (hl:l.length<1000000) (hL:∀ s∈l,s.length<1000000) (hh:hs.length<1000000) :
 Run M 14 [.agg [.vs (strs l) l.length c1,.vs (ints hs) hs.length c2,.int .i64 step]] [] ⟨.int .i64 (verticalE l hs step),[],[]⟩:=by
 have q:=fun h=>c65 l c1 h hl hL
 refine run_of_W (by rw [hft];exact ft14) (by simp) ?_
 unfold b14
 simp only [enter]
 by_cases h0:athE l=0
 · rw [h0] at q
   by_cases hz:hs.length=0
   · repeat' first|apply W.seq|apply SQn|apply W.region|apply WO.nil|apply W.ret|apply W.skip|apply SQr|(apply W.condT;rfl)|(apply W.condF;rfl)|(apply WO.eql;rfl;rfl;all_goals first|(intro _;exfalso;omega)|intro _)|(apply WO.neq;rfl;rfl;all_goals first|(intro _;exfalso;omega)|intro _)|(apply WO.cll;rfl;rfl;first|exact q _)|(apply WO.hlv;rfl;rfl;rfl)|(apply WO.hpv;rfl;rfl;rfl)|(apply WO.pl;rfl;rfl)|(apply WO.pp;rfl;rfl)
     all_goals first|(exfalso;omega)|exact ⟨.inr rfl,rfl,_,rfl,congrArg (AV.int .i64) (by unfold verticalE;rw [if_neg (fun h=>h h0),if_pos hz]),rfl⟩
   by_cases hm:24<hs.length
   · repeat' first|apply W.seq|apply SQn|apply W.region|apply WO.nil|apply W.ret|apply W.skip|apply SQr|(apply W.condT;rfl)|(apply W.condF;rfl)|(apply WO.gtr;rfl;rfl;all_goals first|(intro _;exfalso;omega)|intro _)|(apply WO.eql;rfl;rfl;all_goals first|(intro _;exfalso;omega)|intro _)|(apply WO.neq;rfl;rfl;all_goals first|(intro _;exfalso;omega)|intro _)|(apply WO.cll;rfl;rfl;first|exact q _)|(apply WO.hlv;rfl;rfl;rfl)|(apply WO.hpv;rfl;rfl;rfl)|(apply WO.pl;rfl;rfl)|(apply WO.pp;rfl;rfl)
     all_goals first|(exfalso;omega)|exact ⟨.inr rfl,rfl,_,rfl,congrArg (AV.int .i64) (by unfold verticalE;rw [if_neg (fun h=>h h0),if_neg hz,if_pos hm]),rfl⟩
   have eV:verticalE l hs step=if heightsE 0 hs≠0 then heightsE 0 hs else stepE step:=by unfold verticalE;rw [if_neg (fun h=>h h0),if_neg hz,if_neg hm]
   rw [eV]
   repeat' first|apply W.seq|apply SQn|apply W.region|apply WO.nil|apply W.block|apply W.skip|(apply W.condF;rfl)|(apply WO.gtr;rfl;rfl;all_goals first|(intro _;exfalso;omega)|intro _)|(apply WO.eql;rfl;rfl;all_goals first|(intro _;exfalso;omega)|intro _)|(apply WO.neq;rfl;rfl;all_goals first|(intro _;exfalso;omega)|intro _)|(apply WO.cll;rfl;rfl;first|exact q _)|(apply WO.hlv;rfl;rfl;rfl)|(apply WO.hpv;rfl;rfl;rfl)|(apply WO.pl;rfl;rfl)|(apply WO.pp;rfl;rfl)
   all_goals first|(exfalso;omega)|skip
   refine loop14 l hs step hh _ _ hs.length 0 _ _ _ (by omega) (fun h a4 a5 lo wr=>?_) (fun h a4 a5 lo wr=>?_)
   · rw [List.drop_zero,show lastAt hs 0=0 from rfl] at h
     rw [if_neg (fun h'=>h' h)]
     repeat' first|apply W.seq|apply SQn|apply W.region|apply WO.nil|apply W.ret|apply W.skip|apply SQr|apply BQe|(apply W.condT;rfl)|(apply W.condF;rfl)|(apply WO.gF;rfl)|(apply WO.sF;rfl)|(apply WO.lss;rfl;rfl;all_goals first|(intro _;exfalso;omega)|intro _)|(apply WO.gtr;rfl;rfl;all_goals first|(intro _;exfalso;omega)|intro _)|(apply WO.neq;rfl;rfl;all_goals first|(intro _;exfalso;omega)|intro _)|(apply WO.pkT;rfl;rfl)|(apply WO.pkF;rfl;rfl)|(apply WO.remp;rfl;rfl;omega;intro _ _)|(apply WO.hlv;rfl;rfl;rfl)|(apply WO.pl;rfl;rfl)|(apply WO.pp;rfl;rfl)
     all_goals exact ⟨.inr rfl,rfl,_,rfl,congrArg (AV.int .i64) (by unfold stepE;(repeat' split) <;> first|rfl|(exfalso;omega)),rfl⟩
   · rw [List.drop_zero,show lastAt hs 0=0 from rfl] at h
     rw [if_pos h]
     repeat' first|apply SQr|apply BQr
     exact ⟨.inr rfl,rfl,_,rfl,rfl,rfl⟩
 · have e:verticalE l hs step=athE l:=by unfold verticalE;rw [if_pos h0]
   rw [e]
   generalize athE l=z at *
   repeat' first|apply W.seq|apply SQn|apply W.region|apply WO.nil|apply W.ret|apply SQr|(apply W.condT;rfl)|(apply WO.neq;rfl;rfl;all_goals first|(intro _;exfalso;omega)|intro _)|(apply WO.cll;rfl;rfl;first|exact q _)|(apply WO.hlv;rfl;rfl;rfl)|(apply WO.hpv;rfl;rfl;rfl)|(apply WO.pl;rfl;rfl)|(apply WO.pp;rfl;rfl)
   exact ⟨.inr rfl,rfl,_,rfl,rfl,rfl⟩
end Go.Ab.Ch6

/-
  Own work: chapter 6: the law FieldChecks.
-/
namespace Go.Ab.Ch6
variable {M:Mach}
theorem short_names {l:List Str} (h:shortN l=true):l.length<1000000∧∀ s∈l,s.length<1000000:=by
 unfold shortN at h
 rw [Bool.and_eq_true,decide_eq_true_eq,List.all_eq_true] at h
 refine ⟨by omega,fun s hs=>?_⟩
 have:=of_decide_eq_true (h.2 s hs)
 omega
end Go.Ab.Ch6

/-
  Own work: the contracts of FieldChecks as a table.
-/
namespace Go.Ab.Ch6
open Go.Proofs
def shortL (l:List Str):Bool:=l.all fun s=>decide (s.length<1000000)
theorem shortL_mem {l:List Str} (h:shortL l=true):∀ s∈l,s.length<1000000:=fun s hs=>by
 have:=List.all_eq_true.1 h s hs
 simpa using this
theorem shortL_of {l:List Str} (h:∀ s∈l,s.length<1000000):shortL l=true:=by
 rw [shortL,List.all_eq_true]
 intro s hs
 simpa using h s hs
def specAwake:Spec:=spec0 [] (.bool true)
theorem awake10:SpecOK Tryz.prog gl 10 specAwake:=spec0_ok gl_top rfl rfl oAwake
def specWhen:Spec:=fun
 | [.bool t,.int .i64 e],h=>some ⟨.int .i64 (if t then e else 0),h,[]⟩
 | _,_=>none
theorem when64:SpecOK Tryz.prog gl 64 specWhen:=by
 intro xs h r hq
 unfold specWhen at hq
 split at hq
 · cases hq
   exact ent_run0 seat tab_nil (w64 (M:=mach Tryz.prog FT []) mach_ft _ _) (FrL.same rfl) rfl (.inl rfl)
 · cases hq
def specRange:Spec:=fun
 | [.int .i64 x,.int .i64 lo,.int .i64 hi],h=>some ⟨.int .i64 (if outI x lo hi then 3 else 0),h,[]⟩
 | _,_=>none
theorem range63:SpecOK Tryz.prog gl 63 specRange:=by
 intro xs h r hq
 unfold specRange at hq
 split at hq
 · cases hq
   exact ent_run0 seat (T:=[(64,specWhen)]) (tab_cons when64 tab_nil) (w63 mach_ft (fun _ _ _=>by rw [mach_ext];rfl) _ _ _) (FrL.same rfl) rfl (.inl rfl)
 · cases hq
def specFirst:Spec:=fun
 | [v],h=>match intsAt h v with
   | some l=>if l.length<4611686018427387904 then some ⟨.int .i64 (firstNZ l),h,[]⟩ else none
   | none=>none
 | _,_=>none
theorem first61:SpecOK Tryz.prog gl 61 specFirst:=by
 intro xs h r hq
 unfold specFirst at hq
 split at hq
 · split at hq
   · rename_i l hl
     split at hq
     · rename_i hn
       cases hq
       obtain ⟨S,cap,hf⟩:=(intsAt_sl hl).fr (fun _=>rfl)
       exact ent_run0 seat tab_nil (w61 (M:=mach Tryz.prog FT []) mach_ft l hn) (.cons hf .nil) rfl (.inr rfl)
     · cases hq
   · cases hq
 · cases hq
def specName:Spec:=fun
 | [.str s],h=>if s.length<1000000 then some ⟨.bool (isName s),h,[]⟩ else none
 | _,_=>none
theorem name67:SpecOK Tryz.prog gl 67 specName:=by
 intro xs h r hq
 unfold specName at hq
 split at hq
 · split at hq
   · rename_i hn
     cases hq
     exact ent_run0 seat tab_nil (w67 (M:=mach Tryz.prog FT []) mach_ft _ (by omega)) (FrL.same rfl) rfl (.inl rfl)
   · cases hq
 · cases hq
theorem name68:SpecOK Tryz.prog gl 68 specName:=by
 intro xs h r hq
 unfold specName at hq
 split at hq
 · split at hq
   · rename_i hn
     cases hq
     exact ent_run0 seat tab_nil (w68 (M:=mach Tryz.prog FT []) mach_ft _ hn) (FrL.same rfl) rfl (.inl rfl)
   · cases hq
 · cases hq
def specIndex:Spec:=fun
 | [v,.str x],h=>match strsAt h v with
   | some l=>if l.length<4611686018427387904 then some ⟨.int .i64 (indexOf x l 0),h,[]⟩ else none
   | none=>none
 | _,_=>none
theorem index186:SpecOK Tryz.prog gl 186 specIndex:=by
 intro xs h r hq
 unfold specIndex at hq
 split at hq
 · split at hq
   · rename_i l hl
     split at hq
     · rename_i hlen
       cases hq
       obtain ⟨S,cap,hf⟩:=(strsAt_sl hl).fr (fun _=>rfl)
       exact ent_run0 seat tab_nil (w186 (M:=mach Tryz.prog FT []) mach_ft l _ cap hlen) (.cons hf (.cons (.same rfl) .nil)) rfl (.inr rfl)
     · cases hq
   · cases hq
 · cases hq
def T186:List (Nat×Spec):=[(186,specIndex)]
def specContains:Spec:=fun
 | [v,.str x],h=>match strsAt h v with
   | some l=>if l.length<4611686018427387904 then some ⟨.bool (decide (x∈l)),h,[]⟩ else none
   | none=>none
 | _,_=>none
theorem contains126:SpecOK Tryz.prog gl 126 specContains:=by
 intro xs h r hq
 unfold specContains at hq
 split at hq
 · split at hq
   · rename_i l hl
     split at hq
     · rename_i hlen
       cases hq
       obtain ⟨S,cap,hf⟩:=(strsAt_sl hl).fr (fun _=>rfl)
       refine ent_run0 seat (T:=T186) (tab_cons index186 tab_nil) (w126 mach_ft (fun l cap x h hl=>?_) l _ cap hlen) (.cons hf (.cons (.same rfl) .nil)) rfl (.inr rfl)
       rw [mach_ext]
       show specIndex [.vs (strs l) l.length cap,.str x] h=_
       simp only [specIndex,strsAt_vs,if_pos hl]
     · cases hq
   · cases hq
 · cases hq
def TCF:List (Nat×Spec):=[(64,specWhen),(63,specRange),(61,specFirst),(67,specName),(126,specContains)]
theorem TCF_ok:ExtOK Tryz.prog gl (extS TCF):=tab_cons when64 (tab_cons range63 (tab_cons first61 (tab_cons name67 (tab_cons contains126 tab_nil))))
theorem cf {T:List (Nat×Spec)}:CF (mach Tryz.prog FT ((64,specWhen)::(63,specRange)::(61,specFirst)::T)) where
 ft:=mach_ft
 c64 _ _ _:=by rw [mach_ext];rfl
 c63 _ _ _ _:=by rw [mach_ext];rfl
 c61 v l h hl hn:=by
  rw [mach_ext]
  show specFirst [v] h=_
  simp only [specFirst,hl,if_pos hn]
def specNameE:Spec:=fun
 | [v,.int .i64 n],h=>match strsAt h v with
   | some l=>if l.length<1000000∧shortL l=true∧0≤n∧n.toNat<l.length then some ⟨.int .i64 (nameE l n.toNat),h,[]⟩ else none
   | none=>none
 | _,_=>none
theorem specNameE_vs {l:List Str} {cap:Option Nat} {i:Nat} {h:Heap} (hl:l.length<1000000) (hL:∀ s∈l,s.length<1000000) (hi:i<l.length):specNameE [.vs (strs l) l.length cap,.int .i64 i] h=some ⟨.int .i64 (nameE l i),h,[]⟩:=by
 simp only [specNameE,strsAt_vs,Int.toNat_natCast]
 rw [if_pos ⟨hl,shortL_of hL,by omega,hi⟩]
theorem nameE_ok {g:Nat} {T:List (Nat×Spec)} (hT:ExtOK Tryz.prog gl (extS T)) (hr:∀ (l:List Str) cap (i:Nat),l.length<1000000→(∀ s∈l,s.length<1000000)→i<l.length→Run (mach Tryz.prog FT T) g [.vs (strs l) l.length cap,.int .i64 i] [] ⟨.int .i64 (nameE l i),[],[]⟩):SpecOK Tryz.prog gl g specNameE:=by
 intro xs h r hq
 unfold specNameE at hq
 split at hq
 · rename_i n
   split at hq
   · rename_i l hl
     split at hq
     · rename_i hc
       obtain ⟨h1,h2,h3,h4⟩:=hc
       cases hq
       obtain ⟨S,cap,hf⟩:=(strsAt_sl hl).fr (fun _=>rfl)
       have e:((n.toNat:Nat):Int)=n:=by omega
       have:=hr l cap n.toNat h1 (shortL_mem h2) h4
       rw [e] at this
       exact ent_run0 seat hT this (.cons hf (.cons (.same rfl) .nil)) rfl (.inr rfl)
     · cases hq
   · cases hq
 · cases hq
theorem name76:SpecOK Tryz.prog gl 76 specNameE:=nameE_ok TCF_ok fun l cap i hl hL hi=>w76 cf (fun s h hs=>by
 rw [mach_ext]
 show specName [.str s] h=_
 simp only [specName,if_pos hs]) (fun l x cap h hl=>by
 rw [mach_ext]
 show specContains [.vs (strs l) l.length cap,.str x] h=_
 simp only [specContains,strsAt_vs]
 rw [if_pos (by omega)]) l hl hL i hi
def T68:List (Nat×Spec):=[(68,specName)]
theorem name73:SpecOK Tryz.prog gl 73 specNameE:=nameE_ok (T:=T68) (tab_cons name68 tab_nil) fun l cap i hl hL hi=>w73 mach_ft (fun s h hs=>by
 rw [mach_ext]
 show specName [.str s] h=_
 simp only [specName,if_pos hs]) l hl hL i hi
def specStrs (f:List Str→Int):Spec:=fun
 | [v],h=>match strsAt h v with
   | some l=>if l.length<1000000∧shortL l=true then some ⟨.int .i64 (f l),h,[]⟩ else none
   | none=>none
 | _,_=>none
theorem specStrs_vs {f:List Str→Int} {l:List Str} {cap:Option Nat} {h:Heap} (hl:l.length<1000000) (hL:∀ s∈l,s.length<1000000):specStrs f [.vs (strs l) l.length cap] h=some ⟨.int .i64 (f l),h,[]⟩:=by
 simp only [specStrs,strsAt_vs]
 rw [if_pos ⟨hl,shortL_of hL⟩]
theorem strs_ok {g:Nat} {f:List Str→Int} {T:List (Nat×Spec)} (hT:ExtOK Tryz.prog gl (extS T)) (hr:∀ (l:List Str) cap,l.length<1000000→(∀ s∈l,s.length<1000000)→Run (mach Tryz.prog FT T) g [.vs (strs l) l.length cap] [] ⟨.int .i64 (f l),[],[]⟩):SpecOK Tryz.prog gl g (specStrs f):=by
 intro xs h r hq
 unfold specStrs at hq
 split at hq
 · split at hq
   · rename_i l hl
     split at hq
     · rename_i hc
       cases hq
       obtain ⟨S,cap,hf⟩:=(strsAt_sl hl).fr (fun _=>rfl)
       exact ent_run0 seat hT (hr l cap hc.1 (shortL_mem hc.2)) (.cons hf .nil) rfl (.inr rfl)
     · cases hq
   · cases hq
 · cases hq
def TC62:List (Nat×Spec):=[(64,specWhen),(63,specRange),(61,specFirst),(76,specNameE)]
theorem TC62_ok:ExtOK Tryz.prog gl (extS TC62):=tab_cons when64 (tab_cons range63 (tab_cons first61 (tab_cons name76 tab_nil)))
theorem ath62:SpecOK Tryz.prog gl 62 (specStrs athE):=strs_ok TC62_ok fun l cap hl hL=>w62 cf (fun l cap i h hl hL hi=>by
 rw [mach_ext];exact specNameE_vs hl hL hi) l hl hL
def T73:List (Nat×Spec):=[(73,specNameE)]
theorem ath65:SpecOK Tryz.prog gl 65 (specStrs athE):=strs_ok (T:=T73) (tab_cons name73 tab_nil) fun l cap hl hL=>w65 mach_ft (fun l cap i h hl hL hi=>by
 rw [mach_ext];exact specNameE_vs hl hL hi) l hl hL
def specShort:Spec:=fun
 | [v],h=>match strsAt h v with
   | some l=>some ⟨.bool (shortN l),h,[]⟩
   | none=>none
 | _,_=>none
theorem short9:SpecOK Tryz.prog gl 9 specShort:=by
 intro xs h r hq
 unfold specShort at hq
 split at hq
 · split at hq
   · rename_i l hl
     cases hq
     obtain ⟨S,cap,hf⟩:=(strsAt_sl hl).fr (fun _=>rfl)
     exact ent_run0 seat tab_nil (w9 (M:=mach Tryz.prog FT []) mach_ft l) (.cons hf .nil) rfl (.inr rfl)
   · cases hq
 · cases hq
theorem agg3_fr {h:Heap} {S:List Nat} {x y x' y' a:AV} (hx:Fr h S x y) (hx':Fr h S x' y') (ha:a.top=0):Fr h S (.agg [x,x',a]) (.agg [y,y',a]):=
 .agg rfl fun i p q hp hq=>by
  match i,hp,hq with
  | 0,hp,hq=>cases hp;cases hq;exact hx
  | 1,hp,hq=>cases hp;cases hq;exact hx'
  | 2,hp,hq=>cases hp;cases hq;exact .same ha
def TC11:List (Nat×Spec):=[(64,specWhen),(63,specRange),(61,specFirst),(62,specStrs athE)]
theorem TC11_ok:ExtOK Tryz.prog gl (extS TC11):=tab_cons when64 (tab_cons range63 (tab_cons first61 (tab_cons ath62 tab_nil)))
def T65:List (Nat×Spec):=[(65,specStrs athE)]
theorem T65_ok:ExtOK Tryz.prog gl (extS T65):=tab_cons ath65 tab_nil
def specVertical:Spec:=fun
 | [.agg [v,u,.int .i64 s]],h=>match strsAt h v,intsAt h u with
   | some l,some hs=>if l.length<1000000∧shortL l=true∧hs.length<1000000 then some ⟨.int .i64 (verticalE l hs s),h,[]⟩ else none
   | _,_=>none
 | _,_=>none
theorem vertical_ok {g:Nat} {T:List (Nat×Spec)} (hT:ExtOK Tryz.prog gl (extS T)) (hr:∀ (l:List Str) (hs:List Int) c1 c2 s,l.length<1000000→(∀ s∈l,s.length<1000000)→hs.length<1000000→Run (mach Tryz.prog FT T) g [.agg [.vs (strs l) l.length c1,.vs (ints hs) hs.length c2,.int .i64 s]] [] ⟨.int .i64 (verticalE l hs s),[],[]⟩):SpecOK Tryz.prog gl g specVertical:=by
 intro xs h r hq
 unfold specVertical at hq
 split at hq
 · split at hq
   · rename_i l hs hl hh
     split at hq
     · rename_i hc
       cases hq
       obtain ⟨S1,c1,f1⟩:=(strsAt_sl hl).fr (fun _=>rfl)
       obtain ⟨S2,c2,f2⟩:=(intsAt_sl hh).fr (fun _=>rfl)
       exact ent_run0 seat (S:=S1++S2) hT (hr l hs c1 c2 _ hc.1 (shortL_mem hc.2.1) hc.2.2) (.cons (agg3_fr (f1.mono (fun b hb=>List.mem_append_left _ hb)) (f2.mono (fun b hb=>List.mem_append_right _ hb)) rfl) .nil) rfl (.inr rfl)
     · cases hq
   · cases hq
 · cases hq
theorem vertical13:SpecOK Tryz.prog gl 13 specVertical:=vertical_ok TC11_ok fun l hs c1 c2 s hl hL hh=>w13 cf (fun l cap h hl hL=>by
 rw [mach_ext];exact specStrs_vs hl hL) l hs s hl hL hh
theorem vertical14:SpecOK Tryz.prog gl 14 specVertical:=vertical_ok T65_ok fun l hs c1 c2 s hl hL hh=>w14 mach_ft (fun l cap h hl hL=>by
 rw [mach_ext];exact specStrs_vs hl hL) l hs s hl hL hh
theorem vertical_vs {l:List Str} {hs:List Int} {c1 c2:Option Nat} {s:Int} {h:Heap} (hl:l.length<1000000) (hL:∀ s∈l,s.length<1000000) (hh:hs.length<1000000):specVertical [.agg [.vs (strs l) l.length c1,.vs (ints hs) hs.length c2,.int .i64 s]] h=some ⟨.int .i64 (verticalE l hs s),h,[]⟩:=by
 simp only [specVertical,strsAt_vs,intsAt_vs]
 rw [if_pos ⟨hl,shortL_of hL,hh⟩]
end Go.Ab.Ch6

/-
  Own work: the code of the functions that FieldActs needs.
-/
namespace Go.Ab.Ch6
set_option maxRecDepth 1000000
end Go.Ab.Ch6

/-
  Own work: acts of a competition: their errors, in plain words.
-/
namespace Go.Ab.Ch6
end Go.Ab.Ch6

/-
  Own work: acts: the kinds of acts, and what an act's check computes.
-/
namespace Go.Ab.Ch6
variable {M:Mach} {cap:Option Nat}
end Go.Ab.Ch6

/-
  Own work: acts: field.CheckAct and the reference's.
-/
namespace Go.Ab.Ch6
variable {M:Mach}
end Go.Ab.Ch6

/-
  Own work: acts: the reference's check, and the checks of lists.
-/
namespace Go.Ab.Ch6
variable {M:Mach} {cap:Option Nat}
end Go.Ab.Ch6

/-
  Own work: acts: lists of acts, checked, copied, corrected.
-/
namespace Go.Ab.Ch6
variable {M:Mach} {cap:Option Nat}
end Go.Ab.Ch6

/-
  Own work: chapter 6: the law FieldActs.
-/
namespace Go.Ab.Ch6
variable {M:Mach}
end Go.Ab.Ch6

/-
  Own work: chapter 6: the law FieldActs: a round without an error, and the whole.
-/
namespace Go.Ab.Ch6
variable {M:Mach}
end Go.Ab.Ch6

/-
  Own work: the contracts of FieldActs xs a table.
-/
namespace Go.Ab.Ch6
open Go.Proofs
end Go.Ab.Ch6

/-
  Own work: the code of the functions that FieldFinalists needs.
-/
namespace Go.Ab.Ch6
set_option maxRecDepth 1000000
def b139_0:ICode:=.seq (.region [⟨.l 12,.bin .lss (.p 9) (.p 8),none⟩]) (.seq (.cond (.l 12) (.skip) (.exit 0)) (.seq (.block 1 (.seq (.region [⟨.l 13,.mv (.p 9),none⟩,⟨.l 14,.iaddr none 1 (.p 7) (.p 9),none⟩,⟨.l 15,.load 1 false (.l 14),none⟩,⟨.p 3,.mv (.l 13),none⟩,⟨.p 4,.mv (.l 15),none⟩]) (.seq (.seq (.region [⟨.l 16,.mv (.p 3),none⟩,⟨.l 17,.mv (.p 1),none⟩,⟨.l 18,.len .sl (.l 17),none⟩,⟨.l 19,.bin .geq (.l 16) (.l 18),none⟩]) (.cond (.l 19) (.seq (.region [⟨.p 2,.mv (.c (.int .i64 (1))),none⟩]) (.ret)) (.skip))) (.seq (.region [⟨.l 20,.mv (.p 1),none⟩,⟨.l 21,.mv (.p 3),none⟩,⟨.l 22,.iaddr none 1 (.l 20) (.l 21),none⟩,⟨.l 23,.load 1 false (.l 22),none⟩,⟨.p 5,.mv (.l 23),none⟩]) (.seq (.region [⟨.l 24,.mv (.p 4),none⟩,⟨.l 25,.mv (.p 5),none⟩,⟨.l 26,.call (.c (.fn (.func 142) [] [])) [(.l 24),(.l 25)],none⟩,⟨.p 6,.mv (.l 26),none⟩]) (.seq (.region [⟨.l 27,.mv (.p 6),none⟩,⟨.l 28,.bin .neq (.l 27) (.c (.int .i64 (0))),none⟩]) (.cond (.l 28) (.seq (.region [⟨.l 29,.mv (.p 6),none⟩,⟨.p 2,.mv (.l 29),none⟩]) (.ret)) (.skip)))))))) (.region [⟨.l 30,.bin .add (.p 9) (.c (.int .i64 (1))),none⟩,⟨.p 9,.mv (.l 30),none⟩])))
def b139:ICode:=.seq (.region [⟨.p 2,.mv (.c (.int .i64 (0))),none⟩]) (.seq (.seq (.region [⟨.p 7,.mv (.p 0),none⟩,⟨.p 8,.len .sl (.p 7),none⟩,⟨.p 9,.mv (.c (.int .i64 (0))),none⟩]) (.block 0 (.loop b139_0))) (.seq (.seq (.region [⟨.l 31,.mv (.p 0),none⟩,⟨.l 32,.len .sl (.l 31),none⟩,⟨.l 33,.mv (.p 1),none⟩,⟨.l 34,.len .sl (.l 33),none⟩,⟨.l 35,.bin .lss (.l 32) (.l 34),none⟩]) (.cond (.l 35) (.seq (.region [⟨.p 2,.mv (.c (.int .i64 (-1))),none⟩]) (.ret)) (.skip))) (.seq (.region [⟨.p 2,.mv (.c (.int .i64 (0))),none⟩]) (.ret))))
theorem ft139:FT 139=some ⟨36,[0,1,4,5,6,7,8,9,10,11],[.var (.p 2)],b139⟩:=by kernel_rfl
end Go.Ab.Ch6

/-
  Own work: the code of the functions that FieldFinalists needs: sorts, the reference.
-/
namespace Go.Ab.Ch6
set_option maxRecDepth 1000000
end Go.Ab.Ch6

/-
  Own work: the code of the functions that FieldRanks needs.
-/
namespace Go.Ab.Ch6
set_option maxRecDepth 1000000
def b29_0:ICode:=.seq (.seq (.region [⟨.l 11,.mv (.p 3),none⟩,⟨.l 12,.mv (.p 0),none⟩,⟨.l 13,.len .sl (.l 12),none⟩,⟨.l 14,.bin .lss (.l 11) (.l 13),none⟩]) (.cond (.l 14) (.skip) (.exit 0))) (.seq (.block 1 (.seq (.draw [(⟨.l 17,.mv (.p 0),none⟩,[]),(⟨.l 18,.mv (.p 3),none⟩,[0]),(⟨.l 19,.iaddr none 5 (.l 17) (.l 18),none⟩,[]),(⟨.l 20,.load 5 true (.l 19),none⟩,[]),(⟨.l 21,.mv (.p 1),none⟩,[0,1,2,3]),(⟨.l 22,.mv (.p 3),none⟩,[0,1,2,3,4]),(⟨.l 23,.iaddr none 5 (.l 21) (.l 22),none⟩,[0,1,2,3]),(⟨.l 24,.load 5 true (.l 23),none⟩,[0,1,2,3]),(⟨.l 25,.eq true (.strct [(0,1,false,.str),(1,1,false,.int),(2,3,true,(.strct [(0,1,false,.str),(1,1,false,.int),(2,1,false,.str)]))]) (.l 20) (.l 24),none⟩,[])]) (.cond (.l 25) (.seq (.region [⟨.p 2,.mv (.c (.bool false)),none⟩]) (.ret)) (.skip)))) (.region [⟨.l 15,.mv (.p 3),none⟩,⟨.l 16,.bin .add (.l 15) (.c (.int .i64 (1))),none⟩,⟨.p 3,.mv (.l 16),none⟩]))
def b29:ICode:=.seq (.region [⟨.p 2,.mv (.c (.bool false)),none⟩]) (.seq (.seq (.region [⟨.l 6,.mv (.p 0),none⟩,⟨.l 7,.len .sl (.l 6),none⟩,⟨.l 8,.mv (.p 1),none⟩,⟨.l 9,.len .sl (.l 8),none⟩,⟨.l 10,.bin .neq (.l 7) (.l 9),none⟩]) (.cond (.l 10) (.seq (.region [⟨.p 2,.mv (.c (.bool false)),none⟩]) (.ret)) (.skip))) (.seq (.seq (.region [⟨.p 3,.mv (.c (.int .i64 (0))),none⟩]) (.block 0 (.loop b29_0))) (.seq (.region [⟨.p 2,.mv (.c (.bool true)),none⟩]) (.ret))))
theorem ft29:FT 29=some ⟨26,[0,1,4,5],[.var (.p 2)],b29⟩:=by kernel_rfl
def b30_0:ICode:=.seq (.region [⟨.l 9,.bin .lss (.p 6) (.p 5),none⟩]) (.seq (.cond (.l 9) (.skip) (.exit 0)) (.seq (.block 1 (.seq (.region [⟨.l 10,.iaddr none 5 (.p 4) (.p 6),none⟩,⟨.l 11,.load 5 true (.l 10),none⟩,⟨.p 3,.alloc 116 [.str [],.int .i64 (0),.str [],.int .i64 (0),.str []],none⟩,⟨.no,.store 5 (.p 3) (.l 11),none⟩]) (.region [⟨.l 12,.mv (.p 2),none⟩,⟨.l 13,.load 5 true (.p 3),none⟩,⟨.l 14,.bslice 74 1 5 [.str [],.int .i64 (0),.str [],.int .i64 (0),.str []] [(0,5,(.l 13))],none⟩,⟨.l 15,.append 74 5 64 (.l 12) (.l 14),none⟩,⟨.p 2,.mv (.l 15),none⟩]))) (.region [⟨.l 16,.bin .add (.p 6) (.c (.int .i64 (1))),none⟩,⟨.p 6,.mv (.l 16),none⟩])))
def b30:ICode:=.seq (.region [⟨.p 1,.mv (.c (.nilsl)),none⟩]) (.seq (.region [⟨.p 2,.mv (.c (.nilsl)),none⟩]) (.seq (.seq (.region [⟨.p 4,.mv (.p 0),none⟩,⟨.p 5,.len .sl (.p 4),none⟩,⟨.p 6,.mv (.c (.int .i64 (0))),none⟩]) (.block 0 (.loop b30_0))) (.seq (.region [⟨.l 17,.mv (.p 2),none⟩,⟨.p 1,.mv (.l 17),none⟩]) (.ret))))
theorem ft30:FT 30=some ⟨18,[0,2,3,5,6,7,8],[.var (.p 1)],b30⟩:=by kernel_rfl
def b89:ICode:=.seq (.region [⟨.p 2,.alloc 70 [.str [],.int .i64 (0),.str []],none⟩]) (.seq (.seq (.region [⟨.l 5,.mv (.p 0),none⟩,⟨.l 6,.un .not (.l 5),none⟩,⟨.l 7,.mv (.l 6),none⟩,⟨.l 8,.mv (.p 1),some ((.l 7),true)⟩,⟨.l 9,.pick (.l 7) (.l 8) (.c (.bool false)),none⟩]) (.cond (.l 9) (.seq (.region [⟨.l 10,.build [.str [],.int .i64 (0),.str []] [(0,1,(.c (.str [110,111,110,101]))),(2,1,(.c (.str [68,78,83])))],none⟩,⟨.no,.store 3 (.p 2) (.l 10),none⟩]) (.ret)) (.skip))) (.seq (.region [⟨.l 11,.build [.str [],.int .i64 (0),.str []] [(0,1,(.c (.str [110,111,110,101]))),(2,1,(.c (.str [78,77])))],none⟩,⟨.no,.store 3 (.p 2) (.l 11),none⟩]) (.ret)))
theorem ft89:FT 89=some ⟨12,[0,1,4],[.cell 3 true (.p 2)],b89⟩:=by kernel_rfl
def b94:ICode:=.seq (.region [⟨.p 1,.mv (.c (.nilsl)),none⟩]) (.seq (.region [⟨.l 3,.mv (.p 0),none⟩,⟨.l 4,.call (.c (.fn (.func 143) [] [])) [(.l 3),(.c (.fn (.func 144) [] []))],none⟩]) (.seq (.region [⟨.l 5,.mv (.p 0),none⟩,⟨.p 1,.mv (.l 5),none⟩]) (.ret)))
theorem ft94:FT 94=some ⟨6,[0,2],[.var (.p 1)],b94⟩:=by kernel_rfl
def b143:ICode:=.region [⟨.l 4,.mv (.p 0),none⟩,⟨.l 5,.mv (.p 0),none⟩,⟨.l 6,.len .sl (.l 5),none⟩,⟨.l 7,.mv (.p 1),none⟩,⟨.l 8,.call (.c (.fn (.func 193) [] [])) [(.l 4),(.l 6),(.l 7)],none⟩]
theorem ft143:FT 143=some ⟨9,[0,1],[],b143⟩:=by kernel_rfl
def b144:ICode:=.seq (.region [⟨.p 2,.box 116 5 (.p 0),none⟩,⟨.p 3,.box 116 5 (.p 1),none⟩,⟨.p 4,.mv (.c (.int .i64 (0))),none⟩]) (.seq (.draw [(⟨.l 5,.faddr 1 (.p 3),none⟩,[]),(⟨.l 6,.load 1 false (.l 5),none⟩,[]),(⟨.l 7,.mm false [(.l 6),(.c (.int .i64 (1)))],none⟩,[]),(⟨.l 8,.faddr 1 (.p 2),none⟩,[0,1,2]),(⟨.l 9,.load 1 false (.l 8),none⟩,[0,1,2]),(⟨.l 10,.mm false [(.l 9),(.c (.int .i64 (1)))],none⟩,[0,1,2]),(⟨.l 11,.call (.c (.fn (.func 142) [] [])) [(.l 7),(.l 10)],none⟩,[]),(⟨.l 12,.faddr 1 (.p 2),none⟩,[0,1,2,3,4,5,6]),(⟨.l 13,.load 1 false (.l 12),none⟩,[0,1,2,3,4,5,6]),(⟨.l 14,.faddr 1 (.p 3),none⟩,[0,1,2,3,4,5,6,7,8]),(⟨.l 15,.load 1 false (.l 14),none⟩,[0,1,2,3,4,5,6,7,8]),(⟨.l 16,.call (.c (.fn (.func 142) [] [])) [(.l 13),(.l 15)],none⟩,[]),(⟨.l 17,.bslice 3 2 1 [.int .i64 (0)] [(0,1,(.l 11)),(1,1,(.l 16))],none⟩,[]),(⟨.l 18,.call (.c (.fn (.func 145) [] [])) [(.l 17)],none⟩,[]),(⟨.p 4,.mv (.l 18),none⟩,[])]) (.ret))
theorem ft144:FT 144=some ⟨19,[0,1,2,3,4],[.var (.p 4)],b144⟩:=by kernel_rfl
def b145_0:ICode:=.seq (.region [⟨.l 9,.bin .lss (.p 6) (.p 5),none⟩]) (.seq (.cond (.l 9) (.skip) (.exit 0)) (.seq (.block 1 (.seq (.region [⟨.l 10,.iaddr none 1 (.p 4) (.p 6),none⟩,⟨.l 11,.load 1 false (.l 10),none⟩,⟨.p 3,.mv (.l 11),none⟩]) (.seq (.region [⟨.l 12,.mv (.p 3),none⟩,⟨.l 13,.mv (.p 2),none⟩,⟨.l 14,.bin .neq (.l 12) (.l 13),none⟩]) (.cond (.l 14) (.seq (.region [⟨.l 15,.mv (.p 3),none⟩,⟨.p 1,.mv (.l 15),none⟩]) (.ret)) (.skip))))) (.region [⟨.l 16,.bin .add (.p 6) (.c (.int .i64 (1))),none⟩,⟨.p 6,.mv (.l 16),none⟩])))
def b145:ICode:=.seq (.region [⟨.p 1,.mv (.c (.int .i64 (0))),none⟩]) (.seq (.region [⟨.p 2,.mv (.c (.int .i64 (0))),none⟩]) (.seq (.seq (.region [⟨.p 4,.mv (.p 0),none⟩,⟨.p 5,.len .sl (.p 4),none⟩,⟨.p 6,.mv (.c (.int .i64 (0))),none⟩]) (.block 0 (.loop b145_0))) (.seq (.region [⟨.l 17,.mv (.p 2),none⟩,⟨.p 1,.mv (.l 17),none⟩]) (.ret))))
theorem ft145:FT 145=some ⟨18,[0,2,3,5,6,7,8],[.var (.p 1)],b145⟩:=by kernel_rfl
def b142:ICode:=.seq (.region [⟨.p 2,.mv (.c (.int .i64 (0))),none⟩]) (.seq (.region [⟨.l 7,.mv (.p 0),none⟩,⟨.l 8,.call (.c (.fn (.func 192) [] [])) [(.l 7)],none⟩,⟨.p 3,.mv (.l 8),none⟩]) (.seq (.region [⟨.l 9,.mv (.p 1),none⟩,⟨.l 10,.call (.c (.fn (.func 192) [] [])) [(.l 9)],none⟩,⟨.p 4,.mv (.l 10),none⟩]) (.seq (.seq (.region [⟨.l 11,.mv (.p 3),none⟩]) (.cond (.l 11) (.seq (.seq (.region [⟨.l 12,.mv (.p 4),none⟩]) (.cond (.l 12) (.seq (.region [⟨.p 2,.mv (.c (.int .i64 (0))),none⟩]) (.ret)) (.skip))) (.seq (.region [⟨.p 2,.mv (.c (.int .i64 (-1))),none⟩]) (.ret))) (.skip))) (.seq (.seq (.region [⟨.l 13,.mv (.p 4),none⟩]) (.cond (.l 13) (.seq (.region [⟨.p 2,.mv (.c (.int .i64 (1))),none⟩]) (.ret)) (.skip))) (.seq (.seq (.region [⟨.l 14,.mv (.p 0),none⟩,⟨.l 15,.mv (.p 1),none⟩,⟨.l 16,.bin .lss (.l 14) (.l 15),none⟩]) (.cond (.l 16) (.seq (.region [⟨.p 2,.mv (.c (.int .i64 (-1))),none⟩]) (.ret)) (.skip))) (.seq (.seq (.region [⟨.l 17,.mv (.p 0),none⟩,⟨.l 18,.mv (.p 1),none⟩,⟨.l 19,.bin .gtr (.l 17) (.l 18),none⟩]) (.cond (.l 19) (.seq (.region [⟨.p 2,.mv (.c (.int .i64 (1))),none⟩]) (.ret)) (.skip))) (.seq (.region [⟨.p 2,.mv (.c (.int .i64 (0))),none⟩]) (.ret))))))))
theorem ft142:FT 142=some ⟨20,[0,1,4,5,6],[.var (.p 2)],b142⟩:=by kernel_rfl
def b192:ICode:=.seq (.region [⟨.p 1,.mv (.c (.bool false)),none⟩]) (.seq (.region [⟨.l 3,.mv (.p 0),none⟩,⟨.l 4,.mv (.p 0),none⟩,⟨.l 5,.bin .neq (.l 3) (.l 4),none⟩,⟨.p 1,.mv (.l 5),none⟩]) (.ret))
theorem ft192:FT 192=some ⟨6,[0,2],[.var (.p 1)],b192⟩:=by kernel_rfl
def b193_0:ICode:=.seq (.seq (.region [⟨.l 11,.mv (.p 5),none⟩,⟨.l 12,.mv (.p 1),none⟩,⟨.l 13,.bin .leq (.l 11) (.l 12),none⟩]) (.cond (.l 13) (.skip) (.exit 0))) (.block 1 (.seq (.region [⟨.l 14,.mv (.p 0),none⟩,⟨.l 15,.mv (.p 4),none⟩,⟨.l 16,.mv (.p 5),none⟩,⟨.l 17,.mv (.p 2),none⟩,⟨.l 18,.call (.c (.fn (.func 229) [] [])) [(.l 14),(.l 15),(.l 16),(.l 17)],none⟩]) (.seq (.region [⟨.l 19,.mv (.p 5),none⟩,⟨.p 4,.mv (.l 19),none⟩]) (.region [⟨.l 20,.mv (.p 5),none⟩,⟨.l 21,.mv (.p 3),none⟩,⟨.l 22,.bin .add (.l 20) (.l 21),none⟩,⟨.p 5,.mv (.l 22),none⟩]))))
def b193_1:ICode:=.seq (.seq (.region [⟨.l 33,.mv (.p 5),none⟩,⟨.l 34,.mv (.p 1),none⟩,⟨.l 35,.bin .leq (.l 33) (.l 34),none⟩]) (.cond (.l 35) (.skip) (.exit 4))) (.block 5 (.seq (.region [⟨.l 36,.mv (.p 0),none⟩,⟨.l 37,.mv (.p 4),none⟩,⟨.l 38,.mv (.p 4),none⟩,⟨.l 39,.mv (.p 3),none⟩,⟨.l 40,.bin .add (.l 38) (.l 39),none⟩,⟨.l 41,.mv (.p 5),none⟩,⟨.l 42,.mv (.p 2),none⟩,⟨.l 43,.call (.c (.fn (.func 230) [] [])) [(.l 36),(.l 37),(.l 40),(.l 41),(.l 42)],none⟩]) (.seq (.region [⟨.l 44,.mv (.p 5),none⟩,⟨.p 4,.mv (.l 44),none⟩]) (.region [⟨.l 45,.mv (.p 5),none⟩,⟨.l 46,.mv (.p 3),none⟩,⟨.l 47,.bin .mul (.c (.int .i64 (2))) (.l 46),none⟩,⟨.l 48,.bin .add (.l 45) (.l 47),none⟩,⟨.p 5,.mv (.l 48),none⟩]))))
def b193_2:ICode:=.seq (.seq (.region [⟨.l 28,.mv (.p 3),none⟩,⟨.l 29,.mv (.p 1),none⟩,⟨.l 30,.bin .lss (.l 28) (.l 29),none⟩]) (.cond (.l 30) (.skip) (.exit 2))) (.block 3 (.seq (.region [⟨.l 31,.mv (.p 3),none⟩,⟨.l 32,.bin .mul (.c (.int .i64 (2))) (.l 31),none⟩,⟨.p 4,.mv (.c (.int .i64 (0))),none⟩,⟨.p 5,.mv (.l 32),none⟩]) (.seq (.block 4 (.loop b193_1)) (.seq (.seq (.region [⟨.l 49,.mv (.p 4),none⟩,⟨.l 50,.mv (.p 3),none⟩,⟨.l 51,.bin .add (.l 49) (.l 50),none⟩,⟨.p 6,.mv (.l 51),none⟩]) (.seq (.region [⟨.l 52,.mv (.p 6),none⟩,⟨.l 53,.mv (.p 1),none⟩,⟨.l 54,.bin .lss (.l 52) (.l 53),none⟩]) (.cond (.l 54) (.region [⟨.l 55,.mv (.p 0),none⟩,⟨.l 56,.mv (.p 4),none⟩,⟨.l 57,.mv (.p 6),none⟩,⟨.l 58,.mv (.p 1),none⟩,⟨.l 59,.mv (.p 2),none⟩,⟨.l 60,.call (.c (.fn (.func 230) [] [])) [(.l 55),(.l 56),(.l 57),(.l 58),(.l 59)],none⟩]) (.skip)))) (.region [⟨.l 61,.mv (.p 3),none⟩,⟨.l 62,.bin .mul (.l 61) (.c (.int .i64 (2))),none⟩,⟨.p 3,.mv (.l 62),none⟩])))))
def b193:ICode:=.seq (.region [⟨.p 3,.mv (.c (.int .i64 (20))),none⟩]) (.seq (.region [⟨.l 10,.mv (.p 3),none⟩,⟨.p 4,.mv (.c (.int .i64 (0))),none⟩,⟨.p 5,.mv (.l 10),none⟩]) (.seq (.block 0 (.loop b193_0)) (.seq (.region [⟨.l 23,.mv (.p 0),none⟩,⟨.l 24,.mv (.p 4),none⟩,⟨.l 25,.mv (.p 1),none⟩,⟨.l 26,.mv (.p 2),none⟩,⟨.l 27,.call (.c (.fn (.func 229) [] [])) [(.l 23),(.l 24),(.l 25),(.l 26)],none⟩]) (.block 2 (.loop b193_2)))))
theorem ft193:FT 193=some ⟨63,[0,1,2,6,7,8,9],[],b193⟩:=by kernel_rfl
def b229_0:ICode:=.seq (.seq (.draw [(⟨.l 18,.mv (.p 5),none⟩,[]),(⟨.l 19,.mv (.p 1),none⟩,[0]),(⟨.l 20,.bin .gtr (.l 18) (.l 19),none⟩,[]),(⟨.l 21,.mv (.l 20),none⟩,[]),(⟨.l 22,.mv (.p 3),some ((.l 21),true)⟩,[]),(⟨.l 23,.mv (.p 0),some ((.l 21),true)⟩,[4]),(⟨.l 24,.mv (.p 5),some ((.l 21),true)⟩,[4,5]),(⟨.l 25,.iaddr none 5 (.l 23) (.l 24),some ((.l 21),true)⟩,[4]),(⟨.l 26,.load 5 true (.l 25),some ((.l 21),true)⟩,[4]),(⟨.l 27,.mv (.p 0),some ((.l 21),true)⟩,[4,5,6,7,8]),(⟨.l 28,.mv (.p 5),some ((.l 21),true)⟩,[4,5,6,7,8,9]),(⟨.l 29,.bin .sub (.l 28) (.c (.int .i64 (1))),some ((.l 21),true)⟩,[4,5,6,7,8,9]),(⟨.l 30,.iaddr none 5 (.l 27) (.l 29),some ((.l 21),true)⟩,[4,5,6,7,8]),(⟨.l 31,.load 5 true (.l 30),some ((.l 21),true)⟩,[4,5,6,7,8]),(⟨.l 32,.call (.l 22) [(.l 26),(.l 31)],some ((.l 21),true)⟩,[]),(⟨.l 33,.bin .lss (.l 32) (.c (.int .i64 (0))),some ((.l 21),true)⟩,[]),(⟨.l 34,.pick (.l 21) (.l 33) (.c (.bool false)),none⟩,[])]) (.cond (.l 34) (.skip) (.exit 2))) (.seq (.block 3 (.draw [(⟨.l 37,.mv (.p 0),none⟩,[]),(⟨.l 38,.mv (.p 5),none⟩,[0]),(⟨.l 39,.mv (.p 0),none⟩,[0,1]),(⟨.l 40,.mv (.p 5),none⟩,[0,1,2]),(⟨.l 41,.bin .sub (.l 40) (.c (.int .i64 (1))),none⟩,[0,1,2]),(⟨.l 42,.mv (.p 0),none⟩,[0,1,2,3,4]),(⟨.l 43,.mv (.p 5),none⟩,[0,1,2,3,4,5]),(⟨.l 44,.bin .sub (.l 43) (.c (.int .i64 (1))),none⟩,[0,1,2,3,4,5]),(⟨.l 45,.iaddr none 5 (.l 42) (.l 44),none⟩,[0,1,2,3,4]),(⟨.l 46,.load 5 true (.l 45),none⟩,[0,1,2,3,4]),(⟨.l 47,.mv (.p 0),none⟩,[0,1,2,3,4,5,6,7,8,9]),(⟨.l 48,.mv (.p 5),none⟩,[0,1,2,3,4,5,6,7,8,9,10]),(⟨.l 49,.iaddr none 5 (.l 47) (.l 48),none⟩,[0,1,2,3,4,5,6,7,8,9]),(⟨.l 50,.load 5 true (.l 49),none⟩,[0,1,2,3,4,5,6,7,8,9]),(⟨.l 51,.iaddr none 5 (.l 37) (.l 38),none⟩,[2,3,4]),(⟨.no,.store 5 (.l 51) (.l 46),none⟩,[2,3,4]),(⟨.l 52,.iaddr none 5 (.l 39) (.l 41),none⟩,[]),(⟨.no,.store 5 (.l 52) (.l 50),none⟩,[])])) (.region [⟨.l 35,.mv (.p 5),none⟩,⟨.l 36,.bin .sub (.l 35) (.c (.int .i64 (1))),none⟩,⟨.p 5,.mv (.l 36),none⟩]))
def b229_1:ICode:=.seq (.seq (.region [⟨.l 12,.mv (.p 4),none⟩,⟨.l 13,.mv (.p 2),none⟩,⟨.l 14,.bin .lss (.l 12) (.l 13),none⟩]) (.cond (.l 14) (.skip) (.exit 0))) (.seq (.block 1 (.seq (.region [⟨.l 17,.mv (.p 4),none⟩,⟨.p 5,.mv (.l 17),none⟩]) (.block 2 (.loop b229_0)))) (.region [⟨.l 15,.mv (.p 4),none⟩,⟨.l 16,.bin .add (.l 15) (.c (.int .i64 (1))),none⟩,⟨.p 4,.mv (.l 16),none⟩]))
def b229:ICode:=.seq (.region [⟨.l 10,.mv (.p 1),none⟩,⟨.l 11,.bin .add (.l 10) (.c (.int .i64 (1))),none⟩,⟨.p 4,.mv (.l 11),none⟩]) (.block 0 (.loop b229_1))
theorem ft229:FT 229=some ⟨53,[0,1,2,3,8,9],[],b229⟩:=by kernel_rfl
def b230_0:ICode:=.seq (.seq (.region [⟨.l 31,.mv (.p 5),none⟩,⟨.l 32,.mv (.p 6),none⟩,⟨.l 33,.bin .lss (.l 31) (.l 32),none⟩]) (.cond (.l 33) (.skip) (.exit 0))) (.block 1 (.seq (.region [⟨.l 34,.mv (.p 5),none⟩,⟨.l 35,.mv (.p 6),none⟩,⟨.l 36,.bin .add (.l 34) (.l 35),none⟩,⟨.l 37,.convInt .u64 (.l 36),none⟩,⟨.l 38,.bin .shr (.l 37) (.c (.int .u64 (1))),none⟩,⟨.l 39,.convInt .i64 (.l 38),none⟩,⟨.p 7,.mv (.l 39),none⟩]) (.seq (.draw [(⟨.l 40,.mv (.p 4),none⟩,[]),(⟨.l 41,.mv (.p 0),none⟩,[0]),(⟨.l 42,.mv (.p 7),none⟩,[0,1]),(⟨.l 43,.iaddr none 5 (.l 41) (.l 42),none⟩,[0]),(⟨.l 44,.load 5 true (.l 43),none⟩,[0]),(⟨.l 45,.mv (.p 0),none⟩,[0,1,2,3,4]),(⟨.l 46,.mv (.p 1),none⟩,[0,1,2,3,4,5]),(⟨.l 47,.iaddr none 5 (.l 45) (.l 46),none⟩,[0,1,2,3,4]),(⟨.l 48,.load 5 true (.l 47),none⟩,[0,1,2,3,4]),(⟨.l 49,.call (.l 40) [(.l 44),(.l 48)],none⟩,[]),(⟨.l 50,.bin .lss (.l 49) (.c (.int .i64 (0))),none⟩,[])]) (.cond (.l 50) (.region [⟨.l 51,.mv (.p 7),none⟩,⟨.l 52,.bin .add (.l 51) (.c (.int .i64 (1))),none⟩,⟨.p 5,.mv (.l 52),none⟩]) (.region [⟨.l 53,.mv (.p 7),none⟩,⟨.p 6,.mv (.l 53),none⟩])))))
def b230_1:ICode:=.seq (.seq (.region [⟨.l 55,.mv (.p 8),none⟩,⟨.l 56,.mv (.p 5),none⟩,⟨.l 57,.bin .sub (.l 56) (.c (.int .i64 (1))),none⟩,⟨.l 58,.bin .lss (.l 55) (.l 57),none⟩]) (.cond (.l 58) (.skip) (.exit 2))) (.seq (.block 3 (.draw [(⟨.l 61,.mv (.p 0),none⟩,[]),(⟨.l 62,.mv (.p 8),none⟩,[0]),(⟨.l 63,.mv (.p 0),none⟩,[0,1]),(⟨.l 64,.mv (.p 8),none⟩,[0,1,2]),(⟨.l 65,.bin .add (.l 64) (.c (.int .i64 (1))),none⟩,[0,1,2]),(⟨.l 66,.mv (.p 0),none⟩,[0,1,2,3,4]),(⟨.l 67,.mv (.p 8),none⟩,[0,1,2,3,4,5]),(⟨.l 68,.bin .add (.l 67) (.c (.int .i64 (1))),none⟩,[0,1,2,3,4,5]),(⟨.l 69,.iaddr none 5 (.l 66) (.l 68),none⟩,[0,1,2,3,4]),(⟨.l 70,.load 5 true (.l 69),none⟩,[0,1,2,3,4]),(⟨.l 71,.mv (.p 0),none⟩,[0,1,2,3,4,5,6,7,8,9]),(⟨.l 72,.mv (.p 8),none⟩,[0,1,2,3,4,5,6,7,8,9,10]),(⟨.l 73,.iaddr none 5 (.l 71) (.l 72),none⟩,[0,1,2,3,4,5,6,7,8,9]),(⟨.l 74,.load 5 true (.l 73),none⟩,[0,1,2,3,4,5,6,7,8,9]),(⟨.l 75,.iaddr none 5 (.l 61) (.l 62),none⟩,[2,3,4]),(⟨.no,.store 5 (.l 75) (.l 70),none⟩,[2,3,4]),(⟨.l 76,.iaddr none 5 (.l 63) (.l 65),none⟩,[]),(⟨.no,.store 5 (.l 76) (.l 74),none⟩,[])])) (.region [⟨.l 59,.mv (.p 8),none⟩,⟨.l 60,.bin .add (.l 59) (.c (.int .i64 (1))),none⟩,⟨.p 8,.mv (.l 60),none⟩]))
def b230_2:ICode:=.seq (.seq (.region [⟨.l 83,.mv (.p 9),none⟩,⟨.l 84,.mv (.p 10),none⟩,⟨.l 85,.bin .lss (.l 83) (.l 84),none⟩]) (.cond (.l 85) (.skip) (.exit 4))) (.block 5 (.seq (.region [⟨.l 86,.mv (.p 9),none⟩,⟨.l 87,.mv (.p 10),none⟩,⟨.l 88,.bin .add (.l 86) (.l 87),none⟩,⟨.l 89,.convInt .u64 (.l 88),none⟩,⟨.l 90,.bin .shr (.l 89) (.c (.int .u64 (1))),none⟩,⟨.l 91,.convInt .i64 (.l 90),none⟩,⟨.p 11,.mv (.l 91),none⟩]) (.seq (.draw [(⟨.l 92,.mv (.p 4),none⟩,[]),(⟨.l 93,.mv (.p 0),none⟩,[0]),(⟨.l 94,.mv (.p 2),none⟩,[0,1]),(⟨.l 95,.iaddr none 5 (.l 93) (.l 94),none⟩,[0]),(⟨.l 96,.load 5 true (.l 95),none⟩,[0]),(⟨.l 97,.mv (.p 0),none⟩,[0,1,2,3,4]),(⟨.l 98,.mv (.p 11),none⟩,[0,1,2,3,4,5]),(⟨.l 99,.iaddr none 5 (.l 97) (.l 98),none⟩,[0,1,2,3,4]),(⟨.l 100,.load 5 true (.l 99),none⟩,[0,1,2,3,4]),(⟨.l 101,.call (.l 92) [(.l 96),(.l 100)],none⟩,[]),(⟨.l 102,.bin .lss (.l 101) (.c (.int .i64 (0))),none⟩,[]),(⟨.l 103,.un .not (.l 102),none⟩,[])]) (.cond (.l 103) (.region [⟨.l 104,.mv (.p 11),none⟩,⟨.l 105,.bin .add (.l 104) (.c (.int .i64 (1))),none⟩,⟨.p 9,.mv (.l 105),none⟩]) (.region [⟨.l 106,.mv (.p 11),none⟩,⟨.p 10,.mv (.l 106),none⟩])))))
def b230_3:ICode:=.seq (.seq (.region [⟨.l 108,.mv (.p 12),none⟩,⟨.l 109,.mv (.p 9),none⟩,⟨.l 110,.bin .gtr (.l 108) (.l 109),none⟩]) (.cond (.l 110) (.skip) (.exit 6))) (.seq (.block 7 (.draw [(⟨.l 113,.mv (.p 0),none⟩,[]),(⟨.l 114,.mv (.p 12),none⟩,[0]),(⟨.l 115,.mv (.p 0),none⟩,[0,1]),(⟨.l 116,.mv (.p 12),none⟩,[0,1,2]),(⟨.l 117,.bin .sub (.l 116) (.c (.int .i64 (1))),none⟩,[0,1,2]),(⟨.l 118,.mv (.p 0),none⟩,[0,1,2,3,4]),(⟨.l 119,.mv (.p 12),none⟩,[0,1,2,3,4,5]),(⟨.l 120,.bin .sub (.l 119) (.c (.int .i64 (1))),none⟩,[0,1,2,3,4,5]),(⟨.l 121,.iaddr none 5 (.l 118) (.l 120),none⟩,[0,1,2,3,4]),(⟨.l 122,.load 5 true (.l 121),none⟩,[0,1,2,3,4]),(⟨.l 123,.mv (.p 0),none⟩,[0,1,2,3,4,5,6,7,8,9]),(⟨.l 124,.mv (.p 12),none⟩,[0,1,2,3,4,5,6,7,8,9,10]),(⟨.l 125,.iaddr none 5 (.l 123) (.l 124),none⟩,[0,1,2,3,4,5,6,7,8,9]),(⟨.l 126,.load 5 true (.l 125),none⟩,[0,1,2,3,4,5,6,7,8,9]),(⟨.l 127,.iaddr none 5 (.l 113) (.l 114),none⟩,[2,3,4]),(⟨.no,.store 5 (.l 127) (.l 122),none⟩,[2,3,4]),(⟨.l 128,.iaddr none 5 (.l 115) (.l 117),none⟩,[]),(⟨.no,.store 5 (.l 128) (.l 126),none⟩,[])])) (.region [⟨.l 111,.mv (.p 12),none⟩,⟨.l 112,.bin .sub (.l 111) (.c (.int .i64 (1))),none⟩,⟨.p 12,.mv (.l 112),none⟩]))
def b230_4:ICode:=.seq (.seq (.region [⟨.l 149,.mv (.p 15),none⟩,⟨.l 150,.mv (.p 16),none⟩,⟨.l 151,.bin .lss (.l 149) (.l 150),none⟩]) (.cond (.l 151) (.skip) (.exit 8))) (.block 9 (.seq (.region [⟨.l 152,.mv (.p 15),none⟩,⟨.l 153,.mv (.p 16),none⟩,⟨.l 154,.bin .add (.l 152) (.l 153),none⟩,⟨.l 155,.convInt .u64 (.l 154),none⟩,⟨.l 156,.bin .shr (.l 155) (.c (.int .u64 (1))),none⟩,⟨.l 157,.convInt .i64 (.l 156),none⟩,⟨.p 18,.mv (.l 157),none⟩]) (.seq (.draw [(⟨.l 158,.mv (.p 4),none⟩,[]),(⟨.l 159,.mv (.p 0),none⟩,[0]),(⟨.l 160,.mv (.p 17),none⟩,[0,1]),(⟨.l 161,.mv (.p 18),none⟩,[0,1,2]),(⟨.l 162,.bin .sub (.l 160) (.l 161),none⟩,[0,1]),(⟨.l 163,.iaddr none 5 (.l 159) (.l 162),none⟩,[0]),(⟨.l 164,.load 5 true (.l 163),none⟩,[0]),(⟨.l 165,.mv (.p 0),none⟩,[0,1,2,3,4,5,6]),(⟨.l 166,.mv (.p 18),none⟩,[0,1,2,3,4,5,6,7]),(⟨.l 167,.iaddr none 5 (.l 165) (.l 166),none⟩,[0,1,2,3,4,5,6]),(⟨.l 168,.load 5 true (.l 167),none⟩,[0,1,2,3,4,5,6]),(⟨.l 169,.call (.l 158) [(.l 164),(.l 168)],none⟩,[]),(⟨.l 170,.bin .lss (.l 169) (.c (.int .i64 (0))),none⟩,[]),(⟨.l 171,.un .not (.l 170),none⟩,[])]) (.cond (.l 171) (.region [⟨.l 172,.mv (.p 18),none⟩,⟨.l 173,.bin .add (.l 172) (.c (.int .i64 (1))),none⟩,⟨.p 15,.mv (.l 173),none⟩]) (.region [⟨.l 174,.mv (.p 18),none⟩,⟨.p 16,.mv (.l 174),none⟩])))))
def b230:ICode:=.seq (.seq (.region [⟨.l 25,.mv (.p 2),none⟩,⟨.l 26,.mv (.p 1),none⟩,⟨.l 27,.bin .sub (.l 25) (.l 26),none⟩,⟨.l 28,.bin .eql (.l 27) (.c (.int .i64 (1))),none⟩]) (.cond (.l 28) (.seq (.region [⟨.l 29,.mv (.p 2),none⟩,⟨.p 5,.mv (.l 29),none⟩]) (.seq (.region [⟨.l 30,.mv (.p 3),none⟩,⟨.p 6,.mv (.l 30),none⟩]) (.seq (.block 0 (.loop b230_0)) (.seq (.seq (.region [⟨.l 54,.mv (.p 1),none⟩,⟨.p 8,.mv (.l 54),none⟩]) (.block 2 (.loop b230_1))) (.ret))))) (.skip))) (.seq (.seq (.region [⟨.l 77,.mv (.p 3),none⟩,⟨.l 78,.mv (.p 2),none⟩,⟨.l 79,.bin .sub (.l 77) (.l 78),none⟩,⟨.l 80,.bin .eql (.l 79) (.c (.int .i64 (1))),none⟩]) (.cond (.l 80) (.seq (.region [⟨.l 81,.mv (.p 1),none⟩,⟨.p 9,.mv (.l 81),none⟩]) (.seq (.region [⟨.l 82,.mv (.p 2),none⟩,⟨.p 10,.mv (.l 82),none⟩]) (.seq (.block 4 (.loop b230_2)) (.seq (.seq (.region [⟨.l 107,.mv (.p 2),none⟩,⟨.p 12,.mv (.l 107),none⟩]) (.block 6 (.loop b230_3))) (.ret))))) (.skip))) (.seq (.region [⟨.l 129,.mv (.p 1),none⟩,⟨.l 130,.mv (.p 3),none⟩,⟨.l 131,.bin .add (.l 129) (.l 130),none⟩,⟨.l 132,.convInt .u64 (.l 131),none⟩,⟨.l 133,.bin .shr (.l 132) (.c (.int .u64 (1))),none⟩,⟨.l 134,.convInt .i64 (.l 133),none⟩,⟨.p 13,.mv (.l 134),none⟩]) (.seq (.region [⟨.l 135,.mv (.p 13),none⟩,⟨.l 136,.mv (.p 2),none⟩,⟨.l 137,.bin .add (.l 135) (.l 136),none⟩,⟨.p 14,.mv (.l 137),none⟩]) (.seq (.region [⟨.p 15,.mv (.c (.int .i64 (0))),none⟩,⟨.p 16,.mv (.c (.int .i64 (0))),none⟩]) (.seq (.seq (.region [⟨.l 138,.mv (.p 2),none⟩,⟨.l 139,.mv (.p 13),none⟩,⟨.l 140,.bin .gtr (.l 138) (.l 139),none⟩]) (.cond (.l 140) (.seq (.region [⟨.l 141,.mv (.p 14),none⟩,⟨.l 142,.mv (.p 3),none⟩,⟨.l 143,.bin .sub (.l 141) (.l 142),none⟩,⟨.p 15,.mv (.l 143),none⟩]) (.region [⟨.l 144,.mv (.p 13),none⟩,⟨.p 16,.mv (.l 144),none⟩])) (.seq (.region [⟨.l 145,.mv (.p 1),none⟩,⟨.p 15,.mv (.l 145),none⟩]) (.region [⟨.l 146,.mv (.p 2),none⟩,⟨.p 16,.mv (.l 146),none⟩])))) (.seq (.region [⟨.l 147,.mv (.p 14),none⟩,⟨.l 148,.bin .sub (.l 147) (.c (.int .i64 (1))),none⟩,⟨.p 17,.mv (.l 148),none⟩]) (.seq (.block 8 (.loop b230_4)) (.seq (.region [⟨.l 175,.mv (.p 14),none⟩,⟨.l 176,.mv (.p 15),none⟩,⟨.l 177,.bin .sub (.l 175) (.l 176),none⟩,⟨.p 19,.mv (.l 177),none⟩]) (.seq (.seq (.region [⟨.l 178,.mv (.p 15),none⟩,⟨.l 179,.mv (.p 2),none⟩,⟨.l 180,.bin .lss (.l 178) (.l 179),none⟩,⟨.l 181,.mv (.l 180),none⟩,⟨.l 182,.mv (.p 2),some ((.l 181),true)⟩,⟨.l 183,.mv (.p 19),some ((.l 181),true)⟩,⟨.l 184,.bin .lss (.l 182) (.l 183),some ((.l 181),true)⟩,⟨.l 185,.pick (.l 181) (.l 184) (.c (.bool false)),none⟩]) (.cond (.l 185) (.region [⟨.l 186,.mv (.p 0),none⟩,⟨.l 187,.mv (.p 15),none⟩,⟨.l 188,.mv (.p 2),none⟩,⟨.l 189,.mv (.p 19),none⟩,⟨.l 190,.mv (.p 4),none⟩,⟨.l 191,.call (.c (.fn (.func 253) [] [])) [(.l 186),(.l 187),(.l 188),(.l 189),(.l 190)],none⟩]) (.skip))) (.seq (.seq (.region [⟨.l 192,.mv (.p 1),none⟩,⟨.l 193,.mv (.p 15),none⟩,⟨.l 194,.bin .lss (.l 192) (.l 193),none⟩,⟨.l 195,.mv (.l 194),none⟩,⟨.l 196,.mv (.p 15),some ((.l 195),true)⟩,⟨.l 197,.mv (.p 13),some ((.l 195),true)⟩,⟨.l 198,.bin .lss (.l 196) (.l 197),some ((.l 195),true)⟩,⟨.l 199,.pick (.l 195) (.l 198) (.c (.bool false)),none⟩]) (.cond (.l 199) (.region [⟨.l 200,.mv (.p 0),none⟩,⟨.l 201,.mv (.p 1),none⟩,⟨.l 202,.mv (.p 15),none⟩,⟨.l 203,.mv (.p 13),none⟩,⟨.l 204,.mv (.p 4),none⟩,⟨.l 205,.call (.c (.fn (.func 230) [] [])) [(.l 200),(.l 201),(.l 202),(.l 203),(.l 204)],none⟩]) (.skip))) (.seq (.region [⟨.l 206,.mv (.p 13),none⟩,⟨.l 207,.mv (.p 19),none⟩,⟨.l 208,.bin .lss (.l 206) (.l 207),none⟩,⟨.l 209,.mv (.l 208),none⟩,⟨.l 210,.mv (.p 19),some ((.l 209),true)⟩,⟨.l 211,.mv (.p 3),some ((.l 209),true)⟩,⟨.l 212,.bin .lss (.l 210) (.l 211),some ((.l 209),true)⟩,⟨.l 213,.pick (.l 209) (.l 212) (.c (.bool false)),none⟩]) (.cond (.l 213) (.region [⟨.l 214,.mv (.p 0),none⟩,⟨.l 215,.mv (.p 13),none⟩,⟨.l 216,.mv (.p 19),none⟩,⟨.l 217,.mv (.p 3),none⟩,⟨.l 218,.mv (.p 4),none⟩,⟨.l 219,.call (.c (.fn (.func 230) [] [])) [(.l 214),(.l 215),(.l 216),(.l 217),(.l 218)],none⟩]) (.skip)))))))))))))
theorem ft230:FT 230=some ⟨220,[0,1,2,3,4,10,11,12,13,14,15,16,17,18,19,20,21,22,23,24],[],b230⟩:=by kernel_rfl
def b253_0:ICode:=.seq (.seq (.region [⟨.l 18,.mv (.p 5),none⟩,⟨.l 19,.mv (.p 6),none⟩,⟨.l 20,.bin .neq (.l 18) (.l 19),none⟩]) (.cond (.l 20) (.skip) (.exit 0))) (.block 1 (.seq (.region [⟨.l 21,.mv (.p 5),none⟩,⟨.l 22,.mv (.p 6),none⟩,⟨.l 23,.bin .gtr (.l 21) (.l 22),none⟩]) (.cond (.l 23) (.seq (.region [⟨.l 24,.mv (.p 0),none⟩,⟨.l 25,.mv (.p 2),none⟩,⟨.l 26,.mv (.p 5),none⟩,⟨.l 27,.bin .sub (.l 25) (.l 26),none⟩,⟨.l 28,.mv (.p 2),none⟩,⟨.l 29,.mv (.p 6),none⟩,⟨.l 30,.mv (.p 4),none⟩,⟨.l 31,.call (.c (.fn (.func 284) [] [])) [(.l 24),(.l 27),(.l 28),(.l 29),(.l 30)],none⟩]) (.region [⟨.l 32,.mv (.p 5),none⟩,⟨.l 33,.mv (.p 6),none⟩,⟨.l 34,.bin .sub (.l 32) (.l 33),none⟩,⟨.p 5,.mv (.l 34),none⟩])) (.seq (.region [⟨.l 35,.mv (.p 0),none⟩,⟨.l 36,.mv (.p 2),none⟩,⟨.l 37,.mv (.p 5),none⟩,⟨.l 38,.bin .sub (.l 36) (.l 37),none⟩,⟨.l 39,.mv (.p 2),none⟩,⟨.l 40,.mv (.p 6),none⟩,⟨.l 41,.bin .add (.l 39) (.l 40),none⟩,⟨.l 42,.mv (.p 5),none⟩,⟨.l 43,.bin .sub (.l 41) (.l 42),none⟩,⟨.l 44,.mv (.p 5),none⟩,⟨.l 45,.mv (.p 4),none⟩,⟨.l 46,.call (.c (.fn (.func 284) [] [])) [(.l 35),(.l 38),(.l 43),(.l 44),(.l 45)],none⟩]) (.region [⟨.l 47,.mv (.p 6),none⟩,⟨.l 48,.mv (.p 5),none⟩,⟨.l 49,.bin .sub (.l 47) (.l 48),none⟩,⟨.p 6,.mv (.l 49),none⟩])))))
def b253:ICode:=.seq (.region [⟨.l 12,.mv (.p 2),none⟩,⟨.l 13,.mv (.p 1),none⟩,⟨.l 14,.bin .sub (.l 12) (.l 13),none⟩,⟨.p 5,.mv (.l 14),none⟩]) (.seq (.region [⟨.l 15,.mv (.p 3),none⟩,⟨.l 16,.mv (.p 2),none⟩,⟨.l 17,.bin .sub (.l 15) (.l 16),none⟩,⟨.p 6,.mv (.l 17),none⟩]) (.seq (.block 0 (.loop b253_0)) (.region [⟨.l 50,.mv (.p 0),none⟩,⟨.l 51,.mv (.p 2),none⟩,⟨.l 52,.mv (.p 5),none⟩,⟨.l 53,.bin .sub (.l 51) (.l 52),none⟩,⟨.l 54,.mv (.p 2),none⟩,⟨.l 55,.mv (.p 5),none⟩,⟨.l 56,.mv (.p 4),none⟩,⟨.l 57,.call (.c (.fn (.func 284) [] [])) [(.l 50),(.l 53),(.l 54),(.l 55),(.l 56)],none⟩])))
theorem ft253:FT 253=some ⟨58,[0,1,2,3,4,10,11],[],b253⟩:=by kernel_rfl
def b284_0:ICode:=.seq (.seq (.region [⟨.l 11,.mv (.p 5),none⟩,⟨.l 12,.mv (.p 3),none⟩,⟨.l 13,.bin .lss (.l 11) (.l 12),none⟩]) (.cond (.l 13) (.skip) (.exit 0))) (.seq (.block 1 (.draw [(⟨.l 16,.mv (.p 0),none⟩,[]),(⟨.l 17,.mv (.p 1),none⟩,[0]),(⟨.l 18,.mv (.p 5),none⟩,[0,1]),(⟨.l 19,.bin .add (.l 17) (.l 18),none⟩,[0]),(⟨.l 20,.mv (.p 0),none⟩,[0,1,2,3]),(⟨.l 21,.mv (.p 2),none⟩,[0,1,2,3,4]),(⟨.l 22,.mv (.p 5),none⟩,[0,1,2,3,4,5]),(⟨.l 23,.bin .add (.l 21) (.l 22),none⟩,[0,1,2,3,4]),(⟨.l 24,.mv (.p 0),none⟩,[0,1,2,3,4,5,6,7]),(⟨.l 25,.mv (.p 2),none⟩,[0,1,2,3,4,5,6,7,8]),(⟨.l 26,.mv (.p 5),none⟩,[0,1,2,3,4,5,6,7,8,9]),(⟨.l 27,.bin .add (.l 25) (.l 26),none⟩,[0,1,2,3,4,5,6,7,8]),(⟨.l 28,.iaddr none 5 (.l 24) (.l 27),none⟩,[0,1,2,3,4,5,6,7]),(⟨.l 29,.load 5 true (.l 28),none⟩,[0,1,2,3,4,5,6,7]),(⟨.l 30,.mv (.p 0),none⟩,[0,1,2,3,4,5,6,7,8,9,10,11,12,13]),(⟨.l 31,.mv (.p 1),none⟩,[0,1,2,3,4,5,6,7,8,9,10,11,12,13,14]),(⟨.l 32,.mv (.p 5),none⟩,[0,1,2,3,4,5,6,7,8,9,10,11,12,13,14,15]),(⟨.l 33,.bin .add (.l 31) (.l 32),none⟩,[0,1,2,3,4,5,6,7,8,9,10,11,12,13,14]),(⟨.l 34,.iaddr none 5 (.l 30) (.l 33),none⟩,[0,1,2,3,4,5,6,7,8,9,10,11,12,13]),(⟨.l 35,.load 5 true (.l 34),none⟩,[0,1,2,3,4,5,6,7,8,9,10,11,12,13]),(⟨.l 36,.iaddr none 5 (.l 16) (.l 19),none⟩,[4,5,6,7]),(⟨.no,.store 5 (.l 36) (.l 29),none⟩,[4,5,6,7]),(⟨.l 37,.iaddr none 5 (.l 20) (.l 23),none⟩,[]),(⟨.no,.store 5 (.l 37) (.l 35),none⟩,[])])) (.region [⟨.l 14,.mv (.p 5),none⟩,⟨.l 15,.bin .add (.l 14) (.c (.int .i64 (1))),none⟩,⟨.p 5,.mv (.l 15),none⟩]))
def b284:ICode:=.seq (.region [⟨.p 5,.mv (.c (.int .i64 (0))),none⟩]) (.block 0 (.loop b284_0))
theorem ft284:FT 284=some ⟨38,[0,1,2,3,4,10],[],b284⟩:=by kernel_rfl
def b79:ICode:=.seq (.region [⟨.p 2,.alloc 70 [.str [],.int .i64 (0),.str []],none⟩]) (.seq (.seq (.region [⟨.l 5,.mv (.p 0),none⟩,⟨.l 6,.mv (.l 5),none⟩,⟨.l 7,.mv (.p 1),some ((.l 6),true)⟩,⟨.l 8,.pick (.l 6) (.l 7) (.c (.bool false)),none⟩]) (.cond (.l 8) (.seq (.region [⟨.l 9,.build [.str [],.int .i64 (0),.str []] [(0,1,(.c (.str [110,111,110,101]))),(2,1,(.c (.str [68,78,83])))],none⟩,⟨.no,.store 3 (.p 2) (.l 9),none⟩]) (.ret)) (.skip))) (.seq (.region [⟨.l 10,.build [.str [],.int .i64 (0),.str []] [(0,1,(.c (.str [110,111,110,101]))),(2,1,(.c (.str [78,77])))],none⟩,⟨.no,.store 3 (.p 2) (.l 10),none⟩]) (.ret)))
theorem ft79:FT 79=some ⟨11,[0,1,4],[.cell 3 true (.p 2)],b79⟩:=by kernel_rfl
def b80_0:ICode:=.seq (.seq (.region [⟨.l 13,.mv (.p 4),none⟩,⟨.l 14,.mv (.p 0),none⟩,⟨.l 15,.len .sl (.l 14),none⟩,⟨.l 16,.bin .lss (.l 13) (.l 15),none⟩]) (.cond (.l 16) (.skip) (.exit 2))) (.seq (.block 3 (.seq (.region [⟨.l 19,.mv (.p 0),none⟩,⟨.l 20,.mv (.p 4),none⟩,⟨.l 21,.iaddr none 5 (.l 19) (.l 20),none⟩,⟨.l 22,.faddr 1 (.l 21),none⟩,⟨.l 23,.load 1 false (.l 22),none⟩,⟨.l 24,.mv (.p 3),none⟩,⟨.l 25,.bin .eql (.l 23) (.l 24),none⟩]) (.cond (.l 25) (.region [⟨.l 26,.mv (.p 2),none⟩,⟨.l 27,.mv (.p 0),none⟩,⟨.l 28,.mv (.p 4),none⟩,⟨.l 29,.iaddr none 5 (.l 27) (.l 28),none⟩,⟨.l 30,.load 5 true (.l 29),none⟩,⟨.l 31,.bslice 74 1 5 [.str [],.int .i64 (0),.str [],.int .i64 (0),.str []] [(0,5,(.l 30))],none⟩,⟨.l 32,.append 74 5 64 (.l 26) (.l 31),none⟩,⟨.p 2,.mv (.l 32),none⟩]) (.skip)))) (.region [⟨.l 17,.mv (.p 4),none⟩,⟨.l 18,.bin .add (.l 17) (.c (.int .i64 (1))),none⟩,⟨.p 4,.mv (.l 18),none⟩]))
def b80_1:ICode:=.seq (.seq (.region [⟨.l 7,.mv (.p 3),none⟩,⟨.l 8,.mv (.p 0),none⟩,⟨.l 9,.len .sl (.l 8),none⟩,⟨.l 10,.bin .leq (.l 7) (.l 9),none⟩]) (.cond (.l 10) (.skip) (.exit 0))) (.seq (.block 1 (.seq (.region [⟨.p 4,.mv (.c (.int .i64 (0))),none⟩]) (.block 2 (.loop b80_0)))) (.region [⟨.l 11,.mv (.p 3),none⟩,⟨.l 12,.bin .add (.l 11) (.c (.int .i64 (1))),none⟩,⟨.p 3,.mv (.l 12),none⟩]))
def b80_2:ICode:=.seq (.seq (.region [⟨.l 33,.mv (.p 5),none⟩,⟨.l 34,.mv (.p 0),none⟩,⟨.l 35,.len .sl (.l 34),none⟩,⟨.l 36,.bin .lss (.l 33) (.l 35),none⟩]) (.cond (.l 36) (.skip) (.exit 4))) (.seq (.block 5 (.seq (.region [⟨.l 39,.mv (.p 0),none⟩,⟨.l 40,.mv (.p 5),none⟩,⟨.l 41,.iaddr none 5 (.l 39) (.l 40),none⟩,⟨.l 42,.faddr 1 (.l 41),none⟩,⟨.l 43,.load 1 false (.l 42),none⟩,⟨.l 44,.bin .eql (.l 43) (.c (.int .i64 (0))),none⟩]) (.cond (.l 44) (.region [⟨.l 45,.mv (.p 2),none⟩,⟨.l 46,.mv (.p 0),none⟩,⟨.l 47,.mv (.p 5),none⟩,⟨.l 48,.iaddr none 5 (.l 46) (.l 47),none⟩,⟨.l 49,.load 5 true (.l 48),none⟩,⟨.l 50,.bslice 74 1 5 [.str [],.int .i64 (0),.str [],.int .i64 (0),.str []] [(0,5,(.l 49))],none⟩,⟨.l 51,.append 74 5 64 (.l 45) (.l 50),none⟩,⟨.p 2,.mv (.l 51),none⟩]) (.skip)))) (.region [⟨.l 37,.mv (.p 5),none⟩,⟨.l 38,.bin .add (.l 37) (.c (.int .i64 (1))),none⟩,⟨.p 5,.mv (.l 38),none⟩]))
def b80:ICode:=.seq (.region [⟨.p 1,.mv (.c (.nilsl)),none⟩]) (.seq (.region [⟨.p 2,.mv (.c (.nilsl)),none⟩]) (.seq (.seq (.region [⟨.p 3,.mv (.c (.int .i64 (1))),none⟩]) (.block 0 (.loop b80_1))) (.seq (.seq (.region [⟨.p 5,.mv (.c (.int .i64 (0))),none⟩]) (.block 4 (.loop b80_2))) (.seq (.region [⟨.l 52,.mv (.p 2),none⟩,⟨.p 1,.mv (.l 52),none⟩]) (.ret)))))
theorem ft80:FT 80=some ⟨53,[0,2,3,4,5,6],[.var (.p 1)],b80⟩:=by kernel_rfl
end Go.Ab.Ch6

/-
  Own work: plain facts on stable sorting by blocks that are merged in place.
-/
namespace Go.Ab.Sort
def Lt (key:Int→Int) (x y:Int):Prop:=key y<key x∨key x=key y∧x<y
section
variable {key:Int→Int}
theorem Lt.trans {x y z:Int} (h1:Lt key x y) (h2:Lt key y z):Lt key x z:=by unfold Lt at *;omega
theorem Lt.irr {x:Int}:¬ Lt key x x:=by unfold Lt;omega
theorem Lt.tot {x y:Int} (h:x<y) (hn:¬ Lt key y x):Lt key x y:=by unfold Lt at *;omega
theorem Lt.iff {x y:Int} (h:x<y):Lt key y x↔key x<key y:=by unfold Lt;omega
def Sd (key:Int→Int) (l:List Int):Prop:=l.Pairwise (Lt key)
theorem Sd.nil:Sd key []:=List.Pairwise.nil
theorem Sd.one (x:Int):Sd key [x]:=List.pairwise_singleton _ _
theorem Sd.app {l m:List Int} (h1:Sd key l) (h2:Sd key m) (h:∀ x∈l,∀ y∈m,Lt key x y):Sd key (l++m):=
 List.pairwise_append.2 ⟨h1,h2,h⟩
theorem Sd.left {l m:List Int} (h:Sd key (l++m)):Sd key l:=(List.pairwise_append.1 h).1
theorem Sd.right {l m:List Int} (h:Sd key (l++m)):Sd key m:=(List.pairwise_append.1 h).2.1
theorem Sd.cross {l m:List Int} (h:Sd key (l++m)):∀ x∈l,∀ y∈m,Lt key x y:=(List.pairwise_append.1 h).2.2
theorem Sd.get {l:List Int} (h:Sd key l) {i j:Nat} {x y:Int} (hi:l[i]? = some x) (hj:l[j]? = some y) (hij:i<j):Lt key x y:=by
 obtain ⟨h1,rfl⟩:=List.getElem?_eq_some_iff.1 hi
 obtain ⟨h2,rfl⟩:=List.getElem?_eq_some_iff.1 hj
 exact List.pairwise_iff_getElem.1 h i j h1 h2 hij
theorem ins_stop {S1 S2:List Int} {x:Int} (hs:Sd key (S1++S2)) (h2:∀ y∈S2,Lt key x y) (h1:∀ y,S1.getLast? = some y→Lt key y x):Sd key (S1++x::S2):=by
 have h1':∀ y∈S1,Lt key y x:=by
  intro y hy
  obtain ⟨L,z,rfl⟩:∃ L z,S1=L++[z]:=by
   rcases List.eq_nil_or_concat S1 with rfl|⟨L,z,rfl⟩
   · cases hy
   · exact ⟨L,z,by simp⟩
  have hz:=h1 z (by simp)
  rcases List.mem_append.1 hy with h|h
  · exact (hs.left.cross y h z (by simp)).trans hz
  · simp only [List.mem_singleton] at h;subst h;exact hz
 refine hs.left.app (List.pairwise_cons.2 ⟨h2,hs.right⟩) fun y hy z hz=>?_
 rcases List.mem_cons.1 hz with rfl|h
 · exact h1' y hy
 · exact hs.cross y hy z h
theorem one_left {x:Int} {R:List Int} {i:Nat} (hs:Sd key R) (h1:∀ k y,k<i→R[k]? = some y→Lt key y x) (h2:∀ k y,i≤k→R[k]? = some y→Lt key x y):Sd key (R.take i++x::R.drop i):=by
 have hs':Sd key (R.take i++R.drop i):=by rw [List.take_append_drop];exact hs
 refine hs'.left.app (List.pairwise_cons.2 ⟨fun y hy=>?_,hs'.right⟩) fun y hy z hz=>?_
 · obtain ⟨k,hk⟩:=List.mem_iff_getElem?.1 hy
   rw [List.getElem?_drop] at hk
   exact h2 _ y (by omega) hk
 · have hyx:Lt key y x:=by
    obtain ⟨k,hk⟩:=List.mem_iff_getElem?.1 hy
    rw [List.getElem?_take] at hk
    split at hk
    · exact h1 k y (by assumption) hk
    · cases hk
   rcases List.mem_cons.1 hz with rfl|h
   · exact hyx
   · exact hs'.cross y hy z h
theorem sym_cross {L1 L2 R1 R2:List Int} (hL:Sd key (L1++L2)) (hR:Sd key (R1++R2)) (h1:∀ x y,L1.getLast? = some x→R2.head? = some y→Lt key x y) (h2:∀ x y,L2.head? = some x→R1.getLast? = some y→Lt key y x) :
 ∀ x∈L1++R1,∀ y∈L2++R2,Lt key x y:=by
 have le_last:∀ {A B:List Int},Sd key (A++B)→∀ x∈A,∃ z,A.getLast? = some z∧(x=z∨Lt key x z):=by
  intro A B h x hx
  rcases List.eq_nil_or_concat A with rfl|⟨M,z,rfl⟩
  · cases hx
  · refine ⟨z,by simp,?_⟩
    simp only [List.concat_eq_append] at hx h
    rcases List.mem_append.1 hx with h'|h'
    · exact .inr (h.left.cross x h' z (by simp))
    · simp only [List.mem_singleton] at h';exact .inl h'
 have ge_head:∀ {A B:List Int},Sd key (A++B)→∀ x∈B,∃ z,B.head? = some z∧(z=x∨Lt key z x):=by
  intro A B h x hx
  cases B with
  | nil=>cases hx
  | cons z M=>
   refine ⟨z,rfl,?_⟩
   rcases List.mem_cons.1 hx with rfl|h'
   · exact .inl rfl
   · exact .inr ((List.pairwise_cons.1 h.right).1 x h')
 intro x hx y hy
 rcases List.mem_append.1 hx with hx|hx <;> rcases List.mem_append.1 hy with hy|hy
 · exact hL.cross x hx y hy
 · obtain ⟨a,ha,hxa⟩:=le_last hL x hx
   obtain ⟨b,hb,hby⟩:=ge_head hR y hy
   have:=h1 a b ha hb
   rcases hxa with rfl|h <;> rcases hby with rfl|h'
   · exact this
   · exact this.trans h'
   · exact h.trans this
   · exact (h.trans this).trans h'
 · obtain ⟨a,ha,hxa⟩:=le_last hR x hx
   obtain ⟨b,hb,hby⟩:=ge_head hL y hy
   have:=h2 b a hb ha
   rcases hxa with rfl|h <;> rcases hby with rfl|h'
   · exact this
   · exact this.trans h'
   · exact h.trans this
   · exact (h.trans this).trans h'
 · exact hR.cross x hx y hy
inductive Ch (key:Int→Int) (bs:Nat):List Int→List Int→Prop
 | last {S S0:List Int}:S.length≤bs→Sd key S→S.Perm S0→Ch key bs S S0
 | more {S S0 l l0:List Int}:S.length=bs→Sd key S→S.Perm S0→Ch key bs l l0→Ch key bs (S++l) (S0++l0)
theorem Ch.perm {bs:Nat} {l l0:List Int} (h:Ch key bs l l0):l.Perm l0:=by
 induction h with
 | last _ _ h=>exact h
 | more _ _ h _ ih=>exact h.append ih
theorem Ch.done {bs:Nat} {l l0:List Int} (h:Ch key bs l l0) (hl:l.length≤bs):Sd key l:=by
 cases h with
 | last _ h _=>exact h
 | @more S S0 m m0 h1 h2 _ _=>
  have:m.length=0:=by simp at hl;omega
  obtain rfl:=List.length_eq_zero_iff.1 this
  simpa using h2
theorem Ch.full {bs:Nat} {l l0:List Int} (h:Ch key bs l l0) (hl:bs≤l.length):∃ S S0 m m0,l=S++m∧l0=S0++m0∧S.length=bs∧Sd key S∧S.Perm S0∧Ch key bs m m0:=by
 cases h with
 | last h h2 h3=>exact ⟨l,l0,[],[],by simp,by simp,by omega,h2,h3,.last (by simp) Sd.nil (.refl _)⟩
 | more h1 h2 h3 h4=>exact ⟨_,_,_,_,rfl,rfl,h1,h2,h3,h4⟩
def rank (key:Int→Int) (l:List Int) (x:Int):Nat:=l.countP fun y=>decide (key x<key y∨key y=key x∧y<x)
end
def numsTo (n:Nat):List Int:=(List.range n).map Int.ofNat
theorem numsTo_length {n:Nat}:(numsTo n).length=n:=by simp [numsTo]
theorem numsTo_succ {n:Nat}:numsTo (n+1)=numsTo n++[(n:Int)]:=by simp [numsTo,List.range_succ]
theorem numsTo_mem {n:Nat} {x:Int}:x∈numsTo n↔0≤x∧x<n:=by
 unfold numsTo
 simp only [List.mem_map,List.mem_range]
 constructor
 · rintro ⟨a,h,rfl⟩;constructor <;> simp <;> omega
 · rintro ⟨h1,h2⟩;exact ⟨x.toNat,by omega,by simp;omega⟩
theorem numsTo_nodup {n:Nat}:(numsTo n).Nodup:=by
 unfold numsTo
 rw [List.nodup_iff_pairwise_ne,List.pairwise_map]
 exact List.nodup_range.imp fun h e=>h (by exact Int.ofNat.inj e)
theorem numsTo_lt {n:Nat}:(numsTo n).Pairwise (· < ·):=by
 unfold numsTo
 rw [List.pairwise_map]
 exact List.pairwise_lt_range.imp fun h=>by simpa using h
def sum (l:List Int):Int:=l.foldl (· + ·) 0
theorem foldl_add (l:List Int) (a:Int):l.foldl (· + ·) a=a+sum l:=by
 unfold sum
 induction l generalizing a with
 | nil=>simp
 | cons x l ih=>rw [List.foldl_cons,List.foldl_cons,ih,ih (0+x)];omega
theorem sum_cons (x:Int) (l:List Int):sum (x::l)=x+sum l:=by
 show (x::l).foldl (· + ·) 0=_
 rw [List.foldl_cons,foldl_add];omega
theorem sum_append (l m:List Int):sum (l++m)=sum l+sum m:=by
 unfold sum;rw [List.foldl_append,foldl_add];rfl
def base (total:Int) (w:List Int):List Int:=w.map fun x=>total*x/sum w
end Go.Ab.Sort

/-
  Own work: marks of a series in descending order, ranks by them, and the order of finalists, in plain words.
-/
namespace Go.Ab.Ch6
open Go.Ab.Sort
def insD (x:Int):List Int→List Int
 | []=>[x]
 | y::r=>if y<x then x::y::r else y::insD x r
def serF (out:List Int):List Int→List Int
 | []=>out
 | x::l=>serF (if x<0 then out else insD x out) l
def serL (l:List Int):List Int:=serF [] l
def lexGt:List Int→List Int→Bool
 | [],_=>false
 | _::_,[]=>true
 | x::a,y::b=>if y<x then true else if x<y then false else lexGt a b
def rankOf (ls:List (List Int)) (x:List Int):Int:=if serL x=[] then 0 else 1+(ls.countP fun y=>lexGt (serL y) (serL x):Nat)
def ranksL (ls:List (List Int)):List Int:=ls.map (rankOf ls)
def idxs (own:List Int) (r:Int):List Int:=(numsTo own.length).filter fun i=>decide (own.getD i.toNat 0=r)
def finR (own:List Int):Nat→List Int
 | 0=>[]
 | r+1=>idxs own (r+1:Nat)++finR own r
theorem sd_unique {key:Int→Int}:∀ {a b:List Int},Sd key a→Sd key b→a.Perm b→a=b
 | [],b,_,_,h=>(List.nil_perm.1 h).symm
 | x::a,[],_,_,h=>by have:=h.length_eq;simp at this
 | x::a,y::b,ha,hb,h=>by
  obtain ⟨a1,a2⟩:=List.pairwise_cons.1 ha
  obtain ⟨b1,b2⟩:=List.pairwise_cons.1 hb
  have hx:x∈y::b:=h.subset (by simp)
  have hy:y∈x::a:=h.symm.subset (by simp)
  have e:x=y:=by
   rcases List.mem_cons.1 hx with e|hx
   · exact e
   · rcases List.mem_cons.1 hy with e|hy
     · exact e.symm
     · exact absurd ((b1 x hx).trans (a1 y hy)) Lt.irr
  subst e
  rw [sd_unique a2 b2 (List.Perm.cons_inv h)]
end Go.Ab.Ch6

/-
  Own work: rows of a competition: their errors and the finalists, in plain words.
-/
namespace Go.Ab.Ch6
open Go.Ab.Sort
structure Row where
 who:Str
 tr:List Int
 ret:Bool
 deriving DecidableEq,Inhabited
def cutT (t:Int) (l:List Row):List (List Int):=l.map fun r=>r.tr.take t.toNat
def finI (t:Int) (F:Nat) (l:List Row):List Int:=finR (ranksL (cutT t l)) F
def finN (t:Int) (F:Nat) (l:List Row):List Str:=(finI t F l).map fun i=>(l.getD i.toNat default).who
end Go.Ab.Ch6

/-
  Own work: chapter 6: rows: short ones, their names and errors, comparisons of series.
-/
namespace Go.Ab.Ch6
variable {M:Mach} {cap c1 c2:Option Nat}
theorem all_drop {α:Type} [Inhabited α] {p:α→Bool} {l:List α} {i:Nat} (h:i<l.length):(l.drop i).all p=(p l[i]! && (l.drop (i+1)).all p):=by
 rw [List.drop_eq_getElem_cons h,← getElem!_pos l i h,List.all_cons]
theorem take_snoc' {α:Type} [Inhabited α] {l:List α} {i:Nat} (h:i<l.length):l.take (i+1)=l.take i++[l[i]!]:=by
 rw [List.take_succ_eq_append_getElem h,getElem!_pos l i h]
abbrev stC (s:Str):List AV:=[.str s]
abbrev inC (x:Int):List AV:=[.int .i64 x]
end Go.Ab.Ch6

/-
  Own work: chapter 6: the errors of rows, by the program and by the reference.
-/
namespace Go.Ab.Ch6
variable {M:Mach} {cap c1 c2:Option Nat}
end Go.Ab.Ch6

/-
  Own work: chapter 6: the program's errors of rows; rows in memory of their own.
-/
namespace Go.Ab.Ch6
variable {M:Mach} {cap c1 c2:Option Nat}
theorem first3 (a b c:Int):firstNZ [a,b,c]=if a≠0 then a else if b≠0 then b else c:=by
 by_cases h1:a=0 <;> by_cases h2:b=0 <;> by_cases h3:c=0 <;> simp [firstNZ,h1,h2,h3]
end Go.Ab.Ch6

/-
  Own work: chapter 6: rows in memory of their own; the reference's errors of rows that are not a competition's; lists of texts compared.
-/
namespace Go.Ab.Ch6
variable {M:Mach} {cap c1 c2:Option Nat}
end Go.Ab.Ch6

/-
  Own work: chapter 6: series and ranks of the reference; comparisons of series.
-/
namespace Go.Ab.Ch6
variable {M:Mach} {cap c1 c2:Option Nat}
def cmpI (x y:Int):Int:=if x<y then -1 else if y<x then 1 else 0
def cmpL:List Int→List Int→Int
 | [],[]=>0
 | [],_::_=>-1
 | _::_,[]=>1
 | x::a,y::b=>if cmpI x y≠0 then cmpI x y else cmpL a b
theorem w192 (hft:M.FT=FT) (x:Int):Run M 192 [.int .i64 x] [] ⟨.bool false,[],[]⟩:=by
 refine run_of_W (by rw [hft];exact ft192) (by simp) ?_
 unfold b192
 simp only [enter]
 repeat' first|apply W.seq|apply SQn|apply W.region|apply WO.nil|apply W.ret|(apply WO.neq;rfl;rfl;all_goals first|(intro _;exfalso;omega)|intro _)|(apply WO.pl;rfl;rfl)|(apply WO.pp;rfl;rfl)
 all_goals exact ⟨.inr rfl,rfl,_,rfl,rfl,rfl⟩
theorem w142 (hft:M.FT=FT) (c192:∀ x h,M.ext 192 [.int .i64 x] h=some ⟨.bool false,h,[]⟩) (x y:Int):Run M 142 [.int .i64 x,.int .i64 y] [] ⟨.int .i64 (cmpI x y),[],[]⟩:=by
 have q:=c192
 refine run_of_W (by rw [hft];exact ft142) (by simp) ?_
 unfold b142
 simp only [enter]
 repeat' first|apply W.seq|apply SQn|apply W.region|apply WO.nil|apply W.ret|apply W.skip|apply SQr|(apply W.condT;rfl)|(apply W.condF;rfl)|(apply WO.lss;rfl;rfl;all_goals first|(intro _;exfalso;omega)|intro _)|(apply WO.gtr;rfl;rfl;all_goals first|(intro _;exfalso;omega)|intro _)|(apply WO.cll;rfl;rfl;first|exact q _ _)|(apply WO.pl;rfl;rfl)|(apply WO.pp;rfl;rfl)
 all_goals first
  | exact ⟨.inr rfl,rfl,_,rfl,by rw [cmpI,if_pos (by omega)];rfl,rfl⟩
  | exact ⟨.inr rfl,rfl,_,rfl,by rw [cmpI,if_neg (by omega),if_pos (by omega)];rfl,rfl⟩
  | exact ⟨.inr rfl,rfl,_,rfl,by rw [cmpI,if_neg (by omega),if_neg (by omega)];rfl,rfl⟩
theorem cmpL_drop {a b:List Int} {i:Nat} (h:i<a.length):cmpL (a.drop i) (b.drop i)=if i<b.length then (if cmpI a[i]! b[i]! ≠ 0 then cmpI a[i]! b[i]! else cmpL (a.drop (i+1)) (b.drop (i+1))) else 1:=by
 rw [List.drop_eq_getElem_cons h,← getElem!_pos a i h]
 by_cases hb:i<b.length
 · rw [List.drop_eq_getElem_cons hb,← getElem!_pos b i hb,if_pos hb];rfl
 · rw [if_neg hb,List.drop_eq_nil_of_le (Nat.le_of_not_lt hb)];rfl
theorem w139 (hft:M.FT=FT) (c142:∀ x y h,M.ext 142 [.int .i64 x,.int .i64 y] h=some ⟨.int .i64 (cmpI x y),h,[]⟩) (a b:List Int) (hl:a.length<1000000):Run M 139 [.vs (ints a) a.length c1,.vs (ints b) b.length c2] [] ⟨.int .i64 (cmpL a b),[],[]⟩:=by
 refine run_of_W (by rw [hft];exact ft139) (by simp) ?_
 unfold b139
 simp only [enter]
 repeat' first|apply W.seq|apply SQn|apply W.region|apply WO.nil|apply W.block|(apply WO.pp;rfl;rfl)
 refine W.loopI a.length (fun i s=>cmpL a b=cmpL (a.drop i) (b.drop i)∧∃ a2 a3 a4 a5 a6 lo wr,s=⟨⟨[.vs (ints a) a.length c1,.vs (ints b) b.length c2,a2,a3,a4,a5,a6,.vs (ints a) a.length c1,.int .i64 a.length,.int .i64 i],lo,[],[]⟩,wr⟩) (fun i s hi ⟨he,a2,a3,a4,a5,a6,lo,wr,hs⟩=>?_) (fun s ⟨he,a2,a3,a4,a5,a6,lo,wr,hs⟩=>?_) (Nat.zero_le _) ⟨rfl,_,_,_,_,_,_,_,rfl⟩
 · subst hs
   have e:=cmpL_drop (b:=b) hi
   rw [show a[i]! = a[((i:Int)).toNat]! from rfl,show b[i]! = b[((i:Int)).toNat]! from rfl] at e
   have q:=fun h=>c142 a[((i:Int)).toNat]! b[((i:Int)).toNat]! h
   generalize cmpI a[((i:Int)).toNat]! b[((i:Int)).toNat]! = E at *
   unfold b139_0
   by_cases hb:i<b.length
   · rw [if_pos hb] at e
     by_cases hE:E=0
     · subst hE
       repeat' first|apply W.seq|apply SQn|apply W.region|apply WO.nil|apply W.block|apply W.skip|apply BQn|(apply W.condT;rfl)|(apply W.condF;rfl)|(apply WO.lss;rfl;rfl;all_goals first|(intro _;exfalso;omega)|intro _)|(apply WO.geq;rfl;rfl;all_goals first|(intro _;exfalso;omega)|intro _)|(apply WO.neq;rfl;rfl;all_goals first|(intro _;exfalso;omega)|intro _)|(apply WO.add;rfl;rfl;omega)|(apply WO.cll;rfl;rfl;first|exact q _)|(apply WO.iav;rfl;rfl;omega)|(apply WO.lda;rfl;exact fun _=>rfl;(first|omega|(simp only [List.length_set];omega)|(simp;omega));decide;rfl;case ia=>infer_instance)|(apply WO.pl;rfl;rfl)|(apply WO.pp;rfl;rfl)
       exact LIn ⟨by rw [he,e];rfl,_,_,_,_,_,_,_,rfl⟩
     · repeat' first|apply W.seq|apply SQn|apply W.region|apply WO.nil|apply W.block|apply W.ret|apply W.skip|apply SQr|apply BQr|apply LIr|(apply W.condT;rfl)|(apply W.condF;rfl)|(apply WO.lss;rfl;rfl;all_goals first|(intro _;exfalso;omega)|intro _)|(apply WO.geq;rfl;rfl;all_goals first|(intro _;exfalso;omega)|intro _)|(apply WO.neq;rfl;rfl;all_goals first|(intro _;exfalso;omega)|intro _)|(apply WO.cll;rfl;rfl;first|exact q _)|(apply WO.iav;rfl;rfl;omega)|(apply WO.lda;rfl;exact fun _=>rfl;(first|omega|(simp only [List.length_set];omega)|(simp;omega));decide;rfl;case ia=>infer_instance)|(apply WO.pl;rfl;rfl)|(apply WO.pp;rfl;rfl)
       exact ⟨.inr rfl,rfl,_,rfl,by rw [he,e,if_pos hE];rfl,rfl⟩
   · rw [if_neg hb] at e
     repeat' first|apply W.seq|apply SQn|apply W.region|apply WO.nil|apply W.block|apply W.ret|apply W.skip|apply SQr|apply BQr|apply LIr|(apply W.condT;rfl)|(apply WO.lss;rfl;rfl;all_goals first|(intro _;exfalso;omega)|intro _)|(apply WO.geq;rfl;rfl;all_goals first|(intro _;exfalso;omega)|intro _)|(apply WO.iav;rfl;rfl;omega)|(apply WO.lda;rfl;exact fun _=>rfl;(first|omega|(simp only [List.length_set];omega)|(simp;omega));decide;rfl;case ia=>infer_instance)|(apply WO.pl;rfl;rfl)|(apply WO.pp;rfl;rfl)
     exact ⟨.inr rfl,rfl,_,rfl,by rw [he,e];rfl,rfl⟩
 · subst hs
   rw [List.drop_length] at he
   unfold b139_0
   by_cases hb:a.length<b.length
   · have:cmpL a b = -1:=by
      rw [he]
      cases hd:b.drop a.length with
      | nil=>have:=congrArg List.length hd;simp at this;omega
      | cons x r=>rfl
     repeat' first|apply W.seq|apply SQn|apply W.region|apply WO.nil|apply W.ret|apply W.exit|apply SQr|apply SQe|apply BQe|apply LIe|(apply W.condT;rfl)|(apply W.condF;rfl)|(apply WO.lss;rfl;rfl;all_goals first|(intro _;exfalso;omega)|intro _)|(apply WO.pl;rfl;rfl)|(apply WO.pp;rfl;rfl)
     exact ⟨.inr rfl,rfl,_,rfl,by rw [this];rfl,rfl⟩
   · have:cmpL a b=0:=by rw [he,List.drop_eq_nil_of_le (by omega)];rfl
     repeat' first|apply W.seq|apply SQn|apply W.region|apply WO.nil|apply W.ret|apply W.exit|apply W.skip|apply SQe|apply BQe|apply LIe|(apply W.condF;rfl)|(apply WO.lss;rfl;rfl;all_goals first|(intro _;exfalso;omega)|intro _)|(apply WO.pl;rfl;rfl)|(apply WO.pp;rfl;rfl)
     exact ⟨.inr rfl,rfl,_,rfl,by rw [this];rfl,rfl⟩
end Go.Ab.Ch6

/-
  Own work: chapter 6: series and ranks by the reference.
-/
namespace Go.Ab.Ch6
variable {M:Mach} {cap c1 c2:Option Nat}
end Go.Ab.Ch6

/-
  Own work: slices.SortStableFunc over ints: what it computes, at a comparison that reads nothing of the row.
-/
namespace Go.Ab.Ch6
open Go.Ab.Sort
variable {M:Mach} {h:Heap} {b n:Nat} {cap:Option Nat} {g:AV}
def swapR:Nat→Nat→Nat→List Int→List Int
 | 0,_,_,l=>l
 | r+1,a,c,l=>swapR r (a+1) (c+1) ((l.set a l[c]!).set c l[a]!)
theorem swapR_app:∀ (X A Mid Y B:List Int),X.length=Y.length→swapR X.length A.length (A.length+X.length+Mid.length) (A++X++Mid++Y++B)=A++Y++Mid++X++B
 | [],A,Mid,Y,B,h=>by
  obtain rfl:Y=[]:=List.length_eq_zero_iff.1 h.symm
  simp [swapR]
 | x::X,A,Mid,[],B,h=>by simp at h
 | x::X,A,Mid,y::Y,B,h=>by
  have ih:=swapR_app X (A++[y]) (Mid++[x]) Y B (by simpa using h)
  have e1:(A++(x::X)++Mid++(y::Y)++B)[A.length+(x::X).length+Mid.length]! = y:=by
   rw [show A++(x::X)++Mid++(y::Y)++B=(A++(x::X)++Mid)++y::(Y++B) by simp]
   rw [List.getElem!_eq_getElem?_getD,List.getElem?_append_right (by simp;omega)]
   rw [show A.length+(x::X).length+Mid.length-(A++(x::X)++Mid).length=0 by simp;omega]
   rfl
  have e2:(A++(x::X)++Mid++(y::Y)++B)[A.length]! = x:=by
   rw [show A++(x::X)++Mid++(y::Y)++B=A++x::(X++Mid++(y::Y)++B) by simp]
   rw [List.getElem!_eq_getElem?_getD,List.getElem?_append_right (Nat.le_refl _),Nat.sub_self]
   rfl
  have e3:((A++(x::X)++Mid++(y::Y)++B).set A.length y).set (A.length+(x::X).length+Mid.length) x=A++[y]++X++(Mid++[x])++Y++B:=by
   rw [show A++(x::X)++Mid++(y::Y)++B=A++x::(X++Mid++(y::Y)++B) by simp]
   rw [List.set_append_right _ _ (Nat.le_refl _),Nat.sub_self,List.set_cons_zero]
   rw [show A++y::(X++Mid++(y::Y)++B)=(A++y::(X++Mid))++y::(Y++B) by simp]
   rw [List.set_append_right _ _ (by simp;omega),show A.length+(x::X).length+Mid.length-(A++y::(X++Mid)).length=0 by simp;omega,List.set_cons_zero]
   simp
  rw [List.length_cons,swapR,← (@List.length_cons _ x X),e1,e2,e3]
  rw [show A.length+1=(A++[y]).length by simp,show A.length+(x::X).length+Mid.length+1=(A++[y]).length+X.length+(Mid++[x]).length by simp;omega,ih]
  simp
abbrev fn (k:Nat):AV:=.fn (.func k) [] []
theorem ct_of_run {k:Nat} {ars:List AV} {hp:Heap} {r:HR} (he:∀ ars h,M.ext k ars h=none) (hr:Run M k ars hp r):CT M (fn k) ars hp r:=CT.run (he _ _) (by simpa using hr)
theorem get_at {A B:List Int} {x:Int} {i:Nat} (hi:i=A.length):(A++x::B)[i]! = x:=by
 subst hi
 rw [List.getElem!_eq_getElem?_getD,List.getElem?_append_right (Nat.le_refl _),Nat.sub_self]
 rfl
theorem swap_down {A B:List Int} {x y:Int} {j:Nat} (hj:j=A.length):((A++y::x::B).set (j+1) y).set j x=A++x::y::B:=by
 subst hj
 rw [show A++y::x::B=(A++[y])++x::B by simp,List.set_append_right _ _ (by simp),show A.length+1-(A++[y]).length=0 by simp,List.set_cons_zero]
 rw [show (A++[y])++y::B=A++y::y::B by simp,List.set_append_right _ _ (Nat.le_refl _),Nat.sub_self,List.set_cons_zero]
theorem swap_up {A B:List Int} {x y:Int} {j:Nat} (hj:j=A.length):((A++x::y::B).set j y).set (j+1) x=A++y::x::B:=by
 subst hj
 rw [List.set_append_right _ _ (Nat.le_refl _),Nat.sub_self,List.set_cons_zero]
 rw [show A++y::y::B=(A++[y])++y::B by simp,List.set_append_right _ _ (by simp),show A.length+1-(A++[y]).length=0 by simp,List.set_cons_zero]
 simp
variable {key:Int→Int} {ok:Int→Prop} {cf:Int→Int→Int}
end Go.Ab.Ch6

/-
  Own work: slices.SortStableFunc over ints: the merge in place.
-/
namespace Go.Ab.Ch6
open Go.Ab.Sort
variable {M:Mach} {h:Heap} {b n:Nat} {cap:Option Nat} {g:AV}
variable {key:Int→Int} {ok:Int→Prop} {cf:Int→Int→Int}
theorem getD_mem {l:List Int} {i:Nat} (h:i<l.length):l[i]! ∈ l:=by
 rw [getElem!_pos l i h];exact List.getElem_mem h
theorem atL {A L R B:List Int} {i:Nat} (h:i<L.length):(A++L++R++B)[A.length+i]! = L[i]! := by
 rw [List.getElem!_eq_getElem?_getD,List.getElem!_eq_getElem?_getD,List.append_assoc,List.append_assoc,List.getElem?_append_right (by omega),Nat.add_sub_cancel_left,List.getElem?_append_left h]
theorem atR {A L R B:List Int} {i:Nat} (h:i<R.length):(A++L++R++B)[A.length+L.length+i]! = R[i]! := by
 rw [List.getElem!_eq_getElem?_getD,List.getElem!_eq_getElem?_getD,List.append_assoc,List.getElem?_append_right (by simp),List.length_append,Nat.add_sub_cancel_left,List.getElem?_append_left h]
theorem sd_get {l:List Int} (h:Sd key l) {i j:Nat} (hij:i<j) (hj:j<l.length):Lt key l[i]! l[j]! := by
 rw [getElem!_pos l i (by omega),getElem!_pos l j hj]
 exact h.get (List.getElem?_eq_getElem (by omega)) (List.getElem?_eq_getElem hj) hij
end Go.Ab.Ch6

/-
  Own work: slices.SortStableFunc over ints: the merge in place, whole.
-/
namespace Go.Ab.Ch6
open Go.Ab.Sort
variable {M:Mach} {h:Heap} {b n:Nat} {cap:Option Nat} {g:AV}
variable {key:Int→Int} {ok:Int→Prop} {cf:Int→Int→Int}
end Go.Ab.Ch6

/-
  Own work: slices.SortStableFunc over ints: the merge in place, by induction.
-/
namespace Go.Ab.Ch6
open Go.Ab.Sort
variable {M:Mach} {h:Heap} {b n:Nat} {cap:Option Nat} {g:AV}
variable {key:Int→Int} {ok:Int→Prop} {cf:Int→Int→Int}
theorem take_get {R:List Int} {k:Nat} {y:Int} (h:R[k]? = some y):R[k]! = y:=by
 rw [List.getElem!_eq_getElem?_getD,h];rfl
theorem _root_.Go.Ab.Sort.Sd.split {L:List Int} {i:Nat} (h:Sd key L):Sd key (L.take i)∧Sd key (L.drop i):=by
 have h':Sd key (L.take i++L.drop i):=by rw [List.take_append_drop];exact h
 exact ⟨h'.left,h'.right⟩
end Go.Ab.Ch6

/-
  Own work: slices.SortStableFunc over ints: blocks and merges, whole.
-/
namespace Go.Ab.Ch6
open Go.Ab.Sort
variable {M:Mach} {h:Heap} {b n:Nat} {cap:Option Nat} {g:AV}
variable {key:Int→Int} {ok:Int→Prop} {cf:Int→Int→Int}
end Go.Ab.Ch6

/-
  Own work: the code of slices.SortFunc over ints.
-/
namespace Go.Ab.Ch6
set_option maxRecDepth 1000000
end Go.Ab.Ch6

/-
  Own work: chapter 6: series by the program: what is deleted, what is sorted.
-/
namespace Go.Ab.Ch6
variable {M:Mach} {cap c1 c2:Option Nat} {h:Heap} {b n:Nat}
end Go.Ab.Ch6

/-
  Own work: chapter 6: series by the program, the whole.
-/
namespace Go.Ab.Ch6
variable {M:Mach} {cap c1 c2:Option Nat} {h:Heap} {b n:Nat}
end Go.Ab.Ch6

/-
  Own work: chapter 6: slices.DeleteFunc over a row of ints; series.
-/
namespace Go.Ab.Ch6
variable {M:Mach} {cap c1 c2:Option Nat} {h:Heap} {b n:Nat}
theorem ret_putV {h:Heap} {b:Nat} {c c0:List AV} {e:TypeId} {s:StW} {v:AV} (hb:b<h.length) (hh:s.s.hp=h.put b (some (.cells c e))) (hw:Only b s.wr) (hc:topL c=0) (hv:v.top≤h.length) :
 ∃ wr,Only b wr∧retA v (h.put b (some (.cells c0 e))).length s=⟨v,h.put b (some (.cells c e)),wr⟩:=by
 refine ⟨s.wr.filter (· < h.length),fun x hx=>hw x (List.mem_filter.1 hx).1,?_⟩
 have hl:(h.put b (some (.cells c0 e))).length=h.length:=put_length
 have ht:tight s.s.hp h.length s.wr=true:=by
  simp only [tight,List.all_eq_true]
  intro x hx
  rw [hw x hx,hh,at_put hb]
  simp [Blk.top,hc]
 have hk:(h.put b (some (.cells c e))).take h.length=h.put b (some (.cells c e)):=List.take_of_length_le (by rw [put_length];exact Nat.le_refl _)
 simp only [retA,hl,ht,Bool.and_true]
 rw [hh,hk]
 split <;> rfl
theorem run_putV {α:Type} {f:α→List AV} {h:Heap} {b:Nat} {l:List α} {e:TypeId} {g N:Nat} {pers:List Nat} {res:List IRes} {body:ICode} {ars:List AV} {v:AV} {l':List α} (hft:M.FT g=some ⟨N,pers,res,body⟩) (hN:ars.length≤N) (hb:b<h.length) (hf:∀ a,topL (f a)=0) (hv:v.top≤h.length)
 (hW:W M body ⟨⟨pers.map (fun t=>(ars[t]?).getD undefA),[],h.put b (some (.cells (arr f l) e)),[]⟩,[]⟩ fun x s=>(x = .normal∨x = .ret)∧s.s.dfs=[]∧s.s.hp=h.put b (some (.cells (arr f l') e))∧Only b s.wr∧∃ vs,resultsA s.s res=some vs∧tupA vs=v) :
 ∃ wr,Only b wr∧Run M g ars (h.put b (some (.cells (arr f l) e))) ⟨v,h.put b (some (.cells (arr f l') e)),wr⟩:=by
 obtain ⟨⟨n,x,s,h1,h2,h3,h4,h5,vs,h6,h7⟩⟩:=hW
 obtain ⟨wr,hw,hr⟩:=ret_putV (c0:=arr f l) hb h4 h5 (topL_arr hf l') hv
 exact ⟨wr,hw,run_of_WH hft hN ⟨⟨n,x,s,h1,h2,h3,vs,h6,by rw [h7];exact hr⟩⟩⟩
end Go.Ab.Ch6

/-
  Own work: chapter 6: series by the program, ranks by both.
-/
namespace Go.Ab.Ch6
variable {M:Mach} {cap c1 c2:Option Nat}
end Go.Ab.Ch6

/-
  Own work: chapter 6: ranks by the program; finalists by both.
-/
namespace Go.Ab.Ch6
variable {M:Mach} {cap c1 c2:Option Nat}
end Go.Ab.Ch6

/-
  Own work: chapter 6: the finalists by the program.
-/
namespace Go.Ab.Ch6
open Go.Ab.Sort
variable {M:Mach} {cap c1 c2:Option Nat}
end Go.Ab.Ch6

/-
  Own work: chapter 6: the finalists by the reference, their names by both.
-/
namespace Go.Ab.Ch6
open Go.Ab.Sort
variable {M:Mach} {cap c1 c2:Option Nat}
end Go.Ab.Ch6

/-
  Own work: chapter 6: the finalists' names by both, the law FieldFinalists.
-/
namespace Go.Ab.Ch6
open Go.Ab.Sort
variable {M:Mach} {cap c1 c2:Option Nat}
end Go.Ab.Ch6

/-
  Own work: chapter 6: the law FieldFinalists.
-/
namespace Go.Ab.Ch6
variable {M:Mach}
theorem first2 (a b:Int):firstNZ [a,b]=if a≠0 then a else b:=by
 simp only [firstNZ]
 by_cases h:b=0
 · simp [h]
 · simp [h]
end Go.Ab.Ch6

/-
  Own work: chapter 6: small functions of the program's series: copies, comparisons.
-/
namespace Go.Ab.Ch6
variable {M:Mach} {cap:Option Nat}
end Go.Ab.Ch6

/-
  Own work: the contracts of FieldFinalists as a table.
-/
namespace Go.Ab.Ch6
open Go.Proofs Go.Ab.Sort
noncomputable abbrev sC (T:List (Nat×Spec)) (g:Nat):Spec:=specC Tryz.prog FT T g
noncomputable abbrev sF (T:List (Nat×Spec)) (g:Nat):Spec:=specF Tryz.prog FT T g
theorem sC_ok {T:List (Nat×Spec)} (hT:ExtOK Tryz.prog gl (extS T)) {g:Nat}:SpecOK Tryz.prog gl g (sC T g):=specC_ok seat hT
theorem sF_ok {T:List (Nat×Spec)} (hT:ExtOK Tryz.prog gl (extS T)) {g:Nat}:SpecOK Tryz.prog gl g (sF T g):=specF_ok seat hT
variable {h:Heap}
theorem self_ints (l:List Int):selfC h (ints l):=selfC_arr (fun _=>atoms_self rfl) l
theorem self_strs (l:List Str):selfC h (strs l):=selfC_arr (fun _=>atoms_self rfl) l
theorem fc_ints {l:List Int} {n:Nat} {c:Option Nat}:FrC h (.vs (ints l) n c) (.vs (ints l) n c):=.ofVs (self_ints l)
theorem fc_strs {l:List Str} {n:Nat} {c:Option Nat}:FrC h (.vs (strs l) n c) (.vs (strs l) n c):=.ofVs (self_strs l)
theorem can_ints (l:List Int) (n:Nat):canA (.vs (ints l) n none) = .vs (ints l) n none:=can_arr (fun _=>rfl) l n
theorem can_strs (l:List Str) (n:Nat):canA (.vs (strs l) n none) = .vs (strs l) n none:=can_arr (fun _=>rfl) l n
theorem vtop_ints (l:List Int) {n:Nat} {c:Option Nat}:(AV.vs (ints l) n c).top=0:=topL_arr (fun _=>rfl) l
theorem vtop_strs (l:List Str) {n:Nat} {c:Option Nat}:(AV.vs (strs l) n c).top=0:=topL_arr (fun _=>rfl) l
noncomputable abbrev m0:Mach:=mach Tryz.prog FT []
section
variable {cap c1 c2:Option Nat}
theorem k192 (x:Int):sC [] 192 [.int .i64 x] h=some ⟨.bool false,h,[]⟩:=specC_eq (atoms_self rfl) (.of (w192 (M:=m0) mach_ft x))
end
end Go.Ab.Ch6

/-
  Own work: chapter 6: places of a ranking: their cells, their order, in plain words.
-/
namespace Go.Ab.Ch6
open Go.Ab.Sort
structure Place where
 who:Str
 rank:Int
 kind:Str
 val:Int
 why:Str
 deriving DecidableEq,Inhabited
def placeC (p:Place):List AV:=[.str p.who,.int .i64 p.rank,.str p.kind,.int .i64 p.val,.str p.why]
abbrev pf (P:List Place) (x:Int):List AV:=placeC P[x.toNat]!
def sLength:Str:=[108,101,110,103,116,104]
def sNone:Str:=[110,111,110,101]
def sDNS:Str:=[68,78,83]
def sNM:Str:=[78,77]
def noWhy (idle ret:Bool):Str:=if idle && ret then sDNS else sNM
def withRank (P:List Place) (r:Int):List Place:=P.filter fun p=>decide (p.rank=r)
def ordPR (P:List Place):Nat→List Place
 | 0=>[]
 | k+1=>ordPR P k++withRank P (k+1:Nat)
def orderP (P:List Place):List Place:=ordPR P P.length++withRank P 0
def rkOf (P:List Place) (i:Int):Int:=(P[i.toNat]!).rank
def keyP (P:List Place) (i:Int):Int:=if rkOf P i=0 then -10000000 else -rkOf P i
def idP (P:List Place) (r:Int):List Int:=(numsTo P.length).filter fun i=>decide (rkOf P i=r)
def ordIR (P:List Place):Nat→List Int
 | 0=>[]
 | k+1=>ordIR P k++idP P (k+1:Nat)
def orderI (P:List Place):List Int:=ordIR P P.length++idP P 0
theorem nums_map (P:List Place):(numsTo P.length).map (fun i=>P[i.toNat]!)=P:=by
 apply List.ext_getElem (by rw [List.length_map,numsTo_length])
 intro i h1 h2
 have e:(numsTo P.length)[i]'(by rw [numsTo_length];exact h2)=(i:Int):=by
  have h3:i<(numsTo P.length).length:=by rw [numsTo_length];exact h2
  simp [numsTo]
 rw [List.getElem_map,e,Int.toNat_natCast,getElem!_pos P i h2]
theorem idP_map {P:List Place} {r:Int}:(idP P r).map (fun i=>P[i.toNat]!)=withRank P r:=by
 have:=congrArg (List.filter fun p:Place=>decide (p.rank=r)) (nums_map P)
 rw [List.filter_map] at this
 exact this
theorem ordIR_map {P:List Place}:∀ k,(ordIR P k).map (fun i=>P[i.toNat]!)=ordPR P k
 | 0=>rfl
 | k+1=>by rw [ordIR,ordPR,List.map_append,ordIR_map k,idP_map]
theorem orderI_map {P:List Place}:(orderI P).map (fun i=>P[i.toNat]!)=orderP P:=by
 rw [orderI,orderP,List.map_append,ordIR_map,idP_map]
theorem idP_sd {P:List Place} {r:Int}:Sd (keyP P) (idP P r):=by
 have hp:(idP P r).Pairwise (· < ·):=numsTo_lt.filter _
 refine hp.imp_of_mem ?_
 intro a b ha hb hab
 rw [idP,List.mem_filter,decide_eq_true_eq] at ha hb
 exact .inr ⟨by unfold keyP;rw [ha.2,hb.2],hab⟩
theorem ordIR_mem {P:List Place}:∀ {k:Nat} {i:Int},i∈ordIR P k↔i∈numsTo P.length∧0<rkOf P i∧rkOf P i≤k
 | 0,i=>by simp [ordIR]
 | k+1,i=>by
  rw [ordIR,List.mem_append,ordIR_mem,idP,List.mem_filter,decide_eq_true_eq]
  constructor
  · rintro (⟨h1,h2,h3⟩|⟨h1,h2⟩)
    · exact ⟨h1,h2,by omega⟩
    · exact ⟨h1,by omega,by omega⟩
  · rintro ⟨h1,h2,h3⟩
    by_cases h:rkOf P i=(k+1:Nat)
    · exact .inr ⟨h1,h⟩
    · exact .inl ⟨h1,h2,by omega⟩
theorem ordIR_sd {P:List Place}:∀ {k:Nat},Sd (keyP P) (ordIR P k)
 | 0=>Sd.nil
 | k+1=>by
  rw [ordIR]
  refine Sd.app ordIR_sd idP_sd fun x hx y hy=>?_
  obtain ⟨_,h1,h2⟩:=ordIR_mem.1 hx
  rw [idP,List.mem_filter,decide_eq_true_eq] at hy
  refine .inl ?_
  unfold keyP
  rw [hy.2,if_neg (by omega),if_neg (by omega)]
  omega
theorem orderI_sd {P:List Place} (hP:P.length<10000000):Sd (keyP P) (orderI P):=by
 rw [orderI]
 refine Sd.app ordIR_sd idP_sd fun x hx y hy=>?_
 obtain ⟨_,h1,h2⟩:=ordIR_mem.1 hx
 rw [idP,List.mem_filter,decide_eq_true_eq] at hy
 refine .inl ?_
 unfold keyP
 rw [hy.2,if_pos rfl,if_neg (by omega)]
 omega
theorem sd_nodup {key:Int→Int} {l:List Int} (h:Sd key l):l.Nodup:=h.imp fun h e=>by subst e;exact Lt.irr h
theorem order_mem {P:List Place} (hr:∀ p∈P,0≤p.rank∧p.rank≤P.length) {i:Int}:i∈numsTo P.length↔i∈orderI P:=by
 rw [orderI,List.mem_append,ordIR_mem,idP,List.mem_filter,decide_eq_true_eq]
 constructor
 · intro hi
   have hb:=numsTo_mem.1 hi
   have hm:P[i.toNat]! ∈ P:=by rw [getElem!_pos P _ (by omega)];exact List.getElem_mem _
   have:=hr _ hm
   by_cases h:rkOf P i=0
   · exact .inr ⟨hi,h⟩
   · exact .inl ⟨hi,by unfold rkOf at *;omega,by unfold rkOf at *;omega⟩
 · rintro (h|h) <;> exact h.1
theorem order_nodup {P:List Place}:(orderI P).Nodup:=by
 rw [orderI,List.nodup_append]
 refine ⟨sd_nodup ordIR_sd,sd_nodup idP_sd,fun a ha b hb h=>?_⟩
 subst h
 have h1:=ordIR_mem.1 ha
 rw [idP,List.mem_filter,decide_eq_true_eq] at hb
 omega
theorem order_perm {P:List Place} (hr:∀ p∈P,0≤p.rank∧p.rank≤P.length):(numsTo P.length).length=(orderI P).length:=
 ((List.perm_ext_iff_of_nodup numsTo_nodup order_nodup).2 fun i=>order_mem hr).length_eq
theorem order_sorted {P:List Place} (hP:P.length<10000000) (hr:∀ p∈P,0≤p.rank∧p.rank≤P.length) {S:List Int} (hs:Sd (keyP P) S) (hp:S.Perm (numsTo P.length)):S.map (fun i=>P[i.toNat]!)=orderP P:=by
 rw [← orderI_map]
 congr 1
 refine sd_unique hs (orderI_sd hP) (hp.trans ?_)
 exact (List.perm_ext_iff_of_nodup numsTo_nodup order_nodup).2 fun i=>order_mem hr
end Go.Ab.Ch6

/-
  Own work: slices.SortStableFunc over arr (pf PL): what it computes, at a comparison that reads nothing of the row.
-/
namespace Go.Ab.Ch6.Srp
open Go.Ab.Sort
variable {PL:List Place} {M:Mach} {h:Heap} {b n:Nat} {cap:Option Nat} {g:AV}
def swapR:Nat→Nat→Nat→List Int→List Int
 | 0,_,_,l=>l
 | r+1,a,c,l=>swapR r (a+1) (c+1) ((l.set a l[c]!).set c l[a]!)
theorem swapR_app:∀ (X A Mid Y B:List Int),X.length=Y.length→swapR X.length A.length (A.length+X.length+Mid.length) (A++X++Mid++Y++B)=A++Y++Mid++X++B
 | [],A,Mid,Y,B,h=>by
  obtain rfl:Y=[]:=List.length_eq_zero_iff.1 h.symm
  simp [swapR]
 | x::X,A,Mid,[],B,h=>by simp at h
 | x::X,A,Mid,y::Y,B,h=>by
  have ih:=swapR_app X (A++[y]) (Mid++[x]) Y B (by simpa using h)
  have e1:(A++(x::X)++Mid++(y::Y)++B)[A.length+(x::X).length+Mid.length]! = y:=by
   rw [show A++(x::X)++Mid++(y::Y)++B=(A++(x::X)++Mid)++y::(Y++B) by simp]
   rw [List.getElem!_eq_getElem?_getD,List.getElem?_append_right (by simp;omega)]
   rw [show A.length+(x::X).length+Mid.length-(A++(x::X)++Mid).length=0 by simp;omega]
   rfl
  have e2:(A++(x::X)++Mid++(y::Y)++B)[A.length]! = x:=by
   rw [show A++(x::X)++Mid++(y::Y)++B=A++x::(X++Mid++(y::Y)++B) by simp]
   rw [List.getElem!_eq_getElem?_getD,List.getElem?_append_right (Nat.le_refl _),Nat.sub_self]
   rfl
  have e3:((A++(x::X)++Mid++(y::Y)++B).set A.length y).set (A.length+(x::X).length+Mid.length) x=A++[y]++X++(Mid++[x])++Y++B:=by
   rw [show A++(x::X)++Mid++(y::Y)++B=A++x::(X++Mid++(y::Y)++B) by simp]
   rw [List.set_append_right _ _ (Nat.le_refl _),Nat.sub_self,List.set_cons_zero]
   rw [show A++y::(X++Mid++(y::Y)++B)=(A++y::(X++Mid))++y::(Y++B) by simp]
   rw [List.set_append_right _ _ (by simp;omega),show A.length+(x::X).length+Mid.length-(A++y::(X++Mid)).length=0 by simp;omega,List.set_cons_zero]
   simp
  rw [List.length_cons,swapR,← (@List.length_cons _ x X),e1,e2,e3]
  rw [show A.length+1=(A++[y]).length by simp,show A.length+(x::X).length+Mid.length+1=(A++[y]).length+X.length+(Mid++[x]).length by simp;omega,ih]
  simp
theorem loop284 (hb:b<h.length) (hn:n<2305843009213693952) (a c k:Nat) (hac:a+k≤n) (hc:c+k≤n) {Q:Ex→StW→Prop}:∀ (r i:Nat),i+r=k→∀ (l:List Int) (lo:List (Nat×AV)) (wr:List Nat),l.length=n→Only b wr →
 (∀ lo wr,Only b wr→Q (.exit 0) ⟨⟨[.sl b 0 n 5 cap,.int .i64 a,.int .i64 c,.int .i64 k,g,.int .i64 k],lo,h.put b (some (.cells (arr (pf PL) (swapR r (a+i) (c+i) l)) 116)),[]⟩,wr⟩) →
 W M (.loop b284_0) ⟨⟨[.sl b 0 n 5 cap,.int .i64 a,.int .i64 c,.int .i64 k,g,.int .i64 i],lo,h.put b (some (.cells (arr (pf PL) l) 116)),[]⟩,wr⟩ Q
 | 0,i,hi,l,lo,wr,hl,hw,hQ=>by
  obtain rfl:i=k:=by omega
  refine W.loop ?_
  unfold b284_0
  repeat' first|apply W.seq|apply SQn|apply W.region|apply WO.nil|apply W.exit|apply SQe|apply LQe|(apply W.condF;rfl)|(apply WO.lss;rfl;rfl;all_goals first|(intro _;exfalso;omega)|intro _)|(apply WO.pl;rfl;rfl)
  · exact hQ _ _ hw
 | r+1,i,hi,l,lo,wr,hl,hw,hQ=>by
  have f1:((a:Int)+(i:Int)).toNat=a+i:=by omega
  have f2:((c:Int)+(i:Int)).toNat=c+i:=by omega
  have hli:a+i<l.length:=by omega
  have hlc:c+i<l.length:=by omega
  refine W.loop ?_
  unfold b284_0
  repeat' first|apply W.seq|apply SQn|apply W.region|apply WO.nil|apply W.block|apply W.skip|apply BQn|apply W.draw|apply WD.nil|(apply WD.pure1;rfl)|(apply WD.load1;rfl;rfl;(first|(simp only [List.nil_append,List.cons_append];rfl)|rfl))|(apply WD.store1;rfl;(first|(simp only [List.nil_append,List.cons_append];rfl)|rfl);(first|(simp only [List.nil_append,List.cons_append];rfl)|rfl))|(apply W.condT;rfl)|(apply WO.lss;rfl;rfl;all_goals first|(intro _;exfalso;omega)|intro _)|(apply WO.add;rfl;rfl;omega)|(apply WO.ias;rfl;rfl;omega)|(apply WO.lsa;rfl;(first|rfl|assumption|exact at_new|(apply at_old;assumption)|(apply at_put;first|assumption|(simp only [put_length];assumption)));exact fun _=>rfl;(first|omega|(simp only [List.length_set];omega)|(simp;omega));decide;rfl;case ia=>infer_instance)|(apply WO.sta;rfl;rfl;(first|rfl|assumption|exact at_new|(apply at_old;assumption)|(apply at_put;first|assumption|(simp only [put_length];assumption)));exact fun _=>rfl;(first|omega|(simp only [List.length_set];omega)|(simp;omega));exact ⟨rfl,by decide,rfl⟩;rfl;case ia=>infer_instance)|(apply WO.pl;rfl;rfl)|(apply WO.pp;rfl;rfl)
  · refine LQn ?_
    rw [put_put,put_put,f1,f2]
    refine loop284 hb hn a c k hac hc r (i+1) (by omega) _ _ _ (by simp [hl]) hw.cons.cons hQ
structure CSp (M:Mach):Prop where
 ft:M.FT=FT
 n143:∀ ars h,M.ext 143 ars h=none
 n193:∀ ars h,M.ext 193 ars h=none
 n229:∀ ars h,M.ext 229 ars h=none
 n230:∀ ars h,M.ext 230 ars h=none
 n253:∀ ars h,M.ext 253 ars h=none
 n284:∀ ars h,M.ext 284 ars h=none
theorem r284 (C:CSp M) (hb:b<h.length) (hn:n<2305843009213693952) {A X Mid Y B:List Int} (hX:X.length=Y.length) (hl:(A++X++Mid++Y++B).length=n) :
 ∃ wr,Only b wr∧CT M (fn 284) [.sl b 0 n 5 cap,.int .i64 A.length,.int .i64 (A.length+X.length+Mid.length:Nat),.int .i64 X.length,g] (h.put b (some (.cells (arr (pf PL) (A++X++Mid++Y++B)) 116))) ⟨.tup [],h.put b (some (.cells (arr (pf PL) (A++Y++Mid++X++B)) 116)),wr⟩:=by
 have hl':A.length+X.length+Mid.length+Y.length+B.length=n:=by simp at hl;omega
 obtain ⟨l',wr,hw,rfl,hr⟩:=run_put (M:=M) (l:=A++X++Mid++Y++B) (e:=116) (f:=pf PL) (P:=fun l'=>l'=A++Y++Mid++X++B)
  (ars:=[.sl b 0 n 5 cap,.int .i64 A.length,.int .i64 (A.length+X.length+Mid.length:Nat),.int .i64 X.length,g]) (by rw [C.ft];exact ft284) (by simp) hb (fun _=>rfl) (by
   unfold b284
   simp only [enter]
   repeat' first|apply W.seq|apply SQn|apply W.region|apply WO.nil|apply W.block|(apply WO.pp;rfl;rfl)
   refine loop284 hb hn A.length (A.length+X.length+Mid.length) X.length (by omega) (by omega) X.length 0 (by omega) _ _ _ hl Only.nil (fun lo wr hw=>?_)
   repeat' first|apply BQe
   exact ⟨.inl rfl,rfl,_,rfl,hw,by rw [Nat.add_zero,Nat.add_zero,swapR_app X A Mid Y B hX]⟩)
 exact ⟨wr,hw,ct_of_run C.n284 hr⟩
theorem loop253 (C:CSp M) (hb:b<h.length) (hn:n<2305843009213693952) (a1 a3:AV) (m:Nat) {Q:Ex→StW→Prop}:∀ (k:Nat) (A U V B:List Int) (lo:List (Nat×AV)) (wr:List Nat),U.length+V.length≤k→U≠[]→V≠[]→A.length+U.length=m→(A++U++V++B).length=n→Only b wr →
 (∀ A2 U2 V2 B2 lo wr,Only b wr→U2.length=V2.length→A2.length+U2.length=m→(A2++U2++V2++B2).length=n→A2++V2++U2++B2=A++V++U++B →
   Q (.exit 0) ⟨⟨[.sl b 0 n 5 cap,a1,.int .i64 m,a3,g,.int .i64 U2.length,.int .i64 V2.length],lo,h.put b (some (.cells (arr (pf PL) (A2++U2++V2++B2)) 116)),[]⟩,wr⟩) →
 W M (.loop b253_0) ⟨⟨[.sl b 0 n 5 cap,a1,.int .i64 m,a3,g,.int .i64 U.length,.int .i64 V.length],lo,h.put b (some (.cells (arr (pf PL) (A++U++V++B)) 116)),[]⟩,wr⟩ Q
 | 0,A,U,V,B,lo,wr,hk,hU,hV,hm,hl,hw,hQ=>absurd (List.length_eq_zero_iff.1 (by omega)) hU
 | k+1,A,U,V,B,lo,wr,hk,hU,hV,hm,hl,hw,hQ=>by
  have hu:0<U.length:=List.length_pos_iff.2 hU
  have hv:0<V.length:=List.length_pos_iff.2 hV
  have hl':A.length+U.length+V.length+B.length=n:=by simp at hl;omega
  refine W.loop ?_
  rcases Nat.lt_trichotomy U.length V.length with hlt|heq|hgt
  · obtain ⟨V1,V2,rfl,hV2⟩:∃ V1 V2,V=V1++V2∧V2.length=U.length:=⟨V.take (V.length-U.length),V.drop (V.length-U.length),by simp,by simp;omega⟩
    have hV1:0<V1.length:=by simp at hlt;omega
    obtain ⟨wr',hw',hc⟩:=r284 (g:=g) (cap:=cap) C hb hn (A:=A) (X:=U) (Mid:=V1) (Y:=V2) (B:=B) hV2.symm (by simp at hl ⊢;omega)
    have hc':CT M (fn 284) [.sl b 0 n 5 cap,.int .i64 ((m:Int)-(U.length:Int)),.int .i64 ((m:Int)+((V1++V2).length:Int)-(U.length:Int)),.int .i64 U.length,g] (h.put b (some (.cells (arr (pf PL) (A++U++(V1++V2)++B)) 116))) ⟨.tup [],h.put b (some (.cells (arr (pf PL) (A++V2++V1++U++B)) 116)),wr'⟩:=by
     rw [show (m:Int)-(U.length:Int)=(A.length:Int) by omega,show (m:Int)+((V1++V2).length:Int)-(U.length:Int)=((A.length+U.length+V1.length:Nat):Int) by simp;omega]
     simpa only [List.append_assoc] using hc
    unfold b253_0
    repeat' first|apply W.seq|apply SQn|apply W.region|apply WO.nil|apply W.block|apply W.skip|apply BQn|(apply W.condT;rfl)|(apply W.condF;rfl)|(apply WO.gtr;rfl;rfl;all_goals first|(intro _;exfalso;omega)|intro _)|(apply WO.neq;rfl;rfl;all_goals first|(intro _;exfalso;omega)|intro _)|(apply WO.add;rfl;rfl;omega)|(apply WO.sub;rfl;rfl;omega)|(apply WO.ct;rfl;rfl;first|exact hc')|(apply WO.pl;rfl;rfl)|(apply WO.pp;rfl;rfl)
    refine LQn ?_
    rw [show (((V1++V2).length:Int)-(U.length:Int))=(V1.length:Int) by simp;omega,show (U.length:Int)=(V2.length:Int) by omega]
    rw [show A++V2++V1++U++B=A++V2++V1++(U++B) by simp]
    refine loop253 C hb hn a1 a3 m k A V2 V1 (U++B) _ _ (by simp at hk;omega) (List.length_pos_iff.1 (by omega)) (List.length_pos_iff.1 hV1) (by omega) (by simp at hl ⊢;omega) (hw'.app hw) (fun A2 U2 W2 B2 lo wr g1 g2 g3 g4 g5=>?_)
    exact hQ A2 U2 W2 B2 lo wr g1 g2 g3 g4 (by rw [g5];simp)
  · unfold b253_0
    repeat' first|apply W.seq|apply SQn|apply W.region|apply WO.nil|apply W.exit|apply SQe|apply LQe|(apply W.condF;rfl)|(apply WO.neq;rfl;rfl;all_goals first|(intro _;exfalso;omega)|intro _)|(apply WO.pl;rfl;rfl)
    exact hQ A U V B _ _ hw heq hm hl rfl
  · obtain ⟨U1,U2,rfl,hU1⟩:∃ U1 U2,U=U1++U2∧U1.length=V.length:=⟨U.take V.length,U.drop V.length,by simp,by simp;omega⟩
    have hU2:0<U2.length:=by simp at hgt;omega
    obtain ⟨wr',hw',hc⟩:=r284 (g:=g) (cap:=cap) C hb hn (A:=A) (X:=U1) (Mid:=U2) (Y:=V) (B:=B) hU1 (by simp at hl ⊢;omega)
    have hc':CT M (fn 284) [.sl b 0 n 5 cap,.int .i64 ((m:Int)-((U1++U2).length:Int)),.int .i64 m,.int .i64 V.length,g] (h.put b (some (.cells (arr (pf PL) (A++(U1++U2)++V++B)) 116))) ⟨.tup [],h.put b (some (.cells (arr (pf PL) (A++V++U2++U1++B)) 116)),wr'⟩:=by
     rw [show (m:Int)-((U1++U2).length:Int)=(A.length:Int) by omega,show (m:Int)=((A.length+U1.length+U2.length:Nat):Int) by simp at hm ⊢;omega,← hU1]
     simpa only [List.append_assoc] using hc
    unfold b253_0
    repeat' first|apply W.seq|apply SQn|apply W.region|apply WO.nil|apply W.block|apply W.skip|apply BQn|(apply W.condT;rfl)|(apply WO.gtr;rfl;rfl;all_goals first|(intro _;exfalso;omega)|intro _)|(apply WO.neq;rfl;rfl;all_goals first|(intro _;exfalso;omega)|intro _)|(apply WO.sub;rfl;rfl;omega)|(apply WO.ct;rfl;rfl;first|exact hc')|(apply WO.pl;rfl;rfl)|(apply WO.pp;rfl;rfl)
    refine LQn ?_
    rw [show (((U1++U2).length:Int)-(V.length:Int))=(U2.length:Int) by simp;omega,show (V.length:Int)=(U1.length:Int) by omega]
    rw [show A++V++U2++U1++B=(A++V)++U2++U1++B by simp]
    refine loop253 C hb hn a1 a3 m k (A++V) U2 U1 B _ _ (by simp at hk;omega) (List.length_pos_iff.1 hU2) (List.length_pos_iff.1 (by omega)) (by simp at hm ⊢;omega) (by simp at hl ⊢;omega) (hw'.app hw) (fun A2 X2 W2 B2 lo wr g1 g2 g3 g4 g5=>?_)
    exact hQ A2 X2 W2 B2 lo wr g1 g2 g3 g4 (by rw [g5];simp)
theorem r253 (C:CSp M) (hb:b<h.length) (hn:n<2305843009213693952) {A U V B:List Int} (hU:U≠[]) (hV:V≠[]) (hl:(A++U++V++B).length=n) :
 ∃ wr,Only b wr∧CT M (fn 253) [.sl b 0 n 5 cap,.int .i64 A.length,.int .i64 (A.length+U.length:Nat),.int .i64 (A.length+U.length+V.length:Nat),g] (h.put b (some (.cells (arr (pf PL) (A++U++V++B)) 116))) ⟨.tup [],h.put b (some (.cells (arr (pf PL) (A++V++U++B)) 116)),wr⟩:=by
 have hl':A.length+U.length+V.length+B.length=n:=by simp at hl;omega
 obtain ⟨l',wr,hw,rfl,hr⟩:=run_put (M:=M) (l:=A++U++V++B) (e:=116) (f:=pf PL) (P:=fun l'=>l'=A++V++U++B)
  (ars:=[.sl b 0 n 5 cap,.int .i64 A.length,.int .i64 (A.length+U.length:Nat),.int .i64 (A.length+U.length+V.length:Nat),g]) (by rw [C.ft];exact ft253) (by simp) hb (fun _=>rfl) (by
   unfold b253
   simp only [enter]
   repeat' first|apply W.seq|apply SQn|apply W.region|apply WO.nil|apply W.block|(apply WO.sub;rfl;rfl;omega)|(apply WO.pl;rfl;rfl)|(apply WO.pp;rfl;rfl)
   rw [show (((A.length+U.length:Nat):Int)-(A.length:Int))=(U.length:Int) by omega,show (((A.length+U.length+V.length:Nat):Int)-((A.length+U.length:Nat):Int))=(V.length:Int) by omega]
   refine loop253 C hb hn _ _ (A.length+U.length) (U.length+V.length) A U V B _ _ (Nat.le_refl _) hU hV rfl hl Only.nil (fun A2 U2 V2 B2 lo wr g1 g2 g3 g4 g5=>?_)
   obtain ⟨wr',hw',hc⟩:=r284 (g:=g) (cap:=cap) C hb hn (A:=A2) (X:=U2) (Mid:=[]) (Y:=V2) (B:=B2) g2 (by simpa using g4)
   have hc':CT M (fn 284) [.sl b 0 n 5 cap,.int .i64 (((A.length+U.length:Nat):Int)-(U2.length:Int)),.int .i64 (A.length+U.length:Nat),.int .i64 U2.length,g] (h.put b (some (.cells (arr (pf PL) (A2++U2++V2++B2)) 116))) ⟨.tup [],h.put b (some (.cells (arr (pf PL) (A2++V2++U2++B2)) 116)),wr'⟩:=by
    rw [show ((A.length+U.length:Nat):Int)-(U2.length:Int)=(A2.length:Int) by omega,← g3]
    simpa using hc
   repeat' first|apply SQn|apply W.region|apply WO.nil|apply BQe|(apply WO.sub;rfl;rfl;omega)|(apply WO.ct;rfl;rfl;first|exact hc')|(apply WO.pl;rfl;rfl)
   exact ⟨.inl rfl,rfl,_,rfl,hw'.app g1,g5⟩)
 exact ⟨wr,hw,ct_of_run C.n253 hr⟩
def Cmpp (PL:List Place) (M:Mach) (h:Heap) (b:Nat) (g:AV) (ok:Int→Prop) (cf:Int→Int→Int):Prop:=
 ∀ x y l,ok x→ok y→CT M g [.agg (pf PL (x)),.agg (pf PL (y))] (h.put b (some (.cells (arr (pf PL) l) 116))) ⟨.int .i64 (cf x y),h.put b (some (.cells (arr (pf PL) l) 116)),[]⟩
theorem get_at {A B:List Int} {x:Int} {i:Nat} (hi:i=A.length):(A++x::B)[i]! = x:=by
 subst hi
 rw [List.getElem!_eq_getElem?_getD,List.getElem?_append_right (Nat.le_refl _),Nat.sub_self]
 rfl
theorem swap_down {A B:List Int} {x y:Int} {j:Nat} (hj:j=A.length):((A++y::x::B).set (j+1) y).set j x=A++x::y::B:=by
 subst hj
 rw [show A++y::x::B=(A++[y])++x::B by simp,List.set_append_right _ _ (by simp),show A.length+1-(A++[y]).length=0 by simp,List.set_cons_zero]
 rw [show (A++[y])++y::B=A++y::y::B by simp,List.set_append_right _ _ (Nat.le_refl _),Nat.sub_self,List.set_cons_zero]
theorem swap_up {A B:List Int} {x y:Int} {j:Nat} (hj:j=A.length):((A++x::y::B).set j y).set (j+1) x=A++y::x::B:=by
 subst hj
 rw [List.set_append_right _ _ (Nat.le_refl _),Nat.sub_self,List.set_cons_zero]
 rw [show A++y::y::B=(A++[y])++y::B by simp,List.set_append_right _ _ (by simp),show A.length+1-(A++[y]).length=0 by simp,List.set_cons_zero]
 simp
variable {key:Int→Int} {ok:Int→Prop} {cf:Int→Int→Int}
set_option maxHeartbeats 1000000 in
theorem loop229_0 (hb:b<h.length) (hn:n<2305843009213693952) (hc:Cmpp PL M h b g ok cf) (hcf:∀ x y,ok x→ok y→(cf x y<0↔key y<key x)) (a2 a4:AV) (A T:List Int) (x:Int) (hx:ok x) {Q:Ex→StW→Prop}:∀ (k:Nat) (S1 S2:List Int) (lo:List (Nat×AV)) (wr:List Nat),S1.length=k→(A++S1++x::S2++T).length=n→Only b wr→(∀ y∈S1++S2,y<x∧ok y)→Sd key (S1++S2)→(∀ y∈S2,Lt key x y) →
 (∀ S a5 lo wr L,Only b wr→Sd key S→S.Perm (x::(S1++S2))→L=A++S++T→Q (.exit 2) ⟨⟨[.sl b 0 n 5 cap,.int .i64 A.length,a2,g,a4,a5],lo,h.put b (some (.cells (arr (pf PL) L) 116)),[]⟩,wr⟩) →
 W M (.loop b229_0) ⟨⟨[.sl b 0 n 5 cap,.int .i64 A.length,a2,g,a4,.int .i64 (A.length+S1.length:Nat)],lo,h.put b (some (.cells (arr (pf PL) (A++S1++x::S2++T)) 116)),[]⟩,wr⟩ Q
 | 0,S1,S2,lo,wr,hk,hl,hw,ho,hs,h2,hQ=>by
  obtain rfl:=List.length_eq_zero_iff.1 hk
  refine W.loop ?_
  unfold b229_0
  repeat' first|apply W.seq|apply SQn|apply WO.nil|apply W.exit|apply SQe|apply LQe|apply W.draw|apply WD.nil|(apply WD.sT;rfl)|(apply WD.pure1;rfl)|(apply W.condF;rfl)|(apply WO.gtr;rfl;rfl;all_goals first|(intro _;exfalso;omega)|intro _)|(apply WO.pkF;rfl;rfl)|(apply WO.pl;rfl;rfl)
  · exact hQ (x::S2) _ _ _ _ hw (by simpa using ins_stop (S1:=[]) (x:=x) (by simpa using hs) h2 (by simp)) (by simp) (by simp)
 | k+1,S1,S2,lo,wr,hk,hl,hw,ho,hs,h2,hQ=>by
  obtain ⟨R,y,rfl⟩:∃ R y,S1=R++[y]:=by
   rcases List.eq_nil_or_concat S1 with rfl|⟨R,y,rfl⟩
   · simp at hk
   · exact ⟨R,y,by simp⟩
  have hy:=ho y (by simp)
  have hl':(A++(R++[y])++x::S2++T).length=n:=hl
  have hln:A.length+R.length+S2.length+T.length+2=n:=by simp at hl;omega
  have eL:A++(R++[y])++x::S2++T=(A++R)++y::x::(S2++T):=by simp
  have eJ:(((A.length+(R++[y]).length:Nat):Int)).toNat=(A++R).length+1:=by simp;omega
  have eI:(((A.length+(R++[y]).length:Nat):Int)-1).toNat=(A++R).length:=by simp;omega
  have gx:(A++(R++[y])++x::S2++T)[(((A.length+(R++[y]).length:Nat):Int)).toNat]! = x:=by
   rw [eL,eJ,show (A++R)++y::x::(S2++T)=(A++R++[y])++x::(S2++T) by simp]
   exact get_at (by simp <;> omega)
  have gy:(A++(R++[y])++x::S2++T)[(((A.length+(R++[y]).length:Nat):Int)-1).toNat]! = y:=by
   rw [eL,eI];exact get_at rfl
  have hcc:CT M g [.agg (pf PL ((A++(R++[y])++x::S2++T)[(((A.length+(R++[y]).length:Nat):Int)).toNat]!)),.agg (pf PL ((A++(R++[y])++x::S2++T)[(((A.length+(R++[y]).length:Nat):Int)-1).toNat]!))] (h.put b (some (.cells (arr (pf PL) (A++(R++[y])++x::S2++T)) 116))) ⟨.int .i64 (cf x y),h.put b (some (.cells (arr (pf PL) (A++(R++[y])++x::S2++T)) 116)),[]⟩:=by
   rw [gx,gy];exact hc x y _ hx hy.2
  have hiff:=hcf x y hx hy.2
  have b1:(((A.length+(R++[y]).length:Nat):Int)).toNat<(A++(R++[y])++x::S2++T).length:=by rw [hl'];simp;omega
  have b2:(((A.length+(R++[y]).length:Nat):Int)-1).toNat<(A++(R++[y])++x::S2++T).length:=by rw [hl'];simp;omega
  have c1:(A.length:Int)<((A.length+(R++[y]).length:Nat):Int):=by simp;omega
  have c2:((A.length+(R++[y]).length:Nat):Int)<n:=by simp;omega
  refine W.loop ?_
  by_cases hlt:cf x y<0
  · have hxy:Lt key x y:=(Lt.iff hy.1).2 (hiff.1 hlt)
    unfold b229_0
    repeat' first|apply W.seq|apply SQn|apply W.region|apply WO.nil|apply W.block|apply W.skip|apply BQn|apply W.draw|apply WD.nil|(apply WD.gT;rfl)|(apply WD.pure1;rfl)|(apply WD.load1;rfl;rfl;(first|(simp only [List.nil_append,List.cons_append];rfl)|rfl))|(apply WD.store1;rfl;(first|(simp only [List.nil_append,List.cons_append];rfl)|rfl);(first|(simp only [List.nil_append,List.cons_append];rfl)|rfl))|(apply W.condT;rfl)|(apply WO.lss;rfl;rfl;all_goals first|(intro _;exfalso;omega)|intro _)|(apply WO.gtr;rfl;rfl;all_goals first|(intro _;exfalso;omega)|intro _)|(apply WO.pkT;rfl;rfl)|(apply WO.sub;rfl;rfl;omega)|(apply WD.ct;rfl;rfl;rfl;first|exact hcc)|(apply WO.ias;rfl;rfl;omega)|(apply WO.lsa;rfl;(first|rfl|assumption|exact at_new|(apply at_old;assumption)|(apply at_put;first|assumption|(simp only [put_length];assumption)));exact fun _=>rfl;(first|omega|(simp only [List.length_set];omega)|(simp;omega));decide;rfl;case ia=>infer_instance)|(apply WO.sta;rfl;rfl;(first|rfl|assumption|exact at_new|(apply at_old;assumption)|(apply at_put;first|assumption|(simp only [put_length];assumption)));exact fun _=>rfl;(first|omega|(simp only [List.length_set];omega)|(simp;omega));exact ⟨rfl,by decide,rfl⟩;rfl;case ia=>infer_instance)|(apply WO.pl;rfl;rfl)|(apply WO.pp;rfl;rfl)
    refine LQn ?_
    rw [put_put,put_put,gx,gy,eJ,eI,eL,swap_down rfl]
    rw [show A++R++x::y::(S2++T)=A++R++x::(y::S2)++T by simp]
    rw [show ((A.length+(R++[y]).length:Nat):Int)-1=((A.length+R.length:Nat):Int) by simp;omega]
    refine loop229_0 hb hn hc hcf a2 a4 A T x hx k R (y::S2) _ _ (by simpa using hk) (by simp;omega) hw.cons.cons (fun z hz=>ho z (by simpa using hz)) (by simpa using hs) (fun z hz=>?_) (fun S a5 lo wr L g1 g2 g3 g4=>?_)
    · rcases List.mem_cons.1 hz with rfl|hz
      · exact hxy
      · exact h2 z hz
    · exact hQ S a5 lo wr L g1 g2 (by simpa using g3) g4
  · have hyx:Lt key y x:=Lt.tot hy.1 (fun h=>hlt (hiff.2 ((Lt.iff hy.1).1 h)))
    unfold b229_0
    repeat' first|apply W.seq|apply SQn|apply WO.nil|apply W.exit|apply SQe|apply LQe|apply W.draw|apply WD.nil|(apply WD.gT;rfl)|(apply WD.pure1;rfl)|(apply WD.load1;rfl;rfl;(first|(simp only [List.nil_append,List.cons_append];rfl)|rfl))|(apply W.condF;rfl)|(apply WO.lss;rfl;rfl;all_goals first|(intro _;exfalso;omega)|intro _)|(apply WO.gtr;rfl;rfl;all_goals first|(intro _;exfalso;omega)|intro _)|(apply WO.pkT;rfl;rfl)|(apply WO.sub;rfl;rfl;omega)|(apply WD.ct;rfl;rfl;rfl;first|exact hcc)|(apply WO.ias;rfl;rfl;omega)|(apply WO.lsa;rfl;(first|rfl|assumption|exact at_new|(apply at_old;assumption)|(apply at_put;first|assumption|(simp only [put_length];assumption)));exact fun _=>rfl;(first|omega|(simp only [List.length_set];omega)|(simp;omega));decide;rfl;case ia=>infer_instance)|(apply WO.pl;rfl;rfl)
    exact hQ ((R++[y])++x::S2) _ _ _ _ hw (ins_stop hs h2 (fun z hz=>by simp at hz;subst hz;exact hyx)) List.perm_middle (by simp)
theorem loop229_1 (hb:b<h.length) (hn:n<2305843009213693952) (hc:Cmpp PL M h b g ok cf) (hcf:∀ x y,ok x→ok y→(cf x y<0↔key y<key x)) (A B:List Int) (e:Nat) {Q:Ex→StW→Prop}:∀ (X S0 S:List Int) (a5:AV) (lo:List (Nat×AV)) (wr:List Nat),(A++S++X++B).length=n→A.length+S.length+X.length=e→Only b wr→(S0++X).Pairwise (· < ·)→(∀ y∈S0++X,ok y)→Sd key S→S.Perm S0 →
 (∀ S a4 a5 lo wr L,Only b wr→Sd key S→S.Perm (S0++X)→L=A++S++B→Q (.exit 0) ⟨⟨[.sl b 0 n 5 cap,.int .i64 A.length,.int .i64 e,g,a4,a5],lo,h.put b (some (.cells (arr (pf PL) L) 116)),[]⟩,wr⟩) →
 W M (.loop b229_1) ⟨⟨[.sl b 0 n 5 cap,.int .i64 A.length,.int .i64 e,g,.int .i64 (A.length+S.length:Nat),a5],lo,h.put b (some (.cells (arr (pf PL) (A++S++X++B)) 116)),[]⟩,wr⟩ Q
 | [],S0,S,a5,lo,wr,hl,he,hw,hlt,ho,hs,hp,hQ=>by
  have he':A.length+S.length=e:=by simpa using he
  refine W.loop ?_
  unfold b229_1
  repeat' first|apply W.seq|apply SQn|apply W.region|apply WO.nil|apply W.exit|apply SQe|apply LQe|(apply W.condF;rfl)|(apply WO.lss;rfl;rfl;all_goals first|(intro _;exfalso;omega)|intro _)|(apply WO.pl;rfl;rfl)
  · exact hQ S _ _ _ _ _ hw hs (by simpa using hp) (by simp)
 | x::X,S0,S,a5,lo,wr,hl,he,hw,hlt,ho,hs,hp,hQ=>by
  have he':A.length+S.length<e:=by simp at he;omega
  have hen:e≤n:=by simp at hl he;omega
  have hpw:=List.pairwise_append.1 hlt
  refine W.loop ?_
  unfold b229_1
  repeat' first|apply W.seq|apply SQn|apply W.region|apply WO.nil|apply W.block|apply W.skip|(apply W.condT;rfl)|(apply WO.lss;rfl;rfl;all_goals first|(intro _;exfalso;omega)|intro _)|(apply WO.pl;rfl;rfl)|(apply WO.pp;rfl;rfl)
  rw [show A++S++x::X++B=A++S++x::[]++(X++B) by simp]
  refine loop229_0 hb hn hc hcf _ _ A (X++B) x (ho x (by simp)) S.length S [] _ _ rfl (by simp at hl ⊢;omega) hw (fun y hy=>?_) (by simpa using hs) (by simp) (fun S' a5 lo wr L g1 g2 g3 g4=>?_)
  · have hy0:y∈S0:=hp.mem_iff.1 (by simpa using hy)
    exact ⟨hpw.2.2 y hy0 x (by simp),ho y (by simp [hy0])⟩
  · subst g4
    have hS':S'.length=S.length+1:=by rw [g3.length_eq];simp
    repeat' first|apply SQn|apply W.region|apply WO.nil|apply BQn|apply BQe|(apply WO.add;rfl;rfl;omega)|(apply WO.pl;rfl;rfl)|(apply WO.pp;rfl;rfl)
    refine LQn ?_
    rw [show ((A.length+S.length:Nat):Int)+1=((A.length+S'.length:Nat):Int) by omega]
    rw [show A++S'++(X++B)=A++S'++X++B by simp]
    refine loop229_1 hb hn hc hcf A B e X (S0++[x]) S' _ _ _ (by simp at hl ⊢;omega) (by simp at he;omega) g1 (by simpa using hlt) (by simpa using ho) g2 ?_ (fun S a4 a5 lo wr L k1 k2 k3 k4=>?_)
    · rw [List.append_nil] at g3
      exact (g3.trans (hp.cons x)).trans (List.perm_append_comm (l₁:=[x]) (l₂:=S0))
    · exact hQ S a4 a5 lo wr L k1 k2 (by simpa using k3) k4
theorem r229 (C:CSp M) (hb:b<h.length) (hn:n<2305843009213693952) (hc:Cmpp PL M h b g ok cf) (hcf:∀ x y,ok x→ok y→(cf x y<0↔key y<key x)) {A X B:List Int} (hl:(A++X++B).length=n) (hlt:X.Pairwise (· < ·)) (ho:∀ y∈X,ok y) :
 ∃ S wr,Only b wr∧(Sd key S∧S.Perm X)∧CT M (fn 229) [.sl b 0 n 5 cap,.int .i64 A.length,.int .i64 (A.length+X.length:Nat),g] (h.put b (some (.cells (arr (pf PL) (A++X++B)) 116))) ⟨.tup [],h.put b (some (.cells (arr (pf PL) (A++S++B)) 116)),wr⟩:=by
 have hl':A.length+X.length+B.length=n:=by simp at hl;omega
 obtain ⟨l',wr,hw,⟨S,rfl,g2,g3⟩,hr⟩:=run_put (M:=M) (l:=A++X++B) (e:=116) (f:=pf PL) (P:=fun l'=>∃ S,l'=A++S++B∧Sd key S∧S.Perm X)
  (ars:=[.sl b 0 n 5 cap,.int .i64 A.length,.int .i64 (A.length+X.length:Nat),g]) (by rw [C.ft];exact ft229) (by simp) hb (fun _=>rfl) (by
   unfold b229
   simp only [enter]
   repeat' first|apply W.seq|apply SQn|apply W.region|apply WO.nil|apply W.block|(apply WO.add;rfl;rfl;omega)|(apply WO.pl;rfl;rfl)|(apply WO.pp;rfl;rfl)
   cases X with
   | nil=>
    have h0:([]:List Int).length=0:=rfl
    refine W.loop ?_
    unfold b229_1
    repeat' first|apply W.seq|apply SQn|apply W.region|apply WO.nil|apply W.exit|apply SQe|apply BQe|apply LQe|(apply W.condF;rfl)|(apply WO.lss;rfl;rfl;all_goals first|(intro _;exfalso;omega)|intro _)|(apply WO.pl;rfl;rfl)
    · exact ⟨.inl rfl,rfl,_,rfl,Only.nil,[],by simp,Sd.nil,.refl _⟩
   | cons x X=>
    rw [show ((A.length:Nat):Int)+1=((A.length+[x].length:Nat):Int) by simp,show A++x::X++B=A++[x]++X++B by simp]
    refine loop229_1 hb hn hc hcf A B (A.length+(x::X).length) X [x] [x] _ _ _ (by simp;simp at hl';omega) (by simp;omega) Only.nil (by simpa using hlt) (by simpa using ho) (Sd.one x) (.refl _) (fun S a4 a5 lo wr L k1 k2 k3 k4=>?_)
    repeat' first|apply BQe
    exact ⟨.inl rfl,rfl,L,rfl,k1,S,k4,k2,by simpa using k3⟩)
 exact ⟨S,wr,hw,⟨g2,g3⟩,ct_of_run C.n229 hr⟩
end Go.Ab.Ch6.Srp

/-
  Own work: slices.SortStableFunc over arr (pf PL): the merge in place.
-/
namespace Go.Ab.Ch6.Srp
open Go.Ab.Sort
variable {PL:List Place} {M:Mach} {h:Heap} {b n:Nat} {cap:Option Nat} {g:AV}
variable {key:Int→Int} {ok:Int→Prop} {cf:Int→Int→Int}
theorem getD_mem {l:List Int} {i:Nat} (h:i<l.length):l[i]! ∈ l:=by
 rw [getElem!_pos l i h];exact List.getElem_mem h
theorem atL {A L R B:List Int} {i:Nat} (h:i<L.length):(A++L++R++B)[A.length+i]! = L[i]! := by
 rw [List.getElem!_eq_getElem?_getD,List.getElem!_eq_getElem?_getD,List.append_assoc,List.append_assoc,List.getElem?_append_right (by omega),Nat.add_sub_cancel_left,List.getElem?_append_left h]
theorem atR {A L R B:List Int} {i:Nat} (h:i<R.length):(A++L++R++B)[A.length+L.length+i]! = R[i]! := by
 rw [List.getElem!_eq_getElem?_getD,List.getElem!_eq_getElem?_getD,List.append_assoc,List.getElem?_append_right (by simp),List.length_append,Nat.add_sub_cancel_left,List.getElem?_append_left h]
theorem sd_get {l:List Int} (h:Sd key l) {i j:Nat} (hij:i<j) (hj:j<l.length):Lt key l[i]! l[j]! := by
 rw [getElem!_pos l i (by omega),getElem!_pos l j hj]
 exact h.get (List.getElem?_eq_getElem (by omega)) (List.getElem?_eq_getElem hj) hij
set_option maxHeartbeats 1000000 in
theorem loop230_0 (hn:n<2305843009213693952) (hb:b<h.length) (hc:Cmpp PL M h b g ok cf) (l:List Int) (hl:l.length=n) (a m e:Nat) (ha:a<n) (he:e≤n) (hok:∀ k,m≤k→k<e→ok l[k]!) (hoa:ok l[a]!) (a2 a3 a8 a9 a10 a11 a12 a13 a14 a15 a16 a17 a18 a19:AV) (wr:List Nat)
 (hm:∀ k k',m≤k→k<k'→k'<e→cf l[k']! l[a]! < 0→cf l[k]! l[a]! < 0) {Q:Ex→StW→Prop}:∀ (r i j:Nat) (a7:AV) (lo:List (Nat×AV)),j-i≤r→m≤i→i≤j→j≤e→(∀ k,m≤k→k<i→cf l[k]! l[a]! < 0)→(∀ k,j≤k→k<e→¬ cf l[k]! l[a]! < 0) →
 (∀ (i:Nat) a7 lo,m≤i→i≤e→(∀ k,m≤k→k<i→cf l[k]! l[a]! < 0)→(∀ k,i≤k→k<e→¬ cf l[k]! l[a]! < 0)→Q (.exit 0) ⟨⟨[.sl b 0 n 5 cap,.int .i64 a,a2,a3,g,.int .i64 i,.int .i64 i,a7,a8,a9,a10,a11,a12,a13,a14,a15,a16,a17,a18,a19],lo,h.put b (some (.cells (arr (pf PL) l) 116)),[]⟩,wr⟩) →
 W M (.loop b230_0) ⟨⟨[.sl b 0 n 5 cap,.int .i64 a,a2,a3,g,.int .i64 i,.int .i64 j,a7,a8,a9,a10,a11,a12,a13,a14,a15,a16,a17,a18,a19],lo,h.put b (some (.cells (arr (pf PL) l) 116)),[]⟩,wr⟩ Q:=by
 intro r
 induction r with
 | zero=>
  intro i j a7 lo hr h1 h2 h3 h4 h5 hQ
  obtain rfl:i=j:=by omega
  refine W.loop ?_
  unfold b230_0
  repeat' first|apply W.seq|apply SQn|apply W.region|apply WO.nil|apply W.exit|apply SQe|apply LQe|(apply W.condF;rfl)|(apply WO.lss;rfl;rfl;all_goals first|(intro _;exfalso;omega)|intro _)|(apply WO.pl;rfl;rfl)
  · exact hQ i _ _ h1 h3 h4 h5
 | succ r ih=>
  intro i j a7 lo hr h1 h2 h3 h4 h5 hQ
  refine W.loop ?_
  rcases Nat.eq_or_lt_of_le h2 with rfl|hlt
  · unfold b230_0
    repeat' first|apply W.seq|apply SQn|apply W.region|apply WO.nil|apply W.exit|apply SQe|apply LQe|(apply W.condF;rfl)|(apply WO.lss;rfl;rfl;all_goals first|(intro _;exfalso;omega)|intro _)|(apply WO.pl;rfl;rfl)
    · exact hQ i _ _ h1 h3 h4 h5
  · obtain ⟨H,hH⟩:∃ H,H=(i+j)/2:=⟨_,rfl⟩
    have eH:((i:Int)+(j:Int))/2=(H:Int):=by omega
    have eH':(((i:Int)+(j:Int))/2).toNat=H:=by omega
    have ea:((a:Int)).toNat=a:=by omega
    have hHl:(((i:Int)+(j:Int))/2).toNat<l.length:=by omega
    have hal:((a:Int)).toNat<l.length:=by omega
    have hcc:CT M g [.agg (pf PL (l[(((i:Int)+(j:Int))/2).toNat]!)),.agg (pf PL (l[((a:Int)).toNat]!))] (h.put b (some (.cells (arr (pf PL) l) 116))) ⟨.int .i64 (cf l[H]! l[a]!),h.put b (some (.cells (arr (pf PL) l) 116)),[]⟩:=by
     rw [eH',ea];exact hc _ _ _ (hok H (by omega) (by omega)) hoa
    by_cases hd:cf l[H]! l[a]! < 0
    · unfold b230_0
      repeat' first|apply W.seq|apply SQn|apply W.region|apply WO.nil|apply W.block|apply W.skip|apply BQn|apply W.draw|apply WD.nil|(apply WD.pure1;rfl)|(apply WD.load1;rfl;rfl;(first|(simp only [List.nil_append,List.cons_append];rfl)|rfl))|(apply W.condT;rfl)|(apply WO.lss;rfl;rfl;all_goals first|(intro _;exfalso;omega)|intro _)|(apply WO.cvu;rfl;omega)|(apply WO.cvi;rfl;omega)|(apply WO.shr1;rfl)|(apply WO.add;rfl;rfl;omega)|(apply WD.ct;rfl;rfl;rfl;first|exact hcc)|(apply WO.ias;rfl;rfl;omega)|(apply WO.lsa;rfl;(first|rfl|assumption|exact at_new|(apply at_old;assumption)|(apply at_put;first|assumption|(simp only [put_length];assumption)));exact fun _=>rfl;(first|omega|(simp only [List.length_set];omega)|(simp;omega));decide;rfl;case ia=>infer_instance)|(apply WO.pl;rfl;rfl)|(apply WO.pp;rfl;rfl)
      refine LQn ?_
      rw [eH]
      exact ih (H+1) j _ _ (by omega) (by omega) (by omega) h3 (fun k hk1 hk2=>by
       rcases Nat.lt_or_eq_of_le (Nat.le_of_lt_succ hk2) with hk|rfl
       · exact hm k H hk1 hk (by omega) hd
       · exact hd) h5 hQ
    · unfold b230_0
      repeat' first|apply W.seq|apply SQn|apply W.region|apply WO.nil|apply W.block|apply W.skip|apply BQn|apply W.draw|apply WD.nil|(apply WD.pure1;rfl)|(apply WD.load1;rfl;rfl;(first|(simp only [List.nil_append,List.cons_append];rfl)|rfl))|(apply W.condT;rfl)|(apply W.condF;rfl)|(apply WO.lss;rfl;rfl;all_goals first|(intro _;exfalso;omega)|intro _)|(apply WO.cvu;rfl;omega)|(apply WO.cvi;rfl;omega)|(apply WO.shr1;rfl)|(apply WO.add;rfl;rfl;omega)|(apply WD.ct;rfl;rfl;rfl;first|exact hcc)|(apply WO.ias;rfl;rfl;omega)|(apply WO.lsa;rfl;(first|rfl|assumption|exact at_new|(apply at_old;assumption)|(apply at_put;first|assumption|(simp only [put_length];assumption)));exact fun _=>rfl;(first|omega|(simp only [List.length_set];omega)|(simp;omega));decide;rfl;case ia=>infer_instance)|(apply WO.pl;rfl;rfl)|(apply WO.pp;rfl;rfl)
      refine LQn ?_
      rw [eH]
      exact ih i H _ _ (by omega) h1 (by omega) (by omega) h4 (fun k hk1 hk2=>by
       rcases Nat.lt_or_eq_of_le hk1 with hk|rfl
       · exact fun hd'=>hd (hm H k (by omega) hk hk2 hd')
       · exact hd) hQ
set_option maxHeartbeats 1000000 in
theorem loop230_2 (hn:n<2305843009213693952) (hb:b<h.length) (hc:Cmpp PL M h b g ok cf) (l:List Int) (hl:l.length=n) (a m e:Nat) (ha:a<n) (he:e≤n) (hok:∀ k,m≤k→k<e→ok l[k]!) (hoa:ok l[a]!) (a1 a3 a5 a6 a7 a8 a12 a13 a14 a15 a16 a17 a18 a19:AV) (wr:List Nat)
 (hm:∀ k k',m≤k→k<k'→k'<e→¬ cf l[a]! l[k']! < 0→¬ cf l[a]! l[k]! < 0) {Q:Ex→StW→Prop}:∀ (r i j:Nat) (a11:AV) (lo:List (Nat×AV)),j-i≤r→m≤i→i≤j→j≤e→(∀ k,m≤k→k<i→¬ cf l[a]! l[k]! < 0)→(∀ k,j≤k→k<e→cf l[a]! l[k]! < 0) →
 (∀ (i:Nat) a11 lo,m≤i→i≤e→(∀ k,m≤k→k<i→¬ cf l[a]! l[k]! < 0)→(∀ k,i≤k→k<e→cf l[a]! l[k]! < 0)→Q (.exit 4) ⟨⟨[.sl b 0 n 5 cap,a1,.int .i64 a,a3,g,a5,a6,a7,a8,.int .i64 i,.int .i64 i,a11,a12,a13,a14,a15,a16,a17,a18,a19],lo,h.put b (some (.cells (arr (pf PL) l) 116)),[]⟩,wr⟩) →
 W M (.loop b230_2) ⟨⟨[.sl b 0 n 5 cap,a1,.int .i64 a,a3,g,a5,a6,a7,a8,.int .i64 i,.int .i64 j,a11,a12,a13,a14,a15,a16,a17,a18,a19],lo,h.put b (some (.cells (arr (pf PL) l) 116)),[]⟩,wr⟩ Q:=by
 intro r
 induction r with
 | zero=>
  intro i j a11 lo hr h1 h2 h3 h4 h5 hQ
  obtain rfl:i=j:=by omega
  refine W.loop ?_
  unfold b230_2
  repeat' first|apply W.seq|apply SQn|apply W.region|apply WO.nil|apply W.exit|apply SQe|apply LQe|(apply W.condF;rfl)|(apply WO.lss;rfl;rfl;all_goals first|(intro _;exfalso;omega)|intro _)|(apply WO.pl;rfl;rfl)
  · exact hQ i _ _ h1 h3 h4 h5
 | succ r ih=>
  intro i j a11 lo hr h1 h2 h3 h4 h5 hQ
  refine W.loop ?_
  rcases Nat.eq_or_lt_of_le h2 with rfl|hlt
  · unfold b230_2
    repeat' first|apply W.seq|apply SQn|apply W.region|apply WO.nil|apply W.exit|apply SQe|apply LQe|(apply W.condF;rfl)|(apply WO.lss;rfl;rfl;all_goals first|(intro _;exfalso;omega)|intro _)|(apply WO.pl;rfl;rfl)
    · exact hQ i _ _ h1 h3 h4 h5
  · obtain ⟨H,hH⟩:∃ H,H=(i+j)/2:=⟨_,rfl⟩
    have eH:((i:Int)+(j:Int))/2=(H:Int):=by omega
    have eH':(((i:Int)+(j:Int))/2).toNat=H:=by omega
    have ea:((a:Int)).toNat=a:=by omega
    have hHl:(((i:Int)+(j:Int))/2).toNat<l.length:=by omega
    have hal:((a:Int)).toNat<l.length:=by omega
    have hcc:CT M g [.agg (pf PL (l[((a:Int)).toNat]!)),.agg (pf PL (l[(((i:Int)+(j:Int))/2).toNat]!))] (h.put b (some (.cells (arr (pf PL) l) 116))) ⟨.int .i64 (cf l[a]! l[H]!),h.put b (some (.cells (arr (pf PL) l) 116)),[]⟩:=by
     rw [eH',ea];exact hc _ _ _ hoa (hok H (by omega) (by omega))
    by_cases hd:¬ cf l[a]! l[H]! < 0
    · unfold b230_2
      repeat' first|apply W.seq|apply SQn|apply W.region|apply WO.nil|apply W.block|apply W.skip|apply BQn|apply W.draw|apply WD.nil|(apply WD.pure1;rfl)|(apply WD.load1;rfl;rfl;(first|(simp only [List.nil_append,List.cons_append];rfl)|rfl))|(apply W.condT;rfl)|(apply WO.lss;rfl;rfl;all_goals first|(intro _;exfalso;omega)|intro _)|(apply WO.cvu;rfl;omega)|(apply WO.cvi;rfl;omega)|(apply WO.shr1;rfl)|(apply WO.add;rfl;rfl;omega)|(apply WD.ct;rfl;rfl;rfl;first|exact hcc)|(apply WO.ias;rfl;rfl;omega)|(apply WO.lsa;rfl;(first|rfl|assumption|exact at_new|(apply at_old;assumption)|(apply at_put;first|assumption|(simp only [put_length];assumption)));exact fun _=>rfl;(first|omega|(simp only [List.length_set];omega)|(simp;omega));decide;rfl;case ia=>infer_instance)|(apply WO.pl;rfl;rfl)|(apply WO.pp;rfl;rfl)
      refine LQn ?_
      rw [eH]
      exact ih (H+1) j _ _ (by omega) (by omega) (by omega) h3 (fun k hk1 hk2=>by
       rcases Nat.lt_or_eq_of_le (Nat.le_of_lt_succ hk2) with hk|rfl
       · exact hm k H hk1 hk (by omega) hd
       · exact hd) h5 hQ
    · unfold b230_2
      repeat' first|apply W.seq|apply SQn|apply W.region|apply WO.nil|apply W.block|apply W.skip|apply BQn|apply W.draw|apply WD.nil|(apply WD.pure1;rfl)|(apply WD.load1;rfl;rfl;(first|(simp only [List.nil_append,List.cons_append];rfl)|rfl))|(apply W.condT;rfl)|(apply W.condF;rfl)|(apply WO.lss;rfl;rfl;all_goals first|(intro _;exfalso;omega)|intro _)|(apply WO.cvu;rfl;omega)|(apply WO.cvi;rfl;omega)|(apply WO.shr1;rfl)|(apply WO.add;rfl;rfl;omega)|(apply WD.ct;rfl;rfl;rfl;first|exact hcc)|(apply WO.ias;rfl;rfl;omega)|(apply WO.lsa;rfl;(first|rfl|assumption|exact at_new|(apply at_old;assumption)|(apply at_put;first|assumption|(simp only [put_length];assumption)));exact fun _=>rfl;(first|omega|(simp only [List.length_set];omega)|(simp;omega));decide;rfl;case ia=>infer_instance)|(apply WO.pl;rfl;rfl)|(apply WO.pp;rfl;rfl)
      refine LQn ?_
      rw [eH]
      exact ih i H _ _ (by omega) h1 (by omega) (by omega) h4 (fun k hk1 hk2=>by
       rcases Nat.lt_or_eq_of_le hk1 with hk|rfl
       · exact Decidable.byContradiction fun hd'=>hd (hm H k (by omega) hk hk2 hd')
       · exact Decidable.byContradiction hd) hQ
set_option maxHeartbeats 1000000 in
theorem loop230_4 (hn:n<2305843009213693952) (hb:b<h.length) (hc:Cmpp PL M h b g ok cf) (l:List Int) (hl:l.length=n) (p m e:Nat) (he:e≤n) (hp:p<n+m) (hep:e≤p+1) (hok:∀ k,m≤k→k<e→ok l[k]! ∧ ok l[p-k]!) (a1 a2 a3 a5 a6 a7 a8 a9 a10 a11 a12 a13 a14 a19:AV) (wr:List Nat)
 (hm:∀ k k',m≤k→k<k'→k'<e→¬ cf l[p-k']! l[k']! < 0→¬ cf l[p-k]! l[k]! < 0) {Q:Ex→StW→Prop}:∀ (r i j:Nat) (a18:AV) (lo:List (Nat×AV)),j-i≤r→m≤i→i≤j→j≤e→(∀ k,m≤k→k<i→¬ cf l[p-k]! l[k]! < 0)→(∀ k,j≤k→k<e→cf l[p-k]! l[k]! < 0) →
 (∀ (i:Nat) a18 lo,m≤i→i≤e→(∀ k,m≤k→k<i→¬ cf l[p-k]! l[k]! < 0)→(∀ k,i≤k→k<e→cf l[p-k]! l[k]! < 0)→Q (.exit 8) ⟨⟨[.sl b 0 n 5 cap,a1,a2,a3,g,a5,a6,a7,a8,a9,a10,a11,a12,a13,a14,.int .i64 i,.int .i64 i,.int .i64 p,a18,a19],lo,h.put b (some (.cells (arr (pf PL) l) 116)),[]⟩,wr⟩) →
 W M (.loop b230_4) ⟨⟨[.sl b 0 n 5 cap,a1,a2,a3,g,a5,a6,a7,a8,a9,a10,a11,a12,a13,a14,.int .i64 i,.int .i64 j,.int .i64 p,a18,a19],lo,h.put b (some (.cells (arr (pf PL) l) 116)),[]⟩,wr⟩ Q:=by
 intro r
 induction r with
 | zero=>
  intro i j a18 lo hr h1 h2 h3 h4 h5 hQ
  obtain rfl:i=j:=by omega
  refine W.loop ?_
  unfold b230_4
  repeat' first|apply W.seq|apply SQn|apply W.region|apply WO.nil|apply W.exit|apply SQe|apply LQe|(apply W.condF;rfl)|(apply WO.lss;rfl;rfl;all_goals first|(intro _;exfalso;omega)|intro _)|(apply WO.pl;rfl;rfl)
  · exact hQ i _ _ h1 h3 h4 h5
 | succ r ih=>
  intro i j a18 lo hr h1 h2 h3 h4 h5 hQ
  refine W.loop ?_
  rcases Nat.eq_or_lt_of_le h2 with rfl|hlt
  · unfold b230_4
    repeat' first|apply W.seq|apply SQn|apply W.region|apply WO.nil|apply W.exit|apply SQe|apply LQe|(apply W.condF;rfl)|(apply WO.lss;rfl;rfl;all_goals first|(intro _;exfalso;omega)|intro _)|(apply WO.pl;rfl;rfl)
    · exact hQ i _ _ h1 h3 h4 h5
  · obtain ⟨H,hH⟩:∃ H,H=(i+j)/2:=⟨_,rfl⟩
    have eH:((i:Int)+(j:Int))/2=(H:Int):=by omega
    have eH':(((i:Int)+(j:Int))/2).toNat=H:=by omega
    have ep:((p:Int)-(((i:Int)+(j:Int))/2)).toNat=p-H:=by omega
    have hHl:(((i:Int)+(j:Int))/2).toNat<l.length:=by omega
    have hal:((p:Int)-(((i:Int)+(j:Int))/2)).toNat<l.length:=by omega
    have hcc:CT M g [.agg (pf PL (l[((p:Int)-(((i:Int)+(j:Int))/2)).toNat]!)),.agg (pf PL (l[(((i:Int)+(j:Int))/2).toNat]!))] (h.put b (some (.cells (arr (pf PL) l) 116))) ⟨.int .i64 (cf l[p-H]! l[H]!),h.put b (some (.cells (arr (pf PL) l) 116)),[]⟩:=by
     rw [eH',ep];exact hc _ _ _ (hok H (by omega) (by omega)).2 (hok H (by omega) (by omega)).1
    by_cases hd:¬ cf l[p-H]! l[H]! < 0
    · unfold b230_4
      repeat' first|apply W.seq|apply SQn|apply W.region|apply WO.nil|apply W.block|apply W.skip|apply BQn|apply W.draw|apply WD.nil|(apply WD.pure1;rfl)|(apply WD.load1;rfl;rfl;(first|(simp only [List.nil_append,List.cons_append];rfl)|rfl))|(apply W.condT;rfl)|(apply WO.lss;rfl;rfl;all_goals first|(intro _;exfalso;omega)|intro _)|(apply WO.cvu;rfl;omega)|(apply WO.cvi;rfl;omega)|(apply WO.shr1;rfl)|(apply WO.add;rfl;rfl;omega)|(apply WO.sub;rfl;rfl;omega)|(apply WD.ct;rfl;rfl;rfl;first|exact hcc)|(apply WO.ias;rfl;rfl;omega)|(apply WO.lsa;rfl;(first|rfl|assumption|exact at_new|(apply at_old;assumption)|(apply at_put;first|assumption|(simp only [put_length];assumption)));exact fun _=>rfl;(first|omega|(simp only [List.length_set];omega)|(simp;omega));decide;rfl;case ia=>infer_instance)|(apply WO.pl;rfl;rfl)|(apply WO.pp;rfl;rfl)
      refine LQn ?_
      rw [eH]
      exact ih (H+1) j _ _ (by omega) (by omega) (by omega) h3 (fun k hk1 hk2=>by
       rcases Nat.lt_or_eq_of_le (Nat.le_of_lt_succ hk2) with hk|rfl
       · exact hm k H hk1 hk (by omega) hd
       · exact hd) h5 hQ
    · unfold b230_4
      repeat' first|apply W.seq|apply SQn|apply W.region|apply WO.nil|apply W.block|apply W.skip|apply BQn|apply W.draw|apply WD.nil|(apply WD.pure1;rfl)|(apply WD.load1;rfl;rfl;(first|(simp only [List.nil_append,List.cons_append];rfl)|rfl))|(apply W.condT;rfl)|(apply W.condF;rfl)|(apply WO.lss;rfl;rfl;all_goals first|(intro _;exfalso;omega)|intro _)|(apply WO.cvu;rfl;omega)|(apply WO.cvi;rfl;omega)|(apply WO.shr1;rfl)|(apply WO.add;rfl;rfl;omega)|(apply WO.sub;rfl;rfl;omega)|(apply WD.ct;rfl;rfl;rfl;first|exact hcc)|(apply WO.ias;rfl;rfl;omega)|(apply WO.lsa;rfl;(first|rfl|assumption|exact at_new|(apply at_old;assumption)|(apply at_put;first|assumption|(simp only [put_length];assumption)));exact fun _=>rfl;(first|omega|(simp only [List.length_set];omega)|(simp;omega));decide;rfl;case ia=>infer_instance)|(apply WO.pl;rfl;rfl)|(apply WO.pp;rfl;rfl)
      refine LQn ?_
      rw [eH]
      exact ih i H _ _ (by omega) h1 (by omega) (by omega) h4 (fun k hk1 hk2=>by
       rcases Nat.lt_or_eq_of_le hk1 with hk|rfl
       · exact Decidable.byContradiction fun hd'=>hd (hm H k (by omega) hk hk2 hd')
       · exact Decidable.byContradiction hd) hQ
set_option maxHeartbeats 1000000 in
theorem loop230_1 (hn:n<2305843009213693952) (hb:b<h.length) (x:Int) (T:List Int) (i:Nat) (a1 a2 a3 a6 a7 a9 a10 a11 a12 a13 a14 a15 a16 a17 a18 a19:AV) {Q:Ex→StW→Prop}:∀ (R A:List Int) (lo:List (Nat×AV)) (wr:List Nat),A.length+R.length+1=i→(A++x::(R++T)).length=n→Only b wr →
 (∀ a8 lo wr L,Only b wr→L=A++R++x::T→Q (.exit 2) ⟨⟨[.sl b 0 n 5 cap,a1,a2,a3,g,.int .i64 i,a6,a7,a8,a9,a10,a11,a12,a13,a14,a15,a16,a17,a18,a19],lo,h.put b (some (.cells (arr (pf PL) L) 116)),[]⟩,wr⟩) →
 W M (.loop b230_1) ⟨⟨[.sl b 0 n 5 cap,a1,a2,a3,g,.int .i64 i,a6,a7,.int .i64 A.length,a9,a10,a11,a12,a13,a14,a15,a16,a17,a18,a19],lo,h.put b (some (.cells (arr (pf PL) (A++x::(R++T))) 116)),[]⟩,wr⟩ Q
 | [],A,lo,wr,hi,hl,hw,hQ=>by
  have h0:([]:List Int).length=0:=rfl
  have hn':A.length<n:=by simp at hl;omega
  refine W.loop ?_
  unfold b230_1
  repeat' first|apply W.seq|apply SQn|apply W.region|apply WO.nil|apply W.exit|apply SQe|apply LQe|(apply W.condF;rfl)|(apply WO.lss;rfl;rfl;all_goals first|(intro _;exfalso;omega)|intro _)|(apply WO.sub;rfl;rfl;omega)|(apply WO.pl;rfl;rfl)
  · exact hQ _ _ _ _ hw (by simp)
 | y::R,A,lo,wr,hi,hl,hw,hQ=>by
  have hi':A.length+R.length+2=i:=by simp at hi;omega
  have hl':A.length+R.length+T.length+2=n:=by simp at hl;omega
  have hli:i≤n:=by omega
  have e1:((A.length:Int)).toNat=A.length:=by omega
  have e2:((A.length:Int)+1).toNat=A.length+1:=by omega
  have b1:((A.length:Int)).toNat<(A++x::(y::R++T)).length:=by omega
  have b2:((A.length:Int)+1).toNat<(A++x::(y::R++T)).length:=by omega
  have g1:(A++x::(y::R++T))[A.length]! = x:=get_at rfl
  have g2:(A++x::(y::R++T))[A.length+1]! = y:=by
   rw [show A++x::(y::R++T)=(A++[x])++y::(R++T) by simp];exact get_at (by simp)
  refine W.loop ?_
  unfold b230_1
  repeat' first|apply W.seq|apply SQn|apply W.region|apply WO.nil|apply W.block|apply W.skip|apply BQn|apply W.draw|apply WD.nil|(apply WD.pure1;rfl)|(apply WD.load1;rfl;rfl;(first|(simp only [List.nil_append,List.cons_append];rfl)|rfl))|(apply WD.store1;rfl;(first|(simp only [List.nil_append,List.cons_append];rfl)|rfl);(first|(simp only [List.nil_append,List.cons_append];rfl)|rfl))|(apply W.condT;rfl)|(apply WO.lss;rfl;rfl;all_goals first|(intro _;exfalso;omega)|intro _)|(apply WO.add;rfl;rfl;omega)|(apply WO.sub;rfl;rfl;omega)|(apply WO.ias;rfl;rfl;omega)|(apply WO.lsa;rfl;(first|rfl|assumption|exact at_new|(apply at_old;assumption)|(apply at_put;first|assumption|(simp only [put_length];assumption)));exact fun _=>rfl;(first|omega|(simp only [List.length_set];omega)|(simp;omega));decide;rfl;case ia=>infer_instance)|(apply WO.sta;rfl;rfl;(first|rfl|assumption|exact at_new|(apply at_old;assumption)|(apply at_put;first|assumption|(simp only [put_length];assumption)));exact fun _=>rfl;(first|omega|(simp only [List.length_set];omega)|(simp;omega));exact ⟨rfl,by decide,rfl⟩;rfl;case ia=>infer_instance)|(apply WO.pl;rfl;rfl)|(apply WO.pp;rfl;rfl)
  refine LQn ?_
  rw [put_put,put_put,e1,e2,g1,g2,show A++x::(y::R++T)=A++x::y::(R++T) by simp,swap_up rfl]
  rw [show (A.length:Int)+1=((A++[y]).length:Int) by simp,show A++y::x::(R++T)=(A++[y])++x::(R++T) by simp]
  refine loop230_1 hn hb x T i a1 a2 a3 a6 a7 a9 a10 a11 a12 a13 a14 a15 a16 a17 a18 a19 R (A++[y]) _ _ (by simp;omega) (by simp;omega) hw.cons.cons (fun a8 lo wr L k1 k2=>?_)
  exact hQ a8 lo wr L k1 (by rw [k2];simp)
set_option maxHeartbeats 1000000 in
theorem loop230_3 (hn:n<2305843009213693952) (hb:b<h.length) (y:Int) (A:List Int) (a1 a2 a3 a5 a6 a7 a8 a10 a11 a13 a14 a15 a16 a17 a18 a19:AV) {Q:Ex→StW→Prop}:∀ (k:Nat) (L T:List Int) (lo:List (Nat×AV)) (wr:List Nat),L.length=k→(A++L++y::T).length=n→Only b wr →
 (∀ a12 lo wr L',Only b wr→L'=A++y::L++T→Q (.exit 6) ⟨⟨[.sl b 0 n 5 cap,a1,a2,a3,g,a5,a6,a7,a8,.int .i64 A.length,a10,a11,a12,a13,a14,a15,a16,a17,a18,a19],lo,h.put b (some (.cells (arr (pf PL) L') 116)),[]⟩,wr⟩) →
 W M (.loop b230_3) ⟨⟨[.sl b 0 n 5 cap,a1,a2,a3,g,a5,a6,a7,a8,.int .i64 A.length,a10,a11,.int .i64 (A.length+L.length:Nat),a13,a14,a15,a16,a17,a18,a19],lo,h.put b (some (.cells (arr (pf PL) (A++L++y::T)) 116)),[]⟩,wr⟩ Q
 | 0,L,T,lo,wr,hk,hl,hw,hQ=>by
  obtain rfl:=List.length_eq_zero_iff.1 hk
  have h0:([]:List Int).length=0:=rfl
  have hn':A.length<n:=by simp at hl;omega
  refine W.loop ?_
  unfold b230_3
  repeat' first|apply W.seq|apply SQn|apply W.region|apply WO.nil|apply W.exit|apply SQe|apply LQe|(apply W.condF;rfl)|(apply WO.gtr;rfl;rfl;all_goals first|(intro _;exfalso;omega)|intro _)|(apply WO.pl;rfl;rfl)
  · exact hQ _ _ _ _ hw (by simp)
 | k+1,L,T,lo,wr,hk,hl,hw,hQ=>by
  obtain ⟨R,z,rfl⟩:∃ R z,L=R++[z]:=by
   rcases List.eq_nil_or_concat L with rfl|⟨R,z,rfl⟩
   · simp at hk
   · exact ⟨R,z,by simp⟩
  have hl':A.length+R.length+T.length+2=n:=by simp at hl;omega
  have hR:(R++[z]).length=R.length+1:=by simp
  have hAR:(A++R).length=A.length+R.length:=by simp
  have e1:((A.length+(R++[z]).length:Nat):Int).toNat=(A++R).length+1:=by omega
  have e2:(((A.length+(R++[z]).length:Nat):Int)-1).toNat=(A++R).length:=by omega
  have eL:A++(R++[z])++y::T=(A++R)++z::y::T:=by simp
  have b1:((A.length+(R++[z]).length:Nat):Int).toNat<(A++(R++[z])++y::T).length:=by omega
  have b2:(((A.length+(R++[z]).length:Nat):Int)-1).toNat<(A++(R++[z])++y::T).length:=by omega
  have g1:((A++R)++z::y::T)[(A++R).length]! = z:=get_at rfl
  have g2:((A++R)++z::y::T)[(A++R).length+1]! = y:=by
   rw [show (A++R)++z::y::T=(A++R++[z])++y::T by simp];exact get_at (by simp <;> omega)
  refine W.loop ?_
  unfold b230_3
  repeat' first|apply W.seq|apply SQn|apply W.region|apply WO.nil|apply W.block|apply W.skip|apply BQn|apply W.draw|apply WD.nil|(apply WD.pure1;rfl)|(apply WD.load1;rfl;rfl;(first|(simp only [List.nil_append,List.cons_append];rfl)|rfl))|(apply WD.store1;rfl;(first|(simp only [List.nil_append,List.cons_append];rfl)|rfl);(first|(simp only [List.nil_append,List.cons_append];rfl)|rfl))|(apply W.condT;rfl)|(apply WO.gtr;rfl;rfl;all_goals first|(intro _;exfalso;omega)|intro _)|(apply WO.sub;rfl;rfl;omega)|(apply WO.ias;rfl;rfl;omega)|(apply WO.lsa;rfl;(first|rfl|assumption|exact at_new|(apply at_old;assumption)|(apply at_put;first|assumption|(simp only [put_length];assumption)));exact fun _=>rfl;(first|omega|(simp only [List.length_set];omega)|(simp;omega));decide;rfl;case ia=>infer_instance)|(apply WO.sta;rfl;rfl;(first|rfl|assumption|exact at_new|(apply at_old;assumption)|(apply at_put;first|assumption|(simp only [put_length];assumption)));exact fun _=>rfl;(first|omega|(simp only [List.length_set];omega)|(simp;omega));exact ⟨rfl,by decide,rfl⟩;rfl;case ia=>infer_instance)|(apply WO.pl;rfl;rfl)|(apply WO.pp;rfl;rfl)
  refine LQn ?_
  rw [put_put,put_put,e1,e2,eL,g1,g2,swap_down rfl]
  rw [show ((A.length+(R++[z]).length:Nat):Int)-1=((A.length+R.length:Nat):Int) by omega,show A++R++y::z::T=A++R++y::(z::T) from rfl]
  refine loop230_3 hn hb y A a1 a2 a3 a5 a6 a7 a8 a10 a11 a13 a14 a15 a16 a17 a18 a19 k R (z::T) _ _ (by omega) (by simp;omega) hw.cons.cons (fun a12 lo wr L k1 k2=>?_)
  exact hQ a12 lo wr L k1 (by rw [k2];simp)
end Go.Ab.Ch6.Srp

/-
  Own work: slices.SortStableFunc over arr (pf PL): the merge in place, whole.
-/
namespace Go.Ab.Ch6.Srp
open Go.Ab.Sort
variable {PL:List Place} {M:Mach} {h:Heap} {b n:Nat} {cap:Option Nat} {g:AV}
variable {key:Int→Int} {ok:Int→Prop} {cf:Int→Int→Int}
def t230_1:ICode:=
 .seq (.region [⟨(.l 178),.mv (.p 15),none⟩,
    ⟨(.l 179),.mv (.p 2),none⟩,
    ⟨(.l 180),.bin .lss (.l 178) (.l 179),none⟩,
    ⟨(.l 181),.mv (.l 180),none⟩,
    ⟨(.l 182),.mv (.p 2),some ((.l 181),true)⟩,
    ⟨(.l 183),.mv (.p 19),some ((.l 181),true)⟩,
    ⟨(.l 184),.bin .lss (.l 182) (.l 183),some ((.l 181),true)⟩,
    ⟨(.l 185),.pick (.l 181) (.l 184) (.c (.bool false)),none⟩])
  (
   .cond (.l 185)
   (.region [⟨(.l 186),.mv (.p 0),none⟩,
     ⟨(.l 187),.mv (.p 15),none⟩,
     ⟨(.l 188),.mv (.p 2),none⟩,
     ⟨(.l 189),.mv (.p 19),none⟩,
     ⟨(.l 190),.mv (.p 4),none⟩,
     ⟨(.l 191),.call (.c (.fn (.func 253) [] [])) [(.l 186),(.l 187),(.l 188),(.l 189),(.l 190)],none⟩])
   (.skip))
def t230_2:ICode:=
 .seq (.region [⟨(.l 192),.mv (.p 1),none⟩,
    ⟨(.l 193),.mv (.p 15),none⟩,
    ⟨(.l 194),.bin .lss (.l 192) (.l 193),none⟩,
    ⟨(.l 195),.mv (.l 194),none⟩,
    ⟨(.l 196),.mv (.p 15),some ((.l 195),true)⟩,
    ⟨(.l 197),.mv (.p 13),some ((.l 195),true)⟩,
    ⟨(.l 198),.bin .lss (.l 196) (.l 197),some ((.l 195),true)⟩,
    ⟨(.l 199),.pick (.l 195) (.l 198) (.c (.bool false)),none⟩])
  (
   .cond (.l 199)
   (.region [⟨(.l 200),.mv (.p 0),none⟩,
     ⟨(.l 201),.mv (.p 1),none⟩,
     ⟨(.l 202),.mv (.p 15),none⟩,
     ⟨(.l 203),.mv (.p 13),none⟩,
     ⟨(.l 204),.mv (.p 4),none⟩,
     ⟨(.l 205),.call (.c (.fn (.func 230) [] [])) [(.l 200),(.l 201),(.l 202),(.l 203),(.l 204)],none⟩])
   (.skip))
def t230_3:ICode:=
 .seq (.region [⟨(.l 206),.mv (.p 13),none⟩,
    ⟨(.l 207),.mv (.p 19),none⟩,
    ⟨(.l 208),.bin .lss (.l 206) (.l 207),none⟩,
    ⟨(.l 209),.mv (.l 208),none⟩,
    ⟨(.l 210),.mv (.p 19),some ((.l 209),true)⟩,
    ⟨(.l 211),.mv (.p 3),some ((.l 209),true)⟩,
    ⟨(.l 212),.bin .lss (.l 210) (.l 211),some ((.l 209),true)⟩,
    ⟨(.l 213),.pick (.l 209) (.l 212) (.c (.bool false)),none⟩])
  (
   .cond (.l 213)
   (.region [⟨(.l 214),.mv (.p 0),none⟩,
     ⟨(.l 215),.mv (.p 13),none⟩,
     ⟨(.l 216),.mv (.p 19),none⟩,
     ⟨(.l 217),.mv (.p 3),none⟩,
     ⟨(.l 218),.mv (.p 4),none⟩,
     ⟨(.l 219),.call (.c (.fn (.func 230) [] [])) [(.l 214),(.l 215),(.l 216),(.l 217),(.l 218)],none⟩])
   (.skip))
theorem pp1 (C:CSp M) (hb:b<h.length) (hn:n<2305843009213693952) (A L R B:List Int) {l0:List Int} {st m en:Int} (h0:l0=A++L++R++B) (hl:(A++L++R++B).length=n) (h1:st=(A.length:Int)) (h2:m=((A.length+L.length:Nat):Int)) (h3:en=((A.length+L.length+R.length:Nat):Int))
 {a1 a3 a5 a6 a7 a8 a9 a10 a11 a12 a13 a14 a16 a17 a18:AV} {lo:List (Nat×AV)} {wr:List Nat} (hw:Only b wr) {Q:Ex→StW→Prop}
 (hQ:∀ lo wr l',Only b wr→l'=A++R++L++B→Q .normal ⟨⟨[.sl b 0 n 5 cap,a1,.int .i64 m,a3,g,a5,a6,a7,a8,a9,a10,a11,a12,a13,a14,.int .i64 st,a16,a17,a18,.int .i64 en],lo,h.put b (some (.cells (arr (pf PL) l') 116)),[]⟩,wr⟩) :
 W M t230_1 ⟨⟨[.sl b 0 n 5 cap,a1,.int .i64 m,a3,g,a5,a6,a7,a8,a9,a10,a11,a12,a13,a14,.int .i64 st,a16,a17,a18,.int .i64 en],lo,h.put b (some (.cells (arr (pf PL) l0) 116)),[]⟩,wr⟩ Q:=by
 by_cases e:L≠[]∧R≠[]
 · obtain ⟨e1,e2⟩:=e
   have p1:0<L.length:=List.length_pos_iff.2 e1
   have p2:0<R.length:=List.length_pos_iff.2 e2
   obtain ⟨wr',hw',hc⟩:=r253 (g:=g) (cap:=cap) C hb hn e1 e2 hl
   subst h0;subst h1;subst h2;subst h3
   unfold t230_1
   repeat' first|apply W.seq|apply SQn|apply W.region|apply WO.nil|(apply W.condT;rfl)|(apply WO.gT;rfl)|(apply WO.lss;rfl;rfl;all_goals first|(intro _;exfalso;omega)|intro _)|(apply WO.pkT;rfl;rfl)|(apply WO.ct;rfl;rfl;first|exact hc)|(apply WO.pl;rfl;rfl)
   exact hQ _ _ _ (hw'.app hw) rfl
 · have el:A++L++R++B=A++R++L++B:=by
    by_cases e1:L=[]
    · subst e1;simp
    · by_cases e2:R=[]
      · subst e2;simp
      · exact absurd ⟨e1,e2⟩ e
   have p:¬ (st<m∧m<en):=fun ⟨q1,q2⟩=>e ⟨List.length_pos_iff.1 (by omega),List.length_pos_iff.1 (by omega)⟩
   unfold t230_1
   repeat' first|apply W.seq|apply SQn|apply W.region|apply WO.nil|apply W.skip|(apply W.condF;rfl)|(apply WO.gT;rfl)|(apply WO.sT;rfl)|(apply WO.lss;rfl;rfl;all_goals first|(intro _;exfalso;omega)|intro _)|(apply WO.pkT;rfl;rfl)|(apply WO.pkF;rfl;rfl)|(apply WO.pl;rfl;rfl)
   all_goals first|exact hQ _ _ _ hw (h0.trans el)|(exfalso;omega)
def Mrgp (PL:List Place) (M:Mach) (h:Heap) (b n:Nat) (cap:Option Nat) (g:AV) (key:Int→Int) (A L R B:List Int):Prop:=
 ∃ S wr,Only b wr∧(Sd key S∧S.Perm (L++R))∧CT M (fn 230) [.sl b 0 n 5 cap,.int .i64 A.length,.int .i64 (A.length+L.length:Nat),.int .i64 (A.length+L.length+R.length:Nat),g] (h.put b (some (.cells (arr (pf PL) (A++L++R++B)) 116))) ⟨.tup [],h.put b (some (.cells (arr (pf PL) (A++S++B)) 116)),wr⟩
theorem pp2 (A L R B:List Int) (hM:L≠[]→R≠[]→Mrgp PL M h b n cap g key A L R B) (hL:Sd key L) (hR:Sd key R) {l0:List Int} {a st mid:Int} (h0:l0=A++L++R++B) (h1:a=(A.length:Int)) (h2:st=((A.length+L.length:Nat):Int)) (h3:mid=((A.length+L.length+R.length:Nat):Int))
 {a2 a3 a5 a6 a7 a8 a9 a10 a11 a12 a14 a16 a17 a18 a19:AV} {lo:List (Nat×AV)} {wr:List Nat} (hw:Only b wr) {Q:Ex→StW→Prop}
 (hQ:∀ S lo wr l',Only b wr→Sd key S→S.Perm (L++R)→l'=A++S++B→Q .normal ⟨⟨[.sl b 0 n 5 cap,.int .i64 a,a2,a3,g,a5,a6,a7,a8,a9,a10,a11,a12,.int .i64 mid,a14,.int .i64 st,a16,a17,a18,a19],lo,h.put b (some (.cells (arr (pf PL) l') 116)),[]⟩,wr⟩) :
 W M t230_2 ⟨⟨[.sl b 0 n 5 cap,.int .i64 a,a2,a3,g,a5,a6,a7,a8,a9,a10,a11,a12,.int .i64 mid,a14,.int .i64 st,a16,a17,a18,a19],lo,h.put b (some (.cells (arr (pf PL) l0) 116)),[]⟩,wr⟩ Q:=by
 by_cases e:L≠[]∧R≠[]
 · obtain ⟨e1,e2⟩:=e
   have p1:0<L.length:=List.length_pos_iff.2 e1
   have p2:0<R.length:=List.length_pos_iff.2 e2
   obtain ⟨S,wr',hw',⟨g1,g2⟩,hc⟩:=hM e1 e2
   subst h0;subst h1;subst h2;subst h3
   unfold t230_2
   repeat' first|apply W.seq|apply SQn|apply W.region|apply WO.nil|(apply W.condT;rfl)|(apply WO.gT;rfl)|(apply WO.lss;rfl;rfl;all_goals first|(intro _;exfalso;omega)|intro _)|(apply WO.pkT;rfl;rfl)|(apply WO.ct;rfl;rfl;first|exact hc)|(apply WO.pl;rfl;rfl)
   exact hQ S _ _ _ (hw'.app hw) g1 g2 rfl
 · have es:Sd key (L++R):=by
    by_cases e1:L=[]
    · subst e1;exact hR
    · by_cases e2:R=[]
      · subst e2;rw [List.append_nil];exact hL
      · exact absurd ⟨e1,e2⟩ e
   have p:¬ (a<st∧st<mid):=fun ⟨q1,q2⟩=>e ⟨List.length_pos_iff.1 (by omega),List.length_pos_iff.1 (by omega)⟩
   unfold t230_2
   repeat' first|apply W.seq|apply SQn|apply W.region|apply WO.nil|apply W.skip|(apply W.condF;rfl)|(apply WO.gT;rfl)|(apply WO.sT;rfl)|(apply WO.lss;rfl;rfl;all_goals first|(intro _;exfalso;omega)|intro _)|(apply WO.pkT;rfl;rfl)|(apply WO.pkF;rfl;rfl)|(apply WO.pl;rfl;rfl)
   all_goals first|exact hQ _ _ _ _ hw es (.refl _) (by rw [h0];simp)|(exfalso;omega)
theorem pp3 (A L R B:List Int) (hM:L≠[]→R≠[]→Mrgp PL M h b n cap g key A L R B) (hL:Sd key L) (hR:Sd key R) {l0:List Int} {mid en e':Int} (h0:l0=A++L++R++B) (h1:mid=(A.length:Int)) (h2:en=((A.length+L.length:Nat):Int)) (h3:e'=((A.length+L.length+R.length:Nat):Int))
 {a1 a2 a5 a6 a7 a8 a9 a10 a11 a12 a14 a15 a16 a17 a18:AV} {lo:List (Nat×AV)} {wr:List Nat} (hw:Only b wr) {Q:Ex→StW→Prop}
 (hQ:∀ S lo wr l',Only b wr→Sd key S→S.Perm (L++R)→l'=A++S++B→Q .normal ⟨⟨[.sl b 0 n 5 cap,a1,a2,.int .i64 e',g,a5,a6,a7,a8,a9,a10,a11,a12,.int .i64 mid,a14,a15,a16,a17,a18,.int .i64 en],lo,h.put b (some (.cells (arr (pf PL) l') 116)),[]⟩,wr⟩) :
 W M t230_3 ⟨⟨[.sl b 0 n 5 cap,a1,a2,.int .i64 e',g,a5,a6,a7,a8,a9,a10,a11,a12,.int .i64 mid,a14,a15,a16,a17,a18,.int .i64 en],lo,h.put b (some (.cells (arr (pf PL) l0) 116)),[]⟩,wr⟩ Q:=by
 by_cases e:L≠[]∧R≠[]
 · obtain ⟨e1,e2⟩:=e
   have p1:0<L.length:=List.length_pos_iff.2 e1
   have p2:0<R.length:=List.length_pos_iff.2 e2
   obtain ⟨S,wr',hw',⟨g1,g2⟩,hc⟩:=hM e1 e2
   subst h0;subst h1;subst h2;subst h3
   unfold t230_3
   repeat' first|apply W.seq|apply SQn|apply W.region|apply WO.nil|(apply W.condT;rfl)|(apply WO.gT;rfl)|(apply WO.lss;rfl;rfl;all_goals first|(intro _;exfalso;omega)|intro _)|(apply WO.pkT;rfl;rfl)|(apply WO.ct;rfl;rfl;first|exact hc)|(apply WO.pl;rfl;rfl)
   exact hQ S _ _ _ (hw'.app hw) g1 g2 rfl
 · have es:Sd key (L++R):=by
    by_cases e1:L=[]
    · subst e1;exact hR
    · by_cases e2:R=[]
      · subst e2;rw [List.append_nil];exact hL
      · exact absurd ⟨e1,e2⟩ e
   have p:¬ (mid<en∧en<e'):=fun ⟨q1,q2⟩=>e ⟨List.length_pos_iff.1 (by omega),List.length_pos_iff.1 (by omega)⟩
   unfold t230_3
   repeat' first|apply W.seq|apply SQn|apply W.region|apply WO.nil|apply W.skip|(apply W.condF;rfl)|(apply WO.gT;rfl)|(apply WO.sT;rfl)|(apply WO.lss;rfl;rfl;all_goals first|(intro _;exfalso;omega)|intro _)|(apply WO.pkT;rfl;rfl)|(apply WO.pkF;rfl;rfl)|(apply WO.pl;rfl;rfl)
   all_goals first|exact hQ _ _ _ _ hw es (.refl _) (by rw [h0];simp)|(exfalso;omega)
end Go.Ab.Ch6.Srp
