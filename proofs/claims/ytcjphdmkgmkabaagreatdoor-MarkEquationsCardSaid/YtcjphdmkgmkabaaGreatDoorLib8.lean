import Derived.Test.YtcjphdmkgmkabaaGreatDoorLib7
open Bool renaming true_or→f9,false_or→i5,and_eq_true→jD
open Int renaming lt_of_lt_of_le→i9
open List renaming length_set→b5,length_append→b6,range→b8,length_replicate→b9,length_take→ce,map_cons→ci,mem_singleton→c3,mem_append→c7,mem_map→dN,map_append→dO,length_singleton→dY,mem_iff_getElem→d6,replicate→d7,mem_cons_self→d8,drop_zero→d9,take_of_length_le→fm,drop_length→fG,mem_cons_of_mem→fT,mem_append_left→f6,map_nil→f7,mem_or_eq_of_mem_set→gF,drop_eq_getElem_cons→gT,length_range→g9,take_length→hZ,getElem_mem→ii,set_set→ip,nil_append→iy,set_getElem_self→iz,mem_append_right→i3,mem_cons→i4,length→jU,length_nil→j0,mem_range→j3
open Nat renaming zero_le→b7,lt_irrefl→c8,le_refl→c9,zero_mul→f8,sub_self→it,not_lt_zero→j2
open Option renaming isNone_none→i7,isSome_some→i8,getD_none→jq,map_some→j1
open Rat renaming sub_eq_add_neg→i6
set_option maxHeartbeats 8000000
set_option maxRecDepth 20000
theorem nca2{α:Type}:(∀l:List α,[]++l=l) /\ ∀(a:α)(l m:List α),(a::l)++m=a::(l++m):=⟨List.nil_append,fun _ _ _=>List.cons_append⟩
namespace Go.Ab.Ch1
set_option maxRecDepth 1000000
def AW:ak:=.seq (zR [zm 10 3,zm 11 0,zl 12 11,zb 13 .lss 10 12] (.cond (.l 13) (.skip) (.exit 0))) (.seq (.block 1 (zR [zm 16 0,zm 17 3,za 18 1 16 17,zd 19 1 18,zL 20 19,zm 21 1,zb 22 .gtr 20 21] (.cond (.l 22) (zR [⟨.p 2,.mv (.c (.bool false)),none⟩] (.ret)) (.skip)))) (.region [zm 14 3,zc 15 .add 14 1,zw 3 15]))
def Rk:ak:=zR [⟨.p 2,.mv (.c (.bool false)),none⟩] (.seq (zR [zm 6 0,zl 7 6,zm 8 1,zb 9 .gtr 7 8] (.cond (.l 9) (zR [⟨.p 2,.mv (.c (.bool false)),none⟩] (.ret)) (.skip))) (.seq (zR [zi 3 0] (.block 0 (.loop AW))) (zR [⟨.p 2,.mv (.c (.bool true)),none⟩] (.ret))))
theorem aiN:FT 28=some ⟨23,[0,1,4,5],[.var (.p 2)],Rk⟩:=by kernel_rfl
def HC:ak:=.seq (zR [zm 13 3,zm 14 0,zl 15 14,zb 16 .lss 13 15] (.cond (.l 16) (.skip) (.exit 0))) (.seq (.block 1 (.seq (zR [zm 19 0,zm 20 3,za 21 1 19 20,zd 22 1 21,zl 23 22,zm 24 0,zl 25 24,zb 26 .neq 23 25] (.cond (.l 26) (zR [zi 2 2] (.ret)) (.skip))) (zR [zm 27 0,zm 28 3,za 29 1 27 28,zd 30 1 29,z1 31 67 30,zw 4 31] (zR [zm 32 4,zc 33 .neq 32 0] (.cond (.l 33) (zR [zm 34 4,zw 2 34] (.ret)) (.skip)))))) (.region [zm 17 3,zc 18 .add 17 1,zw 3 18]))
def Rl:ak:=zR [zi 2 0] (.seq (zR [zm 7 0,zl 8 7,zc 9 .eql 8 0] (.cond (.l 9) (zR [zi 2 12] (.ret)) (.skip))) (.seq (zR [zm 10 0,zl 11 10,zc 12 .gtr 11 24] (.cond (.l 12) (zR [zi 2 5] (.ret)) (.skip))) (.seq (zR [zi 3 0] (.block 0 (.loop HC))) (.seq (zR [zm 35 1,zl 36 35,zm 37 0,zl 38 37,zb 39 .neq 36 38] (.cond (.l 39) (zR [zi 2 2] (.ret)) (.skip))) (zR [zm 40 1,z1 41 67 40,zw 2 41] (.ret))))))
theorem aiO:FT 29=some ⟨42,[0,1,4,5,6],[.var (.p 2)],Rl⟩:=by kernel_rfl
def HD:ak:=zR [⟨.p 2,.mv (.c (.ab)),none⟩,⟨.p 3,.mv (.c (.bool false)),none⟩] (.seq (zR [zm 6 0,z1 7 106 6,zm 8 0,zl 9 8,zb 10 .lss 7 9] (.cond (.l 10) (zR [⟨.p 2,.mv (.c (.ab)),none⟩,⟨.p 3,.mv (.c (.bool false)),none⟩] (.ret)) (.skip))) (zR [zm 11 0,zm 12 1,z2 13 107 11 12,ze 14 0 13,ze 15 1 13,zw 2 14,zw 3 15] (.ret)))
theorem Rm:FT 31=some ⟨16,[0,1,4,5],[.var (.p 2),.var (.p 3)],HD⟩:=by kernel_rfl
def HE:ak:=.seq (zR [zm 4 2,zm 5 0,zl 6 5,zb 7 .lss 4 6] (.cond (.l 7) (.skip) (.exit 0))) (.seq (.block 1 (zR [zm 10 0,zm 11 2,za 12 1 10 11,zd 13 1 12,z1 14 108 13,zc 15 .neq 14 0] (.cond (.l 15) (zR [zi 1 4] (.ret)) (.skip)))) (.region [zm 8 2,zc 9 .add 8 1,zw 2 9]))
def Ro:ak:=zR [zi 1 0] (.seq (zR [zi 2 0] (.block 0 (.loop HE))) (zR [zi 1 0] (.ret)))
theorem aiP:FT 32=some ⟨16,[0,2,3],[.var (.p 1)],Ro⟩:=by kernel_rfl
def HF:ak:=.seq (zR [zm 11 3,zm 12 0,zl 13 12,zb 14 .lss 11 13] (.cond (.l 14) (.skip) (.exit 0))) (.seq (.block 1 (.seq (.draw [(zm 17 0,[]),(zm 18 3,[0]),(za 19 1 17 18,[]),(zd 20 1 19,[]),(zm 21 1,[0,1,2,3]),(zm 22 3,[0,1,2,3,4]),(za 23 1 21 22,[0,1,2,3]),(zd 24 1 23,[0,1,2,3]),(zb 25 .neq 20 24,[])]) (.cond (.l 25) (zR [⟨.p 2,.mv (.c (.bool false)),none⟩] (.ret)) (.skip)))) (.region [zm 15 3,zc 16 .add 15 1,zw 3 16]))
def Rq:ak:=zR [⟨.p 2,.mv (.c (.bool false)),none⟩] (.seq (zR [zm 6 0,zl 7 6,zm 8 1,zl 9 8,zb 10 .neq 7 9] (.cond (.l 10) (zR [⟨.p 2,.mv (.c (.bool false)),none⟩] (.ret)) (.skip))) (.seq (zR [zi 3 0] (.block 0 (.loop HF))) (zR [⟨.p 2,.mv (.c (.bool true)),none⟩] (.ret))))
theorem aiQ:FT 33=some ⟨26,[0,1,4,5],[.var (.p 2)],Rq⟩:=by kernel_rfl
def Rr:ak:=zR [zi 1 0] (.seq (zR [zm 3 0,zl 4 3,zc 5 .eql 4 0] (.cond (.l 5) (zR [zi 1 0] (.ret)) (.skip))) (zR [zm 6 0,⟨.l 7,.dw none 1 (.l 6) (kI 0),none⟩,zd 8 1 7,zl 9 8,zw 1 9] (.ret)))
theorem aiR:FT 65=some ⟨10,[0,2],[.var (.p 1)],Rr⟩:=by kernel_rfl
def HG:ak:=.seq (zR [zm 5 2,zm 6 0,zl 7 6,zb 8 .lss 5 7] (.cond (.l 8) (.skip) (.exit 0))) (.seq (.block 1 (zR [zm 11 0,zm 12 2,za 13 1 11 12,zd 14 1 13,z1 15 62 14,zw 3 15] (zR [zm 16 3,zc 17 .neq 16 0] (.cond (.l 17) (zR [zm 18 3,zw 1 18] (.ret)) (.skip))))) (.region [zm 9 2,zc 10 .add 9 1,zw 2 10]))
def Rs:ak:=zR [zi 1 0] (.seq (zR [zi 2 0] (.block 0 (.loop HG))) (zR [zi 1 0] (.ret)))
theorem aiS:FT 67=some ⟨19,[0,2,3,4],[.var (.p 1)],Rs⟩:=by kernel_rfl
def Rt:ak:=zR [zi 1 0] (zR [zm 3 0,z1 4 177 3,zl 5 4,zw 1 5] (.ret))
theorem aiT:FT 106=some ⟨6,[0,2],[.var (.p 1)],Rt⟩:=by kernel_rfl
def AX:ak:=.seq (zR [zm 15 6,zm 16 0,zl 17 16,zb 18 .lss 15 17] (.cond (.l 18) (.skip) (.exit 0))) (.seq (.block 1 (.draw [(zm 21 4,[]),(⟨.l 22,.du 75 0 1 [.str []] [],none⟩,[0]),(zm 23 0,[0,1]),(zm 24 6,[0,1,2]),(za 25 1 23 24,[0,1]),(zd 26 1 25,[0,1]),(⟨.l 27,.append 75 1 16 (.l 22) (.l 26),none⟩,[0]),(zm 28 1,[0,1,2,3,4,5,6]),(zm 29 6,[0,1,2,3,4,5,6,7]),(za 30 1 28 29,[0,1,2,3,4,5,6]),(zd 31 1 30,[0,1,2,3,4,5,6]),(⟨.l 32,.du 75 1 1 [.str []] [(0,1,(.l 31))],none⟩,[0,1,2,3,4,5,6]),(⟨.l 33,.append 75 1 16 (.l 27) (.l 32),none⟩,[0]),(⟨.l 34,.du 38 1 1 [.ab] [(0,1,(.l 33))],none⟩,[0]),(⟨.l 35,.append 38 1 24 (.l 21) (.l 34),none⟩,[]),(zw 4 35,[])])) (.region [zm 19 6,zc 20 .add 19 1,zw 6 20]))
def AY:ak:=.seq (zR [zm 43 10,zm 44 8,zl 45 44,zb 46 .lss 43 45] (.cond (.l 46) (.skip) (.exit 2))) (.seq (.block 3 (.seq (zR [zm 49 8,zm 50 10,za 51 1 49 50,zd 52 1 51,zm 53 5,zb 54 .eql 52 53] (.cond (.l 54) (zR [⟨.p 2,.mv (.c (.ab)),none⟩,⟨.p 3,.mv (.c (.bool false)),none⟩] (.ret)) (.skip))) (.draw [(zm 55 9,[]),(zm 56 8,[0]),(zm 57 10,[0,1]),(za 58 1 56 57,[0]),(zd 59 1 58,[0]),(zm 60 7,[0,1,2,3,4]),(zm 61 10,[0,1,2,3,4,5]),(za 62 1 60 61,[0,1,2,3,4]),(zd 63 1 62,[0,1,2,3,4]),(zm 64 5,[0,1,2,3,4,5,6,7,8]),(za 65 1 63 64,[0,1,2,3,4]),(zd 66 1 65,[0,1,2,3,4]),(za 67 1 55 59,[]),(zS 1 67 66,[])]))) (.region [zm 47 10,zc 48 .add 47 1,zw 10 48]))
def Ru:ak:=zR [⟨.p 2,.mv (.c (.ab)),none⟩,⟨.p 3,.mv (.c (.bool false)),none⟩] (zR [⟨.p 4,.mv (.c (.ab)),none⟩] (zR [zm 13 0,z1 14 65 13,zw 5 14] (.seq (zR [zi 6 0] (.block 0 (.loop AX))) (zR [zm 37 4,z1 38 178 37,zn 36 38,ze 39 0 36,ze 40 1 36,zw 7 39,zw 8 40] (zR [zm 41 5,z1 42 179 41,zw 9 42] (.seq (zR [zi 10 0] (.block 2 (.loop AY))) (zR [zm 68 9,zw 2 68,⟨.p 3,.mv (.c (.bool true)),none⟩] (.ret))))))))
theorem aiU:FT 107=some ⟨69,[0,1,4,5,6,7,8,9,10,11,12],[.var (.p 2),.var (.p 3)],Ru⟩:=by kernel_rfl
def HH:ak:=.seq (zR [zm 5 3,zm 6 0,zl 7 6,zb 8 .lss 5 7] (.cond (.l 8) (.skip) (.exit 0))) (.seq (.block 1 (.region [zm 11 2,⟨.l 12,.du 75 0 1 [.str []] [],none⟩,zm 13 0,zm 14 3,za 15 1 13 14,zd 16 1 15,⟨.l 17,.append 75 1 16 (.l 12) (.l 16),none⟩,⟨.l 18,.du 38 1 1 [.ab] [(0,1,(.l 17))],none⟩,⟨.l 19,.append 38 1 24 (.l 11) (.l 18),none⟩,zw 2 19])) (.region [zm 9 3,zc 10 .add 9 1,zw 3 10]))
def Rv:ak:=zR [⟨.p 1,.mv (.c (.ab)),none⟩] (zR [⟨.p 2,.mv (.c (.ab)),none⟩] (.seq (zR [zi 3 0] (.block 0 (.loop HH))) (zR [zm 20 2,zw 1 20] (.ret))))
theorem aiV:FT 156=some ⟨21,[0,2,3,4],[.var (.p 1)],Rv⟩:=by kernel_rfl
def Rw:ak:=zR [⟨.p 1,.mv (.c (.ab)),none⟩] (zR [zm 6 0,z1 7 178 6,zn 5 7,ze 8 0 5,ze 9 1 5,zw 2 8,zn 4 9] (zR [zm 10 2,zw 1 10] (.ret)))
theorem aiW:FT 177=some ⟨11,[0,2,3],[.var (.p 1)],Rw⟩:=by kernel_rfl
def AZ:ak:=.seq (zR [zm 30 5,zm 31 0,zl 32 31,zb 33 .lss 30 32,zn 34 33,zg (zm 35 0) 34 true,zg (zm 36 5) 34 true,zg (za 37 1 35 36) 34 true,zg (zd 38 1 37) 34 true,zg (zm 39 4) 34 true,zg (za 40 1 38 39) 34 true,zg (zd 41 1 40) 34 true,zg (z1 42 91 41) 34 true,zp 43 34 42] (.cond (.l 43) (.skip) (.exit 2))) (.block 3 (.region [zm 44 5,zc 45 .add 44 1,zw 5 45]))
def Ba:ak:=.seq (zR [zm 74 8,zm 75 0,zm 76 6,za 77 1 75 76,zd 78 1 77,zl 79 78,zb 80 .lss 74 79] (.cond (.l 80) (.skip) (.exit 4))) (.seq (.block 5 (.draw [(zm 83 0,[]),(zm 84 6,[0]),(za 85 1 83 84,[]),(zd 86 1 85,[]),(zm 87 8,[0,1,2,3]),(zm 88 0,[0,1,2,3,4]),(zm 89 6,[0,1,2,3,4,5]),(za 90 1 88 89,[0,1,2,3,4]),(zd 91 1 90,[0,1,2,3,4]),(zm 92 8,[0,1,2,3,4,5,6,7,8]),(za 93 1 91 92,[0,1,2,3,4]),(zd 94 1 93,[0,1,2,3,4]),(zm 95 7,[0,1,2,3,4,5,6,7,8,9,10,11]),(z2 96 53 94 95,[0,1,2,3,4]),(za 97 1 86 87,[]),(zS 1 97 96,[])])) (.region [zm 81 8,zc 82 .add 81 1,zw 8 82]))
def Bb:ak:=.seq (zR [zm 118 11,zm 119 0,zm 120 9,za 121 1 119 120,zd 122 1 121,zl 123 122,zb 124 .lss 118 123] (.cond (.l 124) (.skip) (.exit 8))) (.seq (.block 9 (.draw [(zm 127 0,[]),(zm 128 9,[0]),(za 129 1 127 128,[]),(zd 130 1 129,[]),(zm 131 11,[0,1,2,3]),(zm 132 0,[0,1,2,3,4]),(zm 133 9,[0,1,2,3,4,5]),(za 134 1 132 133,[0,1,2,3,4]),(zd 135 1 134,[0,1,2,3,4]),(zm 136 11,[0,1,2,3,4,5,6,7,8]),(za 137 1 135 136,[0,1,2,3,4]),(zd 138 1 137,[0,1,2,3,4]),(zm 139 10,[0,1,2,3,4,5,6,7,8,9,10,11]),(zm 140 0,[0,1,2,3,4,5,6,7,8,9,10,11,12]),(zm 141 6,[0,1,2,3,4,5,6,7,8,9,10,11,12,13]),(za 142 1 140 141,[0,1,2,3,4,5,6,7,8,9,10,11,12]),(zd 143 1 142,[0,1,2,3,4,5,6,7,8,9,10,11,12]),(zm 144 11,[0,1,2,3,4,5,6,7,8,9,10,11,12,13,14,15,16]),(za 145 1 143 144,[0,1,2,3,4,5,6,7,8,9,10,11,12]),(zd 146 1 145,[0,1,2,3,4,5,6,7,8,9,10,11,12]),(z2 147 53 139 146,[0,1,2,3,4,5,6,7,8,9,10,11]),(z2 148 57 138 147,[0,1,2,3,4]),(za 149 1 130 131,[]),(zS 1 149 148,[])])) (.region [zm 125 11,zc 126 .add 125 1,zw 11 126]))
def Bc:ak:=.seq (zR [zm 98 9,zm 99 0,zl 100 99,zb 101 .lss 98 100] (.cond (.l 101) (.skip) (.exit 6))) (.seq (.block 7 (zR [zm 104 0,zm 105 9,za 106 1 104 105,zd 107 1 106,zm 108 4,za 109 1 107 108,zd 110 1 109,zw 10 110] (.seq (zR [zm 111 9,zm 112 6,zb 113 .eql 111 112,zn 114 113,zg (zm 115 10) 114 false,zg (z1 116 91 115) 114 false,zP 117 114 116] (.cond (.l 117) (.exit 7) (.skip))) (zR [zi 11 0] (.block 8 (.loop Bb)))))) (.region [zm 102 9,zc 103 .add 102 1,zw 9 103]))
def Be:ak:=.seq (zR [zm 15 4,zm 16 0,z1 17 65 16,zb 18 .lss 15 17,zn 19 18,zg (zm 20 3) 19 true,zg (zl 21 20) 19 true,zg (zm 22 0) 19 true,zg (zl 23 22) 19 true,zg (zb 24 .lss 21 23) 19 true,zp 25 19 24] (.cond (.l 25) (.skip) (.exit 0))) (.seq (.block 1 (zR [zm 28 3,zl 29 28,zw 5 29] (.seq (.block 2 (.loop AZ)) (.seq (zR [zm 46 5,zm 47 0,zl 48 47,zb 49 .eql 46 48] (.cond (.l 49) (.exit 1) (.skip))) (zR [zm 50 3,zl 51 50,zw 6 51] (.seq (.draw [(zm 52 0,[]),(zm 53 5,[0]),(zm 54 0,[0,1]),(zm 55 6,[0,1,2]),(zm 56 0,[0,1,2,3]),(zm 57 6,[0,1,2,3,4]),(za 58 1 56 57,[0,1,2,3]),(zd 59 1 58,[0,1,2,3]),(zm 60 0,[0,1,2,3,4,5,6,7]),(zm 61 5,[0,1,2,3,4,5,6,7,8]),(za 62 1 60 61,[0,1,2,3,4,5,6,7]),(zd 63 1 62,[0,1,2,3,4,5,6,7]),(za 64 1 52 53,[2,3]),(zS 1 64 59,[2,3]),(za 65 1 54 55,[]),(zS 1 65 63,[])]) (zR [zm 66 0,zm 67 6,za 68 1 66 67,zd 69 1 68,zm 70 4,za 71 1 69 70,zd 72 1 71,z1 73 133 72,zw 7 73] (.seq (zR [zi 8 0] (.block 4 (.loop Ba))) (.seq (zR [zi 9 0] (.block 6 (.loop Bc))) (.region [zm 150 3,zm 151 4,⟨.l 152,.du 3 1 1 [.iV (0)] [(0,1,(.l 151))],none⟩,⟨.l 153,.append 3 1 8 (.l 150) (.l 152),none⟩,zw 3 153])))))))))) (.region [zm 26 4,zc 27 .add 26 1,zw 4 27]))
def Rx:ak:=zR [⟨.p 1,.mv (.c (.ab)),none⟩,⟨.p 2,.mv (.c (.ab)),none⟩] (zR [zm 13 0,z1 14 156 13,zw 0 14] (zR [⟨.p 3,.mv (.c (.ab)),none⟩] (.seq (zR [zi 4 0] (.block 0 (.loop Be))) (zR [zm 154 0,zm 155 3,zl 156 155,⟨.l 157,.slice .sl 1 (.l 154) none (some (.l 156)) none,none⟩,zm 158 3,zw 1 157,zw 2 158] (.ret)))))
theorem aiX:FT 178=some ⟨159,[0,2,3,4,5,6,7,8,9,10,11,12],[.var (.p 1),.var (.p 2)],Rx⟩:=by kernel_rfl
def HI:ak:=.seq (zR [zm 5 3,zm 6 0,zb 7 .lss 5 6] (.cond (.l 7) (.skip) (.exit 0))) (.seq (.block 1 (.region [zm 10 2,⟨.l 11,.du 75 1 1 [.str []] [(0,1,(.c (.str [48])))],none⟩,⟨.l 12,.append 75 1 16 (.l 10) (.l 11),none⟩,zw 2 12])) (.region [zm 8 3,zc 9 .add 8 1,zw 3 9]))
def Ry:ak:=zR [⟨.p 1,.mv (.c (.ab)),none⟩] (zR [⟨.p 2,.mv (.c (.ab)),none⟩] (.seq (zR [zi 3 0] (.block 0 (.loop HI))) (zR [zm 13 2,zw 1 13] (.ret))))
theorem aiY:FT 179=some ⟨14,[0,2,3,4],[.var (.p 1)],Ry⟩:=by kernel_rfl
def HJ:ak:=.seq (zR [zm 29 3,zm 30 0,zl 31 30,zb 32 .lss 29 31] (.cond (.l 32) (.skip) (.exit 0))) (.seq (.block 1 (zR [zm 35 0,zm 36 3,za 37 1 35 36,zd 38 1 37,⟨.l 39,.call (kF 28) [(.l 38),(kI 8)],none⟩,zu 40 39,zn 41 40,zg (zm 42 0) 41 false,zg (zm 43 3) 41 false,zg (za 44 1 42 43) 41 false,zg (zd 45 1 44) 41 false,zg (zl 46 45) 41 false,zg (zc 47 .gtr 46 30) 41 false,zP 48 41 47] (.cond (.l 48) (zR [⟨.p 2,.mv (.c (.bool true)),none⟩] (.ret)) (.skip)))) (.region [zm 33 3,zc 34 .add 33 1,zw 3 34]))
def b4:ak:=zR [⟨.p 2,.mv (.c (.bool false)),none⟩] (.seq (zR [⟨.l 11,.call (kF 18) [],none⟩,zu 12 11,zn 13 12,zg (zm 14 0) 13 false,zg (zl 15 14) 13 false,zg (zc 16 .gtr 15 30) 13 false,zP 17 13 16,zn 18 17,zg (zm 19 1) 18 false,⟨.l 20,.call (kF 28) [(.l 19),(kI 8)],some ((.l 18),false)⟩,zg (zu 21 20) 18 false,zP 22 18 21,zn 23 22,zg (zm 24 1) 23 false,zg (zl 25 24) 23 false,zg (zc 26 .gtr 25 30) 23 false,zP 27 23 26] (.cond (.l 27) (zR [⟨.l 28,.call (kF 18) [],none⟩,zw 2 28] (.ret)) (.skip))) (.seq (zR [zi 3 0] (.block 0 (.loop HJ))) (zR [zm 49 0,zm 50 1,z2 51 29 49 50,zw 4 51] (.seq (zR [zm 52 4,zc 53 .eql 52 0,zn 54 53,zg (zm 55 0) 54 true,zg (zl 56 55) 54 true,zg (zc 57 .gtr 56 5) 54 true,zp 58 54 57] (.cond (.l 58) (zR [⟨.p 2,.mv (.c (.bool true)),none⟩] (.ret)) (.skip))) (zR [zm 60 0,zm 61 1,z2 62 30 60 61,zn 59 62,ze 63 0 59,ze 64 1 59,zw 5 63,zw 6 64] (zR [⟨.p 7,.mv (.c (.ab)),none⟩] (.seq (zR [zm 65 4,zc 66 .eql 65 0] (.cond (.l 66) (zR [⟨.p 8,.mv (.c (.bool false)),none⟩] (zR [zm 68 0,zm 69 1,z2 70 31 68 69,zn 67 70,ze 71 0 67,ze 72 1 67,zw 7 71,zw 8 72] (.region [zm 73 8,zu 74 73,⟨.l 75,.call (kF 25) [(.l 74),(kI 15)],none⟩,zw 4 75]))) (.skip))) (.seq (zR [zm 76 4,zc 77 .eql 76 0] (.cond (.l 77) (.region [zm 78 7,z1 79 32 78,zw 4 79]) (.skip))) (.seq (zR [zm 80 4,zc 81 .neq 80 0] (.cond (.l 81) (zR [zm 82 5,zl 83 82,zc 84 .eql 83 0,zn 85 84,zg (zm 86 6) 85 true,zg (zm 87 4) 85 true,zg (zb 88 .eql 86 87) 85 true,zp 89 85 88,zw 2 89] (.ret)) (.skip))) (zR [zm 90 6,zc 91 .eql 90 0,zn 92 91,zg (zm 93 5) 92 true,zg (zm 94 7) 92 true,zg (z2 95 33 93 94) 92 true,zp 96 92 95,zw 2 96] (.ret)))))))))))
theorem ft4:FT 4=some ⟨97,[0,1,4,5,6,7,8,9,10],[.var (.p 2)],b4⟩:=by kernel_rfl
open Go.Ab.aU
variable {M:aw} {cap:Option Nat}
abbrev fS (s:ah):List AV:=[.str s]
abbrev bB {α:Type}(f:α->List AV)(l:List α):List AV:=[.vs (arr f l) l.length none]
def jl (w:Nat)(c:List ah)(q:Nat->Rat):Prop:=∀k,k<w->c[k]! = ao (q k)
structure qt (M:aw):Prop where
 ft:M.FT=FT
 HK:∀p q h,Dq 20000 p->Dq 20000 q->M.ext 53 [.str (ao p),.str (ao q)] h=some ⟨.str (ao (p*q)),h,[]⟩
 Rz:∀p q h,Dq 20000 p->Dq 20000 q->M.ext 57 [.str (ao p),.str (ao q)] h=some ⟨.str (ao (p-q)),h,[]⟩
 RA:∀q h,Dq 20000 q->q≠0->M.ext 133 [.str (ao q)] h=some ⟨.str (ao q⁻¹),h,[]⟩
 HL:∀(s:ah) h,M.ext 91 [.str s] h=some ⟨.bool (decide (s=[48])),h,[]⟩
 si:∀v (m:List (List ah)) h w,cK h v (.vs (arr (bB fS) m) m.length none)->(∀i,i<m.length->m[i]!.length=w)->0<m.length->M.ext 65 [v] h=some ⟨.iV w,h,[]⟩
 RB:∀a h,M.ext 156 a h=none
structure gJ (n:Nat)(rs:List (Nat×Option Nat))(K0 K:aa):Prop where
 len:K0.length<=K.length
 ck:∀x v,(∀j,j<n->rs[j]!.1≠x)->K0.at x=some v->K.at x=some v
theorem gJ.refl {n:Nat}{rs:List (Nat×Option Nat)}{K:aa}:gJ n rs K K:=⟨c9 _,fun _ _ _ h=>h⟩
theorem gJ.trans {n:Nat}{rs:List (Nat×Option Nat)}{K L J:aa}(h:gJ n rs K L)(h':gJ n rs L J):gJ n rs K J:=⟨Nat.le_trans h.len h'.len,fun x v hx hv=>h'.ck x v hx (h.ck x v hx hv)⟩
theorem gJ.put {n i:Nat}{rs:List (Nat×Option Nat)}{K0 K:aa}{o:Option ba}(h:gJ n rs K0 K)(hi:i<n):gJ n rs K0 (K.put rs[i]!.1 o):=⟨by rw[dQ];exact h.len,fun x v hx hv=>by rw[mO (hx i hi)];exact h.ck x v hx hv⟩
theorem aja (C:qt M){w n:Nat}{b:Nat}{rs:List (Nat×Option Nat)}{A:List (List ah)}{cap:Option Nat}{c:Nat}{lq:Rat}{q:Nat->Rat}(hn:A.length=n)(hn1:n<1000000)(hw:w<1000000)(hc:c<n)(dl:Dq 20000 lq)(dq:∀k,k<w->Dq 20000 (q k))
 (a1 a2 a3 a4 a5 a9 aA aB:AV) {Q:Ex->aq->Prop}
 (K0:aa) (hQ:∀K r' lo wr,bQ fS 1 w 75 38 K b rs (A.set c r')->r'.length=w->jl w r' (fun k=>q k*lq)->gJ n rs K0 K->Q (.exit 4) ⟨⟨[.sl b 0 n 1 cap,a1,a2,a3,a4,a5,.iV c,.str (ao lq),.iV w,a9,aA,aB],lo,K,[]⟩,wr⟩)
 (r':List ah) (hM:bQ fS 1 w 75 38 K0 b rs (A.set c r')) (hr:r'.length=w) (hq:jl w r' q) (lo:List (Nat×AV)) (wr:List Nat) :
 W M (.loop Ba) ⟨⟨[.sl b 0 n 1 cap,a1,a2,a3,a4,a5,.iV c,.str (ao lq),.iV 0,a9,aA,aB],lo,K0,[]⟩,wr⟩ Q:=by
 refine W.di w (fun k st=>∃K r' lo wr,st=⟨⟨[.sl b 0 n 1 cap,a1,a2,a3,a4,a5,.iV c,.str (ao lq),.iV k,a9,aA,aB],lo,K,[]⟩,wr⟩/\bQ fS 1 w 75 38 K b rs (A.set c r')/\r'.length=w/\gJ n rs K0 K/\∀j,j<w->r'[j]! = ao (if j<k then q j*lq else q j))
  (fun k st hk ⟨K,r',lo,wr,hst,hM,hr,hX,hq⟩=>?_) (fun st ⟨K,r',lo,wr,hst,hM,hr,hX,hq⟩=>?_) (b7 _) ⟨K0,r',lo,wr,rfl,hM,hr,.refl,fun j hj=>by rw[if_neg ac];exact hq j hj⟩
 . subst hst;have hout:=hM.out;have hlen:rs.length=n:=by rw[hM.len,b5,hn]
   have hrow:=hM.row c (by rw[b5];omega);rw[gp ac,if_pos rfl]at hrow;have fk:=hq k hk;rw[if_neg (c8 k)]at fk;have q53:∀h,M.ext 53 [.str r'[((k:Nat):Int).toNat]!,.str (ao lq)] h=some ⟨.str (ao (q k*lq)),h,[]⟩:=fun h=>by
    rw[show r'[((k:Nat):Int).toNat]! = ao (q k) from fk];exact C.HK _ _ h (dq k hk) dl
   have hrow:K.at (rs[((c:Nat):Int).toNat]!).1=some (.cells (arr fS r') 75):=hrow;have next:∀lo wr,LI (fun st=>∃K r' lo wr,st=⟨⟨[.sl b 0 n 1 cap,a1,a2,a3,a4,a5,.iV c,.str (ao lq),.iV ((k+1:Nat):Int),a9,aA,aB],lo,K,[]⟩,wr⟩/\bQ fS 1 w 75 38 K b rs (A.set c r')/\r'.length=w/\gJ n rs K0 K/\∀j,j<w->r'[j]! = ao (if j<k+1 then q j*lq else q j)) Q .normal
    ⟨⟨[.sl b 0 n 1 cap,a1,a2,a3,a4,a5,.iV c,.str (ao lq),.iV ((k:Int)+1),a9,aA,aB],lo,K.put (rs[((c:Nat):Int).toNat]!).1 (some (.cells (arr fS (r'.set ((k:Nat):Int).toNat (ao (q k*lq)))) 75)),[]⟩,wr⟩:=fun lo wr=>
    bW ⟨_,r'.set k (ao (q k*lq)),lo,wr,rfl,by
     have:=hM.set (i:=c) (by rw[b5];omega) (c':=r'.set k (ao (q k*lq))) (by rw[b5];exact hr);rw[ip]at this;exact this,by rw[b5];exact hr,hX.put hc,fun j hj=>by
     rw[gp ac];by_cases ej:k=j
     . subst ej;rw[if_pos rfl,if_pos ac]
     . rw[if_neg ej];have:=hq j hj;by_cases hjk:j<k
       . rw[if_pos hjk]at this;rw[if_pos ac];exact this
       . rw[if_neg hjk]at this;rw[if_neg ac];exact this⟩
   unfold Ba;repeat' first|refine gd1 ?_|refine gd8 ?_|(apply ahJ (f:=fS) (c:=r') (e:=75);rfl;exact hrow;exact fun _=>rfl;omega;decide;rfl)|(apply ais (f:=fS) (c:=r') (a:=ao (q k*lq)) (e:=75);rfl;rfl;exact hrow;exact fun _=>rfl;omega;exact⟨rfl,am,rfl⟩;rfl)|(apply abd;rfl;rfl)|refine gc ?_|(intro _;omega)|intro _
   all_goals try omega
   all_goals first|exact next _ _|infer_instance
 . subst hst;have hout:=hM.out;have hlen:rs.length=n:=by rw[hM.len,b5,hn]
   unfold Ba;repeat' first|refine gd8 ?_|(apply abd;rfl;rfl)|refine gc ?_|(intro _;omega)|intro _
   all_goals try omega
   all_goals first|exact hQ K r' _ _ hM hr (fun j hj=>by have:=hq j hj;rw[if_pos hj]at this;exact this) hX|infer_instance
theorem ajb (C:qt M){w n:Nat}{b:Nat}{rs:List (Nat×Option Nat)}{A:List (List ah)}{cap:Option Nat}{c i:Nat}{tq:Rat}{q p:Nat->Rat}(hn:A.length=n)(hn1:n<1000000)(hw:w<1000000)(hc:c<n)(hi:i<n)(hic:i≠c)(dt:Dq 20000 tq)(dq:∀k,k<w->Dq 20000 (q k))(dp:∀k,k<w->Dq 20000 (p k))(dtp:∀k,k<w->Dq 20000 (tq*p k))(hp:jl w A[c]! p)
 (a1 a2 a3 a4 a5 a7 a8:AV) {Q:Ex->aq->Prop}
 (K0:aa) (hQ:∀K r' lo wr,bQ fS 1 w 75 38 K b rs (A.set i r')->r'.length=w->jl w r' (fun k=>q k-tq*p k)->gJ n rs K0 K->Q (.exit 8) ⟨⟨[.sl b 0 n 1 cap,a1,a2,a3,a4,a5,.iV c,a7,a8,.iV i,.str (ao tq),.iV w],lo,K,[]⟩,wr⟩)
 (r':List ah) (hM:bQ fS 1 w 75 38 K0 b rs (A.set i r')) (hr:r'.length=w) (hq:jl w r' q) (lo:List (Nat×AV)) (wr:List Nat) :
 W M (.loop Bb) ⟨⟨[.sl b 0 n 1 cap,a1,a2,a3,a4,a5,.iV c,a7,a8,.iV i,.str (ao tq),.iV 0],lo,K0,[]⟩,wr⟩ Q:=by
 refine W.di w (fun k st=>∃K r' lo wr,st=⟨⟨[.sl b 0 n 1 cap,a1,a2,a3,a4,a5,.iV c,a7,a8,.iV i,.str (ao tq),.iV k],lo,K,[]⟩,wr⟩/\bQ fS 1 w 75 38 K b rs (A.set i r')/\r'.length=w/\gJ n rs K0 K/\∀j,j<w->r'[j]! = ao (if j<k then q j-tq*p j else q j))
  (fun k st hk ⟨K,r',lo,wr,hst,hM,hr,hX,hq⟩=>?_) (fun st ⟨K,r',lo,wr,hst,hM,hr,hX,hq⟩=>?_) (b7 _) ⟨K0,r',lo,wr,rfl,hM,hr,.refl,fun j hj=>by rw[if_neg ac];exact hq j hj⟩
 . subst hst;have hout:=hM.out;have hlen:rs.length=n:=by rw[hM.len,b5,hn]
   have hrow:=hM.row i (by rw[b5];omega);rw[gp ac,if_pos rfl]at hrow;have hrc:=hM.row c (by rw[b5];omega);rw[gp ac,if_neg hic]at hrc;have hwc:=hM.wid c (by rw[b5];omega);rw[gp ac,if_neg hic]at hwc;have fk:=hq k hk;rw[if_neg (c8 k)]at fk;have q53:∀h,M.ext 53 [.str (ao tq),.str (A[c]!)[((k:Nat):Int).toNat]!] h=some ⟨.str (ao (tq*p k)),h,[]⟩:=fun h=>by
    rw[show (A[c]!)[((k:Nat):Int).toNat]! = ao (p k) from hp k hk];exact C.HK _ _ h dt (dp k hk)
   have q57:∀h,M.ext 57 [.str r'[((k:Nat):Int).toNat]!,.str (ao (tq*p k))] h=some ⟨.str (ao (q k-tq*p k)),h,[]⟩:=fun h=>by
    rw[show r'[((k:Nat):Int).toNat]! = ao (q k) from fk];exact C.Rz _ _ h (dq k hk) (dtp k hk)
   have hrow:K.at (rs[((i:Nat):Int).toNat]!).1=some (.cells (arr fS r') 75):=hrow;have hrc:K.at (rs[((c:Nat):Int).toNat]!).1=some (.cells (arr fS A[c]!) 75):=hrc;generalize A[c]! = rc at hrc hwc q53;have next:∀lo wr,LI (fun st=>∃K r' lo wr,st=⟨⟨[.sl b 0 n 1 cap,a1,a2,a3,a4,a5,.iV c,a7,a8,.iV i,.str (ao tq),.iV ((k+1:Nat):Int)],lo,K,[]⟩,wr⟩/\bQ fS 1 w 75 38 K b rs (A.set i r')/\r'.length=w/\gJ n rs K0 K/\∀j,j<w->r'[j]! = ao (if j<k+1 then q j-tq*p j else q j)) Q .normal
    ⟨⟨[.sl b 0 n 1 cap,a1,a2,a3,a4,a5,.iV c,a7,a8,.iV i,.str (ao tq),.iV ((k:Int)+1)],lo,K.put (rs[((i:Nat):Int).toNat]!).1 (some (.cells (arr fS (r'.set ((k:Nat):Int).toNat (ao (q k-tq*p k)))) 75)),[]⟩,wr⟩:=fun lo wr=>
    bW ⟨_,r'.set k (ao (q k-tq*p k)),lo,wr,rfl,by
     have:=hM.set (i:=i) (by rw[b5];omega) (c':=r'.set k (ao (q k-tq*p k))) (by rw[b5];exact hr);rw[ip]at this;exact this,by rw[b5];exact hr,hX.put hi,fun j hj=>by
     rw[gp ac];by_cases ej:k=j
     . subst ej;rw[if_pos rfl,if_pos ac]
     . rw[if_neg ej];have:=hq j hj;by_cases hjk:j<k
       . rw[if_pos hjk]at this;rw[if_pos ac];exact this
       . rw[if_neg hjk]at this;rw[if_neg ac];exact this⟩
   unfold Bb;repeat' first|refine gd1 ?_|refine gd8 ?_|(apply ahJ (f:=fS) (e:=75);rfl;(first|exact hrow|exact hrc);exact fun _=>rfl;omega;decide;rfl)|(apply ais (f:=fS) (c:=r') (a:=ao (q k-tq*p k)) (e:=75);rfl;rfl;exact hrow;exact fun _=>rfl;omega;exact⟨rfl,am,rfl⟩;rfl)|(apply abd;rfl;rfl)|refine gc ?_|(intro _;omega)|intro _
   all_goals try omega
   all_goals first|exact next _ _|infer_instance
 . subst hst;have hout:=hM.out;have hlen:rs.length=n:=by rw[hM.len,b5,hn]
   unfold Bb;repeat' first|refine gd8 ?_|(apply abd;rfl;rfl)|refine gc ?_|(intro _;omega)|intro _
   all_goals try omega
   all_goals first|exact hQ K r' _ _ hM hr (fun j hj=>by have:=hq j hj;rw[if_pos hj]at this;exact this) hX|infer_instance
theorem RC {β:Type}[Inhabited β]{l:List β}{i:Nat}(h:i<l.length):l.set i l[i]! = l:=by
 rw[getElem!_pos l i h];exact iz h
theorem RD {q:Rat}:ao q=[48]↔q=0:=by
 constructor
 . intro h;have h1:=HB q;have h2:=HB 0;rw[Gi]at h2;rw[h,h2]at h1;exact h1.symm
 . rintro rfl;exact Gi
def fy (n w:Nat)(A:List (List ah))(q:QM):Prop:=∀a,a<n->jl w A[a]! (q a)
theorem ajc (C:qt M){w n:Nat}{b:Nat}{rs:List (Nat×Option Nat)}{A:List (List ah)}{cap:Option Nat}{c ro:Nat}{q:QM}{D:Nat}(hn:A.length=n)(hn1:n<1000000)(hw:w<1000000)(hc:ro<n)(hcw:c<w)(hD:2*D<=20000)(dq:cY n w D q)(hq:fy n w A q)
 (a1 a2 a3 a5 a7 a8:AV) {Q:Ex->aq->Prop} {K0:aa} (hM:bQ fS 1 w 75 38 K0 b rs A)
 (hQ:∀K A' aA aB lo wr,bQ fS 1 w 75 38 K b rs A'->A'.length=n->fy n w A' (fN q ro c)->gJ n rs K0 K->Q (.exit 6) ⟨⟨[.sl b 0 n 1 cap,a1,a2,a3,.iV c,a5,.iV ro,a7,a8,.iV n,aA,aB],lo,K,[]⟩,wr⟩)
 (aA aB:AV) (lo:List (Nat×AV)) (wr:List Nat) :
 W M (.loop Bc) ⟨⟨[.sl b 0 n 1 cap,a1,a2,a3,.iV c,a5,.iV ro,a7,a8,.iV 0,aA,aB],lo,K0,[]⟩,wr⟩ Q:=by
 refine W.di n (fun i st=>∃K A' aA aB lo wr,st=⟨⟨[.sl b 0 n 1 cap,a1,a2,a3,.iV c,a5,.iV ro,a7,a8,.iV i,aA,aB],lo,K,[]⟩,wr⟩/\bQ fS 1 w 75 38 K b rs A'/\A'.length=n/\gJ n rs K0 K/\∀a,a<n->jl w A'[a]! (if a<i then fN q ro c a else q a))
  (fun i st hi ⟨K,A',aA,aB,lo,wr,hst,hM,hA,hX,hI⟩=>?_) (fun st ⟨K,A',aA,aB,lo,wr,hst,hM,hA,hX,hI⟩=>?_) (b7 _) ⟨K0,A,aA,aB,lo,wr,rfl,hM,hn,.refl,fun a ha=>by rw[if_neg ac];exact hq a ha⟩
 . subst hst;have hout:=hM.out;have hlen:rs.length=n:=by rw[hM.len,hA]
   have hrow:=hM.row i ac;have hwi:=hM.wid i ac;have fi:=hI i hi c hcw;rw[if_neg (c8 i)]at fi;have fc:=hI ro hc;have ec:(if ro<i then fN q ro c ro else q ro)=q ro:=by
    split
    . funext k;exact if_pos rfl
    . rfl
   rw[ec]at fc;have q91:∀h,M.ext 91 [.str (ao (q i c))] h=some ⟨.bool (decide (q i c=0)),h,[]⟩:=fun h=>by
    rw[C.HL,decide_eq_decide.2 RD]
   have hrow:K.at (rs[((i:Nat):Int).toNat]!).1=some (.cells (arr fS A'[((i:Nat):Int).toNat]!) 75):=hrow;have hwi:(A'[((i:Nat):Int).toNat]!).length=w:=hwi;have fi:(A'[((i:Nat):Int).toNat]!)[((c:Nat):Int).toNat]! = ao (q i c):=fi;have next:∀K' A'' aA aB lo wr,bQ fS 1 w 75 38 K' b rs A''->A''.length=n->gJ n rs K0 K'->(∀a,a<n->jl w A''[a]! (if a<i+1 then fN q ro c a else q a))->LI (fun st=>∃K A' aA aB lo wr,st=⟨⟨[.sl b 0 n 1 cap,a1,a2,a3,.iV c,a5,.iV ro,a7,a8,.iV ((i+1:Nat):Int),aA,aB],lo,K,[]⟩,wr⟩/\bQ fS 1 w 75 38 K b rs A'/\A'.length=n/\gJ n rs K0 K/\∀a,a<n->jl w A'[a]! (if a<i+1 then fN q ro c a else q a)) Q .normal
    ⟨⟨[.sl b 0 n 1 cap,a1,a2,a3,.iV c,a5,.iV ro,a7,a8,.iV ((i:Int)+1),aA,aB],lo,K',[]⟩,wr⟩:=fun K' A'' aA aB lo wr h1 h2 h3 h4=>
    bW ⟨K',A'',aA,aB,lo,wr,rfl,h1,h2,h3,h4⟩
   have same:(i=ro\/q i c=0)->∀a,a<n->jl w A'[a]! (if a<i+1 then fN q ro c a else q a):=fun hz a ha=>by
    have h:=hI a ha;by_cases e:a=i
    . subst e;rw[if_neg (c8 a)]at h;rw[if_pos ac];have:fN q ro c a=q a:=by
       funext k
       unfold fN;split
       . rfl
       . rename_i hne;rw[hz.resolve_left hne,Rat.zero_mul,i6,Rat.neg_zero,Rat.add_zero]
      rw[this];exact h
    . by_cases h2:a<i
      . rw[if_pos h2]at h;rw[if_pos ac];exact h
      . rw[if_neg h2]at h;rw[if_neg ac];exact h
   unfold Bc;by_cases hic:i=ro
   . have hic':((i:Nat):Int)=ro:=by omega
     repeat' first|refine gd8 ?_|refine gd24 ?_|(apply abd;rfl;rfl)|(apply aeJ;rfl;rfl)|refine gc ?_|(intro _;omega)|intro _
     all_goals try omega
     all_goals first|exact next _ _ _ _ _ _ hM hA hX (same (.inl hic))|infer_instance
   . by_cases hz:q i c=0
     . rw[decide_eq_true hz]at q91;repeat' first|refine gd8 ?_|refine gd24 ?_|(apply abd;rfl;rfl)|(apply aeJ;rfl;rfl)|refine gd0 ?_|refine gc ?_|(intro _;omega)|intro _
       all_goals try omega
       all_goals first|exact next _ _ _ _ _ _ hM hA hX (same (.inr hz))|infer_instance
     . rw[decide_eq_false hz]at q91;repeat' first|refine gd8 ?_|refine gd24 ?_|(apply abd;rfl;rfl)|(apply aeJ;rfl;rfl)|refine gd0 ?_|refine gc ?_|(intro _;omega)|intro _
       all_goals try omega
       all_goals try infer_instance
       have hi':=hI i hi;rw[if_neg (c8 i)]at hi';refine ajb C (A:=A') (q:=q i) (p:=q ro) (tq:=q i c) hA hn1 hw hc hi hic ((dq i c hi hcw).mono ac) (fun k hk=>(dq i k hi hk).mono ac) (fun k hk=>(dq ro k hc hk).mono ac) (fun k hk=>((dq i c hi hcw).mul (dq ro k hc hk)).mono ac) fc _ _ _ _ _ _ _ _ (fun K' r' lo wr hM' hr hq' hX'=>?_) A'[i]! (by rw[RC ac];exact hM) (hM.wid i ac) hi' _ _;have fin:∀a,a<n->jl w (A'.set i r')[a]! (if a<i+1 then fN q ro c a else q a):=fun a ha=>by
        rw[gp ac];by_cases e:i=a
        . subst e;rw[if_pos rfl,if_pos ac];intro k hk;have:=hq' k hk;unfold fN;rw[if_neg hic];exact this
        . rw[if_neg e];have h:=hI a ha;by_cases h2:a<i
          . rw[if_pos h2]at h;rw[if_pos ac];exact h
          . rw[if_neg h2]at h;rw[if_neg ac];exact h
       exact gg2
 . subst hst;unfold Bc;exact gg0
def Bf : ak := zR [zr 59 .lss 12 11] (.seq (.cond (.l 59) (.skip) (.exit 4)) (.seq (.block 5 (zR [zm 60 12,zw 5 60] (.draw [(zm 61 0,[]),(zm 62 2,[0]),(za 63 1 61 62,[]),(zd 64 1 63,[]),(zm 65 5,[0,1,2,3]),(zm 66 0,[0,1,2,3,4]),(zm 67 2,[0,1,2,3,4,5]),(za 68 1 66 67,[0,1,2,3,4]),(zd 69 1 68,[0,1,2,3,4]),(zm 70 5,[0,1,2,3,4,5,6,7,8]),(za 71 4 69 70,[0,1,2,3,4]),(zT 72 4 71,[0,1,2,3,4]),(⟨.l 73,.lh 133 (.l 72),none⟩,[0,1,2,3,4]),(zt 74 4 4,[0,1,2,3,4,5,6,7,8,9,10,11,12]),(⟨.l 75,.invoke (.l 73) "Div" [(.l 74)],none⟩,[0,1,2,3,4]),(za 76 4 64 65,[]),(zS 4 76 75,[])]))) (.region [zq 77 .add 12 1,zw 12 77])))
def Bg : ak := zR [zr 105 .lss 16 15] (.seq (.cond (.l 105) (.skip) (.exit 8)) (.seq (.block 9 (zR [zm 106 16,zw 8 106] (.draw [(zm 107 0,[]),(zm 108 6,[0]),(za 109 1 107 108,[]),(zd 110 1 109,[]),(zm 111 8,[0,1,2,3]),(zm 112 0,[0,1,2,3,4]),(zm 113 6,[0,1,2,3,4,5]),(za 114 1 112 113,[0,1,2,3,4]),(zd 115 1 114,[0,1,2,3,4]),(zm 116 8,[0,1,2,3,4,5,6,7,8]),(za 117 4 115 116,[0,1,2,3,4]),(zT 118 4 117,[0,1,2,3,4]),(⟨.l 119,.lh 133 (.l 118),none⟩,[0,1,2,3,4]),(zt 120 4 7,[0,1,2,3,4,5,6,7,8,9,10,11,12]),(⟨.l 121,.lh 133 (.l 120),none⟩,[0,1,2,3,4,5,6,7,8,9,10,11,12]),(zm 122 0,[0,1,2,3,4,5,6,7,8,9,10,11,12,13,14]),(zm 123 2,[0,1,2,3,4,5,6,7,8,9,10,11,12,13,14,15]),(za 124 1 122 123,[0,1,2,3,4,5,6,7,8,9,10,11,12,13,14]),(zd 125 1 124,[0,1,2,3,4,5,6,7,8,9,10,11,12,13,14]),(zm 126 8,[0,1,2,3,4,5,6,7,8,9,10,11,12,13,14,15,16,17,18]),(za 127 4 125 126,[0,1,2,3,4,5,6,7,8,9,10,11,12,13,14]),(zT 128 4 127,[0,1,2,3,4,5,6,7,8,9,10,11,12,13,14]),(⟨.l 129,.invoke (.l 121) "Mul" [(.l 128)],none⟩,[0,1,2,3,4,5,6,7,8,9,10,11,12]),(⟨.l 130,.invoke (.l 119) "Sub" [(.l 129)],none⟩,[0,1,2,3,4]),(za 131 4 110 111,[]),(zS 4 131 130,[])]))) (.region [zq 132 .add 16 1,zw 16 132])))
def Bh : ak := zR [zr 81 .lss 14 13] (.seq (.cond (.l 81) (.skip) (.exit 6)) (.seq (.block 7 (zR [zm 82 14,zw 6 82] (zR [zm 83 0,zm 84 6,za 85 1 83 84,zd 86 1 85,zm 87 2,za 88 4 86 87,zT 89 4 88,⟨.p 7,.alloc 133 [.iV (0),.ab,.iV (0),.ab],none⟩,zs 4 7 89] (zR [zm 90 6,zm 91 2,zb 92 .neq 90 91,zn 93 92,zg (zt 94 4 7) 93 true,⟨.l 95,.lh 133 (.l 94),some ((.l 93),true)⟩,⟨.l 96,.invoke (.l 95) "Sign" [],some ((.l 93),true)⟩,zg (zc 97 .neq 96 0) 93 true,zp 98 93 97] (.cond (.l 98) (zR [zm 99 0,zm 100 6,za 101 1 99 100,zd 102 1 101,⟨.p 15,.len .sl (.l 102),none⟩,zi 16 0] (.block 8 (.loop Bg))) (.skip)))))) (.region [zq 133 .add 14 1,zw 14 133])))
def Bi : ak := .seq (zR [zm 16 3,zm 17 0,zl 18 17,zb 19 .lss 16 18] (.cond (.l 19) (.skip) (.exit 2))) (.seq (.block 3 (.seq (zR [zm 22 0,zm 23 3,za 24 1 22 23,zd 25 1 24,zm 26 2,za 27 4 25 26,zT 28 4 27,⟨.l 29,.lh 133 (.l 28),none⟩,⟨.l 30,.invoke (.l 29) "Sign" [],none⟩,zc 31 .eql 30 0] (.cond (.l 31) (.exit 3) (.skip))) (.seq (.draw [(zm 32 0,[]),(zm 33 2,[0]),(zm 34 0,[0,1]),(zm 35 3,[0,1,2]),(zm 36 0,[0,1,2,3]),(zm 37 3,[0,1,2,3,4]),(za 38 1 36 37,[0,1,2,3]),(zd 39 1 38,[0,1,2,3]),(zm 40 0,[0,1,2,3,4,5,6,7]),(zm 41 2,[0,1,2,3,4,5,6,7,8]),(za 42 1 40 41,[0,1,2,3,4,5,6,7]),(zd 43 1 42,[0,1,2,3,4,5,6,7]),(za 44 1 32 33,[2,3]),(zS 1 44 39,[2,3]),(za 45 1 34 35,[]),(zS 1 45 43,[])]) (zR [zm 46 0,zm 47 2,za 48 1 46 47,zd 49 1 48,zm 50 2,za 51 4 49 50,zT 52 4 51,⟨.p 4,.alloc 133 [.iV (0),.ab,.iV (0),.ab],none⟩,zs 4 4 52] (.seq (zR [zm 53 0,zm 54 2,za 55 1 53 54,zd 56 1 55,⟨.p 11,.len .sl (.l 56),none⟩,zi 12 0] (.block 4 (.loop Bf))) (.seq (zR [zm 78 0,⟨.p 13,.len .sl (.l 78),none⟩,zi 14 0] (.block 6 (.loop Bh))) (.exit 1))))))) (.region [zm 20 3,zc 21 .add 20 1,zw 3 21]))
def Bj:ak:=zR [zr 13 .lss 10 9] (.seq (.cond (.l 13) (.skip) (.exit 0)) (.seq (.block 1 (zR [zm 14 10,zw 2 14] (.seq (zR [zm 15 2,zw 3 15] (.block 2 (.loop Bi))) (zR [⟨.p 1,.mv (.c (.bool false)),none⟩] (.ret))))) (.region [zq 134 .add 10 1,zw 10 134])))
def RE:ak:=zR [⟨.p 1,.mv (.c (.bool false)),none⟩] (.seq (.seq (.skip) (.seq (zR [zm 10 0,⟨.p 9,.len .sl (.l 10),none⟩,zi 10 0] (.block 0 (.loop Bj))) (zR [⟨.p 1,.mv (.c (.bool true)),none⟩] (.ret)))) (.skip))
theorem ajd:FT 104=some ⟨135,[0,2,3,4,5,6,7,8,9,11,12,57,58,79,80,103,104],[.var (.p 1)],RE⟩:=by kernel_rfl
def Bk:ak:=zR [zr 35 .lss 17 16] (.seq (.cond (.l 35) (.skip) (.exit 0)) (.seq (.block 1 (zR [⟨.l 36,.dw none 1 (.p 15) (.p 17),none⟩,zd 37 1 36,zw 7 37] (.seq (zR [zm 38 7,zl 39 38,zm 40 4,zb 41 .neq 39 40,⟨.l 42,.call (kF 97) [(.l 41),(kI 2)],none⟩,zm 43 7,z1 44 101 43,⟨.l 45,.du 25 2 1 [.iV (0)] [(0,1,(.l 42)),(1,1,(.l 44))],none⟩,z1 46 96 45,zw 8 46] (zR [zm 47 8,zc 48 .neq 47 0] (.cond (.l 48) (zR [zm 49 8,⟨.p 2,.mv (.c (.ab)),none⟩,zw 3 49] (.ret)) (.skip)))) (.region [zm 50 6,zm 51 7,z1 52 102 51,⟨.l 53,.du 127 1 1 [.ab] [(0,1,(.l 52))],none⟩,⟨.l 54,.append 127 1 24 (.l 50) (.l 53),none⟩,zw 6 54])))) (.region [zq 55 .add 17 1,zw 17 55])))
def Bl:ak:=zR [zr 71 .lss 19 18] (.seq (.cond (.l 71) (.skip) (.exit 2)) (.seq (.block 3 (zR [zm 72 19,zw 10 72] (.draw [(zm 73 6,[]),(zm 74 10,[0]),(zm 75 6,[0,1]),(zm 76 10,[0,1,2]),(za 77 1 75 76,[0,1]),(zd 78 1 77,[0,1]),(zm 79 1,[0,1,2,3,4,5]),(zm 80 10,[0,1,2,3,4,5,6]),(za 81 1 79 80,[0,1,2,3,4,5]),(zd 82 1 81,[0,1,2,3,4,5]),(z1 83 103 82,[0,1,2,3,4,5]),(⟨.l 84,.du 133 1 4 [.iV (0),.ab,.iV (0),.ab] [(0,4,(.l 83))],none⟩,[0,1,2,3,4,5]),(⟨.l 85,.append 133 4 64 (.l 78) (.l 84),none⟩,[0,1]),(za 86 1 73 74,[]),(zS 1 86 85,[])]))) (.region [zq 87 .add 19 1,zw 19 87])))
def Bm:ak:=zR [zr 94 .lss 22 21] (.seq (.cond (.l 94) (.skip) (.exit 4)) (.seq (.block 5 (zR [⟨.l 95,.dw none 1 (.p 20) (.p 22),none⟩,zd 96 1 95,zw 12 96] (zR [zm 98 12,zm 99 4,za 100 4 98 99,zT 101 4 100,z1 102 105 101,zn 97 102,ze 103 0 97,ze 104 1 97,zw 13 103,zw 14 104] (.seq (zR [zm 105 14,zc 106 .neq 105 0] (.cond (.l 106) (zR [zm 107 14,⟨.p 2,.mv (.c (.ab)),none⟩,zw 3 107] (.ret)) (.skip))) (.region [zm 108 11,zm 109 13,⟨.l 110,.du 75 1 1 [.str []] [(0,1,(.l 109))],none⟩,⟨.l 111,.append 75 1 16 (.l 108) (.l 110),none⟩,zw 11 111]))))) (.region [zq 112 .add 22 1,zw 22 112])))
def vu:ak:=zR [⟨.p 2,.mv (.c (.ab)),none⟩,zi 3 0] (zR [zm 19 0,zl 20 19,zw 4 20] (.seq (zR [zm 21 4,zc 22 .eql 21 0,⟨.l 23,.call (kF 97) [(.l 22),(kI 12)],none⟩,zm 24 4,zc 25 .gtr 24 24,⟨.l 26,.call (kF 97) [(.l 25),(kI 5)],none⟩,⟨.l 27,.du 25 2 1 [.iV (0)] [(0,1,(.l 23)),(1,1,(.l 26))],none⟩,z1 28 96 27,zw 5 28] (zR [zm 29 5,zc 30 .neq 29 0] (.cond (.l 30) (zR [zm 31 5,⟨.p 2,.mv (.c (.ab)),none⟩,zw 3 31] (.ret)) (.skip)))) (zR [⟨.p 6,.mv (.c (.ab)),none⟩] (.seq (zR [⟨.p 15,.mv (.p 0),none⟩,⟨.p 16,.len .sl (.p 15),none⟩,zi 17 0] (.block 0 (.loop Bk))) (.seq (zR [zm 56 1,zl 57 56,zm 58 4,zb 59 .neq 57 58,⟨.l 60,.call (kF 97) [(.l 59),(kI 2)],none⟩,zm 61 1,z1 62 101 61,⟨.l 63,.du 25 2 1 [.iV (0)] [(0,1,(.l 60)),(1,1,(.l 62))],none⟩,z1 64 96 63,zw 9 64] (zR [zm 65 9,zc 66 .neq 65 0] (.cond (.l 66) (zR [zm 67 9,⟨.p 2,.mv (.c (.ab)),none⟩,zw 3 67] (.ret)) (.skip)))) (.seq (zR [zm 68 6,⟨.p 18,.len .sl (.l 68),none⟩,zi 19 0] (.block 2 (.loop Bl))) (.seq (zR [zm 88 6,z1 89 104 88,zu 90 89] (.cond (.l 90) (zR [⟨.p 2,.mv (.c (.ab)),none⟩,zi 3 15] (.ret)) (.skip))) (zR [⟨.p 11,.mv (.c (.ab)),none⟩] (.seq (zR [⟨.p 20,.mv (.p 6),none⟩,⟨.p 21,.len .sl (.p 20),none⟩,zi 22 0] (.block 4 (.loop Bm))) (zR [zm 113 11,zw 2 113,zi 3 0] (.ret)))))))))))
theorem RF:FT 30=some ⟨114,[0,1,4,5,6,7,8,10,11,12,13,14,16,17,18,32,33,34,69,70,91,92,93],[.var (.p 2),.var (.p 3)],vu⟩:=by kernel_rfl
theorem sE (c:FC):(cF c).all cI=true:=by simp[cF,List.all_cons,aiM,gM]
def jb (w:Nat)(c:List FC)(q:Nat->Rat):Prop:=∀k,k<w->br (.agg (cF c[k]!)) (q k)
structure qu (M:aw):Prop where
 ft:M.FT=FT
 RG : M.inv 133 "Div" = some 150
 RH : M.inv 133 "Mul" = some 152
 RI : M.inv 133 "Sub" = some 149
 vv : M.inv 133 "Sign" = some 355
 HM:∀v q,br v q->∃s:Int,(s=0↔q=0)/\∀h,M.ext 355 [v] h=some ⟨.iV s,h,[]⟩
 RJ:∀a b p q,br a p->br b q->Dq 40000 p->Dq 40000 q->∃v0,br v0 (p-q)/\∀h,M.ext 149 [a,b] h=some ⟨v0,h,[]⟩
 RK:∀a b p q,br a p->br b q->Dq 40000 p->Dq 40000 q->q≠0->∃v0,br v0 (p*q⁻¹)/\∀h,M.ext 150 [a,b] h=some ⟨v0,h,[]⟩
 ua:∀a b p q,br a p->br b q->Dq 40000 p->Dq 40000 q->∃v0,br v0 (p*q)/\∀h,M.ext 152 [a,b] h=some ⟨v0,h,[]⟩
theorem aje (C:qu M){w n:Nat}{b:Nat}{rs:List (Nat×Option Nat)}{A:List (List FC)}{cap:Option Nat}{c d:Nat}{lc:FC}{lq:Rat}{q:Nat->Rat}(hn:A.length=n)(hn1:n<1000000)(hw:w<1000000)(hc:c<n)(hl:br (.agg (cF lc)) lq)(l0:lq≠0)(dl:Dq 40000 lq)(dq:∀k,k<w->Dq 40000 (q k))
 (a1 a3 a6 a7 a8 a9 aA aD aE aF aG:AV) {Q:Ex->aq->Prop}
 (hQ:∀K r' a5 lo wr,bQ cF 4 w 133 127 K b rs (A.set c r')->r'.length=w->jb w r' (fun k=>q k*lq⁻¹)->K.at d=some (.cells (cF lc) 133)->Q (.exit 4) ⟨⟨[.sl b 0 n 1 cap,a1,.iV c,a3,.ptr d 0,a5,a6,a7,a8,a9,aA,.iV w,.iV w,aD,aE,aF,aG],lo,K,[]⟩,wr⟩)
 (hd:∀i,i<n->rs[i]!.1≠d) (K:aa) (r':List FC) (hM:bQ cF 4 w 133 127 K b rs (A.set c r')) (hr:r'.length=w) (hq:jb w r' q) (hK:K.at d=some (.cells (cF lc) 133)) (a5:AV) (lo:List (Nat×AV)) (wr:List Nat) :
 W M (.loop Bf) ⟨⟨[.sl b 0 n 1 cap,a1,.iV c,a3,.ptr d 0,a5,a6,a7,a8,a9,aA,.iV w,.iV 0,aD,aE,aF,aG],lo,K,[]⟩,wr⟩ Q:=by
 refine W.di w (fun k st=>∃K r' a5 lo wr,st=⟨⟨[.sl b 0 n 1 cap,a1,.iV c,a3,.ptr d 0,a5,a6,a7,a8,a9,aA,.iV w,.iV k,aD,aE,aF,aG],lo,K,[]⟩,wr⟩/\bQ cF 4 w 133 127 K b rs (A.set c r')/\r'.length=w/\K.at d=some (.cells (cF lc) 133)/\∀j,j<w->br (.agg (cF r'[j]!)) (if j<k then q j*lq⁻¹ else q j))
  (fun k st hk ⟨K,r',a5,lo,wr,hst,hM,hr,hK,hq⟩=>?_) (fun st ⟨K,r',a5,lo,wr,hst,hM,hr,hK,hq⟩=>?_) (b7 _) ⟨K,r',a5,lo,wr,rfl,hM,hr,hK,fun j hj=>by rw[if_neg ac];exact hq j hj⟩
 . subst hst;have hout:=hM.out;have hlen:rs.length=n:=by rw[hM.len,b5,hn]
   have hrow:=hM.row c bS;rw[gp ac,if_pos rfl]at hrow;have fk:=hq k hk;rw[if_neg be]at fk;obtain⟨v0,f0,q150⟩:=C.RK _ _ _ _ fk hl (dq k hk) dl l0;obtain⟨c0,rfl⟩:=f0.fc;have hrow:K.at (rs[((c:Nat):Int).toNat]!).1=some (.cells (arr cF r') 133):=hrow;have hdn:(rs[((c:Nat):Int).toNat]!).1≠d:=hd c hc;have next:∀lo wr,LI (fun st=>∃K r' a5 lo wr,st=⟨⟨[.sl b 0 n 1 cap,a1,.iV c,a3,.ptr d 0,a5,a6,a7,a8,a9,aA,.iV w,.iV ((k+1:Nat):Int),aD,aE,aF,aG],lo,K,[]⟩,wr⟩/\bQ cF 4 w 133 127 K b rs (A.set c r')/\r'.length=w/\K.at d=some (.cells (cF lc) 133)/\∀j,j<w->br (.agg (cF r'[j]!)) (if j<k+1 then q j*lq⁻¹ else q j)) Q .normal
    ⟨⟨[.sl b 0 n 1 cap,a1,.iV c,a3,.ptr d 0,.iV k,a6,a7,a8,a9,aA,.iV w,.iV ((k:Int)+1),aD,aE,aF,aG],lo,K.put (rs[((c:Nat):Int).toNat]!).1 (some (.cells (arr cF (r'.set ((k:Nat):Int).toNat c0)) 133)),[]⟩,wr⟩:=fun lo wr=>
    bW ⟨_,r'.set k c0,_,lo,wr,rfl,by
     have:=hM.set (i:=c) bS (c':=r'.set k c0) bS;rw[ip]at this;exact this,bS,by rw[mO hdn];exact hK,fun j hj=>by
     grind⟩
   unfold Bf;repeat' first|refine gd21 ?_|(apply ahJ (f:=cF) (c:=r') (e:=133);rfl;exact hrow;exact fun _=>rfl;omega;decide;rfl)|(apply akO;rfl;exact hK;rfl)|(apply amm;rfl;rfl;exact C.RG;(first|(simp only[nca2];rfl)|rfl);exact q150 _)|(apply ais (f:=cF) (c:=r') (a:=c0) (e:=133);rfl;rfl;exact hrow;exact fun _=>rfl;omega;exact⟨rfl,am,sE c0⟩;rfl)|(apply abd;rfl;rfl)|refine gc ?_|(intro _;omega)|intro _
   all_goals try omega
   all_goals first|exact next _ _|infer_instance
 . subst hst;unfold Bf;exact gg0
theorem ajf (C:qu M){K0:aa}{w n:Nat}{b:Nat}{rs:List (Nat×Option Nat)}{A:List (List FC)}{cap:Option Nat}{c i t:Nat}{tc:FC}{tq:Rat}{q p:Nat->Rat}(hn:A.length=n)(hn1:n<1000000)(hw:w<1000000)(hc:c<n)(hi:i<n)(hic:i≠c)(ht:br (.agg (cF tc)) tq)(dt:Dq 40000 tq)(dq:∀k,k<w->Dq 40000 (q k))(dp:∀k,k<w->Dq 40000 (p k))(dtp:∀k,k<w->Dq 40000 (tq*p k))(hp:jb w A[c]! p)
 (a1 a3 a4 a5 a9 aA aB aC aD aE:AV) {Q:Ex->aq->Prop}
 (hQ:∀K r' a8 lo wr,bQ cF 4 w 133 127 K b rs (A.set i r')->r'.length=w->jb w r' (fun k=>q k-tq*p k)->(∀x v,(∀j,j<n->rs[j]!.1≠x)->K0.at x=some v->K.at x=some v)->Q (.exit 8) ⟨⟨[.sl b 0 n 1 cap,a1,.iV c,a3,a4,a5,.iV i,.ptr t 0,a8,a9,aA,aB,aC,aD,aE,.iV w,.iV w],lo,K,[]⟩,wr⟩)
 (hd:∀j,j<n->rs[j]!.1≠t) (r':List FC) (hM:bQ cF 4 w 133 127 K0 b rs (A.set i r')) (hr:r'.length=w) (hq:jb w r' q) (hK:K0.at t=some (.cells (cF tc) 133)) (a8:AV) (lo:List (Nat×AV)) (wr:List Nat) :
 W M (.loop Bg) ⟨⟨[.sl b 0 n 1 cap,a1,.iV c,a3,a4,a5,.iV i,.ptr t 0,a8,a9,aA,aB,aC,aD,aE,.iV w,.iV 0],lo,K0,[]⟩,wr⟩ Q:=by
 refine W.di w (fun k st=>∃K r' a8 lo wr,st=⟨⟨[.sl b 0 n 1 cap,a1,.iV c,a3,a4,a5,.iV i,.ptr t 0,a8,a9,aA,aB,aC,aD,aE,.iV w,.iV k],lo,K,[]⟩,wr⟩/\bQ cF 4 w 133 127 K b rs (A.set i r')/\r'.length=w/\(∀x v,(∀j,j<n->rs[j]!.1≠x)->K0.at x=some v->K.at x=some v)/\∀j,j<w->br (.agg (cF r'[j]!)) (if j<k then q j-tq*p j else q j))
  (fun k st hk ⟨K,r',a8,lo,wr,hst,hM,hr,hX,hq⟩=>?_) (fun st ⟨K,r',a8,lo,wr,hst,hM,hr,hX,hq⟩=>?_) (b7 _) ⟨K0,r',a8,lo,wr,rfl,hM,hr,fun _ _ _ h=>h,fun j hj=>by rw[if_neg ac];exact hq j hj⟩
 . subst hst;have hKt:=hX t _ hd hK;have hout:=hM.out;have hlen:rs.length=n:=by rw[hM.len,b5,hn]
   have hrow:=hM.row i bS;rw[gp ac,if_pos rfl]at hrow;have hrc:=hM.row c bS;rw[gp ac,if_neg hic]at hrc;have hwc:=hM.wid c bS;rw[gp ac,if_neg hic]at hwc;have fk:=hq k hk;rw[if_neg be]at fk;obtain⟨v1,f1,q152⟩:=C.ua _ _ _ _ ht (hp k hk) dt (dp k hk);obtain⟨v0,f0,q149⟩:=C.RJ _ _ _ _ fk f1 (dq k hk) (dtp k hk);obtain⟨c0,rfl⟩:=f0.fc;have hrow:K.at (rs[((i:Nat):Int).toNat]!).1=some (.cells (arr cF r') 133):=hrow;have hrc:K.at (rs[((c:Nat):Int).toNat]!).1=some (.cells (arr cF A[c]!) 133):=hrc;generalize hA:A[c]! = rc at hrc hwc q152;have next:∀lo wr,LI (fun st=>∃K r' a8 lo wr,st=⟨⟨[.sl b 0 n 1 cap,a1,.iV c,a3,a4,a5,.iV i,.ptr t 0,a8,a9,aA,aB,aC,aD,aE,.iV w,.iV ((k+1:Nat):Int)],lo,K,[]⟩,wr⟩/\bQ cF 4 w 133 127 K b rs (A.set i r')/\r'.length=w/\(∀x v,(∀j,j<n->rs[j]!.1≠x)->K0.at x=some v->K.at x=some v)/\∀j,j<w->br (.agg (cF r'[j]!)) (if j<k+1 then q j-tq*p j else q j)) Q .normal
    ⟨⟨[.sl b 0 n 1 cap,a1,.iV c,a3,a4,a5,.iV i,.ptr t 0,.iV k,a9,aA,aB,aC,aD,aE,.iV w,.iV ((k:Int)+1)],lo,K.put (rs[((i:Nat):Int).toNat]!).1 (some (.cells (arr cF (r'.set ((k:Nat):Int).toNat c0)) 133)),[]⟩,wr⟩:=fun lo wr=>
    bW ⟨_,r'.set k c0,_,lo,wr,rfl,by
     have:=hM.set (i:=i) bS (c':=r'.set k c0) bS;rw[ip]at this;exact this,bS,fun x v hx hv=>by rw[mO bS];grind,fun j hj=>by
     grind⟩
   unfold Bg;repeat' first|refine gd21 ?_|(apply ahJ (f:=cF) (e:=133);rfl;(first|exact hrow|exact hrc);exact fun _=>rfl;omega;decide;rfl)|(apply akO;rfl;exact hKt;rfl)|(apply amm;rfl;rfl;exact C.RH;(first|(simp only[nca2];rfl)|rfl);exact q152 _)|(apply amm;rfl;rfl;exact C.RI;(first|(simp only[nca2];rfl)|rfl);exact q149 _)|(apply ais (f:=cF) (c:=r') (a:=c0) (e:=133);rfl;rfl;exact hrow;exact fun _=>rfl;omega;exact⟨rfl,am,sE c0⟩;rfl)|(apply abd;rfl;rfl)|refine gc ?_|(intro _;omega)|intro _
   all_goals try omega
   all_goals first|exact next _ _|infer_instance
 . subst hst;unfold Bg;exact gg0
theorem RL {β:Type}[Inhabited β]{l:List β}{i:Nat}(h:i<l.length):l.set i l[i]! = l:=by
 rw[getElem!_pos l i h];exact iz h
theorem bQ.lt {α:Type}[Inhabited α]{f:α->List AV}{esz w:Nat}{e eo:TypeId}{K:aa}{b:Nat}{rs:List (Nat×Option Nat)}{C:List (List α)}(h:bQ f esz w e eo K b rs C){i:Nat}(hi:i<C.length):rs[i]!.1<K.length:=cJ (h.row i hi)
def gK (n w:Nat)(A:List (List FC))(q:QM):Prop:=∀a,a<n->jb w A[a]! (q a)
theorem ajg (C:qu M){w n:Nat}{b:Nat}{rs:List (Nat×Option Nat)}{A:List (List FC)}{cap:Option Nat}{c:Nat}{q:QM}{D:Nat}(hn:A.length=n)(hn1:n<1000000)(hw:w<1000000)(hc:c<n)(hcw:c<w)(hD:2*D<=40000)(dq:cY n w D q)(hq:gK n w A q)
 (a1 a3 a4 a5 a9 aA aB aC:AV) {Q:Ex->aq->Prop} {K0:aa} (hM:bQ cF 4 w 133 127 K0 b rs A)
 (hQ:∀K A' a6 a7 a8 aF aG lo wr,bQ cF 4 w 133 127 K b rs A'->A'.length=n->gK n w A' (fN q c c)->K0.length<=K.length->Q (.exit 6) ⟨⟨[.sl b 0 n 1 cap,a1,.iV c,a3,a4,a5,a6,a7,a8,a9,aA,aB,aC,.iV n,.iV n,aF,aG],lo,K,[]⟩,wr⟩)
 (a6 a7 a8 aF aG:AV) (lo:List (Nat×AV)) (wr:List Nat) :
 W M (.loop Bh) ⟨⟨[.sl b 0 n 1 cap,a1,.iV c,a3,a4,a5,a6,a7,a8,a9,aA,aB,aC,.iV n,.iV 0,aF,aG],lo,K0,[]⟩,wr⟩ Q:=by
 refine W.di n (fun i st=>∃K A' a6 a7 a8 aF aG lo wr,st=⟨⟨[.sl b 0 n 1 cap,a1,.iV c,a3,a4,a5,a6,a7,a8,a9,aA,aB,aC,.iV n,.iV i,aF,aG],lo,K,[]⟩,wr⟩/\bQ cF 4 w 133 127 K b rs A'/\A'.length=n/\K0.length<=K.length/\∀a,a<n->jb w A'[a]! (if a<i then fN q c c a else q a))
  (fun i st hi ⟨K,A',a6,a7,a8,aF,aG,lo,wr,hst,hM,hA,hKl,hI⟩=>?_) (fun st ⟨K,A',a6,a7,a8,aF,aG,lo,wr,hst,hM,hA,hKl,hI⟩=>?_) (b7 _) ⟨K0,A,a6,a7,a8,aF,aG,lo,wr,rfl,hM,hn,c9 _,fun a ha=>by rw[if_neg ac];exact hq a ha⟩
 . subst hst;have hout:=hM.out;have hlen:rs.length=n:=by rw[hM.len,hA]
   have hrow:=hM.row i ac;have hwi:=hM.wid i ac;have fi:=hI i hi c hcw;rw[if_neg (c8 i)]at fi;have fc:=hI c hc;have ec:(if c<i then fN q c c c else q c)=q c:=by
    split
    . funext k;exact if_pos rfl
    . rfl
   rw[ec]at fc;obtain⟨s,hs,q355⟩:∃s:Int,(s=0↔q i c=0)/\∀h,M.ext 355 [.agg (cF (A'[((i:Nat):Int).toNat]!)[((c:Nat):Int).toNat]!)] h=some ⟨.iV s,h,[]⟩:=C.HM _ _ fi;have hrow:K.at (rs[((i:Nat):Int).toNat]!).1=some (.cells (arr cF A'[((i:Nat):Int).toNat]!) 133):=hrow;have hwi:(A'[((i:Nat):Int).toNat]!).length=w:=hwi;have next:∀K' A'' a7 a8 aF aG lo wr,bQ cF 4 w 133 127 K' b rs A''->A''.length=n->K.length<=K'.length->(∀a,a<n->jb w A''[a]! (if a<i+1 then fN q c c a else q a))->LI (fun st=>∃K A' a6 a7 a8 aF aG lo wr,st=⟨⟨[.sl b 0 n 1 cap,a1,.iV c,a3,a4,a5,a6,a7,a8,a9,aA,aB,aC,.iV n,.iV ((i+1:Nat):Int),aF,aG],lo,K,[]⟩,wr⟩/\bQ cF 4 w 133 127 K b rs A'/\A'.length=n/\K0.length<=K.length/\∀a,a<n->jb w A'[a]! (if a<i+1 then fN q c c a else q a)) Q .normal
    ⟨⟨[.sl b 0 n 1 cap,a1,.iV c,a3,a4,a5,.iV i,a7,a8,a9,aA,aB,aC,.iV n,.iV ((i:Int)+1),aF,aG],lo,K',[]⟩,wr⟩:=fun K' A'' a7 a8 aF aG lo wr h1 h2 h3 h4=>
    bW ⟨K',A'',_,a7,a8,aF,aG,lo,wr,rfl,h1,h2,ac,h4⟩
   have same:(i=c\/q i c=0)->∀a,a<n->jb w A'[a]! (if a<i+1 then fN q c c a else q a):=fun hz a ha=>by
    have h:=hI a ha;by_cases e:a=i
    . subst e;rw[if_neg (c8 a)]at h;rw[if_pos ac];have:fN q c c a=q a:=by
       funext k
       unfold fN;split
       . rfl
       . rename_i hne;rw[hz.resolve_left hne,Rat.zero_mul,i6,Rat.neg_zero,Rat.add_zero]
      rw[this];exact h
    . by_cases h2:a<i
      . rw[if_pos h2]at h;rw[if_pos ac];exact h
      . rw[if_neg h2]at h;rw[if_neg ac];exact h
   unfold Bh;by_cases hic:i=c
   . have hic':((i:Nat):Int)=c:=by omega
     repeat' first|refine gd21 ?_|refine gd16 ?_|refine gd27 ?_|(apply abd;rfl;rfl)|(apply acr;rfl;rfl)|refine gc ?_|(intro _;omega)|intro _
     all_goals try omega
     all_goals first|exact next _ _ _ _ _ _ _ _ (hM.grow _) hA be (same (.inl hic))|infer_instance
   . by_cases hz:q i c=0
     . have hs0:s=0:=hs.2 hz;subst hs0;repeat' first|refine gd21 ?_|refine gd16 ?_|refine gd27 ?_|(apply akO;rfl;exact cC;rfl)|(apply alW;rfl;rfl;exact C.vv;exact q355 _)|(apply abd;rfl;rfl)|(apply acr;rfl;rfl)|refine gc ?_|(intro _;omega)|intro _
       all_goals try omega
       all_goals first|exact next _ _ _ _ _ _ _ _ (hM.grow _) hA be (same (.inr hz))|infer_instance
     . have hs0:s≠0:=fun h=>hz (hs.1 h)
       have hlt:∀j,j<n->rs[j]!.1≠K.length:=fun j hj h=>by have:=hM.lt (i:=j) ac;omega
       repeat' first|(apply ahJ (f:=cw 4 w) (c:=rs) (e:=127);rfl;(first|exact hout|exact cE hout);exact fun _=>rfl;omega;decide;rfl)|refine gd16 ?_|refine gd27 ?_|(apply akO;rfl;exact cC;rfl)|(apply alW;rfl;rfl;exact C.vv;exact q355 _)|(apply abd;rfl;rfl)|(apply acr;rfl;rfl)|refine gc ?_|(intro _;omega)|intro _
       all_goals try omega
       all_goals try infer_instance
       have hi':=hI i hi;rw[if_neg (c8 i)]at hi';refine ajf C (A:=A') (q:=q i) (p:=q c) (tq:=q i c) hA hn1 hw hc hi hic fi ((dq i c hi hcw).mono ac) (fun k hk=>(dq i k hi hk).mono ac) (fun k hk=>(dq c k hc hk).mono ac) (fun k hk=>((dq i c hi hcw).mul (dq c k hc hk)).mono ac) fc _ _ _ _ _ _ _ _ _ _ (fun K' r' a8 lo wr hM' hr hq' hX=>?_) hlt A'[i]! (by rw[RL ac];exact hM.grow _) (hM.wid i ac) hi' cC _ _ _;have hKl':=cJ (hX K.length _ hlt cC);have fin:∀a,a<n->jb w (A'.set i r')[a]! (if a<i+1 then fN q c c a else q a):=fun a ha=>by
        rw[gp ac];by_cases e:i=a
        . subst e;rw[if_pos rfl,if_pos ac];intro k hk;have:=hq' k hk;unfold fN;rw[if_neg hic];exact this
        . rw[if_neg e];have h:=hI a ha;by_cases h2:a<i
          . rw[if_pos h2]at h;rw[if_pos ac];exact h
          . rw[if_neg h2]at h;rw[if_neg ac];exact h
       exact gg2
 . subst hst;unfold Bh;exact gg0
theorem gK.swap {n w:Nat}{A:List (List FC)}{q:QM}(h:gK n w A q)(hA:A.length=n){i j:Nat}(hi:i<n)(hj:j<n):gK n w (fv A i j) (fw q i j):=fun a ha k hk=>by
 rw[mP ac ac];unfold fw;refine h _ ?_ k hk;grind
theorem gK.scale {n w:Nat}{A:List (List FC)}{q:QM}(h:gK n w A q)(hA:A.length=n){c:Nat}(hc:c<n){r':List FC}(hr:jb w r' (fun k=>q c k*(q c c)⁻¹)):gK n w (A.set c r') (ir q c c):=fun a ha k hk=>by
 rw[gp ac];unfold ir;by_cases e:c=a
 . rw[if_pos e,if_pos e.symm];exact hr k hk
 . rw[if_neg e,if_neg (Ne.symm e)];exact h a ha k hk
theorem ajh (C:qu M){w n:Nat}{b:Nat}{rs:List (Nat×Option Nat)}{A:List (List FC)}{cap:Option Nat}{c:Nat}{q:QM}{D:Nat}(hn:A.length=n)(hn1:n<1000000)(hw:w<1000000)(hc:c<n)(hcw:c<w)(hD:4*D+1<=40000)(dq:cY n w D q)(hq:gK n w A q)
 (a1 a9 aA:AV) {Q:Ex->aq->Prop} {K0:aa} {n0:Nat} (hM:bQ cF 4 w 133 127 K0 b rs A) (hb0:b<n0) (hr0:∀i,i<n->rs[i]!.1<n0) (hn0:n0<=K0.length)
 (hN:eh q c (n-c) c=none->∀a4 a5 a6 a7 a8 aB aC aD aE aF aG lo wr,Q (.exit 2) ⟨⟨[.sl b 0 n 1 cap,a1,.iV c,.iV n,a4,a5,a6,a7,a8,a9,aA,aB,aC,aD,aE,aF,aG],lo,K0,[]⟩,wr⟩)
 (hS:∀r,eh q c (n-c) c=some r->∀K rs' A' a4 a5 a6 a7 a8 aB aC aD aE aF aG lo wr,bQ cF 4 w 133 127 K b rs' A'->A'.length=n->gK n w A' (kp q c c r)->(∀i,i<n->rs'[i]!.1<n0)->n0<=K.length->Q (.exit 1) ⟨⟨[.sl b 0 n 1 cap,a1,.iV c,.iV r,a4,a5,a6,a7,a8,a9,aA,aB,aC,aD,aE,aF,aG],lo,K,[]⟩,wr⟩)
 (a4 a5 a6 a7 a8 aB aC aD aE aF aG:AV) (lo:List (Nat×AV)) (wr:List Nat) :
 W M (.loop Bi) ⟨⟨[.sl b 0 n 1 cap,a1,.iV c,.iV c,a4,a5,a6,a7,a8,a9,aA,aB,aC,aD,aE,aF,aG],lo,K0,[]⟩,wr⟩ Q:=by
 refine W.di n (fun i st=>∃a4 a5 a6 a7 a8 aB aC aD aE aF aG lo wr,st=⟨⟨[.sl b 0 n 1 cap,a1,.iV c,.iV i,a4,a5,a6,a7,a8,a9,aA,aB,aC,aD,aE,aF,aG],lo,K0,[]⟩,wr⟩/\c<=i/\eh q c (n-c) c=eh q c (n-i) i)
  (fun i st hi ⟨a4,a5,a6,a7,a8,aB,aC,aD,aE,aF,aG,lo,wr,hst,hci,hp⟩=>?_) (fun st ⟨a4,a5,a6,a7,a8,aB,aC,aD,aE,aF,aG,lo,wr,hst,hci,hp⟩=>?_) ac ⟨a4,a5,a6,a7,a8,aB,aC,aD,aE,aF,aG,lo,wr,rfl,c9 _,rfl⟩
 . subst hst;have hout:=hM.out;have hlen:rs.length=n:=by rw[hM.len,hn]
   have hrow:=hM.row i ac;have hwi:=hM.wid i ac;have hwc:=hM.wid c ac;have fi:=hq i hi c hcw;obtain⟨s,hs,q355⟩:∃s:Int,(s=0↔q i c=0)/\∀h,M.ext 355 [.agg (cF (A[((i:Nat):Int).toNat]!)[((c:Nat):Int).toNat]!)] h=some ⟨.iV s,h,[]⟩:=C.HM _ _ fi;have hrow:K0.at (rs[((i:Nat):Int).toNat]!).1=some (.cells (arr cF A[((i:Nat):Int).toNat]!) 133):=hrow;have hwi:(A[((i:Nat):Int).toNat]!).length=w:=hwi;have ep:eh q c (n-i) i=if q i c=0 then eh q c (n-(i+1)) (i+1) else some i:=by
    rw[show n-i=(n-(i+1))+1 by omega,eh]
   rw[ep]at hp;unfold Bi;by_cases hz:q i c=0
   . have hs0:s=0:=hs.2 hz;subst hs0;rw[if_pos hz]at hp;have next:∀lo wr,LI (fun st=>∃a4 a5 a6 a7 a8 aB aC aD aE aF aG lo wr,st=⟨⟨[.sl b 0 n 1 cap,a1,.iV c,.iV ((i+1:Nat):Int),a4,a5,a6,a7,a8,a9,aA,aB,aC,aD,aE,aF,aG],lo,K0,[]⟩,wr⟩/\c<=i+1/\eh q c (n-c) c=eh q c (n-(i+1)) (i+1)) Q .normal
      ⟨⟨[.sl b 0 n 1 cap,a1,.iV c,.iV ((i:Int)+1),a4,a5,a6,a7,a8,a9,aA,aB,aC,aD,aE,aF,aG],lo,K0,[]⟩,wr⟩:=fun lo wr=>
      bW ⟨a4,a5,a6,a7,a8,aB,aC,aD,aE,aF,aG,lo,wr,rfl,ac,hp⟩
     repeat' first|refine gd21 ?_|refine gd16 ?_|(apply alW;rfl;rfl;exact C.vv;exact q355 _)|(apply abd;rfl;rfl)|(apply aeJ;rfl;rfl)|refine gc ?_|(intro _;omega)|intro _
     grind
   . have hs0:s≠0:=bS;rw[if_neg hz]at hp;have hb1:b<K0.length:=by omega
     have hM2:bQ cF 4 w 133 127 ((K0.put b (some (.cells (arr (cw 4 w) (rs.set ((c:Nat):Int).toNat rs[((i:Nat):Int).toNat]!)) 127))).put b (some (.cells (arr (cw 4 w) ((rs.set ((c:Nat):Int).toNat rs[((i:Nat):Int).toNat]!).set ((i:Nat):Int).toNat rs[((c:Nat):Int).toNat]!)) 127))) b (fv rs c i) (fv A c i):=by
      rw[tt];exact hM.swap ac ac
     have hout2:=hM2.out;have hlA:(fv A c i).length=n:=by rw[me];exact hn
     have hlen2:(fv rs c i).length=n:=by rw[me];exact hlen
     have hq2:=hq.swap hn hc hi;have dq2:=dq.swap hc hi;have hrow2:=hM2.row c ac;have hwid2:=hM2.wid c ac;have e0:fw q c i c=q i:=by
      funext k
      unfold fw;split
      . grind
      . simp
     have er:∀j,j<n->(fv rs c i)[j]!.1<n0:=fun j hj=>by
      rw[mP ac ac];grind
     generalize fv rs c i=rs2 at hM2 hout2 hlen2 hrow2 er;generalize fv A c i=A2 at hM2 hlA hq2 hrow2 hwid2;have hHl:(((K0.put b (some (.cells (arr (cw 4 w) (rs.set ((c:Nat):Int).toNat rs[((i:Nat):Int).toNat]!)) 127))).put b (some (.cells (arr (cw 4 w) ((rs.set ((c:Nat):Int).toNat rs[((i:Nat):Int).toNat]!).set ((i:Nat):Int).toNat rs[((c:Nat):Int).toNat]!)) 127)))).length=K0.length:=by rw[dQ,dQ]
     have hrow2:aa.at ((K0.put b (some (.cells (arr (cw 4 w) (rs.set ((c:Nat):Int).toNat rs[((i:Nat):Int).toNat]!)) 127))).put b (some (.cells (arr (cw 4 w) ((rs.set ((c:Nat):Int).toNat rs[((i:Nat):Int).toNat]!).set ((i:Nat):Int).toNat rs[((c:Nat):Int).toNat]!)) 127))) (rs2[((c:Nat):Int).toNat]!).1=some (.cells (arr cF A2[((c:Nat):Int).toNat]!) 133):=hrow2;have hwid2:(A2[((c:Nat):Int).toNat]!).length=w:=hwid2;have f0:=hq2 c hc c hcw;rw[e0]at f0;have d0:∀k,k<w->Dq D (q i k):=fun k hk=>dq i k hi hk
     repeat' first|refine gd21 ?_|refine gd16 ?_|(apply alW;rfl;rfl;exact C.vv;exact q355 _)|(apply ais (f:=cw 4 w) (c:=rs) (a:=rs[((i:Nat):Int).toNat]!) (e:=127);rfl;rfl;exact hout;exact fun _=>rfl;omega;exact⟨rfl,am,rfl⟩;rfl)|(apply ais (f:=cw 4 w) (c:=rs.set ((c:Nat):Int).toNat rs[((i:Nat):Int).toNat]!) (a:=rs[((c:Nat):Int).toNat]!) (e:=127);rfl;rfl;exact eu hb1;exact fun _=>rfl;(rw[b5];omega);exact⟨rfl,am,rfl⟩;rfl)|(apply ahJ (f:=cw 4 w) (c:=rs2) (e:=127);rfl;(first|exact hout2|exact cE hout2);exact fun _=>rfl;omega;decide;rfl)|(apply ahJ (f:=cF) (c:=A2[((c:Nat):Int).toNat]!) (e:=133);rfl;exact hrow2;exact fun _=>rfl;omega;decide;rfl)|refine gd27 ?_|(apply abd;rfl;rfl)|(apply aeJ;rfl;rfl)|refine gc ?_|(intro _;omega)|intro _
     all_goals try omega
     all_goals try infer_instance
     generalize ((K0.put b (some (.cells (arr (cw 4 w) (rs.set ((c:Nat):Int).toNat rs[((i:Nat):Int).toNat]!)) 127))).put b (some (.cells (arr (cw 4 w) ((rs.set ((c:Nat):Int).toNat rs[((i:Nat):Int).toNat]!).set ((i:Nat):Int).toNat rs[((c:Nat):Int).toNat]!)) 127)))=H at *
     have hlt:∀j,j<n->rs2[j]!.1≠H.length:=bS;refine aje C (A:=A2) (q:=q i) (lq:=q i c) hlA hn1 hw hc f0 hz ((d0 c hcw).mono ac) (fun k hk=>(d0 k hk).mono ac) _ _ _ _ _ _ _ _ _ _ _ (fun K r' a5 lo wr hM3 hr3 hq3 hK3=>?_) hlt _ A2[c]! (by rw[RL ac];exact hM2.grow _) ac (by rw[←e0];exact hq2 c hc) cC _ _ _;have hKl:=cJ hK3;have hq4:gK n w (A2.set c r') (ir (fw q c i) c c):=hq2.scale hlA hc (by rw[e0];exact hq3);have dq4:cY n w (2*D) (ir (fw q c i) c c):=dq2.scale hc hcw (by rw[e0];exact hz);have hlA4:(A2.set c r').length=n:=by rw[b5];exact hlA
     have hout4:=hM3.out;have hlen4:rs2.length=n:=hlen2;repeat' first|refine gc ?_|fail
     all_goals try omega
     all_goals try infer_instance
     refine ajg C (A:=A2.set c r') (q:=ir (fw q c i) c c) (D:=2*D) hlA4 hn1 hw hc hcw ac dq4 hq4 _ _ _ _ _ _ _ _ hM3 (fun K5 A5 a6 a7 a8 aF aG lo wr hM5 hA5 hq5 hK5=>?_) _ _ _ _ _ _ _;exact gg2
 . subst hst;unfold Bi;refine gg4 ?_;have hp:eh q c (n-c) c=none:=by rw[hp,it];rfl
   grind
theorem aji {v:AV}{n:Nat}{s:aq}{P:aa->Prop}(h1:P (s.s.hp.take n))(h2:P s.s.hp):P (dy v n s).h:=by
 unfold dy;split <;> assumption
theorem vw {v:AV}{n:Nat}{s:aq}:(dy v n s).v=v:=by
 unfold dy;split <;> rfl
theorem HN {n w:Nat}(hnw:n<=w):∀(k c:Nat) (q r:QM),c+k=n->cY n w (iu c) q->eL n k c q=some r->cY n w (iu n) r
 | 0,c,q,r,hk,hd,h=>by
  cases h;obtain rfl:c=n:=by omega
  exact hd
 | k+1,c,q,r,hk,hd,h=>by
  rw[eL]at h;cases hp:eh q c (n-c) c with
  | none=>rw[hp]at h;cases h
  | some a=>
   rw[hp]at h;have hs:=AT hp;exact HN hnw k (c+1) _ r ac (hd.step ac ac ac hs.2.2) h
theorem ajj (C:qu M){w n:Nat}{b:Nat}{rs:List (Nat×Option Nat)}{A:List (List FC)}{cap:Option Nat}{q:QM}(hn:A.length=n)(hn1:n<=5)(hnw:n<=w)(hw:w<1000000)(dq:cY n w 8 q)(hq:gK n w A q)
 (a1:AV) {Q:Ex->aq->Prop} {K0:aa} {n0:Nat} (hM:bQ cF 4 w 133 127 K0 b rs A) (hb0:b<n0) (hr0:∀i,i<n->rs[i]!.1<n0) (hn0:n0<=K0.length)
 (hN:eL n n 0 q=none->∀K a0 a2 a3 a4 a5 a6 a7 a8 a9 aA aB aC aD aE aF aG lo wr,Q .ret ⟨⟨[a0,.bool false,a2,a3,a4,a5,a6,a7,a8,a9,aA,aB,aC,aD,aE,aF,aG],lo,K,[]⟩,wr⟩)
 (hS:∀r,eL n n 0 q=some r->∀K rs' A' a2 a3 a4 a5 a6 a7 a8 a9 aA aB aC aD aE aF aG lo wr,bQ cF 4 w 133 127 K b rs' A'->A'.length=n->gK n w A' r->(∀i,i<n->rs'[i]!.1<n0)->n0<=K.length->Q (.exit 0) ⟨⟨[.sl b 0 n 1 cap,a1,a2,a3,a4,a5,a6,a7,a8,a9,aA,aB,aC,aD,aE,aF,aG],lo,K,[]⟩,wr⟩)
 (a2 a3 a4 a5 a6 a7 a8 aB aC aD aE aF aG:AV) (lo:List (Nat×AV)) (wr:List Nat) :
 W M (.loop Bj) ⟨⟨[.sl b 0 n 1 cap,a1,a2,a3,a4,a5,a6,a7,a8,.iV n,.iV 0,aB,aC,aD,aE,aF,aG],lo,K0,[]⟩,wr⟩ Q:=by
 refine W.di n (fun c st=>∃K rs A q' a2 a3 a4 a5 a6 a7 a8 aB aC aD aE aF aG lo wr,st=⟨⟨[.sl b 0 n 1 cap,a1,a2,a3,a4,a5,a6,a7,a8,.iV n,.iV c,aB,aC,aD,aE,aF,aG],lo,K,[]⟩,wr⟩/\bQ cF 4 w 133 127 K b rs A/\A.length=n/\gK n w A q'/\cY n w (iu c) q'/\(∀i,i<n->rs[i]!.1<n0)/\n0<=K.length/\eL n n 0 q=eL n (n-c) c q')
  (fun c st hc ⟨K,rs,A,q',a2,a3,a4,a5,a6,a7,a8,aB,aC,aD,aE,aF,aG,lo,wr,hst,hM,hA,hq,dq,hr,hK,hs⟩=>?_) (fun st ⟨K,rs,A,q',a2,a3,a4,a5,a6,a7,a8,aB,aC,aD,aE,aF,aG,lo,wr,hst,hM,hA,hq,dq,hr,hK,hs⟩=>?_) (b7 _) ⟨K0,rs,A,q,a2,a3,a4,a5,a6,a7,a8,aB,aC,aD,aE,aF,aG,lo,wr,rfl,hM,hn,hq,dq,hr0,hn0,rfl⟩
 . subst hst;have es:eL n (n-c) c q'=match eh q' c (n-c) c with
    | none=>none
    | some a=>eL n (n-(c+1)) (c+1) (kp q' c c a):=by
    rw[show n-c=(n-(c+1))+1 by omega,eL];rw[show n-(c+1)+1=n-c by omega];cases eh q' c (n-c) c <;> rfl
   have hd5:=AU (c:=c+1) ac;have e5:iu (c+1)=4*iu c+1:=rfl;unfold Bj;refine gg4 ?_;refine ajh C hA ac hw hc ac ac dq hq _ _ _ hM hb0 hr hK (fun hp a4 a5 a6 a7 a8 aB aC aD aE aF aG lo wr=>?_) (fun r hp K rs' A' a4 a5 a6 a7 a8 aB aC aD aE aF aG lo wr hM' hA' hq' hr' hK'=>?_) _ _ _ _ _ _ _ _ _ _ _ _ _
   . repeat' first|refine gc ?_|fail
     rw[hp]at es;all_goals exact hN (by rw[hs,es]) _ _ _ _ _ _ _ _ _ _ _ _ _ _ _ _ _ _ _
   . have hps:=AT hp;rw[hp]at es;exact gg2
 . subst hst;rw[it]at hs;unfold Bj;exact gg0
def Bn (b n w n0:Nat)(q:QM)(v:AV)(h:aa):Prop:=match eL n n 0 q with
 | none=>v = .bool false
 | some r=>v = .bool true/\∃rs' A',bQ cF 4 w 133 127 h b rs' A'/\A'.length=n/\gK n w A' r/\∀i,i<n->rs'[i]!.1<n0
theorem ajk (C:qu M){w n:Nat}{b:Nat}{rs:List (Nat×Option Nat)}{A:List (List FC)}{cap:Option Nat}{q:QM}(hn:A.length=n)(hn1:n<=5)(hnw:n<=w)(hw:w<1000000)(dq:cY n w 8 q)(hq:gK n w A q)
 {K0:aa} (hM:bQ cF 4 w 133 127 K0 b rs A) :
 fJ M 104 [.sl b 0 n 1 cap] K0 (fun r=>Bn b n w K0.length q r.v r.h):=by
 have hr0:∀i,i<n->rs[i]!.1<K0.length:=fun i hi=>hM.lt ac
 have hb0:=cJ hM.out;refine fJ.mz (by rw[C.ft];exact ajd) be ?_;unfold RE;simp only[enter];repeat' first|refine gc ?_|fail
 refine ajj C hn hn1 hnw hw dq hq _ hM hb0 hr0 (c9 _) (fun hs K a0 a2 a3 a4 a5 a6 a7 a8 a9 aA aB aC aD aE aF aG lo wr=>?_) (fun r hs K rs' A' a2 a3 a4 a5 a6 a7 a8 a9 aA aB aC aD aE aF aG lo wr hM' hA' hq' hr' hK'=>?_) _ _ _ _ _ _ _ _ _ _ _ _ _ _ _
 . repeat' first|refine gc ?_|fail
   refine⟨.inr rfl,_,rfl,_,rfl,?_⟩;unfold Bn;rw[hs];exact vw
 . repeat' first|refine gc ?_|fail
   refine⟨.inr rfl,_,rfl,_,rfl,?_⟩;unfold Bn;rw[hs];refine⟨vw,aji (P:=fun h=>∃rs' A',bQ cF 4 w 133 127 h b rs' A'/\A'.length=n/\gK n w A' r/\∀i,i<n->rs'[i]!.1<K0.length) ?_ ?_⟩
   . exact⟨rs',A',hM'.take hb0 (by rw[hA'];exact hr'),hA',hq',hr'⟩
   . exact⟨rs',A',hM',hA',hq',hr'⟩
structure gr {α:Type}[Inhabited α](f:α->List AV)(w:Nat)(e:TypeId)(K:aa)(rs:List (Nat×Option Nat))(C:List (List α)):Prop where
 len:rs.length=C.length
 row:∀i,i<C.length->K.at rs[i]!.1=some (.cells (arr f C[i]!) e)
 wid:∀i,i<C.length->C[i]!.length=w
 inj:∀i j,i<C.length->j<C.length->rs[i]!.1=rs[j]!.1->i=j
section
variable {α:Type} [Inhabited α] {f:α->List AV} {w:Nat} {e:TypeId} {K H:aa} {rs:List (Nat×Option Nat)} {C:List (List α)}
theorem ox {β:Type}[Inhabited β]{l m:List β}{i:Nat}(h:i<l.length):(l++m)[i]! = l[i]! := by
 grind
theorem HO {β:Type}[Inhabited β]{l:List β}{a:β}:(l++[a])[l.length]! = a:=by
 simp
theorem gr.nil:gr f w e K [] ([]:List (List α)):=⟨rfl,be,be,be⟩
theorem gr.cd (h:gr f w e K rs C)(hk:∀x v,x∈rs.map (·.1)->K.at x=some v->H.at x=some v):gr f w e H rs C:=
 ⟨h.len,fun i hi=>hk _ _ (by
  rw[dN];exact⟨rs[i]!,by rw[getElem!_pos rs i (by rw[h.len];exact hi)];simp,rfl⟩) (h.row i hi),h.wid,h.inj⟩
theorem gr.snoc (h:gr f w e K rs C){c:Nat}{cp:Option Nat}{l:List α}(hc:K.at c=some (.cells (arr f l) e))(hl:l.length=w)(hn:c∉rs.map (·.1)):gr f w e K (rs++[(c,cp)]) (C++[l]):=by
 have hnn:∀i,i<C.length->rs[i]!.1≠c:=fun i hi hh=>hn (by
  rw[dN];exact⟨rs[i]!,by rw[getElem!_pos rs i (by rw[h.len];exact hi)];simp,hh⟩)
 have e1:(rs++[(c,cp)])[C.length]! = (c,cp):=by rw[←h.len];exact HO
 refine⟨bS,fun i hi=>?_,fun i hi=>?_,fun i j hi hj hh=>?_⟩
 . rw[b6,dY]at hi;by_cases e2:i=C.length
   . grind
   . rw[ox bS,ox ac];exact h.row i ac
 . rw[b6,dY]at hi;by_cases e2:i=C.length
   . grind
   . rw[ox ac];exact h.wid i ac
 . rw[b6,dY]at hi hj;by_cases e2:i=C.length
   . grind
   . by_cases e3:j=C.length
     . grind
     . rw[ox bS,ox bS]at hh;exact h.inj i j ac ac hh
theorem gr.RM {eo:TypeId}{b:Nat}{esz:Nat}(h:gr f w e K rs C)(hb:K.at b=some (.cells (arr (cw esz w) rs) eo))(hn:b∉rs.map (·.1)):bQ f esz w e eo K b rs C:=
 ⟨hb,h.len,h.row,h.wid,fun i hi hh=>hn (by
  rw[dN];exact⟨rs[i]!,by rw[getElem!_pos rs i (by rw[h.len];exact hi)];simp,hh⟩),h.inj⟩
end
theorem ajl {v:AV}{s:aq}{P:aa->Prop}(hv:¬v.top<=0)(h:P s.s.hp):P (dy v 0 s).h:=by
 unfold dy;grind
theorem vy (a:ah):(fS a).all cI=true:=rfl
theorem RN (esz w:Nat)(a:Nat×Option Nat):(cw esz w a).all cI=true:=rfl
theorem ajm (hft:M.FT=FT)(m:List (List ah)){w:Nat}(hw:w<1000000)(hw0:0<w)(hm:m.length<1000000)(hm0:0<m.length)(hwid:∀i,i<m.length->m[i]!.length=w) :
 fJ M 156 [.vs (arr (bB fS) m) m.length none] [] (fun r=>∃b rs,r.v = .sl b 0 m.length 1 none/\bQ fS 1 w 75 38 r.h b rs m):=by
 refine fJ.mz (by rw[hft];exact aiV) be ?_;unfold Rv;simp only[enter];repeat' first|refine gc ?_|fail
 refine W.di m.length (fun i st=>∃o K rs lo wr,st=⟨⟨[.vs (arr (bB fS) m) m.length none,.ab,o,.iV i],lo,K,[]⟩,wr⟩/\gr fS w 75 K rs (m.take i)/\bj (cw 1 w) 1 38 K o rs (rs.map (·.1))/\∀x∈rs.map (·.1),x<K.length)
  (fun i st hi ⟨o,K,rs,lo,wr,hst,hR,hO,hlt⟩=>?_) (fun st ⟨o,K,rs,lo,wr,hst,hR,hO,hlt⟩=>?_) (b7 _) ⟨.ab,[],[],_,_,rfl,by rw[List.take_zero];exact .nil,.jL,be⟩
 . subst hst;have hwi:(m[((i:Nat):Int).toNat]!).length=w:=hwid i hi;have hlen:rs.length=i:=by rw[hR.len,ce];omega
   have hm':m.take (i+1)=m.take i++[m[((i:Nat):Int).toNat]!]:=by
    rw[List.take_add_one,List.getElem?_eq_getElem hi];show _=_++[m[i]!];rw[getElem!_pos m i hi];rfl
   have ha:(m.take i).length=i:=by rw[ce];omega
   have hSlt:∀x∈rs.map (·.1)++iq o,x<K.length:=fun x hx=>by
    rcases c7.1 hx with h|h
    . grind
    . exact hO.lt x h
   have hSlt1:∀x∈rs.map (·.1)++iq o,x<(K++[some (ba.cells [] 75)]).length:=bS;have hO1:=(bj.Kw (f:=fS) (e:=75) (esz:=1) hSlt);have hr1:(([]:List ah).length+(m[((i:Nat):Int).toNat]!).length)*16<=cz:=by
    rw[hwi,j0];unfold cz;omega
   have hr2:(rs.length+1)*24<=cz:=by
    unfold cz;omega
   generalize hrow:m[((i:Nat):Int).toNat]! = row at hwi hm' hr1;unfold HH;repeat' first|refine gd28 ?_|(refine bj.app (f:=fS) (m:=row) (S:=rs.map (·.1)++iq o) (fun _=>rfl) vy am hO1 hSlt1 rfl rfl (.inr (.inl ⟨none,by rw[hrow]⟩)) hr1 (fun H w' o' ho' hk hlen'=>?_))|(apply abd;rfl;rfl)|refine gc ?_|(intro _;omega)|intro _
   all_goals try omega
   all_goals try infer_instance
   rcases ho' with ⟨h0,_⟩|⟨c',cp,hc',rfl,hat,_⟩
   . rw[iy]at h0;rw[h0]at hwi;simp at hwi;omega
   have e1:([]++row).length=w:=hwi;rw[e1];have hKH:K.length<=H.length:=by
    rw[b6]at hlen';omega
   have hO2:bj (cw 1 w) 1 38 H o rs ((rs++[(c',cp)]).map (·.1)):=hO.cd (fun b x hb hx=>hk b x bS (cE hx)) bS;have hR2:gr fS w 75 H (rs++[(c',cp)]) (m.take (i+1)):=by
    rw[hm'];exact(hR.cd (fun x v hx hv=>hk x v bS (cE hv))).snoc hat hwi bS
   have hlt2:∀x∈(rs++[(c',cp)]).map (·.1),x<H.length:=fun x hx=>by
    rw[dO,c7]at hx;rcases hx with hx|hx
    . grind
    . rw[ci,f7,c3]at hx;subst hx;exact cJ hat
   have hlt3:∀x∈(rs++[(c',cp)]).map (·.1),x<(H++[some (ba.cells [AV.sl c' 0 w 1 cp] 38)]).length:=bS;repeat' first|(refine bj.app (f:=cw 1 w) (m:=[(c',cp)]) (S:=(rs++[(c',cp)]).map (·.1)) (fun _=>rfl) (RN 1 w) am (hO2.grow [_]) hlt3 rfl rfl (Sl.gN (f:=cw 1 w) (esz:=1) (l:=[(c',cp)]) (e:=38) (fun _=>rfl) cC rfl) hr2 (fun H3 w3 o3 ho3 hk3 hlen3=>?_))|refine gc ?_|fail
   all_goals try omega
   all_goals try infer_instance
   have hl3:H.length<=H3.length:=by
    rw[b6]at hlen3;omega
   all_goals exact bW ⟨o3,H3,rs++[(c',cp)],_,_,rfl,hR2.cd (fun x v hx hv=>hk3 x v hx (cE hv)),ho3,fun x hx=>by grind⟩
 . subst hst;rw[hZ]at hR;have hlen:rs.length=m.length:=hR.len;rcases hO with ⟨h0,_⟩|⟨b,cp,hb,rfl,hat,hcp⟩
   . grind
   have hcp:cp=none:=by
    rcases hcp with h|⟨h,_⟩
    . exact h
    . grind
   subst hcp;unfold HH;refine gg4 ?_;refine⟨.inr rfl,_,rfl,_,rfl,b,rs,?_,?_⟩
   . rw[vw,←hlen];rfl
   . have hM:=hR.RM hat hb;refine ajl (P:=fun h=>bQ fS 1 w 75 38 h b rs m) ?_ hM;simp[aW,AV.top]
def kY (q:QM)(c n s:Nat):Nat:=(eh q c (n-s) s).getD n
theorem ajn {q:QM}{c n:Nat}:kY q c n n=n:=by unfold kY;rw[it];rfl
theorem ajo {q:QM}{c n i:Nat}(hi:i<n):kY q c n i=if q i c=0 then kY q c n (i+1) else i:=by
 unfold kY;rw[show n-i=(n-(i+1))+1 by omega,eh];split
 . rfl
 . rfl
theorem ajp (C:qt M){w n:Nat}{b:Nat}{rs:List (Nat×Option Nat)}{A:List (List ah)}{cap:Option Nat}{c s:Nat}{q:QM}(hn:A.length=n)(hn1:n<1000000)(hw:w<1000000)(hcw:c<w)(hs:s<=n)(hq:fy n w A q)
 (a1 a2 a3 a6 a7 a8 a9 aA aB:AV) {Q:Ex->aq->Prop} {K:aa} (hM:bQ fS 1 w 75 38 K b rs A)
 (hQ:∀lo wr,Q (.exit 2) ⟨⟨[.sl b 0 n 1 cap,a1,a2,a3,.iV c,.iV (kY q c n s:Nat),a6,a7,a8,a9,aA,aB],lo,K,[]⟩,wr⟩)
 (lo:List (Nat×AV)) (wr:List Nat) :
 W M (.loop AZ) ⟨⟨[.sl b 0 n 1 cap,a1,a2,a3,.iV c,.iV s,a6,a7,a8,a9,aA,aB],lo,K,[]⟩,wr⟩ Q:=by
 have hout:=hM.out;have hlen:rs.length=n:=by rw[hM.len,hn]
 refine W.di n (fun i st=>∃lo wr,st=⟨⟨[.sl b 0 n 1 cap,a1,a2,a3,.iV c,.iV i,a6,a7,a8,a9,aA,aB],lo,K,[]⟩,wr⟩/\kY q c n s=kY q c n i)
  (fun i st hi ⟨lo,wr,hst,he⟩=>?_) (fun st ⟨lo,wr,hst,he⟩=>?_) hs ⟨lo,wr,rfl,rfl⟩
 . subst hst;have hrow:=hM.row i ac;have hwi:=hM.wid i ac;have fi:=hq i hi c hcw;have q91:∀h,M.ext 91 [.str (ao (q i c))] h=some ⟨.bool (decide (q i c=0)),h,[]⟩:=fun h=>by
    rw[C.HL,decide_eq_decide.2 RD]
   have hrow:K.at (rs[((i:Nat):Int).toNat]!).1=some (.cells (arr fS A[((i:Nat):Int).toNat]!) 75):=hrow;have hwi:(A[((i:Nat):Int).toNat]!).length=w:=hwi;have fi:(A[((i:Nat):Int).toNat]!)[((c:Nat):Int).toNat]! = ao (q i c):=fi;rw[ajo hi]at he;unfold AZ;by_cases hz:q i c=0
   . rw[decide_eq_true hz]at q91;rw[if_pos hz]at he;repeat' first|refine gd8 ?_|refine gd24 ?_|(apply abd;rfl;rfl)|refine gd0 ?_|refine gc ?_|(intro _;omega)|intro _
     all_goals try omega
     all_goals first|exact bW ⟨_,_,rfl,he⟩|infer_instance
   . rw[decide_eq_false hz]at q91;rw[if_neg hz]at he;rw[he]at hQ;repeat' first|refine gd8 ?_|refine gd24 ?_|(apply abd;rfl;rfl)|refine gd0 ?_|refine gc ?_|(intro _;omega)|intro _
     all_goals try omega
     all_goals first|exact hQ _ _|infer_instance
 . subst hst;rw[ajn]at he;rw[he]at hQ;unfold AZ;repeat' first|(apply abd;rfl;rfl)|refine gc ?_|(intro _;omega)|intro _
   all_goals try omega
   all_goals first|exact hQ _ _|infer_instance
theorem bj.Bo {α:Type}{f:α->List AV}{esz t n:Nat}{e:TypeId}{hp:aa}{o:AV}{acc:List α}{S:List Nat}{L:List aX}{pe:List AV}{lo:List (Nat×AV)}{df wr:List Nat}{x:ay}{Q:aq->Prop}(h:bj f esz e hp o acc S)(hn:acc.length=n)(hx:(St.mk pe lo hp df).ae x=some o)
 (hk:WO M L ⟨⟨pe,(t,.iV n)::lo,hp,df⟩,wr⟩ Q):WO M (⟨.l t,.len .sl x,none⟩::L) ⟨⟨pe,lo,hp,df⟩,wr⟩ Q:=by
 subst hn;rcases h with ⟨rfl,rfl⟩|⟨c,cp,_,rfl,_,_⟩
 . refine abL (v:=.iV 0) ?_ rfl hk;simp only[aY,hx];rfl
 . refine abL (v:=.iV acc.length) ?_ rfl hk;simp only[aY,hx];rfl
theorem RO {h:aa}(l:List ah):∀(i:Nat) (x y:AV),(arr fS l)[i]? = some x->(arr fS l)[i]? = some y->cK h x y:=by
 induction l with
 | nil=>intro i x y hx;simp[arr]at hx
 | cons a l ih=>
  intro i x y hx hy;rw[gD]at hx hy;cases i with
  | zero=>simp at hx hy;subst hx;subst hy;exact .atom rfl
  | succ i=>simp at hx hy;exact ih i x y hx hy
theorem ajq {h:aa}{b w:Nat}{cp:Option Nat}{l:List ah}{e:TypeId}(hb:h.at b=some (.cells (arr fS l) e))(hl:l.length=w):cK h (.sl b 0 w 1 cp) (.vs (arr fS l) l.length none):=by
 subst hl;have hc:=ji (f:=fS) (esz:=1) (fun _=>rfl) (l:=l) (i:=0) (n:=l.length) ac;rw[d9,hZ,f8]at hc;exact .sl hb hc rfl (RO l)
theorem bQ.fL {w:Nat}{e eo:TypeId}{K:aa}{b:Nat}{rs:List (Nat×Option Nat)}{C:List (List ah)}{n:Nat}(h:bQ fS 1 w e eo K b rs C)(hn:C.length=n):cK K (.sl b 0 n 1 cap) (.vs (arr (bB fS) C) C.length none):=by
 have hl:rs.length=n:=by rw[h.len,hn]
 have hc:=ji (f:=cw 1 w) (esz:=1) (fun _=>rfl) (l:=rs) (i:=0) (n:=n) ac;rw[d9,f8,fm ac]at hc;rw[hn];refine .sl h.out hc (by rw[ke (f:=cw 1 w) (fun _=>rfl),ke (f:=bB fS) (fun _=>rfl),hl,hn]) ?_;have key:∀(rs:List (Nat×Option Nat)) (C:List (List ah)),(∀i,i<C.length->K.at rs[i]!.1=some (.cells (arr fS C[i]!) e))->(∀i,i<C.length->C[i]!.length=w)->rs.length=C.length->∀(i:Nat) (x y:AV),(arr (cw 1 w) rs)[i]? = some x->(arr (bB fS) C)[i]? = some y->cK K x y:=by
  intro rs;induction rs with
  | nil=>intro C _ _ _ i x y hx;simp[arr]at hx
  | cons r rs ih=>
   intro C h1 h2 h3 i x y hx hy;cases C with
   | nil=>simp at h3
   | cons l C=>
    rw[gD]at hx hy;cases i with
    | zero=>
     simp at hx hy;subst hx;subst hy;exact ajq (h1 0 be) (h2 0 be)
    | succ i=>
     simp at hx hy;exact ih C (fun i hi=>h1 (i+1) (by simp;omega)) (fun i hi=>h2 (i+1) (by simp;omega)) (by simpa using h3) i x y hx hy
 exact key rs C h.row h.wid h.len
theorem fy.swap {n w:Nat}{A:List (List ah)}{q:QM}(h:fy n w A q)(hA:A.length=n){i j:Nat}(hi:i<n)(hj:j<n):fy n w (fv A i j) (fw q j i):=fun a ha k hk=>by
 rw[mP ac ac];unfold fw;have e:(if j=a then i else if i=a then j else a)=(if i=a then j else if j=a then i else a):=by
  by_cases h1:i=a <;> by_cases h2:j=a <;> simp[h1,h2]
 rw[e];refine h _ ?_ k hk;split
 . exact hj
 . split <;> omega
theorem fy.scale {n w:Nat}{A:List (List ah)}{q:QM}(h:fy n w A q)(hA:A.length=n){c ro:Nat}(hc:ro<n){r':List ah}(hr:jl w r' (fun k=>q ro k*(q ro c)⁻¹)):fy n w (A.set ro r') (ir q ro c):=fun a ha k hk=>by
 rw[gp ac];unfold ir;by_cases e:ro=a
 . rw[if_pos e,if_pos e.symm];exact hr k hk
 . rw[if_neg e,if_neg (Ne.symm e)];exact h a ha k hk
def gu (b:Nat)(rs:List (Nat×Option Nat)):List Nat:=b::rs.map (·.1)
theorem RP {b:Nat}{rs:List (Nat×Option Nat)}{i:Nat}(h:i<rs.length):rs[i]!.1∈gu b rs:=by
 refine fT _ (dN.2 ⟨rs[i]!,?_,rfl⟩);rw[getElem!_pos rs i h];exact ii _
theorem ajr {b:Nat}{rs:List (Nat×Option Nat)}{i j x:Nat}(hi:i<rs.length)(hj:j<rs.length)(h:x∈gu b (fv rs i j)):x∈gu b rs:=by
 rcases i4.1 h with rfl|h
 . exact d8 ..
 . obtain⟨r,hr,rfl⟩:=dN.1 h;refine fT _ (dN.2 ⟨r,?_,rfl⟩);have m1:rs[i]! ∈ rs:=by rw[getElem!_pos rs i hi];exact ii _
   have m2:rs[j]! ∈ rs:=by rw[getElem!_pos rs j hj];exact ii _
   unfold fv at hr;rcases gF hr with hr|rfl
   . rcases gF hr with hr|rfl
     . exact hr
     . exact m2
   . exact m1
theorem bQ.RQ {α:Type}[Inhabited α]{f:α->List AV}{esz w:Nat}{e eo:TypeId}{K:aa}{b:Nat}{rs:List (Nat×Option Nat)}{C:List (List α)}(h:bQ f esz w e eo K b rs C):∀x∈gu b rs,x<K.length:=fun x hx=>by
 rcases i4.1 hx with rfl|hx
 . exact cJ h.out
 . obtain⟨r,hr,rfl⟩:=dN.1 hx;obtain⟨i,hi,rfl⟩:=d6.1 hr;have:=h.lt (i:=i) (by rw[←h.len];exact hi);rwa [getElem!_pos rs i hi]at this
theorem bQ.RR {α:Type}[Inhabited α]{f:α->List AV}{esz w:Nat}{e eo:TypeId}{K H:aa}{b:Nat}{rs:List (Nat×Option Nat)}{C:List (List α)}(h:bQ f esz w e eo K b rs C)(hk:∀x v,x∈gu b rs->K.at x=some v->H.at x=some v):bQ f esz w e eo H b rs C:=
 ⟨hk _ _ (d8 ..) h.out,h.len,fun i hi=>hk _ _ (RP (by rw[h.len];exact hi)) (h.row i hi),h.wid,h.nb,h.inj⟩
theorem gJ.ajs {α:Type}{f:α->List AV}{esz:Nat}{e:TypeId}{o:AV}{acc:List α}{n b:Nat}{rs:List (Nat×Option Nat)}{K H:aa}(h:gJ n rs K H)(hl:rs.length=n)(hO:bj f esz e K o acc (gu b rs)):bj f esz e H o acc (gu b rs):=
 hO.cd (fun x v hx hv=>h.ck x v (fun j hj hh=>hO.Kx x hx (hh ▸ RP ac)) hv) (fun _ _ h=>h)
theorem ajt {q:QM}{c n s:Nat}(hs:s<=n):(eh q c (n-s) s=none/\kY q c n s=n)\/∃a,eh q c (n-s) s=some a/\kY q c n s=a/\s<=a/\a<n/\q a c≠0:=by
 unfold kY;cases h:eh q c (n-s) s with
 | none=>simp
 | some a=>
  have:=AT h;grind
def fz (l:List Nat):List Int:=l.map (fun (x:Nat)=>(x:Int))
theorem vz (l:List Nat):(fz l).length=l.length:=List.length_map ..
theorem aju (l:List Nat)(c:Nat):fz (l++[c])=fz l++[(c:Int)]:=by unfold fz;simp
theorem ajv (C:qt M){w n:Nat}{b:Nat}{rs:List (Nat×Option Nat)}{A:List (List ah)}{cap:Option Nat}{q:QM}(hn:A.length=n)(hn1:n<=5)(hn0:0<n)(hw:w<1000000)(hq:fy n w A q)(dq:cY n w 8 q)
 (a1 a2:AV) {Q:Ex->aq->Prop} {K0:aa} (hM:bQ fS 1 w 75 38 K0 b rs A)
 (hQ:∀K rs' A' q' l o a4 a5 a6 a7 a8 a9 aA aB lo wr,fx n w 0 q []=(q',l)->bQ fS 1 w 75 38 K b rs' A'->A'.length=n->fy n w A' q'->cY n w (iu l.length) q'->l.length<=n->bj iC 1 3 K o (fz l) (gu b rs')->Q (.exit 0) ⟨⟨[.sl b 0 n 1 cap,a1,a2,o,a4,a5,a6,a7,a8,a9,aA,aB],lo,K,[]⟩,wr⟩)
 (a5 a6 a7 a8 a9 aA aB:AV) (lo:List (Nat×AV)) (wr:List Nat) :
 W M (.loop Be) ⟨⟨[.sl b 0 n 1 cap,a1,a2,.ab,.iV 0,a5,a6,a7,a8,a9,aA,aB],lo,K0,[]⟩,wr⟩ Q:=by
 refine W.di w (fun c st=>∃K rs A q' l o a5 a6 a7 a8 a9 aA aB lo wr,st=⟨⟨[.sl b 0 n 1 cap,a1,a2,o,.iV c,a5,a6,a7,a8,a9,aA,aB],lo,K,[]⟩,wr⟩/\fx n w 0 q []=fx n (w-c) c q' l/\bQ fS 1 w 75 38 K b rs A/\A.length=n/\fy n w A q'/\cY n w (iu l.length) q'/\l.length<=n/\bj iC 1 3 K o (fz l) (gu b rs))
  (fun c st hc ⟨K,rs,A,q',l,o,a5,a6,a7,a8,a9,aA,aB,lo,wr,hst,hp,hM,hA,hq,dq,hl,hO⟩=>?_) (fun st ⟨K,rs,A,q',l,o,a5,a6,a7,a8,a9,aA,aB,lo,wr,hst,hp,hM,hA,hq,dq,hl,hO⟩=>?_) (b7 _) ⟨K0,rs,A,q,[],.ab,a5,a6,a7,a8,a9,aA,aB,lo,wr,rfl,rfl,hM,hn,hq,dq,b7 _,.jL⟩
 . subst hst;have hout:=hM.out;have hlen:rs.length=n:=by rw[hM.len,hA]
   have hll:=vz l;have hfrc:cK K (.sl b 0 n 1 cap) (.vs (arr (bB fS) A) A.length none):=hM.fL hA;have q65:M.ext 65 [.sl b 0 n 1 cap] K=some ⟨.iV w,K,[]⟩:=C.si _ A K w hfrc hM.wid ac;rw[show w-c=(w-(c+1))+1 by omega,fx]at hp;unfold Be;by_cases hln:l.length<n
   . rw[if_pos hln]at hp;have hd5:=AU (c:=l.length+1) ac;have e5:iu (l.length+1)=4*iu l.length+1:=rfl;repeat' first|(refine bj.Bo hO hll rfl ?_)|(apply abd;rfl;rfl)|(apply acq;rfl;rfl;first|exact q65)|refine gc ?_|(intro _;omega)|intro _
     all_goals try omega
     all_goals try infer_instance
     refine ajp C hA ac hw hc hl hq _ _ _ _ _ _ _ _ _ hM (fun lo wr=>?_) _ _;rcases ajt (q:=q') (c:=c) hl with ⟨hpn,hpe⟩|⟨a,hpn,hpe,hla,han,ha0⟩
     . rw[hpe];rw[hpn]at hp;repeat' first|(apply aeJ;rfl;rfl)|refine gc ?_|(intro _;omega)|intro _
       all_goals try omega
       all_goals first|exact bW ⟨K,rs,A,q',l,o,_,_,_,_,_,_,_,_,_,rfl,hp,hM,hA,hq,dq,hl,hO⟩|infer_instance
     . rw[hpe];rw[hpn]at hp;have hb1:b<K.length:=cJ hM.out;have hM2:bQ fS 1 w 75 38 ((K.put b (some (.cells (arr (cw 1 w) (rs.set ((a:Nat):Int).toNat rs[((l.length:Nat):Int).toNat]!)) 38))).put b (some (.cells (arr (cw 1 w) ((rs.set ((a:Nat):Int).toNat rs[((l.length:Nat):Int).toNat]!).set ((l.length:Nat):Int).toNat rs[((a:Nat):Int).toNat]!)) 38))) b (fv rs a l.length) (fv A a l.length):=by
        rw[tt];exact hM.swap ac ac
       have hout2:=hM2.out;have hlA:(fv A a l.length).length=n:=by rw[me];exact hA
       have hlen2:(fv rs a l.length).length=n:=by rw[me];exact hlen
       have hq2:=hq.swap hA han hln;have dq2:cY n w (iu l.length) (fw q' l.length a):=dq.swap hln han;have hrow2:=hM2.row l.length ac;have hwid2:=hM2.wid l.length ac;have e0:fw q' l.length a l.length=q' a:=by
        funext k
        unfold fw;split
        . grind
        . simp
       have hmem:∀x,x∈gu b (fv rs a l.length)->x∈gu b rs:=fun x hx=>ajr ac ac hx
       have hO2:bj iC 1 3 ((K.put b (some (.cells (arr (cw 1 w) (rs.set ((a:Nat):Int).toNat rs[((l.length:Nat):Int).toNat]!)) 38))).put b (some (.cells (arr (cw 1 w) ((rs.set ((a:Nat):Int).toNat rs[((l.length:Nat):Int).toNat]!).set ((l.length:Nat):Int).toNat rs[((a:Nat):Int).toNat]!)) 38))) o (fz l) (gu b (fv rs a l.length)):=by
        rw[tt];exact hO.cd (fun x v hx hv=>pr (fun e=>hO.Kx x hx (e ▸ d8 ..)) hv) bS
       generalize fv rs a l.length=rs2 at hM2 hout2 hlen2 hrow2 hO2;generalize fv A a l.length=A2 at hM2 hlA hq2 hrow2 hwid2;have hrow2:aa.at ((K.put b (some (.cells (arr (cw 1 w) (rs.set ((a:Nat):Int).toNat rs[((l.length:Nat):Int).toNat]!)) 38))).put b (some (.cells (arr (cw 1 w) ((rs.set ((a:Nat):Int).toNat rs[((l.length:Nat):Int).toNat]!).set ((l.length:Nat):Int).toNat rs[((a:Nat):Int).toNat]!)) 38))) (rs2[((l.length:Nat):Int).toNat]!).1=some (.cells (arr fS A2[((l.length:Nat):Int).toNat]!) 75):=hrow2;have hwid2:(A2[((l.length:Nat):Int).toNat]!).length=w:=hwid2;have f0:(A2[((l.length:Nat):Int).toNat]!)[((c:Nat):Int).toNat]! = ao (q' a c):=by
        have:=hq2 l.length hln c hc;rw[e0]at this;exact this
       have d0:∀k,k<w->Dq (iu l.length) (q' a k):=fun k hk=>dq a k han hk
       have q133:∀h,M.ext 133 [.str (ao (q' a c))] h=some ⟨.str (ao (q' a c)⁻¹),h,[]⟩:=fun h=>C.RA _ h ((d0 c hc).mono ac) ha0
       repeat' first|(refine bj.Bo hO hll rfl ?_)|refine gd8 ?_|(apply ais (f:=cw 1 w) (c:=rs) (a:=rs[((l.length:Nat):Int).toNat]!) (e:=38);rfl;rfl;exact hout;exact fun _=>rfl;omega;exact⟨rfl,am,rfl⟩;rfl)|(apply ais (f:=cw 1 w) (c:=rs.set ((a:Nat):Int).toNat rs[((l.length:Nat):Int).toNat]!) (a:=rs[((a:Nat):Int).toNat]!) (e:=38);rfl;rfl;exact eu hb1;exact fun _=>rfl;(rw[b5];omega);exact⟨rfl,am,rfl⟩;rfl)|(apply ahJ (f:=cw 1 w) (c:=rs2) (e:=38);rfl;exact hout2;exact fun _=>rfl;omega;decide;rfl)|(apply ahJ (f:=fS) (c:=A2[((l.length:Nat):Int).toNat]!) (e:=75);rfl;exact hrow2;exact fun _=>rfl;omega;decide;(exact congrArg (fun s=>some (AV.str s)) f0))|(apply aeJ;rfl;rfl)|refine gd0 ?_|refine gc ?_|(intro _;omega)|intro _
       all_goals try omega
       all_goals try infer_instance
       generalize ((K.put b (some (.cells (arr (cw 1 w) (rs.set ((a:Nat):Int).toNat rs[((l.length:Nat):Int).toNat]!)) 38))).put b (some (.cells (arr (cw 1 w) ((rs.set ((a:Nat):Int).toNat rs[((l.length:Nat):Int).toNat]!).set ((l.length:Nat):Int).toNat rs[((a:Nat):Int).toNat]!)) 38)))=H at *
       refine aja C (A:=A2) (q:=q' a) (lq:=(q' a c)⁻¹) hlA ac hw hln (((d0 c hc).inv ha0).mono ac) (fun k hk=>(d0 k hk).mono ac) _ _ _ _ _ _ _ _ _ (fun K3 r' lo wr hM3 hr3 hq3 hX3=>?_) A2[l.length]! (by rw[RC ac];exact hM2) ac (by rw[←e0];exact hq2 l.length hln) _ _;have hq4:fy n w (A2.set l.length r') (ir (fw q' l.length a) l.length c):=hq2.scale hlA hln (by rw[e0];exact hq3);have dq4:cY n w (2*iu l.length) (ir (fw q' l.length a) l.length c):=dq2.scale hln hc (by rw[e0];exact ha0);have hlA4:(A2.set l.length r').length=n:=by rw[b5];exact hlA
       repeat' first|refine gc ?_|fail
       all_goals try omega
       all_goals try infer_instance
       refine ajc C (A:=A2.set l.length r') (q:=ir (fw q' l.length a) l.length c) (D:=2*iu l.length) hlA4 ac hw hln hc ac dq4 hq4 _ _ _ _ _ _ hM3 (fun K5 A5 aA aB lo wr hM5 hA5 hq5 hX5=>?_) _ _ _ _;have hO5:bj iC 1 3 K5 o (fz l) (gu b rs2):=(hX3.trans hX5).ajs hlen2 hO2;have hlt5:∀x∈gu b rs2,x<(K5++[some (ba.cells [AV.iV c] 3)]).length:=fun x hx=>by
        have:=hM5.RQ x hx;grind
       have hroom:((fz l).length+1)*8<=cz:=by unfold cz;omega
       repeat' first|(refine bj.app (f:=iC) (m:=[(c:Int)]) (S:=gu b rs2) (fun _=>rfl) (fun _=>rfl) am (hO5.grow [_]) hlt5 rfl rfl (Sl.gN (f:=iC) (esz:=1) (l:=[(c:Int)]) (e:=3) (fun _=>rfl) cC rfl) hroom (fun H6 w6 o6 ho6 hk6 hlen6=>?_))|refine gc ?_|fail
       all_goals try omega
       all_goals try infer_instance
       all_goals exact bW ⟨H6,rs2,A5,_,l++[c],o6,_,_,_,_,_,_,_,_,_,rfl,hp,hM5.RR (fun x v hx hv=>hk6 x v hx (cE hv)),hA5,hq5,by rw[b6,dY];exact dq.step hln han hc ha0,bS,by rw[aju];exact ho6⟩
   . rw[if_neg hln]at hp;repeat' first|(refine bj.Bo hO hll rfl ?_)|(apply abd;rfl;rfl)|(apply acq;rfl;rfl;first|exact q65)|refine gc ?_|(intro _;omega)|intro _
     grind
 . subst hst;have hfrc:cK K (.sl b 0 n 1 cap) (.vs (arr (bB fS) A) A.length none):=hM.fL hA;have q65:M.ext 65 [.sl b 0 n 1 cap] K=some ⟨.iV w,K,[]⟩:=C.si _ A K w hfrc hM.wid ac;rw[it,fx]at hp;unfold Be;repeat' first|(apply abd;rfl;rfl)|(apply acq;rfl;rfl;first|exact q65)|refine gc ?_|(intro _;omega)|intro _
   grind
theorem WO.ajw {t b n len:Nat}{L:List aX}{pe:List AV}{lo:List (Nat×AV)}{hp:aa}{df wr:List Nat}{x z:ay}{k:IntKind}{Q:aq->Prop}(hx:(St.mk pe lo hp df).ae x=some (.sl b 0 n 1 none))(hz:(St.mk pe lo hp df).ae z=some (.int k len))(hn:len<=n)
 (hQ:WO M L ⟨⟨pe,(t,if len=0 then .vs [] 0 none else .sl b 0 len 1 none)::lo,hp,df⟩,wr⟩ Q):WO M (⟨.l t,.slice .sl 1 x none (some z) none,none⟩::L) ⟨⟨pe,lo,hp,df⟩,wr⟩ Q:=by
 have hb:(0:Int)<=(len:Int)/\(len:Int)<=((n:Nat):Int):=by omega
 refine abL ?_ rfl hQ;by_cases h0:len=0
 . subst h0;simp only[aY,hx,St.cZ,hz,j1,jo,bR,i7,i8,f9,if_true,jq,if_pos hb];simp
 . have hp:0<(len:Int).toNat:=by omega
   simp only[aY,hx,St.cZ,hz,j1,jo,bR,i7,i8,f9,if_true,jq,if_pos hb,if_neg h0];grind
theorem ajx {w:Nat}{K:aa}{b:Nat}{rs:List (Nat×Option Nat)}{A:List (List ah)}(h:bQ fS 1 w 75 38 K b rs A){len:Nat}(hl:len<=A.length):fD K (if len=0 then .vs [] 0 none else .sl b 0 len 1 none) (.vs (arr (bB fS) (A.take len)) len none):=by
 have hrl:=h.len;by_cases h0:len=0
 . rw[if_pos h0];subst h0;exact .same rfl rfl
 . rw[if_neg h0];have hc:=ji (f:=cw 1 w) (esz:=1) (fun _=>rfl) (l:=rs) (i:=0) (n:=len) ac;rw[d9,f8]at hc;refine⟨gu b rs,.sl (d8 ..) h.out hc (by rw[ke (f:=cw 1 w) (esz:=1) (fun _=>rfl),ke (f:=bB fS) (esz:=1) (fun _=>rfl),ce,ce,hrl]) ?_,rfl,fun c l e hb hl'=>?_⟩
   . have key:∀(rs':List (Nat×Option Nat)) (C:List (List ah)),(∀x∈rs'.map (·.1),x∈gu b rs)->(∀i,i<C.length->K.at rs'[i]!.1=some (.cells (arr fS C[i]!) 75))->(∀i,i<C.length->C[i]!.length=w)->rs'.length=C.length->∀(i:Nat) (x y:AV),(arr (cw 1 w) rs')[i]? = some x->(arr (bB fS) C)[i]? = some y->Fr K (gu b rs) x y:=by
      intro rs';induction rs' with
      | nil=>intro C _ _ _ _ i x y hx;simp[arr]at hx
      | cons r rs' ih=>
       intro C h0 h1 h2 h3 i x y hx hy;cases C with
       | nil=>simp at h3
       | cons l C=>
        rw[gD]at hx hy;cases i with
        | zero=>
         simp at hx hy;subst hx;subst hy;have hat:K.at r.1=some (.cells (arr fS l) 75):=h1 0 be;have hwl:l.length=w:=h2 0 be;subst hwl;have hc:=ji (f:=fS) (esz:=1) (fun _=>rfl) (l:=l) (i:=0) (n:=l.length) ac;rw[d9,hZ,f8]at hc;refine .sl bS hat hc rfl (fun i x y hx hy=>?_) (.inr rfl);rw[hx]at hy;cases hy;exact .same (by have:=fC (n:=0) (Nat.le_of_eq (jK (f:=fS) (fun _=>rfl) l)) i x hx;omega)
        | succ i=>
         simp at hx hy;exact ih C bS (fun i hi=>h1 (i+1) bS) (fun i hi=>h2 (i+1) bS) bS i x y hx hy
     have tk:∀{β:Type} [Inhabited β] (l:List β) (i:Nat),i<len->i<l.length->(l.take len)[i]! = l[i]! := bS;refine key _ _ (fun x hx=>fT _ ?_) (fun i hi=>?_) (fun i hi=>?_) bS
     . grind
     . rw[ce]at hi;rw[tk rs i ac ac,tk A i ac ac];exact h.row i ac
     . rw[ce]at hi;rw[tk A i ac ac];exact h.wid i ac
   . rcases i4.1 hb with rfl|hb
     . rw[h.out]at hl';cases hl';exact kH (fun _=>rfl) rs
     . obtain⟨r,hr,rfl⟩:=dN.1 hb;obtain⟨i,hi,rfl⟩:=d6.1 hr;have:=h.row i ac;rw[getElem!_pos rs i hi]at this;rw[this]at hl';cases hl';exact kH (fun _=>rfl) _
theorem ajy {w:Nat}{K:aa}{b:Nat}{rs:List (Nat×Option Nat)}{A:List (List ah)}(h:bQ fS 1 w 75 38 K b rs A){l:List Nat}{o:AV}{S:List Nat}(hl:l.length<=A.length)(hO:bj iC 1 3 K o (fz l) S) :
 fD (if (aW [if l.length=0 then .vs [] 0 none else .sl b 0 l.length 1 none,o]).top<=0 then [] else K) (aW [if l.length=0 then .vs [] 0 none else .sl b 0 l.length 1 none,o]) (.au [.vs (arr (bB fS) (A.take l.length)) l.length none,.vs (arr iC (fz l)) l.length none]):=by
 have hM:=ajx h hl;have hcl:=vz l;rcases hO with ⟨h0,rfl⟩|⟨c,cp,_,rfl,h4,_⟩
 . rw[h0]at hcl;have hl0:l.length=0:=hcl.symm;obtain rfl:l=[]:=bS;exact fD.two (.same rfl rfl) .nil
 . rw[if_neg (by simp[aW,AV.top,bc])];refine fD.two hM ?_;rw[←hcl];refine⟨[c],Dz (f:=iC) (esz:=1) (fun _=>rfl) (fun _=>rfl) h4 rfl,rfl,fun b l e' hb hl=>?_⟩;rw[c3.1 hb,h4]at hl;cases hl;exact kH (fun _=>rfl) _
theorem ajz (C:qt M)(m:List (List ah)){w n:Nat}{q:QM}(hn:m.length=n)(hn1:n<=5)(hn0:0<n)(hw:w<1000000)(hw0:0<w)(hwid:∀i,i<n->m[i]!.length=w)(hq:fy n w m q)(dq:cY n w 8 q) :
 ∃A' q' l,fx n w 0 q []=(q',l)/\A'.length=n/\(∀i,i<n->A'[i]!.length=w)/\fy n w A' q'/\cY n w (iu l.length) q'/\l.length<=n /\
  ∃v hh,fD hh v (.au [.vs (arr (bB fS) (A'.take l.length)) l.length none,.vs (arr iC (fz l)) l.length none])/\aV M 178 [.vs (arr (bB fS) m) m.length none] [] ⟨v,hh,[]⟩:=by
 obtain⟨⟨v,K,wr0⟩,hr,b,rs,hv,hM⟩:=(ajm (M:=M) C.ft m hw hw0 ac ac bS).out;have hv:v = .sl b 0 m.length 1 none:=hv;subst hv;have ct:CT M (.fn (.func 156) [] []) [.vs (arr (bB fS) m) m.length none] [] ⟨.sl b 0 m.length 1 none,K,wr0⟩:=CT.run (C.RB _ _) hr;have hM:bQ fS 1 w 75 38 K b rs m:=hM;have key:=gO (M:=M) (f:=178) (ars:=[.vs (arr (bB fS) m) m.length none]) (P:=fun v hh=>∃A' q' l,fx n w 0 q []=(q',l)/\A'.length=n/\(∀i,i<n->A'[i]!.length=w)/\fy n w A' q'/\cY n w (iu l.length) q'/\l.length<=n /\
  fD hh v (.au [.vs (arr (bB fS) (A'.take l.length)) l.length none,.vs (arr iC (fz l)) l.length none])) (by rw[C.ft];exact aiX) be (by
  rw[hn]at ct;rw[hn];unfold Rx;simp only[enter];repeat' first|(apply afJ;rfl;rfl;first|exact ct)|refine gc ?_|fail
  refine ajv C hn hn1 hn0 hw hq dq _ _ hM (fun K rs' A' q' l o a4 a5 a6 a7 a8 a9 aA aB lo wr hp hM' hA' hq' dq' hl hO=>?_) _ _ _ _ _ _ _ _ _;have hcl:=vz l;repeat' first|(refine bj.Bo hO hcl rfl ?_)|(refine WO.ajw rfl rfl hl ?_)|refine gc ?_|fail
  all_goals exact⟨.inr rfl,rfl,_,rfl,A',q',l,hp,hA',fun i hi=>hM'.wid i ac,hq',dq',hl,ajy hM' ac hO⟩)
 grind
theorem HP {v:AV}{n:Nat}{s:aq}{P:aa->Prop}(hv:¬v.top<=n)(h:P s.s.hp):P (dy v n s).h:=by
 unfold dy;split
 . rename_i h1;rw[jD,decide_eq_true_eq]at h1;exact absurd h1.1 hv
 . exact h
theorem RS {h:aa}(l:List ah)(n:Nat)(cp:Option Nat):cK h (.vs (arr fS l) n cp) (.vs (arr fS l) n cp):=.vs rfl (RO l)
theorem HQ {h:aa}(m:List (List ah))(n:Nat)(cp:Option Nat):cK h (.vs (arr (bB fS) m) n cp) (.vs (arr (bB fS) m) n cp):=by
 refine .vs rfl ?_;induction m with
 | nil=>intro i x y hx;simp[arr]at hx
 | cons a m ih=>
  intro i x y hx hy;rw[gD]at hx hy;cases i with
  | zero=>simp at hx hy;subst hx;subst hy;exact RS a _ _
  | succ i=>simp at hx hy;exact ih i x y hx hy
theorem w65 (hft:M.FT=FT)(m:List (List ah)){w:Nat}(h0:0<m.length)(hw:m[0]!.length=w):aV M 65 [.vs (arr (bB fS) m) m.length none] [] ⟨.iV w,[],[]⟩:=by
 refine bH (by rw[hft];exact aiR) be ?_;subst hw;unfold Rr;simp only[enter];repeat' first|refine gd28 ?_|(apply aeJ;rfl;rfl)|refine gc ?_|(intro _;omega)|intro _
 all_goals try omega
 all_goals first|exact⟨.inr rfl,rfl,_,rfl,rfl,rfl⟩|infer_instance
structure HS (M:aw):Prop where
 ft:M.FT=FT
 HT:∀(m:List (List ah)) (w n:Nat) (q:QM),m.length=n->n<=5->0<n->w<1000000->0<w->(∀i,i<n->m[i]!.length=w)->fy n w m q->cY n w 8 q ->
  ∃A' q' l,fx n w 0 q []=(q',l)/\A'.length=n/\(∀i,i<n->A'[i]!.length=w)/\fy n w A' q'/\cY n w (iu l.length) q'/\l.length<=n /\
   ∀v h,cK h v (.vs (arr (bB fS) m) m.length none)->M.ext 178 [v] h=some ⟨.au [.vs (arr (bB fS) (A'.take l.length)) l.length none,.vs (arr iC (fz l)) l.length none],h,[]⟩
theorem ajB (C:HS M)(m:List (List ah)){w n:Nat}{q:QM}(hn:m.length=n)(hn1:n<=5)(hn0:0<n)(hw:w<1000000)(hw0:0<w)(hwid:∀i,i<n->m[i]!.length=w)(hq:fy n w m q)(dq:cY n w 8 q) :
 ∃L:List (List ah),L.length=(fx n w 0 q []).2.length/\aV M 177 [.vs (arr (bB fS) m) m.length none] [] ⟨.vs (arr (bB fS) L) L.length none,[],[]⟩:=by
 obtain⟨A',q',l,h1,h2,h3,h4,h5,h6,h7⟩:=C.HT m w n q hn hn1 hn0 hw hw0 hwid hq dq;have q178:=h7 _ [] (HQ m m.length none);refine⟨A'.take l.length,by rw[h1,ce];show min l.length A'.length=l.length;omega,?_⟩;rw[show (A'.take l.length).length=l.length by rw[ce];omega];refine bH (by rw[C.ft];exact aiW) be ?_;unfold Rw;simp only[enter];repeat' first|(apply acq;rfl;rfl;first|exact q178)|refine gc ?_|fail
 all_goals exact⟨.inr rfl,rfl,_,rfl,rfl,ite_self _⟩
theorem ajC (hft:M.FT=FT)(m:List (List ah)){L:List (List ah)}(q177:∀h,M.ext 177 [.vs (arr (bB fS) m) m.length none] h=some ⟨.vs (arr (bB fS) L) L.length none,h,[]⟩):aV M 106 [.vs (arr (bB fS) m) m.length none] [] ⟨.iV L.length,[],[]⟩:=by
 refine bH (by rw[hft];exact aiT) be ?_;unfold Rt;simp only[enter];exact gg0
theorem ajD (hft:M.FT=FT){n:Nat}(hn:n<1000000)(h0:0<n)(K0:aa) :
 fJ M 179 [.iV n] K0 (fun r=>∃c,r.v = .sl c 0 n 1 none/\r.h.at c=some (.cells (arr fS (d7 n [48])) 75)):=by
 refine fJ.mz (by rw[hft];exact aiY) be ?_;unfold Ry;simp only[enter];repeat' first|refine gc ?_|fail
 refine W.di n (fun i st=>∃o K lo wr,st=⟨⟨[.iV n,.ab,o,.iV i],lo,K,[]⟩,wr⟩/\bj fS 1 75 K o (d7 i [48]) (b8 K0.length)/\K0.length<=K.length)
  (fun i st hi ⟨o,K,lo,wr,hst,hO,hK⟩=>?_) (fun st ⟨o,K,lo,wr,hst,hO,hK⟩=>?_) (b7 _) ⟨.ab,K0,_,_,rfl,.jL,c9 _⟩
 . subst hst;have hroom:((d7 i ([48]:ah)).length+1)*16<=cz:=by rw[b9];unfold cz;omega
   have hlt:∀x∈b8 K0.length,x<(K++[some (ba.cells [AV.str [48]] 75)]).length:=fun x hx=>by
    have:=j3.1 hx;simp;omega
   unfold HI;repeat' first|(refine bj.app (f:=fS) (m:=[([48]:ah)]) (S:=b8 K0.length) (fun _=>rfl) vy am (hO.grow [_]) hlt rfl rfl (Sl.gN (f:=fS) (esz:=1) (l:=[([48]:ah)]) (e:=75) (fun _=>rfl) cC rfl) hroom (fun H6 w6 o6 ho6 hk6 hlen6=>?_))|(apply abd;rfl;rfl)|refine gc ?_|(intro _;omega)|intro _
   all_goals try omega
   all_goals try infer_instance
   rw[b6]at hlen6;all_goals exact bW ⟨o6,H6,_,_,rfl,by rw[List.replicate_succ'];exact ho6,ac⟩
 . subst hst;rcases hO with ⟨h1,_⟩|⟨c,cp,hc,rfl,hat,hcp⟩
   . have:=congrArg jU h1;rw[b9]at this;simp at this;omega
   obtain rfl:cp=none:=by
    rcases hcp with h|⟨h,_⟩
    . exact h
    . have:=congrArg jU h;rw[b9]at this;simp at this;omega
   rw[b9];have hcK:K0.length<=c:=by
    rcases Nat.lt_or_ge c K0.length with h|h
    . exact absurd (j3.2 h) hc
    . exact h
   unfold HI;refine gg4 ?_;refine⟨.inr rfl,_,rfl,_,rfl,c,vw,?_⟩;refine HP (P:=fun h=>aa.at h c=some (.cells (arr fS (d7 n [48])) 75)) ?_ hat;simp[aW,AV.top];omega
def jm (m:List (List ah))(b:List ah)(n:Nat):List (List ah):=(b8 n).map fun i=>m[i]! ++ [b[i]!]
theorem qw {m:List (List ah)}{b:List ah}{n:Nat}:(jm m b n).length=n:=by simp[jm]
theorem ajE {m:List (List ah)}{b:List ah}{n:Nat}:jm m b (n+1)=jm m b n++[m[n]! ++ [b[n]!]]:=by unfold jm;rw[List.range_succ,dO];rfl
theorem RT {m:List (List ah)}{b:List ah}{n i:Nat}(h:i<n):(jm m b n)[i]! = m[i]! ++ [b[i]!]:=by
 rw[getElem!_pos _ i (by rw[qw];exact h)];simp[jm]
theorem ajF {m:List (List ah)}{bv:List ah}{n:Nat}(hm:m.length=n)(hb:bv.length=n)(hn:n<1000000)(hn0:0<n)(hwid:∀i,i<n->m[i]!.length=n)
 (a2 a3 a7 a8 a9 aA:AV) {Q:Ex->aq->Prop}
 (hQ:∀K rs o lo wr,gr fS (n+1) 75 K rs (jm m bv n)->bj (cw 1 (n+1)) 1 38 K o rs (rs.map (·.1))->Q (.exit 0) ⟨⟨[.vs (arr (bB fS) m) n none,.vs (arr fS bv) n none,a2,a3,o,.iV n,.iV n,a7,a8,a9,aA],lo,K,[]⟩,wr⟩)
 (lo:List (Nat×AV)) (wr:List Nat) :
 W M (.loop AX) ⟨⟨[.vs (arr (bB fS) m) n none,.vs (arr fS bv) n none,a2,a3,.ab,.iV n,.iV 0,a7,a8,a9,aA],lo,[],[]⟩,wr⟩ Q:=by
 refine W.di n (fun i st=>∃o K rs lo wr,st=⟨⟨[.vs (arr (bB fS) m) n none,.vs (arr fS bv) n none,a2,a3,o,.iV n,.iV i,a7,a8,a9,aA],lo,K,[]⟩,wr⟩/\gr fS (n+1) 75 K rs (jm m bv i)/\bj (cw 1 (n+1)) 1 38 K o rs (rs.map (·.1))/\∀x∈rs.map (·.1),x<K.length)
  (fun i st hi ⟨o,K,rs,lo,wr,hst,hR,hO,hlt⟩=>?_) (fun st ⟨o,K,rs,lo,wr,hst,hR,hO,hlt⟩=>?_) (b7 _) ⟨.ab,[],[],_,_,rfl,.nil,.jL,be⟩
 . subst hst;have hwi:(m[((i:Nat):Int).toNat]!).length=n:=hwid i hi;have hlen:rs.length=i:=by rw[hR.len,qw]
   have hm':jm m bv (i+1)=jm m bv i++[([]++m[((i:Nat):Int).toNat]!)++[bv[((i:Nat):Int).toNat]!]]:=ajE;have hSlt:∀x∈rs.map (·.1)++iq o,x<K.length:=fun x hx=>by
    rcases c7.1 hx with h|h
    . exact hlt x h
    . exact hO.lt x h
   have hSlt1:∀x∈rs.map (·.1)++iq o,x<(K++[some (ba.cells [] 75)]).length:=fun x hx=>by
    have:=hSlt x hx;simp;omega
   have hO1:=(bj.Kw (f:=fS) (e:=75) (esz:=1) hSlt);have hr1:(([]:List ah).length+(m[((i:Nat):Int).toNat]!).length)*16<=cz:=by
    rw[hwi,j0];unfold cz;omega
   have hr3:(([]++m[((i:Nat):Int).toNat]!).length+1)*16<=cz:=by
    rw[iy,hwi];unfold cz;omega
   have hr2:(rs.length+1)*24<=cz:=by
    unfold cz;omega
   generalize hrow:m[((i:Nat):Int).toNat]! = row at hwi hm' hr1 hr3;generalize hbx:bv[((i:Nat):Int).toNat]! = bx at hm';have hup:∀(H:aa) (z:List (Option ba)),(K++[some (ba.cells [] 75)]).length<=H.length->∀x∈rs.map (·.1)++iq o,x<(H++z).length:=fun H z hl x hx=>by
    have:=hSlt1 x hx;rw[b6];omega
   unfold AX;repeat' first|(apply agT (f:=bB fS) (c:=m);rfl;exact fun _=>rfl;omega;decide;(exact congrArg (fun r=>some (AV.vs (arr fS r) r.length none)) hrow))|(apply agT (f:=fS) (c:=bv);rfl;exact fun _=>rfl;omega;decide;(exact congrArg (fun s=>some (AV.str s)) hbx))|(apply amM;rfl;rfl;(first|(simp only[nca2];rfl)|rfl);intro _)|(refine bj.app (f:=fS) (m:=row) (S:=rs.map (·.1)++iq o) (fun _=>rfl) vy am hO1 hSlt1 rfl rfl (.inr (.inl ⟨none,rfl⟩)) hr1 (fun H w' o' ho' hk hlen'=>?_))|(refine bj.app (f:=fS) (m:=[bx]) (S:=rs.map (·.1)++iq o) (fun _=>rfl) vy am (ho'.grow [_]) (hup H _ hlen') rfl rfl (Sl.gN (f:=fS) (esz:=1) (l:=[bx]) (e:=75) (fun _=>rfl) cC rfl) hr3 (fun H2 w2 o2 ho2 hk2 hlen2=>?_))|(apply abd;rfl;rfl)|refine gc ?_|(intro _;omega)|intro _
   all_goals try omega
   all_goals try infer_instance
   rcases ho2 with ⟨h0,_⟩|⟨c',cp,hc',rfl,hat,_⟩
   . exact absurd (congrArg jU h0) be
   have e1:([]++row++[bx]).length=n+1:=by
    rw[b6,iy,hwi];rfl
   rw[e1];rw[b6]at hlen2;have hkk:∀x v,x∈rs.map (·.1)++iq o->K.at x=some v->H2.at x=some v:=fun x v hx hv=>hk2 x v hx (cE (hk x v hx (cE hv)))
   have hO2:bj (cw 1 (n+1)) 1 38 H2 o rs ((rs++[(c',cp)]).map (·.1)):=hO.cd (fun b x hb hx=>hkk b x (i3 _ hb) hx) (fun b hb hn hh=>by
    rw[dO,c7]at hh;rcases hh with hh|hh
    . exact hn hh
    . rw[ci,f7,c3]at hh;subst hh;exact hc' (i3 _ hb))
   have hR2:gr fS (n+1) 75 H2 (rs++[(c',cp)]) (jm m bv (i+1)):=by
    rw[hm'];exact(hR.cd (fun x v hx hv=>hkk x v (f6 _ hx) hv)).snoc hat e1 (fun h=>hc' (f6 _ h))
   have hlt2:∀x∈(rs++[(c',cp)]).map (·.1),x<H2.length:=fun x hx=>by
    rw[dO,c7]at hx;rcases hx with hx|hx
    . have h1:=hup H [] hlen' x (f6 _ hx);rw[List.append_nil]at h1;omega
    . rw[ci,f7,c3]at hx;subst hx;exact cJ hat
   have hlt3:∀x∈(rs++[(c',cp)]).map (·.1),x<(H2++[some (ba.cells [AV.sl c' 0 (n+1) 1 cp] 38)]).length:=fun x hx=>by
    have:=hlt2 x hx;simp;omega
   repeat' first|(refine bj.app (f:=cw 1 (n+1)) (m:=[(c',cp)]) (S:=(rs++[(c',cp)]).map (·.1)) (fun _=>rfl) (RN 1 (n+1)) am (hO2.grow [_]) hlt3 rfl rfl (Sl.gN (f:=cw 1 (n+1)) (esz:=1) (l:=[(c',cp)]) (e:=38) (fun _=>rfl) cC rfl) hr2 (fun H3 w3 o3 ho3 hk3 hlen3=>?_))|(apply ano;rfl;rfl;intro _)|refine gc ?_|fail
   all_goals try omega
   all_goals try infer_instance
   rw[b6]at hlen3;all_goals exact bW ⟨o3,H3,rs++[(c',cp)],_,_,rfl,hR2.cd (fun x v hx hv=>hk3 x v hx (cE hv)),ho3,fun x hx=>by have:=hlt2 x hx;omega⟩
 . subst hst;unfold AX;exact gg0
noncomputable def gV (r:QM)(n:Nat):List ah:=(b8 n).map fun a=>ao (r a n)
theorem sm {r:QM}{n:Nat}:(gV r n).length=n:=by simp[gV]
theorem ajG {n i:Nat}(h:i<n):(fz (b8 n))[i]! = (i:Int):=by
 rw[getElem!_pos _ i (by rw[vz,g9];exact h)];simp[fz]
structure RU (M:aw):Prop extends HS M where
 si:∀v (m:List (List ah)) h w,cK h v (.vs (arr (bB fS) m) m.length none)->(∀i,i<m.length->m[i]!.length=w)->0<m.length->M.ext 65 [v] h=some ⟨.iV w,h,[]⟩
 RV:∀a h,M.ext 179 a h=none
theorem ajH {A:List (List ah)}{n c:Nat}{q:QM}(hA:A.length=n)(hn:n<1000000)(hw:∀i,i<n->A[i]!.length=n+1)(hq:fy n (n+1) A q)
 (a0 a1 a2 a3 a4 a6:AV) {Q:Ex->aq->Prop}
 (hQ:∀K lo wr,K.at c=some (.cells (arr fS (gV q n)) 75)->Q (.exit 2) ⟨⟨[a0,a1,a2,a3,a4,.iV n,a6,.vs (arr (bB fS) A) n none,.vs (arr iC (fz (b8 n))) n none,.sl c 0 n 1 none,.iV n],lo,K,[]⟩,wr⟩)
 {K0:aa} {O:List ah} (hO:O.length=n) (hK:K0.at c=some (.cells (arr fS O) 75)) (lo:List (Nat×AV)) (wr:List Nat) :
 W M (.loop AY) ⟨⟨[a0,a1,a2,a3,a4,.iV n,a6,.vs (arr (bB fS) A) n none,.vs (arr iC (fz (b8 n))) n none,.sl c 0 n 1 none,.iV 0],lo,K0,[]⟩,wr⟩ Q:=by
 refine W.di n (fun i st=>∃K O lo wr,st=⟨⟨[a0,a1,a2,a3,a4,.iV n,a6,.vs (arr (bB fS) A) n none,.vs (arr iC (fz (b8 n))) n none,.sl c 0 n 1 none,.iV i],lo,K,[]⟩,wr⟩/\K.at c=some (.cells (arr fS O) 75)/\O.length=n/\∀j,j<i->O[j]! = ao (q j n))
  (fun i st hi ⟨K,O,lo,wr,hst,hK,hO,hI⟩=>?_) (fun st ⟨K,O,lo,wr,hst,hK,hO,hI⟩=>?_) (b7 _) ⟨K0,O,_,_,rfl,hK,hO,fun j hj=>absurd hj (j2 j)⟩
 . subst hst;have hcl:(fz (b8 n)).length=n:=by rw[vz,g9]
   have gi:(fz (b8 n))[((i:Nat):Int).toNat]! = (i:Int):=ajG hi;have wi:(A[((i:Nat):Int).toNat]!).length=n+1:=hw i hi;have ge:(A[((i:Nat):Int).toNat]!)[((n:Nat):Int).toNat]! = ao (q i n):=hq i hi n ac;have next:∀lo wr,LI (fun st=>∃K O lo wr,st=⟨⟨[a0,a1,a2,a3,a4,.iV n,a6,.vs (arr (bB fS) A) n none,.vs (arr iC (fz (b8 n))) n none,.sl c 0 n 1 none,.iV ((i+1:Nat):Int)],lo,K,[]⟩,wr⟩/\K.at c=some (.cells (arr fS O) 75)/\O.length=n/\∀j,j<i+1->O[j]! = ao (q j n)) Q .normal
    ⟨⟨[a0,a1,a2,a3,a4,.iV n,a6,.vs (arr (bB fS) A) n none,.vs (arr iC (fz (b8 n))) n none,.sl c 0 n 1 none,.iV ((i:Int)+1)],lo,K.put c (some (.cells (arr fS (O.set ((i:Nat):Int).toNat (ao (q i n)))) 75)),[]⟩,wr⟩:=fun lo wr=>
    bW ⟨_,O.set i (ao (q i n)),lo,wr,rfl,eu (cJ hK),by rw[b5];exact hO,fun j hj=>by
     rw[gp ac];by_cases ej:i=j
     . subst ej;rw[if_pos rfl]
     . rw[if_neg ej];exact hI j ac⟩
   unfold AY;repeat' first|(apply agT (f:=iC) (c:=fz (b8 n));rfl;exact fun _=>rfl;omega;decide;(exact congrArg (fun z=>some (AV.iV z)) gi))|(apply agT (f:=bB fS) (c:=A);rfl;exact fun _=>rfl;omega;decide;rfl)|(apply agT (f:=fS) (c:=A[((i:Nat):Int).toNat]!);rfl;exact fun _=>rfl;omega;decide;(exact congrArg (fun s=>some (AV.str s)) ge))|(apply ais (f:=fS) (c:=O) (a:=ao (q i n)) (e:=75);rfl;rfl;exact hK;exact fun _=>rfl;omega;exact⟨rfl,am,rfl⟩;rfl)|(apply abd;rfl;rfl)|(apply aeJ;rfl;rfl)|refine gc ?_|(intro _;omega)|intro _
   all_goals try omega
   all_goals first|exact next _ _|infer_instance
 . subst hst;have e:O=gV q n:=by
    refine List.ext_getElem (by rw[hO,sm]) fun j h1 h2=>?_
    have:=hI j ac;rw[getElem!_pos O j h1]at this;rw[this];simp[gV]
   subst e;unfold AY;repeat' first|(apply abd;rfl;rfl)|refine gc ?_|(intro _;omega)|intro _
   all_goals try omega
   all_goals first|exact hQ K _ _ hK|infer_instance
theorem ajI (C:RU M){m:List (List ah)}{bv:List ah}{n:Nat}{q r:QM}(hm:m.length=n)(hb:bv.length=n)(hn:n<=5)(hn0:0<n)(hwid:∀i,i<n->m[i]!.length=n)(hq:fy n (n+1) (jm m bv n) q)(dq:cY n (n+1) 8 q)(hs:eL n n 0 q=some r) :
 ∃v hh,fD hh v (.au [.vs (arr fS (gV r n)) n none,.bool true])/\aV M 107 [.vs (arr (bB fS) m) n none,.vs (arr fS bv) n none] [] ⟨v,hh,[]⟩:=by
 have q65:=fun h=>C.si (.vs (arr (bB fS) m) n none) m h n (by rw[hm];exact HQ m n none) (fun i hi=>hwid i ac) ac
 obtain⟨A',q',l,p1,p2,p3,p4,p5,p6,p7⟩:=C.HT (jm m bv n) (n+1) n q qw hn hn0 ac ac (fun i hi=>by
  rw[RT hi,b6,hwid i hi];rfl) hq dq
 have hpw:=Rh (n:=n) n 0 q r ac hs;have hpw:fx n (n+1) 0 q []=(r,b8 n):=hpw;rw[hpw]at p1;obtain⟨rfl,rfl⟩:r=q'/\b8 n=l:=by
  cases p1;exact⟨rfl,rfl⟩
 rw[g9,fm ac,qw]at p7;refine gO (M:=M) (P:=fun v hh=>fD hh v (.au [.vs (arr fS (gV r n)) n none,.bool true])) (by rw[C.ft];exact aiU) be ?_;unfold Ru;simp only[enter];repeat' first|refine gd0 ?_|refine gc ?_|fail
 all_goals try omega
 refine ajF hm hb ac hn0 hwid _ _ _ _ _ _ (fun K rs o lo wr hR hO=>?_) _ _;have hrl:rs.length=n:=by rw[hR.len,qw]
 rcases hO with ⟨h0,_⟩|⟨b,cp,hbn,rfl,hat,hcp⟩
 . rw[h0]at hrl;simp at hrl;omega
 rw[hrl];have hM:=hR.RM hat hbn;have q178:M.ext 178 [.sl b 0 n 1 cp] K=some ⟨.au [.vs (arr (bB fS) A') n none,.vs (arr iC (fz (b8 n))) n none],K,[]⟩:=p7 _ K (by
  have:=hM.fL (cap:=cp) (n:=n) qw;rw[qw]at this;exact this)
 obtain⟨⟨v,K2,wr0⟩,hr,c,hv,hc⟩:=(ajD (M:=M) C.ft (n:=n) ac hn0 K).out;have hv:v = .sl c 0 n 1 none:=hv;subst hv;have ct:CT M (.fn (.func 179) [] []) [.iV n] K ⟨.sl c 0 n 1 none,K2,wr0⟩:=CT.run (C.RV _ _) hr;repeat' first|(apply acq;rfl;rfl;first|exact q178)|(apply afJ;rfl;rfl;first|exact ct)|refine gc ?_|fail
 all_goals try omega
 refine ajH p2 ac p3 p4 _ _ _ _ _ _ (fun K3 lo wr hK3=>?_) (b9 ..) hc _ _;repeat' first|refine gc ?_|fail
 all_goals try omega
 refine⟨.inr rfl,rfl,_,rfl,?_⟩;have hO:bj fS 1 75 K3 (.sl c 0 (gV r n).length 1 none) (gV r n) []:=.inr ⟨c,none,be,rfl,hK3,.inl rfl⟩;have:=bj.WU (f:=fS) (esz:=1) (u:=.bool true) rfl rfl (fun _=>rfl) (fun _=>rfl) (fun _=>rfl) hO;rw[sm]at this;exact this
def cT (l:List ah):Int:=fU (l.map gU)
theorem RW {l:List ah}{i:Nat}(h:i<l.length):cT (l.drop i)=if gU l[i]! = 0 then cT (l.drop (i+1)) else gU l[i]! := by
 unfold cT;rw[gT h,getElem!_pos l i h,ci,fU]
def gW (n:Nat):List (List ah)->Int
 | []=>0
 | l::r=>if l.length≠n then 2 else if cT l≠0 then cT l else gW n r
theorem RX {n:Nat}{m:List (List ah)}{i:Nat}(h:i<m.length):gW n (m.drop i)=if m[i]!.length≠n then 2 else if cT m[i]! ≠ 0 then cT m[i]! else gW n (m.drop (i+1)):=by
 rw[gT h,getElem!_pos m i h,gW]
def eM (m:List (List ah))(b:List ah):Int:=
 if m.length=0 then 12 else if 24<m.length then 5 else if gW m.length m≠0 then gW m.length m else if b.length≠m.length then 2 else cT b
def HU (l:List ah):Prop:=∀i,i<l.length->l[i]!.length<1000000
theorem w67 (hft:M.FT=FT)(c62:∀(s:ah) h,s.length<1000000->M.ext 62 [.str s] h=some ⟨.iV (gU s),h,[]⟩)(l:List ah)(hl:l.length<1000000)(hs:HU l):aV M 67 [.vs (arr fS l) l.length none] [] ⟨.iV (cT l),[],[]⟩:=by
 refine bH (by rw[hft];exact aiS) be ?_;unfold Rs;simp only[enter];repeat' first|refine gc ?_|fail
 refine W.di l.length (fun i st=>∃a3 lo wr,st=⟨⟨[.vs (arr fS l) l.length none,.iV 0,.iV i,a3],lo,[],[]⟩,wr⟩/\cT l=cT (l.drop i)) (fun i st hi ⟨a3,lo,wr,hst,he⟩=>?_) (fun st ⟨a3,lo,wr,hst,he⟩=>?_) (b7 _) ⟨_,_,_,rfl,rfl⟩
 . subst hst;rw[RW hi]at he;have q62:∀h,M.ext 62 [.str l[((i:Nat):Int).toNat]!] h=some ⟨.iV (gU l[i]!),h,[]⟩:=fun h=>c62 _ h (hs i hi)
   generalize gU l[i]! = x at he q62;unfold HG;by_cases h0:x=0
   . rw[if_pos h0]at he;subst h0;repeat' first|(apply agT (f:=fS) (c:=l);rfl;exact fun _=>rfl;omega;decide;rfl)|apply afc|apply cV|apply afl|apply afm|apply ain|apply agH|apply oI|(apply afH;rfl)|(apply ahB;rfl)|(apply abd;rfl;rfl)|(apply acr;rfl;rfl)|(apply ajM;rfl;rfl;omega)|(apply acq;rfl;rfl;first|exact q62 _)|(apply ajQ;rfl;rfl;omega)|(apply abL;rfl;rfl)|(apply afx;rfl;rfl)|(intro _;omega)|intro _
     all_goals try omega
     all_goals first|exact bW ⟨_,_,_,rfl,he⟩|infer_instance
   . rw[if_neg h0]at he;rw[he];repeat' first|(apply agT (f:=fS) (c:=l);rfl;exact fun _=>rfl;omega;decide;rfl)|apply afc|apply cV|apply afl|apply afm|apply ain|apply agR|apply agH|apply ku|apply sA|apply sB|(apply afH;rfl)|(apply abd;rfl;rfl)|(apply acr;rfl;rfl)|(apply acq;rfl;rfl;first|exact q62 _)|(apply ajQ;rfl;rfl;omega)|(apply abL;rfl;rfl)|(apply afx;rfl;rfl)|(intro _;omega)|intro _
     all_goals try omega
     all_goals first|exact⟨.inr rfl,rfl,_,rfl,rfl,rfl⟩|infer_instance
 . subst hst;have he:cT l=0:=by rw[he,fG];rfl
   rw[he];unfold HG;repeat' first|(apply abd;rfl;rfl)|refine gc ?_|(intro _;omega)|intro _
   all_goals try omega
   all_goals first|exact⟨.inr rfl,rfl,_,rfl,rfl,rfl⟩|infer_instance
theorem ajL (hft:M.FT=FT)(c84:∀(s:ah) h,s.length<1000000->M.ext 84 [.str s] h=some ⟨.iV (gU s),h,[]⟩)(l:List ah)(hl:l.length<1000000)(hs:HU l):aV M 101 [.vs (arr fS l) l.length none] [] ⟨.iV (cT l),[],[]⟩:=by
 refine bH (by rw[hft];exact ael) be ?_;unfold Oy;simp only[enter];repeat' first|refine gc ?_|fail
 refine W.di l.length (fun i st=>∃a2 a3 lo wr,st=⟨⟨[.vs (arr fS l) l.length none,.iV 0,a2,a3,.vs (arr fS l) l.length none,.iV l.length,.iV i],lo,[],[]⟩,wr⟩/\cT l=cT (l.drop i)) (fun i st hi ⟨a2,a3,lo,wr,hst,he⟩=>?_) (fun st ⟨a2,a3,lo,wr,hst,he⟩=>?_) (b7 _) ⟨_,_,_,_,rfl,rfl⟩
 . subst hst;rw[RW hi]at he;have q84:∀h,M.ext 84 [.str l[((i:Nat):Int).toNat]!] h=some ⟨.iV (gU l[i]!),h,[]⟩:=fun h=>c84 _ h (hs i hi)
   generalize gU l[i]! = x at he q84;unfold FU;by_cases h0:x=0
   . rw[if_pos h0]at he;subst h0;repeat' first|(apply agT (f:=fS) (c:=l);rfl;exact fun _=>rfl;omega;decide;rfl)|apply afc|apply cV|apply afl|apply afm|apply ain|apply agH|apply oI|(apply afH;rfl)|(apply ahB;rfl)|(apply abd;rfl;rfl)|(apply acr;rfl;rfl)|(apply ajM;rfl;rfl;omega)|(apply acq;rfl;rfl;first|exact q84 _)|(apply ajQ;rfl;rfl;omega)|(apply abL;rfl;rfl)|(apply afx;rfl;rfl)|(intro _;omega)|intro _
     all_goals try omega
     all_goals first|exact bW ⟨_,_,_,_,rfl,he⟩|infer_instance
   . rw[if_neg h0]at he;rw[he];repeat' first|(apply agT (f:=fS) (c:=l);rfl;exact fun _=>rfl;omega;decide;rfl)|apply afc|apply cV|apply afl|apply afm|apply ain|apply agR|apply agH|apply ku|apply sA|apply sB|(apply afH;rfl)|(apply abd;rfl;rfl)|(apply acr;rfl;rfl)|(apply acq;rfl;rfl;first|exact q84 _)|(apply ajQ;rfl;rfl;omega)|(apply abL;rfl;rfl)|(apply afx;rfl;rfl)|(intro _;omega)|intro _
     all_goals try omega
     all_goals first|exact⟨.inr rfl,rfl,_,rfl,rfl,rfl⟩|infer_instance
 . subst hst;have he:cT l=0:=by rw[he,fG];rfl
   rw[he];unfold FU;repeat' first|(apply abd;rfl;rfl)|refine gc ?_|(intro _;omega)|intro _
   all_goals try omega
   all_goals first|exact⟨.inr rfl,rfl,_,rfl,rfl,rfl⟩|infer_instance
theorem w29 (hft:M.FT=FT)(m:List (List ah))(b:List ah)(hm:m.length<1000000)(hb:b.length<1000000)(hl:∀i,i<m.length->m[i]!.length<1000000)(c67:∀i h,i<m.length->M.ext 67 [.vs (arr fS m[i]!) m[i]!.length none] h=some ⟨.iV (cT m[i]!),h,[]⟩)(q67:∀h,M.ext 67 [.vs (arr fS b) b.length none] h=some ⟨.iV (cT b),h,[]⟩) :
 aV M 29 [.vs (arr (bB fS) m) m.length none,.vs (arr fS b) b.length none] [] ⟨.iV (eM m b),[],[]⟩:=by
 refine bH (by rw[hft];exact aiO) be ?_;unfold Rl;simp only[enter];unfold eM;by_cases h0:m.length=0
 . rw[if_pos h0];exact gg0
 . rw[if_neg h0];by_cases h24:24<m.length
   . rw[if_pos h24];exact gg5
   . rw[if_neg h24];repeat' first|(apply aev;rfl;rfl)|(apply aeJ;rfl;rfl)|refine gc ?_|(intro _;omega)|intro _
     all_goals try omega
     refine W.di m.length (fun i st=>∃a4 lo wr,st=⟨⟨[.vs (arr (bB fS) m) m.length none,.vs (arr fS b) b.length none,.iV 0,.iV i,a4],lo,[],[]⟩,wr⟩/\gW m.length m=gW m.length (m.drop i)) (fun i st hi ⟨a4,lo,wr,hst,he⟩=>?_) (fun st ⟨a4,lo,wr,hst,he⟩=>?_) (b7 _) ⟨_,_,_,rfl,rfl⟩
     . subst hst;rw[RX hi]at he;have q67i:∀h,M.ext 67 [.vs (arr fS m[((i:Nat):Int).toNat]!) m[((i:Nat):Int).toNat]!.length none] h=some ⟨.iV (cT m[i]!),h,[]⟩:=bS;have hli:m[((i:Nat):Int).toNat]!.length<1000000:=hl i hi;generalize hr:m[i]! = row at he;have hr:m[((i:Nat):Int).toNat]! = row:=hr;rw[hr]at q67i hli;rw[show m[i]! = row from hr]at q67i;unfold HC;by_cases h1:row.length=m.length
       . rw[if_neg ac]at he;generalize cT row=x at he q67i;by_cases h2:x=0
         . rw[if_neg ac]at he;subst h2;repeat' first|(apply agT (f:=bB fS) (c:=m);rfl;exact fun _=>rfl;omega;decide;(exact congrArg (fun r=>some (AV.vs (arr fS r) r.length none)) hr))|(apply abd;rfl;rfl)|(apply acr;rfl;rfl)|refine gd0 ?_|refine gc ?_|(intro _;omega)|intro _
           all_goals try omega
           all_goals first|exact bW ⟨_,_,_,rfl,he⟩|infer_instance
         . rw[if_pos h2]at he;rw[he,if_pos h2];repeat' first|(apply agT (f:=bB fS) (c:=m);rfl;exact fun _=>rfl;omega;decide;(exact congrArg (fun r=>some (AV.vs (arr fS r) r.length none)) hr))|(apply abd;rfl;rfl)|(apply acr;rfl;rfl)|refine gd0 ?_|refine gc ?_|(intro _;omega)|intro _
           all_goals try omega
           all_goals first|exact⟨.inr rfl,rfl,_,rfl,rfl,rfl⟩|infer_instance
       . rw[if_pos ac]at he;rw[he,if_pos am];repeat' first|(apply agT (f:=bB fS) (c:=m);rfl;exact fun _=>rfl;omega;decide;(exact congrArg (fun r=>some (AV.vs (arr fS r) r.length none)) hr))|(apply abd;rfl;rfl)|(apply acr;rfl;rfl)|refine gc ?_|(intro _;omega)|intro _
         all_goals try omega
         all_goals first|exact⟨.inr rfl,rfl,_,rfl,rfl,rfl⟩|infer_instance
     . subst hst;have he:gW m.length m=0:=by rw[he,fG];rfl
       rw[he,if_neg am];unfold HC;by_cases hbm:b.length=m.length
       . rw[if_neg ac];generalize cT b=x at q67;repeat' first|(apply abd;rfl;rfl)|(apply acr;rfl;rfl)|refine gd0 ?_|refine gc ?_|(intro _;omega)|intro _
         all_goals try omega
         all_goals first|exact⟨.inr rfl,rfl,_,rfl,rfl,rfl⟩|infer_instance
       . rw[if_pos hbm];repeat' first|(apply abd;rfl;rfl)|(apply acr;rfl;rfl)|refine gc ?_|(intro _;omega)|intro _
         all_goals try omega
         all_goals first|exact⟨.inr rfl,rfl,_,rfl,rfl,rfl⟩|infer_instance
def mf (z:Int):Bool:=decide (600<(aS (aj z).toNat).length)
def iD (q:Rat):Bool:=decide (600<(aS (aj q.num).toNat).length) || decide (600<(aS q.den).length)
theorem ajO (hft:M.FT=FT){q:Rat}(q142:∀h,M.ext 142 [.str (ao q)] h=some ⟨.str (ao (q.num:Rat)),h,[]⟩)(q56:∀h,M.ext 56 [.str (ao (q.num:Rat))] h=some ⟨.str (ao (if q.num<0 then -(q.num:Rat) else (q.num:Rat))),h,[]⟩)(q143:∀h,M.ext 143 [.str (ao q)] h=some ⟨.str (aS q.den),h,[]⟩):aV M 108 [.str (ao q)] [] ⟨.iV (if iD q then 4 else 0),[],[]⟩:=by
 have e:ao (if q.num<0 then -(q.num:Rat) else (q.num:Rat))=aS (aj q.num).toNat:=by
  unfold aj;split
  . rw[show -(q.num:Rat)=((-q.num:Int):Rat) by simp,sd,Hd ac]
  . rw[sd,Hd ac]
 rw[e]at q56;unfold iD;generalize aS q.den=d at *
 generalize aS (aj q.num).toNat=n at *
 refine bH (by rw[hft];exact ahL) be ?_;unfold QA;simp only[enter];by_cases h1:600<n.length
 . rw[decide_eq_true h1,f9,if_pos rfl];exact gg1
 . rw[decide_eq_false h1,i5];by_cases h2:600<d.length
   . rw[decide_eq_true h2,if_pos rfl];exact gg1
   . rw[decide_eq_false h2,if_neg am];exact gg1
def gY (f:Nat->Rat)(n i:Nat):Bool:=(List.range' i (n-i)).any fun a=>iD (f a)
theorem RY {f:Nat->Rat}{n:Nat}:gY f n n=false:=by unfold gY;simp
theorem RZ {f:Nat->Rat}{n i:Nat}(h:i<n):gY f n i=(iD (f i) || gY f n (i+1)):=by
 unfold gY;grind
theorem w32 (hft:M.FT=FT){l:List ah}{f:Nat->Rat}{n:Nat}(hl:l.length=n)(hn:n<1000000)(hf:∀i,i<n->l[i]! = ao (f i))(c108:∀i h,i<n->M.ext 108 [.str (ao (f i))] h=some ⟨.iV (if iD (f i) then 4 else 0),h,[]⟩):aV M 32 [.vs (arr fS l) n none] [] ⟨.iV (if gY f n 0 then 4 else 0),[],[]⟩:=by
 refine bH (by rw[hft];exact aiP) be ?_;unfold Ro;simp only[enter];repeat' first|refine gc ?_|fail
 refine W.di n (fun i st=>∃lo wr,st=⟨⟨[.vs (arr fS l) n none,.iV 0,.iV i],lo,[],[]⟩,wr⟩/\gY f n 0=gY f n i) (fun i st hi ⟨lo,wr,hst,he⟩=>?_) (fun st ⟨lo,wr,hst,he⟩=>?_) (b7 _) ⟨_,_,rfl,rfl⟩
 . subst hst;rw[RZ hi]at he;have hi':l[((i:Nat):Int).toNat]! = ao (f i):=hf i hi;have q108:=fun h=>c108 i h hi
   unfold HE;cases hg:iD (f i) with
   | true=>
    rw[hg,f9]at he;rw[he,if_pos rfl];rw[hg,if_pos rfl]at q108;repeat' first|(apply agT (f:=fS) (c:=l);rfl;exact fun _=>rfl;omega;decide;(exact congrArg (fun s=>some (AV.str s)) hi'))|apply afc|apply cV|apply afl|apply afm|apply ain|apply agR|apply agH|apply ku|apply sA|apply sB|(apply afH;rfl)|(apply abd;rfl;rfl)|(apply acr;rfl;rfl)|(apply acq;rfl;rfl;first|exact q108 _)|(apply ajQ;rfl;rfl;omega)|(apply abL;rfl;rfl)|(apply afx;rfl;rfl)|(intro _;omega)|intro _
    all_goals try omega
    all_goals first|exact⟨.inr rfl,rfl,_,rfl,rfl,rfl⟩|infer_instance
   | false=>
    rw[hg,i5]at he;rw[hg,if_neg am]at q108;repeat' first|(apply agT (f:=fS) (c:=l);rfl;exact fun _=>rfl;omega;decide;(exact congrArg (fun s=>some (AV.str s)) hi'))|apply afc|apply cV|apply afl|apply afm|apply ain|apply agH|apply oI|(apply afH;rfl)|(apply ahB;rfl)|(apply abd;rfl;rfl)|(apply acr;rfl;rfl)|(apply ajM;rfl;rfl;omega)|(apply acq;rfl;rfl;first|exact q108 _)|(apply ajQ;rfl;rfl;omega)|(apply abL;rfl;rfl)|(apply afx;rfl;rfl)|(intro _;omega)|intro _
    all_goals try omega
    all_goals first|exact bW ⟨_,_,rfl,he⟩|infer_instance
 . subst hst;rw[RY]at he;rw[he,if_neg am];unfold HE;repeat' first|(apply abd;rfl;rfl)|refine gc ?_|(intro _;omega)|intro _
   all_goals try omega
   all_goals first|exact⟨.inr rfl,rfl,_,rfl,rfl,rfl⟩|infer_instance
theorem w33 (hft:M.FT=FT){l:List ah}{n:Nat}(hl:l.length=n)(hn:n<1000000):aV M 33 [.vs (arr fS l) n none,.vs (arr fS l) n none] [] ⟨.bool true,[],[]⟩:=by
 refine bH (by rw[hft];exact aiQ) be ?_;unfold Rq;simp only[enter];refine gg8 ?_;refine W.di n (fun i st=>∃lo wr,st=⟨⟨[.vs (arr fS l) n none,.vs (arr fS l) n none,.bool false,.iV i],lo,[],[]⟩,wr⟩) (fun i st hi ⟨lo,wr,hst⟩=>?_) (fun st ⟨lo,wr,hst⟩=>?_) (b7 _) ⟨_,_,rfl⟩
 . subst hst;unfold HF;repeat' first|refine gd17 ?_|(apply abd;rfl;rfl)|(apply ajA;rfl;rfl;all_goals first|(intro h;exact absurd h am)|(intro h;exact absurd rfl h)|(intro h;contradiction)|intro _)|refine gc ?_|(intro _;omega)|intro _
   all_goals try omega
   all_goals first|exact bW ⟨_,_,rfl⟩|infer_instance
 . subst hst;unfold HF;repeat' first|(apply abd;rfl;rfl)|refine gc ?_|(intro _;omega)|intro _
   all_goals try omega
   all_goals first|exact⟨.inr rfl,rfl,_,rfl,rfl,rfl⟩|infer_instance
def jz (k:Nat)(l:List ah):Bool:=decide (l.length<=k) && l.all fun s=>decide (s.length<=k)
theorem ajR {k:Nat}{l:List ah}{i:Nat}(hi:i<l.length)(h:k<l[i]!.length):jz k l=false:=by
 unfold jz;grind
theorem ajS {k:Nat}{l:List ah}(hl:l.length<=k)(h:∀i,i<l.length->l[i]!.length<=k):jz k l=true:=by
 unfold jz;rw[jD,List.all_eq_true];refine⟨decide_eq_true hl,fun s hs=>?_⟩;obtain⟨i,hi,rfl⟩:=d6.1 hs;grind
theorem ajT {k:Nat}{l:List ah}(h:jz k l=true):l.length<=k/\∀i,i<l.length->l[i]!.length<=k:=by
 unfold jz at h;grind
theorem w28 (hft:M.FT=FT)(l:List ah)(k:Nat)(hk:k<1000000):aV M 28 [.vs (arr fS l) l.length none,.iV k] [] ⟨.bool (jz k l),[],[]⟩:=by
 refine bH (by rw[hft];exact aiN) be ?_;unfold Rk;simp only[enter];by_cases h1:l.length<=k
 . refine gg6 ?_;refine W.di l.length (fun i st=>∃lo wr,st=⟨⟨[.vs (arr fS l) l.length none,.iV k,.bool false,.iV i],lo,[],[]⟩,wr⟩/\∀j,j<i->l[j]!.length<=k) (fun i st hi ⟨lo,wr,hst,he⟩=>?_) (fun st ⟨lo,wr,hst,he⟩=>?_) (b7 _) ⟨_,_,rfl,fun j hj=>ac⟩
   . subst hst;by_cases h2:l[((i:Nat):Int).toNat]!.length<=k
     . have ha:∀j,j<i+1->l[j]!.length<=k:=bS;unfold AW;repeat' first|refine gd17 ?_|(apply abd;rfl;rfl)|(apply aev;rfl;rfl)|refine gc ?_|(intro _;omega)|intro _
       all_goals try omega
       all_goals first|exact bW ⟨_,_,rfl,ha⟩|infer_instance
     . rw[ajR hi bS];unfold AW;repeat' first|refine gd17 ?_|(apply abd;rfl;rfl)|(apply aev;rfl;rfl)|refine gc ?_|(intro _;omega)|intro _
       all_goals try omega
       all_goals first|exact⟨.inr rfl,rfl,_,rfl,rfl,rfl⟩|infer_instance
   . subst hst;rw[ajS h1 he];unfold AW;repeat' first|(apply abd;rfl;rfl)|refine gc ?_|(intro _;omega)|intro _
     all_goals try omega
     all_goals first|exact⟨.inr rfl,rfl,_,rfl,rfl,rfl⟩|infer_instance
 . rw[show jz k l=false by unfold jz;grind];repeat' first|(apply aev;rfl;rfl)|refine gc ?_|(intro _;omega)|intro _
   all_goals try omega
   all_goals first|exact⟨.inr rfl,rfl,_,rfl,rfl,rfl⟩|infer_instance
theorem ajV (hft:M.FT=FT){x y:AV}{n k:Nat}{c:List AV}(hx:x = .vs c n none)(hk:k<n)(hn:n<1000000)(q106:∀h,M.ext 106 [x] h=some ⟨.iV k,h,[]⟩):aV M 31 [x,y] [] ⟨.au [.ab,.bool false],[],[]⟩:=by
 subst hx;refine bH (by rw[hft];exact Rm) be ?_;unfold HD;simp only[enter];exact gg0
theorem ajW (hft:M.FT=FT){x y z:AV}{n:Nat}{c:List AV}(hx:x = .vs c n none)(hn:n<1000000)(hz:z.top=0)(q106:∀h,M.ext 106 [x] h=some ⟨.iV n,h,[]⟩)(q107:∀h,M.ext 107 [x,y] h=some ⟨.au [z,.bool true],h,[]⟩):aV M 31 [x,y] [] ⟨.au [z,.bool true],[],[]⟩:=by
 subst hx;refine bH (by rw[hft];exact Rm) be ?_;unfold HD;simp only[enter];exact gg0
theorem ajX (z:Int):bN 45 (bM z)=aS (aj z).toNat:=by
 have h:=(qj (z:Rat)).2;rw[sd,Rat.num_intCast,Rat.den_intCast,if_pos rfl]at h;exact h
theorem ajY {x:Int}{n:Nat}(h0:0<=x)(h:cj x<=n):x<2^n:=by
 rcases Int.lt_or_eq_of_le h0 with hp|hp
 . have h1:=(pM hp).2.2;exact i9 h1 (gS am h)
 . rw[←hp];exact Int.pow_pos am
theorem ajZ:(2:Int)^1800<=10^600:=by
 rw[show (1800:Nat)=3*600 from rfl,Int.pow_mul];have:∀n:Nat,((2:Int)^3)^n<=10^n:=fun n=>by
  induction n with
  | zero=>decide
  | succ n ih=>
   rw[Int.pow_succ,Int.pow_succ];exact Int.le_trans (Int.mul_le_mul_of_nonneg_right ih am) (Int.mul_le_mul_of_nonneg_left (show (2:Int)^3<=10 by decide) (Int.le_of_lt (qh n)))
 exact this 600
theorem aka {z:Int}(h:cj (aj z)<=1800):mf z=false:=by
 have h1:=ajY ju h;have h2:=zU (z:=z) (k:=600) am (i9 h1 ajZ);exact decide_eq_false ac
theorem akb (hft:M.FT=FT){v:AV}{z:Int}(hv:ax v z)(hl:cj (aj z)<1000000000)(c262:∀h,M.ext 262 [v] h=some ⟨.iV (cj (aj z)),h,[]⟩)(c224:∀h,M.ext 224 [v] h=some ⟨.str (bM z),h,[]⟩)(FM:∀h,M.ext 213 [.str (bM z),.str [45]] h=some ⟨.str (aS (aj z).toNat),h,[]⟩):aV M 223 [v] [] ⟨.bool (mf z),[],[]⟩:=by
 have hs:=aka (z:=z);obtain⟨s,w,rfl,o,_⟩:=hv.shape;obtain⟨k,hk⟩:∃k,k=cj (aj z):=⟨_,rfl⟩;rw[←hk]at hs c262 hl;unfold mf at hs ⊢;generalize aS (aj z).toNat=t at *
 generalize bM z=u at *
 refine bH (by rw[hft];exact acS) be ?_;unfold Nu;simp only[enter];by_cases h1:k<=1800
 . rw[hs h1];exact gg1
 . by_cases h2:600<t.length
   . rw[decide_eq_true h2];exact gg1
   . rw[decide_eq_false h2];exact gg1
theorem akc (q:Rat):iD q=(mf q.num || mf q.den):=by
 unfold iD mf;rw[cH (x:=(q.den:Int)) ac,Int.toNat_natCast]
theorem akd (hft:M.FT=FT){v:AV}{q:Rat}(hv:br v q)(c223:∀v z h,ax v z->(z=q.num\/z=q.den)->M.ext 223 [v] h=some ⟨.bool (mf z),h,[]⟩):aV M 175 [v] [] ⟨.bool (iD q),[],[]⟩:=by
 rw[akc];obtain⟨s1,w1,s2,w2,rfl,h1,h2⟩:=hv;have qa:=fun h=>c223 _ _ h h1 (.inl rfl)
 have qb:=fun h=>c223 _ _ h h2 (.inr rfl)
 refine bH (by rw[hft];exact acU) be ?_;unfold Nw;simp only[enter];generalize mf q.num=x at *
 generalize mf q.den=y at *
 cases x
 . rw[i5];repeat' first|apply afc|apply cV|apply afl|apply afm|apply agR|(apply ajK;rfl)|(apply ahX;rfl;rfl)|(apply acq;rfl;rfl;first|exact qa _|exact qb _)|(apply afC;rfl;rfl;rfl)|(apply aiq;rfl;rfl;rfl)|(apply abL;rfl;rfl)|(apply afx;rfl;rfl)
   all_goals exact⟨.inr rfl,rfl,_,rfl,rfl,rfl⟩
 . rw[f9];repeat' first|apply afc|apply cV|apply afl|apply afm|apply agR|(apply alM;rfl)|(apply ahR;rfl;rfl)|(apply acq;rfl;rfl;first|exact qa _|exact qb _)|(apply afC;rfl;rfl;rfl)|(apply aiq;rfl;rfl;rfl)|(apply abL;rfl;rfl)|(apply afx;rfl;rfl)
   all_goals exact⟨.inr rfl,rfl,_,rfl,rfl,rfl⟩
theorem ake (hft:M.FT=FT){v:AV}{q:Rat}(hv:br v q)(q175:∀h,M.ext 175 [v] h=some ⟨.bool (iD q),h,[]⟩)(q176:∀h,M.ext 176 [v] h=some ⟨.str (ao q),h,[]⟩):aV M 105 [v] [] ⟨.au (if iD q then [.str [],.iV 4] else [.str (ao q),.iV 0]),[],[]⟩:=by
 obtain⟨s1,w1,s2,w2,rfl,h1,h2⟩:=hv;refine bH (by rw[hft];exact aem) be ?_;unfold Oz;simp only[enter];generalize iD q=x at *
 cases x
 . rw[if_neg am];exact gg0
 . rw[if_pos rfl];exact gg0
def HV:FC:=((0,none),(0,none))
def iN (K0 K:aa):Prop:=K0.length<=K.length/\∀x v,x<K0.length->K0.at x=some v->K.at x=some v
theorem iN.trans {K L J:aa}(h:iN K L)(h':iN L J):iN K J:=⟨Nat.le_trans h.1 h'.1,fun x v hx hv=>h'.2 x v (Nat.lt_of_lt_of_le hx h.1) (h.2 x v hx hv)⟩
theorem iN.app {K J:aa}:iN K (K++J):=⟨by rw[b6];omega,fun _ _ _ h=>cE h⟩
theorem iN.put {K0 K:aa}{c:Nat}{o:Option ba}(h:iN K0 K)(hc:K0.length<=c):iN K0 (K.put c o):=⟨by rw[dQ];exact h.1,fun x v hx hv=>by rw[mO ac];exact h.2 x v hx hv⟩
structure Sa (M:aw):Prop where
 ft:M.FT=FT
 vB:∀q:Rat,Dq 60 q->∃v0,br v0 q/\∀h,M.ext 103 [.str (ao q)] h=some ⟨v0,h,[]⟩
theorem akf (C:Sa M){l:List ah}{n:Nat}{q:Nat->Rat}(hl:l.length=n)(hn:n<1000000)(h0:0<n)(hq:jl n l q)(dq:∀k,k<n->Dq 60 (q k))(K0:aa) :
 fJ M 102 [.vs (arr fS l) n none] K0 (fun r=>∃c A,r.v = .sl c 0 n 4 (some n)/\r.h.at c=some (.cells (arr cF A) 133)/\A.length=n/\jb n A q/\K0.length<=c/\iN K0 r.h):=by
 refine fJ.mz (by rw[C.ft];exact acW) be ?_;unfold Nz;simp only[enter];refine gg20 ?_;have e0:fl [AV.iV 0,.ab,.iV 0,.ab] ((n:Nat):Int).toNat=arr cF (d7 n HV):=Dl (f:=cF) HV n;rw[e0];refine W.di n (fun i st=>∃K A a3 a4 lo wr,st=⟨⟨[.vs (arr fS l) n none,.ab,.sl K0.length 0 n 4 (some n),a3,a4,.vs (arr fS l) n none,.iV n,.iV i],lo,K,[]⟩,wr⟩/\K.at K0.length=some (.cells (arr cF A) 133)/\A.length=n/\iN K0 K/\∀j,j<i->br (.agg (cF A[j]!)) (q j))
  (fun i st hi ⟨K,A,a3,a4,lo,wr,hst,hK,hA,hO,hI⟩=>?_) (fun st ⟨K,A,a3,a4,lo,wr,hst,hK,hA,hO,hI⟩=>?_) (b7 _) ⟨_,d7 n HV,_,_,_,_,rfl,cC,b9 ..,.app,fun j hj=>absurd hj (j2 j)⟩
 . subst hst;obtain⟨v0,f0,q103⟩:=C.vB (q i) (dq i hi);obtain⟨c0,rfl⟩:=f0.fc;have hi':l[((i:Nat):Int).toNat]! = ao (q i):=hq i hi;have next:∀(Q:Ex->aq->Prop) a3 a4 lo wr,LI (fun st=>∃K A a3 a4 lo wr,st=⟨⟨[.vs (arr fS l) n none,.ab,.sl K0.length 0 n 4 (some n),a3,a4,.vs (arr fS l) n none,.iV n,.iV ((i+1:Nat):Int)],lo,K,[]⟩,wr⟩/\K.at K0.length=some (.cells (arr cF A) 133)/\A.length=n/\iN K0 K/\∀j,j<i+1->br (.agg (cF A[j]!)) (q j)) Q .normal
    ⟨⟨[.vs (arr fS l) n none,.ab,.sl K0.length 0 n 4 (some n),a3,a4,.vs (arr fS l) n none,.iV n,.iV ((i:Int)+1)],lo,K.put K0.length (some (.cells (arr cF (A.set ((i:Nat):Int).toNat c0)) 133)),[]⟩,wr⟩:=fun Q a3 a4 lo wr=>
    bW ⟨_,A.set i c0,a3,a4,lo,wr,rfl,eu (cJ hK),by rw[b5];exact hA,hO.put (c9 _),fun j hj=>by
     rw[gp ac];by_cases ej:i=j
     . subst ej;rw[if_pos rfl];exact f0
     . rw[if_neg ej];exact hI j ac⟩
   unfold FD;repeat' first|(apply agT (f:=fS) (c:=l);rfl;exact fun _=>rfl;omega;decide;(exact congrArg (fun s=>some (AV.str s)) hi'))|(apply ais (f:=cF) (c:=A) (a:=c0) (e:=133);rfl;rfl;exact hK;exact fun _=>rfl;omega;exact⟨rfl,am,sE c0⟩;rfl)|(apply abd;rfl;rfl)|refine gd0 ?_|refine gc ?_|(intro _;omega)|intro _
   all_goals try omega
   all_goals first|exact next _ _ _ _ _|infer_instance
 . subst hst;unfold FD;refine gg4 ?_;refine⟨.inr rfl,_,rfl,_,rfl,K0.length,A,vw,?_,hA,hI,c9 _,?_⟩
   . refine HP (P:=fun h=>aa.at h K0.length=some (.cells (arr cF A) 133)) ?_ hK;simp[aW,AV.top]
   . refine HP (P:=fun h=>iN K0 h) ?_ hO;simp[aW,AV.top]
structure mQ (M:aw):Prop extends qu M where
 lj:∀t e h,M.ext 97 [.bool t,.iV e] h=some ⟨.iV (if t then e else 0),h,[]⟩
 iZ:∀v h l,gg h v=some l->l.length<1000->M.ext 96 [v] h=some ⟨.iV (fU l),h,[]⟩
 Bp:∀(l:List ah) h,l.length<1000000->HU l->M.ext 101 [.vs (arr fS l) l.length none] h=some ⟨.iV (cT l),h,[]⟩
 vB:∀q:Rat,Dq 60 q->∃v0,br v0 q/\∀h,M.ext 103 [.str (ao q)] h=some ⟨v0,h,[]⟩
 Sb:∀a h,M.ext 102 a h=none
 Sc:∀a h,M.ext 104 a h=none
 Sd:∀v q,br v q->Dq 10000 q->∀h,M.ext 105 [v] h=some ⟨.au (if iD q then [.str [],.iV 4] else [.str (ao q),.iV 0]),h,[]⟩
theorem mQ.fa (C:mQ M):Sa M:=⟨C.ft,C.vB⟩
def Small (l:List ah):Prop:=l.length<=8/\∀i,i<l.length->l[i]!.length<=8
theorem Se {l:List ah}(h:cT l=0){i:Nat}(hi:i<l.length):gU l[i]! = 0:=by
 unfold cT at h;induction l generalizing i with
 | nil=>simp at hi
 | cons a l ih=>
  rw[ci,fU]at h;grind
theorem qx {l:List ah}{n:Nat}(h:cT l=0)(hn:l.length=n)(hs:Small l):jl n l (fun k=>kX l[k]!)/\∀k,k<n->Dq 8 (kX l[k]!):=
 ⟨fun k hk=>(Rj (Se h ac) (hs.2 k ac)).1,fun k hk=>(Rj (Se h ac) (hs.2 k ac)).2⟩
theorem oy (a x:Int):fU [a,x]=if a≠0 then a else x:=by
 unfold fU;by_cases h:a=0
 . rw[if_pos h,if_neg ac];simp only[fU];omega
 omega
theorem BI {K:aa}{a x:Int}{e:TypeId}{cp:Option Nat}:gg (K++[some (.cells [.iV a,.iV x] e)]) (.sl K.length 0 2 1 cp)=some [a,x]:=by
 simp only[gg,xr,dV,cC];rfl
theorem akg (n:Nat)(a:Nat×Option Nat):(cw 4 n a).all cI=true:=rfl
theorem gr.Br {α:Type}[Inhabited α]{f:α->List AV}{w:Nat}{e:TypeId}{K H:aa}{rs:List (Nat×Option Nat)}{C:List (List α)}(h:gr f w e K rs C)(hO:iN K H):gr f w e H rs C:=
 h.cd fun x v hx hv=>hO.2 x v (cJ hv) hv
theorem bj.Br {α:Type}{f:α->List AV}{esz:Nat}{e:TypeId}{K H:aa}{o:AV}{acc:List α}{S:List Nat}(h:bj f esz e K o acc S)(hO:iN K H):bj f esz e H o acc S:=
 h.cd (fun b x hb hx=>hO.2 b x (cJ hx) hx) be
theorem Sf (C:mQ M){m:List (List ah)}{b:AV}{n:Nat}(hm:m.length=n)(hn:n<=24)(hn0:0<n)(hS:∀i,i<n->Small m[i]!)
 {Q:Ex->aq->Prop}
 (hE:gW n m≠0->∀K p0 p1 p4 p5 p6 p7 p8 p9 p10 p11 p12 p13 p14 p15 p16 p17 p18 p19 p20 p21 p22 lo wr,Q .ret ⟨⟨[p0,p1,.ab,.iV (gW n m),p4,p5,p6,p7,p8,p9,p10,p11,p12,p13,p14,p15,p16,p17,p18,p19,p20,p21,p22],lo,K,[]⟩,wr⟩)
 (hQ:gW n m=0->(∀i,i<n->m[i]!.length=n/\cT m[i]! = 0)->∀K rs A o p7 p8 lo wr,gr cF n 133 K rs A->A.length=n->gK n n A (fun i k=>kX (m[i]!)[k]!)->bj (cw 4 n) 1 127 K o rs (rs.map (·.1))->(∀r∈rs,r.2=some n)->Q (.exit 0) ⟨⟨[.vs (arr (bB fS) m) n none,b,.ab,.iV 0,.iV n,.iV 0,o,p7,p8,bD,bD,bD,bD,bD,bD,.vs (arr (bB fS) m) n none,.iV n,.iV n,bD,bD,bD,bD,bD],lo,K,[]⟩,wr⟩)
 (K0:aa) (p7 p8:AV) (lo:List (Nat×AV)) (wr:List Nat) :
 W M (.loop Bk) ⟨⟨[.vs (arr (bB fS) m) n none,b,.ab,.iV 0,.iV n,.iV 0,.ab,p7,p8,bD,bD,bD,bD,bD,bD,.vs (arr (bB fS) m) n none,.iV n,.iV 0,bD,bD,bD,bD,bD],lo,K0,[]⟩,wr⟩ Q:=by
 refine W.di n (fun i st=>∃K rs A o p7 p8 lo wr,st=⟨⟨[.vs (arr (bB fS) m) n none,b,.ab,.iV 0,.iV n,.iV 0,o,p7,p8,bD,bD,bD,bD,bD,bD,.vs (arr (bB fS) m) n none,.iV n,.iV i,bD,bD,bD,bD,bD],lo,K,[]⟩,wr⟩/\gW n m=gW n (m.drop i)/\(∀j,j<i->m[j]!.length=n/\cT m[j]! = 0)/\gr cF n 133 K rs A/\A.length=i/\(∀j,j<i->jb n A[j]! (fun k=>kX (m[j]!)[k]!))/\bj (cw 4 n) 1 127 K o rs (rs.map (·.1))/\(∀r∈rs,r.2=some n)/\∀x∈rs.map (·.1),x<K.length)
  (fun i st hi ⟨K,rs,A,o,p7,p8,lo,wr,hst,he,hg,hR,hA,hH,hO,hc,hlt⟩=>?_) (fun st ⟨K,rs,A,o,p7,p8,lo,wr,hst,he,hg,hR,hA,hH,hO,hc,hlt⟩=>?_) (b7 _) ⟨K0,[],[],.ab,p7,p8,lo,wr,rfl,rfl,fun j hj=>ac,.nil,rfl,fun j hj=>ac,.jL,fun r hr=>bS,be⟩
 . subst hst;rw[RX ac]at he;have hs:=hS i hi;have q101:∀h,M.ext 101 [.vs (arr fS m[((i:Nat):Int).toNat]!) m[((i:Nat):Int).toNat]!.length none] h=some ⟨.iV (cT m[i]!),h,[]⟩:=fun h=>C.Bp _ h (by have:m[((i:Nat):Int).toNat]!.length<=8:=hs.1;omega) (fun k hk=>by have:(m[((i:Nat):Int).toNat]!)[k]!.length<=8:=hs.2 k hk;omega)
   generalize hr:m[i]! = row at he hs q101;have hr':m[((i:Nat):Int).toNat]! = row:=hr;rw[hr']at q101;unfold Bk;by_cases h1:row.length=n
   . rw[if_neg ac]at he;by_cases h2:cT row=0
     . rw[if_neg ac]at he;rw[h2]at q101;have q96:∀v h,gg h v=some [if false=true then 2 else 0,0]->M.ext 96 [v] h=some ⟨.iV 0,h,[]⟩:=fun v h hi=>C.iZ v h _ hi be
       repeat' first|(apply agT (f:=bB fS) (c:=m);rfl;exact fun _=>rfl;omega;decide;(exact congrArg (fun r=>some (AV.vs (arr fS r) r.length none)) hr'))|(apply abd;rfl;rfl)|(apply acr;rfl;rfl)|refine gd25 ?_|refine gc ?_|(intro _;omega)|intro _
       all_goals try omega
       all_goals try infer_instance
       rw[h1];have hK1:iN K (K++[some (ba.cells (overwrite (overwrite (fl [AV.int IntKind.i64 0] 2) 0 [AV.int IntKind.i64 (if false=true then 2 else 0)]) 1 [AV.int IntKind.i64 0]) 25)]):=.app;have hl1:K.length<((K++[some (ba.cells (overwrite (overwrite (fl [AV.int IntKind.i64 0] 2) 0 [AV.int IntKind.i64 (if false=true then 2 else 0)]) 1 [AV.int IntKind.i64 0]) 25)])).length:=by simp
       generalize (K++[some (ba.cells (overwrite (overwrite (fl [AV.int IntKind.i64 0] 2) 0 [AV.int IntKind.i64 (if false=true then 2 else 0)]) 1 [AV.int IntKind.i64 0]) 25)])=K1 at *
       obtain⟨hH0,hD0⟩:=qx h2 h1 hs;obtain⟨⟨v,K2,wr2⟩,hr2,c,A2,hv,hc2,hA2,hH2,hcK,hO2⟩:=(akf C.fa h1 ac hn0 hH0 (fun k hk=>(hD0 k hk).mono am) K1).out;have hv:v = .sl c 0 n 4 (some n):=hv;subst hv;have ct:CT M (.fn (.func 102) [] []) [.vs (arr fS row) n none] K1 ⟨.sl c 0 n 4 (some n),K2,wr2⟩:=CT.run (C.Sb _ _) hr2;have hO12:iN K K2:=hK1.trans hO2;have hcn:∀x,x<K.length->x≠c:=ac;have hR2:gr cF n 133 K2 (rs++[(c,some n)]) (A++[A2]):=(hR.Br hO12).snoc hc2 hA2 bS;have hOx:bj (cw 4 n) 1 127 K2 o rs ((rs++[(c,some n)]).map (·.1)):=(bj.Br hO hO12).cd be (fun b hb hn' hh=>by
        rw[dO,c7]at hh;rcases hh with hh|hh
        . grind
        . rw[ci,f7,c3]at hh;exact hcn b (hO.lt b hb) hh)
       have hlt2:∀x∈(rs++[(c,some n)]).map (·.1),x<K2.length:=fun x hx=>by
        rw[dO,c7]at hx;rcases hx with hx|hx
        . have:=hlt x hx;have:=hO12.1;omega
        . rw[ci,f7,c3]at hx;subst hx;exact cJ hc2
       have hlt3:∀x∈(rs++[(c,some n)]).map (·.1),x<(K2++[some (ba.cells [AV.sl c 0 n 4 (some n)] 127)]).length:=bS;have hrl:rs.length=i:=by rw[hR.len,hA]
       have hroom:(rs.length+1)*24<=cz:=by unfold cz;omega
       repeat' first|(refine bj.app (f:=cw 4 n) (m:=[(c,some n)]) (S:=(rs++[(c,some n)]).map (·.1)) (fun _=>rfl) (akg n) am (hOx.grow [_]) hlt3 rfl rfl (Sl.gN (f:=cw 4 n) (esz:=1) (l:=[(c,some n)]) (e:=127) (fun _=>rfl) cC rfl) hroom (fun H3 w3 o3 ho3 hk3 hlen3=>?_))|(apply afJ;rfl;rfl;first|exact ct)|refine gc ?_|fail
       all_goals try omega
       all_goals try infer_instance
       rw[b6]at hlen3;have hg':∀j,j<i+1->m[j]!.length=n/\cT m[j]! = 0:=bS;have hH':∀j,j<i+1->jb n (A++[A2])[j]! (fun k=>kX (m[j]!)[k]!):=fun j hj=>by
        rcases Nat.lt_or_eq_of_le (Nat.le_of_lt_succ hj) with h|h
        . rw[ox ac];exact hH j h
        . subst h;rw[←hA,HO,hA,hr];exact hH2
       all_goals exact bW ⟨H3,rs++[(c,some n)],A++[A2],o3,_,_,_,_,rfl,he,hg',hR2.cd (fun x v hx hv=>hk3 x v hx (cE hv)),bS,hH',ho3,fun r hr=>by
        grind,fun x hx=>by grind⟩
     . rw[if_pos h2]at he;have q96:∀v h,gg h v=some [if false=true then 2 else 0,cT row]->M.ext 96 [v] h=some ⟨.iV (cT row),h,[]⟩:=fun v h hi=>by
        rw[C.iZ v h _ hi be,oy];rfl
       rw[he]at hE;have hE:=hE h2;generalize cT row=x at *
       repeat' first|(apply agT (f:=bB fS) (c:=m);rfl;exact fun _=>rfl;omega;decide;(exact congrArg (fun r=>some (AV.vs (arr fS r) r.length none)) hr'))|(apply abd;rfl;rfl)|(apply acr;rfl;rfl)|refine gd25 ?_|refine gc ?_|(intro _;omega)|intro _
       all_goals try omega
       all_goals first|exact hE _ _ _ _ _ _ _ _ _ _ _ _ _ _ _ _ _ _ _ _ _ _ _ _|infer_instance
   . rw[if_pos h1]at he;have q96:∀v h,gg h v=some [if true=true then 2 else 0,cT row]->M.ext 96 [v] h=some ⟨.iV 2,h,[]⟩:=fun v h hi=>by
      rw[C.iZ v h _ hi be,oy];rfl
     rw[he]at hE;have hE:=hE am;repeat' first|(apply agT (f:=bB fS) (c:=m);rfl;exact fun _=>rfl;omega;decide;(exact congrArg (fun r=>some (AV.vs (arr fS r) r.length none)) hr'))|(apply abd;rfl;rfl)|(apply acr;rfl;rfl)|refine gd25 ?_|refine gc ?_|(intro _;omega)|intro _
     all_goals try omega
     all_goals first|exact hE _ _ _ _ _ _ _ _ _ _ _ _ _ _ _ _ _ _ _ _ _ _ _ _|infer_instance
 . subst hst;have he:gW n m=0:=by rw[he,←hm,fG];rfl
   unfold Bk;repeat' first|(apply abd;rfl;rfl)|refine gc ?_|(intro _;omega)|intro _
   all_goals try omega
   all_goals first|exact hQ he hg K rs A o _ _ _ _ hR hA hH hO hc|infer_instance
abbrev f3 (r:Nat×Nat×Option Nat):List AV:=[.sl r.1 0 r.2.1 4 r.2.2]
theorem WO.akh {t n c d:Nat}{l:List aX}{pe:List AV}{lo:List (Nat×AV)}{hp:aa}{df wr:List Nat}{x y:ay}{cp:Option Nat}{A:List FC}{z:FC}{Q:aq->Prop}(ha:(St.mk pe lo hp df).ae x=some (.sl c 0 n 4 (some n)))(hb:(St.mk pe lo hp df).ae y=some (.sl d 0 1 4 cp))(hc:hp.at c=some (.cells (arr cF A) 133))(hd:hp.at d=some (.cells (cF z) 133))(hA:A.length=n)(hn:n<1000000)
 (h:WO M l ⟨⟨pe,(t,.sl hp.length 0 (n+1) 4 none)::lo,hp++[some (.cells (arr cF (A++[z])) 133)],df⟩,wr⟩ Q):WO M (⟨.l t,.append 133 4 64 x y,none⟩::l) ⟨⟨pe,lo,hp,df⟩,wr⟩ Q:=by
 have hs:dV hp (.sl d 0 1 4 cp)=some (cF z,1):=by
  simp only[dV,hd];rfl
 have hcut:cut (arr cF A) 0 (n*4)=some (arr cF A):=by
  have:=ji (f:=cF) (esz:=4) (fun _=>rfl) (l:=A) (i:=0) (n:=n) ac;rwa [d9,f8,fm ac]at this
 refine afC (v:=.sl hp.length 0 (n+1) 4 none) (h':=hp++[some (.cells (arr cF (A++[z])) 133)]) (w':=[]) ?_ rfl rfl h;have h1:(cF z).length=1*4/\0<64/\(cF z).all cI=true:=⟨rfl,am,sE z⟩;have h2:(4:Nat)=4/\(n+1)*64<=cz:=⟨rfl,by unfold cz;omega⟩;simp only[bG,ha,hb,gw,hs,if_pos h1,if_neg (show ¬(1:Nat)=0 by decide),hc,if_neg (show ¬n+1<=n by omega),hcut];rw[xl,if_pos ⟨trivial,h2.2⟩];simp[arr]
theorem Sg {n:Nat}:∀{rs:List (Nat×Option Nat)},arr (cw 4 n) rs=arr f3 (rs.map fun r=>(r.1,n,r.2))
 | []=>rfl
 | r::rs=>by rw[gD,ci,gD,Sg]
theorem Sh {n:Nat}:∀{L:List (Nat×Nat×Option Nat)},(∀r∈L,r.2.1=n)->arr f3 L=arr (cw 4 n) (L.map fun r=>(r.1,r.2.2))
 | [],_=>rfl
 | r::L,h=>by
  rw[gD,ci,gD,←Sh bS];grind
theorem aki (C:mQ M){bv:List ah}{n c6:Nat}{rs:List (Nat×Option Nat)}{A:List (List FC)}{q:QM}(hb:bv.length=n)(hn:n<=24)(hA:A.length=n)(hH:gK n n A q)(hbq:jl n bv (fun i=>q i n))(dbq:∀i,i<n->Dq 60 (q i n))
 (a0 a2 a3 a4 a5 a7 a8 a9 aB aC aD aE aF aG aH aK aL aM:AV) {Q:Ex->aq->Prop} {K0:aa} (hR:gr cF n 133 K0 rs A) (hO:K0.at c6=some (.cells (arr (cw 4 n) rs) 127)) (hc6:c6∉rs.map (·.1)) (hcap:∀r∈rs,r.2=some n)
 (hQ:∀K rs' A' aA lo wr,bQ cF 4 (n+1) 133 127 K c6 rs' A'->A'.length=n->gK n (n+1) A' q->Q (.exit 2) ⟨⟨[a0,.vs (arr fS bv) n none,a2,a3,a4,a5,.sl c6 0 n 1 none,a7,a8,a9,aA,aB,aC,aD,aE,aF,aG,aH,.iV n,.iV n,aK,aL,aM],lo,K,[]⟩,wr⟩)
 (aA:AV) (lo:List (Nat×AV)) (wr:List Nat) :
 W M (.loop Bl) ⟨⟨[a0,.vs (arr fS bv) n none,a2,a3,a4,a5,.sl c6 0 n 1 none,a7,a8,a9,aA,aB,aC,aD,aE,aF,aG,aH,.iV n,.iV 0,aK,aL,aM],lo,K0,[]⟩,wr⟩ Q:=by
 have hrl:rs.length=n:=by rw[hR.len,hA]
 have g0:∀j,j<n->(rs.map fun r=>(r.1,n,r.2))[j]! = (rs[j]!.1,n,some n):=bS;have hne:∀j,j<n->rs[j]!.1≠c6:=bS;refine W.di n (fun i st=>∃K L B aA lo wr,st=⟨⟨[a0,.vs (arr fS bv) n none,a2,a3,a4,a5,.sl c6 0 n 1 none,a7,a8,a9,aA,aB,aC,aD,aE,aF,aG,aH,.iV n,.iV i,aK,aL,aM],lo,K,[]⟩,wr⟩/\L.length=n/\B.length=n/\K.at c6=some (.cells (arr f3 L) 127)/\K0.length<=K.length /\
  (∀j,i<=j->j<n->L[j]! = (rs[j]!.1,n,some n)/\K.at rs[j]!.1=some (.cells (arr cF A[j]!) 133))/\(∀j,j<i->L[j]!.2.1=n+1/\K0.length<=L[j]!.1/\K.at L[j]!.1=some (.cells (arr cF B[j]!) 133)/\B[j]!.length=n+1/\jb (n+1) B[j]! (q j))/\∀j k,j<i->k<i->L[j]!.1=L[k]!.1->j=k)
  (fun i st hi ⟨K,L,B,aA,lo,wr,hst,hL,hB,hK,hle,hold,hnew,hinj⟩=>?_) (fun st ⟨K,L,B,aA,lo,wr,hst,hL,hB,hK,hle,hold,hnew,hinj⟩=>?_) (b7 _) ⟨K0,rs.map fun r=>(r.1,n,r.2),A,aA,lo,wr,rfl,bS,hA,by rw[←Sg];exact hO,c9 _,fun j _ hj=>⟨g0 j hj,hR.row j ac⟩,fun j hj=>ac,fun j _ hj=>be⟩
 . subst hst;obtain⟨gi,ri⟩:=hold i (c9 _) hi;have gi':L[((i:Nat):Int).toNat]! = (rs[i]!.1,n,some n):=gi;have wi:=hR.wid i ac;have hbi:bv[((i:Nat):Int).toNat]! = ao (q i n):=hbq i hi;obtain⟨v0,f0,q103⟩:=C.vB (q i n) (dbq i hi);obtain⟨c0,rfl⟩:=f0.fc;have hlt6:=cJ hK;have hri:rs[i]!.1<K.length:=cJ ri;generalize hrc:rs[i]!.1=c at gi gi' ri hri;have gi2:some (AV.sl (L[((i:Nat):Int).toNat]!).1 0 (L[((i:Nat):Int).toNat]!).2.1 4 (L[((i:Nat):Int).toNat]!).2.2)=some (AV.sl c 0 n 4 (some n)):=by rw[gi']
   unfold Bl;repeat' first|refine gd1 ?_|(apply ahJ (f:=f3) (c:=L) (e:=127);rfl;exact hK;exact fun _=>rfl;omega;decide;exact gi2)|(apply agT (f:=fS) (c:=bv);rfl;exact fun _=>rfl;omega;decide;(exact congrArg (fun s=>some (AV.str s)) hbi))|(apply amM;rfl;rfl;(first|(simp only[nca2];rfl)|rfl);intro _)|(refine WO.akh (A:=A[i]!) (z:=c0) rfl rfl (cE ri) cC wi ac ?_)|(apply ais (f:=f3) (c:=L) (a:=(((K++[some (ba.cells (overwrite (fl [AV.iV 0,.ab,AV.iV 0,.ab] 1) 0 (cF c0)) 133)])).length,n+1,none)) (e:=127);rfl;rfl;exact cE (cE hK);exact fun _=>rfl;omega;exact⟨rfl,am,rfl⟩;rfl)|(apply abd;rfl;rfl)|refine gc ?_|(intro _;omega)|intro _
   all_goals try omega
   all_goals try infer_instance
   have hKZ:K.length<((K++[some (ba.cells (overwrite (fl [AV.iV 0,.ab,AV.iV 0,.ab] 1) 0 (cF c0)) 133)])).length:=by simp
   have oldZ:∀x v,K.at x=some v->aa.at (K++[some (ba.cells (overwrite (fl [AV.iV 0,.ab,AV.iV 0,.ab] 1) 0 (cF c0)) 133)]) x=some v:=fun x v h=>cE h
   generalize (K++[some (ba.cells (overwrite (fl [AV.iV 0,.ab,AV.iV 0,.ab] 1) 0 (cF c0)) 133)])=H at *
   have h60:=cJ hO;have hHl:(H++[some (ba.cells (arr cF (A[i]! ++ [c0])) 133)]).length=H.length+1:=by simp
   have fin:∀x v,x≠c6->K.at x=some v->aa.at ((H++[some (ba.cells (arr cF (A[i]! ++ [c0])) 133)]).put c6 (some (ba.cells (arr f3 (L.set ((i:Nat):Int).toNat (H.length,n+1,none))) 127))) x=some v:=fun x v hx h=>by
    rw[mO (Ne.symm hx)];exact cE (oldZ x v h)
   have hset:∀j,(L.set ((i:Nat):Int).toNat (H.length,n+1,none))[j]! = if i=j then (H.length,n+1,none) else L[j]! := fun j=>gp ac
   have hn6:∀j,j<i->L[j]!.1≠c6:=bS;have hltL:∀j,j<i->L[j]!.1<K.length:=fun j hj=>cJ (hnew j hj).2.2.1
   all_goals exact bW ⟨_,L.set ((i:Nat):Int).toNat (H.length,n+1,none),B.set i (A[i]! ++ [c0]),_,_,_,rfl,bS,bS,eu ac,by rw[dQ];omega,fun j hj hjn=>by
    rw[hset,if_neg ac];grind,fun j hj=>by
    rw[hset,gp ac];by_cases e:i=j
    . subst e;rw[if_pos rfl,if_pos rfl];refine⟨rfl,ac,?_,bS,fun k hk=>?_⟩
      . show aa.at _ H.length=_;rw[mO ac];exact cC
      . by_cases hkn:k=n
        . grind
        . rw[ox ac];exact hH i hi k ac
    . rw[if_neg e,if_neg e];obtain⟨e1,e2,e3,e4,e5⟩:=hnew j ac;grind,fun j k hj hk=>by
    rw[hset,hset];by_cases e1:i=j
    . grind
    . by_cases e2:i=k
      . grind
      . rw[if_neg e1,if_neg e2];exact hinj j k ac ac⟩
 . subst hst;unfold Bl;repeat' first|(apply abd;rfl;rfl)|refine gc ?_|(intro _;omega)|intro _
   all_goals try omega
   all_goals try infer_instance
   have hmem:∀r∈L,r.2.1=n+1:=fun r hr=>by
    obtain⟨j,hj,rfl⟩:=d6.1 hr;grind
   have hg:∀j,j<n->(L.map fun r=>(r.1,r.2.2))[j]!.1=L[j]!.1:=bS;have h60:=cJ hO;all_goals exact hQ K (L.map fun r=>(r.1,r.2.2)) B _ _ _ ⟨by rw[←Sh hmem];exact hK,bS,bS,bS,bS,bS⟩ hB (fun j hj=>bS)
end Go.Ab.Ch1
