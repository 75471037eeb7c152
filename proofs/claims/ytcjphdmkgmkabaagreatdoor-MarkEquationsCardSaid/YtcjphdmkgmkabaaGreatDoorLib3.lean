import Derived.Test.YtcjphdmkgmkabaaGreatDoorCh1Row
import Derived.Test.YtcjphdmkgmkabaaGreatDoorLib2
open Bool renaming true_or→m8
open Int renaming mul_le_mul_of_nonneg_left→b6,mul_le_mul_of_nonneg_right→b7,pow_succ→b9,ediv_lt_of_lt_mul→ce,mul_comm→c3,pow_pos→c7,mul_nonneg→dO,le_of_lt→dY,mul_zero→d6,mul_lt_mul_of_pos_right→d7,ediv_nonneg→fm,lt_mul_ediv_self_add→fG,mul_add→fT,one_mul→f6,add_zero→f7,lt_or_le→f8,mul_assoc→f9,mul_ediv_add_emod→gF,toNat_natCast→gT,add_mul→ii,emod_lt_of_pos→iz,eq_ofNat_of_zero_le→i3,mul_le_mul→i4,pow_add→i6,lt_ediv_add_one_mul_self→i7,emod_nonneg→i8,sub_zero→i9,lt_of_mul_lt_mul_right→jq,mul_right_comm→jD,mul_one→jU,sub_mul→j0,mul_ediv_mul_of_pos→j2,ediv_eq_zero_of_lt→j3,ediv_mul_le→j4,le_ediv_of_mul_le→j5,add_mul_ediv_left→j6,mul_sub→j7,mul_ediv_self_le→j8,add_comm→lC
open List renaming take_of_length_le→b5,length_take→b8,replicate→ci,drop_eq_getElem_cons→c8,getElem!_eq_getElem?_getD→c9,take_length→dN,append_assoc→g9,length_cons→ip,getElem?_eq_getElem→it,length_set→iy,take_append_drop→i5,drop_length→j1,take_succ_cons→j9,set_cons_succ→ky,take_add_one→le,cons_append→l9,length_drop→mp,drop_zero→m5,drop_drop→m6,drop_left→m7
open Nat renaming le_refl→d8,min_eq_left→d9,zero_le→hZ,lt_succ_self→mU,log2_eq_iff→mW
open Option renaming toList_some→kw,isNone_none→kJ,isSome_some→k9,map_some→mV
set_option maxHeartbeats 8000000
set_option maxRecDepth 20000
namespace Go.Ab.Ch1
set_option maxRecDepth 1000000
end Go.Ab.Ch1

/-
  Own work: plain facts of drawn orders: an exchange after the other gives an order of the same elements; its last place and the rest.
-/
namespace Go.Ab
end Go.Ab

/-
  Own work: mark.Draw, mark.outside, stadionref01.CheckDraw: what they compute.
-/
namespace Go.Ab.Ch1
open Go.Proofs.Tryz
variable {M:aw}
end Go.Ab.Ch1

/-
  Own work: contracts of chapter 1 as a table.
-/
namespace Go.Ab
open Go.ChangeShapes Go.WideShapes Go.RowKit
variable {P:Program} {gl:Nat->Option AV}
theorem bm {FT:FuncId->Option dv}{T:List (Nat×Spec)}:(aZ P FT T).FT=FT:=rfl
theorem gG {FT:FuncId->Option dv}{T:List (Nat×Spec)}:(aZ P FT T).ext=bk T:=rfl
theorem XU {FT:FuncId->Option dv}(hs:kG P gl FT){T:List (Nat×Spec)}(hT:cD P gl (bk T)){f:Nat}{xs:List AV}{w:World}(hr:aV (aZ P FT T) f xs [] ⟨.bool true,[],[]⟩)
 (hgl:∀g v,gl g=some v->V bare w v (.pointer (some ⟨g,0,none⟩))) {as':List Value} (hv:VL bare w xs as'):Calls P f as'.toArray w fun e w'=>e = .returned (.bool true)/\Below w.heap.size w w':=by
 obtain⟨n,hn⟩:=hr;refine(VU hs.mix hT hs.ft hn hgl hv).mono fun e w' he=>?_
 obtain⟨v',h1,⟨ρ',h2⟩,h3⟩:=he;cases h2;exact⟨h1,VV h3⟩
end Go.Ab
namespace Go.Ab.Ch1
open Go.Proofs
def Eg:Spec:=Dh [] (.bool true)
theorem XV:aT Tryz.prog gl 18 Eg:=VZ KN rfl rfl XH
theorem XW (h:aa):Eg [] h=some ⟨.bool true,h,[]⟩:=rfl
set_option maxRecDepth 1000000
def KO:ak:=zR [zi 2 0] (.seq (zR [zm 5 0] (.cond (.l 5) (zR [zm 6 1,zw 2 6] (.ret)) (.skip))) (zR [zi 2 0] (.ret)))
theorem XX:FT 97=some ⟨7,[0,1,4],[.var (.p 2)],KO⟩:=by kernel_rfl
def xF:ak:=zR [zr 8 .lss 5 4] (.seq (.cond (.l 8) (.skip) (.exit 0)) (.seq (.block 1 (zR [⟨.l 9,.dw none 1 (.p 3) (.p 5),none⟩,zd 10 1 9,zw 2 10] (zR [zm 11 2,zc 12 .neq 11 0] (.cond (.l 12) (zR [zm 13 2,zw 1 13] (.ret)) (.skip))))) (.region [zq 14 .add 5 1,zw 5 14])))
def KP:ak:=zR [zi 1 0] (.seq (zR [⟨.p 3,.mv (.p 0),none⟩,⟨.p 4,.len .sl (.p 3),none⟩,zi 5 0] (.block 0 (.loop xF))) (zR [zi 1 0] (.ret)))
theorem XY:FT 96=some ⟨15,[0,2,4,5,6,7],[.var (.p 1)],KP⟩:=by kernel_rfl
def KQ:ak:=zR [zi 2 0] (.seq (zR [zm 5 0] (.cond (.l 5) (zR [zm 6 1,zw 2 6] (.ret)) (.skip))) (zR [zi 2 0] (.ret)))
theorem XZ:FT 25=some ⟨7,[0,1,4],[.var (.p 2)],KQ⟩:=by kernel_rfl
variable {inv:fQ} {F:FuncId->Option dv}
abbrev xG (T:List (Nat×Spec))(inv:fQ)(F:FuncId->Option dv):aw:=⟨bk T,inv,F⟩
def fU:List Int->Int
 | []=>0
 | e::r=>if e=0 then fU r else e
def pF:Spec:=fun
 | [.bool t,.int .i64 e],h=>some ⟨.int .i64 (if t then e else 0),h,[]⟩
 | _,_=>none
def pG:Spec:=fun
 | [v],h=>match gg h v with
   | some l=>if l.length<4611686018427387904 then some ⟨.int .i64 (fU l),h,[]⟩ else none
   | none=>none
 | _,_=>none
theorem Ya {T:List (Nat×Spec)}(hft:F=FT)(t:Bool)(e:Int):aV (xG T inv F) 97 [.bool t,.int .i64 e] [] ⟨.int .i64 (if t then e else 0),[],[]⟩:=by
 refine bH (show F 97=_ from by rw[hft];exact XX) be ?_;unfold KO;simp only[enter];cases t;all_goals
  exact gg2
 all_goals exact⟨.inr rfl,rfl,_,rfl,rfl,rfl⟩
theorem Yb {T:List (Nat×Spec)}(hft:F=FT)(t:Bool)(e:Int):aV (xG T inv F) 25 [.bool t,.int .i64 e] [] ⟨.int .i64 (if t then e else 0),[],[]⟩:=by
 refine bH (show F 25=_ from by rw[hft];exact XZ) be ?_;unfold KQ;simp only[enter];cases t;all_goals
  exact gg2
 all_goals exact⟨.inr rfl,rfl,_,rfl,rfl,rfl⟩
theorem Yc {l:List Int}{i:Nat}(h:i<l.length):fU (l.drop i)=if l[i]! = 0 then fU (l.drop (i+1)) else l[i]! := by
 rw[c8 h,getElem!_pos l i h,fU]
theorem KR {T:List (Nat×Spec)}(l:List Int)(cap:Option Nat)(a0:AV)(hl:l.length<4611686018427387904)(hp:aa)(df:List Nat){Q:Ex->aq->Prop}:∀(r i:Nat),i+r=l.length->∀(a1 a2:AV) (lo:List (Nat×AV)) (wr:List Nat),
 (fU (l.drop i)=0->∀a2 lo wr,Q (.exit 0) ⟨⟨[a0,a1,a2,.vs (ints l) l.length cap,.int .i64 l.length,.int .i64 l.length],lo,hp,df⟩,wr⟩) ->
 (∀a2 a5 lo wr,Q .ret ⟨⟨[a0,.int .i64 (fU (l.drop i)),a2,.vs (ints l) l.length cap,.int .i64 l.length,a5],lo,hp,df⟩,wr⟩) ->
 W (xG T inv F) (.loop xF) ⟨⟨[a0,a1,a2,.vs (ints l) l.length cap,.int .i64 l.length,.int .i64 i],lo,hp,df⟩,wr⟩ Q
 | 0,i,hi,a1,a2,lo,wr,h1,h2=>by
  obtain rfl:i=l.length:=by omega
  refine W.loop ?_;unfold xF;exact gg0
 | r+1,i,hi,a1,a2,lo,wr,h1,h2=>by
  have e:=Yc (l:=l) (i:=(i:Int).toNat) ac;rw[gT]at e;refine W.loop ?_;unfold xF;repeat' first|(apply abd;rfl;rfl)|(apply acr;rfl;rfl)|refine gc ?_|(intro _;omega)|intro _
  . rename_i hne;rw[gT]at hne;rw[if_neg hne]at e;rw[e]at h2;exact h2 _ _ _ _
  . rename_i he;rw[gT]at he;rw[if_pos he]at e;rw[e]at h1 h2;exact iO (KR l cap a0 hl hp df r (i+1) ac _ _ _ _ h1 h2)
theorem Yd {T:List (Nat×Spec)}(hft:F=FT)(l:List Int)(cap:Option Nat)(hl:l.length<4611686018427387904):aV (xG T inv F) 96 [.vs (ints l) l.length cap] [] ⟨.int .i64 (fU l),[],[]⟩:=by
 refine bH (show F 96=_ from by rw[hft];exact XY) be ?_;unfold KP;simp only[enter];repeat' first|refine gc ?_|fail
 refine KR l cap _ hl _ _ l.length 0 ac _ _ _ _ (fun h a2 lo wr=>?_) (fun a2 a5 lo wr=>?_)
 . exact gg2
 . exact gg2
theorem KS:aT Tryz.prog gl 97 pF:=by
 intro xs h r hq;unfold pF at hq;split at hq
 . cases hq;exact Di pE bA (Ya (T:=[]) rfl _ _) (iB.same rfl) rfl (.inl rfl)
 . cases hq
theorem Ye:aT Tryz.prog gl 25 pF:=by
 intro xs h r hq;unfold pF at hq;split at hq
 . cases hq;exact Di pE bA (Yb (T:=[]) rfl _ _) (iB.same rfl) rfl (.inl rfl)
 . cases hq
theorem Yf {f:Nat}(hw:∀(l:List Int) cap,l.length<4611686018427387904->aV (aZ Tryz.prog FT []) f [.vs (ints l) l.length cap] [] ⟨.int .i64 (fU l),[],[]⟩):aT Tryz.prog gl f pG:=by
 intro xs h r hq;unfold pG at hq;split at hq
 . split at hq
   . rename_i l hl;split at hq
     . rename_i hlen;cases hq;obtain⟨S,cap,hf⟩:=(Wr hl).fr (fun _=>rfl);exact Di pE bA (hw l cap hlen) (.cons hf .nil) rfl (.inr rfl)
     . cases hq
   . cases hq
 . cases hq
theorem KT:aT Tryz.prog gl 96 pG:=Yf fun l cap h=>Yd (T:=[]) rfl l cap h
def xH:ak:=.seq (zR [zm 6 2,zc 7 .gtr 6 0,zn 8 7,zg (zm 9 0) 8 true,zg (zm 10 2) 8 true,zg (zc 11 .sub 10 1) 8 true,zg (za 12 1 9 11) 8 true,zg (zd 13 1 12) 8 true,⟨.l 14,.bin .eql (.l 13) (kU 0),some ((.l 8),true)⟩,zp 15 8 14] (.cond (.l 15) (.skip) (.exit 0))) (.block 1 (.region [zm 16 2,zc 17 .sub 16 1,zw 2 17]))
def KU:ak:=zR [⟨.p 1,.mv (.c (.ab)),none⟩] (zR [zm 4 0,zl 5 4,zw 2 5] (.seq (.block 0 (.loop xH)) (zR [zm 18 0,zm 19 2,⟨.l 20,.slice .sl 1 (.l 18) none (some (.l 19)) none,none⟩,zw 1 20] (.ret))))
theorem Yg:FT 276=some ⟨21,[0,2,3],[.var (.p 1)],KU⟩:=by kernel_rfl
def xI:ak:=.seq (zR [zm 19 3,zc 20 .geq 19 0] (.cond (.l 20) (.skip) (.exit 0))) (.seq (.block 1 (.seq (.draw [(zm 23 0,[]),(zm 24 3,[0]),(za 25 1 23 24,[]),(zd 26 1 25,[]),(zm 27 1,[0,1,2,3]),(zm 28 3,[0,1,2,3,4]),(za 29 1 27 28,[0,1,2,3]),(zd 30 1 29,[0,1,2,3]),(zb 31 .neq 26 30,[])]) (.cond (.l 31) (.seq (.seq (.draw [(zm 32 0,[]),(zm 33 3,[0]),(za 34 1 32 33,[]),(zd 35 1 34,[]),(zm 36 1,[0,1,2,3]),(zm 37 3,[0,1,2,3,4]),(za 38 1 36 37,[0,1,2,3]),(zd 39 1 38,[0,1,2,3]),(zb 40 .lss 35 39,[])]) (.cond (.l 40) (zR [zi 2 (-1)] (.ret)) (.skip))) (zR [zi 2 1] (.ret))) (.skip)))) (.region [zm 21 3,zc 22 .sub 21 1,zw 3 22]))
def KV:ak:=zR [zi 2 0] (.seq (zR [zm 6 0,zl 7 6,zm 8 1,zl 9 8,zb 10 .neq 7 9] (.cond (.l 10) (.seq (zR [zm 11 0,zl 12 11,zm 13 1,zl 14 13,zb 15 .lss 12 14] (.cond (.l 15) (zR [zi 2 (-1)] (.ret)) (.skip))) (zR [zi 2 1] (.ret))) (.skip))) (.seq (zR [zm 16 0,zl 17 16,zc 18 .sub 17 1,zw 3 18] (.block 0 (.loop xI))) (zR [zi 2 0] (.ret))))
theorem Yh:FT 250=some ⟨41,[0,1,4,5],[.var (.p 2)],KV⟩:=by kernel_rfl
def xJ:ak:=zR [zr 30 .lss 17 16] (.seq (.cond (.l 30) (.skip) (.exit 2)) (.seq (.block 3 (zR [zm 31 17,⟨.l 32,.dw none 1 (.p 15) (.p 17),none⟩,zd 33 1 32,zw 7 31,zw 8 33] (zR [zm 35 5,zm 36 8,z2 37 244 35 36,zn 34 37,ze 38 0 34,ze 39 1 34,zw 9 38,zw 10 39] (zR [⟨.p 11,.mv (kU 0),none⟩] (zR [zm 41 10,zm 42 3,zm 43 4,zm 44 7,zb 45 .add 43 44,za 46 1 42 45,zd 47 1 46,⟨.l 48,.call (kF 275) [(.l 41),(.l 47),(kU 0)],none⟩,zn 40 48,ze 49 0 40,ze 50 1 40,zw 10 49,zw 11 50] (zR [zm 51 9,zm 52 11,zb 53 .add 51 52,zw 9 53] (zR [zm 55 10,zm 56 6,⟨.l 57,.call (kF 275) [(.l 55),(.l 56),(kU 0)],none⟩,zn 54 57,ze 58 0 54,ze 59 1 54,zw 10 58,zw 11 59] (.region [zm 60 3,zm 61 4,zm 62 7,zb 63 .add 61 62,zm 64 10,zm 65 9,zm 66 11,zb 67 .add 65 66,za 68 1 60 63,zS 1 68 64,zw 6 67])))))))) (.region [zq 69 .add 17 1,zw 17 69])))
def Eh:ak:=zR [zr 23 .lss 14 13] (.seq (.cond (.l 23) (.skip) (.exit 0)) (.seq (.block 1 (zR [zm 24 14,⟨.l 25,.dw none 1 (.p 12) (.p 14),none⟩,zd 26 1 25,zw 4 24,zw 5 26] (zR [⟨.p 6,.mv (kU 0),none⟩] (.seq (zR [⟨.p 15,.mv (.p 1),none⟩,⟨.p 16,.len .sl (.p 15),none⟩,zi 17 0] (.block 2 (.loop xJ))) (.region [zm 70 3,zm 71 4,zm 72 1,zl 73 72,zb 74 .add 71 73,zm 75 6,za 76 1 70 74,zS 1 76 75]))))) (.region [zq 77 .add 14 1,zw 14 77])))
def KW:ak:=zR [⟨.p 2,.mv (.c (.ab)),none⟩] (zR [zm 14 0,zl 15 14,zm 16 1,zl 17 16,zb 18 .add 15 17,⟨.l 19,.gZ 246 1 8 [.uV (0)] (.l 18) (.l 18),none⟩,zw 3 19] (.seq (zR [⟨.p 12,.mv (.p 0),none⟩,⟨.p 13,.len .sl (.p 12),none⟩,zi 14 0] (.block 0 (.loop Eh))) (zR [zm 78 3,z1 79 276 78,zw 2 79] (.ret))))
theorem Yi:FT 248=some ⟨80,[0,1,4,5,6,7,8,9,10,11,12,13,20,21,22,27,28,29],[.var (.p 2)],KW⟩:=by kernel_rfl
def Ei:ak:=zR [zr 15 .lss 8 7] (.seq (.cond (.l 15) (.skip) (.exit 0)) (.seq (.block 1 (zR [zm 16 8,⟨.l 17,.dw none 1 (.p 6) (.p 8),none⟩,zd 18 1 17,zw 4 16,zw 5 18] (.seq (.draw [(zm 19 3,[]),(zm 20 4,[0]),(za 21 1 19 20,[]),(zd 22 1 21,[]),(zm 23 5,[0,1,2,3]),(zm 24 1,[0,1,2,3,4]),(zb 25 .shl 23 24,[0,1,2,3]),(zb 26 .or 22 25,[]),(za 27 1 19 20,[]),(zS 1 27 26,[])]) (zR [zm 28 1,zc 29 .gtr 28 0] (.cond (.l 29) (.region [zm 30 3,zm 31 4,zc 32 .add 31 1,zm 33 5,zm 34 1,⟨.l 35,.bin .sub (kI 64) (.l 34),none⟩,zb 36 .shr 33 35,za 37 1 30 32,zS 1 37 36]) (.skip)))))) (.region [zq 38 .add 8 1,zw 8 38])))
def KX:ak:=zR [⟨.p 2,.mv (.c (.ab)),none⟩] (zR [zm 8 0,zl 9 8,zc 10 .add 9 1,⟨.l 11,.gZ 246 1 8 [.uV (0)] (.l 10) (.l 10),none⟩,zw 3 11] (.seq (zR [⟨.p 6,.mv (.p 0),none⟩,⟨.p 7,.len .sl (.p 6),none⟩,zi 8 0] (.block 0 (.loop Ei))) (zR [zm 39 3,zw 2 39] (.ret))))
theorem Yj:FT 280=some ⟨40,[0,1,4,5,6,7,12,13,14],[.var (.p 2)],KX⟩:=by kernel_rfl
def xK:ak:=.seq (zR [zm 30 6,zc 31 .geq 30 0] (.cond (.l 31) (.skip) (.exit 0))) (.seq (.block 1 (.draw [(zm 35 4,[]),(zm 36 6,[0]),(zm 37 5,[0,1]),(zm 38 0,[0,1,2]),(zm 39 6,[0,1,2,3]),(za 40 1 38 39,[0,1,2]),(zd 41 1 40,[0,1,2]),(zm 42 1,[0,1,2,3,4,5,6]),(⟨.l 43,.dw none 1 (.l 42) (kI 0),none⟩,[0,1,2,3,4,5,6]),(zd 44 1 43,[0,1,2,3,4,5,6]),(⟨.l 45,.call (kF 278) [(.l 37),(.l 41),(.l 44)],none⟩,[0,1]),(zn 34 45,[0,1]),(ze 46 0 34,[0,1]),(ze 47 1 34,[0,1,12]),(za 48 1 35 36,[13]),(zS 1 48 46,[13]),(zw 5 47,[])])) (.region [zm 32 6,zc 33 .sub 32 1,zw 6 33]))
def xL:ak:=.seq (zR [zm 80 12,zc 81 .geq 80 0] (.cond (.l 81) (.skip) (.exit 2))) (.seq (.block 3 (.region [zm 84 11,zm 85 12,zm 86 9,zm 87 12,zm 88 12,zm 89 10,zb 90 .add 88 89,zc 91 .add 90 1,⟨.l 92,.slice .sl 1 (.l 86) (some (.l 87)) (some (.l 91)) none,none⟩,zm 93 8,z2 94 281 92 93,za 95 1 84 85,zS 1 95 94])) (.region [zm 82 12,zc 83 .sub 82 1,zw 12 83]))
def xM:ak:=zR [zr 98 .lss 15 14] (.seq (.cond (.l 98) (.skip) (.exit 4)) (.seq (.block 5 (zR [zm 99 15,zw 13 99] (zR [zm 100 9,zm 101 13,za 102 1 100 101,zd 103 1 102,zm 104 7,zb 105 .shr 103 104,za 106 1 100 101,zS 1 106 105] (zR [zm 107 7,zc 108 .gtr 107 0,zn 109 108,zg (zm 110 13) 109 true,zg (zc 111 .add 110 1) 109 true,zg (zm 112 9) 109 true,zg (zl 113 112) 109 true,zg (zb 114 .lss 111 113) 109 true,zp 115 109 114] (.cond (.l 115) (.draw [(zm 116 9,[]),(zm 117 13,[0]),(za 118 1 116 117,[]),(zd 119 1 118,[]),(zm 120 9,[0,1,2,3]),(zm 121 13,[0,1,2,3,4]),(zc 122 .add 121 1,[0,1,2,3,4]),(za 123 1 120 122,[0,1,2,3]),(zd 124 1 123,[0,1,2,3]),(zm 125 7,[0,1,2,3,4,5,6,7,8]),(⟨.l 126,.bin .sub (kI 64) (.l 125),none⟩,[0,1,2,3,4,5,6,7,8]),(zb 127 .shl 124 126,[0,1,2,3]),(zb 128 .or 119 127,[]),(za 129 1 116 117,[]),(zS 1 129 128,[])]) (.skip)))))) (.region [zq 130 .add 15 1,zw 15 130])))
def tC:ak:=zR [⟨.p 2,.mv (.c (.ab)),none⟩,⟨.p 3,.mv (.c (.ab)),none⟩] (.seq (zR [zm 16 0,zm 17 1,z2 18 250 16 17,zc 19 .lss 18 0] (.cond (.l 19) (zR [zm 20 0,⟨.p 2,.mv (.c (.ab)),none⟩,zw 3 20] (.ret)) (.skip))) (.seq (zR [zm 21 1,zl 22 21,zc 23 .eql 22 1] (.cond (.l 23) (zR [zm 24 0,zl 25 24,⟨.l 26,.gZ 246 1 8 [.uV (0)] (.l 25) (.l 25),none⟩,zw 4 26] (zR [⟨.p 5,.mv (kU 0),none⟩] (.seq (zR [zm 27 0,zl 28 27,zc 29 .sub 28 1,zw 6 29] (.block 0 (.loop xK))) (zR [zm 49 4,z1 50 276 49,zm 51 5,⟨.l 52,.du 246 1 1 [.uV (0)] [(0,1,(.l 51))],none⟩,z1 53 276 52,zw 2 50,zw 3 53] (.ret))))) (.skip))) (zR [zm 54 1,zm 55 1,zl 56 55,zc 57 .sub 56 1,za 58 1 54 57,zd 59 1 58,z1 60 279 59,zw 7 60] (zR [zm 61 1,zm 62 7,z2 63 280 61 62,z1 64 276 63,zw 8 64] (zR [zm 65 0,zm 66 7,z2 67 280 65 66,zw 9 67] (zR [zm 68 8,zl 69 68,zw 10 69] (zR [zm 70 0,zl 71 70,zm 72 10,zb 73 .sub 71 72,zc 74 .add 73 1,⟨.l 75,.gZ 246 1 8 [.uV (0)] (.l 74) (.l 74),none⟩,zw 11 75] (.seq (zR [zm 76 0,zl 77 76,zm 78 10,zb 79 .sub 77 78,zw 12 79] (.block 2 (.loop xL))) (.seq (zR [⟨.p 14,.mv (.p 10),none⟩,zi 15 0] (.block 4 (.loop xM))) (.seq (.draw [(zm 131 11,[]),(z1 132 276 131,[]),(zm 133 9,[0,1]),(zm 134 10,[0,1,2]),(⟨.l 135,.slice .sl 1 (.l 133) none (some (.l 134)) none,none⟩,[0,1]),(z1 136 276 135,[]),(zw 2 132,[]),(zw 3 136,[])]) (.ret)))))))))))
theorem xN:FT 253=some ⟨137,[0,1,4,5,6,7,8,9,10,11,12,13,14,15,96,97],[.var (.p 2),.var (.p 3)],tC⟩:=by kernel_rfl
def Ej:ak:=.seq (zR [zm 63 6,⟨.l 64,.bin .eql (.l 63) (kU 0),none⟩] (.cond (.l 64) (.skip) (.exit 0))) (.block 1 (zR [zm 66 4,zm 67 1,zm 68 3,zc 69 .sub 68 2,za 70 1 67 69,zd 71 1 70,z2 72 244 66 71,zn 65 72,ze 73 0 65,ze 74 1 65,zw 7 73,zw 8 74] (.seq (zR [zm 75 7,zm 76 5,zb 77 .lss 75 76,zn 78 77,zg (zm 79 7) 78 false,zg (zm 80 5) 78 false,zg (zb 81 .eql 79 80) 78 false,zg (zn 82 81) 78 false,zg (zm 83 8) 82 true,zg (zm 84 0) 82 true,zg (zm 85 3) 82 true,zg (zc 86 .sub 85 2) 82 true,zg (za 87 1 84 86) 82 true,zg (zd 88 1 87) 82 true,zg (zb 89 .leq 83 88) 82 true,zg (zp 90 82 89) 78 false,zP 91 78 90] (.cond (.l 91) (.exit 0) (.skip))) (zR [zm 92 4,⟨.l 93,.bin .sub (.l 92) (kU 1),none⟩,zw 4 93] (.region [zm 95 5,zm 96 1,zm 97 3,zc 98 .sub 97 1,za 99 1 96 98,zd 100 1 99,⟨.l 101,.call (kF 275) [(.l 95),(.l 100),(kU 0)],none⟩,zn 94 101,ze 102 0 94,ze 103 1 94,zw 5 102,zw 6 103])))))
def tD:ak:=zR [zr 106 .lss 18 17] (.seq (.cond (.l 106) (.skip) (.exit 2)) (.seq (.block 3 (zR [zm 107 18,zw 11 107] (zR [zm 109 4,zm 110 1,zm 111 11,za 112 1 110 111,zd 113 1 112,z2 114 244 109 113,zn 108 114,ze 115 0 108,ze 116 1 108,zw 12 115,zw 13 116] (zR [⟨.p 14,.mv (kU 0),none⟩] (zR [zm 118 13,zm 119 10,⟨.l 120,.call (kF 275) [(.l 118),(.l 119),(kU 0)],none⟩,zn 117 120,ze 121 0 117,ze 122 1 117,zw 13 121,zw 14 122] (zR [zm 123 12,zm 124 14,zb 125 .add 123 124,zw 10 125] (.region [zm 127 0,zm 128 11,zm 129 0,zm 130 11,za 131 1 129 130,zd 132 1 131,zm 133 13,zm 134 9,⟨.l 135,.call (kF 277) [(.l 132),(.l 133),(.l 134)],none⟩,zn 126 135,ze 136 0 126,ze 137 1 126,za 138 1 127 128,zS 1 138 136,zw 9 137]))))))) (.region [zq 139 .add 18 1,zw 18 139])))
def tE:ak:=zR [zr 158 .lss 20 19] (.seq (.cond (.l 158) (.skip) (.exit 4)) (.seq (.block 5 (zR [zm 159 20,zw 16 159] (.draw [(zm 161 0,[]),(zm 162 16,[0]),(zm 163 0,[0,1]),(zm 164 16,[0,1,2]),(za 165 1 163 164,[0,1]),(zd 166 1 165,[0,1]),(zm 167 1,[0,1,2,3,4,5]),(zm 168 16,[0,1,2,3,4,5,6]),(za 169 1 167 168,[0,1,2,3,4,5]),(zd 170 1 169,[0,1,2,3,4,5]),(zm 171 15,[0,1,2,3,4,5,6,7,8,9]),(⟨.l 172,.call (kF 275) [(.l 166),(.l 170),(.l 171)],none⟩,[0,1]),(zn 160 172,[0,1]),(ze 173 0 160,[0,1]),(ze 174 1 160,[0,1,13]),(za 175 1 161 162,[14]),(zS 1 175 173,[14]),(zw 15 174,[])]))) (.region [zq 176 .add 20 1,zw 20 176])))
def KY:ak:=zR [⟨.p 2,.mv (kU 0),none⟩] (zR [zm 19 1,zl 20 19,zw 3 20] (zR [⟨.p 4,.mv (kU 0),none⟩,⟨.p 5,.mv (kU 0),none⟩] (zR [⟨.p 6,.mv (kU 0),none⟩] (.seq (.seq (.draw [(zm 21 0,[]),(zm 22 3,[0]),(za 23 1 21 22,[]),(zd 24 1 23,[]),(zm 25 1,[0,1,2,3]),(zm 26 3,[0,1,2,3,4]),(zc 27 .sub 26 1,[0,1,2,3,4]),(za 28 1 25 27,[0,1,2,3]),(zd 29 1 28,[0,1,2,3]),(zb 30 .geq 24 29,[])]) (.cond (.l 30) (zR [⟨.p 4,.mv (kU 18446744073709551615),none⟩] (.draw [(zm 32 0,[]),(zm 33 3,[0]),(zc 34 .sub 33 1,[0]),(za 35 1 32 34,[]),(zd 36 1 35,[]),(zm 37 1,[0,1,2,3,4]),(zm 38 3,[0,1,2,3,4,5]),(zc 39 .sub 38 1,[0,1,2,3,4,5]),(za 40 1 37 39,[0,1,2,3,4]),(zd 41 1 40,[0,1,2,3,4]),(⟨.l 42,.call (kF 275) [(.l 36),(.l 41),(kU 0)],none⟩,[]),(zn 31 42,[]),(ze 43 0 31,[]),(ze 44 1 31,[12]),(zw 5 43,[13]),(zw 6 44,[])])) (.draw [(zm 46 0,[]),(zm 47 3,[0]),(za 48 1 46 47,[]),(zd 49 1 48,[]),(zm 50 0,[0,1,2,3]),(zm 51 3,[0,1,2,3,4]),(zc 52 .sub 51 1,[0,1,2,3,4]),(za 53 1 50 52,[0,1,2,3]),(zd 54 1 53,[0,1,2,3]),(zm 55 1,[0,1,2,3,4,5,6,7,8]),(zm 56 3,[0,1,2,3,4,5,6,7,8,9]),(zc 57 .sub 56 1,[0,1,2,3,4,5,6,7,8,9]),(za 58 1 55 57,[0,1,2,3,4,5,6,7,8]),(zd 59 1 58,[0,1,2,3,4,5,6,7,8]),(⟨.l 60,.call (kF 278) [(.l 49),(.l 54),(.l 59)],none⟩,[]),(zn 45 60,[]),(ze 61 0 45,[]),(ze 62 1 45,[16]),(zw 4 61,[17]),(zw 5 62,[])]))) (.seq (.block 0 (.loop Ej)) (zR [⟨.p 9,.mv (kU 0),none⟩,⟨.p 10,.mv (kU 0),none⟩] (.seq (zR [⟨.p 17,.mv (.p 3),none⟩,zi 18 0] (.block 2 (.loop tD))) (zR [zm 141 0,zm 142 3,zm 143 0,zm 144 3,za 145 1 143 144,zd 146 1 145,zm 147 10,zm 148 9,⟨.l 149,.call (kF 277) [(.l 146),(.l 147),(.l 148)],none⟩,zn 140 149,ze 150 0 140,ze 151 1 140,za 152 1 141 142,zS 1 152 150,zw 9 151] (.seq (zR [zm 153 9,⟨.l 154,.bin .eql (.l 153) (kU 0),none⟩] (.cond (.l 154) (zR [zm 155 4,zw 2 155] (.ret)) (.skip))) (zR [⟨.p 15,.mv (kU 0),none⟩] (.seq (zR [⟨.p 19,.mv (.p 3),none⟩,zi 20 0] (.block 4 (.loop tE))) (zR [zm 177 0,zm 178 3,za 179 1 177 178,zd 180 1 179,zm 181 15,zb 182 .add 180 181,za 183 1 177 178,zS 1 183 182] (zR [zm 184 4,⟨.l 185,.bin .sub (.l 184) (kU 1),none⟩,zw 2 185] (.ret))))))))))))))
theorem Yk:FT 281=some ⟨186,[0,1,4,5,6,7,8,9,10,11,12,13,14,15,16,17,18,104,105,156,157],[.var (.p 2)],KY⟩:=by kernel_rfl
def xO:ak:=zR [zr 23 .lss 8 7] (.seq (.cond (.l 23) (.skip) (.exit 0)) (.seq (.block 1 (zR [zm 24 8,zw 5 24] (zR [⟨.p 6,.mv (kU 0),none⟩] (.seq (zR [zm 25 5,zm 26 1,zl 27 26,zb 28 .lss 25 27] (.cond (.l 28) (.region [zm 29 1,zm 30 5,za 31 1 29 30,zd 32 1 31,zw 6 32]) (.skip))) (.region [zm 34 3,zm 35 5,zm 36 0,zm 37 5,za 38 1 36 37,zd 39 1 38,zm 40 6,zm 41 4,⟨.l 42,.call (kF 275) [(.l 39),(.l 40),(.l 41)],none⟩,zn 33 42,ze 43 0 33,ze 44 1 33,za 45 1 34 35,zS 1 45 43,zw 4 44]))))) (.region [zq 46 .add 8 1,zw 8 46])))
def KZ:ak:=zR [⟨.p 2,.mv (.c (.ab)),none⟩] (.seq (zR [zm 9 0,zl 10 9,zm 11 1,zl 12 11,zb 13 .lss 10 12] (.cond (.l 13) (.region [zm 14 1,zm 15 0,zw 0 14,zw 1 15]) (.skip))) (zR [zm 16 0,zl 17 16,zc 18 .add 17 1,⟨.l 19,.gZ 246 1 8 [.uV (0)] (.l 18) (.l 18),none⟩,zw 3 19] (zR [⟨.p 4,.mv (kU 0),none⟩] (.seq (zR [zm 20 0,⟨.p 7,.len .sl (.l 20),none⟩,zi 8 0] (.block 0 (.loop xO))) (zR [zm 47 3,zm 48 0,zl 49 48,zm 50 4,za 51 1 47 49,zS 1 51 50] (zR [zm 52 3,z1 53 276 52,zw 2 53] (.ret)))))))
theorem Yl:FT 249=some ⟨54,[0,1,4,5,6,7,8,21,22],[.var (.p 2)],KZ⟩:=by kernel_rfl
def xP:ak:=zR [zr 15 .lss 8 7] (.seq (.cond (.l 15) (.skip) (.exit 0)) (.seq (.block 1 (zR [zm 16 8,zw 5 16] (zR [⟨.p 6,.mv (kU 0),none⟩] (.seq (zR [zm 17 5,zm 18 1,zl 19 18,zb 20 .lss 17 19] (.cond (.l 20) (.region [zm 21 1,zm 22 5,za 23 1 21 22,zd 24 1 23,zw 6 24]) (.skip))) (.region [zm 26 3,zm 27 5,zm 28 0,zm 29 5,za 30 1 28 29,zd 31 1 30,zm 32 6,zm 33 4,⟨.l 34,.call (kF 277) [(.l 31),(.l 32),(.l 33)],none⟩,zn 25 34,ze 35 0 25,ze 36 1 25,za 37 1 26 27,zS 1 37 35,zw 4 36]))))) (.region [zq 38 .add 8 1,zw 8 38])))
def La:ak:=zR [⟨.p 2,.mv (.c (.ab)),none⟩] (zR [zm 9 0,zl 10 9,⟨.l 11,.gZ 246 1 8 [.uV (0)] (.l 10) (.l 10),none⟩,zw 3 11] (zR [⟨.p 4,.mv (kU 0),none⟩] (.seq (zR [zm 12 0,⟨.p 7,.len .sl (.l 12),none⟩,zi 8 0] (.block 0 (.loop xP))) (zR [zm 39 3,z1 40 276 39,zw 2 40] (.ret)))))
theorem Ym:FT 251=some ⟨41,[0,1,4,5,6,7,8,13,14],[.var (.p 2)],La⟩:=by kernel_rfl
def Lb:ak:=zR [⟨.p 1,.mv (kU 0),none⟩] (.seq (zR [zm 3 0,zc 4 .lss 3 0] (.cond (.l 4) (zR [zm 5 0,⟨.l 6,.un .neg (.l 5),none⟩,⟨.l 7,.dM .u64 (.l 6),none⟩,zw 1 7] (.ret)) (.skip))) (zR [zm 8 0,⟨.l 9,.dM .u64 (.l 8),none⟩,zw 1 9] (.ret)))
theorem Yn:FT 245=some ⟨10,[0,2],[.var (.p 1)],Lb⟩:=by kernel_rfl
def xQ:ak:=zR [zx 1 131 2 0,⟨.p 2,.mv (.c (.bool false)),none⟩,⟨.p 3,.mv (.c (.ab)),none⟩] (.seq (.block 0 (zR [zf 5 1 1,zd 6 1 5,⟨.l 7,.eq true (.ref .slice) (.l 6) (.c (.ab)),none⟩,zn 4 7] (.cond (.l 4) (.seq (.draw [(zf 8 0 1,[]),(zd 9 1 8,[]),(zc 10 .lss 9 0,[]),(zf 11 1 1,[0,1,2]),(zd 12 1 11,[0,1,2]),(zw 2 10,[3,4]),(zw 3 12,[])]) (.ret)) (zR [zf 14 0 1,zd 15 1 14,zc 16 .eql 15 0,zn 13 16] (.cond (.l 13) (zR [⟨.p 2,.mv (.c (.bool false)),none⟩,⟨.p 3,.mv (.c (.ab)),none⟩] (.ret)) (.skip)))))) (.seq (.draw [(zf 17 0 1,[]),(zd 18 1 17,[]),(zc 19 .lss 18 0,[]),(zf 20 0 1,[0,1,2]),(zd 21 1 20,[0,1,2]),(z1 22 245 21,[0,1,2]),(⟨.l 23,.du 246 1 1 [.uV (0)] [(0,1,(.l 22))],none⟩,[0,1,2]),(zw 2 19,[6]),(zw 3 23,[])]) (.ret)))
theorem Ek:FT 246=some ⟨24,[0,1,2,3],[.var (.p 2),.var (.p 3)],xQ⟩:=by kernel_rfl
def rq:ak:=zR [⟨.p 2,.alloc 131 [.iV (0),.ab],none⟩] (.seq (.block 0 (zR [zm 6 1,zl 7 6,zc 8 .eql 7 0,zn 5 8] (.cond (.l 5) (zR [⟨.l 9,.build [.iV (0),.ab] [],none⟩,zs 2 2 9] (.ret)) (zR [zm 11 1,zl 12 11,zc 13 .eql 12 1,zn 14 13,zg (zm 15 1) 14 true,⟨.l 16,.dw none 1 (.l 15) (kI 0),some ((.l 14),true)⟩,zg (zd 17 1 16) 14 true,⟨.l 18,.bin .leq (.l 17) (kU 9223372036854775807),some ((.l 14),true)⟩,zp 19 14 18,zn 20 19,zg (zm 21 0) 20 true,zp 22 20 21,zn 10 22] (.cond (.l 10) (zR [zm 23 1,⟨.l 24,.dw none 1 (.l 23) (kI 0),none⟩,zd 25 1 24,⟨.l 26,.dM .i64 (.l 25),none⟩,⟨.l 27,.un .neg (.l 26),none⟩,⟨.l 28,.build [.iV (0),.ab] [(0,1,(.l 27))],none⟩,zs 2 2 28] (.ret)) (zR [zm 30 1,zl 31 30,zc 32 .eql 31 1,zn 33 32,zg (zm 34 1) 33 true,⟨.l 35,.dw none 1 (.l 34) (kI 0),some ((.l 33),true)⟩,zg (zd 36 1 35) 33 true,⟨.l 37,.bin .leq (.l 36) (kU 9223372036854775807),some ((.l 33),true)⟩,zp 38 33 37,zn 29 38] (.cond (.l 29) (zR [zm 39 1,⟨.l 40,.dw none 1 (.l 39) (kI 0),none⟩,zd 41 1 40,⟨.l 42,.dM .i64 (.l 41),none⟩,⟨.l 43,.build [.iV (0),.ab] [(0,1,(.l 42))],none⟩,zs 2 2 43] (.ret)) (zR [zm 45 0,zn 44 45] (.cond (.l 44) (zR [zm 46 1,⟨.l 47,.build [.iV (0),.ab] [(0,1,(kI (-1))),(1,1,(.l 46))],none⟩,zs 2 2 47] (.ret)) (.skip)))))))))) (zR [zm 48 1,⟨.l 49,.build [.iV (0),.ab] [(0,1,(kI 1)),(1,1,(.l 48))],none⟩,zs 2 2 49] (.ret)))
theorem tF:FT 247=some ⟨50,[0,1,4],[.cell 2 true (.p 2)],rq⟩:=by kernel_rfl
def Lc:ak:=zR [⟨.p 2,.mv (kU 0),none⟩,⟨.p 3,.mv (kU 0),none⟩] (zR [zm 14 0,⟨.l 15,.bin .and (.l 14) (kU 4294967295),none⟩,zw 4 15] (zR [zm 16 0,⟨.l 17,.bin .shr (.l 16) (kU 32),none⟩,zw 5 17] (zR [zm 18 1,⟨.l 19,.bin .and (.l 18) (kU 4294967295),none⟩,zw 6 19] (zR [zm 20 1,⟨.l 21,.bin .shr (.l 20) (kU 32),none⟩,zw 7 21] (zR [zm 22 4,zm 23 6,zb 24 .mul 22 23,zw 8 24] (zR [zm 25 5,zm 26 6,zb 27 .mul 25 26,zm 28 8,⟨.l 29,.bin .shr (.l 28) (kU 32),none⟩,zb 30 .add 27 29,zw 9 30] (zR [zm 31 9,⟨.l 32,.bin .and (.l 31) (kU 4294967295),none⟩,zw 10 32] (zR [zm 33 9,⟨.l 34,.bin .shr (.l 33) (kU 32),none⟩,zw 11 34] (zR [zm 35 10,zm 36 4,zm 37 7,zb 38 .mul 36 37,zb 39 .add 35 38,zw 10 39] (zR [zm 40 5,zm 41 7,zb 42 .mul 40 41,zm 43 11,zb 44 .add 42 43,zm 45 10,⟨.l 46,.bin .shr (.l 45) (kU 32),none⟩,zb 47 .add 44 46,zw 2 47] (zR [zm 48 0,zm 49 1,zb 50 .mul 48 49,zw 3 50] (.ret))))))))))))
theorem Yo:FT 244=some ⟨51,[0,1,4,5,6,7,8,9,10,11,12,13],[.var (.p 2),.var (.p 3)],Lc⟩:=by kernel_rfl
def xR:ak:=.seq (zR [zm 67 12,⟨.l 68,.bin .geq (.l 67) (kU 4294967296),none⟩,zn 69 68,zg (zm 70 12) 69 false,zg (zm 71 7) 69 false,zg (zb 72 .mul 70 71) 69 false,zg (zm 73 13) 69 false,⟨.l 74,.bin .mul (kU 4294967296) (.l 73),some ((.l 69),false)⟩,zg (zm 75 10) 69 false,zg (zb 76 .add 74 75) 69 false,zg (zb 77 .gtr 72 76) 69 false,zP 78 69 77] (.cond (.l 78) (.skip) (.exit 0))) (.block 1 (zR [zm 79 12,⟨.l 80,.bin .sub (.l 79) (kU 1),none⟩,zw 12 80] (zR [zm 81 13,zm 82 6,zb 83 .add 81 82,zw 13 83] (zR [zm 84 13,⟨.l 85,.bin .geq (.l 84) (kU 4294967296),none⟩] (.cond (.l 85) (.exit 0) (.skip))))))
def xS:ak:=.seq (zR [zm 102 15,⟨.l 103,.bin .geq (.l 102) (kU 4294967296),none⟩,zn 104 103,zg (zm 105 15) 104 false,zg (zm 106 7) 104 false,zg (zb 107 .mul 105 106) 104 false,zg (zm 108 13) 104 false,⟨.l 109,.bin .mul (kU 4294967296) (.l 108),some ((.l 104),false)⟩,zg (zm 110 11) 104 false,zg (zb 111 .add 109 110) 104 false,zg (zb 112 .gtr 107 111) 104 false,zP 113 104 112] (.cond (.l 113) (.skip) (.exit 2))) (.block 3 (zR [zm 114 15,⟨.l 115,.bin .sub (.l 114) (kU 1),none⟩,zw 15 115] (zR [zm 116 13,zm 117 6,zb 118 .add 116 117,zw 13 118] (zR [zm 119 13,⟨.l 120,.bin .geq (.l 119) (kU 4294967296),none⟩] (.cond (.l 120) (.exit 2) (.skip))))))
def Ld:ak:=zR [⟨.p 3,.mv (kU 0),none⟩,⟨.p 4,.mv (kU 0),none⟩] (.seq (zR [zm 19 2,⟨.l 20,.bin .eql (.l 19) (kU 0),none⟩] (.cond (.l 20) (.bad) (.skip))) (.seq (zR [zm 22 2,zm 23 0,zb 24 .leq 22 23] (.cond (.l 24) (.bad) (.skip))) (.seq (zR [zm 26 0,⟨.l 27,.bin .eql (.l 26) (kU 0),none⟩] (.cond (.l 27) (.seq (.draw [(zm 28 1,[]),(zm 29 2,[0]),(zb 30 .quo 28 29,[]),(zm 31 1,[0,1,2]),(zm 32 2,[0,1,2,3]),(zb 33 .rem 31 32,[0,1,2]),(zw 3 30,[3,4,5]),(zw 4 33,[])]) (.ret)) (.skip))) (zR [zm 34 2,z1 35 279 34,⟨.l 36,.dM .u64 (.l 35),none⟩,zw 5 36] (zR [zm 37 2,zm 38 5,zb 39 .shl 37 38,zw 2 39] (zR [zm 40 2,⟨.l 41,.bin .shr (.l 40) (kU 32),none⟩,zw 6 41] (zR [zm 42 2,⟨.l 43,.bin .and (.l 42) (kU 4294967295),none⟩,zw 7 43] (zR [zm 44 0,zm 45 5,zb 46 .shl 44 45,zm 47 1,zm 48 5,⟨.l 49,.bin .sub (kU 64) (.l 48),none⟩,zb 50 .shr 47 49,zb 51 .or 46 50,zw 8 51] (zR [zm 52 1,zm 53 5,zb 54 .shl 52 53,zw 9 54] (zR [zm 55 9,⟨.l 56,.bin .shr (.l 55) (kU 32),none⟩,zw 10 56] (zR [zm 57 9,⟨.l 58,.bin .and (.l 57) (kU 4294967295),none⟩,zw 11 58] (zR [zm 59 8,zm 60 6,zb 61 .quo 59 60,zw 12 61] (zR [zm 62 8,zm 63 12,zm 64 6,zb 65 .mul 63 64,zb 66 .sub 62 65,zw 13 66] (.seq (.block 0 (.loop xR)) (zR [zm 86 8,⟨.l 87,.bin .mul (.l 86) (kU 4294967296),none⟩,zm 88 10,zb 89 .add 87 88,zm 90 12,zm 91 2,zb 92 .mul 90 91,zb 93 .sub 89 92,zw 14 93] (zR [zm 94 14,zm 95 6,zb 96 .quo 94 95,zw 15 96] (zR [zm 97 14,zm 98 15,zm 99 6,zb 100 .mul 98 99,zb 101 .sub 97 100,zw 13 101] (.seq (.block 2 (.loop xS)) (zR [zm 121 12,⟨.l 122,.bin .mul (.l 121) (kU 4294967296),none⟩,zm 123 15,zb 124 .add 122 123,zm 125 14,⟨.l 126,.bin .mul (.l 125) (kU 4294967296),none⟩,zm 127 11,zb 128 .add 126 127,zm 129 15,zm 130 2,zb 131 .mul 129 130,zb 132 .sub 128 131,zm 133 5,zb 134 .shr 132 133,zw 3 124,zw 4 134] (.ret))))))))))))))))))))
theorem Yp:FT 278=some ⟨135,[0,1,2,6,7,8,9,10,11,12,13,14,15,16,17,18],[.var (.p 3),.var (.p 4)],Ld⟩:=by kernel_rfl
def Le:ak:=zR [zi 1 0] (zR [zm 3 0,z1 4 240 3,⟨.l 5,.bin .sub (kI 64) (.l 4),none⟩,zw 1 5] (.ret))
theorem Yq:FT 279=some ⟨6,[0,2],[.var (.p 1)],Le⟩:=by kernel_rfl
end Go.Ab.Ch1

/-
  Own work: numbers by their digits to a base, the least significant one first: values, parts, changes of a digit, the length without zeros.
-/
namespace Go.Ab.aU
def WV (b:Int):List Int->Int
 | []=>0
 | x::l=>x+b*WV b l
def okW (b:Int)(l:List Int):Prop:=∀x∈l,0<=x/\x<b
theorem jf {b:Int}:okW b []:=fun x hx=>by cases hx
theorem Lf {b x:Int}{l:List Int}(h:okW b (x::l)):(0<=x/\x<b)/\okW b l:=⟨h x be,fun y hy=>h y (by simp[hy])⟩
theorem cg {b:Int}{l:List Int}(h:okW b l){i:Nat}(hi:i<l.length):0<=l[i]! /\ l[i]! < b:=h _ bS
theorem gQ {b:Int}{l:List Int}(h:okW b l){i:Nat}{v:Int}(hv:0<=v/\v<b):okW b (l.set i v):=fun x hx=>by
 rcases List.mem_or_eq_of_mem_set hx with hx|rfl
 . exact h x hx
 omega
theorem dF {b:Int}{l:List Int}(h:okW b l)(n:Nat):okW b (l.take n):=fun x hx=>h x bS
theorem jM {b:Int}{l:List Int}(h:okW b l)(n:Nat):okW b (l.drop n):=fun x hx=>h x bS
theorem jV {b:Int}{l m:List Int}(h:okW b l)(k:okW b m):okW b (l++m):=fun x hx=>by
 rcases List.mem_append.1 hx with hx|hx
 . exact h x hx
 . exact k x hx
theorem lI {b:Int}(hb:0<b){n:Nat}:okW b (ci n 0):=fun x hx=>by
 grind
theorem gh {b:Int}:∀{l m:List Int},WV b (l++m)=WV b l+b^l.length*WV b m
 | [],m=>by simp[WV]
 | x::l,m=>by
  rw[l9,WV,WV,gh,ip,b9];grind
theorem mC {b:Int}{l:List Int}{i:Nat}(h:i<=l.length):WV b l=WV b (l.take i)+b^i*WV b (l.drop i):=by
 have:=gh (b:=b) (l:=l.take i) (m:=l.drop i);rwa [i5,b8,d9 h]at this
theorem fE {b:Int}{l:List Int}{i:Nat}(h:i<l.length):WV b (l.take (i+1))=WV b (l.take i)+b^i*l[i]! := by
 rw[le,it h,getElem!_pos l i h,kw,gh,b8,d9 ac];simp[WV]
theorem pH {b:Int}{l:List Int}{i:Nat}(h:i<l.length):WV b (l.drop i)=l[i]! + b*WV b (l.drop (i+1)):=by
 rw[c8 h,getElem!_pos l i h,WV]
theorem Lg {b:Int}:∀{l:List Int},(∀x∈l,x=0)->WV b l=0
 | [],_=>rfl
 | x::l,h=>by rw[WV,h x be,Lg bS];simp
theorem lJ {b:Int}{n:Nat}:WV b (ci n 0)=0:=Lg be
theorem gR {b:Int}:∀{l:List Int} {i:Nat} {v:Int},i<l.length->WV b (l.set i v)=WV b l+b^i*(v-l[i]!)
 | [],i,v,h=>by simp at h
 | x::l,0,v,h=>by simp[WV];omega
 | x::l,i+1,v,h=>by
  have e:(x::l)[i+1]! = l[i]! := by simp[c9]
  rw[ky,WV,WV,gR bS,e,b9];grind
theorem tG {b:Int}(hb:0<b)(n:Nat):0<b^n:=c7 hb
theorem cB {b:Int}(hb:0<b):∀{l:List Int},okW b l->0<=WV b l
 | [],_=>Int.le_refl _
 | x::l,h=>by
  obtain⟨h1,h2⟩:=Lf h;have:=dO (dY hb) (cB hb h2);rw[WV];omega
theorem dg {b:Int}(hb:0<b):∀{l:List Int},okW b l->WV b l<b^l.length
 | [],_=>by simp[WV]
 | x::l,h=>by
  obtain⟨h1,h2⟩:=Lf h;have h3:=dg hb h2;have h4:b*(WV b l+1)<=b*b^l.length:=b6 ac ac;rw[WV,ip,b9,c3 (b^l.length) b];grind
theorem gS {b:Int}(hb:1<b){m n:Nat}(h:m<=n):b^m<=b^n:=by
 obtain⟨k,rfl⟩:∃k,n=m+k:=⟨n-m,ac⟩;rw[i6];have h1:=tG (show 0<b by omega) m;have h2:=tG (show 0<b by omega) k;have h3:b^m*1<=b^m*b^k:=b6 ac ac;omega
def aQ:List Int->Nat
 | []=>0
 | x::l=>if aQ l=0 then (if x=0 then 0 else 1) else aQ l+1
theorem iW:∀{l:List Int},aQ l<=l.length
 | []=>d8 _
 | x::l=>by
  have:=iW (l:=l);rw[aQ,ip];grind
theorem Lh:∀{l:List Int} {x:Int},aQ (l++[x])=if x=0 then aQ l else l.length+1
 | [],x=>by rfl
 | y::l,x=>by
  rw[l9,aQ,Lh,aQ,ip];grind
theorem pI {l:List Int}{i:Nat}(h:i<l.length):aQ (l.take (i+1))=if l[i]! = 0 then aQ (l.take i) else i+1:=by
 rw[le,it h,getElem!_pos l i h,kw,Lh,b8,d9 ac]
theorem xT {b:Int}:∀{l:List Int},WV b (l.take (aQ l))=WV b l
 | []=>rfl
 | x::l=>by
  have ih:=xT (b:=b) (l:=l);rw[aQ];by_cases h:aQ l=0
  . rw[h]at ih;rw[if_pos h,WV,←ih];by_cases hx:x=0
    . rw[if_pos hx,hx];simp[WV]
    . rw[if_neg hx];rfl
  . rw[if_neg h,j9,WV,WV,ih]
def aN (l:List Int):Prop:=aQ l=l.length
theorem kA:aN []:=rfl
theorem El:∀{l:List Int},aN (l.take (aQ l))
 | []=>rfl
 | x::l=>by
  have ih:=El (l:=l);have hle:=iW (l:=l);rw[aQ];by_cases h:aQ l=0
  . rw[if_pos h];by_cases hx:x=0
    . grind
    . rw[if_neg hx];simp[aN,aQ,hx]
  . rw[if_neg h,j9];unfold aN at ih ⊢;rw[b8,d9 hle]at ih;rw[aQ,ip,b8,d9 hle,ih,if_neg h]
theorem mD {l:List Int}(h:aN l)(h0:0<l.length):l[l.length-1]! ≠ 0:=fun e=>by
 have:=pI (l:=l) (i:=l.length-1) ac;rw[show l.length-1+1=l.length by omega,dN,if_pos e]at this;have h2:=iW (l:=l.take (l.length-1));rw[b8]at h2;unfold aN at h;omega
theorem tH {l:List Int}(h:0<l.length):aN l↔l[l.length-1]! ≠ 0:=by
 refine⟨fun hn=>mD hn h,fun e=>?_⟩;have:=pI (l:=l) (i:=l.length-1) ac;rw[show l.length-1+1=l.length by omega,dN,if_neg e]at this;exact this
theorem ru {b:Int}(hb:1<b){l:List Int}(ok:okW b l)(h:aN l)(h0:0<l.length):b^(l.length-1)<=WV b l:=by
 have e:=mC (b:=b) (l:=l) (i:=l.length-1) ac;have h1:=cB ac (dF ok (l.length-1));have h2:=pH (b:=b) (l:=l) (i:=l.length-1) ac;rw[show l.length-1+1=l.length by omega,j1,WV,d6,f7]at h2;have h3:=mD h h0;have h4:=cg ok (i:=l.length-1) ac;rw[h2]at e;have h5:=tG (show 0<b by omega) (l.length-1);have h6:b^(l.length-1)*1<=b^(l.length-1)*l[l.length-1]! := b6 ac ac;omega
theorem jN {b:Int}(hb:1<b){l:List Int}(ok:okW b l)(h:aN l):0<WV b l↔l≠[]:=by
 constructor
 . rintro h1 rfl;simp[WV]at h1
 . intro h1;have h0:0<l.length:=bS;have:=ru hb ok h h0;have:=tG (show 0<b by omega) (l.length-1);omega
theorem pJ {b:Int}(hb:1<b){l m:List Int}(okl:okW b l)(okm:okW b m)(hm:aN m)(h:l.length<m.length):WV b l<WV b m:=by
 have h1:=dg ac okl;have h2:=ru hb okm hm ac;have h3:=gS hb (show l.length<=m.length-1 by omega);omega
theorem gk {b:Int}(hb:1<b){l:List Int}(ok:okW b l)(h:aN l){n:Nat}(hv:WV b l<b^n):l.length<=n:=by
 rcases Nat.lt_or_ge n l.length with h1|h1
 . have h2:=ru hb ok h ac;have h3:=gS hb (show n<=l.length-1 by omega);omega
 omega
end Go.Ab.aU

/-
  Own work: words of 64 binary digits: the product of two words.
-/
namespace Go.Ab.Ch1
open Go.Ab.aU
variable {M:aw} {cap c1 c2:Option Nat}
theorem Yr {x y:Int}(hx:0<=x/\x<18446744073709551616)(hy:0<=y/\y<18446744073709551616) :
 let x0:=x%4294967296;let x1:=x/4294967296;let y0:=y%4294967296;let y1:=y/4294967296
 (0<=x0*y0/\x0*y0<=18446744065119617025)/\(0<=x1*y0/\x1*y0<=18446744065119617025)/\(0<=x0*y1/\x0*y1<=18446744065119617025)/\(0<=x1*y1/\x1*y1<=18446744065119617025) /\
   x*y=x1*y1*18446744073709551616+(x1*y0+x0*y1)*4294967296+x0*y0:=by
 intro x0 x1 y0 y1;have a0:0<=x0/\x0<=4294967295:=by omega
 have a1:0<=x1/\x1<=4294967295:=by omega
 have b0:0<=y0/\y0<=4294967295:=by omega
 have b1:0<=y1/\y1<=4294967295:=by omega
 have up:∀{a b:Int},0<=a/\a<=4294967295->0<=b/\b<=4294967295->0<=a*b/\a*b<=18446744065119617025:=fun {a b} ha hb=>
  ⟨dO ha.1 hb.1,by have:=i4 ha.2 hb.2 hb.1 ac;omega⟩
 refine⟨up a0 b0,up a1 b0,up a0 b1,up a1 b1,?_⟩;have ex:x=x1*4294967296+x0:=by omega
 have ey:y=y1*4294967296+y0:=by omega
 generalize x0=x0 at *
 generalize x1=x1 at *
 generalize y0=y0 at *
 generalize y1=y1 at *
 subst ex;subst ey;grind
theorem Ys (hft:M.FT=FT)(x y:Int)(hx:0<=x/\x<18446744073709551616)(hy:0<=y/\y<18446744073709551616):aV M 244 [.uV x,.uV y] [] ⟨.au [.uV (x*y/18446744073709551616),.uV (x*y%18446744073709551616)],[],[]⟩:=by
 obtain⟨p0,p1,p2,p3,e⟩:=Yr hx hy;refine bH (by rw[hft];exact Yo) be ?_;unfold Lc;simp only[enter];repeat' first|(apply amO;rfl;rfl;omega)|(apply alK (n:=32) (c:=4294967296);rfl;rfl;rfl;decide;rfl)|(apply akw;rfl;rfl;exact⟨ac,ac⟩)|(apply alw;rfl;rfl;exact⟨ac,ac⟩)|(apply amo;rfl;rfl)|refine gc ?_|fail
 refine⟨.inr rfl,rfl,_,rfl,?_,rfl⟩;refine congrArg (fun u=>AV.au [.uV u,.uV (x*y%18446744073709551616)]) ?_;omega
abbrev uC (x:Int):List AV:=[.uV x]
abbrev al (l:List Int):List AV:=arr uC l
abbrev wB:Int:=18446744073709551616
theorem Li {l:List Int}:(al l).length=l.length:=by
 have:=ke (f:=uC) (esz:=1) (fun _=>rfl) l;simpa using this
theorem Yt {l:List Int}{m:Nat}(h:m<l.length):(al l)[m]? = some (.uV l[m]!):=by
 induction l generalizing m with
 | nil=>simp at h
 | cons x l ih=>
  cases m with
  | zero=>rfl
  | succ m=>
   have e:(x::l)[m+1]! = l[m]! := by simp[c9]
   rw[e,←ih (by simpa using h)];rfl
section
variable {t b m:Nat} {x y:ay} {l:List aX} {pe:List AV} {lo:List (Nat×AV)} {hp:aa} {df wr:List Nat} {L:List Int} {e:TypeId} {v:Int} {Q:aq->Prop}
theorem akx (hx:(St.mk pe lo hp df).ae x=some (.ptr b m))(hb:hp.at b=some (.cells (al L) e))(hi:m<L.length)
 (h:WO M l ⟨⟨pe,(t,.uV L[m]!)::lo,hp,df⟩,wr⟩ Q):WO M (⟨.l t,.load 1 false x,none⟩::l) ⟨⟨pe,lo,hp,df⟩,wr⟩ Q:=by
 refine akA (c:=al L) (o:=m) (e:=e) (v:=.uV L[m]!) hx hb ?_ h;have h1:=Yt hi;have h2:m<(al L).length:=by rw[Li];exact hi
 rw[c8 h2];rw[it h2]at h1;rw[Option.some.inj h1];rfl
theorem Yu {L:List Int}{m:Nat}{v:Int}(h:m<L.length):overwrite (al L) m (uC v)=al (L.set m v):=by
 induction L generalizing m with
 | nil=>simp at h
 | cons x L ih=>
  cases m with
  | zero=>simp[overwrite,arr]
  | succ m=>
   have:=ih (m:=m) (by simpa using h);simp only[ky];have e1:al (x::L) = .uV x::al L:=rfl;have e2:al (x::L.set m v) = .uV x::al (L.set m v):=rfl;rw[e1,e2,←this];simp[overwrite]
theorem akZ (hx:(St.mk pe lo hp df).ae x=some (.ptr b m))(hy:(St.mk pe lo hp df).ae y=some (.uV v))(hb:hp.at b=some (.cells (al L) e))(hi:m<L.length)
 (h:WO M l ⟨⟨pe,lo,hp.put b (some (.cells (al (L.set m v)) e)),df⟩,b::wr⟩ Q):WO M (⟨.no,.store 1 x y,none⟩::l) ⟨⟨pe,lo,hp,df⟩,wr⟩ Q:=
 afG (c:=al L) (new:=uC v) hx (by rw[hy];rfl) hb ⟨rfl,by rw[Li];omega,rfl⟩ (Yu hi) h
end
def bE (b n:Nat)(cap:Option Nat):AV:=if 0<n then .sl b 0 n 1 cap else .vs [] 0 cap
theorem amj {t n r b:Nat}{k:IntKind}{x y:ay}{l:List aX}{pe:List AV}{lo:List (Nat×AV)}{hp:aa}{df wr:List Nat}{Q:aq->Prop}(hx:(St.mk pe lo hp df).ae x=some (.sl b 0 n 1 cap))(hy:(St.mk pe lo hp df).ae y=some (.int k r))(hr:r<=n)(hc:∀c,cap=some c->n<=c)
 (h:WO M l ⟨⟨pe,(t,bE b r cap)::lo,hp,df⟩,wr⟩ Q):WO M (⟨.l t,.slice .sl 1 x none (some y) none,none⟩::l) ⟨⟨pe,lo,hp,df⟩,wr⟩ Q:=by
 have hcap:(0:Int)<=(r:Int)/\(r:Int)<=((cap.getD n:Nat):Int):=by
  refine⟨ac,?_⟩;cases cap with
  | none=>simp;omega
  | some c=>have:=hc c rfl;simp;omega
 have hcc:cap.map (fun x=>x)=cap:=by cases cap <;> simp
 refine abL (v:=bE b r cap) ?_ rfl h;unfold bE;simp only[aY,hx,St.cZ,hy,mV,jo,bR,kJ,k9,m8,if_true,if_pos hcap,Nat.sub_zero,Nat.zero_mul,Nat.zero_add,gT];split <;> simp[hcc]
theorem Yv (hft:M.FT=FT){b n:Nat}{L:List Int}{e:TypeId}{hp:aa}(hb:hp.at b=some (.cells (al L) e))(hn:n<=L.length)(hl:n<1000000000)(hc:∀c,cap=some c->n<=c) :
 aV M 276 [.sl b 0 n 1 cap] hp ⟨bE b (aQ (L.take n)) cap,hp,[]⟩:=by
 have hbl:=cJ hb;refine mA (by rw[hft];exact Yg) be (by unfold bE;split <;> simp[AV.top,bc];omega) ?_;unfold KU;simp only[enter];repeat' first|refine gc ?_|fail
 have fin:∀(r:Nat) a1 lo,r<=n->bE b r cap=bE b (aQ (L.take n)) cap->SQ M (zR [zm 18 0,zm 19 2,⟨.l 20,.slice .sl 1 (.l 18) none (some (.l 19)) none,none⟩,zw 1 20] .ret)
  (fun x s=>(x = .normal\/x = .ret)/\s.s.bV=[]/\(∃J,s.s.hp=hp++J)/\(∀x∈s.wr,hp.length<=x)/\∃vs,dx s.s [.var (.p 1)]=some vs/\aW vs=bE b (aQ (L.take n)) cap) .normal ⟨⟨[.sl b 0 n 1 cap,a1,.iV r],lo,hp,[]⟩,[]⟩:=fun r a1 lo hr he=>by
  repeat' first|refine gc ?_|fail
  refine amj (k:=.i64) rfl rfl hr hc ?_;repeat' first|refine gc ?_|fail
  rw[he];exact⟨.inr rfl,rfl,⟨[],be⟩,be,_,rfl,rfl⟩
 have loop:∀(r:Nat) lo a1,r<=n->aQ (L.take r)=aQ (L.take n)->W M (.loop xH) ⟨⟨[.sl b 0 n 1 cap,a1,.iV r],lo,hp,[]⟩,[]⟩ (BQ 0 (SQ M (zR [zm 18 0,zm 19 2,⟨.l 20,.slice .sl 1 (.l 18) none (some (.l 19)) none,none⟩,zw 1 20] .ret)
  (fun x s=>(x = .normal\/x = .ret)/\s.s.bV=[]/\(∃J,s.s.hp=hp++J)/\(∀x∈s.wr,hp.length<=x)/\∃vs,dx s.s [.var (.p 1)]=some vs/\aW vs=bE b (aQ (L.take n)) cap))):=by
  intro r;induction r with
  | zero=>
   intro lo a1 hr he;refine W.loop ?_;unfold xH;exact gg1
  | succ r ih=>
   intro lo a1 hr he;have e:=pI (l:=L) (i:=r) ac;have ei:0+((((r+1:Nat):Int)-1).toNat)*1=r:=by omega
   have er:((r+1:Nat):Int)-1=r:=by omega
   refine W.loop ?_;unfold xH;by_cases h0:L[r]! = 0
   . rw[if_pos h0]at e;repeat' first|(apply akx;exact congrArg (fun z=>some (AV.ptr b z)) ei;exact hb;omega)|(apply aev;rfl;rfl)|(apply aeJ;rfl;rfl)|refine gc ?_|(intro _;omega)|intro _
     all_goals try omega
     refine iO ?_;have:=ih ((17,.iV (((r+1:Nat):Int)-1))::(16,.iV ((r+1:Nat):Int))::[]) a1 ac (e.symm.trans he);rw[←er]at this;exact this
   . rw[if_neg h0]at e;exact gg5
 exact loop n _ _ (d8 _) rfl
def bz (x:Int):Int:=if x<0 then -1 else if 0<x then 1 else 0
theorem xU {B:Int}(hB:1<B){a b:List Int}(ha:okW B a)(hb:okW B b){i:Nat}(hi:i<a.length)(hi2:i<b.length)(hd:a.drop (i+1)=b.drop (i+1))(h:a[i]! < b[i]!):WV B a<WV B b:=by
 have e1:=mC (b:=B) (l:=a) (i:=i) ac;have e2:=mC (b:=B) (l:=b) (i:=i) ac;rw[pH hi]at e1;rw[pH hi2,←hd]at e2;have h1:=dg ac (dF ha i);have h2:=cB ac (dF hb i);rw[b8,d9 ac]at h1;have h3:B^i*(a[i]! + B*WV B (a.drop (i+1))+1)<=B^i*(b[i]! + B*WV B (a.drop (i+1))):=b6 ac (dY (tG ac i));rw[fT _ _ 1,jU]at h3;omega
theorem Yw (hft:M.FT=FT)(a b:List Int)(ha:okW wB a)(hb:okW wB b)(na:aN a)(nb:aN b)(la:a.length<1000000000)(_lb:b.length<1000000000) :
 aV M 250 [.vs (al a) a.length c1,.vs (al b) b.length c2] [] ⟨.iV (bz (WV wB a-WV wB b)),[],[]⟩:=by
 have hB:(1:Int)<wB:=by decide
 refine bH (by rw[hft];exact Yh) be ?_;unfold KV;simp only[enter];by_cases hl:a.length=b.length
 . refine gg8 ?_;have loop:∀(r:Nat) lo a2,r<=a.length->a.drop r=b.drop r->W M (.loop xI) ⟨⟨[.vs (al a) a.length c1,.vs (al b) b.length c2,a2,.iV ((r:Int)-1)],lo,[],[]⟩,[]⟩ (BQ 0 (SQ M (zR [⟨.p 2,.mv (.c (.iV 0)),none⟩] .ret)
    fun e s=>(e = .normal\/e = .ret)/\s.s.bV=[]/\∃vs,dx s.s [.var (.p 2)]=some vs/\aW vs = .iV (bz (WV wB a-WV wB b))/\(if (AV.iV (bz (WV wB a-WV wB b))).top<=0 then [] else s.s.hp)=[])):=by
    intro r;induction r with
    | zero=>
     intro lo a2 hr hd;rw[m5,m5]at hd;refine W.loop ?_;unfold xI;repeat' first|(apply agV;rfl;rfl)|refine gc ?_|(intro _;omega)|intro _
     all_goals try omega
     exact⟨.inr rfl,rfl,_,rfl,by rw[hd,Int.sub_self];rfl,rfl⟩
    | succ r ih=>
     intro lo a2 hr hd;have er:((r+1:Nat):Int)-1=r:=by omega
     rw[er];refine W.loop ?_;unfold xI;by_cases he:a[((r:Int)).toNat]! = b[((r:Int)).toNat]!
     . have hd2:a.drop r=b.drop r:=by
        rw[c8 (show r<a.length by omega),c8 (show r<b.length by omega),hd,←getElem!_pos a r,←getElem!_pos b r];exact congrArg (· :: _) he
       repeat' first|(apply agV;rfl;rfl)|(apply acr;rfl;rfl)|refine gc ?_|(intro _;omega)|intro _
       all_goals first|contradiction|(omega)|skip
       exact iO (ih _ _ ac hd2)
     . by_cases hlt:a[((r:Int)).toNat]! < b[((r:Int)).toNat]!
       . have:=xU hB ha hb (i:=r) ac ac hd hlt;repeat' first|(apply abd;rfl;rfl)|(apply agV;rfl;rfl)|(apply acr;rfl;rfl)|refine gc ?_|(intro _;omega)|intro _
         all_goals first|contradiction|(omega)|exact⟨.inr rfl,rfl,_,rfl,by rw[bz,if_pos ac];rfl,rfl⟩
       . have:=xU hB hb ha (i:=r) ac ac hd.symm (show b[r]! < a[r]! from by
          have h1:a[r]! ≠ b[r]! := he;have h2:¬a[r]! < b[r]! := hlt;omega)
         repeat' first|(apply abd;rfl;rfl)|(apply agV;rfl;rfl)|(apply acr;rfl;rfl)|refine gc ?_|(intro _;omega)|intro _
         all_goals first|contradiction|(omega)|exact⟨.inr rfl,rfl,_,rfl,by rw[bz,if_neg ac,if_pos ac];rfl,rfl⟩
   exact loop a.length _ _ (d8 _) (by rw[j1,hl,j1])
 . by_cases hlt:a.length<b.length
   . have:=pJ hB ha hb nb hlt;repeat' first|(apply abd;rfl;rfl)|(apply acr;rfl;rfl)|refine gc ?_|(intro _;omega)|intro _
     all_goals first|contradiction|(omega)|exact⟨.inr rfl,rfl,_,rfl,by rw[bz,if_pos ac];rfl,rfl⟩
   . have:=pJ hB hb ha na ac;repeat' first|(apply abd;rfl;rfl)|(apply acr;rfl;rfl)|refine gc ?_|(intro _;omega)|intro _
     all_goals first|contradiction|(omega)|exact⟨.inr rfl,rfl,_,rfl,by rw[bz,if_neg ac,if_pos ac];rfl,rfl⟩
def lK (v:AV)(hh:aa)(r:List Int):Prop:=∃v1,fD hh v v1/\v1.top=0/\cf v1 = .vs (al r) r.length none
theorem Lj (l:List Int):dE (al l)=al l:=qZ (fun _=>rfl) l
theorem ib (l:List Int):bc (al l)=0:=jK (fun _=>rfl) l
theorem lK.trim {b:Nat}{L:List Int}{e:TypeId}{hp:aa}{n:Nat}(hb:hp.at b=some (.cells (al L) e))(hn:n<=L.length):lK (bE b (aQ (L.take n)) cap) (if (aW [bE b (aQ (L.take n)) cap]).top<=0 then [] else hp) (L.take (aQ (L.take n))):=by
 have hle:=iW (l:=L.take n);rw[b8]at hle;obtain⟨k,hk⟩:∃k,k=aQ (L.take n):=⟨_,rfl⟩;rw[←hk]at hle ⊢;by_cases h0:0<k
 . have e1:bE b k cap = .sl b 0 k 1 cap:=if_pos h0;rw[e1,if_neg (by simp[aW,AV.top])];have hl:(L.take k).length=k:=by rw[b8];omega
   have hF:Fr hp [b] (.sl b 0 k 1 cap) (.vs (al (L.take k)) k none):=by
    refine .sl (m:=al (L.take k)) be hb ?_ rfl (fun i x y hx hy=>?_) (.inr rfl)
    . have:=ji (f:=uC) (esz:=1) (fun _=>rfl) (l:=L) (i:=0) (n:=k) ac;grind
    . rw[hx]at hy;cases hy;exact .same (cO (ib _) hx)
   unfold lK;rw[hl];refine⟨_,⟨[b],hF,rfl,fun c l' e' hc hl'=>?_⟩,ib _,by rw[cf,Lj]⟩;rw[List.mem_singleton.1 hc,hb]at hl';cases hl';exact kH (fun _=>rfl) _
 . obtain rfl:k=0:=by omega
   exact⟨.vs [] 0 cap,.same rfl rfl,rfl,rfl⟩
theorem mE {n k:Nat}:(ci n (0:Int))[k]! = 0:=by
 rw[c9,List.getElem?_replicate];split <;> rfl
theorem jt {L:List Int}{i k:Nat}{v:Int}(h:i≠k):(L.set i v)[k]! = L[k]! := by
 grind
theorem Lk {L:List Int}{i:Nat}{v:Int}(h:i<L.length):(L.set i v)[i]! = v:=by
 grind
structure nM (M:aw):Prop where
 ft:M.FT=FT
 xV:∀ars h,M.ext 276 ars h=none
 nN:∀x y c h,0<=x->0<=y->0<=c->c<=1->M.ext 275 [.uV x,.uV y,.uV c] h=some ⟨.au [.uV ((x+y+c)%18446744073709551616),.uV ((x+y+c)/18446744073709551616)],h,[]⟩
 xW:∀(x y c:Int) h,0<=x->x<18446744073709551616->0<=y->y<18446744073709551616->0<=c->c<=1->M.ext 277 [.uV x,.uV y,.uV c] h=some ⟨.au [.uV ((x-y-c)%18446744073709551616),.uV (if x<y+c then 1 else 0)],h,[]⟩
theorem nM.kM (C:nM M){b n:Nat}{L:List Int}{e:TypeId}{hp:aa}(hb:hp.at b=some (.cells (al L) e))(hn:n<=L.length)(hl:n<1000000000)(hc:∀c,cap=some c->n<=c):CT M (.fn (.func 276) [] []) [.sl b 0 n 1 cap] hp ⟨bE b (aQ (L.take n)) cap,hp,[]⟩:=
 CT.run (fi:=[]) (ca:=[]) (C.xV _ _) (Yv C.ft hb hn hl hc)
def ry (M:aw)(g:Nat)(ars:List AV)(z:Int):Prop:=∃r:List Int,(okW wB r/\aN r/\WV wB r=z)/\∃v hh,lK v hh r/\aV M g ars [] ⟨v,hh,[]⟩
theorem Em {f N:Nat}{aR:List Nat}{res:List fA}{body:ak}{ars:List AV}{z:Int}(hft:M.FT f=some ⟨N,aR,res,body⟩)(hN:ars.length<=N)
 (h:W M body ⟨⟨aR.map (fun t=>(ars[t]?).getD bD),[],[],[]⟩,[]⟩ fun e s=>(e = .normal\/e = .ret)/\s.s.bV=[]/\∃vs,dx s.s res=some vs/\∃r:List Int,(okW wB r/\aN r/\WV wB r=z)/\lK (aW vs) (if (aW vs).top<=0 then [] else s.s.hp) r):ry M f ars z:=by
 obtain⟨v,hh,⟨r,hr,ho⟩,h2⟩:=gO (P:=fun v hh=>∃r:List Int,(okW wB r/\aN r/\WV wB r=z)/\lK v hh r) hft hN h;exact⟨r,hr,v,hh,ho,h2⟩
theorem lM {L:List Int}(ok:okW wB L):okW wB (L.take (aQ L))/\aN (L.take (aQ L))/\WV wB (L.take (aQ L))=WV wB L:=⟨dF ok _,El,xT⟩
def gm (y:List Int)(i:Nat):Int:=if i<y.length then y[i]! else 0
theorem tI {B:Int}{y:List Int}{i:Nat}:WV B (y.take (i+1))=WV B (y.take i)+B^i*gm y i:=by
 unfold gm;split
 . rename_i h;exact fE h
 . rename_i h;rw[b5 ac,b5 ac,d6,f7]
theorem Ll {y:List Int}(ok:okW wB y)(i:Nat):0<=gm y i/\gm y i<wB:=by
 unfold gm;split
 . rename_i h;exact cg ok h
 grind
theorem Lm (C:nM M)(x y:List Int)(hx:okW wB x)(hy:okW wB y)(lx:x.length<100000000)(ly:y.length<=x.length){Q:Ex->aq->Prop}(a2 a5 a6:AV)(lo:List (Nat×AV))
 (hQ:∀L (c:Int) a5 a6 lo wr,L.length=x.length+1->okW wB L->(0<=c/\c<=1)->L[x.length]! = 0->WV wB L+wB^x.length*c=WV wB x+WV wB y ->
   Q (.exit 0) ⟨⟨[.vs (al x) x.length c1,.vs (al y) y.length c2,a2,.sl 0 0 (x.length+1) 1 (some (x.length+1)),.uV c,a5,a6,.iV x.length,.iV x.length],lo,[some (.cells (al L) 246)],[]⟩,wr⟩) :
 W M (.loop xO) ⟨⟨[.vs (al x) x.length c1,.vs (al y) y.length c2,a2,.sl 0 0 (x.length+1) 1 (some (x.length+1)),.uV 0,a5,a6,.iV x.length,.iV 0],lo,[some (.cells (al (ci (x.length+1) 0)) 246)],[]⟩,[]⟩ Q:=by
 refine W.di x.length (fun i s=>∃L c a5 a6 lo wr,s=⟨⟨[.vs (al x) x.length c1,.vs (al y) y.length c2,a2,.sl 0 0 (x.length+1) 1 (some (x.length+1)),.uV c,a5,a6,.iV x.length,.iV i],lo,[some (.cells (al L) 246)],[]⟩,wr⟩ /\
  L.length=x.length+1/\okW wB L/\(0<=c/\c<=1)/\(∀k,i<=k->L[k]! = 0)/\WV wB L+wB^i*c=WV wB (x.take i)+WV wB (y.take i)) (fun i s hi ⟨L,c,a5,a6,lo,wr,hs,hl,bT,hc,hz,hv⟩=>?_) (fun s ⟨L,c,a5,a6,lo,wr,hs,hl,bT,hc,hz,hv⟩=>?_) (hZ _)
  ⟨_,_,_,_,_,_,rfl,be,lI am,⟨am,am⟩,fun k _=>mE,by rw[lJ];rfl⟩
 . subst hs;have gx:=cg hx hi;rw[show x[i]! = x[((i:Int)).toNat]! from rfl]at gx;have gy:=Ll hy i;obtain⟨v,hvv⟩:∃v,v=gm y i:=⟨_,rfl⟩;rw[←hvv]at gy;have q275:=fun h=>C.nN x[((i:Int)).toNat]! v c h gx.1 gy.1 hc.1 hc.2
   obtain⟨S,hS⟩:∃S,S=x[((i:Int)).toNat]! + v+c:=⟨_,rfl⟩;have hS2:0<=S/\S<2*18446744073709551616:=by
    have h1:x[((i:Int)).toNat]! < 18446744073709551616:=gx.2;have h2:v<18446744073709551616:=gy.2;omega
   have eI:0+((i:Int)).toNat*1=i:=by omega
   have next:∀a5 a6 lo wr,LI (fun s=>∃L c a5 a6 lo wr,s=⟨⟨[.vs (al x) x.length c1,.vs (al y) y.length c2,a2,.sl 0 0 (x.length+1) 1 (some (x.length+1)),.uV c,a5,a6,.iV x.length,.iV ((i+1:Nat):Int)],lo,[some (.cells (al L) 246)],[]⟩,wr⟩ /\
    L.length=x.length+1/\okW wB L/\(0<=c/\c<=1)/\(∀k,i+1<=k->L[k]! = 0)/\WV wB L+wB^(i+1)*c=WV wB (x.take (i+1))+WV wB (y.take (i+1))) Q .normal ⟨⟨[.vs (al x) x.length c1,.vs (al y) y.length c2,a2,.sl 0 0 (x.length+1) 1 (some (x.length+1)),.uV (S/18446744073709551616),a5,a6,.iV x.length,.iV ((i:Int)+1)],lo,[some (.cells (al (L.set i (S%18446744073709551616))) 246)],[]⟩,wr⟩:=fun a5 a6 lo wr=>
    bW ⟨_,_,a5,a6,lo,wr,rfl,bS,gQ bT ⟨ac,bS⟩,⟨ac,ac⟩,fun k hk=>by rw[jt ac];grind,by
     rw[gR ac,hz i (d8 _),fE hi,tI (y:=y),←hvv,b9];grind⟩
   unfold xO;by_cases hy2:i<y.length
   . have e:v=y[((i:Int)).toNat]! := by rw[hvv,gm,if_pos hy2];rfl
     rw[e]at q275 hS;refine gg14 ?_;rw[←hS];exact next _ _ _ _
   . have e:v=0:=by rw[hvv,gm,if_neg hy2]
     rw[e]at q275 hS;refine gg14 ?_;rw[←hS];exact next _ _ _ _
 . subst hs;rw[dN,b5 ly]at hv;unfold xO;exact gg0
theorem Yx (C:nM M)(x y:List Int)(hx:okW wB x)(hy:okW wB y)(lx:x.length<100000000)(ly:y.length<100000000):ry M 249 [.vs (al x) x.length c1,.vs (al y) y.length c2] (WV wB x+WV wB y):=by
 have fin:∀(x y:List Int) (L:List Int) (c:Int),okW wB x->x.length<100000000->L.length=x.length+1->okW wB L->(0<=c/\c<=1)->L[x.length]! = 0->WV wB L+wB^x.length*c=WV wB x+WV wB y ->
  okW wB (L.set x.length c)/\WV wB (L.set x.length c)=WV wB x+WV wB y:=fun x y L c _ _ hl bT hc hz hv=>
  ⟨gQ bT ⟨hc.1,bS⟩,by rw[gR ac,hz,i9];exact hv⟩
 refine Em (by rw[C.ft];exact Yl) be ?_;unfold KZ;simp only[enter];by_cases hl:x.length<y.length
 . refine gg4 ?_;refine Lm (c1:=c2) (c2:=c1) C y x hy hx ly ac _ _ _ _ (fun L c a5 a6 lo wr h1 h2 h3 h4 h5=>?_);obtain⟨f1,f2⟩:=fin y x L c hy ly h1 h2 h3 h4 h5;have q:=C.kM (cap:=some (y.length+1)) (b:=0) (n:=y.length+1) (L:=L.set y.length c) (e:=246) (hp:=[some (.cells (al (L.set y.length c)) 246)]) rfl bS ac be;rw[b5 bS]at q;have eI:0+((y.length:Int)).toNat*1=y.length:=by omega
   repeat' first|refine gd9 ?_|refine gd6 ?_|refine gc ?_|fail
   refine⟨.inr rfl,rfl,_,rfl,(L.set y.length c).take (aQ (L.set y.length c)),?_,?_⟩
   . obtain⟨g1,g2,g3⟩:=lM f1;grind
   . have:=lK.trim (cap:=some (y.length+1)) (b:=0) (L:=L.set y.length c) (e:=246) (hp:=[some (.cells (al (L.set y.length c)) 246)]) (n:=y.length+1) rfl bS;rw[b5 bS]at this;exact this
 . refine gg4 ?_;refine Lm (c1:=c1) (c2:=c2) C x y hx hy lx ac _ _ _ _ (fun L c a5 a6 lo wr h1 h2 h3 h4 h5=>?_);obtain⟨f1,f2⟩:=fin x y L c hx lx h1 h2 h3 h4 h5;have q:=C.kM (cap:=some (x.length+1)) (b:=0) (n:=x.length+1) (L:=L.set x.length c) (e:=246) (hp:=[some (.cells (al (L.set x.length c)) 246)]) rfl bS ac be;rw[b5 bS]at q;have eI:0+((x.length:Int)).toNat*1=x.length:=by omega
   repeat' first|refine gd9 ?_|refine gd6 ?_|refine gc ?_|fail
   refine⟨.inr rfl,rfl,_,rfl,(L.set x.length c).take (aQ (L.set x.length c)),?_,?_⟩
   . obtain⟨g1,g2,g3⟩:=lM f1;grind
   . have:=lK.trim (cap:=some (x.length+1)) (b:=0) (L:=L.set x.length c) (e:=246) (hp:=[some (.cells (al (L.set x.length c)) 246)]) (n:=x.length+1) rfl bS;rw[b5 bS]at this;exact this
theorem Yy (C:nM M)(x y:List Int)(hx:okW wB x)(hy:okW wB y)(lx:x.length<100000000)(ly:y.length<=x.length){Q:Ex->aq->Prop}(a2 a5 a6:AV)(lo:List (Nat×AV))
 (hQ:∀L (c:Int) a5 a6 lo wr,L.length=x.length->okW wB L->(0<=c/\c<=1)->WV wB L-wB^x.length*c=WV wB x-WV wB y ->
   Q (.exit 0) ⟨⟨[.vs (al x) x.length c1,.vs (al y) y.length c2,a2,.sl 0 0 x.length 1 (some x.length),.uV c,a5,a6,.iV x.length,.iV x.length],lo,[some (.cells (al L) 246)],[]⟩,wr⟩) :
 W M (.loop xP) ⟨⟨[.vs (al x) x.length c1,.vs (al y) y.length c2,a2,.sl 0 0 x.length 1 (some x.length),.uV 0,a5,a6,.iV x.length,.iV 0],lo,[some (.cells (al (ci x.length 0)) 246)],[]⟩,[]⟩ Q:=by
 refine W.di x.length (fun i s=>∃L c a5 a6 lo wr,s=⟨⟨[.vs (al x) x.length c1,.vs (al y) y.length c2,a2,.sl 0 0 x.length 1 (some x.length),.uV c,a5,a6,.iV x.length,.iV i],lo,[some (.cells (al L) 246)],[]⟩,wr⟩ /\
  L.length=x.length/\okW wB L/\(0<=c/\c<=1)/\(∀k,i<=k->L[k]! = 0)/\WV wB L-wB^i*c=WV wB (x.take i)-WV wB (y.take i)) (fun i s hi ⟨L,c,a5,a6,lo,wr,hs,hl,bT,hc,hz,hv⟩=>?_) (fun s ⟨L,c,a5,a6,lo,wr,hs,hl,bT,hc,hz,hv⟩=>?_) (hZ _)
  ⟨_,_,_,_,_,_,rfl,be,lI am,⟨am,am⟩,fun k _=>mE,by rw[lJ];simp[WV]⟩
 . subst hs;have gx:=cg hx hi;rw[show x[i]! = x[((i:Int)).toNat]! from rfl]at gx;have gy:=Ll hy i;obtain⟨v,hvv⟩:∃v,v=gm y i:=⟨_,rfl⟩;rw[←hvv]at gy;have q277:=fun h=>C.xW x[((i:Int)).toNat]! v c h gx.1 gx.2 gy.1 gy.2 hc.1 hc.2
   obtain⟨S,hS⟩:∃S,S=x[((i:Int)).toNat]! - v-c:=⟨_,rfl⟩;obtain⟨D,hD⟩:∃D:Int,D=if x[((i:Int)).toNat]! < v+c then 1 else 0:=⟨_,rfl⟩
   have hD2:0<=D/\D<=1/\S=S%18446744073709551616-18446744073709551616*D:=by
    have h1:x[((i:Int)).toNat]! < 18446744073709551616:=gx.2;have h2:v<18446744073709551616:=gy.2;rw[hD];split <;> omega
   have eI:0+((i:Int)).toNat*1=i:=by omega
   have next:∀a5 a6 lo wr,LI (fun s=>∃L c a5 a6 lo wr,s=⟨⟨[.vs (al x) x.length c1,.vs (al y) y.length c2,a2,.sl 0 0 x.length 1 (some x.length),.uV c,a5,a6,.iV x.length,.iV ((i+1:Nat):Int)],lo,[some (.cells (al L) 246)],[]⟩,wr⟩ /\
    L.length=x.length/\okW wB L/\(0<=c/\c<=1)/\(∀k,i+1<=k->L[k]! = 0)/\WV wB L-wB^(i+1)*c=WV wB (x.take (i+1))-WV wB (y.take (i+1))) Q .normal ⟨⟨[.vs (al x) x.length c1,.vs (al y) y.length c2,a2,.sl 0 0 x.length 1 (some x.length),.uV D,a5,a6,.iV x.length,.iV ((i:Int)+1)],lo,[some (.cells (al (L.set i (S%18446744073709551616))) 246)],[]⟩,wr⟩:=fun a5 a6 lo wr=>
    bW ⟨_,_,a5,a6,lo,wr,rfl,by rw[iy];exact hl,gQ bT ⟨ac,by show _<(18446744073709551616:Int);omega⟩,⟨hD2.1,hD2.2.1⟩,fun k hk=>by rw[jt ac];exact hz k ac,by
     rw[gR ac,hz i (d8 _),fE hi,tI (y:=y),←hvv,b9];have e:S=x[i]! - v-c:=hS;have e3:wB^i*(S%18446744073709551616)-wB^i*18446744073709551616*D=wB^i*(x[i]! - v-c):=by rw[←e,f9,←j7,←hD2.2.2]
     show WV wB L+wB^i*(S%18446744073709551616-0)-wB^i*18446744073709551616*D=_;grind⟩
   unfold xP;by_cases hy2:i<y.length
   . have e:v=y[((i:Int)).toNat]! := by rw[hvv,gm,if_pos hy2];rfl
     rw[e]at q277 hS hD;rw[←hS,←hD]at q277;exact gg15
   . have e:v=0:=by rw[hvv,gm,if_neg hy2]
     rw[e]at q277 hS hD;rw[←hS,←hD]at q277;exact gg15
 . subst hs;rw[dN,b5 ly]at hv;unfold xP;exact gg0
theorem Yz (C:nM M)(x y:List Int)(hx:okW wB x)(hy:okW wB y)(lx:x.length<100000000)(ly:y.length<=x.length)(hle:WV wB y<=WV wB x):ry M 251 [.vs (al x) x.length c1,.vs (al y) y.length c2] (WV wB x-WV wB y):=by
 refine Em (by rw[C.ft];exact Ym) be ?_;unfold La;simp only[enter];repeat' first|refine gc ?_|fail
 all_goals try omega
 refine Yy (c1:=c1) (c2:=c2) C x y hx hy lx ly _ _ _ _ (fun L c a5 a6 lo wr h1 h2 h3 h5=>?_);have h6:WV wB L=WV wB x-WV wB y:=by
  have h7:=dg (b:=wB) am h2;rw[h1]at h7;have h8:c=0:=by
   rcases f8 0 c with h|h
   . have:c=1:=by omega
     subst this;rw[jU]at h5;omega
   . omega
  subst h8;rw[d6]at h5;omega
 have q:=C.kM (cap:=some x.length) (b:=0) (n:=x.length) (L:=L) (e:=246) (hp:=[some (.cells (al L) 246)]) rfl ac ac (fun c hc=>by cases hc;exact d8 _);rw[b5 ac]at q;refine gg4 ?_;refine⟨.inr rfl,rfl,_,rfl,L.take (aQ L),?_,?_⟩
 . obtain⟨g1,g2,g3⟩:=lM h2;exact⟨g1,g2,by rw[g3,h6]⟩
 . have:=lK.trim (cap:=some x.length) (b:=0) (L:=L) (e:=246) (hp:=[some (.cells (al L) 246)]) (n:=x.length) rfl ac;rw[b5 ac]at this;exact this
structure nO (M:aw):Prop extends nM M where
 pK:∀(x y:Int) h,(0<=x/\x<18446744073709551616)->(0<=y/\y<18446744073709551616)->M.ext 244 [.uV x,.uV y] h=some ⟨.au [.uV (x*y/18446744073709551616),.uV (x*y%18446744073709551616)],h,[]⟩
theorem xX {x y:Int}(hx:0<=x/\x<18446744073709551616)(hy:0<=y/\y<18446744073709551616):0<=x*y/\x*y<=340282366920938463426481119284349108225:=by
 refine⟨dO hx.1 hy.1,?_⟩;have:=i4 (a:=x) (b:=y) (c:=18446744073709551615) (d:=18446744073709551615) ac ac hy.1 ac;omega
theorem YA (C:nO M)(a b:List Int)(hb:okW wB b)(la:a.length<10000000)(lb:b.length<10000000)(i:Nat)(hi:i<a.length)(x P:Int)(hx:0<=x/\x<18446744073709551616){Q:Ex->aq->Prop}(a2 a7 a8 a9 aA aB aC aD aE:AV)(lo:List (Nat×AV))(wr:List Nat)(L:List Int)(hl:L.length=a.length+b.length)(bT:okW wB L)(hz:∀k,i+b.length<=k->L[k]! = 0)(hv:WV wB L=P)
 (hQ:∀L (c:Int) a7 a8 a9 aA aB lo wr,L.length=a.length+b.length->okW wB L->(0<=c/\c<18446744073709551616)->(∀k,i+b.length<=k->L[k]! = 0)->WV wB L+wB^(i+b.length)*c=P+wB^i*x*WV wB b ->
   Q (.exit 2) ⟨⟨[.vs (al a) a.length c1,.vs (al b) b.length c2,a2,.sl 0 0 (a.length+b.length) 1 (some (a.length+b.length)),.iV i,.uV x,.uV c,a7,a8,a9,aA,aB,aC,aD,aE,.vs (al b) b.length c2,.iV b.length,.iV b.length],lo,[some (.cells (al L) 246)],[]⟩,wr⟩) :
 W M (.loop xJ) ⟨⟨[.vs (al a) a.length c1,.vs (al b) b.length c2,a2,.sl 0 0 (a.length+b.length) 1 (some (a.length+b.length)),.iV i,.uV x,.uV 0,a7,a8,a9,aA,aB,aC,aD,aE,.vs (al b) b.length c2,.iV b.length,.iV 0],lo,[some (.cells (al L) 246)],[]⟩,wr⟩ Q:=by
 refine W.di b.length (fun j s=>∃L c a7 a8 a9 aA aB lo wr,s=⟨⟨[.vs (al a) a.length c1,.vs (al b) b.length c2,a2,.sl 0 0 (a.length+b.length) 1 (some (a.length+b.length)),.iV i,.uV x,.uV c,a7,a8,a9,aA,aB,aC,aD,aE,.vs (al b) b.length c2,.iV b.length,.iV j],lo,[some (.cells (al L) 246)],[]⟩,wr⟩ /\
  L.length=a.length+b.length/\okW wB L/\(0<=c/\c<18446744073709551616)/\(∀k,i+b.length<=k->L[k]! = 0)/\WV wB L+wB^(i+j)*c=P+wB^i*x*WV wB (b.take j)) (fun j s hj ⟨L,c,a7,a8,a9,aA,aB,lo,wr,hs,hl,bT,hc,hz,hv⟩=>?_) (fun s ⟨L,c,a7,a8,a9,aA,aB,lo,wr,hs,hl,bT,hc,hz,hv⟩=>?_) (hZ _)
  ⟨_,_,_,_,_,_,_,_,_,rfl,hl,bT,⟨am,am⟩,hz,by rw[hv];simp[WV]⟩
 . subst hs;have gy:=cg hb hj;rw[show b[j]! = b[((j:Int)).toNat]! from rfl]at gy;obtain⟨y,hy⟩:∃y,y=b[((j:Int)).toNat]! := ⟨_,rfl⟩;rw[←hy]at gy;have gy:0<=y/\y<18446744073709551616:=gy;have q244:=fun h=>C.pK x y h hx gy
   have hm:=xX hx gy;have hxy:∃m,m=x*y:=⟨_,rfl⟩;obtain⟨m,hmm⟩:=hxy;rw[←hmm]at q244 hm;have gL:=cg bT (i:=i+j) ac;obtain⟨w,hw⟩:∃w,w=L[i+j]! := ⟨_,rfl⟩;rw[←hw]at gL;have gL:0<=w/\w<18446744073709551616:=gL;have q1:=fun h=>C.nN (m%18446744073709551616) w 0 h ac gL.1 am am
   have q2:=fun h=>C.nN ((m%18446744073709551616+w+0)%18446744073709551616) c 0 h ac hc.1 am am
   obtain⟨R,hR⟩:∃R,R=((m%18446744073709551616+w+0)%18446744073709551616+c+0)%18446744073709551616:=⟨_,rfl⟩;obtain⟨D,hD⟩:∃D,D=m/18446744073709551616+(m%18446744073709551616+w+0)/18446744073709551616+((m%18446744073709551616+w+0)%18446744073709551616+c+0)/18446744073709551616:=⟨_,rfl⟩;have hD2:(0<=D/\D<18446744073709551616)/\m+w+c=R+18446744073709551616*D/\(0<=R/\R<18446744073709551616):=by omega
   have eI:0+(((i:Int)+(j:Int))).toNat*1=i+j:=by omega
   have next:∀a7 a8 a9 aA aB lo wr,LI (fun s=>∃L c a7 a8 a9 aA aB lo wr,s=⟨⟨[.vs (al a) a.length c1,.vs (al b) b.length c2,a2,.sl 0 0 (a.length+b.length) 1 (some (a.length+b.length)),.iV i,.uV x,.uV c,a7,a8,a9,aA,aB,aC,aD,aE,.vs (al b) b.length c2,.iV b.length,.iV ((j+1:Nat):Int)],lo,[some (.cells (al L) 246)],[]⟩,wr⟩ /\
    L.length=a.length+b.length/\okW wB L/\(0<=c/\c<18446744073709551616)/\(∀k,i+b.length<=k->L[k]! = 0)/\WV wB L+wB^(i+(j+1))*c=P+wB^i*x*WV wB (b.take (j+1))) Q .normal ⟨⟨[.vs (al a) a.length c1,.vs (al b) b.length c2,a2,.sl 0 0 (a.length+b.length) 1 (some (a.length+b.length)),.iV i,.uV x,.uV D,a7,a8,a9,aA,aB,aC,aD,aE,.vs (al b) b.length c2,.iV b.length,.iV ((j:Int)+1)],lo,[some (.cells (al (L.set (i+j) R)) 246)],[]⟩,wr⟩:=fun a7 a8 a9 aA aB lo wr=>
    bW ⟨_,_,a7,a8,a9,aA,aB,lo,wr,rfl,bS,gQ bT hD2.2.2,hD2.1,fun k hk=>by grind,by
     rw[gR ac,←hw,fE hj,show i+(j+1)=(i+j)+1 from rfl,b9,show b[j]! = y from hy.symm];grind⟩
   rw[hD,hR,hw]at next
   rw[hw]at q1 q2;rw[hy]at q244;unfold xJ;exact gg15
 . subst hs;rw[dN]at hv;unfold xJ;exact gg0
theorem YB (C:nO M)(a b:List Int)(ha:okW wB a)(hb:okW wB b)(la:a.length<10000000)(lb:b.length<10000000):ry M 248 [.vs (al a) a.length c1,.vs (al b) b.length c2] (WV wB a*WV wB b):=by
 refine Em (by rw[C.ft];exact Yi) be ?_;unfold KW;simp only[enter];repeat' first|refine gc ?_|fail
 have e0:((a.length:Int)+(b.length:Int)).toNat=a.length+b.length:=by omega
 rw[e0];refine W.di a.length (fun i s=>∃L a4 a5 a6 a7 a8 a9 aA aB aF aG aH lo wr,s=⟨⟨[.vs (al a) a.length c1,.vs (al b) b.length c2,.ab,.sl 0 0 (a.length+b.length) 1 (some (a.length+b.length)),a4,a5,a6,a7,a8,a9,aA,aB,.vs (al a) a.length c1,.iV a.length,.iV i,aF,aG,aH],lo,[some (.cells (al L) 246)],[]⟩,wr⟩ /\
  L.length=a.length+b.length/\okW wB L/\(∀k,i+b.length<=k->L[k]! = 0)/\WV wB L=WV wB (a.take i)*WV wB b) (fun i s hi ⟨L,a4,a5,a6,a7,a8,a9,aA,aB,aF,aG,aH,lo,wr,hs,hl,bT,hz,hv⟩=>?_) (fun s ⟨L,a4,a5,a6,a7,a8,a9,aA,aB,aF,aG,aH,lo,wr,hs,hl,bT,hz,hv⟩=>?_) (hZ _)
  ⟨ci (a.length+b.length) 0,_,_,_,_,_,_,_,_,_,_,_,_,_,rfl,be,lI am,fun k _=>mE,by rw[lJ];simp[WV]⟩
 . subst hs;have gx:=cg ha hi;rw[show a[i]! = a[((i:Int)).toNat]! from rfl]at gx;have eI:0+(((i:Int)+(b.length:Int))).toNat*1=i+b.length:=by omega
   unfold Eh;refine gg4 ?_;refine YA (c1:=c1) (c2:=c2) C a b hb la lb i hi a[((i:Int)).toNat]! _ gx _ _ _ _ _ _ _ _ _ _ _ L hl bT hz hv (fun L2 c a7 a8 a9 aA aB lo wr h1 h2 h3 h4 h5=>?_);refine gg14 ?_;refine bW ⟨L2.set (i+b.length) c,_,_,_,_,_,_,_,_,_,_,_,_,_,rfl,bS,gQ h2 h3,fun k hk=>by rw[jt ac];grind,?_⟩;rw[gR ac,h4 _ (d8 _),i9,h5,fE hi];grind
 . subst hs;rw[dN]at hv;have q:=C.kM (cap:=some (a.length+b.length)) (b:=0) (n:=a.length+b.length) (L:=L) (e:=246) (hp:=[some (.cells (al L) 246)]) rfl ac ac be;rw[b5 ac]at q;unfold Eh;refine gg4 ?_;refine⟨.inr rfl,rfl,_,rfl,L.take (aQ L),?_,?_⟩
   . obtain⟨g1,g2,g3⟩:=lM bT;grind
   . have:=lK.trim (cap:=some (a.length+b.length)) (b:=0) (L:=L) (e:=246) (hp:=[some (.cells (al L) 246)]) (n:=a.length+b.length) rfl ac;rw[b5 ac]at this;exact this
def Ln:ak:=zR [zi 1 0] (.seq (zR [zm 3 0,⟨.l 4,.bin .geq (.l 3) (kU 4294967296),none⟩] (.cond (.l 4) (zR [zm 5 0,⟨.l 6,.bin .shr (.l 5) (kU 32),none⟩,zw 0 6] (.region [zi 1 32])) (.skip))) (.seq (zR [zm 7 0,⟨.l 8,.bin .geq (.l 7) (kU 65536),none⟩] (.cond (.l 8) (zR [zm 9 0,⟨.l 10,.bin .shr (.l 9) (kU 16),none⟩,zw 0 10] (.region [zm 11 1,zc 12 .add 11 16,zw 1 12])) (.skip))) (.seq (zR [zm 13 0,⟨.l 14,.bin .geq (.l 13) (kU 256),none⟩] (.cond (.l 14) (zR [zm 15 0,⟨.l 16,.bin .shr (.l 15) (kU 8),none⟩,zw 0 16] (.region [zm 17 1,zc 18 .add 17 8,zw 1 18])) (.skip))) (zR [zm 19 1,zm 20 0,⟨.l 21,.dM .u8 (.l 20),none⟩,⟨.l 22,.index (.c (.str zD0)) (.l 21),none⟩,⟨.l 23,.dM .i64 (.l 22),none⟩,zb 24 .add 19 23,zw 1 24] (.ret)))))
theorem YC:FT 240=some ⟨25,[0,2],[.var (.p 1)],Ln⟩:=by kernel_rfl
def cj (x:Int):Nat:=if x=0 then 0 else x.toNat.log2+1
theorem Lo {x:Int}{n:Nat}(h:2^n<=x/\x<2^(n+1)):cj x=n+1:=by
 have h0:0<x:=by have:=c7 (n:=2) (m:=n) am;omega
 obtain⟨k,rfl⟩:=i3 (dY h0);have hk:k≠0:=by omega
 rw[cj,if_neg ac];have:(k:Int).toNat=k:=rfl;rw[this,(mW hk).2 ⟨by exact_mod_cast h.1,by exact_mod_cast h.2⟩]
theorem pM {x:Int}(h:0<x):1<=cj x/\2^(cj x-1)<=x/\x<2^cj x:=by
 obtain⟨k,rfl⟩:=i3 (dY h);have hk:k≠0:=by omega
 rw[cj,if_neg ac];have h1:=(mW hk).1 rfl;have:(k:Int).toNat=k:=rfl;rw[this];refine⟨ac,?_,?_⟩
 . rw[Nat.add_sub_cancel];exact_mod_cast h1.1
 . exact_mod_cast h1.2
theorem pO {x:Int}{n:Nat}(h:x<2^n)(h0:0<=x):cj x<=n:=by
 by_cases hx:x=0
 . simp[cj,hx]
 . obtain⟨h1,h2,h3⟩:=pM (show 0<x by omega);rcases Nat.lt_or_ge n (cj x) with h4|h4
   . have:(2:Int)^n<=2^(cj x-1):=gS am ac;omega
   . exact h4
theorem YD {x:Int}{s n:Nat}{u:Int}(hu:u=x/2^s)(_h0:0<=x)(h:2^n<=u/\u<2^(n+1)):cj x=s+n+1:=by
 have hp:=c7 (n:=2) (m:=s) am;subst hu;refine Lo ⟨?_,?_⟩
 . have h1:=b6 h.1 (dY hp);have h2:=j8 (x:=x) (k:=2^s) ac;rw[i6];omega
 . have h1:2^s*(x/2^s+1)<=2^s*2^(n+1):=b6 ac (dY hp);have h2:=fG (x:=x) (k:=2^s) hp;rw[fT]at h1;rw[show s+n+1=s+(n+1) by omega,i6];omega
def mF:ah:=[0,1,2,2,3,3,3,3,4,4,4,4,4,4,4,4,5,5,5,5,5,5,5,5,5,5,5,5,5,5,5,5]++ci 32 6++ci 64 7++ci 128 8
theorem YE:∀k:Fin 256,0<k.val->1<=(mF[k.val]!).toNat/\2^((mF[k.val]!).toNat-1)<=k.val/\k.val<2^((mF[k.val]!).toNat-1+1):=by decide +kernel
theorem YF {u:Int}(h0:0<u)(h:u<256):∃n:Nat,(mF[u.toNat]!).toNat=n+1/\(2:Int)^n<=u/\u<2^(n+1):=by
 obtain⟨k,rfl⟩:=i3 (dY h0);obtain⟨h1,h2,h3⟩:=YE ⟨k,ac⟩ (by simpa using h0);refine⟨(mF[k]!).toNat-1,by simp only at h1;rw[show (k:Int).toNat=k from rfl];omega,?_,?_⟩
 . exact_mod_cast h2
 . exact_mod_cast h3
set_option maxRecDepth 100000 in
theorem YG (hft:M.FT=FT)(x:Int)(hx:0<=x/\x<18446744073709551616):aV M 240 [.uV x] [] ⟨.iV (cj x),[],[]⟩:=by
 have key:∀(u:Int) (s:Nat),u=x/2^s->(0<u/\u<256)->((mF[u.toNat]!).toNat:Int)+s=cj x:=fun u s hu h=>by
  obtain⟨n,e,h2⟩:=YF h.1 h.2;rw[YD hu hx.1 h2,e];omega
 have tl:mF.length=256:=by decide +kernel
 have tb:∀k:Nat,(mF[k]!).toNat<256:=fun k=>UInt8.toNat_lt _
 refine bH (by rw[hft];exact YC) be ?_;unfold Ln;simp only[enter];repeat' first|(apply alK (n:=32) (c:=4294967296);rfl;rfl;rfl;decide;rfl)|(apply alK (n:=16) (c:=65536);rfl;rfl;rfl;decide;rfl)|(apply alK (n:=8) (c:=256);rfl;rfl;rfl;decide;rfl)|(apply amE;rfl)|(apply alO (s:=mF);rfl;rfl;omega)|(apply amr;rfl;(have:=tb;refine⟨ac,?_⟩;exact Int.lt_trans (Int.ofNat_lt.2 (tb _)) am))|(apply ajM;rfl;rfl;exact⟨Int.le_trans am (Int.add_nonneg am (Int.natCast_nonneg _)),Int.lt_of_le_of_lt (Int.add_le_add (Int.le_refl _) (Int.ofNat_le.2 (Nat.le_of_lt (tb _)))) am⟩)|(apply agV;rfl;rfl)|refine gc ?_|(intro _;omega)|intro _
 all_goals try omega
 all_goals refine⟨.inr rfl,rfl,_,rfl,congrArg (fun z=>AV.iV z) ?_,rfl⟩
 . have e:x/4294967296/65536/256%256=x/4294967296/65536/256:=by omega
   rw[e,←key (x/4294967296/65536/256) 56 (by rw[show (2:Int)^56=72057594037927936 from rfl];omega) ⟨ac,ac⟩];omega
 . have e:x/4294967296/65536%256=x/4294967296/65536:=by omega
   rw[e,←key (x/4294967296/65536) 48 (by rw[show (2:Int)^48=281474976710656 from rfl];omega) ⟨ac,ac⟩];omega
 . have e:x/4294967296/256%256=x/4294967296/256:=by omega
   rw[e,←key (x/4294967296/256) 40 (by rw[show (2:Int)^40=1099511627776 from rfl];omega) ⟨ac,ac⟩];omega
 . have e:x/4294967296%256=x/4294967296:=by omega
   rw[e,←key (x/4294967296) 32 (by rw[show (2:Int)^32=4294967296 from rfl]) ⟨ac,ac⟩];omega
 . have e:x/65536/256%256=x/65536/256:=by omega
   rw[e,←key (x/65536/256) 24 (by rw[show (2:Int)^24=16777216 from rfl];omega) ⟨ac,ac⟩];omega
 . have e:x/65536%256=x/65536:=by omega
   rw[e,←key (x/65536) 16 (by rw[show (2:Int)^16=65536 from rfl]) ⟨ac,ac⟩];omega
 . have e:x/256%256=x/256:=by omega
   rw[e,←key (x/256) 8 (by rw[show (2:Int)^8=256 from rfl]) ⟨ac,ac⟩];omega
 . by_cases h0:x=0
   . subst h0;decide +kernel
   . have e:x%256=x:=by omega
     rw[e,←key x 0 be ⟨ac,ac⟩];omega
theorem YH (hft:M.FT=FT)(x:Int)(hx:0<=x/\x<18446744073709551616)(tJ:∀h,M.ext 240 [.uV x] h=some ⟨.iV (cj x),h,[]⟩):aV M 279 [.uV x] [] ⟨.iV (64-cj x:Nat),[],[]⟩:=by
 have hb:cj x<=64:=pO (n:=64) hx.2 hx.1;refine bH (by rw[hft];exact Yq) be ?_;unfold Le;simp only[enter];repeat' first|refine gd0 ?_|refine gc ?_|fail
 exact⟨.inr rfl,rfl,_,rfl,congrArg (fun z=>AV.iV z) ac,rfl⟩
structure gn (y1 y0 v w q r:Int):Prop where
 q0:0<=q
 r0:0<=r
 e:q*y1+r=v
 ge:(v*4294967296+w)/(y1*4294967296+y0)<=q
structure jO (y1 y0 v w:Int):Prop where
 h1:2147483648<=y1/\y1<4294967296
 h0:0<=y0/\y0<4294967296
 hv:0<=v/\v<y1*4294967296+y0
 hw:0<=w/\w<4294967296
variable {y1 y0 v w q r:Int}
theorem jO.lt (C:jO y1 y0 v w):0<=(v*4294967296+w)/(y1*4294967296+y0)/\(v*4294967296+w)/(y1*4294967296+y0)<4294967296:=by
 have h1:=C.h1;have h0:=C.h0;have hv:=C.hv;have hw:=C.hw;exact⟨fm ac ac,ce ac ac⟩
theorem gn.Lp (C:jO y1 y0 v w)(I:gn y1 y0 v w q r):q<=4294967297:=by
 have h1:=C.h1;have h0:=C.h0;have hv:=C.hv;rcases f8 4294967297 q with h|h
 . have h2:4294967298*y1<=q*y1:=b7 ac ac;have h3:=I.e;have h4:=I.r0;omega
 . exact h
theorem gn.full (_C:jO y1 y0 v w)(I:gn y1 y0 v w q r):q*(y1*4294967296+y0)=(v-r)*4294967296+q*y0:=by
 have e:=I.e;grind
theorem gn.exit (C:jO y1 y0 v w)(I:gn y1 y0 v w q r)(h:q*y0<=4294967296*r+w):q=(v*4294967296+w)/(y1*4294967296+y0):=by
 have h1:=C.h1;have h0:=C.h0;have h2:q<=(v*4294967296+w)/(y1*4294967296+y0):=j5 ac (by rw[I.full C];omega);have:=I.ge;omega
theorem gn.dec (C:jO y1 y0 v w)(I:gn y1 y0 v w q r)(h:4294967296<=q\/4294967296*r+w<q*y0):gn y1 y0 v w (q-1) (r+y1):=by
 have h1:=C.h1;have h0:=C.h0;have hl:=C.lt;have hg:(v*4294967296+w)/(y1*4294967296+y0)<=q-1:=by
  rcases h with h|h
  . omega
  . have:(v*4294967296+w)/(y1*4294967296+y0)<q:=ce ac (by rw[I.full C];omega);omega
 exact⟨ac,by have:=I.r0;omega,by have:=I.e;grind,hg⟩
theorem gn.nP (C:jO y1 y0 v w)(I:gn y1 y0 v w q r)(h:4294967296<=r):q=(v*4294967296+w)/(y1*4294967296+y0):=by
 have h1:=C.h1;have h0:=C.h0;have hv:=C.hv;have hw:=C.hw;have hq:q<4294967296:=by
  rcases f8 q 4294967296 with h'|h'
  . exact h'
  . have h2:4294967296*y1<=q*y1:=b7 h' ac;have:=I.e;omega
 refine I.exit C ?_;have h3:=i4 (a:=q) (b:=y0) (c:=4294967295) (d:=4294967295) ac ac h0.1 ac;omega
theorem gn.init (C:jO y1 y0 v w):gn y1 y0 v w (v/y1) (v-v/y1*y1):=by
 have h1:=C.h1;have h0:=C.h0;have hv:=C.hv;have hw:=C.hw;have e1:=j8 (x:=v) (k:=y1) ac;have e2:=fG (x:=v) (k:=y1) ac;have e3:y1*(v/y1)=v/y1*y1:=bS;refine⟨fm hv.1 ac,ac,ac,?_⟩;have h5:(v*4294967296+w)/(y1*4294967296+y0)<=(v*4294967296+w)/(y1*4294967296):=by
  refine j5 ac ?_;have hl:=C.lt;have h6:=j4 (v*4294967296+w) (show y1*4294967296+y0≠0 by omega);rw[fT]at h6;have:=dO hl.1 h0.1;omega
 have h6:(v*4294967296+w)/(y1*4294967296)=v/y1:=by
  rw[c3 y1,←Int.ediv_ediv_of_nonneg am];congr 1;omega
 omega
theorem gn.xY (C:jO y1 y0 v w)(h:q<4294967296)(h':0<=q):0<=q*y0/\q*y0<18446744073709551616:=by
 have h0:=C.h0;refine⟨dO h' h0.1,?_⟩;have h3:=i4 (a:=q) (b:=y0) (c:=4294967295) (d:=4294967295) ac ac h0.1 ac;omega
theorem YI (C:jO y1 y0 v w){Q:Ex->aq->Prop}(a0 a1 a2 a3 a4 a5 a8 a9 aB aE aF:AV)
 (hQ:∀r lo,Q (.exit 0) ⟨⟨[a0,a1,a2,a3,a4,a5,.uV y1,.uV y0,a8,a9,.uV w,aB,.uV ((v*4294967296+w)/(y1*4294967296+y0)),.uV r,aE,aF],lo,[],[]⟩,[]⟩) :
 ∀(n:Nat) (q r:Int) lo,q.toNat=n->gn y1 y0 v w q r->r<4294967296->W M (.loop xR) ⟨⟨[a0,a1,a2,a3,a4,a5,.uV y1,.uV y0,a8,a9,.uV w,aB,.uV q,.uV r,aE,aF],lo,[],[]⟩,[]⟩ Q:=by
 have h1:=C.h1;have h0:=C.h0;have hv:=C.hv;have hw:=C.hw;intro n;induction n with
 | zero=>
  intro q r lo hn I hr;have hq0:=I.q0;obtain rfl:q=0:=by omega
  have hr0:=I.r0;have eq:=I.exit C ac;refine W.loop ?_;unfold xR;refine gg6 ?_;grind
 | succ n ih=>
  intro q r lo hn I hr;have hq0:=I.q0;have hr0:=I.r0;have hql:=I.Lp C;refine W.loop ?_;unfold xR;by_cases hd:4294967296<=q\/4294967296*r+w<q*y0
  . have I2:=I.dec C hd;by_cases hb:4294967296<=q
    . by_cases hr2:4294967296<=r+y1
      . have e:=I2.nP C hr2;refine gg6 ?_;have:=hQ (r+y1);rw[←e]at this;exact this _
      . exact gg13
    . have hm:=gn.xY (q:=q) C ac hq0;obtain⟨P,hP⟩:∃P,P=q*y0:=⟨_,rfl⟩;rw[←hP]at hd hm;by_cases hr2:4294967296<=r+y1
      . have e:=I2.nP C hr2;refine gg6 ?_;have:=hQ (r+y1);rw[←e]at this;exact this _
      . exact gg13
  . have hm:=gn.xY (q:=q) C ac hq0;have e:=I.exit C ac;obtain⟨P,hP⟩:∃P,P=q*y0:=⟨_,rfl⟩;rw[←hP]at hd hm;refine gg6 ?_;grind
theorem YJ (C:jO y1 y0 v w){Q:Ex->aq->Prop}(a0 a1 a2 a3 a4 a5 a8 a9 aA aC aE:AV)
 (hQ:∀r lo,Q (.exit 2) ⟨⟨[a0,a1,a2,a3,a4,a5,.uV y1,.uV y0,a8,a9,aA,.uV w,aC,.uV r,aE,.uV ((v*4294967296+w)/(y1*4294967296+y0))],lo,[],[]⟩,[]⟩) :
 ∀(n:Nat) (q r:Int) lo,q.toNat=n->gn y1 y0 v w q r->r<4294967296->W M (.loop xS) ⟨⟨[a0,a1,a2,a3,a4,a5,.uV y1,.uV y0,a8,a9,aA,.uV w,aC,.uV r,aE,.uV q],lo,[],[]⟩,[]⟩ Q:=by
 have h1:=C.h1;have h0:=C.h0;have hv:=C.hv;have hw:=C.hw;intro n;induction n with
 | zero=>
  intro q r lo hn I hr;have hq0:=I.q0;obtain rfl:q=0:=by omega
  have hr0:=I.r0;have eq:=I.exit C ac;refine W.loop ?_;unfold xS;refine gg6 ?_;grind
 | succ n ih=>
  intro q r lo hn I hr;have hq0:=I.q0;have hr0:=I.r0;have hql:=I.Lp C;refine W.loop ?_;unfold xS;by_cases hd:4294967296<=q\/4294967296*r+w<q*y0
  . have I2:=I.dec C hd;by_cases hb:4294967296<=q
    . by_cases hr2:4294967296<=r+y1
      . have e:=I2.nP C hr2;refine gg6 ?_;have:=hQ (r+y1);rw[←e]at this;exact this _
      . exact gg13
    . have hm:=gn.xY (q:=q) C ac hq0;obtain⟨P,hP⟩:∃P,P=q*y0:=⟨_,rfl⟩;rw[←hP]at hd hm;by_cases hr2:4294967296<=r+y1
      . have e:=I2.nP C hr2;refine gg6 ?_;have:=hQ (r+y1);rw[←e]at this;exact this _
      . exact gg13
  . have hm:=gn.xY (q:=q) C ac hq0;have e:=I.exit C ac;obtain⟨P,hP⟩:∃P,P=q*y0:=⟨_,rfl⟩;rw[←hP]at hd hm;refine gg6 ?_;grind
theorem YK {hi lo y:Int}{s:Nat}(hy:0<y)(_hh:0<=hi/\hi<y)(_hl:0<=lo/\lo<18446744073709551616){q R:Int}(h:(hi*18446744073709551616+lo)*2^s=q*(y*2^s)+R)(hR:0<=R/\R<y*2^s) :
 q=(hi*18446744073709551616+lo)/y/\R/2^s=(hi*18446744073709551616+lo)%y:=by
 have hp:=c7 (n:=2) (m:=s) am;generalize (2:Int)^s=p at *
 generalize hi*18446744073709551616+lo=N at *
 have e1:R=(N-q*y)*p:=by rw[j0,h,←f9];omega
 have r0:0<=N-q*y:=by
  rcases f8 (N-q*y) 0 with h'|h'
  . have:=d7 h' hp;omega
  . exact h'
 have r1:N-q*y<y:=by
  refine jq (a:=p) ?_ ac;omega
 have e2:N/y=q:=by
  rw[show N=(N-q*y)+y*q by grind,j6 _ _ ac,j3 r0 r1];omega
 refine⟨e2.symm,?_⟩;rw[e1,Int.mul_ediv_cancel _ ac,Int.emod_def,e2,c3 y q]
theorem xZ {s:Nat}(h:s<=64):(2:Int)^s*2^(64-s)=18446744073709551616:=by
 rw[←i6,show s+(64-s)=64 by omega];rfl
theorem YL (hft:M.FT=FT)(hi lo y:Int)(hy:0<y/\y<18446744073709551616)(hh:0<=hi/\hi<y)(hl:0<=lo/\lo<18446744073709551616)(yb:∀h,M.ext 279 [.uV y] h=some ⟨.iV (64-cj y:Nat),h,[]⟩) :
 aV M 278 [.uV hi,.uV lo,.uV y] [] ⟨.au [.uV ((hi*18446744073709551616+lo)/y),.uV ((hi*18446744073709551616+lo)%y)],[],[]⟩:=by
 refine bH (by rw[hft];exact Yp) be ?_;unfold Ld;simp only[enter];by_cases h0:hi=0
 . subst h0;exact gg9
 . obtain⟨b1,b2,b3⟩:=pM hy.1;have b4:cj y<=64:=pO (n:=64) hy.2 ac;obtain⟨s,hs⟩:∃s:Nat,s=64-cj y:=⟨_,rfl⟩;rw[←hs]at yb;have hs64:s<=63:=by omega
   have hp:=c7 (n:=2) (m:=s) am;have hps:=xZ (s:=s) ac;have hY1:9223372036854775808<=y*2^s:=by
    have h1:(2:Int)^(cj y-1)*2^s<=y*2^s:=b7 b2 ac;rw[←i6,show cj y-1+s=63 by omega]at h1;exact ac
   have hY2:y*2^s<18446744073709551616:=by
    have h1:y*2^s<2^cj y*2^s:=d7 b3 hp;rw[←i6,show cj y+s=64 by omega]at h1;exact ac
   have hhs:0<=hi*2^s/\hi*2^s<y*2^s:=⟨dO hh.1 ac,d7 hh.2 hp⟩;have hp2:=c7 (n:=2) (m:=64-s) am;have hlo:0<=lo/2^(64-s)/\lo/2^(64-s)<2^s:=⟨fm hl.1 ac,ce hp2 ac⟩;have hdv:hi*2^s%2^s=0:=be;have hlos:lo*2^s/18446744073709551616=lo/2^(64-s):=by
    rw[←hps,c3 lo];exact j2 _ _ hp
   have hN:(hi*18446744073709551616+lo)*2^s=(hi*2^s+lo/2^(64-s))*18446744073709551616+lo*2^s%18446744073709551616:=by
    rw[←hlos,ii,jD];omega
   have hv:hi*2^s+lo/2^(64-s)<y*2^s:=by
    have h1:(hi*18446744073709551616+lo)*2^s<(y*18446744073709551616)*2^s:=d7 ac hp;rw[hN,jD]at h1;omega
   repeat' first|(apply amL (L:=s) (a:=y);rfl;rfl;omega;exact⟨ac,hY2⟩)|(apply amL (L:=s) (a:=hi);rfl;rfl;omega;exact⟨hhs.1,ac⟩)|(apply alK (n:=32) (c:=4294967296);rfl;rfl;rfl;decide;rfl)|(apply amO;rfl;rfl;omega)|(apply alZ (a:=64);rfl;rfl;omega)|(apply alF (n:=64-s) (a:=lo);rfl;rfl;omega;omega)|(apply amP s;rfl;rfl;omega;exact hlo;omega;exact hdv)|(apply amc (n:=s) (a:=lo);rfl;rfl;rfl;omega)|(apply aiZ;rfl;rfl)|(apply aeJ;rfl;rfl)|refine gd0 ?_|refine gc ?_|(intro _;omega)|intro _
   all_goals try omega
   have fin:=fun q R h=>YK (hi:=hi) (lo:=lo) (y:=y) (s:=s) hy.1 hh hl (q:=q) (R:=R) h
   rw[hN]at fin;have hv0:0<=hi*2^s+lo/2^(64-s):=by omega
   have hu:0<=lo*2^s%18446744073709551616/\lo*2^s%18446744073709551616<18446744073709551616:=by omega
   generalize hi*2^s+lo/2^(64-s)=v at *
   generalize lo*2^s%18446744073709551616=u at *
   generalize y*2^s=Y at *
   have C1:jO (Y/4294967296) (Y%4294967296) v (u/4294967296):=⟨ac,ac,ac,ac⟩;have I1:=gn.init C1;have m1:0<=v/(Y/4294967296)*(Y/4294967296)/\v/(Y/4294967296)*(Y/4294967296)<=v:=⟨dO I1.q0 ac,by have:=I1.r0;omega⟩;have r1:v-v/(Y/4294967296)*(Y/4294967296)<4294967296:=by
    have:=fG (x:=v) (k:=Y/4294967296) ac;rw[c3 (Y/4294967296)]at this;omega
   repeat' first|(apply alU;rfl;rfl;omega;omega)|(apply akw (a:=v/(Y/4294967296)) (b:=Y/4294967296);rfl;rfl;omega)|refine gd5 ?_|refine gc ?_|fail
   refine YI C1 _ _ _ _ _ _ _ _ _ _ _ (fun r lo2=>?_) _ _ _ _ rfl I1 r1;have eY:Y/4294967296*4294967296+Y%4294967296=Y:=by omega
   have hQ:=C1.lt;rw[eY]at hQ ⊢;have hd1:=j4 (v*4294967296+u/4294967296) (show Y≠0 by omega);have hd2:=i7 (v*4294967296+u/4294967296) (show 0<Y by omega);generalize (v*4294967296+u/4294967296)/Y=Q1 at *
   have hR1:∃R,R=v*4294967296+u/4294967296-Q1*Y:=⟨_,rfl⟩;obtain⟨R1,hR1⟩:=hR1;rw[ii,f6]at hd2;have eR:((v*4294967296%18446744073709551616+u/4294967296)%18446744073709551616-Q1*Y%18446744073709551616)%18446744073709551616=R1:=by omega
   have C2:jO (Y/4294967296) (Y%4294967296) R1 (u%4294967296):=⟨ac,ac,ac,ac⟩;have I2:=gn.init C2;have m2:0<=R1/(Y/4294967296)*(Y/4294967296)/\R1/(Y/4294967296)*(Y/4294967296)<=R1:=⟨dO I2.q0 ac,by have:=I2.r0;omega⟩;have r2:R1-R1/(Y/4294967296)*(Y/4294967296)<4294967296:=by
    have:=fG (x:=R1) (k:=Y/4294967296) ac;rw[c3 (Y/4294967296)]at this;omega
   repeat' first|(apply amo;rfl;rfl)|(apply amn;rfl;rfl)|(apply amN;rfl;rfl)|refine gc ?_|fail
   rw[eR];repeat' first|(apply alU;rfl;rfl;omega;omega)|(apply akw (a:=R1/(Y/4294967296)) (b:=Y/4294967296);rfl;rfl;omega)|refine gd5 ?_|refine gc ?_|fail
   refine YJ C2 _ _ _ _ _ _ _ _ _ _ _ (fun r lo2=>?_) _ _ _ _ rfl I2 r2;have hQ2:=C2.lt;rw[eY]at hQ2 ⊢;have hd3:=j4 (R1*4294967296+u%4294967296) (show Y≠0 by omega);have hd4:=i7 (R1*4294967296+u%4294967296) (show 0<Y by omega);generalize (R1*4294967296+u%4294967296)/Y=Q2 at *
   rw[ii,f6]at hd4;obtain⟨R2,hR2⟩:∃R,R=R1*4294967296+u%4294967296-Q2*Y:=⟨_,rfl⟩;have eR2:((R1*4294967296%18446744073709551616+u%4294967296)%18446744073709551616-Q2*Y%18446744073709551616)%18446744073709551616=R2:=by omega
   obtain⟨f1,f2⟩:=fin (Q1*4294967296+Q2) R2 (by rw[ii,jD Q1];omega) ac;repeat' first|(apply akw (a:=Q1) (b:=4294967296);rfl;rfl;omega)|(apply alw (a:=Q1*4294967296) (b:=Q2);rfl;rfl;omega)|(apply amo;rfl;rfl)|(apply amn;rfl;rfl)|(apply amN;rfl;rfl)|(apply alF (n:=s);rfl;rfl;rfl;omega)|refine gc ?_|fail
   refine⟨.inr rfl,rfl,_,rfl,?_,rfl⟩;rw[←f1,←f2,←eR2];rfl
theorem Lr {hp:aa}{x y:Option ba}:aa.put (hp++[x]) hp.length y=hp++[y]:=by simp[aa.put]
section
variable {t m:Nat} {x y:ay} {l:List aX} {pe:List AV} {lo:List (Nat×AV)} {hp:aa} {df wr:List Nat} {L:List Int} {e:TypeId} {a b:Int} {Q:aq->Prop}
theorem amA (hx:(St.mk pe lo (hp++[some (.cells (al L) e)]) df).ae x=some (.ptr hp.length m))(hy:(St.mk pe lo (hp++[some (.cells (al L) e)]) df).ae y=some (.uV v))(hi:m<L.length)
 (h:WO M l ⟨⟨pe,lo,hp++[some (.cells (al (L.set m v)) e)],df⟩,hp.length::wr⟩ Q):WO M (⟨.no,.store 1 x y,none⟩::l) ⟨⟨pe,lo,hp++[some (.cells (al L) e)],df⟩,wr⟩ Q:=by
 refine akZ hx hy cC hi ?_;rw[Lr];exact h
theorem amz (m:Nat)(hx:(St.mk pe lo hp df).ae x=some (.uV a))(hy:(St.mk pe lo hp df).ae y=some (.uV b))(ha:0<=a/\a<2^m)(hb:0<=b/\b<18446744073709551616)(hm:m<=64)(hd:b%2^m=0)
 (h:WO M l ⟨⟨pe,(t,.uV (a+b))::lo,hp,df⟩,wr⟩ Q):WO M (⟨.l t,.bin .or x y,none⟩::l) ⟨⟨pe,lo,hp,df⟩,wr⟩ Q:=by
 have key:aY ⟨pe,lo,hp,df⟩ (.bin .or x y)=aY ⟨pe,lo,hp,df⟩ (.bin .or y x):=by
  simp only[aY,hx,hy,cU,if_true];rw[BitVec.or_comm]
 obtain⟨⟨k,s',h1,h2⟩⟩:=amP (M:=M) (t:=t) (l:=l) (Q:=Q) m hy hx hb ha hm hd (by rw[lC];exact h);refine⟨⟨k,s',?_,h2⟩⟩;rw[←h1];simp only[ek,dP,bI,bg.bF,Bool.false_eq_true,if_false,key]
end
theorem YM {hp:aa}{v:AV}{s:aq}{x:Option ba}(hh:s.s.hp=hp++[x])(hw:∀z∈s.wr,hp.length<=z)(hv:hp.length<v.top):dy v hp.length s=⟨v,hp++[x],[]⟩:=by
 unfold dy;have hf:s.wr.filter (· < hp.length)=[]:=by
  rw[List.filter_eq_nil_iff];intro z hz;have:=hw z hz;simp;omega
 grind
theorem Ls (hft:M.FT=FT)(l:List Int)(hl:okW wB l)(ll:l.length<100000000)(s:Nat)(hs:s<=63)(hp:aa) :
 ∃r,(r.length=l.length+1/\okW wB r/\WV wB r=WV wB l*2^s)/\aV M 280 [.vs (al l) l.length c1,.iV s] hp ⟨.sl hp.length 0 (l.length+1) 1 (some (l.length+1)),hp++[some (.cells (al r) 246)],[]⟩:=by
 have hp2:=c7 (n:=2) (m:=s) am;have hps:=xZ (s:=s) ac;have hp3:=c7 (n:=2) (m:=64-s) am;have key:=fJ.mz (M:=M) (f:=280) (ars:=[.vs (al l) l.length c1,.iV s]) (h:=hp) (K:=fun hr=>∃r,(r.length=l.length+1/\okW wB r/\WV wB r=WV wB l*2^s)/\hr=⟨.sl hp.length 0 (l.length+1) 1 (some (l.length+1)),hp++[some (.cells (al r) 246)],[]⟩) (by rw[hft];exact Yj) be (by
  unfold KX;simp only[enter];repeat' first|refine gc ?_|fail
  rw[show ((l.length:Int)+1).toNat=l.length+1 by omega];refine W.di l.length (fun i s'=>∃L a4 a5 lo wr,s'=⟨⟨[.vs (al l) l.length c1,.iV s,.ab,.sl hp.length 0 (l.length+1) 1 (some (l.length+1)),a4,a5,.vs (al l) l.length c1,.iV l.length,.iV i],lo,hp++[some (.cells (al L) 246)],[]⟩,wr⟩ /\
   L.length=l.length+1/\okW wB L/\(∀k,i<k->L[k]! = 0)/\(L[i]! < 2^s)/\WV wB L=WV wB (l.take i)*2^s/\∀z∈wr,hp.length<=z) (fun i s' hi ⟨L,a4,a5,lo,wr,hs',hL,bT,hz,hlt,hv,hw⟩=>?_) (fun s' ⟨L,a4,a5,lo,wr,hs',hL,bT,hz,hlt,hv,hw⟩=>?_) (hZ _)
   ⟨_,_,_,_,_,rfl,be,lI am,fun k _=>mE,bS,by rw[lJ];simp[WV],be⟩
  . subst hs';have gx:=cg hl hi;rw[show l[i]! = l[((i:Int)).toNat]! from rfl]at gx;obtain⟨x,hx⟩:∃x,x=l[((i:Int)).toNat]! := ⟨_,rfl⟩;rw[←hx]at gx;have gx:0<=x/\x<18446744073709551616:=gx;have gL:=cg bT (i:=i) ac;have gL:0<=L[i]! /\ L[i]! < 18446744073709551616:=gL;have hm:0<=x*2^s%18446744073709551616/\x*2^s%18446744073709551616<18446744073709551616:=by omega
    have hd:x*2^s%18446744073709551616%2^s=0:=by
     rw[Int.emod_emod_of_dvd _ ⟨2^(64-s),hps.symm⟩];exact be
    have hq:x*2^s/18446744073709551616=x/2^(64-s):=by
     rw[←hps,c3 x];exact j2 _ _ hp2
    have hq2:0<=x/2^(64-s)/\x/2^(64-s)<2^s:=⟨fm gx.1 ac,ce hp3 ac⟩;have hsB:(2:Int)^s<=9223372036854775808:=by
     have:=gS (b:=2) am hs;exact ac
    have hsum:L[i]! + x*2^s%18446744073709551616<18446744073709551616:=by
     obtain⟨k,hk⟩:∃k,x*2^s%18446744073709551616=2^s*k:=⟨x*2^s%18446744073709551616/2^s,by have:=gF (x*2^s%18446744073709551616) (2^s);omega⟩;have hk2:k<2^(64-s):=Int.lt_of_mul_lt_mul_left (a:=2^s) ac ac;have:=b6 (show k+1<=2^(64-s) by omega) (dY hp2);rw[hps,fT,←hk]at this;omega
    have eI:0+((i:Int)).toNat*1=i:=by omega
    have eJ:0+((i:Int)+1).toNat*1=i+1:=by omega
    have fin:∀L':List Int,L'=(L.set i (L[i]! + x*2^s%18446744073709551616)).set (i+1) (x/2^(64-s))->L'.length=l.length+1/\okW wB L'/\(∀k,i+1<k->L'[k]! = 0)/\(L'[i+1]! < 2^s)/\WV wB L'=WV wB (l.take (i+1))*2^s:=fun L' hL'=>by
     subst hL';refine⟨bS,gQ (gQ bT ⟨ac,hsum⟩) ⟨hq2.1,bS⟩,fun k hk=>by rw[jt ac,jt ac];grind,bS,?_⟩;rw[gR bS,jt ac,hz (i+1) ac,gR ac,fE hi,hv,←hq,b9];grind
    have eset:¬(0:Int)<s->L.set i (L[i]! + x*2^s%18446744073709551616)=(L.set i (L[i]! + x*2^s%18446744073709551616)).set (i+1) (x/2^(64-s)):=fun h0=>by
     have hs0:s=0:=by omega
     have hx0:x/2^(64-s)=0:=by
      rw[hs0];exact ac
     have h1:(L.set i (L[i]! + x*2^s%18446744073709551616))[i+1]! = 0:=by rw[jt ac];exact bS
     have h2:i+1<(L.set i (L[i]! + x*2^s%18446744073709551616)).length:=by rw[iy];omega
     rw[getElem!_pos (L.set i (L[i]! + x*2^s%18446744073709551616)) (i+1) h2]at h1;rw[hx0];exact((congrArg (fun z=>(L.set i (L[i]! + x*2^s%18446744073709551616)).set (i+1) z) h1.symm).trans (List.set_getElem_self h2)).symm
    subst hx;unfold Ei;by_cases h0:(0:Int)<s
    . refine gg4 ?_;obtain⟨f1,f2,f3,f4,f5⟩:=fin _ rfl;exact bW ⟨_,_,_,_,_,rfl,f1,f2,f3,f4,f5,bS⟩
    . refine gg4 ?_;obtain⟨f1,f2,f3,f4,f5⟩:=fin _ (eset h0);exact bW ⟨_,_,_,_,_,rfl,f1,f2,f3,f4,f5,bS⟩
  . subst hs';rw[dN]at hv;unfold Ei;refine gg4 ?_;exact⟨.inr rfl,_,rfl,_,rfl,L,⟨hL,bT,hv⟩,YM rfl hw (by simp[aW,AV.top])⟩)
 obtain⟨hr,h1,r,h2,rfl⟩:=key.out;grind
end Go.Ab.Ch1

/-
  Own work: Knuth's division: the guess of a digit is at most one too great.
-/
namespace Go.Ab.aU
structure jP (t2 t1 t0 v1 v0 T V p:Int):Prop where
 h2:0<=t2
 h1:0<=t1/\t1<18446744073709551616
 h0:0<=t0/\t0<18446744073709551616
 w1:9223372036854775808<=v1/\v1<18446744073709551616
 w0:0<=v0/\v0<18446744073709551616
 hp:1<=p
 lo:((t2*18446744073709551616+t1)*18446744073709551616+t0)*p<=T
 hi:T<((t2*18446744073709551616+t1)*18446744073709551616+t0+1)*p
 rz:(v1*18446744073709551616+v0)*p<=V
 tK:V<(v1*18446744073709551616+v0+1)*p
 hT:T<18446744073709551616*V
structure iL (t2 t1 v1 T V q r:Int):Prop where
 q0:0<=q/\q<18446744073709551616
 r0:0<=r
 e:q*v1+r=t2*18446744073709551616+t1
 ge:T<(q+1)*V
variable {t2 t1 t0 v1 v0 T V p q r:Int}
theorem jP.top (C:jP t2 t1 t0 v1 v0 T V p):t2<=v1:=by
 have h1:=C.h1;have h0:=C.h0;have w0:=C.w0;have a1:((t2*18446744073709551616+t1)*18446744073709551616+t0)*p<(18446744073709551616*(v1*18446744073709551616+v0+1))*p:=by
  have:=C.lo;have:=C.hT;have:=C.tK;rw[f9 18446744073709551616];omega
 have a2:=jq a1 (by have:=C.hp;omega);omega
theorem jP.geq (C:jP t2 t1 t0 v1 v0 T V p)(h0:0<=q)(h:(t2*18446744073709551616+t1)*18446744073709551616+t0+1<=q*(v1*18446744073709551616+v0)):T<q*V:=by
 have hp:=C.hp;have a1:=b7 h (show 0<=p by omega);have a2:=b6 C.rz h0;rw[←f9]at a2;have:=C.hi;omega
theorem iL.qD (I:iL t2 t1 v1 T V q r):q*(v1*18446744073709551616+v0)=(t2*18446744073709551616+t1-r)*18446744073709551616+q*v0:=by
 have e:=I.e;have:t2*18446744073709551616+t1-r=q*v1:=by omega
 rw[this,fT,f9]
theorem iL.YN (C:jP t2 t1 t0 v1 v0 T V p)(h:v1<=t2):iL t2 t1 v1 T V 18446744073709551615 (t1+v1):=by
 have:=C.top;have:=C.h1;have:=C.w1;have:=C.hT;exact⟨ac,ac,ac,ac⟩
theorem iL.YO (C:jP t2 t1 t0 v1 v0 T V p)(h:t2<v1):iL t2 t1 v1 T V ((t2*18446744073709551616+t1)/v1) ((t2*18446744073709551616+t1)%v1):=by
 have h2:=C.h2;have h1:=C.h1;have w1:=C.w1;have h0:=C.h0;have w0:=C.w0;have q0:0<=(t2*18446744073709551616+t1)/v1:=fm ac ac;have q1:(t2*18446744073709551616+t1)/v1<18446744073709551616:=ce ac ac;have e:=gF (t2*18446744073709551616+t1) v1;have r0:=i8 (t2*18446744073709551616+t1) (show v1≠0 by omega);have r1:=iz (t2*18446744073709551616+t1) (show 0<v1 by omega);rw[c3]at e;refine⟨⟨q0,q1⟩,r0,e,C.geq ac ?_⟩;generalize (t2*18446744073709551616+t1)/v1=q at *
 generalize (t2*18446744073709551616+t1)%v1=r at *
 have a1:(q+1)*(v1*18446744073709551616+v0)=(q*v1+v1)*18446744073709551616+(q+1)*v0:=by grind
 have a2:0<=(q+1)*v0:=dO ac w0.1;rw[a1];generalize q*v1=z at *
 generalize (q+1)*v0=y at *
 omega
theorem iL.dec (C:jP t2 t1 t0 v1 v0 T V p)(I:iL t2 t1 v1 T V q r)(h:r*18446744073709551616+t0<q*v0):iL t2 t1 v1 T V (q-1) (r+v1):=by
 have w1:=C.w1;have q0:=I.q0;have r0:=I.r0;have h0:=C.h0;have q1:0<q:=by
  rcases f8 0 q with h'|h'
  . exact h'
  . obtain rfl:q=0:=by omega
    omega
 refine⟨ac,ac,by have:=I.e;rw[j0];omega,?_⟩;rw[Int.sub_add_cancel];refine C.geq ac ?_;rw[I.qD];omega
theorem iL.exit (C:jP t2 t1 t0 v1 v0 T V p)(I:iL t2 t1 v1 T V q r)(h:q*v0<=r*18446744073709551616+t0):(q-1)*V<=T:=by
 have w1:=C.w1;have q0:=I.q0;have r0:=I.r0;have w0:=C.w0;have hp:=C.hp;have a1:q*(v1*18446744073709551616+v0)<=(t2*18446744073709551616+t1)*18446744073709551616+t0:=by rw[I.qD];omega
 have a2:=b7 a1 (show 0<=p by omega);have a3:=b6 (dY C.tK) q0.1;have a4:q*((v1*18446744073709551616+v0+1)*p)=q*(v1*18446744073709551616+v0)*p+q*p:=by grind
 have a5:=b7 (show q<=18446744073709551616 by omega) (show 0<=p by omega);have a6:=b7 (show 18446744073709551616<=v1*18446744073709551616+v0 by omega) (show 0<=p by omega);have a7:=C.rz;have a8:=C.lo;rw[j0,f6];omega
theorem iL.nP (C:jP t2 t1 t0 v1 v0 T V p)(I:iL t2 t1 v1 T V q r)(h:18446744073709551616<=r):(q-1)*V<=T:=by
 have q0:=I.q0;have w0:=C.w0;have h0:=C.h0;refine I.exit C ?_;have h3:=i4 (a:=q) (b:=v0) (c:=18446744073709551615) (d:=18446744073709551615) ac ac w0.1 ac;omega
theorem jQ {b:Int}{l:List Int}{n:Nat}(h:l.length=n+1):WV b l=WV b (l.take n)+b^n*l[n]! := by
 have:=fE (b:=b) (l:=l) (i:=n) ac;rwa [b5 ac]at this
theorem jP.of {X V:List Int}{n:Nat}(hX:X.length=n+3)(hV:V.length=n+2)(oX:okW 18446744073709551616 X)(oV:okW 18446744073709551616 V)(hv:9223372036854775808<=V[n+1]!)(hT:WV 18446744073709551616 X<18446744073709551616*WV 18446744073709551616 V) :
 jP X[n+2]! X[n+1]! X[n]! V[n+1]! V[n]! (WV 18446744073709551616 X) (WV 18446744073709551616 V) (18446744073709551616^n):=by
 have x2:=cg oX (i:=n+2) ac;have x1:=cg oX (i:=n+1) ac;have x0:=cg oX (i:=n) ac;have v1:=cg oV (i:=n+1) ac;have v0:=cg oV (i:=n) ac;have eX:WV 18446744073709551616 X=WV 18446744073709551616 (X.take n)+((X[n+2]! * 18446744073709551616+X[n+1]!)*18446744073709551616+X[n]!)*18446744073709551616^n:=by
  rw[jQ (n:=n+2) ac,fE ac,fE ac,b9,b9];grind
 have eV:WV 18446744073709551616 V=WV 18446744073709551616 (V.take n)+(V[n+1]! * 18446744073709551616+V[n]!)*18446744073709551616^n:=by
  rw[jQ (n:=n+1) ac,fE ac,b9];grind
 have lX:=dg (b:=18446744073709551616) am (dF oX n);have lV:=dg (b:=18446744073709551616) am (dF oV n);have pX:=cB (b:=18446744073709551616) am (dF oX n);have pV:=cB (b:=18446744073709551616) am (dF oV n);rw[b8,d9 ac]at lX lV;have hp:(0:Int)<18446744073709551616^n:=c7 am;refine⟨x2.1,x1,x0,⟨hv,v1.2⟩,v0,ac,ac,?_,ac,?_,hT⟩
 . rw[ii _ 1,f6];omega
 . rw[ii _ 1,f6];omega
end Go.Ab.aU

/-
  Own work: words of integers: a digit of a quotient (Knuth's step): the loops.
-/
namespace Go.Ab.Ch1
open Go.Ab.aU
variable {M:aw} {cu cv:Option Nat}
def da (hp:aa)(b:Nat)(e:TypeId)(P S X:List Int):aa:=hp.put b (some (.cells (al (P++X++S)) e))
theorem Lt {hp:aa}{b:Nat}{e:TypeId}{P S X:List Int}:(da hp b e P S X).length=hp.length:=dQ
theorem En {P X S:List Int}{i:Nat}(hi:i<X.length):(P++X++S)[P.length+i]! = X[i]! := by
 grind
theorem Lu {P X S:List Int}{i:Nat}{v:Int}(hi:i<X.length):(P++X++S).set (P.length+i) v=P++X.set i v++S:=by
 grind
section
variable {t bu bv m:Nat} {x y:ay} {l:List aX} {pe:List AV} {lo:List (Nat×AV)} {hp:aa} {df wr:List Nat} {P S X V Y:List Int} {e e':TypeId} {v:Int} {Q:aq->Prop}
theorem alE {i:Nat}(hx:(St.mk pe lo (da hp bu e P S X) df).ae x=some (.ptr bu m))(hl:bu<hp.length)(hi:i<X.length)(hm:m=P.length+i)
 (h:WO M l ⟨⟨pe,(t,.uV X[i]!)::lo,da hp bu e P S X,df⟩,wr⟩ Q):WO M (⟨.l t,.load 1 false x,none⟩::l) ⟨⟨pe,lo,da hp bu e P S X,df⟩,wr⟩ Q:=by
 subst hm;refine akx (L:=P++X++S) (e:=e) hx (by unfold da;exact eu hl) bS ?_;rw[En hi];exact h
theorem yc {Y:Option ba}(hne:bu≠bv):(hp.put bu Y).at bv=hp.at bv:=by
 unfold aa.at aa.put;grind
theorem alG {i:Nat}(hx:(St.mk pe lo (da hp bu e P S X) df).ae x=some (.ptr bv m))(hb:hp.at bv=some (.cells (al (V++Y)) e'))(hne:bu≠bv)(hi:i<V.length)(hm:m=i)
 (h:WO M l ⟨⟨pe,(t,.uV V[i]!)::lo,da hp bu e P S X,df⟩,wr⟩ Q):WO M (⟨.l t,.load 1 false x,none⟩::l) ⟨⟨pe,lo,da hp bu e P S X,df⟩,wr⟩ Q:=by
 subst hm;refine akx (L:=V++Y) (e:=e') hx (by unfold da;rw[yc hne];exact hb) bS ?_;have:(V++Y)[m]! = V[m]! := by
  simp only[c9];rw[List.getElem?_append_left hi]
 grind
theorem alV {i:Nat}(hx:(St.mk pe lo (da hp bu e P S X) df).ae x=some (.ptr bu m))(hy:(St.mk pe lo (da hp bu e P S X) df).ae y=some (.uV v))(hl:bu<hp.length)(hi:i<X.length)(hm:m=P.length+i)
 (h:WO M l ⟨⟨pe,lo,da hp bu e P S (X.set i v),df⟩,bu::wr⟩ Q):WO M (⟨.no,.store 1 x y,none⟩::l) ⟨⟨pe,lo,da hp bu e P S X,df⟩,wr⟩ Q:=by
 subst hm;refine akZ (L:=P++X++S) (e:=e) hx hy (by unfold da;exact eu hl) bS ?_;rw[Lu hi];have:aa.put (da hp bu e P S X) bu (some (.cells (al (P++X.set i v++S)) e))=da hp bu e P S (X.set i v):=by unfold da;exact tt
 grind
end
variable {bu bv k:Nat} {e e':TypeId} {hp:aa} {P S X V Y:List Int}
theorem Lv (C:nO M)(hl:bu<hp.length)(hne:bu≠bv)(hb:hp.at bv=some (.cells (al (V++Y)) e'))(lk:k<10000000)(hX:X.length=k+3)(hV:V.length=k+2)
 {t2 t1 T D p:Int} (K:jP t2 t1 X[k]! V[k+1]! V[k]! T D p) {Q:Ex->aq->Prop} (a2 a9 aA aB aC aD aE aF aG aH aI aJ aK:AV) (wr:List Nat)
 (hQ:∀(q rh ov:Int) a7 a8 lo,(0<=q/\q<18446744073709551616)->T<(q+1)*D->(q-1)*D<=T ->
   Q (.exit 0) ⟨⟨[.sl bu P.length (k+3) 1 cu,.sl bv 0 (k+2) 1 cv,a2,.iV ((k+2:Nat):Int),.uV q,.uV rh,.uV ov,a7,a8,a9,aA,aB,aC,aD,aE,aF,aG,aH,aI,aJ,aK],lo,da hp bu e P S X,[]⟩,wr⟩)
 (q rh ov:Int) (a7 a8:AV) (lo:List (Nat×AV)) (I:iL t2 t1 V[k+1]! T D q (rh+18446744073709551616*ov)) (hrh:0<=rh/\rh<18446744073709551616) (hov:0<=ov/\ov<=1) :
 W M (.loop Ej) ⟨⟨[.sl bu P.length (k+3) 1 cu,.sl bv 0 (k+2) 1 cv,a2,.iV ((k+2:Nat):Int),.uV q,.uV rh,.uV ov,a7,a8,a9,aA,aB,aC,aD,aE,aF,aG,aH,aI,aJ,aK],lo,da hp bu e P S X,[]⟩,wr⟩ Q:=by
 refine W.gP (fun m s=>∃q rh ov a7 a8 lo,s=⟨⟨[.sl bu P.length (k+3) 1 cu,.sl bv 0 (k+2) 1 cv,a2,.iV ((k+2:Nat):Int),.uV q,.uV rh,.uV ov,a7,a8,a9,aA,aB,aC,aD,aE,aF,aG,aH,aI,aJ,aK],lo,da hp bu e P S X,[]⟩,wr⟩ /\
  m=q.toNat/\iL t2 t1 V[k+1]! T D q (rh+18446744073709551616*ov)/\(0<=rh/\rh<18446744073709551616)/\(0<=ov/\ov<=1)) (fun m s ⟨q,rh,ov,a7,a8,lo,hs,hm,I,hrh,hov⟩=>?_) (m:=q.toNat) ⟨q,rh,ov,a7,a8,lo,rfl,rfl,I,hrh,hov⟩
 subst hs;subst hm;have q0:=I.q0;have w0:=K.w0;have w1:=K.w1;have t0:=K.h0;unfold Ej;by_cases ho:ov=0
 . subst ho;rw[d6,f7]at I;have q244:=fun h=>C.pK q V[k]! h q0 w0
   obtain⟨m,hm⟩:∃m,m=q*V[k]! := ⟨_,rfl⟩;have hmb:=xX q0 w0;rw[←hm]at q244 hmb;by_cases ht:m<=rh*18446744073709551616+X[k]!
   . have hfin:=I.exit K ac;exact gg9
   . have I2:=I.dec K ac;have q275:=fun h=>C.nN rh V[k+1]! 0 h ac ac am am
     have e1:(rh+V[k+1]! + 0)%18446744073709551616+18446744073709551616*((rh+V[k+1]! + 0)/18446744073709551616)=rh+V[k+1]! := by omega
     have i0:=I2.q0;exact gg9
 . have h1:ov=1:=by omega
   subst h1;have hfin:=I.nP K ac;exact gg0
theorem YP (C:nO M)(hl:bu<hp.length)(hne:bu≠bv)(hb:hp.at bv=some (.cells (al (V++Y)) e'))(lk:k<10000000)(hX:X.length=k+3)(oX:okW wB X)(hV:V.length=k+2)(oV:okW wB V)
 (q:Int) (q0:0<=q/\q<18446744073709551616) {Q:Ex->aq->Prop} (a2 a5 a6 a7 a8 aB aC aD aE aF aG aJ aK:AV) (lo:List (Nat×AV))
 (hQ:∀L (bo ca:Int) aB aC aD aE lo wr,L.length=k+3->okW wB L->L[k+2]! = X[k+2]! -> (0<=bo/\bo<=1)->(0<=ca/\ca<18446744073709551616)->(∀z∈wr,z=bu)->WV wB L=WV wB X-q*WV wB V+wB^(k+2)*(ca+bo) ->
   Q (.exit 2) ⟨⟨[.sl bu P.length (k+3) 1 cu,.sl bv 0 (k+2) 1 cv,a2,.iV ((k+2:Nat):Int),.uV q,a5,a6,a7,a8,.uV bo,.uV ca,aB,aC,aD,aE,aF,aG,.iV ((k+2:Nat):Int),.iV ((k+2:Nat):Int),aJ,aK],lo,da hp bu e P S L,[]⟩,wr⟩) :
 W M (.loop tD) ⟨⟨[.sl bu P.length (k+3) 1 cu,.sl bv 0 (k+2) 1 cv,a2,.iV ((k+2:Nat):Int),.uV q,a5,a6,a7,a8,.uV 0,.uV 0,aB,aC,aD,aE,aF,aG,.iV ((k+2:Nat):Int),.iV 0,aJ,aK],lo,da hp bu e P S X,[]⟩,[]⟩ Q:=by
 refine W.di (k+2) (fun i s=>∃L bo ca aB aC aD aE lo wr,s=⟨⟨[.sl bu P.length (k+3) 1 cu,.sl bv 0 (k+2) 1 cv,a2,.iV ((k+2:Nat):Int),.uV q,a5,a6,a7,a8,.uV bo,.uV ca,aB,aC,aD,aE,aF,aG,.iV ((k+2:Nat):Int),.iV i,aJ,aK],lo,da hp bu e P S L,[]⟩,wr⟩ /\
  L.length=k+3/\okW wB L/\L[k+2]! = X[k+2]! /\ (0<=bo/\bo<=1)/\(0<=ca/\ca<18446744073709551616)/\(∀z∈wr,z=bu)/\WV wB L=WV wB X-q*WV wB (V.take i)+wB^i*(ca+bo)) (fun i s hi ⟨L,bo,ca,aB,aC,aD,aE,lo,wr,hs,hL,oL,ht,hbo,hca,hw,hv⟩=>?_) (fun s ⟨L,bo,ca,aB,aC,aD,aE,lo,wr,hs,hL,oL,ht,hbo,hca,hw,hv⟩=>?_) (hZ _)
  ⟨_,_,_,_,_,_,_,_,_,rfl,hX,oX,rfl,⟨am,am⟩,⟨am,am⟩,be,by simp[WV]⟩
 . subst hs;have gy:=cg oV (i:=i) ac;obtain⟨y,hy⟩:∃y,y=V[i]! := ⟨_,rfl⟩;rw[←hy]at gy;have gy:0<=y/\y<18446744073709551616:=gy;have gL:=cg oL (i:=i) ac;obtain⟨u,hu⟩:∃u,u=L[i]! := ⟨_,rfl⟩;rw[←hu]at gL;have gL:0<=u/\u<18446744073709551616:=gL;have q244:=fun h=>C.pK q y h q0 gy
   have hm:=xX q0 gy;obtain⟨m,hmm⟩:∃m,m=q*y:=⟨_,rfl⟩;rw[←hmm]at q244 hm;have q275:=fun h=>C.nN (m%18446744073709551616) ca 0 h ac hca.1 am am
   obtain⟨S1,hS1⟩:∃S1,S1=(m%18446744073709551616+ca+0)%18446744073709551616:=⟨_,rfl⟩;obtain⟨S2,hS2⟩:∃S2,S2=(m%18446744073709551616+ca+0)/18446744073709551616:=⟨_,rfl⟩;rw[←hS1,←hS2]at q275;obtain⟨D,hD⟩:∃D:Int,D=if u<S1+bo then 1 else 0:=⟨_,rfl⟩
   have q277:=fun h=>C.xW u S1 bo h gL.1 gL.2 ac ac hbo.1 hbo.2
   obtain⟨d,hd⟩:∃d,d=(u-S1-bo)%18446744073709551616:=⟨_,rfl⟩;rw[←hD,←hd]at q277;have hD2:0<=D/\D<=1/\u-S1-bo=d-18446744073709551616*D/\0<=d/\d<18446744073709551616:=by
    rw[hD];split <;> omega
   have hC2:(0<=m/18446744073709551616+S2/\m/18446744073709551616+S2<18446744073709551616)/\m+ca=S1+18446744073709551616*(m/18446744073709551616+S2):=by omega
   obtain⟨c2,hc2⟩:∃c2,c2=m/18446744073709551616+S2:=⟨_,rfl⟩;have next:∀aB aC aD aE lo,LI (fun s=>∃L bo ca aB aC aD aE lo wr,s=⟨⟨[.sl bu P.length (k+3) 1 cu,.sl bv 0 (k+2) 1 cv,a2,.iV ((k+2:Nat):Int),.uV q,a5,a6,a7,a8,.uV bo,.uV ca,aB,aC,aD,aE,aF,aG,.iV ((k+2:Nat):Int),.iV ((i+1:Nat):Int),aJ,aK],lo,da hp bu e P S L,[]⟩,wr⟩ /\
    L.length=k+3/\okW wB L/\L[k+2]! = X[k+2]! /\ (0<=bo/\bo<=1)/\(0<=ca/\ca<18446744073709551616)/\(∀z∈wr,z=bu)/\WV wB L=WV wB X-q*WV wB (V.take (i+1))+wB^(i+1)*(ca+bo)) Q .normal ⟨⟨[.sl bu P.length (k+3) 1 cu,.sl bv 0 (k+2) 1 cv,a2,.iV ((k+2:Nat):Int),.uV q,a5,a6,a7,a8,.uV D,.uV (m/18446744073709551616+S2),aB,aC,aD,aE,aF,aG,.iV ((k+2:Nat):Int),.iV ((i:Int)+1),aJ,aK],lo,da hp bu e P S (L.set i d),[]⟩,bu::wr⟩:=fun aB aC aD aE lo=>
    bW ⟨_,_,_,aB,aC,aD,aE,lo,_,rfl,bS,gQ oL hD2.2.2.2,by rw[jt ac];exact ht,⟨hD2.1,hD2.2.1⟩,hC2.1,bS,by
     rw[gR ac,←hu,fE ac,←hy,hv,b9];grind⟩
   rw[hy]at q244;rw[hu]at q277;unfold tD;exact gg15
 . subst hs;rw[b5 ac]at hv;unfold tD;exact gg0
theorem YQ (C:nO M)(hl:bu<hp.length)(hne:bu≠bv)(hb:hp.at bv=some (.cells (al (V++Y)) e'))(lk:k<10000000)(hX:X.length=k+3)(oX:okW wB X)(hV:V.length=k+2)(oV:okW wB V)
 {Q:Ex->aq->Prop} (a2 a4 a5 a6 a7 a8 a9 aA aB aC aD aE aG aH aI:AV) (lo:List (Nat×AV)) (wr:List Nat) (hwr:∀z∈wr,z=bu)
 (hQ:∀L (ca:Int) aG lo wr,L.length=k+3->okW wB L->L[k+2]! = X[k+2]! -> (0<=ca/\ca<=1)->(∀z∈wr,z=bu)->WV wB L+wB^(k+2)*ca=WV wB X+WV wB V ->
   Q (.exit 4) ⟨⟨[.sl bu P.length (k+3) 1 cu,.sl bv 0 (k+2) 1 cv,a2,.iV ((k+2:Nat):Int),a4,a5,a6,a7,a8,a9,aA,aB,aC,aD,aE,.uV ca,aG,aH,aI,.iV ((k+2:Nat):Int),.iV ((k+2:Nat):Int)],lo,da hp bu e P S L,[]⟩,wr⟩) :
 W M (.loop tE) ⟨⟨[.sl bu P.length (k+3) 1 cu,.sl bv 0 (k+2) 1 cv,a2,.iV ((k+2:Nat):Int),a4,a5,a6,a7,a8,a9,aA,aB,aC,aD,aE,.uV 0,aG,aH,aI,.iV ((k+2:Nat):Int),.iV 0],lo,da hp bu e P S X,[]⟩,wr⟩ Q:=by
 refine W.di (k+2) (fun i s=>∃L ca aG lo wr,s=⟨⟨[.sl bu P.length (k+3) 1 cu,.sl bv 0 (k+2) 1 cv,a2,.iV ((k+2:Nat):Int),a4,a5,a6,a7,a8,a9,aA,aB,aC,aD,aE,.uV ca,aG,aH,aI,.iV ((k+2:Nat):Int),.iV i],lo,da hp bu e P S L,[]⟩,wr⟩ /\
  L.length=k+3/\okW wB L/\L[k+2]! = X[k+2]! /\ (0<=ca/\ca<=1)/\(∀z∈wr,z=bu)/\WV wB L+wB^i*ca=WV wB X+WV wB (V.take i)) (fun i s hi ⟨L,ca,aG,lo,wr,hs,hL,oL,ht,hca,hw,hv⟩=>?_) (fun s ⟨L,ca,aG,lo,wr,hs,hL,oL,ht,hca,hw,hv⟩=>?_) (hZ _)
  ⟨_,_,_,_,_,rfl,hX,oX,rfl,⟨am,am⟩,hwr,by rfl⟩
 . subst hs;have gy:=cg oV (i:=i) ac;obtain⟨y,hy⟩:∃y,y=V[i]! := ⟨_,rfl⟩;rw[←hy]at gy;have gy:0<=y/\y<18446744073709551616:=gy;have gL:=cg oL (i:=i) ac;obtain⟨u,hu⟩:∃u,u=L[i]! := ⟨_,rfl⟩;rw[←hu]at gL;have gL:0<=u/\u<18446744073709551616:=gL;have q275:=fun h=>C.nN u y ca h gL.1 gy.1 hca.1 hca.2
   obtain⟨d,hd⟩:∃d,d=(u+y+ca)%18446744073709551616:=⟨_,rfl⟩;obtain⟨D,hD⟩:∃D,D=(u+y+ca)/18446744073709551616:=⟨_,rfl⟩;rw[←hD,←hd]at q275;have hD2:(0<=D/\D<=1)/\u+y+ca=d+18446744073709551616*D/\0<=d/\d<18446744073709551616:=by omega
   have next:∀aG lo,LI (fun s=>∃L ca aG lo wr,s=⟨⟨[.sl bu P.length (k+3) 1 cu,.sl bv 0 (k+2) 1 cv,a2,.iV ((k+2:Nat):Int),a4,a5,a6,a7,a8,a9,aA,aB,aC,aD,aE,.uV ca,aG,aH,aI,.iV ((k+2:Nat):Int),.iV ((i+1:Nat):Int)],lo,da hp bu e P S L,[]⟩,wr⟩ /\
    L.length=k+3/\okW wB L/\L[k+2]! = X[k+2]! /\ (0<=ca/\ca<=1)/\(∀z∈wr,z=bu)/\WV wB L+wB^(i+1)*ca=WV wB X+WV wB (V.take (i+1))) Q .normal ⟨⟨[.sl bu P.length (k+3) 1 cu,.sl bv 0 (k+2) 1 cv,a2,.iV ((k+2:Nat):Int),a4,a5,a6,a7,a8,a9,aA,aB,aC,aD,aE,.uV D,aG,aH,aI,.iV ((k+2:Nat):Int),.iV ((i:Int)+1)],lo,da hp bu e P S (L.set i d),[]⟩,bu::wr⟩:=fun aG lo=>
    bW ⟨_,_,aG,lo,_,rfl,bS,gQ oL hD2.2.2,bS,hD2.1,bS,by
     rw[gR ac,←hu,fE ac,←hy,b9];grind⟩
   rw[hy,hu]at q275;unfold tE;exact gg15
 . subst hs;rw[b5 ac]at hv;unfold tE;exact gg0
structure Eo (M:aw):Prop extends nO M where
 Ep:∀(hi lo y:Int) h,(0<y/\y<18446744073709551616)->(0<=hi/\hi<y)->(0<=lo/\lo<18446744073709551616)->M.ext 278 [.uV hi,.uV lo,.uV y] h=some ⟨.au [.uV ((hi*18446744073709551616+lo)/y),.uV ((hi*18446744073709551616+lo)%y)],h,[]⟩
def t281:ak:=
 zR [⟨(.p 9),.mv (kU 0),none⟩,
          ⟨(.p 10),.mv (kU 0),none⟩]
        (
         .seq (zR [⟨(.p 17),.mv (.p 3),none⟩,
            zi 18 0]
          (
           .block 2
           (.loop tD)))
         (
          zR [zm 141 0,
            zm 142 3,
            zm 143 0,
            zm 144 3,
            za 145 1 143 144,
            zd 146 1 145,
            zm 147 10,
            zm 148 9,
            ⟨(.l 149),.call (kF 277) [(.l 146),(.l 147),(.l 148)],none⟩,
            zn 140 149,
            ze 150 0 140,
            ze 151 1 140,
            za 152 1 141 142,
            zS 1 152 150,
            zw 9 151]
          (
           .seq (zR [zm 153 9,
              ⟨(.l 154),.bin .eql (.l 153) (kU 0),none⟩]
            (
             .cond (.l 154)
             (
              zR [zm 155 4,
                zw 2 155]
              (.ret))
             (.skip)))
           (
            zR [⟨(.p 15),.mv (kU 0),none⟩]
            (
             .seq (zR [⟨(.p 19),.mv (.p 3),none⟩,
                zi 20 0]
              (
               .block 4
               (.loop tE)))
             (
              zR [zm 177 0,
                zm 178 3,
                za 179 1 177 178,
                zd 180 1 179,
                zm 181 15,
                zb 182 .add 180 181,
                za 183 1 177 178,
                zS 1 183 182]
              (
               zR [zm 184 4,
                 ⟨(.l 185),.bin .sub (.l 184) (kU 1),none⟩,
                 zw 2 185]
               (.ret))))))))
def rA (X V:List Int)(q:Int)(R:List Int):Prop:=(0<=q/\q<18446744073709551616)/\R.length=X.length/\okW wB R/\WV wB R=WV wB X-q*WV wB V/\WV wB R<WV wB V
theorem YR {X V L:List Int}{q ca bo d b:Int}{n:Nat}(hL:L.length=n+1)(oL:okW wB L)(hv:WV wB L=WV wB X-q*WV wB V+wB^n*(ca+bo))(hd:L[n]! - ca-bo=d-18446744073709551616*b)(hd2:0<=d/\d<18446744073709551616) :
 okW wB (L.set n d)/\WV wB (L.set n d)=WV wB X-q*WV wB V+wB^(n+1)*b:=by
 refine⟨gQ oL hd2,?_⟩;rw[gR ac,hv,b9];have e:d-L[n]! = 18446744073709551616*b-ca-bo:=by omega
 rw[e];show _+wB^n*(18446744073709551616*b-ca-bo)=_-_+wB^n*18446744073709551616*b;grind
theorem YS {X V R:List Int}{q:Int}(hR:R.length=X.length)(oR:okW wB R)(hq:0<=q/\q<18446744073709551616)(hv:WV wB R=WV wB X-q*WV wB V)(hge:WV wB X<(q+1)*WV wB V):rA X V q R:=by
 refine⟨hq,hR,oR,hv,?_⟩;rw[ii,f6]at hge;omega
theorem YT {X V R L:List Int}{q ca d:Int}{n:Nat}(oV:okW wB V)(hV:V.length=n)(hX:X.length=n+1)(oR:okW wB R)(hR:R.length=n+1)(hv:WV wB R=WV wB X-q*WV wB V+wB^(n+1))(h0:0<=WV wB X)(hle:(q-1)*WV wB V<=WV wB X)(hq:0<=q/\q<18446744073709551616)
 (hL:L.length=n+1) (oL:okW wB L) (ht:L[n]! = d) (hl:WV wB L+wB^n*ca=WV wB R+WV wB V) (hca:0<=ca/\ca<=1) :
 1<=q/\rA X V (q-1) (L.set n ((d+ca)%18446744073709551616)):=by
 have lR:=dg (b:=wB) am oR;rw[hR]at lR;have lV:=dg (b:=wB) am oV;rw[hV]at lV;have hp:wB^(n+1)=wB^n*18446744073709551616:=b9 _ _;have hp0:0<wB^n:=c7 am;have q1:1<=q:=by
  rcases f8 0 q with h|h
  . omega
  . obtain rfl:q=0:=by omega
    rw[Int.zero_mul]at hv;omega
 have gd:=cg oL (i:=n) ac;rw[ht]at gd;have gd:0<=d/\d<18446744073709551616:=gd;obtain⟨f,hf⟩:∃f,f=(d+ca)/18446744073709551616:=⟨_,rfl⟩;have hf2:(d+ca)%18446744073709551616-d=ca-18446744073709551616*f/\0<=f/\f<=1:=by omega
 have oN:okW wB (L.set n ((d+ca)%18446744073709551616)):=gQ oL ⟨ac,by show _<(18446744073709551616:Int);omega⟩;have eN:WV wB (L.set n ((d+ca)%18446744073709551616))=WV wB X-(q-1)*WV wB V+wB^(n+1)*(1-f):=by
  rw[gR ac,ht,hf2.1,hp];rw[hp]at hv;have e1:wB^n*(ca-18446744073709551616*f)=wB^n*ca-wB^n*18446744073709551616*f:=by rw[j7,f9]
  have e2:wB^n*18446744073709551616*(1-f)=wB^n*18446744073709551616-wB^n*18446744073709551616*f:=by rw[j7,jU]
  rw[e1,e2,j0,f6];generalize wB^n*ca=z1 at *
  generalize wB^n*18446744073709551616*f=z2 at *
  generalize wB^n*18446744073709551616=z3 at *
  omega
 have lN:=dg (b:=wB) am oN;rw[iy,hL]at lN;have f1:f=1:=by
  rcases f8 0 f with h|h
  . omega
  . obtain rfl:f=0:=by omega
    rw[i9,jU]at eN;omega
 subst f1;rw[Int.sub_self,d6,f7]at eN;refine⟨q1,ac,by rw[iy];omega,oN,eN,?_⟩;rw[eN,j0,f6];omega
theorem Tj (C:nO M)(hl:bu<hp.length)(hne:bu≠bv)(hb:hp.at bv=some (.cells (al (V++Y)) e'))(lk:k<10000000)(hX:X.length=k+3)(oX:okW wB X)(hV:V.length=k+2)(oV:okW wB V)
 (q:Int) (q0:0<=q/\q<18446744073709551616) (hge:WV wB X<(q+1)*WV wB V) (hle:(q-1)*WV wB V<=WV wB X) (a2 a5 a6 a7 a8 a9 aA aB aC aD aE aF aG aH aI aJ aK:AV) (lo:List (Nat×AV)) :
 W M t281 ⟨⟨[.sl bu P.length (k+3) 1 cu,.sl bv 0 (k+2) 1 cv,a2,.iV ((k+2:Nat):Int),.uV q,a5,a6,a7,a8,a9,aA,aB,aC,aD,aE,aF,aG,aH,aI,aJ,aK],lo,da hp bu e P S X,[]⟩,[]⟩
  (fun x s=>(x = .normal\/x = .ret)/\s.s.bV=[]/\∃vs,dx s.s [.var (.p 2)]=some vs/\∃q R,rA X V q R/\s.s.hp=da hp bu e P S R/\(∀z∈s.wr,z=bu)/\aW vs = .uV q):=by
 have hX0:=cB (b:=wB) am oX;unfold t281;repeat' first|refine gc ?_|fail
 refine YP C hl hne hb lk hX oX hV oV q q0 _ _ _ _ _ _ _ _ _ _ _ _ _ _ (fun L bo ca aB aC aD aE lo wr hL oL ht hbo hca hw hv=>?_);have gt:=cg oL (i:=k+2) ac;obtain⟨t,htt⟩:∃t,t=L[k+2]! := ⟨_,rfl⟩;rw[←htt]at gt;have gt:0<=t/\t<18446744073709551616:=gt;obtain⟨b,hbb⟩:∃b:Int,b=if t<ca+bo then 1 else 0:=⟨_,rfl⟩
 obtain⟨d,hd⟩:∃d,d=(t-ca-bo)%18446744073709551616:=⟨_,rfl⟩;have q277:=fun h=>C.xW t ca bo h gt.1 gt.2 hca.1 hca.2 hbo.1 hbo.2
 rw[←hbb,←hd]at q277;have hb2:(b=0\/b=1)/\t-ca-bo=d-18446744073709551616*b/\0<=d/\d<18446744073709551616:=by
  rw[hbb];split <;> omega
 obtain⟨oR,vR⟩:=YR hL oL hv (by rw[←htt];exact hb2.2.1) hb2.2.2;obtain⟨R,hR⟩:∃R,R=L.set (k+2) d:=⟨_,rfl⟩;have lR:R.length=k+3:=by rw[hR,iy];exact hL
 have tR:R[k+2]! = d:=by rw[hR];exact Lk ac
 rw[←hR]at oR vR;have hw2:∀z∈bu::wr,z=bu:=by simpa using hw
 rw[htt]at q277;rcases hb2.1 with rfl|rfl
 . rw[d6,f7]at vR;have fin:=YS (X:=X) (V:=V) ac oR q0 vR hge;rw[hR]at fin;exact gg11
 . rw[jU]at vR;have back:=fun (L':List Int) (ca:Int) h1 h2 h3 h4 h5=>YT (X:=X) (V:=V) (R:=R) (L:=L') (q:=q) (ca:=ca) (d:=d) (n:=k+2) oV hV hX oR lR vR hX0 hle q0 h1 h2 h3 h4 h5
   rw[hR]at lR oR tR back;repeat' first|refine gd22 ?_|(apply alV (i:=k+2);rfl;rfl;exact hl;omega;omega)|(apply aeJ;rfl;rfl)|refine gd0 ?_|refine gc ?_|(intro _;omega)|intro _
   all_goals try omega
   refine YQ C hl hne hb lk lR oR hV oV _ _ _ _ _ _ _ _ _ _ _ _ _ _ _ _ _ hw2 (fun L' c2 aG lo wr hL' oL' ht' hc2 hw' hv'=>?_);rw[tR]at ht';obtain⟨q1,fin⟩:=back L' c2 hL' oL' ht' hv' hc2;rw[←ht']at fin;have hw3:∀z∈bu::wr,z=bu:=by simpa using hw'
   repeat' first|refine gd22 ?_|(apply alV (i:=k+2);rfl;rfl;exact hl;omega;omega)|(apply alZ (a:=q);rfl;rfl;omega)|(apply amn;rfl;rfl)|refine gc ?_|fail
   all_goals try omega
   exact⟨.inr rfl,rfl,_,rfl,q-1,_,fin,rfl,hw3,rfl⟩
theorem YU {n:Nat}{v:AV}{s:aq}(hh:s.s.hp.length=n):dy v n s=⟨v,s.s.hp,s.wr.filter (· < n)⟩:=by
 unfold dy;split
 . rw[b5 ac]
 . rfl
theorem YV (C:Eo M)(hl:bu<hp.length)(hne:bu≠bv)(hb:hp.at bv=some (.cells (al (V++Y)) e'))(lk:k<10000000)(hX:X.length=k+3)(oX:okW wB X)(hV:V.length=k+2)(oV:okW wB V)(hv:9223372036854775808<=V[k+1]!)(hT:WV wB X<wB*WV wB V) :
 ∃q R,rA X V q R/\∃wr,(∀z∈wr,z=bu)/\aV M 281 [.sl bu P.length (k+3) 1 cu,.sl bv 0 (k+2) 1 cv] (da hp bu e P S X) ⟨.uV q,da hp bu e P S R,wr⟩:=by
 have K:=jP.of hX hV oX oV hv hT;have h1:=K.h1;have w1:=K.w1;have h2:=K.h2;have key:=fJ.mz (M:=M) (f:=281) (ars:=[.sl bu P.length (k+3) 1 cu,.sl bv 0 (k+2) 1 cv]) (h:=da hp bu e P S X) (K:=fun hr=>∃q R,rA X V q R/\∃wr,(∀z∈wr,z=bu)/\hr=⟨.uV q,da hp bu e P S R,wr⟩) (by rw[C.ft];exact Yk) be (by
  refine W.mono (Q:=fun x s=>(x = .normal\/x = .ret)/\s.s.bV=[]/\∃vs,dx s.s [.var (.p 2)]=some vs/\∃q R,rA X V q R/\s.s.hp=da hp bu e P S R/\(∀z∈s.wr,z=bu)/\aW vs = .uV q) ?_ (fun x s ⟨g1,g2,vs,g3,q,R,g4,g5,g6,g7⟩=>⟨g1,s,by rw[g2];rfl,vs,g3,q,R,g4,s.wr.filter (· < (da hp bu e P S X).length),fun z hz=>g6 z (List.mem_filter.1 hz).1,by rw[YU (by rw[g5,Lt,Lt]),g5,g7]⟩);unfold KY;simp only[enter];by_cases h:V[k+1]! <= X[k+2]!
  . have I:=iL.YN K h;have q275:=fun h=>C.nN X[k+1]! V[k+1]! 0 h h1.1 ac am am
    have e1:(X[k+1]! + V[k+1]! + 0)%18446744073709551616+18446744073709551616*((X[k+1]! + V[k+1]! + 0)/18446744073709551616)=X[k+1]! + V[k+1]! := by omega
    rw[←e1]at I;repeat' first|refine gd22 ?_|(apply alE (i:=k+1);rfl;exact hl;omega;omega)|(apply alG (i:=k+1);rfl;exact hb;exact hne;omega;omega)|refine gd1 ?_|(apply agV;rfl;rfl)|refine gc ?_|(intro _;omega)|intro _
    all_goals try omega
    refine Lv C.tonO hl hne hb lk hX hV K _ _ _ _ _ _ _ _ _ _ _ _ _ _ (fun q rh ov a7 a8 lo g1 g2 g3=>?_) _ _ _ _ _ _ I ac ac;exact gg17
  . have I:=iL.YO K ac;have q278:=fun h=>C.Ep X[k+2]! X[k+1]! V[k+1]! h ac ac h1
    have r0:=i8 (X[k+2]! * 18446744073709551616+X[k+1]!) (show V[k+1]! ≠ 0 by omega);have r1:=iz (X[k+2]! * 18446744073709551616+X[k+1]!) (show 0<V[k+1]! by omega);rw[←f7 ((X[k+2]! * 18446744073709551616+X[k+1]!)%V[k+1]!),←d6 18446744073709551616]at I;repeat' first|refine gd22 ?_|(apply alE (i:=k+1);rfl;exact hl;omega;omega)|(apply alG (i:=k+1);rfl;exact hb;exact hne;omega;omega)|refine gd1 ?_|(apply agV;rfl;rfl)|refine gc ?_|(intro _;omega)|intro _
    all_goals try omega
    refine Lv C.tonO hl hne hb lk hX hV K _ _ _ _ _ _ _ _ _ _ _ _ _ _ (fun q rh ov a7 a8 lo g1 g2 g3=>?_) _ _ _ _ _ _ I ⟨r0,ac⟩ am;exact gg17
  )
 obtain⟨r,h1,q,R,h2,wr,h3,rfl⟩:=key;exact⟨q,R,h2,wr,h3,h1⟩
theorem anl {t n b:Nat}{k k':IntKind}{x y z:ay}{l:List aX}{pe:List AV}{lo:List (Nat×AV)}{hp:aa}{df wr:List Nat}{i j:Int}{Q:aq->Prop}(i' r:Nat)(hx:(St.mk pe lo hp df).ae x=some (.sl b 0 n 1 (some n)))(hy:(St.mk pe lo hp df).ae y=some (.int k i))(hz:(St.mk pe lo hp df).ae z=some (.int k' j))
 (hi:i=i') (hj:j=i'+r) (hr:0<r) (hn:i'+r<=n)
 (h:WO M l ⟨⟨pe,(t,.sl b i' r 1 (some (n-i')))::lo,hp,df⟩,wr⟩ Q):WO M (⟨.l t,.slice .sl 1 x (some y) (some z) none,none⟩::l) ⟨⟨pe,lo,hp,df⟩,wr⟩ Q:=by
 subst hi;have ej:j=((i'+r:Nat):Int):=by omega
 subst ej;refine abL (v:=.sl b i' r 1 (some (n-i'))) ?_ rfl h;have h1:(0:Int)<=((i'+r:Nat):Int)/\((i'+r:Nat):Int)<=(n:Int):=by omega
 have h2:(0:Int)<=(i':Int)/\(i':Int)<=((i'+r:Nat):Int):=by omega
 simp only[aY,hx,St.cZ,hy,hz,mV,jo,bR,kJ,k9,m8,if_true,Option.getD_some,if_pos h1,gT,if_pos h2,Nat.mul_one,Nat.zero_add];rw[if_pos ac,show i'+r-i'=r by omega]
structure Er (M:aw):Prop extends Eo M where
 tL:∀ars h,M.ext 280 ars h=none
 yd:∀ars h,M.ext 281 ars h=none
variable {j:Nat} {U:List Int}
theorem YW (C:Er M)(hU:hp.at bu=some (.cells (al U) e))(hne:bu≠bv)(hb:hp.at bv=some (.cells (al (V++Y)) e'))(lk:k<10000000)(hj:j+(k+3)<=U.length)(oU:okW wB U)(hV:V.length=k+2)(oV:okW wB V)(hv:9223372036854775808<=V[k+1]!)(hup:WV wB (U.drop (j+1))<WV wB V) :
 ∃q U',(0<=q/\q<18446744073709551616)/\U'.length=U.length/\okW wB U'/\WV wB U'=WV wB U-wB^j*(q*WV wB V)/\WV wB (U'.drop j)<WV wB V/\∃wr,(∀z∈wr,z=bu)/\CT M (.fn (.func 281) [] []) [.sl bu j (k+3) 1 cu,.sl bv 0 (k+2) 1 cv] hp ⟨.uV q,hp.put bu (some (.cells (al U') e)),wr⟩:=by
 obtain⟨P,hP⟩:∃P,P=U.take j:=⟨_,rfl⟩;obtain⟨X,hX⟩:∃X,X=(U.drop j).take (k+3):=⟨_,rfl⟩;obtain⟨S,hS⟩:∃S,S=U.drop (j+(k+3)):=⟨_,rfl⟩;have eU:U=P++X++S:=by
  rw[hP,hX,hS,g9,←m6,i5,i5]
 have lP:P.length=j:=by rw[hP,b8];omega
 have lX:X.length=k+3:=by rw[hX,b8,mp];omega
 have oX:okW wB X:=by rw[hX];exact dF (jM oU _) _
 have oS:okW wB S:=by rw[hS];exact jM oU _
 have oP:okW wB P:=by rw[hP];exact dF oU _
 have eD:U.drop j=X++S:=by rw[eU,←lP,g9,m7]
 have hl:bu<hp.length:=cJ hU;have gj:=cg oU (i:=j) ac;have d1:=pH (b:=wB) (l:=U) (i:=j) ac;have lt:=dg (b:=wB) am oV;rw[hV]at lt;have hpow:(0:Int)<wB^(k+2):=c7 am;have hS0:WV wB S=0:=by
  have h1:WV wB (U.drop (j+1))=WV wB ((U.drop (j+1)).take (k+2))+wB^(k+2)*WV wB S:=by
   have:=mC (b:=wB) (l:=U.drop (j+1)) (i:=k+2) (by rw[mp];omega);rwa [m6,show j+1+(k+2)=j+(k+3) by omega,←hS]at this
  have h2:=cB (b:=wB) am (dF (jM oU (j+1)) (k+2));have h3:=cB (b:=wB) am oS;rcases f8 0 (WV wB S) with h|h
  . have:=b6 (show 1<=WV wB S by omega) (dY hpow);omega
  . omega
 have hXD:WV wB X=WV wB (U.drop j):=by rw[eD,gh,hS0,d6,f7]
 have hT:WV wB X<wB*WV wB V:=by
  rw[hXD,d1];have gj:0<=U[j]! /\ U[j]! < 18446744073709551616:=gj;show _+18446744073709551616*_<18446744073709551616*_;omega
 obtain⟨q,R,⟨hq,lR,oR,vR,tR⟩,wr,hw,hrun⟩:=YV (cu:=cu) (cv:=cv) (P:=P) (S:=S) (e:=e) C.toEo hl hne hb lk lX oX hV oV hv hT;refine⟨q,P++R++S,hq,?_,jV (jV oP oR) oS,?_,?_,wr,hw,?_⟩
 . rw[eU];simp[lR]
 . rw[eU,g9,gh,gh,g9,gh,gh,vR,lR,lP,fT,fT,j7];omega
 . rw[←lP,g9,m7,gh,hS0,d6,f7];exact tR
 . rw[lP]at hrun;have e1:da hp bu e P S X=hp:=by unfold da;rw[←eU];exact Ki hU
   rw[e1]at hrun;exact CT.run (fi:=[]) (ca:=[]) (C.yd _ _) hrun
variable {cap c1 c2:Option Nat}
def dj (x:AV)(l:List Int):Prop:=x = .vs (al l) l.length none\/(x = .ab/\l=[])
def lv (v:AV)(hh:aa)(q r:List Int):Prop:=∃v1 x y,eH hh v v1/\v1.top=0/\bL v1 = .au [x,y]/\dj x q/\dj y r
theorem mY (l:List Int):cG (al l)=al l:=ra (fun _=>rfl) l
theorem Lw {b:Nat}{L:List Int}{e:TypeId}{hp:aa}{n:Nat}(hb:hp.at b=some (.cells (al L) e))(hn:n<=L.length)(hh:aa)(he:(bE b (aQ (L.take n)) cap).top≠0->hh=hp) :
 ∃v1,eH hh (bE b (aQ (L.take n)) cap) v1/\v1.top=0/\bL v1 = .vs (al (L.take (aQ (L.take n)))) (L.take (aQ (L.take n))).length none:=by
 have hle:=iW (l:=L.take n);rw[b8]at hle;obtain⟨k,hk⟩:∃k,k=aQ (L.take n):=⟨_,rfl⟩;rw[←hk]at hle he ⊢;by_cases h0:0<k
 . have e1:bE b k cap = .sl b 0 k 1 cap:=if_pos h0;rw[e1]at he ⊢;obtain rfl:=he (by simp[AV.top]);have hl:(L.take k).length=k:=by rw[b8];omega
   have hF:eH hh (.sl b 0 k 1 cap) (.vs (al (L.take k)) k none):=by
    refine .sl (m:=al (L.take k)) hb ?_ rfl (fun i x y hx hy=>?_)
    . have:=ji (f:=uC) (esz:=1) (fun _=>rfl) (l:=L) (i:=0) (n:=k) ac;grind
    . rw[hx]at hy;cases hy;exact .same (cO (ib _) hx)
   rw[hl];exact⟨_,hF,ib _,by rw[bL,mY]⟩
 . obtain rfl:k=0:=by omega
   exact⟨.vs [] 0 cap,.same rfl,rfl,rfl⟩
theorem lv.trim {d1 d2:Option Nat}{b1 b2:Nat}{L1 L2:List Int}{e1 e2:TypeId}{hp:aa}{n1 n2:Nat}(h1:hp.at b1=some (.cells (al L1) e1))(hn1:n1<=L1.length)(h2:hp.at b2=some (.cells (al L2) e2))(hn2:n2<=L2.length) :
 lv (aW [bE b1 (aQ (L1.take n1)) d1,bE b2 (aQ (L2.take n2)) d2]) (if (aW [bE b1 (aQ (L1.take n1)) d1,bE b2 (aQ (L2.take n2)) d2]).top<=0 then [] else hp) (L1.take (aQ (L1.take n1))) (L2.take (aQ (L2.take n2))):=by
 obtain⟨x,hx⟩:∃x,x=bE b1 (aQ (L1.take n1)) d1:=⟨_,rfl⟩;obtain⟨y,hy⟩:∃y,y=bE b2 (aQ (L2.take n2)) d2:=⟨_,rfl⟩;obtain⟨hh,hhh⟩:∃hh,hh=(if (aW [x,y]).top<=0 then [] else hp):=⟨_,rfl⟩;have et:(aW [x,y]).top=max x.top (max y.top 0):=rfl;obtain⟨v1,f1,t1,k1⟩:=Lw (cap:=d1) h1 hn1 hh bS;obtain⟨v2,f2,t2,k2⟩:=Lw (cap:=d2) h2 hn2 hh bS;rw[←hx,←hy,←hhh];rw[←hx]at f1;rw[←hy]at f2;refine⟨.au [v1,v2],_,_,.au rfl (fun i a b ha hb=>?_),?_,?_,.inl rfl,.inl rfl⟩
 . grind
 . simp[AV.top,bc,t1,t2]
 . simp only[bL,cG,k1,k2]
theorem lv.less {hh:aa}{l:List Int}:lv (aW [.ab,.vs (al l) l.length cap]) hh [] l:=by
 have ht:(aW [.ab,.vs (al l) l.length cap]).top=0:=by simp[aW,AV.top,bc,ib l]
 refine⟨aW [.ab,.vs (al l) l.length cap],.ab,.vs (al l) l.length none,.same ht,ht,?_,.inr ⟨rfl,rfl⟩,.inl rfl⟩;simp only[aW,bL,cG,mY l]
def tM (M:aw)(g:Nat)(ars:List AV)(x y:Int):Prop:=∃q r:List Int,(okW wB q/\aN q/\WV wB q=x/y)/\(okW wB r/\aN r/\WV wB r=x%y)/\∃v hh,lv v hh q r/\aV M g ars [] ⟨v,hh,[]⟩
theorem Lx {f N:Nat}{aR:List Nat}{res:List fA}{body:ak}{ars:List AV}{x y:Int}(hft:M.FT f=some ⟨N,aR,res,body⟩)(hN:ars.length<=N)
 (h:W M body ⟨⟨aR.map (fun t=>(ars[t]?).getD bD),[],[],[]⟩,[]⟩ fun e s=>(e = .normal\/e = .ret)/\s.s.bV=[]/\∃vs,dx s.s res=some vs/\∃q r:List Int,(okW wB q/\aN q/\WV wB q=x/y)/\(okW wB r/\aN r/\WV wB r=x%y)/\lv (aW vs) (if (aW vs).top<=0 then [] else s.s.hp) q r):tM M f ars x y:=by
 obtain⟨v,hh,⟨q,r,hq,hr,ho⟩,h2⟩:=gO (P:=fun v hh=>∃q r:List Int,(okW wB q/\aN q/\WV wB q=x/y)/\(okW wB r/\aN r/\WV wB r=x%y)/\lv v hh q r) hft hN h;exact⟨q,r,hq,hr,v,hh,ho,h2⟩
structure Es (M:aw):Prop extends Er M where
 rB:∀(a b:List Int) c1 c2 h,okW wB a->okW wB b->aN a->aN b->a.length<1000000000->b.length<1000000000->M.ext 250 [.vs (al a) a.length c1,.vs (al b) b.length c2] h=some ⟨.iV (bz (WV wB a-WV wB b)),h,[]⟩
 yb:∀(y:Int) h,(0<=y/\y<18446744073709551616)->M.ext 279 [.uV y] h=some ⟨.iV (64-cj y:Nat),h,[]⟩
theorem nS {x y q r:Int}(h:x=y*q+r)(h0:0<=r)(h1:r<y):q=x/y/\r=x%y:=by
 subst h;refine⟨?_,?_⟩
 . rw[lC,j6 _ _ ac,j3 h0 h1,Int.zero_add]
 . rw[lC,Int.add_mul_emod_self_left,Int.emod_eq_of_lt h0 h1]
theorem Ly (C:Eo M)(a b:List Int)(oa:okW wB a)(ob:okW wB b)(la:a.length<10000000)(lb:b.length=1)(hb0:0<b[0]!){Q:Ex->aq->Prop}(a2 a3 a7 a8 a9 aA aB aC aD aE aF:AV)(lo:List (Nat×AV))
 (hQ:∀L (re:Int) lo wr,L.length=a.length->okW wB L->(0<=re/\re<b[0]!)->WV wB a=b[0]! * WV wB L+re ->
   Q (.exit 0) ⟨⟨[.vs (al a) a.length c1,.vs (al b) b.length c2,a2,a3,.sl 0 0 a.length 1 (some a.length),.uV re,.iV (-1),a7,a8,a9,aA,aB,aC,aD,aE,aF],lo,[some (.cells (al L) 246)],[]⟩,wr⟩) :
 W M (.loop xK) ⟨⟨[.vs (al a) a.length c1,.vs (al b) b.length c2,a2,a3,.sl 0 0 a.length 1 (some a.length),.uV 0,.iV ((a.length:Int)-1),a7,a8,a9,aA,aB,aC,aD,aE,aF],lo,[some (.cells (al (ci a.length 0)) 246)],[]⟩,[]⟩ Q:=by
 refine W.gP (fun t s=>∃L re iv lo wr,s=⟨⟨[.vs (al a) a.length c1,.vs (al b) b.length c2,a2,a3,.sl 0 0 a.length 1 (some a.length),.uV re,.iV iv,a7,a8,a9,aA,aB,aC,aD,aE,aF],lo,[some (.cells (al L) 246)],[]⟩,wr⟩ /\
  iv=(t:Int)-1/\t<=a.length/\L.length=a.length/\okW wB L/\(0<=re/\re<b[0]!)/\(∀k,k<t->L[k]! = 0)/\WV wB a=b[0]! * WV wB L+wB^t*re+WV wB (a.take t)) (fun t s ⟨L,re,iv,lo,wr,hs,hiv,ht,hL,oL,hre,hz,hv⟩=>?_) (m:=a.length)
  ⟨_,_,_,_,_,rfl,rfl,d8 _,be,lI am,⟨am,hb0⟩,fun k _=>mE,by rw[lJ,dN];simp⟩
 subst hs;cases t with
 | zero=>
  obtain rfl:iv = -1:=by omega
  unfold xK;exact gg0
 | succ i=>
  obtain rfl:iv=(i:Int):=by omega
  have gx:=cg oa (i:=i) ac;obtain⟨x,hx⟩:∃x,x=a[((i:Int)).toNat]! := ⟨_,rfl⟩;rw[show a[i]! = x from hx.symm]at gx;have gx:0<=x/\x<18446744073709551616:=gx;have gy:=cg ob (i:=0) ac;obtain⟨y,hy⟩:∃y,y=b[(0:Int).toNat]! := ⟨_,rfl⟩;rw[show b[0]! = y from hy.symm]at gy hre hb0 hv hQ;have gy:0<=y/\y<18446744073709551616:=gy;have q278:=fun h=>C.Ep re x y h ⟨hb0,gy.2⟩ hre gx
  have e1:=gF (re*18446744073709551616+x) y;have r0:=i8 (re*18446744073709551616+x) (show y≠0 by omega);have r1:=iz (re*18446744073709551616+x) hb0;have d0:0<=(re*18446744073709551616+x)/y:=fm ac ac;have d1:(re*18446744073709551616+x)/y<18446744073709551616:=ce ac ac;obtain⟨d,hd⟩:∃d,d=(re*18446744073709551616+x)/y:=⟨_,rfl⟩;obtain⟨r,hr⟩:∃r,r=(re*18446744073709551616+x)%y:=⟨_,rfl⟩;rw[←hd,←hr]at q278 e1;rw[←hd]at d0 d1;rw[←hr]at r0 r1;have eI:0+((i:Int)).toNat*1=i:=by omega
  have next:∀lo wr,LI (fun s=>∃m',m'<i+1/\∃L re iv lo wr,s=⟨⟨[.vs (al a) a.length c1,.vs (al b) b.length c2,a2,a3,.sl 0 0 a.length 1 (some a.length),.uV re,.iV iv,a7,a8,a9,aA,aB,aC,aD,aE,aF],lo,[some (.cells (al L) 246)],[]⟩,wr⟩ /\
   iv=(m':Int)-1/\m'<=a.length/\L.length=a.length/\okW wB L/\(0<=re/\re<b[0]!)/\(∀k,k<m'->L[k]! = 0)/\WV wB a=b[0]! * WV wB L+wB^m'*re+WV wB (a.take m')) Q .normal ⟨⟨[.vs (al a) a.length c1,.vs (al b) b.length c2,a2,a3,.sl 0 0 a.length 1 (some a.length),.uV r,.iV ((i:Int)-1),a7,a8,a9,aA,aB,aC,aD,aE,aF],lo,[some (.cells (al (L.set i d)) 246)],[]⟩,wr⟩:=fun lo wr=>
   bW ⟨i,mU i,_,_,_,lo,wr,rfl,rfl,ac,bS,gQ oL ⟨d0,d1⟩,⟨r0,bS⟩,fun k hk=>by rw[jt ac];grind,by
    rw[show b[0]! = y from hy.symm,hv,gR ac,hz i ac,fE ac,show a[i]! = x from hx.symm,b9,i9];grind⟩
  rw[hx,hy]at q278;unfold xK;exact gg17
theorem alH {t b m:Nat}{x:ay}{l:List aX}{pe:List AV}{lo:List (Nat×AV)}{hp:aa}{df wr:List Nat}{L:List Int}{e:TypeId}{v:Int}{Q:aq->Prop}(hx:(St.mk pe lo hp df).ae x=some (.ptr b m))(hb:hp.at b=some (.cells (al L) e))(hi:m<L.length)(hv:L[m]! = v)
 (h:WO M l ⟨⟨pe,(t,.uV v)::lo,hp,df⟩,wr⟩ Q):WO M (⟨.l t,.load 1 false x,none⟩::l) ⟨⟨pe,lo,hp,df⟩,wr⟩ Q:=by
 subst hv;exact akx hx hb hi h
theorem YX (C:Er M){k N:Nat}{V Y U0:List Int}(lN:N<10000000)(hN:k+3<=N)(hV:V.length=k+2)(oV:okW wB V)(hv:9223372036854775808<=V[k+1]!)(hU0:U0.length=N)(oU0:okW wB U0)(hup:WV wB (U0.drop (N-(k+2)))<WV wB V){Q:Ex->aq->Prop}(a0 a1 a2 a3 a4 a5 a6 a7 aD aE aF:AV)(lo:List (Nat×AV))(wr:List Nat)
 (hQ:∀U L lo wr,U.length=N->okW wB U->L.length=N-(k+2)->okW wB L->WV wB U0=WV wB V*WV wB L+WV wB U->WV wB U<WV wB V ->
   Q (.exit 2) ⟨⟨[a0,a1,a2,a3,a4,a5,a6,a7,.sl 0 0 (k+2) 1 cv,.sl 1 0 N 1 (some N),.iV ((k+2:Nat):Int),.sl 2 0 (N-(k+2)) 1 cap,.iV (-1),aD,aE,aF],lo,[some (.cells (al (V++Y)) 246),some (.cells (al U) 246),some (.cells (al L) 246)],[]⟩,wr⟩)
 (j:Int) (hj:j=(N:Int)-(k+3)) :
 W M (.loop xL) ⟨⟨[a0,a1,a2,a3,a4,a5,a6,a7,.sl 0 0 (k+2) 1 cv,.sl 1 0 N 1 (some N),.iV ((k+2:Nat):Int),.sl 2 0 (N-(k+2)) 1 cap,.iV j,aD,aE,aF],lo,[some (.cells (al (V++Y)) 246),some (.cells (al U0) 246),some (.cells (al (ci (N-(k+2)) 0)) 246)],[]⟩,wr⟩ Q:=by
 refine W.gP (fun t s=>∃U L iv lo wr,s=⟨⟨[a0,a1,a2,a3,a4,a5,a6,a7,.sl 0 0 (k+2) 1 cv,.sl 1 0 N 1 (some N),.iV ((k+2:Nat):Int),.sl 2 0 (N-(k+2)) 1 cap,.iV iv,aD,aE,aF],lo,[some (.cells (al (V++Y)) 246),some (.cells (al U) 246),some (.cells (al L) 246)],[]⟩,wr⟩ /\
  iv=(t:Int)-1/\t<=N-(k+2)/\U.length=N/\okW wB U/\L.length=N-(k+2)/\okW wB L/\(∀k,k<t->L[k]! = 0)/\WV wB U0=WV wB V*WV wB L+WV wB U/\WV wB (U.drop t)<WV wB V) (fun t s ⟨U,L,iv,lo,wr,hs,hiv,ht,hU,oU,hL,oL,hz,hv1,hv2⟩=>?_) (m:=N-(k+2))
  ⟨_,_,_,_,_,rfl,ac,d8 _,hU0,oU0,be,lI am,fun k _=>mE,by rw[lJ,d6,Int.zero_add],hup⟩
 subst hs;cases t with
 | zero=>
  obtain rfl:iv = -1:=by omega
  unfold xL;exact gg0
 | succ i=>
  obtain rfl:iv=(i:Int):=by omega
  obtain⟨q,U',hq,lU,oU',vU,tU,w,hw,hct⟩:=YW (cu:=some (N-i)) (cv:=cv) (bu:=1) (bv:=0) (e:=246) (e':=246) (hp:=[some (.cells (al (V++Y)) 246),some (.cells (al U) 246),some (.cells (al L) 246)]) (U:=U) (V:=V) (Y:=Y) (j:=i) C rfl am rfl ac ac oU hV oV hv hv2;have hct:CT M (.fn (.func 281) [] []) [.sl 1 i (k+3) 1 (some (N-i)),.sl 0 0 (k+2) 1 cv] [some (.cells (al (V++Y)) 246),some (.cells (al U) 246),some (.cells (al L) 246)] ⟨.uV q,[some (.cells (al (V++Y)) 246),some (.cells (al U') 246),some (.cells (al L) 246)],w⟩:=hct;have eI:0+((i:Int)).toNat*1=i:=by omega
  have next:∀lo wr,LI (fun s=>∃m',m'<i+1/\∃U L iv lo wr,s=⟨⟨[a0,a1,a2,a3,a4,a5,a6,a7,.sl 0 0 (k+2) 1 cv,.sl 1 0 N 1 (some N),.iV ((k+2:Nat):Int),.sl 2 0 (N-(k+2)) 1 cap,.iV iv,aD,aE,aF],lo,[some (.cells (al (V++Y)) 246),some (.cells (al U) 246),some (.cells (al L) 246)],[]⟩,wr⟩ /\
   iv=(m':Int)-1/\m'<=N-(k+2)/\U.length=N/\okW wB U/\L.length=N-(k+2)/\okW wB L/\(∀k,k<m'->L[k]! = 0)/\WV wB U0=WV wB V*WV wB L+WV wB U/\WV wB (U.drop m')<WV wB V) Q .normal ⟨⟨[a0,a1,a2,a3,a4,a5,a6,a7,.sl 0 0 (k+2) 1 cv,.sl 1 0 N 1 (some N),.iV ((k+2:Nat):Int),.sl 2 0 (N-(k+2)) 1 cap,.iV ((i:Int)-1),aD,aE,aF],lo,[some (.cells (al (V++Y)) 246),some (.cells (al U') 246),some (.cells (al (L.set i q)) 246)],[]⟩,wr⟩:=fun lo wr=>
   bW ⟨i,mU i,_,_,_,lo,wr,rfl,rfl,ac,ac,oU',bS,gQ oL hq,fun k hk=>by rw[jt ac];grind,by
    rw[gR ac,hz i ac,i9,vU,hv1,fT];grind,tU⟩
  unfold xL;exact gg17
theorem YY {x z:Int}{s:Nat}(hx:0<=x/\x<18446744073709551616)(hs:s<=63) :
 (0<=x/2^s/\x/2^s<2^(64-s))/\(0<=z*2^(64-s)%18446744073709551616/\z*2^(64-s)%18446744073709551616<18446744073709551616)/\z*2^(64-s)%18446744073709551616%2^(64-s)=0 /\
   (0<=x/2^s+z*2^(64-s)%18446744073709551616/\x/2^s+z*2^(64-s)%18446744073709551616<18446744073709551616) /\
   2^s*(x/2^s+z*2^(64-s)%18446744073709551616)=x-x%2^s+18446744073709551616*(z%2^s):=by
 have hp2:=c7 (n:=2) (m:=s) am;have hps:=xZ (s:=s) ac;have hp3:=c7 (n:=2) (m:=64-s) am;have e1:z*2^(64-s)%18446744073709551616=z%2^s*2^(64-s):=by
  rw[←hps,c3 z,c3 (2^s),Int.mul_emod_mul_of_pos _ _ hp3,c3]
 have h1:0<=x/2^s:=fm hx.1 ac;have h2:x/2^s<2^(64-s):=ce hp2 bS;have h3:=i8 z (show (2:Int)^s≠0 by omega);have h4:=iz z hp2;have h5:=gF x (2^s);have h6:2^s*(z%2^s*2^(64-s))=18446744073709551616*(z%2^s):=by
  rw[c3 (z%2^s),←f9,hps]
 have h7:0<=z%2^s*2^(64-s):=ac;have h8:(z%2^s+1)*2^(64-s)<=18446744073709551616:=by
  rw[←hps];exact b7 ac ac
 rw[ii,f6]at h8;have hm:0<=z*2^(64-s)%18446744073709551616/\z*2^(64-s)%18446744073709551616<18446744073709551616:=by omega
 refine⟨⟨h1,h2⟩,hm,by rw[e1];simp,?_,?_⟩
 . omega
 grind
theorem YZ {k N s:Nat}{U:List Int}{B0 B2:Option ba}(hs:s<=63)(lN:N<10000000)(hN:k+3<=N)(hU:U.length=N)(oU:okW wB U){Q:Ex->aq->Prop}(a0 a1 a2 a3 a4 a5 a6 a8 aB aC aD:AV)(lo:List (Nat×AV))(wr:List Nat)
 (hQ:∀D aD lo wr,D.length=N->okW wB D->(2:Int)^s*WV wB (D.take (k+2))=WV wB (U.take (k+2))-U[0]! % 2^s+wB^(k+2)*(U[k+2]! % 2^s) ->
   Q (.exit 4) ⟨⟨[a0,a1,a2,a3,a4,a5,a6,.iV s,a8,.sl 1 0 N 1 (some N),.iV ((k+2:Nat):Int),aB,aC,aD,.iV ((k+2:Nat):Int),.iV ((k+2:Nat):Int)],lo,[B0,some (.cells (al D) 246),B2],[]⟩,wr⟩) :
 W M (.loop xM) ⟨⟨[a0,a1,a2,a3,a4,a5,a6,.iV s,a8,.sl 1 0 N 1 (some N),.iV ((k+2:Nat):Int),aB,aC,aD,.iV ((k+2:Nat):Int),.iV 0],lo,[B0,some (.cells (al U) 246),B2],[]⟩,wr⟩ Q:=by
 refine W.di (k+2) (fun i s'=>∃D aD lo wr,s'=⟨⟨[a0,a1,a2,a3,a4,a5,a6,.iV s,a8,.sl 1 0 N 1 (some N),.iV ((k+2:Nat):Int),aB,aC,aD,.iV ((k+2:Nat):Int),.iV i],lo,[B0,some (.cells (al D) 246),B2],[]⟩,wr⟩ /\
  D.length=N/\okW wB D/\(∀k,i<=k->D[k]! = U[k]!)/\(2:Int)^s*WV wB (D.take i)=WV wB (U.take i)-U[0]! % 2^s+wB^i*(U[i]! % 2^s)) (fun i s' hi ⟨D,aD,lo,wr,hs',hD,oD,hk,hv⟩=>?_) (fun s' ⟨D,aD,lo,wr,hs',hD,oD,hk,hv⟩=>?_) (hZ _)
  ⟨_,_,_,_,rfl,hU,oU,fun k _=>rfl,by simp[WV];omega⟩
 . subst hs';have gx:=cg oU (i:=i) ac;obtain⟨x,hx⟩:∃x,x=U[i]! := ⟨_,rfl⟩;rw[←hx]at gx;have gx:0<=x/\x<18446744073709551616:=gx;have gz:=cg oU (i:=i+1) ac;obtain⟨z,hz⟩:∃z,z=U[i+1]! := ⟨_,rfl⟩;rw[←hz]at gz;have gz:0<=z/\z<18446744073709551616:=gz;obtain⟨w1,w2,w3,w4,w5⟩:=YY (z:=z) gx hs;have f0:D[i]! = x:=by rw[hk i (d8 _),hx]
   have f1:(D.set i (x/2^s))[i]! = x/2^s:=bS;have f2:(D.set i (x/2^s))[i+1]! = z:=by rw[jt ac,hk (i+1) ac,hz]
   have eI:0+((i:Int)).toNat*1=i:=by omega
   have eJ:0+((i:Int)+1).toNat*1=i+1:=by omega
   have fin:∀D' d,D'=D.set i d->d=x/2^s+z*2^(64-s)%18446744073709551616->D'.length=N/\okW wB D'/\(∀k,i+1<=k->D'[k]! = U[k]!)/\(2:Int)^s*WV wB (D'.take (i+1))=WV wB (U.take (i+1))-U[0]! % 2^s+wB^(i+1)*(U[i+1]! % 2^s):=fun D' d e ed=>by
    subst e;refine⟨bS,gQ oD bS,fun k hk'=>by grind,?_⟩;rw[fE bS,Lk ac,List.take_set_of_le (d8 i),fT,hv,fE ac,←hx,←hz,b9];grind
   unfold xM;by_cases h0:(0:Int)<s
   . refine gg19 ?_;obtain⟨f1,f2,f3,f4⟩:=fin _ _ (List.set_set _) rfl;exact bW ⟨_,_,_,_,rfl,f1,f2,f3,f4⟩
   . have e0:x/2^s=x/2^s+z*2^(64-s)%18446744073709551616:=by
      have:s=0:=by omega
      subst this;have:z*2^(64-0)%18446744073709551616=0:=by
       show z*18446744073709551616%18446744073709551616=0;omega
      omega
     refine gg19 ?_;obtain⟨f1,f2,f3,f4⟩:=fin _ _ rfl e0;exact bW ⟨_,_,_,_,rfl,f1,f2,f3,f4⟩
 . subst hs';unfold xM;exact gg0
end Go.Ab.Ch1
