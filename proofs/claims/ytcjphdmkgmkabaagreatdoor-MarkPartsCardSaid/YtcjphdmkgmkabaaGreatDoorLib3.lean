/-
  Own work: the resolved code of some functions of chapter 1.
-/
import Derived.Test.YtcjphdmkgmkabaaGreatDoorCh1Base
import Derived.Test.YtcjphdmkgmkabaaGreatDoorLib2
import Derived.Test.YtcjphdmkgmkabaaGreatDoorCh1Row
set_option maxHeartbeats 8000000
set_option maxRecDepth 20000
namespace Go.Ab.Ch1
set_option maxRecDepth 1000000
end Go.Ab.Ch1

/-
  Own work: plain facts of drawn orders: an exchange after the other gives an order of the same elements; its last place and the rest.
-/
namespace Go.Ab
end Go.Ab

/-
  Own work: mark.Draw, mark.outside, stadionref01.CheckDraw: what they compute.
-/
namespace Go.Ab.Ch1
open Go.Proofs.Tryz
variable {M:ax}
end Go.Ab.Ch1

/-
  Own work: contracts of chapter 1 as a table.
-/
namespace Go.Ab
open Go.ChangeShapes Go.WideShapes Go.RowKit
variable {P:Program} {gl:Nat->Option AV}
theorem bj {FT:FuncId->Option dc}{T:List (Nat×Spec)}:(aX P FT T).FT=FT:=rfl
theorem fN {FT:FuncId->Option dc}{T:List (Nat×Spec)}:(aX P FT T).ext=bm T:=rfl
theorem Tf {FT:FuncId->Option dc}(hs:jF P gl FT){T:List (Nat×Spec)}(hT:cA P gl (bm T)){f:Nat}{xs:List AV}{w:World}(hr:aT (aX P FT T) f xs [] ⟨.bool true,[],[]⟩)
 (hgl:∀g v,gl g=some v->V bare w v (.pointer (some ⟨g,0,none⟩))) {as':List Value} (hv:VL bare w xs as'):Calls P f as'.toArray w fun e w'=>e = .returned (.bool true)/\Below w.heap.size w w':=by
 obtain⟨n,hn⟩:=hr;refine(Rr hs.mix hT hs.ft hn hgl hv).mono fun e w' he=>?_
 obtain⟨v',h1,⟨ρ',h2⟩,h3⟩:=he;cases h2;exact⟨h1,Rs h3⟩
end Go.Ab
namespace Go.Ab.Ch1
open Go.Proofs
def Bx:Spec:=AD [] (.bool true)
theorem Tg:aS Tryz.prog gl 18 Bx:=Rw Hz rfl rfl SU
theorem Th (h:ab):Bx [] h=some ⟨.bool true,h,[]⟩:=rfl
end Go.Ab.Ch1

/-
  Own work: the resolved code of some functions of chapter 1: first, when.
-/
namespace Go.Ab.Ch1
set_option maxRecDepth 1000000
def HA:al:=zR [zi 2 0] (.seq (zR [zm 5 0] (.cond (.l 5) (zR [zm 6 1,zw 2 6] (.ret)) (.skip))) (zR [zi 2 0] (.ret)))
theorem Ti:FT 97=some ⟨7,[0,1,4],[.var (.p 2)],HA⟩:=by kernel_rfl
def uL:al:=zR [zr 8 .lss 5 4] (.seq (.cond (.l 8) (.skip) (.exit 0)) (.seq (.block 1 (zR [⟨.l 9,.cP none 1 (.p 3) (.p 5),none⟩,zd 10 1 9,zw 2 10] (zR [zm 11 2,zc 12 .neq 11 0] (.cond (.l 12) (zR [zm 13 2,zw 1 13] (.ret)) (.skip))))) (.region [zq 14 .add 5 1,zw 5 14])))
def HB:al:=zR [zi 1 0] (.seq (zR [⟨.p 3,.mv (.p 0),none⟩,⟨.p 4,.len .sl (.p 3),none⟩,zi 5 0] (.block 0 (.loop uL))) (zR [zi 1 0] (.ret)))
theorem Tj:FT 96=some ⟨15,[0,2,4,5,6,7],[.var (.p 1)],HB⟩:=by kernel_rfl
def HC:al:=zR [zi 2 0] (.seq (zR [zm 5 0] (.cond (.l 5) (zR [zm 6 1,zw 2 6] (.ret)) (.skip))) (zR [zi 2 0] (.ret)))
theorem Tk:FT 25=some ⟨7,[0,1,4],[.var (.p 2)],HC⟩:=by kernel_rfl
end Go.Ab.Ch1

/-
  Own work: first and when of chapter 1.
-/
namespace Go.Ab.Ch1
variable {inv:fw} {F:FuncId->Option dc}
abbrev uM (T:List (Nat×Spec))(inv:fw)(F:FuncId->Option dc):ax:=⟨bm T,inv,F⟩
def ik:List Int->Int
 | []=>0
 | e::r=>if e=0 then ik r else e
def pP:Spec:=fun
 | [.bool t,.int .i64 e],h=>some ⟨.int .i64 (if t then e else 0),h,[]⟩
 | _,_=>none
def pQ:Spec:=fun
 | [v],h=>match kZ h v with
   | some l=>if l.length<4611686018427387904 then some ⟨.int .i64 (ik l),h,[]⟩ else none
   | none=>none
 | _,_=>none
theorem Tl {T:List (Nat×Spec)}(hft:F=FT)(t:Bool)(e:Int):aT (uM T inv F) 97 [.bool t,.int .i64 e] [] ⟨.int .i64 (if t then e else 0),[],[]⟩:=by
 refine bH (show F 97=_ from by rw[hft];exact Ti) (by simp) ?_;unfold HA;simp only[enter];cases t;all_goals
  repeat' first|apply aap|apply aM|apply aaF|apply aaY|apply abu|apply abJ|apply bZ|(apply abz;rfl)|(apply abF;rfl)|(apply aab;rfl;rfl)|(apply aaZ;rfl;rfl)
 all_goals exact⟨.inr rfl,rfl,_,rfl,rfl,rfl⟩
theorem Tm {T:List (Nat×Spec)}(hft:F=FT)(t:Bool)(e:Int):aT (uM T inv F) 25 [.bool t,.int .i64 e] [] ⟨.int .i64 (if t then e else 0),[],[]⟩:=by
 refine bH (show F 25=_ from by rw[hft];exact Tk) (by simp) ?_;unfold HC;simp only[enter];cases t;all_goals
  repeat' first|apply aap|apply aM|apply aaF|apply aaY|apply abu|apply abJ|apply bZ|(apply abz;rfl)|(apply abF;rfl)|(apply aab;rfl;rfl)|(apply aaZ;rfl;rfl)
 all_goals exact⟨.inr rfl,rfl,_,rfl,rfl,rfl⟩
theorem Tn {l:List Int}{i:Nat}(h:i<l.length):ik (l.drop i)=if l[i]! = 0 then ik (l.drop (i+1)) else l[i]! := by
 rw[List.drop_eq_getElem_cons h,getElem!_pos l i h,ik]
theorem HD {T:List (Nat×Spec)}(l:List Int)(cap:Option Nat)(a0:AV)(hl:l.length<4611686018427387904)(hp:ab)(df:List Nat){Q:Ex->ao->Prop}:∀(r i:Nat),i+r=l.length->∀(a1 a2:AV) (lo:List (Nat×AV)) (wr:List Nat),
 (ik (l.drop i)=0->∀a2 lo wr,Q (.exit 0) ⟨⟨[a0,a1,a2,.vs (ints l) l.length cap,.int .i64 l.length,.int .i64 l.length],lo,hp,df⟩,wr⟩) ->
 (∀a2 a5 lo wr,Q .ret ⟨⟨[a0,.int .i64 (ik (l.drop i)),a2,.vs (ints l) l.length cap,.int .i64 l.length,a5],lo,hp,df⟩,wr⟩) ->
 W (uM T inv F) (.loop uL) ⟨⟨[a0,a1,a2,.vs (ints l) l.length cap,.int .i64 l.length,.int .i64 i],lo,hp,df⟩,wr⟩ Q
 | 0,i,hi,a1,a2,lo,wr,h1,h2=>by
  obtain rfl:i=l.length:=by omega
  refine W.loop ?_;unfold uL;exact gg13
 | r+1,i,hi,a1,a2,lo,wr,h1,h2=>by
  have e:=Tn (l:=l) (i:=(i:Int).toNat) (by omega);rw[Int.toNat_natCast]at e;refine W.loop ?_;unfold uL;repeat' first|apply aap|apply aM|apply aaF|apply aaY|apply acS|apply abu|apply abJ|apply bZ|apply cX|apply fx|apply kL|(apply abz;rfl)|(apply abF;rfl)|(apply ada;rfl;rfl)|(apply aef;rfl;rfl)|(apply ael;rfl;rfl;omega)|(apply aeX;rfl;rfl;omega)|(apply afu;rfl;exact fun _=>rfl;(first|omega|(simp only[List.length_set];omega)|(simp;omega));decide;rfl;case ia=>infer_instance)|(apply aab;rfl;rfl)|(apply aaZ;rfl;rfl)|(intro _;omega)|intro _
  . rename_i hne;rw[Int.toNat_natCast]at hne;rw[if_neg hne]at e;rw[e]at h2;exact h2 _ _ _ _
  . rename_i he;rw[Int.toNat_natCast]at he;rw[if_pos he]at e;rw[e]at h1 h2;exact fT (HD l cap a0 hl hp df r (i+1) (by omega) _ _ _ _ h1 h2)
theorem To {T:List (Nat×Spec)}(hft:F=FT)(l:List Int)(cap:Option Nat)(hl:l.length<4611686018427387904):aT (uM T inv F) 96 [.vs (ints l) l.length cap] [] ⟨.int .i64 (ik l),[],[]⟩:=by
 refine bH (show F 96=_ from by rw[hft];exact Tj) (by simp) ?_;unfold HB;simp only[enter];refine gg3 ?_;refine HD l cap _ hl _ _ l.length 0 (by omega) _ _ _ _ (fun h a2 lo wr=>?_) (fun a2 a5 lo wr=>?_)
 . exact gg9
 . exact gg1
end Go.Ab.Ch1

/-
  Own work: the contracts of first and when as a table.
-/
namespace Go.Ab.Ch1
open Go.Proofs
theorem Tp:aS Tryz.prog gl 97 pP:=by
 intro xs h r hq;unfold pP at hq;split at hq
 . cases hq;exact AE nU bx (Tl (T:=[]) rfl _ _) (gu.same rfl) rfl (.inl rfl)
 . cases hq
theorem Tq:aS Tryz.prog gl 25 pP:=by
 intro xs h r hq;unfold pP at hq;split at hq
 . cases hq;exact AE nU bx (Tm (T:=[]) rfl _ _) (gu.same rfl) rfl (.inl rfl)
 . cases hq
theorem Tr {f:Nat}(hw:∀(l:List Int) cap,l.length<4611686018427387904->aT (aX Tryz.prog FT []) f [.vs (ints l) l.length cap] [] ⟨.int .i64 (ik l),[],[]⟩):aS Tryz.prog gl f pQ:=by
 intro xs h r hq;unfold pQ at hq;split at hq
 . split at hq
   . rename_i l hl;split at hq
     . rename_i hlen;cases hq;obtain⟨S,cap,hf⟩:=(RM hl).fr (fun _=>rfl);exact AE nU bx (hw l cap hlen) (.cons hf .nil) rfl (.inr rfl)
     . cases hq
   . cases hq
 . cases hq
theorem Ts:aS Tryz.prog gl 96 pQ:=Tr fun l cap h=>To (T:=[]) rfl l cap h
end Go.Ab.Ch1

/-
  Own work: the code of the words of integers, and of the words' own operations.
-/
namespace Go.Ab.Ch1
set_option maxRecDepth 1000000
def uN:al:=.seq (zR [zm 6 2,zc 7 .gtr 6 0,zn 8 7,zg (zm 9 0) 8 true,zg (zm 10 2) 8 true,zg (zc 11 .sub 10 1) 8 true,zg (za 12 1 9 11) 8 true,zg (zd 13 1 12) 8 true,⟨.l 14,.bin .eql (.l 13) (kU 0),some ((.l 8),true)⟩,zp 15 8 14] (.cond (.l 15) (.skip) (.exit 0))) (.block 1 (.region [zm 16 2,zc 17 .sub 16 1,zw 2 17]))
def HE:al:=zR [⟨.p 1,.mv (.c (.ae)),none⟩] (zR [zm 4 0,zl 5 4,zw 2 5] (.seq (.block 0 (.loop uN)) (zR [zm 18 0,zm 19 2,⟨.l 20,.slice .sl 1 (.l 18) none (some (.l 19)) none,none⟩,zw 1 20] (.ret))))
theorem Tt:FT 276=some ⟨21,[0,2,3],[.var (.p 1)],HE⟩:=by kernel_rfl
def uO:al:=.seq (zR [zm 19 3,zc 20 .geq 19 0] (.cond (.l 20) (.skip) (.exit 0))) (.seq (.block 1 (.seq (.draw [(zm 23 0,[]),(zm 24 3,[0]),(za 25 1 23 24,[]),(zd 26 1 25,[]),(zm 27 1,[0,1,2,3]),(zm 28 3,[0,1,2,3,4]),(za 29 1 27 28,[0,1,2,3]),(zd 30 1 29,[0,1,2,3]),(zb 31 .neq 26 30,[])]) (.cond (.l 31) (.seq (.seq (.draw [(zm 32 0,[]),(zm 33 3,[0]),(za 34 1 32 33,[]),(zd 35 1 34,[]),(zm 36 1,[0,1,2,3]),(zm 37 3,[0,1,2,3,4]),(za 38 1 36 37,[0,1,2,3]),(zd 39 1 38,[0,1,2,3]),(zb 40 .lss 35 39,[])]) (.cond (.l 40) (zR [zi 2 (-1)] (.ret)) (.skip))) (zR [zi 2 1] (.ret))) (.skip)))) (.region [zm 21 3,zc 22 .sub 21 1,zw 3 22]))
def HF:al:=zR [zi 2 0] (.seq (zR [zm 6 0,zl 7 6,zm 8 1,zl 9 8,zb 10 .neq 7 9] (.cond (.l 10) (.seq (zR [zm 11 0,zl 12 11,zm 13 1,zl 14 13,zb 15 .lss 12 14] (.cond (.l 15) (zR [zi 2 (-1)] (.ret)) (.skip))) (zR [zi 2 1] (.ret))) (.skip))) (.seq (zR [zm 16 0,zl 17 16,zc 18 .sub 17 1,zw 3 18] (.block 0 (.loop uO))) (zR [zi 2 0] (.ret))))
theorem Tu:FT 250=some ⟨41,[0,1,4,5],[.var (.p 2)],HF⟩:=by kernel_rfl
def uP:al:=zR [zr 30 .lss 17 16] (.seq (.cond (.l 30) (.skip) (.exit 2)) (.seq (.block 3 (zR [zm 31 17,⟨.l 32,.cP none 1 (.p 15) (.p 17),none⟩,zd 33 1 32,zw 7 31,zw 8 33] (zR [zm 35 5,zm 36 8,z2 37 244 35 36,zn 34 37,ze 38 0 34,ze 39 1 34,zw 9 38,zw 10 39] (zR [⟨.p 11,.mv (kU 0),none⟩] (zR [zm 41 10,zm 42 3,zm 43 4,zm 44 7,zb 45 .add 43 44,za 46 1 42 45,zd 47 1 46,⟨.l 48,.call (kF 275) [(.l 41),(.l 47),(kU 0)],none⟩,zn 40 48,ze 49 0 40,ze 50 1 40,zw 10 49,zw 11 50] (zR [zm 51 9,zm 52 11,zb 53 .add 51 52,zw 9 53] (zR [zm 55 10,zm 56 6,⟨.l 57,.call (kF 275) [(.l 55),(.l 56),(kU 0)],none⟩,zn 54 57,ze 58 0 54,ze 59 1 54,zw 10 58,zw 11 59] (.region [zm 60 3,zm 61 4,zm 62 7,zb 63 .add 61 62,zm 64 10,zm 65 9,zm 66 11,zb 67 .add 65 66,za 68 1 60 63,zS 1 68 64,zw 6 67])))))))) (.region [zq 69 .add 17 1,zw 17 69])))
def By:al:=zR [zr 23 .lss 14 13] (.seq (.cond (.l 23) (.skip) (.exit 0)) (.seq (.block 1 (zR [zm 24 14,⟨.l 25,.cP none 1 (.p 12) (.p 14),none⟩,zd 26 1 25,zw 4 24,zw 5 26] (zR [⟨.p 6,.mv (kU 0),none⟩] (.seq (zR [⟨.p 15,.mv (.p 1),none⟩,⟨.p 16,.len .sl (.p 15),none⟩,zi 17 0] (.block 2 (.loop uP))) (.region [zm 70 3,zm 71 4,zm 72 1,zl 73 72,zb 74 .add 71 73,zm 75 6,za 76 1 70 74,zS 1 76 75]))))) (.region [zq 77 .add 14 1,zw 14 77])))
def HG:al:=zR [⟨.p 2,.mv (.c (.ae)),none⟩] (zR [zm 14 0,zl 15 14,zm 16 1,zl 17 16,zb 18 .add 15 17,⟨.l 19,.gg 246 1 8 [.uV (0)] (.l 18) (.l 18),none⟩,zw 3 19] (.seq (zR [⟨.p 12,.mv (.p 0),none⟩,⟨.p 13,.len .sl (.p 12),none⟩,zi 14 0] (.block 0 (.loop By))) (zR [zm 78 3,z1 79 276 78,zw 2 79] (.ret))))
theorem Tv:FT 248=some ⟨80,[0,1,4,5,6,7,8,9,10,11,12,13,20,21,22,27,28,29],[.var (.p 2)],HG⟩:=by kernel_rfl
def Bz:al:=zR [zr 15 .lss 8 7] (.seq (.cond (.l 15) (.skip) (.exit 0)) (.seq (.block 1 (zR [zm 16 8,⟨.l 17,.cP none 1 (.p 6) (.p 8),none⟩,zd 18 1 17,zw 4 16,zw 5 18] (.seq (.draw [(zm 19 3,[]),(zm 20 4,[0]),(za 21 1 19 20,[]),(zd 22 1 21,[]),(zm 23 5,[0,1,2,3]),(zm 24 1,[0,1,2,3,4]),(zb 25 .shl 23 24,[0,1,2,3]),(zb 26 .or 22 25,[]),(za 27 1 19 20,[]),(zS 1 27 26,[])]) (zR [zm 28 1,zc 29 .gtr 28 0] (.cond (.l 29) (.region [zm 30 3,zm 31 4,zc 32 .add 31 1,zm 33 5,zm 34 1,⟨.l 35,.bin .sub (kI 64) (.l 34),none⟩,zb 36 .shr 33 35,za 37 1 30 32,zS 1 37 36]) (.skip)))))) (.region [zq 38 .add 8 1,zw 8 38])))
def HH:al:=zR [⟨.p 2,.mv (.c (.ae)),none⟩] (zR [zm 8 0,zl 9 8,zc 10 .add 9 1,⟨.l 11,.gg 246 1 8 [.uV (0)] (.l 10) (.l 10),none⟩,zw 3 11] (.seq (zR [⟨.p 6,.mv (.p 0),none⟩,⟨.p 7,.len .sl (.p 6),none⟩,zi 8 0] (.block 0 (.loop Bz))) (zR [zm 39 3,zw 2 39] (.ret))))
theorem Tw:FT 280=some ⟨40,[0,1,4,5,6,7,12,13,14],[.var (.p 2)],HH⟩:=by kernel_rfl
def uQ:al:=.seq (zR [zm 30 6,zc 31 .geq 30 0] (.cond (.l 31) (.skip) (.exit 0))) (.seq (.block 1 (.draw [(zm 35 4,[]),(zm 36 6,[0]),(zm 37 5,[0,1]),(zm 38 0,[0,1,2]),(zm 39 6,[0,1,2,3]),(za 40 1 38 39,[0,1,2]),(zd 41 1 40,[0,1,2]),(zm 42 1,[0,1,2,3,4,5,6]),(⟨.l 43,.cP none 1 (.l 42) (kI 0),none⟩,[0,1,2,3,4,5,6]),(zd 44 1 43,[0,1,2,3,4,5,6]),(⟨.l 45,.call (kF 278) [(.l 37),(.l 41),(.l 44)],none⟩,[0,1]),(zn 34 45,[0,1]),(ze 46 0 34,[0,1]),(ze 47 1 34,[0,1,12]),(za 48 1 35 36,[13]),(zS 1 48 46,[13]),(zw 5 47,[])])) (.region [zm 32 6,zc 33 .sub 32 1,zw 6 33]))
def uR:al:=.seq (zR [zm 80 12,zc 81 .geq 80 0] (.cond (.l 81) (.skip) (.exit 2))) (.seq (.block 3 (.region [zm 84 11,zm 85 12,zm 86 9,zm 87 12,zm 88 12,zm 89 10,zb 90 .add 88 89,zc 91 .add 90 1,⟨.l 92,.slice .sl 1 (.l 86) (some (.l 87)) (some (.l 91)) none,none⟩,zm 93 8,z2 94 281 92 93,za 95 1 84 85,zS 1 95 94])) (.region [zm 82 12,zc 83 .sub 82 1,zw 12 83]))
def uS:al:=zR [zr 98 .lss 15 14] (.seq (.cond (.l 98) (.skip) (.exit 4)) (.seq (.block 5 (zR [zm 99 15,zw 13 99] (zR [zm 100 9,zm 101 13,za 102 1 100 101,zd 103 1 102,zm 104 7,zb 105 .shr 103 104,za 106 1 100 101,zS 1 106 105] (zR [zm 107 7,zc 108 .gtr 107 0,zn 109 108,zg (zm 110 13) 109 true,zg (zc 111 .add 110 1) 109 true,zg (zm 112 9) 109 true,zg (zl 113 112) 109 true,zg (zb 114 .lss 111 113) 109 true,zp 115 109 114] (.cond (.l 115) (.draw [(zm 116 9,[]),(zm 117 13,[0]),(za 118 1 116 117,[]),(zd 119 1 118,[]),(zm 120 9,[0,1,2,3]),(zm 121 13,[0,1,2,3,4]),(zc 122 .add 121 1,[0,1,2,3,4]),(za 123 1 120 122,[0,1,2,3]),(zd 124 1 123,[0,1,2,3]),(zm 125 7,[0,1,2,3,4,5,6,7,8]),(⟨.l 126,.bin .sub (kI 64) (.l 125),none⟩,[0,1,2,3,4,5,6,7,8]),(zb 127 .shl 124 126,[0,1,2,3]),(zb 128 .or 119 127,[]),(za 129 1 116 117,[]),(zS 1 129 128,[])]) (.skip)))))) (.region [zq 130 .add 15 1,zw 15 130])))
def rI:al:=zR [⟨.p 2,.mv (.c (.ae)),none⟩,⟨.p 3,.mv (.c (.ae)),none⟩] (.seq (zR [zm 16 0,zm 17 1,z2 18 250 16 17,zc 19 .lss 18 0] (.cond (.l 19) (zR [zm 20 0,⟨.p 2,.mv (.c (.ae)),none⟩,zw 3 20] (.ret)) (.skip))) (.seq (zR [zm 21 1,zl 22 21,zc 23 .eql 22 1] (.cond (.l 23) (zR [zm 24 0,zl 25 24,⟨.l 26,.gg 246 1 8 [.uV (0)] (.l 25) (.l 25),none⟩,zw 4 26] (zR [⟨.p 5,.mv (kU 0),none⟩] (.seq (zR [zm 27 0,zl 28 27,zc 29 .sub 28 1,zw 6 29] (.block 0 (.loop uQ))) (zR [zm 49 4,z1 50 276 49,zm 51 5,⟨.l 52,.dZ 246 1 1 [.uV (0)] [(0,1,(.l 51))],none⟩,z1 53 276 52,zw 2 50,zw 3 53] (.ret))))) (.skip))) (zR [zm 54 1,zm 55 1,zl 56 55,zc 57 .sub 56 1,za 58 1 54 57,zd 59 1 58,z1 60 279 59,zw 7 60] (zR [zm 61 1,zm 62 7,z2 63 280 61 62,z1 64 276 63,zw 8 64] (zR [zm 65 0,zm 66 7,z2 67 280 65 66,zw 9 67] (zR [zm 68 8,zl 69 68,zw 10 69] (zR [zm 70 0,zl 71 70,zm 72 10,zb 73 .sub 71 72,zc 74 .add 73 1,⟨.l 75,.gg 246 1 8 [.uV (0)] (.l 74) (.l 74),none⟩,zw 11 75] (.seq (zR [zm 76 0,zl 77 76,zm 78 10,zb 79 .sub 77 78,zw 12 79] (.block 2 (.loop uR))) (.seq (zR [⟨.p 14,.mv (.p 10),none⟩,zi 15 0] (.block 4 (.loop uS))) (.seq (.draw [(zm 131 11,[]),(z1 132 276 131,[]),(zm 133 9,[0,1]),(zm 134 10,[0,1,2]),(⟨.l 135,.slice .sl 1 (.l 133) none (some (.l 134)) none,none⟩,[0,1]),(z1 136 276 135,[]),(zw 2 132,[]),(zw 3 136,[])]) (.ret)))))))))))
theorem uT:FT 253=some ⟨137,[0,1,4,5,6,7,8,9,10,11,12,13,14,15,96,97],[.var (.p 2),.var (.p 3)],rI⟩:=by kernel_rfl
def BA:al:=.seq (zR [zm 63 6,⟨.l 64,.bin .eql (.l 63) (kU 0),none⟩] (.cond (.l 64) (.skip) (.exit 0))) (.block 1 (zR [zm 66 4,zm 67 1,zm 68 3,zc 69 .sub 68 2,za 70 1 67 69,zd 71 1 70,z2 72 244 66 71,zn 65 72,ze 73 0 65,ze 74 1 65,zw 7 73,zw 8 74] (.seq (zR [zm 75 7,zm 76 5,zb 77 .lss 75 76,zn 78 77,zg (zm 79 7) 78 false,zg (zm 80 5) 78 false,zg (zb 81 .eql 79 80) 78 false,zg (zn 82 81) 78 false,zg (zm 83 8) 82 true,zg (zm 84 0) 82 true,zg (zm 85 3) 82 true,zg (zc 86 .sub 85 2) 82 true,zg (za 87 1 84 86) 82 true,zg (zd 88 1 87) 82 true,zg (zb 89 .leq 83 88) 82 true,zg (zp 90 82 89) 78 false,zP 91 78 90] (.cond (.l 91) (.exit 0) (.skip))) (zR [zm 92 4,⟨.l 93,.bin .sub (.l 92) (kU 1),none⟩,zw 4 93] (.region [zm 95 5,zm 96 1,zm 97 3,zc 98 .sub 97 1,za 99 1 96 98,zd 100 1 99,⟨.l 101,.call (kF 275) [(.l 95),(.l 100),(kU 0)],none⟩,zn 94 101,ze 102 0 94,ze 103 1 94,zw 5 102,zw 6 103])))))
def rJ:al:=zR [zr 106 .lss 18 17] (.seq (.cond (.l 106) (.skip) (.exit 2)) (.seq (.block 3 (zR [zm 107 18,zw 11 107] (zR [zm 109 4,zm 110 1,zm 111 11,za 112 1 110 111,zd 113 1 112,z2 114 244 109 113,zn 108 114,ze 115 0 108,ze 116 1 108,zw 12 115,zw 13 116] (zR [⟨.p 14,.mv (kU 0),none⟩] (zR [zm 118 13,zm 119 10,⟨.l 120,.call (kF 275) [(.l 118),(.l 119),(kU 0)],none⟩,zn 117 120,ze 121 0 117,ze 122 1 117,zw 13 121,zw 14 122] (zR [zm 123 12,zm 124 14,zb 125 .add 123 124,zw 10 125] (.region [zm 127 0,zm 128 11,zm 129 0,zm 130 11,za 131 1 129 130,zd 132 1 131,zm 133 13,zm 134 9,⟨.l 135,.call (kF 277) [(.l 132),(.l 133),(.l 134)],none⟩,zn 126 135,ze 136 0 126,ze 137 1 126,za 138 1 127 128,zS 1 138 136,zw 9 137]))))))) (.region [zq 139 .add 18 1,zw 18 139])))
def rK:al:=zR [zr 158 .lss 20 19] (.seq (.cond (.l 158) (.skip) (.exit 4)) (.seq (.block 5 (zR [zm 159 20,zw 16 159] (.draw [(zm 161 0,[]),(zm 162 16,[0]),(zm 163 0,[0,1]),(zm 164 16,[0,1,2]),(za 165 1 163 164,[0,1]),(zd 166 1 165,[0,1]),(zm 167 1,[0,1,2,3,4,5]),(zm 168 16,[0,1,2,3,4,5,6]),(za 169 1 167 168,[0,1,2,3,4,5]),(zd 170 1 169,[0,1,2,3,4,5]),(zm 171 15,[0,1,2,3,4,5,6,7,8,9]),(⟨.l 172,.call (kF 275) [(.l 166),(.l 170),(.l 171)],none⟩,[0,1]),(zn 160 172,[0,1]),(ze 173 0 160,[0,1]),(ze 174 1 160,[0,1,13]),(za 175 1 161 162,[14]),(zS 1 175 173,[14]),(zw 15 174,[])]))) (.region [zq 176 .add 20 1,zw 20 176])))
def HI:al:=zR [⟨.p 2,.mv (kU 0),none⟩] (zR [zm 19 1,zl 20 19,zw 3 20] (zR [⟨.p 4,.mv (kU 0),none⟩,⟨.p 5,.mv (kU 0),none⟩] (zR [⟨.p 6,.mv (kU 0),none⟩] (.seq (.seq (.draw [(zm 21 0,[]),(zm 22 3,[0]),(za 23 1 21 22,[]),(zd 24 1 23,[]),(zm 25 1,[0,1,2,3]),(zm 26 3,[0,1,2,3,4]),(zc 27 .sub 26 1,[0,1,2,3,4]),(za 28 1 25 27,[0,1,2,3]),(zd 29 1 28,[0,1,2,3]),(zb 30 .geq 24 29,[])]) (.cond (.l 30) (zR [⟨.p 4,.mv (kU 18446744073709551615),none⟩] (.draw [(zm 32 0,[]),(zm 33 3,[0]),(zc 34 .sub 33 1,[0]),(za 35 1 32 34,[]),(zd 36 1 35,[]),(zm 37 1,[0,1,2,3,4]),(zm 38 3,[0,1,2,3,4,5]),(zc 39 .sub 38 1,[0,1,2,3,4,5]),(za 40 1 37 39,[0,1,2,3,4]),(zd 41 1 40,[0,1,2,3,4]),(⟨.l 42,.call (kF 275) [(.l 36),(.l 41),(kU 0)],none⟩,[]),(zn 31 42,[]),(ze 43 0 31,[]),(ze 44 1 31,[12]),(zw 5 43,[13]),(zw 6 44,[])])) (.draw [(zm 46 0,[]),(zm 47 3,[0]),(za 48 1 46 47,[]),(zd 49 1 48,[]),(zm 50 0,[0,1,2,3]),(zm 51 3,[0,1,2,3,4]),(zc 52 .sub 51 1,[0,1,2,3,4]),(za 53 1 50 52,[0,1,2,3]),(zd 54 1 53,[0,1,2,3]),(zm 55 1,[0,1,2,3,4,5,6,7,8]),(zm 56 3,[0,1,2,3,4,5,6,7,8,9]),(zc 57 .sub 56 1,[0,1,2,3,4,5,6,7,8,9]),(za 58 1 55 57,[0,1,2,3,4,5,6,7,8]),(zd 59 1 58,[0,1,2,3,4,5,6,7,8]),(⟨.l 60,.call (kF 278) [(.l 49),(.l 54),(.l 59)],none⟩,[]),(zn 45 60,[]),(ze 61 0 45,[]),(ze 62 1 45,[16]),(zw 4 61,[17]),(zw 5 62,[])]))) (.seq (.block 0 (.loop BA)) (zR [⟨.p 9,.mv (kU 0),none⟩,⟨.p 10,.mv (kU 0),none⟩] (.seq (zR [⟨.p 17,.mv (.p 3),none⟩,zi 18 0] (.block 2 (.loop rJ))) (zR [zm 141 0,zm 142 3,zm 143 0,zm 144 3,za 145 1 143 144,zd 146 1 145,zm 147 10,zm 148 9,⟨.l 149,.call (kF 277) [(.l 146),(.l 147),(.l 148)],none⟩,zn 140 149,ze 150 0 140,ze 151 1 140,za 152 1 141 142,zS 1 152 150,zw 9 151] (.seq (zR [zm 153 9,⟨.l 154,.bin .eql (.l 153) (kU 0),none⟩] (.cond (.l 154) (zR [zm 155 4,zw 2 155] (.ret)) (.skip))) (zR [⟨.p 15,.mv (kU 0),none⟩] (.seq (zR [⟨.p 19,.mv (.p 3),none⟩,zi 20 0] (.block 4 (.loop rK))) (zR [zm 177 0,zm 178 3,za 179 1 177 178,zd 180 1 179,zm 181 15,zb 182 .add 180 181,za 183 1 177 178,zS 1 183 182] (zR [zm 184 4,⟨.l 185,.bin .sub (.l 184) (kU 1),none⟩,zw 2 185] (.ret))))))))))))))
theorem Tx:FT 281=some ⟨186,[0,1,4,5,6,7,8,9,10,11,12,13,14,15,16,17,18,104,105,156,157],[.var (.p 2)],HI⟩:=by kernel_rfl
def uU:al:=zR [zr 23 .lss 8 7] (.seq (.cond (.l 23) (.skip) (.exit 0)) (.seq (.block 1 (zR [zm 24 8,zw 5 24] (zR [⟨.p 6,.mv (kU 0),none⟩] (.seq (zR [zm 25 5,zm 26 1,zl 27 26,zb 28 .lss 25 27] (.cond (.l 28) (.region [zm 29 1,zm 30 5,za 31 1 29 30,zd 32 1 31,zw 6 32]) (.skip))) (.region [zm 34 3,zm 35 5,zm 36 0,zm 37 5,za 38 1 36 37,zd 39 1 38,zm 40 6,zm 41 4,⟨.l 42,.call (kF 275) [(.l 39),(.l 40),(.l 41)],none⟩,zn 33 42,ze 43 0 33,ze 44 1 33,za 45 1 34 35,zS 1 45 43,zw 4 44]))))) (.region [zq 46 .add 8 1,zw 8 46])))
def HJ:al:=zR [⟨.p 2,.mv (.c (.ae)),none⟩] (.seq (zR [zm 9 0,zl 10 9,zm 11 1,zl 12 11,zb 13 .lss 10 12] (.cond (.l 13) (.region [zm 14 1,zm 15 0,zw 0 14,zw 1 15]) (.skip))) (zR [zm 16 0,zl 17 16,zc 18 .add 17 1,⟨.l 19,.gg 246 1 8 [.uV (0)] (.l 18) (.l 18),none⟩,zw 3 19] (zR [⟨.p 4,.mv (kU 0),none⟩] (.seq (zR [zm 20 0,⟨.p 7,.len .sl (.l 20),none⟩,zi 8 0] (.block 0 (.loop uU))) (zR [zm 47 3,zm 48 0,zl 49 48,zm 50 4,za 51 1 47 49,zS 1 51 50] (zR [zm 52 3,z1 53 276 52,zw 2 53] (.ret)))))))
theorem Ty:FT 249=some ⟨54,[0,1,4,5,6,7,8,21,22],[.var (.p 2)],HJ⟩:=by kernel_rfl
def uW:al:=zR [zr 15 .lss 8 7] (.seq (.cond (.l 15) (.skip) (.exit 0)) (.seq (.block 1 (zR [zm 16 8,zw 5 16] (zR [⟨.p 6,.mv (kU 0),none⟩] (.seq (zR [zm 17 5,zm 18 1,zl 19 18,zb 20 .lss 17 19] (.cond (.l 20) (.region [zm 21 1,zm 22 5,za 23 1 21 22,zd 24 1 23,zw 6 24]) (.skip))) (.region [zm 26 3,zm 27 5,zm 28 0,zm 29 5,za 30 1 28 29,zd 31 1 30,zm 32 6,zm 33 4,⟨.l 34,.call (kF 277) [(.l 31),(.l 32),(.l 33)],none⟩,zn 25 34,ze 35 0 25,ze 36 1 25,za 37 1 26 27,zS 1 37 35,zw 4 36]))))) (.region [zq 38 .add 8 1,zw 8 38])))
def HK:al:=zR [⟨.p 2,.mv (.c (.ae)),none⟩] (zR [zm 9 0,zl 10 9,⟨.l 11,.gg 246 1 8 [.uV (0)] (.l 10) (.l 10),none⟩,zw 3 11] (zR [⟨.p 4,.mv (kU 0),none⟩] (.seq (zR [zm 12 0,⟨.p 7,.len .sl (.l 12),none⟩,zi 8 0] (.block 0 (.loop uW))) (zR [zm 39 3,z1 40 276 39,zw 2 40] (.ret)))))
theorem Tz:FT 251=some ⟨41,[0,1,4,5,6,7,8,13,14],[.var (.p 2)],HK⟩:=by kernel_rfl
def HL:al:=zR [⟨.p 1,.mv (kU 0),none⟩] (.seq (zR [zm 3 0,zc 4 .lss 3 0] (.cond (.l 4) (zR [zm 5 0,⟨.l 6,.un .neg (.l 5),none⟩,⟨.l 7,.dz .u64 (.l 6),none⟩,zw 1 7] (.ret)) (.skip))) (zR [zm 8 0,⟨.l 9,.dz .u64 (.l 8),none⟩,zw 1 9] (.ret)))
theorem TA:FT 245=some ⟨10,[0,2],[.var (.p 1)],HL⟩:=by kernel_rfl
def uX:al:=zR [zx 1 131 2 0,⟨.p 2,.mv (.c (.bool false)),none⟩,⟨.p 3,.mv (.c (.ae)),none⟩] (.seq (.block 0 (zR [zf 5 1 1,zd 6 1 5,⟨.l 7,.eq true (.ref .slice) (.l 6) (.c (.ae)),none⟩,zn 4 7] (.cond (.l 4) (.seq (.draw [(zf 8 0 1,[]),(zd 9 1 8,[]),(zc 10 .lss 9 0,[]),(zf 11 1 1,[0,1,2]),(zd 12 1 11,[0,1,2]),(zw 2 10,[3,4]),(zw 3 12,[])]) (.ret)) (zR [zf 14 0 1,zd 15 1 14,zc 16 .eql 15 0,zn 13 16] (.cond (.l 13) (zR [⟨.p 2,.mv (.c (.bool false)),none⟩,⟨.p 3,.mv (.c (.ae)),none⟩] (.ret)) (.skip)))))) (.seq (.draw [(zf 17 0 1,[]),(zd 18 1 17,[]),(zc 19 .lss 18 0,[]),(zf 20 0 1,[0,1,2]),(zd 21 1 20,[0,1,2]),(z1 22 245 21,[0,1,2]),(⟨.l 23,.dZ 246 1 1 [.uV (0)] [(0,1,(.l 22))],none⟩,[0,1,2]),(zw 2 19,[6]),(zw 3 23,[])]) (.ret)))
theorem BB:FT 246=some ⟨24,[0,1,2,3],[.var (.p 2),.var (.p 3)],uX⟩:=by kernel_rfl
def pR:al:=zR [⟨.p 2,.alloc 131 [.iV (0),.ae],none⟩] (.seq (.block 0 (zR [zm 6 1,zl 7 6,zc 8 .eql 7 0,zn 5 8] (.cond (.l 5) (zR [⟨.l 9,.build [.iV (0),.ae] [],none⟩,zs 2 2 9] (.ret)) (zR [zm 11 1,zl 12 11,zc 13 .eql 12 1,zn 14 13,zg (zm 15 1) 14 true,⟨.l 16,.cP none 1 (.l 15) (kI 0),some ((.l 14),true)⟩,zg (zd 17 1 16) 14 true,⟨.l 18,.bin .leq (.l 17) (kU 9223372036854775807),some ((.l 14),true)⟩,zp 19 14 18,zn 20 19,zg (zm 21 0) 20 true,zp 22 20 21,zn 10 22] (.cond (.l 10) (zR [zm 23 1,⟨.l 24,.cP none 1 (.l 23) (kI 0),none⟩,zd 25 1 24,⟨.l 26,.dz .i64 (.l 25),none⟩,⟨.l 27,.un .neg (.l 26),none⟩,⟨.l 28,.build [.iV (0),.ae] [(0,1,(.l 27))],none⟩,zs 2 2 28] (.ret)) (zR [zm 30 1,zl 31 30,zc 32 .eql 31 1,zn 33 32,zg (zm 34 1) 33 true,⟨.l 35,.cP none 1 (.l 34) (kI 0),some ((.l 33),true)⟩,zg (zd 36 1 35) 33 true,⟨.l 37,.bin .leq (.l 36) (kU 9223372036854775807),some ((.l 33),true)⟩,zp 38 33 37,zn 29 38] (.cond (.l 29) (zR [zm 39 1,⟨.l 40,.cP none 1 (.l 39) (kI 0),none⟩,zd 41 1 40,⟨.l 42,.dz .i64 (.l 41),none⟩,⟨.l 43,.build [.iV (0),.ae] [(0,1,(.l 42))],none⟩,zs 2 2 43] (.ret)) (zR [zm 45 0,zn 44 45] (.cond (.l 44) (zR [zm 46 1,⟨.l 47,.build [.iV (0),.ae] [(0,1,(kI (-1))),(1,1,(.l 46))],none⟩,zs 2 2 47] (.ret)) (.skip)))))))))) (zR [zm 48 1,⟨.l 49,.build [.iV (0),.ae] [(0,1,(kI 1)),(1,1,(.l 48))],none⟩,zs 2 2 49] (.ret)))
theorem rL:FT 247=some ⟨50,[0,1,4],[.cell 2 true (.p 2)],pR⟩:=by kernel_rfl
def HM:al:=zR [⟨.p 2,.mv (kU 0),none⟩,⟨.p 3,.mv (kU 0),none⟩] (zR [zm 14 0,⟨.l 15,.bin .and (.l 14) (kU 4294967295),none⟩,zw 4 15] (zR [zm 16 0,⟨.l 17,.bin .shr (.l 16) (kU 32),none⟩,zw 5 17] (zR [zm 18 1,⟨.l 19,.bin .and (.l 18) (kU 4294967295),none⟩,zw 6 19] (zR [zm 20 1,⟨.l 21,.bin .shr (.l 20) (kU 32),none⟩,zw 7 21] (zR [zm 22 4,zm 23 6,zb 24 .mul 22 23,zw 8 24] (zR [zm 25 5,zm 26 6,zb 27 .mul 25 26,zm 28 8,⟨.l 29,.bin .shr (.l 28) (kU 32),none⟩,zb 30 .add 27 29,zw 9 30] (zR [zm 31 9,⟨.l 32,.bin .and (.l 31) (kU 4294967295),none⟩,zw 10 32] (zR [zm 33 9,⟨.l 34,.bin .shr (.l 33) (kU 32),none⟩,zw 11 34] (zR [zm 35 10,zm 36 4,zm 37 7,zb 38 .mul 36 37,zb 39 .add 35 38,zw 10 39] (zR [zm 40 5,zm 41 7,zb 42 .mul 40 41,zm 43 11,zb 44 .add 42 43,zm 45 10,⟨.l 46,.bin .shr (.l 45) (kU 32),none⟩,zb 47 .add 44 46,zw 2 47] (zR [zm 48 0,zm 49 1,zb 50 .mul 48 49,zw 3 50] (.ret))))))))))))
theorem TB:FT 244=some ⟨51,[0,1,4,5,6,7,8,9,10,11,12,13],[.var (.p 2),.var (.p 3)],HM⟩:=by kernel_rfl
def uY:al:=.seq (zR [zm 67 12,⟨.l 68,.bin .geq (.l 67) (kU 4294967296),none⟩,zn 69 68,zg (zm 70 12) 69 false,zg (zm 71 7) 69 false,zg (zb 72 .mul 70 71) 69 false,zg (zm 73 13) 69 false,⟨.l 74,.bin .mul (kU 4294967296) (.l 73),some ((.l 69),false)⟩,zg (zm 75 10) 69 false,zg (zb 76 .add 74 75) 69 false,zg (zb 77 .gtr 72 76) 69 false,zP 78 69 77] (.cond (.l 78) (.skip) (.exit 0))) (.block 1 (zR [zm 79 12,⟨.l 80,.bin .sub (.l 79) (kU 1),none⟩,zw 12 80] (zR [zm 81 13,zm 82 6,zb 83 .add 81 82,zw 13 83] (zR [zm 84 13,⟨.l 85,.bin .geq (.l 84) (kU 4294967296),none⟩] (.cond (.l 85) (.exit 0) (.skip))))))
def uZ:al:=.seq (zR [zm 102 15,⟨.l 103,.bin .geq (.l 102) (kU 4294967296),none⟩,zn 104 103,zg (zm 105 15) 104 false,zg (zm 106 7) 104 false,zg (zb 107 .mul 105 106) 104 false,zg (zm 108 13) 104 false,⟨.l 109,.bin .mul (kU 4294967296) (.l 108),some ((.l 104),false)⟩,zg (zm 110 11) 104 false,zg (zb 111 .add 109 110) 104 false,zg (zb 112 .gtr 107 111) 104 false,zP 113 104 112] (.cond (.l 113) (.skip) (.exit 2))) (.block 3 (zR [zm 114 15,⟨.l 115,.bin .sub (.l 114) (kU 1),none⟩,zw 15 115] (zR [zm 116 13,zm 117 6,zb 118 .add 116 117,zw 13 118] (zR [zm 119 13,⟨.l 120,.bin .geq (.l 119) (kU 4294967296),none⟩] (.cond (.l 120) (.exit 2) (.skip))))))
def HN:al:=zR [⟨.p 3,.mv (kU 0),none⟩,⟨.p 4,.mv (kU 0),none⟩] (.seq (zR [zm 19 2,⟨.l 20,.bin .eql (.l 19) (kU 0),none⟩] (.cond (.l 20) (.bad) (.skip))) (.seq (zR [zm 22 2,zm 23 0,zb 24 .leq 22 23] (.cond (.l 24) (.bad) (.skip))) (.seq (zR [zm 26 0,⟨.l 27,.bin .eql (.l 26) (kU 0),none⟩] (.cond (.l 27) (.seq (.draw [(zm 28 1,[]),(zm 29 2,[0]),(zb 30 .quo 28 29,[]),(zm 31 1,[0,1,2]),(zm 32 2,[0,1,2,3]),(zb 33 .rem 31 32,[0,1,2]),(zw 3 30,[3,4,5]),(zw 4 33,[])]) (.ret)) (.skip))) (zR [zm 34 2,z1 35 279 34,⟨.l 36,.dz .u64 (.l 35),none⟩,zw 5 36] (zR [zm 37 2,zm 38 5,zb 39 .shl 37 38,zw 2 39] (zR [zm 40 2,⟨.l 41,.bin .shr (.l 40) (kU 32),none⟩,zw 6 41] (zR [zm 42 2,⟨.l 43,.bin .and (.l 42) (kU 4294967295),none⟩,zw 7 43] (zR [zm 44 0,zm 45 5,zb 46 .shl 44 45,zm 47 1,zm 48 5,⟨.l 49,.bin .sub (kU 64) (.l 48),none⟩,zb 50 .shr 47 49,zb 51 .or 46 50,zw 8 51] (zR [zm 52 1,zm 53 5,zb 54 .shl 52 53,zw 9 54] (zR [zm 55 9,⟨.l 56,.bin .shr (.l 55) (kU 32),none⟩,zw 10 56] (zR [zm 57 9,⟨.l 58,.bin .and (.l 57) (kU 4294967295),none⟩,zw 11 58] (zR [zm 59 8,zm 60 6,zb 61 .quo 59 60,zw 12 61] (zR [zm 62 8,zm 63 12,zm 64 6,zb 65 .mul 63 64,zb 66 .sub 62 65,zw 13 66] (.seq (.block 0 (.loop uY)) (zR [zm 86 8,⟨.l 87,.bin .mul (.l 86) (kU 4294967296),none⟩,zm 88 10,zb 89 .add 87 88,zm 90 12,zm 91 2,zb 92 .mul 90 91,zb 93 .sub 89 92,zw 14 93] (zR [zm 94 14,zm 95 6,zb 96 .quo 94 95,zw 15 96] (zR [zm 97 14,zm 98 15,zm 99 6,zb 100 .mul 98 99,zb 101 .sub 97 100,zw 13 101] (.seq (.block 2 (.loop uZ)) (zR [zm 121 12,⟨.l 122,.bin .mul (.l 121) (kU 4294967296),none⟩,zm 123 15,zb 124 .add 122 123,zm 125 14,⟨.l 126,.bin .mul (.l 125) (kU 4294967296),none⟩,zm 127 11,zb 128 .add 126 127,zm 129 15,zm 130 2,zb 131 .mul 129 130,zb 132 .sub 128 131,zm 133 5,zb 134 .shr 132 133,zw 3 124,zw 4 134] (.ret))))))))))))))))))))
theorem TC:FT 278=some ⟨135,[0,1,2,6,7,8,9,10,11,12,13,14,15,16,17,18],[.var (.p 3),.var (.p 4)],HN⟩:=by kernel_rfl
def HO:al:=zR [zi 1 0] (zR [zm 3 0,z1 4 240 3,⟨.l 5,.bin .sub (kI 64) (.l 4),none⟩,zw 1 5] (.ret))
theorem TE:FT 279=some ⟨6,[0,2],[.var (.p 1)],HO⟩:=by kernel_rfl
end Go.Ab.Ch1

/-
  Own work: numbers by their digits to a base, the least significant one first: values, parts, changes of a digit, the length without zeros.
-/
namespace Go.Ab.aY
def WV (b:Int):List Int->Int
 | []=>0
 | x::l=>x+b*WV b l
def okW (b:Int)(l:List Int):Prop:=∀x∈l,0<=x/\x<b
theorem ij {b:Int}:okW b []:=fun x hx=>by cases hx
theorem HP {b x:Int}{l:List Int}(h:okW b (x::l)):(0<=x/\x<b)/\okW b l:=⟨h x (by simp),fun y hy=>h y (by simp[hy])⟩
theorem bY {b:Int}{l:List Int}(h:okW b l){i:Nat}(hi:i<l.length):0<=l[i]! /\ l[i]! < b:=h _ (by rw[getElem!_pos l i hi];exact List.getElem_mem hi)
theorem fO {b:Int}{l:List Int}(h:okW b l){i:Nat}{v:Int}(hv:0<=v/\v<b):okW b (l.set i v):=fun x hx=>by
 rcases List.mem_or_eq_of_mem_set hx with hx|rfl
 . exact h x hx
 . exact hv
theorem dm {b:Int}{l:List Int}(h:okW b l)(n:Nat):okW b (l.take n):=fun x hx=>h x (List.mem_of_mem_take hx)
theorem iR {b:Int}{l:List Int}(h:okW b l)(n:Nat):okW b (l.drop n):=fun x hx=>h x (List.mem_of_mem_drop hx)
theorem jg {b:Int}{l m:List Int}(h:okW b l)(k:okW b m):okW b (l++m):=fun x hx=>by
 rcases List.mem_append.1 hx with hx|hx
 . exact h x hx
 . exact k x hx
theorem kf {b:Int}(hb:0<b){n:Nat}:okW b (List.replicate n 0):=fun x hx=>by
 rw[(List.mem_replicate.1 hx).2];omega
theorem fF {b:Int}:∀{l m:List Int},WV b (l++m)=WV b l+b^l.length*WV b m
 | [],m=>by simp[WV]
 | x::l,m=>by
  rw[List.cons_append,WV,WV,fF,List.length_cons,Int.pow_succ];grind
theorem lj {b:Int}{l:List Int}{i:Nat}(h:i<=l.length):WV b l=WV b (l.take i)+b^i*WV b (l.drop i):=by
 have:=fF (b:=b) (l:=l.take i) (m:=l.drop i);rwa [List.take_append_drop,List.length_take,Nat.min_eq_left h]at this
theorem eO {b:Int}{l:List Int}{i:Nat}(h:i<l.length):WV b (l.take (i+1))=WV b (l.take i)+b^i*l[i]! := by
 rw[List.take_add_one,List.getElem?_eq_getElem h,getElem!_pos l i h,Option.toList_some,fF,List.length_take,Nat.min_eq_left (by omega)];simp[WV]
theorem nW {b:Int}{l:List Int}{i:Nat}(h:i<l.length):WV b (l.drop i)=l[i]! + b*WV b (l.drop (i+1)):=by
 rw[List.drop_eq_getElem_cons h,getElem!_pos l i h,WV]
theorem HQ {b:Int}:∀{l:List Int},(∀x∈l,x=0)->WV b l=0
 | [],_=>rfl
 | x::l,h=>by rw[WV,h x (by simp),HQ fun y hy=>h y (by simp[hy])];simp
theorem kh {b:Int}{n:Nat}:WV b (List.replicate n 0)=0:=HQ fun x hx=>(List.mem_replicate.1 hx).2
theorem fP {b:Int}:∀{l:List Int} {i:Nat} {v:Int},i<l.length->WV b (l.set i v)=WV b l+b^i*(v-l[i]!)
 | [],i,v,h=>by simp at h
 | x::l,0,v,h=>by simp[WV];omega
 | x::l,i+1,v,h=>by
  have e:(x::l)[i+1]! = l[i]! := by simp[List.getElem!_eq_getElem?_getD]
  rw[List.set_cons_succ,WV,WV,fP (by simpa using h),e,Int.pow_succ];grind
theorem rM {b:Int}(hb:0<b)(n:Nat):0<b^n:=Int.pow_pos hb
theorem cn {b:Int}(hb:0<b):∀{l:List Int},okW b l->0<=WV b l
 | [],_=>Int.le_refl _
 | x::l,h=>by
  obtain⟨h1,h2⟩:=HP h;have:=Int.mul_nonneg (Int.le_of_lt hb) (cn hb h2);rw[WV];omega
theorem dr {b:Int}(hb:0<b):∀{l:List Int},okW b l->WV b l<b^l.length
 | [],_=>by simp[WV]
 | x::l,h=>by
  obtain⟨h1,h2⟩:=HP h;have h3:=dr hb h2;have h4:b*(WV b l+1)<=b*b^l.length:=Int.mul_le_mul_of_nonneg_left (by omega) (Int.le_of_lt hb);rw[WV,List.length_cons,Int.pow_succ,Int.mul_comm (b^l.length) b];rw[Int.mul_add]at h4;omega
theorem gJ {b:Int}(hb:1<b){m n:Nat}(h:m<=n):b^m<=b^n:=by
 obtain⟨k,rfl⟩:∃k,n=m+k:=⟨n-m,by omega⟩;rw[Int.pow_add];have h1:=rM (show 0<b by omega) m;have h2:=rM (show 0<b by omega) k;have h3:b^m*1<=b^m*b^k:=Int.mul_le_mul_of_nonneg_left (by omega) (Int.le_of_lt h1);omega
def aN:List Int->Nat
 | []=>0
 | x::l=>if aN l=0 then (if x=0 then 0 else 1) else aN l+1
theorem hZ:∀{l:List Int},aN l<=l.length
 | []=>Nat.le_refl _
 | x::l=>by
  have:=hZ (l:=l);rw[aN,List.length_cons]
  (repeat' split) <;> omega
theorem HS:∀{l:List Int} {x:Int},aN (l++[x])=if x=0 then aN l else l.length+1
 | [],x=>by simp[aN]
 | y::l,x=>by
  rw[List.cons_append,aN,HS,aN,List.length_cons];by_cases hx:x=0
  . simp[hx]
  . simp[hx]
theorem nX {l:List Int}{i:Nat}(h:i<l.length):aN (l.take (i+1))=if l[i]! = 0 then aN (l.take i) else i+1:=by
 rw[List.take_add_one,List.getElem?_eq_getElem h,getElem!_pos l i h,Option.toList_some,HS,List.length_take,Nat.min_eq_left (by omega)]
theorem vc {b:Int}:∀{l:List Int},WV b (l.take (aN l))=WV b l
 | []=>rfl
 | x::l=>by
  have ih:=vc (b:=b) (l:=l);rw[aN];by_cases h:aN l=0
  . rw[h]at ih;rw[if_pos h,WV,←ih];by_cases hx:x=0
    . rw[if_pos hx,hx];simp[WV]
    . rw[if_neg hx];simp[WV]
  . rw[if_neg h,List.take_succ_cons,WV,WV,ih]
def az (l:List Int):Prop:=aN l=l.length
theorem jy:az []:=rfl
theorem BC:∀{l:List Int},az (l.take (aN l))
 | []=>rfl
 | x::l=>by
  have ih:=BC (l:=l);have hle:=hZ (l:=l);rw[aN];by_cases h:aN l=0
  . rw[if_pos h];by_cases hx:x=0
    . rw[if_pos hx];rfl
    . rw[if_neg hx];simp[az,aN,hx]
  . rw[if_neg h,List.take_succ_cons];unfold az at ih ⊢;rw[List.length_take,Nat.min_eq_left hle]at ih;rw[aN,List.length_cons,List.length_take,Nat.min_eq_left hle,ih,if_neg h]
theorem lv {l:List Int}(h:az l)(h0:0<l.length):l[l.length-1]! ≠ 0:=fun e=>by
 have:=nX (l:=l) (i:=l.length-1) (by omega);rw[show l.length-1+1=l.length by omega,List.take_length,if_pos e]at this;have h2:=hZ (l:=l.take (l.length-1));rw[List.length_take]at h2;unfold az at h;omega
theorem rN {l:List Int}(h:0<l.length):az l↔l[l.length-1]! ≠ 0:=by
 refine⟨fun hn=>lv hn h,fun e=>?_⟩;have:=nX (l:=l) (i:=l.length-1) (by omega);rw[show l.length-1+1=l.length by omega,List.take_length,if_neg e]at this;exact this
theorem pS {b:Int}(hb:1<b){l:List Int}(ok:okW b l)(h:az l)(h0:0<l.length):b^(l.length-1)<=WV b l:=by
 have e:=lj (b:=b) (l:=l) (i:=l.length-1) (by omega);have h1:=cn (by omega) (dm ok (l.length-1));have h2:=nW (b:=b) (l:=l) (i:=l.length-1) (by omega);rw[show l.length-1+1=l.length by omega,List.drop_length,WV,Int.mul_zero,Int.add_zero]at h2;have h3:=lv h h0;have h4:=bY ok (i:=l.length-1) (by omega);rw[h2]at e;have h5:=rM (show 0<b by omega) (l.length-1);have h6:b^(l.length-1)*1<=b^(l.length-1)*l[l.length-1]! := Int.mul_le_mul_of_nonneg_left (by omega) (Int.le_of_lt h5);omega
theorem iu {b:Int}(hb:1<b){l:List Int}(ok:okW b l)(h:az l):0<WV b l↔l≠[]:=by
 constructor
 . rintro h1 rfl;simp[WV]at h1
 . intro h1;have h0:0<l.length:=List.length_pos_iff.2 h1;have:=pS hb ok h h0;have:=rM (show 0<b by omega) (l.length-1);omega
theorem nY {b:Int}(hb:1<b){l m:List Int}(okl:okW b l)(okm:okW b m)(hm:az m)(h:l.length<m.length):WV b l<WV b m:=by
 have h1:=dr (by omega) okl;have h2:=pS hb okm hm (by omega);have h3:=gJ hb (show l.length<=m.length-1 by omega);omega
theorem fQ {b:Int}(hb:1<b){l:List Int}(ok:okW b l)(h:az l){n:Nat}(hv:WV b l<b^n):l.length<=n:=by
 rcases Nat.lt_or_ge n l.length with h1|h1
 . have h2:=pS hb ok h (by omega);have h3:=gJ hb (show n<=l.length-1 by omega);omega
 . exact h1
end Go.Ab.aY

/-
  Own work: words of 64 binary digits: the product of two words.
-/
namespace Go.Ab.Ch1
open Go.Ab.aY
variable {M:ax} {cap c1 c2:Option Nat}
theorem TH {x y:Int}(hx:0<=x/\x<18446744073709551616)(hy:0<=y/\y<18446744073709551616) :
 let x0:=x%4294967296;let x1:=x/4294967296;let y0:=y%4294967296;let y1:=y/4294967296
 (0<=x0*y0/\x0*y0<=18446744065119617025)/\(0<=x1*y0/\x1*y0<=18446744065119617025)/\(0<=x0*y1/\x0*y1<=18446744065119617025)/\(0<=x1*y1/\x1*y1<=18446744065119617025) /\
   x*y=x1*y1*18446744073709551616+(x1*y0+x0*y1)*4294967296+x0*y0:=by
 intro x0 x1 y0 y1;have a0:0<=x0/\x0<=4294967295:=by omega
 have a1:0<=x1/\x1<=4294967295:=by omega
 have b0:0<=y0/\y0<=4294967295:=by omega
 have b1:0<=y1/\y1<=4294967295:=by omega
 have up:∀{a b:Int},0<=a/\a<=4294967295->0<=b/\b<=4294967295->0<=a*b/\a*b<=18446744065119617025:=fun {a b} ha hb=>
  ⟨Int.mul_nonneg ha.1 hb.1,by have:=Int.mul_le_mul ha.2 hb.2 hb.1 (by omega);omega⟩
 refine⟨up a0 b0,up a1 b0,up a0 b1,up a1 b1,?_⟩;have ex:x=x1*4294967296+x0:=by omega
 have ey:y=y1*4294967296+y0:=by omega
 generalize x0=x0 at *
 generalize x1=x1 at *
 generalize y0=y0 at *
 generalize y1=y1 at *
 subst ex;subst ey;grind
theorem TK (hft:M.FT=FT)(x y:Int)(hx:0<=x/\x<18446744073709551616)(hy:0<=y/\y<18446744073709551616):aT M 244 [.uV x,.uV y] [] ⟨.aq [.uV (x*y/18446744073709551616),.uV (x*y%18446744073709551616)],[],[]⟩:=by
 obtain⟨p0,p1,p2,p3,e⟩:=TH hx hy;refine bH (by rw[hft];exact TB) (by simp) ?_;unfold HM;simp only[enter];refine gg15 ?_;refine⟨.inr rfl,rfl,_,rfl,?_,rfl⟩;refine congrArg (fun u=>AV.aq [.uV u,.uV (x*y%18446744073709551616)]) ?_;omega
end Go.Ab.Ch1

/-
  Own work: words of integers: zeros at the end, comparisons.
-/
namespace Go.Ab.Ch1
open Go.Ab.aY
variable {M:ax} {cap c1 c2:Option Nat}
abbrev uC (x:Int):List AV:=[.uV x]
abbrev ah (l:List Int):List AV:=arr uC l
abbrev wB:Int:=18446744073709551616
theorem HT {l:List Int}:(ah l).length=l.length:=by
 have:=pG (f:=uC) (esz:=1) (fun _=>rfl) l;simpa using this
theorem TL {l:List Int}{m:Nat}(h:m<l.length):(ah l)[m]? = some (.uV l[m]!):=by
 induction l generalizing m with
 | nil=>simp at h
 | cons x l ih=>
  cases m with
  | zero=>rfl
  | succ m=>
   have e:(x::l)[m+1]! = l[m]! := by simp[List.getElem!_eq_getElem?_getD]
   rw[e,←ih (by simpa using h)];rfl
section
variable {t b m:Nat} {x y:aL} {l:List aU} {pe:List AV} {lo:List (Nat×AV)} {hp:ab} {df wr:List Nat} {L:List Int} {e:TypeId} {v:Int} {Q:ao->Prop}
theorem afL (hx:(St.mk pe lo hp df).aa x=some (.ptr b m))(hb:hp.at b=some (.cells (ah L) e))(hi:m<L.length)
 (h:WO M l ⟨⟨pe,(t,.uV L[m]!)::lo,hp,df⟩,wr⟩ Q):WO M (⟨.l t,.load 1 false x,none⟩::l) ⟨⟨pe,lo,hp,df⟩,wr⟩ Q:=by
 refine afW (c:=ah L) (o:=m) (e:=e) (v:=.uV L[m]!) hx hb ?_ h;have h1:=TL hi;have h2:m<(ah L).length:=by rw[HT];exact hi
 rw[List.drop_eq_getElem_cons h2];rw[List.getElem?_eq_getElem h2]at h1;rw[Option.some.inj h1];rfl
theorem TM {L:List Int}{m:Nat}{v:Int}(h:m<L.length):overwrite (ah L) m (uC v)=ah (L.set m v):=by
 induction L generalizing m with
 | nil=>simp at h
 | cons x L ih=>
  cases m with
  | zero=>simp[overwrite,arr]
  | succ m=>
   have:=ih (m:=m) (by simpa using h);simp only[List.set_cons_succ];have e1:ah (x::L) = .uV x::ah L:=rfl;have e2:ah (x::L.set m v) = .uV x::ah (L.set m v):=rfl;rw[e1,e2,←this];simp[overwrite,Nat.add_right_comm]
theorem afH (hx:(St.mk pe lo hp df).aa x=some (.ptr b m))(hy:(St.mk pe lo hp df).aa y=some (.uV v))(hb:hp.at b=some (.cells (ah L) e))(hi:m<L.length)
 (h:WO M l ⟨⟨pe,lo,hp.put b (some (.cells (ah (L.set m v)) e)),df⟩,b::wr⟩ Q):WO M (⟨.no,.store 1 x y,none⟩::l) ⟨⟨pe,lo,hp,df⟩,wr⟩ Q:=
 ade (c:=ah L) (new:=uC v) hx (by rw[hy];rfl) hb ⟨rfl,by rw[HT];omega,rfl⟩ (TM hi) h
end
def bz (b n:Nat)(cap:Option Nat):AV:=if 0<n then .sl b 0 n 1 cap else .vs [] 0 cap
theorem ags {t n r b:Nat}{k:IntKind}{x y:aL}{l:List aU}{pe:List AV}{lo:List (Nat×AV)}{hp:ab}{df wr:List Nat}{Q:ao->Prop}(hx:(St.mk pe lo hp df).aa x=some (.sl b 0 n 1 cap))(hy:(St.mk pe lo hp df).aa y=some (.int k r))(hr:r<=n)(hc:∀c,cap=some c->n<=c)
 (h:WO M l ⟨⟨pe,(t,bz b r cap)::lo,hp,df⟩,wr⟩ Q):WO M (⟨.l t,.slice .sl 1 x none (some y) none,none⟩::l) ⟨⟨pe,lo,hp,df⟩,wr⟩ Q:=by
 have hcap:(0:Int)<=(r:Int)/\(r:Int)<=((cap.getD n:Nat):Int):=by
  refine⟨by omega,?_⟩;cases cap with
  | none=>simp;omega
  | some c=>have:=hc c rfl;simp;omega
 have hcc:cap.map (fun x=>x)=cap:=by cases cap <;> simp
 refine aab (v:=bz b r cap) ?_ rfl h;unfold bz;simp only[aW,hx,St.cZ,hy,Option.map_some,jc,bM,Option.isNone_none,Option.isSome_some,Bool.true_or,if_true,if_pos hcap,Nat.sub_zero,Nat.zero_mul,Nat.zero_add,Int.toNat_natCast];split <;> simp[hcc]
theorem TN (hft:M.FT=FT){b n:Nat}{L:List Int}{e:TypeId}{hp:ab}(hb:hp.at b=some (.cells (ah L) e))(hn:n<=L.length)(hl:n<1000000000)(hc:∀c,cap=some c->n<=c) :
 aT M 276 [.sl b 0 n 1 cap] hp ⟨bz b (aN (L.take n)) cap,hp,[]⟩:=by
 have hbl:=eo hb;refine lf (by rw[hft];exact Tt) (by simp) (by unfold bz;split <;> simp[AV.top,bk];omega) ?_;unfold HE;simp only[enter];refine gg14 ?_;have fin:∀(r:Nat) a1 lo,r<=n->bz b r cap=bz b (aN (L.take n)) cap->SQ M (zR [zm 18 0,zm 19 2,⟨.l 20,.slice .sl 1 (.l 18) none (some (.l 19)) none,none⟩,zw 1 20] .ret)
  (fun x s=>(x = .normal\/x = .ret)/\s.s.bX=[]/\(∃J,s.s.hp=hp++J)/\(∀x∈s.wr,hp.length<=x)/\∃vs,de s.s [.var (.p 1)]=some vs/\aV vs=bz b (aN (L.take n)) cap) .normal ⟨⟨[.sl b 0 n 1 cap,a1,.iV r],lo,hp,[]⟩,[]⟩:=fun r a1 lo hr he=>by
  refine gg17 ?_;refine ags (k:=.i64) rfl rfl hr hc ?_;refine gg10 ?_;rw[he];exact⟨.inr rfl,rfl,⟨[],by simp⟩,by simp,_,rfl,rfl⟩
 have loop:∀(r:Nat) lo a1,r<=n->aN (L.take r)=aN (L.take n)->W M (.loop uN) ⟨⟨[.sl b 0 n 1 cap,a1,.iV r],lo,hp,[]⟩,[]⟩ (BQ 0 (SQ M (zR [zm 18 0,zm 19 2,⟨.l 20,.slice .sl 1 (.l 18) none (some (.l 19)) none,none⟩,zw 1 20] .ret)
  (fun x s=>(x = .normal\/x = .ret)/\s.s.bX=[]/\(∃J,s.s.hp=hp++J)/\(∀x∈s.wr,hp.length<=x)/\∃vs,de s.s [.var (.p 1)]=some vs/\aV vs=bz b (aN (L.take n)) cap))):=by
  intro r;induction r with
  | zero=>
   intro lo a1 hr he;refine W.loop ?_;unfold uN;exact gg7
  | succ r ih=>
   intro lo a1 hr he;have e:=nX (l:=L) (i:=r) (by omega);have ei:0+((((r+1:Nat):Int)-1).toNat)*1=r:=by omega
   have er:((r+1:Nat):Int)-1=r:=by omega
   refine W.loop ?_;unfold uN;by_cases h0:L[r]! = 0
   . rw[if_pos h0]at e;refine gg10 ?_;refine fT ?_;have:=ih ((17,.iV (((r+1:Nat):Int)-1))::(16,.iV ((r+1:Nat):Int))::[]) a1 (by omega) (e.symm.trans he);rw[←er]at this;exact this
   . rw[if_neg h0]at e;exact gg12
 exact loop n _ _ (Nat.le_refl _) rfl
end Go.Ab.Ch1

/-
  Own work: words of integers: comparisons.
-/
namespace Go.Ab.Ch1
open Go.Ab.aY
variable {M:ax} {cap c1 c2:Option Nat}
def bD (x:Int):Int:=if x<0 then -1 else if 0<x then 1 else 0
theorem vd {B:Int}(hB:1<B){a b:List Int}(ha:okW B a)(hb:okW B b){i:Nat}(hi:i<a.length)(hi2:i<b.length)(hd:a.drop (i+1)=b.drop (i+1))(h:a[i]! < b[i]!):WV B a<WV B b:=by
 have e1:=lj (b:=B) (l:=a) (i:=i) (by omega);have e2:=lj (b:=B) (l:=b) (i:=i) (by omega);rw[nW hi]at e1;rw[nW hi2,←hd]at e2;have h1:=dr (by omega) (dm ha i);have h2:=cn (by omega) (dm hb i);rw[List.length_take,Nat.min_eq_left (by omega)]at h1;have h3:B^i*(a[i]! + B*WV B (a.drop (i+1))+1)<=B^i*(b[i]! + B*WV B (a.drop (i+1))):=Int.mul_le_mul_of_nonneg_left (by omega) (Int.le_of_lt (rM (by omega) i));rw[Int.mul_add _ _ 1,Int.mul_one]at h3;omega
theorem TO (hft:M.FT=FT)(a b:List Int)(ha:okW wB a)(hb:okW wB b)(na:az a)(nb:az b)(la:a.length<1000000000)(lb:b.length<1000000000) :
 aT M 250 [.vs (ah a) a.length c1,.vs (ah b) b.length c2] [] ⟨.iV (bD (WV wB a-WV wB b)),[],[]⟩:=by
 have hB:(1:Int)<wB:=by decide
 refine bH (by rw[hft];exact Tu) (by simp) ?_;unfold HF;simp only[enter];by_cases hl:a.length=b.length
 . refine gg6 ?_;have loop:∀(r:Nat) lo a2,r<=a.length->a.drop r=b.drop r->W M (.loop uO) ⟨⟨[.vs (ah a) a.length c1,.vs (ah b) b.length c2,a2,.iV ((r:Int)-1)],lo,[],[]⟩,[]⟩ (BQ 0 (SQ M (zR [⟨.p 2,.mv (.c (.iV 0)),none⟩] .ret)
    fun e s=>(e = .normal\/e = .ret)/\s.s.bX=[]/\∃vs,de s.s [.var (.p 2)]=some vs/\aV vs = .iV (bD (WV wB a-WV wB b))/\(if (AV.iV (bD (WV wB a-WV wB b))).top<=0 then [] else s.s.hp)=[])):=by
    intro r;induction r with
    | zero=>
     intro lo a2 hr hd;rw[List.drop_zero,List.drop_zero]at hd;refine W.loop ?_;unfold uO;exact gg4
    | succ r ih=>
     intro lo a2 hr hd;have er:((r+1:Nat):Int)-1=r:=by omega
     rw[er];refine W.loop ?_;unfold uO;by_cases he:a[((r:Int)).toNat]! = b[((r:Int)).toNat]!
     . have hd2:a.drop r=b.drop r:=by
        rw[List.drop_eq_getElem_cons (show r<a.length by omega),List.drop_eq_getElem_cons (show r<b.length by omega),hd,←getElem!_pos a r,←getElem!_pos b r];exact congrArg (· :: _) he
       repeat' first|apply aap|apply aM|apply aaF|apply aaY|apply acS|apply abJ|apply cX|(apply afB;rfl)|(apply abz;rfl)|(apply abF;rfl)|(apply aeN;rfl;rfl)|(apply aef;rfl;rfl)|(apply aes;rfl;rfl;omega)|(apply aeX;rfl;rfl;omega)|(apply afu;rfl;exact fun _=>rfl;(first|omega|(simp only[List.length_set];omega)|(simp;omega));decide;rfl;case ia=>infer_instance)|(apply aab;rfl;rfl)|(apply aaZ;rfl;rfl)|(intro _;omega)|intro _
       all_goals first|contradiction|(omega)|skip
       exact fT (ih _ _ (by omega) hd2)
     . by_cases hlt:a[((r:Int)).toNat]! < b[((r:Int)).toNat]!
       . have:=vd hB ha hb (i:=r) (by omega) (by omega) hd hlt;repeat' first|apply aap|apply aM|apply aaF|apply aaY|apply acS|apply abu|apply abJ|apply bZ|apply fx|apply kL|(apply afB;rfl)|(apply abz;rfl)|(apply ada;rfl;rfl)|(apply aeN;rfl;rfl)|(apply aef;rfl;rfl)|(apply aeX;rfl;rfl;omega)|(apply afu;rfl;exact fun _=>rfl;(first|omega|(simp only[List.length_set];omega)|(simp;omega));decide;rfl;case ia=>infer_instance)|(apply aab;rfl;rfl)|(apply aaZ;rfl;rfl)|(intro _;omega)|intro _
         all_goals first|contradiction|(omega)|exact⟨.inr rfl,rfl,_,rfl,by rw[bD,if_pos (by omega)];rfl,rfl⟩
       . have:=vd hB hb ha (i:=r) (by omega) (by omega) hd.symm (show b[r]! < a[r]! from by
          have h1:a[r]! ≠ b[r]! := he;have h2:¬a[r]! < b[r]! := hlt;omega)
         repeat' first|apply aap|apply aM|apply aaF|apply aaY|apply acS|apply abu|apply abJ|apply bZ|apply fx|apply kL|(apply afB;rfl)|(apply abz;rfl)|(apply abF;rfl)|(apply ada;rfl;rfl)|(apply aeN;rfl;rfl)|(apply aef;rfl;rfl)|(apply aeX;rfl;rfl;omega)|(apply afu;rfl;exact fun _=>rfl;(first|omega|(simp only[List.length_set];omega)|(simp;omega));decide;rfl;case ia=>infer_instance)|(apply aab;rfl;rfl)|(apply aaZ;rfl;rfl)|(intro _;omega)|intro _
         all_goals first|contradiction|(omega)|exact⟨.inr rfl,rfl,_,rfl,by rw[bD,if_neg (by omega),if_pos (by omega)];rfl,rfl⟩
   exact loop a.length _ _ (Nat.le_refl _) (by rw[List.drop_length,hl,List.drop_length])
 . by_cases hlt:a.length<b.length
   . have:=nY hB ha hb nb hlt;repeat' first|apply aap|apply aM|apply aaF|apply aaY|apply abu|apply bZ|(apply abz;rfl)|(apply ada;rfl;rfl)|(apply aef;rfl;rfl)|(apply aab;rfl;rfl)|(apply aaZ;rfl;rfl)|(intro _;omega)|intro _
     all_goals first|contradiction|(omega)|exact⟨.inr rfl,rfl,_,rfl,by rw[bD,if_pos (by omega)];rfl,rfl⟩
   . have:=nY hB hb ha na (by omega);repeat' first|apply aap|apply aM|apply aaF|apply aaY|apply abu|apply abJ|apply bZ|(apply abz;rfl)|(apply abF;rfl)|(apply ada;rfl;rfl)|(apply aef;rfl;rfl)|(apply aab;rfl;rfl)|(apply aaZ;rfl;rfl)|(intro _;omega)|intro _
     all_goals first|contradiction|(omega)|exact⟨.inr rfl,rfl,_,rfl,by rw[bD,if_neg (by omega),if_pos (by omega)];rfl,rfl⟩
end Go.Ab.Ch1

/-
  Own work: words of integers: sums and differences.
-/
namespace Go.Ab.Ch1
open Go.Ab.aY
variable {M:ax} {cap c1 c2:Option Nat}
def ki (v:AV)(hh:ab)(r:List Int):Prop:=∃v1,hJ hh v v1/\v1.top=0/\cd v1 = .vs (ah r) r.length none
theorem HU (l:List Int):dJ (ah l)=ah l:=AS (fun _=>rfl) l
theorem fV (l:List Int):bk (ah l)=0:=pF (fun _=>rfl) l
theorem ki.trim {b:Nat}{L:List Int}{e:TypeId}{hp:ab}{n:Nat}(hb:hp.at b=some (.cells (ah L) e))(hn:n<=L.length):ki (bz b (aN (L.take n)) cap) (if (aV [bz b (aN (L.take n)) cap]).top<=0 then [] else hp) (L.take (aN (L.take n))):=by
 have hle:=hZ (l:=L.take n);rw[List.length_take]at hle;obtain⟨k,hk⟩:∃k,k=aN (L.take n):=⟨_,rfl⟩;rw[←hk]at hle ⊢;by_cases h0:0<k
 . have e1:bz b k cap = .sl b 0 k 1 cap:=if_pos h0;rw[e1,if_neg (by simp[aV,AV.top])];have hl:(L.take k).length=k:=by rw[List.length_take];omega
   have hF:Fr hp [b] (.sl b 0 k 1 cap) (.vs (ah (L.take k)) k none):=by
    refine .sl (m:=ah (L.take k)) (List.mem_singleton.2 rfl) hb ?_ rfl (fun i x y hx hy=>?_) (.inr rfl)
    . have:=ke (f:=uC) (esz:=1) (fun _=>rfl) (l:=L) (i:=0) (n:=k) (by omega);simpa using this
    . rw[hx]at hy;cases hy;exact .same (cF (fV _) hx)
   unfold ki;rw[hl];refine⟨_,⟨[b],hF,rfl,fun c l' e' hc hl'=>?_⟩,fV _,by rw[cd,HU]⟩;rw[List.mem_singleton.1 hc,hb]at hl';cases hl';exact nJ (fun _=>rfl) _
 . obtain rfl:k=0:=by omega
   exact⟨.vs [] 0 cap,.same rfl rfl,rfl,rfl⟩
theorem kj {n k:Nat}:(List.replicate n (0:Int))[k]! = 0:=by
 rw[List.getElem!_eq_getElem?_getD,List.getElem?_replicate];split <;> rfl
theorem gA {L:List Int}{i k:Nat}{v:Int}(h:i≠k):(L.set i v)[k]! = L[k]! := by
 rw[List.getElem!_eq_getElem?_getD,List.getElem!_eq_getElem?_getD,List.getElem?_set_ne h]
theorem ve {L:List Int}{i:Nat}{v:Int}(h:i<L.length):(L.set i v)[i]! = v:=by
 rw[List.getElem!_eq_getElem?_getD,List.getElem?_set_self h];rfl
structure mC (M:ax):Prop where
 ft:M.FT=FT
 vh:∀ars h,M.ext 276 ars h=none
 mD:∀x y c h,0<=x->0<=y->0<=c->c<=1->M.ext 275 [.uV x,.uV y,.uV c] h=some ⟨.aq [.uV ((x+y+c)%18446744073709551616),.uV ((x+y+c)/18446744073709551616)],h,[]⟩
 vi:∀(x y c:Int) h,0<=x->x<18446744073709551616->0<=y->y<18446744073709551616->0<=c->c<=1->M.ext 277 [.uV x,.uV y,.uV c] h=some ⟨.aq [.uV ((x-y-c)%18446744073709551616),.uV (if x<y+c then 1 else 0)],h,[]⟩
theorem mC.jH (C:mC M){b n:Nat}{L:List Int}{e:TypeId}{hp:ab}(hb:hp.at b=some (.cells (ah L) e))(hn:n<=L.length)(hl:n<1000000000)(hc:∀c,cap=some c->n<=c):CT M (.fn (.func 276) [] []) [.sl b 0 n 1 cap] hp ⟨bz b (aN (L.take n)) cap,hp,[]⟩:=
 CT.run (fi:=[]) (ca:=[]) (C.vh _ _) (TN C.ft hb hn hl hc)
def pT (M:ax)(g:Nat)(ars:List AV)(z:Int):Prop:=∃r:List Int,(okW wB r/\az r/\WV wB r=z)/\∃v hh,ki v hh r/\aT M g ars [] ⟨v,hh,[]⟩
theorem BD {f N:Nat}{aO:List Nat}{res:List ew}{body:al}{ars:List AV}{z:Int}(hft:M.FT f=some ⟨N,aO,res,body⟩)(hN:ars.length<=N)
 (h:W M body ⟨⟨aO.map (fun t=>(ars[t]?).getD cB),[],[],[]⟩,[]⟩ fun e s=>(e = .normal\/e = .ret)/\s.s.bX=[]/\∃vs,de s.s res=some vs/\∃r:List Int,(okW wB r/\az r/\WV wB r=z)/\ki (aV vs) (if (aV vs).top<=0 then [] else s.s.hp) r):pT M f ars z:=by
 obtain⟨v,hh,⟨r,hr,ho⟩,h2⟩:=fZ (P:=fun v hh=>∃r:List Int,(okW wB r/\az r/\WV wB r=z)/\ki v hh r) hft hN h;exact⟨r,hr,v,hh,ho,h2⟩
theorem kl {L:List Int}(ok:okW wB L):okW wB (L.take (aN L))/\az (L.take (aN L))/\WV wB (L.take (aN L))=WV wB L:=⟨dm ok _,BC,vc⟩
def fG (y:List Int)(i:Nat):Int:=if i<y.length then y[i]! else 0
theorem rO {B:Int}{y:List Int}{i:Nat}:WV B (y.take (i+1))=WV B (y.take i)+B^i*fG y i:=by
 unfold fG;split
 . rename_i h;exact eO h
 . rename_i h;rw[List.take_of_length_le (by omega),List.take_of_length_le (by omega),Int.mul_zero,Int.add_zero]
theorem HV {y:List Int}(ok:okW wB y)(i:Nat):0<=fG y i/\fG y i<wB:=by
 unfold fG;split
 . rename_i h;exact bY ok h
 . exact⟨by decide,by decide⟩
theorem HW (C:mC M)(x y:List Int)(hx:okW wB x)(hy:okW wB y)(lx:x.length<100000000)(ly:y.length<=x.length){Q:Ex->ao->Prop}(a2 a5 a6:AV)(lo:List (Nat×AV))
 (hQ:∀L (c:Int) a5 a6 lo wr,L.length=x.length+1->okW wB L->(0<=c/\c<=1)->L[x.length]! = 0->WV wB L+wB^x.length*c=WV wB x+WV wB y ->
   Q (.exit 0) ⟨⟨[.vs (ah x) x.length c1,.vs (ah y) y.length c2,a2,.sl 0 0 (x.length+1) 1 (some (x.length+1)),.uV c,a5,a6,.iV x.length,.iV x.length],lo,[some (.cells (ah L) 246)],[]⟩,wr⟩) :
 W M (.loop uU) ⟨⟨[.vs (ah x) x.length c1,.vs (ah y) y.length c2,a2,.sl 0 0 (x.length+1) 1 (some (x.length+1)),.uV 0,a5,a6,.iV x.length,.iV 0],lo,[some (.cells (ah (List.replicate (x.length+1) 0)) 246)],[]⟩,[]⟩ Q:=by
 refine W.iQ x.length (fun i s=>∃L c a5 a6 lo wr,s=⟨⟨[.vs (ah x) x.length c1,.vs (ah y) y.length c2,a2,.sl 0 0 (x.length+1) 1 (some (x.length+1)),.uV c,a5,a6,.iV x.length,.iV i],lo,[some (.cells (ah L) 246)],[]⟩,wr⟩ /\
  L.length=x.length+1/\okW wB L/\(0<=c/\c<=1)/\(∀k,i<=k->L[k]! = 0)/\WV wB L+wB^i*c=WV wB (x.take i)+WV wB (y.take i)) (fun i s hi ⟨L,c,a5,a6,lo,wr,hs,hl,bC,hc,hz,hv⟩=>?_) (fun s ⟨L,c,a5,a6,lo,wr,hs,hl,bC,hc,hz,hv⟩=>?_) (Nat.zero_le _)
  ⟨_,_,_,_,_,_,rfl,by simp,kf (by decide),⟨by decide,by decide⟩,fun k _=>kj,by rw[kh];simp[WV]⟩
 . subst hs;have gx:=bY hx hi;rw[show x[i]! = x[((i:Int)).toNat]! from rfl]at gx;have gy:=HV hy i;obtain⟨v,hvv⟩:∃v,v=fG y i:=⟨_,rfl⟩;rw[←hvv]at gy;have q275:=fun h=>C.mD x[((i:Int)).toNat]! v c h gx.1 gy.1 hc.1 hc.2
   obtain⟨S,hS⟩:∃S,S=x[((i:Int)).toNat]! + v+c:=⟨_,rfl⟩;have hS2:0<=S/\S<2*18446744073709551616:=by
    have h1:x[((i:Int)).toNat]! < 18446744073709551616:=gx.2;have h2:v<18446744073709551616:=gy.2;omega
   have eI:0+((i:Int)).toNat*1=i:=by omega
   have next:∀a5 a6 lo wr,LI (fun s=>∃L c a5 a6 lo wr,s=⟨⟨[.vs (ah x) x.length c1,.vs (ah y) y.length c2,a2,.sl 0 0 (x.length+1) 1 (some (x.length+1)),.uV c,a5,a6,.iV x.length,.iV ((i+1:Nat):Int)],lo,[some (.cells (ah L) 246)],[]⟩,wr⟩ /\
    L.length=x.length+1/\okW wB L/\(0<=c/\c<=1)/\(∀k,i+1<=k->L[k]! = 0)/\WV wB L+wB^(i+1)*c=WV wB (x.take (i+1))+WV wB (y.take (i+1))) Q .normal ⟨⟨[.vs (ah x) x.length c1,.vs (ah y) y.length c2,a2,.sl 0 0 (x.length+1) 1 (some (x.length+1)),.uV (S/18446744073709551616),a5,a6,.iV x.length,.iV ((i:Int)+1)],lo,[some (.cells (ah (L.set i (S%18446744073709551616))) 246)],[]⟩,wr⟩:=fun a5 a6 lo wr=>
    da ⟨_,_,a5,a6,lo,wr,rfl,by rw[List.length_set];exact hl,fO bC ⟨by omega,by show _<(18446744073709551616:Int);omega⟩,⟨by omega,by omega⟩,fun k hk=>by rw[gA (by omega)];exact hz k (by omega),by
     rw[fP (by omega),hz i (Nat.le_refl _),eO hi,rO (y:=y),←hvv,Int.pow_succ];have e:S=x[i]! + v+c:=hS;have e2:S%18446744073709551616+18446744073709551616*(S/18446744073709551616)=S:=by omega
     have e3:wB^i*(S%18446744073709551616)+wB^i*18446744073709551616*(S/18446744073709551616)=wB^i*(x[i]! + v+c):=by rw[←e,←e2];grind
     show WV wB L+wB^i*(S%18446744073709551616-0)+wB^i*18446744073709551616*(S/18446744073709551616)=_;grind⟩
   unfold uU;by_cases hy2:i<y.length
   . have e:v=y[((i:Int)).toNat]! := by rw[hvv,fG,if_pos hy2];rfl
     rw[e]at q275 hS;refine gg6 ?_;rw[←hS];exact next _ _ _ _
   . have e:v=0:=by rw[hvv,fG,if_neg hy2]
     rw[e]at q275 hS;refine gg6 ?_;rw[←hS];exact next _ _ _ _
 . subst hs;rw[List.take_length,List.take_of_length_le ly]at hv;unfold uU;exact gg7
theorem TP (C:mC M)(x y:List Int)(hx:okW wB x)(hy:okW wB y)(lx:x.length<100000000)(ly:y.length<100000000):pT M 249 [.vs (ah x) x.length c1,.vs (ah y) y.length c2] (WV wB x+WV wB y):=by
 have fin:∀(x y:List Int) (L:List Int) (c:Int),okW wB x->x.length<100000000->L.length=x.length+1->okW wB L->(0<=c/\c<=1)->L[x.length]! = 0->WV wB L+wB^x.length*c=WV wB x+WV wB y ->
  okW wB (L.set x.length c)/\WV wB (L.set x.length c)=WV wB x+WV wB y:=fun x y L c _ _ hl bC hc hz hv=>
  ⟨fO bC ⟨hc.1,by have:=hc.2;show c<(18446744073709551616:Int);omega⟩,by rw[fP (by omega),hz,Int.sub_zero];exact hv⟩
 refine BD (by rw[C.ft];exact Ty) (by simp) ?_;unfold HJ;simp only[enter];by_cases hl:x.length<y.length
 . refine gg6 ?_;refine HW (c1:=c2) (c2:=c1) C y x hy hx ly (by omega) _ _ _ _ (fun L c a5 a6 lo wr h1 h2 h3 h4 h5=>?_);obtain⟨f1,f2⟩:=fin y x L c hy ly h1 h2 h3 h4 h5;have q:=C.jH (cap:=some (y.length+1)) (b:=0) (n:=y.length+1) (L:=L.set y.length c) (e:=246) (hp:=[some (.cells (ah (L.set y.length c)) 246)]) rfl (by rw[List.length_set];omega) (by omega) (fun c hc=>by cases hc;exact Nat.le_refl _);rw[List.take_of_length_le (by rw[List.length_set];omega)]at q;have eI:0+((y.length:Int)).toNat*1=y.length:=by omega
   refine gg15 ?_;refine⟨.inr rfl,rfl,_,rfl,(L.set y.length c).take (aN (L.set y.length c)),?_,?_⟩
   . obtain⟨g1,g2,g3⟩:=kl f1;exact⟨g1,g2,by rw[g3,f2];omega⟩
   . have:=ki.trim (cap:=some (y.length+1)) (b:=0) (L:=L.set y.length c) (e:=246) (hp:=[some (.cells (ah (L.set y.length c)) 246)]) (n:=y.length+1) rfl (by rw[List.length_set];omega);rw[List.take_of_length_le (by rw[List.length_set];omega)]at this;exact this
 . refine gg6 ?_;refine HW (c1:=c1) (c2:=c2) C x y hx hy lx (by omega) _ _ _ _ (fun L c a5 a6 lo wr h1 h2 h3 h4 h5=>?_);obtain⟨f1,f2⟩:=fin x y L c hx lx h1 h2 h3 h4 h5;have q:=C.jH (cap:=some (x.length+1)) (b:=0) (n:=x.length+1) (L:=L.set x.length c) (e:=246) (hp:=[some (.cells (ah (L.set x.length c)) 246)]) rfl (by rw[List.length_set];omega) (by omega) (fun c hc=>by cases hc;exact Nat.le_refl _);rw[List.take_of_length_le (by rw[List.length_set];omega)]at q;have eI:0+((x.length:Int)).toNat*1=x.length:=by omega
   refine gg15 ?_;refine⟨.inr rfl,rfl,_,rfl,(L.set x.length c).take (aN (L.set x.length c)),?_,?_⟩
   . obtain⟨g1,g2,g3⟩:=kl f1;exact⟨g1,g2,by rw[g3,f2]⟩
   . have:=ki.trim (cap:=some (x.length+1)) (b:=0) (L:=L.set x.length c) (e:=246) (hp:=[some (.cells (ah (L.set x.length c)) 246)]) (n:=x.length+1) rfl (by rw[List.length_set];omega);rw[List.take_of_length_le (by rw[List.length_set];omega)]at this;exact this
end Go.Ab.Ch1

/-
  Own work: words of integers: differences.
-/
namespace Go.Ab.Ch1
open Go.Ab.aY
variable {M:ax} {cap c1 c2:Option Nat}
theorem TT (C:mC M)(x y:List Int)(hx:okW wB x)(hy:okW wB y)(lx:x.length<100000000)(ly:y.length<=x.length){Q:Ex->ao->Prop}(a2 a5 a6:AV)(lo:List (Nat×AV))
 (hQ:∀L (c:Int) a5 a6 lo wr,L.length=x.length->okW wB L->(0<=c/\c<=1)->WV wB L-wB^x.length*c=WV wB x-WV wB y ->
   Q (.exit 0) ⟨⟨[.vs (ah x) x.length c1,.vs (ah y) y.length c2,a2,.sl 0 0 x.length 1 (some x.length),.uV c,a5,a6,.iV x.length,.iV x.length],lo,[some (.cells (ah L) 246)],[]⟩,wr⟩) :
 W M (.loop uW) ⟨⟨[.vs (ah x) x.length c1,.vs (ah y) y.length c2,a2,.sl 0 0 x.length 1 (some x.length),.uV 0,a5,a6,.iV x.length,.iV 0],lo,[some (.cells (ah (List.replicate x.length 0)) 246)],[]⟩,[]⟩ Q:=by
 refine W.iQ x.length (fun i s=>∃L c a5 a6 lo wr,s=⟨⟨[.vs (ah x) x.length c1,.vs (ah y) y.length c2,a2,.sl 0 0 x.length 1 (some x.length),.uV c,a5,a6,.iV x.length,.iV i],lo,[some (.cells (ah L) 246)],[]⟩,wr⟩ /\
  L.length=x.length/\okW wB L/\(0<=c/\c<=1)/\(∀k,i<=k->L[k]! = 0)/\WV wB L-wB^i*c=WV wB (x.take i)-WV wB (y.take i)) (fun i s hi ⟨L,c,a5,a6,lo,wr,hs,hl,bC,hc,hz,hv⟩=>?_) (fun s ⟨L,c,a5,a6,lo,wr,hs,hl,bC,hc,hz,hv⟩=>?_) (Nat.zero_le _)
  ⟨_,_,_,_,_,_,rfl,by simp,kf (by decide),⟨by decide,by decide⟩,fun k _=>kj,by rw[kh];simp[WV]⟩
 . subst hs;have gx:=bY hx hi;rw[show x[i]! = x[((i:Int)).toNat]! from rfl]at gx;have gy:=HV hy i;obtain⟨v,hvv⟩:∃v,v=fG y i:=⟨_,rfl⟩;rw[←hvv]at gy;have q277:=fun h=>C.vi x[((i:Int)).toNat]! v c h gx.1 gx.2 gy.1 gy.2 hc.1 hc.2
   obtain⟨S,hS⟩:∃S,S=x[((i:Int)).toNat]! - v-c:=⟨_,rfl⟩;obtain⟨D,hD⟩:∃D:Int,D=if x[((i:Int)).toNat]! < v+c then 1 else 0:=⟨_,rfl⟩
   have hD2:0<=D/\D<=1/\S=S%18446744073709551616-18446744073709551616*D:=by
    have h1:x[((i:Int)).toNat]! < 18446744073709551616:=gx.2;have h2:v<18446744073709551616:=gy.2;rw[hD];split <;> omega
   have eI:0+((i:Int)).toNat*1=i:=by omega
   have next:∀a5 a6 lo wr,LI (fun s=>∃L c a5 a6 lo wr,s=⟨⟨[.vs (ah x) x.length c1,.vs (ah y) y.length c2,a2,.sl 0 0 x.length 1 (some x.length),.uV c,a5,a6,.iV x.length,.iV ((i+1:Nat):Int)],lo,[some (.cells (ah L) 246)],[]⟩,wr⟩ /\
    L.length=x.length/\okW wB L/\(0<=c/\c<=1)/\(∀k,i+1<=k->L[k]! = 0)/\WV wB L-wB^(i+1)*c=WV wB (x.take (i+1))-WV wB (y.take (i+1))) Q .normal ⟨⟨[.vs (ah x) x.length c1,.vs (ah y) y.length c2,a2,.sl 0 0 x.length 1 (some x.length),.uV D,a5,a6,.iV x.length,.iV ((i:Int)+1)],lo,[some (.cells (ah (L.set i (S%18446744073709551616))) 246)],[]⟩,wr⟩:=fun a5 a6 lo wr=>
    da ⟨_,_,a5,a6,lo,wr,rfl,by rw[List.length_set];exact hl,fO bC ⟨by omega,by show _<(18446744073709551616:Int);omega⟩,⟨hD2.1,hD2.2.1⟩,fun k hk=>by rw[gA (by omega)];exact hz k (by omega),by
     rw[fP (by omega),hz i (Nat.le_refl _),eO hi,rO (y:=y),←hvv,Int.pow_succ];have e:S=x[i]! - v-c:=hS;have e3:wB^i*(S%18446744073709551616)-wB^i*18446744073709551616*D=wB^i*(x[i]! - v-c):=by rw[←e,Int.mul_assoc,←Int.mul_sub,←hD2.2.2]
     show WV wB L+wB^i*(S%18446744073709551616-0)-wB^i*18446744073709551616*D=_;grind⟩
   unfold uW;by_cases hy2:i<y.length
   . have e:v=y[((i:Int)).toNat]! := by rw[hvv,fG,if_pos hy2];rfl
     rw[e]at q277 hS hD;rw[←hS,←hD]at q277;exact gg2
   . have e:v=0:=by rw[hvv,fG,if_neg hy2]
     rw[e]at q277 hS hD;rw[←hS,←hD]at q277;exact gg2
 . subst hs;rw[List.take_length,List.take_of_length_le ly]at hv;unfold uW;exact gg7
theorem TV (C:mC M)(x y:List Int)(hx:okW wB x)(hy:okW wB y)(lx:x.length<100000000)(ly:y.length<=x.length)(hle:WV wB y<=WV wB x):pT M 251 [.vs (ah x) x.length c1,.vs (ah y) y.length c2] (WV wB x-WV wB y):=by
 refine BD (by rw[C.ft];exact Tz) (by simp) ?_;unfold HK;simp only[enter];refine gg6 ?_;refine TT (c1:=c1) (c2:=c2) C x y hx hy lx ly _ _ _ _ (fun L c a5 a6 lo wr h1 h2 h3 h5=>?_);have h6:WV wB L=WV wB x-WV wB y:=by
  have h7:=dr (b:=wB) (by decide) h2;rw[h1]at h7;have h8:c=0:=by
   rcases Int.lt_or_le 0 c with h|h
   . have:c=1:=by omega
     subst this;rw[Int.mul_one]at h5;omega
   . omega
  subst h8;rw[Int.mul_zero]at h5;omega
 have q:=C.jH (cap:=some x.length) (b:=0) (n:=x.length) (L:=L) (e:=246) (hp:=[some (.cells (ah L) 246)]) rfl (by omega) (by omega) (fun c hc=>by cases hc;exact Nat.le_refl _);rw[List.take_of_length_le (by omega)]at q;refine gg15 ?_;refine⟨.inr rfl,rfl,_,rfl,L.take (aN L),?_,?_⟩
 . obtain⟨g1,g2,g3⟩:=kl h2;exact⟨g1,g2,by rw[g3,h6]⟩
 . have:=ki.trim (cap:=some x.length) (b:=0) (L:=L) (e:=246) (hp:=[some (.cells (ah L) 246)]) (n:=x.length) rfl (by omega);rw[List.take_of_length_le (by omega)]at this;exact this
end Go.Ab.Ch1

/-
  Own work: words of integers: products.
-/
namespace Go.Ab.Ch1
open Go.Ab.aY
variable {M:ax} {cap c1 c2:Option Nat}
structure mE (M:ax):Prop extends mC M where
 nZ:∀(x y:Int) h,(0<=x/\x<18446744073709551616)->(0<=y/\y<18446744073709551616)->M.ext 244 [.uV x,.uV y] h=some ⟨.aq [.uV (x*y/18446744073709551616),.uV (x*y%18446744073709551616)],h,[]⟩
theorem vj {x y:Int}(hx:0<=x/\x<18446744073709551616)(hy:0<=y/\y<18446744073709551616):0<=x*y/\x*y<=340282366920938463426481119284349108225:=by
 refine⟨Int.mul_nonneg hx.1 hy.1,?_⟩;have:=Int.mul_le_mul (a:=x) (b:=y) (c:=18446744073709551615) (d:=18446744073709551615) (by omega) (by omega) hy.1 (by omega);omega
theorem TW (C:mE M)(a b:List Int)(hb:okW wB b)(la:a.length<10000000)(lb:b.length<10000000)(i:Nat)(hi:i<a.length)(x P:Int)(hx:0<=x/\x<18446744073709551616){Q:Ex->ao->Prop}(a2 a7 a8 a9 aA aB aC aD aE:AV)(lo:List (Nat×AV))(wr:List Nat)(L:List Int)(hl:L.length=a.length+b.length)(bC:okW wB L)(hz:∀k,i+b.length<=k->L[k]! = 0)(hv:WV wB L=P)
 (hQ:∀L (c:Int) a7 a8 a9 aA aB lo wr,L.length=a.length+b.length->okW wB L->(0<=c/\c<18446744073709551616)->(∀k,i+b.length<=k->L[k]! = 0)->WV wB L+wB^(i+b.length)*c=P+wB^i*x*WV wB b ->
   Q (.exit 2) ⟨⟨[.vs (ah a) a.length c1,.vs (ah b) b.length c2,a2,.sl 0 0 (a.length+b.length) 1 (some (a.length+b.length)),.iV i,.uV x,.uV c,a7,a8,a9,aA,aB,aC,aD,aE,.vs (ah b) b.length c2,.iV b.length,.iV b.length],lo,[some (.cells (ah L) 246)],[]⟩,wr⟩) :
 W M (.loop uP) ⟨⟨[.vs (ah a) a.length c1,.vs (ah b) b.length c2,a2,.sl 0 0 (a.length+b.length) 1 (some (a.length+b.length)),.iV i,.uV x,.uV 0,a7,a8,a9,aA,aB,aC,aD,aE,.vs (ah b) b.length c2,.iV b.length,.iV 0],lo,[some (.cells (ah L) 246)],[]⟩,wr⟩ Q:=by
 refine W.iQ b.length (fun j s=>∃L c a7 a8 a9 aA aB lo wr,s=⟨⟨[.vs (ah a) a.length c1,.vs (ah b) b.length c2,a2,.sl 0 0 (a.length+b.length) 1 (some (a.length+b.length)),.iV i,.uV x,.uV c,a7,a8,a9,aA,aB,aC,aD,aE,.vs (ah b) b.length c2,.iV b.length,.iV j],lo,[some (.cells (ah L) 246)],[]⟩,wr⟩ /\
  L.length=a.length+b.length/\okW wB L/\(0<=c/\c<18446744073709551616)/\(∀k,i+b.length<=k->L[k]! = 0)/\WV wB L+wB^(i+j)*c=P+wB^i*x*WV wB (b.take j)) (fun j s hj ⟨L,c,a7,a8,a9,aA,aB,lo,wr,hs,hl,bC,hc,hz,hv⟩=>?_) (fun s ⟨L,c,a7,a8,a9,aA,aB,lo,wr,hs,hl,bC,hc,hz,hv⟩=>?_) (Nat.zero_le _)
  ⟨_,_,_,_,_,_,_,_,_,rfl,hl,bC,⟨by decide,by decide⟩,hz,by rw[hv];simp[WV]⟩
 . subst hs;have gy:=bY hb hj;rw[show b[j]! = b[((j:Int)).toNat]! from rfl]at gy;obtain⟨y,hy⟩:∃y,y=b[((j:Int)).toNat]! := ⟨_,rfl⟩;rw[←hy]at gy;have gy:0<=y/\y<18446744073709551616:=gy;have q244:=fun h=>C.nZ x y h hx gy
   have hm:=vj hx gy;have hxy:∃m,m=x*y:=⟨_,rfl⟩;obtain⟨m,hmm⟩:=hxy;rw[←hmm]at q244 hm;have gL:=bY bC (i:=i+j) (by omega);obtain⟨w,hw⟩:∃w,w=L[i+j]! := ⟨_,rfl⟩;rw[←hw]at gL;have gL:0<=w/\w<18446744073709551616:=gL;have q1:=fun h=>C.mD (m%18446744073709551616) w 0 h (by omega) gL.1 (by decide) (by decide)
   have q2:=fun h=>C.mD ((m%18446744073709551616+w+0)%18446744073709551616) c 0 h (by omega) hc.1 (by decide) (by decide)
   obtain⟨R,hR⟩:∃R,R=((m%18446744073709551616+w+0)%18446744073709551616+c+0)%18446744073709551616:=⟨_,rfl⟩;obtain⟨D,hD⟩:∃D,D=m/18446744073709551616+(m%18446744073709551616+w+0)/18446744073709551616+((m%18446744073709551616+w+0)%18446744073709551616+c+0)/18446744073709551616:=⟨_,rfl⟩;have hD2:(0<=D/\D<18446744073709551616)/\m+w+c=R+18446744073709551616*D/\(0<=R/\R<18446744073709551616):=by omega
   have eI:0+(((i:Int)+(j:Int))).toNat*1=i+j:=by omega
   have next:∀a7 a8 a9 aA aB lo wr,LI (fun s=>∃L c a7 a8 a9 aA aB lo wr,s=⟨⟨[.vs (ah a) a.length c1,.vs (ah b) b.length c2,a2,.sl 0 0 (a.length+b.length) 1 (some (a.length+b.length)),.iV i,.uV x,.uV c,a7,a8,a9,aA,aB,aC,aD,aE,.vs (ah b) b.length c2,.iV b.length,.iV ((j+1:Nat):Int)],lo,[some (.cells (ah L) 246)],[]⟩,wr⟩ /\
    L.length=a.length+b.length/\okW wB L/\(0<=c/\c<18446744073709551616)/\(∀k,i+b.length<=k->L[k]! = 0)/\WV wB L+wB^(i+(j+1))*c=P+wB^i*x*WV wB (b.take (j+1))) Q .normal ⟨⟨[.vs (ah a) a.length c1,.vs (ah b) b.length c2,a2,.sl 0 0 (a.length+b.length) 1 (some (a.length+b.length)),.iV i,.uV x,.uV D,a7,a8,a9,aA,aB,aC,aD,aE,.vs (ah b) b.length c2,.iV b.length,.iV ((j:Int)+1)],lo,[some (.cells (ah (L.set (i+j) R)) 246)],[]⟩,wr⟩:=fun a7 a8 a9 aA aB lo wr=>
    da ⟨_,_,a7,a8,a9,aA,aB,lo,wr,rfl,by rw[List.length_set];exact hl,fO bC hD2.2.2,hD2.1,fun k hk=>by rw[gA (by omega)];exact hz k hk,by
     rw[fP (by omega),←hw,eO hj,show i+(j+1)=(i+j)+1 from rfl,Int.pow_succ,show b[j]! = y from hy.symm];have e:=hD2.2.1;rw[hmm]at e;have e2:wB^(i+j)*(R-w)+wB^(i+j)*18446744073709551616*D=wB^(i+j)*(x*y+c):=by
      have:x*y+c=R-w+18446744073709551616*D:=by omega
      rw[this,Int.mul_add,Int.mul_assoc]
     have e3:wB^(i+j)=wB^i*wB^j:=Int.pow_add _ _ _;show WV wB L+wB^(i+j)*(R-w)+wB^(i+j)*18446744073709551616*D=P+wB^i*x*(WV wB (b.take j)+wB^j*y);rw[Int.add_assoc,e2,Int.mul_add,←Int.add_assoc,Int.add_right_comm,hv];rw[e3];grind⟩
   rw[hD,hR,hw]at next
   rw[hw]at q1 q2;rw[hy]at q244;unfold uP;exact gg2
 . subst hs;rw[List.take_length]at hv;unfold uP;exact gg7
theorem TX (C:mE M)(a b:List Int)(ha:okW wB a)(hb:okW wB b)(la:a.length<10000000)(lb:b.length<10000000):pT M 248 [.vs (ah a) a.length c1,.vs (ah b) b.length c2] (WV wB a*WV wB b):=by
 refine BD (by rw[C.ft];exact Tv) (by simp) ?_;unfold HG;simp only[enter];refine gg6 ?_;have e0:((a.length:Int)+(b.length:Int)).toNat=a.length+b.length:=by omega
 rw[e0];refine W.iQ a.length (fun i s=>∃L a4 a5 a6 a7 a8 a9 aA aB aF aG aH lo wr,s=⟨⟨[.vs (ah a) a.length c1,.vs (ah b) b.length c2,.ae,.sl 0 0 (a.length+b.length) 1 (some (a.length+b.length)),a4,a5,a6,a7,a8,a9,aA,aB,.vs (ah a) a.length c1,.iV a.length,.iV i,aF,aG,aH],lo,[some (.cells (ah L) 246)],[]⟩,wr⟩ /\
  L.length=a.length+b.length/\okW wB L/\(∀k,i+b.length<=k->L[k]! = 0)/\WV wB L=WV wB (a.take i)*WV wB b) (fun i s hi ⟨L,a4,a5,a6,a7,a8,a9,aA,aB,aF,aG,aH,lo,wr,hs,hl,bC,hz,hv⟩=>?_) (fun s ⟨L,a4,a5,a6,a7,a8,a9,aA,aB,aF,aG,aH,lo,wr,hs,hl,bC,hz,hv⟩=>?_) (Nat.zero_le _)
  ⟨List.replicate (a.length+b.length) 0,_,_,_,_,_,_,_,_,_,_,_,_,_,rfl,by simp,kf (by decide),fun k _=>kj,by rw[kh];simp[WV]⟩
 . subst hs;have gx:=bY ha hi;rw[show a[i]! = a[((i:Int)).toNat]! from rfl]at gx;have eI:0+(((i:Int)+(b.length:Int))).toNat*1=i+b.length:=by omega
   unfold By;refine gg3 ?_;refine TW (c1:=c1) (c2:=c2) C a b hb la lb i hi a[((i:Int)).toNat]! _ gx _ _ _ _ _ _ _ _ _ _ _ L hl bC hz hv (fun L2 c a7 a8 a9 aA aB lo wr h1 h2 h3 h4 h5=>?_);refine gg15 ?_;refine da ⟨L2.set (i+b.length) c,_,_,_,_,_,_,_,_,_,_,_,_,_,rfl,by rw[List.length_set];exact h1,fO h2 h3,fun k hk=>by rw[gA (by omega)];exact h4 k (by omega),?_⟩;rw[fP (by omega),h4 _ (Nat.le_refl _),Int.sub_zero,h5,eO hi];show _=(WV wB (a.take i)+wB^i*a[i]!)*WV wB b;rw[Int.add_mul];rfl
 . subst hs;rw[List.take_length]at hv;have q:=C.jH (cap:=some (a.length+b.length)) (b:=0) (n:=a.length+b.length) (L:=L) (e:=246) (hp:=[some (.cells (ah L) 246)]) rfl (by omega) (by omega) (fun c hc=>by cases hc;exact Nat.le_refl _);rw[List.take_of_length_le (by omega)]at q;unfold By;refine gg15 ?_;refine⟨.inr rfl,rfl,_,rfl,L.take (aN L),?_,?_⟩
   . obtain⟨g1,g2,g3⟩:=kl bC;exact⟨g1,g2,by rw[g3,hv]⟩
   . have:=ki.trim (cap:=some (a.length+b.length)) (b:=0) (L:=L) (e:=246) (hp:=[some (.cells (ah L) 246)]) (n:=a.length+b.length) rfl (by omega);rw[List.take_of_length_le (by omega)]at this;exact this
end Go.Ab.Ch1

/-
  Own work: the resolved code of some functions of chapter 1: ranks, the sort of a few marks.
-/
namespace Go.Ab.Ch1
def HX:al:=zR [zi 1 0] (.seq (zR [zm 3 0,⟨.l 4,.bin .geq (.l 3) (kU 4294967296),none⟩] (.cond (.l 4) (zR [zm 5 0,⟨.l 6,.bin .shr (.l 5) (kU 32),none⟩,zw 0 6] (.region [zi 1 32])) (.skip))) (.seq (zR [zm 7 0,⟨.l 8,.bin .geq (.l 7) (kU 65536),none⟩] (.cond (.l 8) (zR [zm 9 0,⟨.l 10,.bin .shr (.l 9) (kU 16),none⟩,zw 0 10] (.region [zm 11 1,zc 12 .add 11 16,zw 1 12])) (.skip))) (.seq (zR [zm 13 0,⟨.l 14,.bin .geq (.l 13) (kU 256),none⟩] (.cond (.l 14) (zR [zm 15 0,⟨.l 16,.bin .shr (.l 15) (kU 8),none⟩,zw 0 16] (.region [zm 17 1,zc 18 .add 17 8,zw 1 18])) (.skip))) (zR [zm 19 1,zm 20 0,⟨.l 21,.dz .u8 (.l 20),none⟩,⟨.l 22,.index (.c (.str zD0)) (.l 21),none⟩,⟨.l 23,.dz .i64 (.l 22),none⟩,zb 24 .add 19 23,zw 1 24] (.ret)))))
theorem TY:FT 240=some ⟨25,[0,2],[.var (.p 1)],HX⟩:=by kernel_rfl
end Go.Ab.Ch1

/-
  Own work: words of 64 binary digits: their length, quotients of two words by one.
-/
namespace Go.Ab.Ch1
open Go.Ab.aY
variable {M:ax} {cap c1 c2:Option Nat}
def cj (x:Int):Nat:=if x=0 then 0 else x.toNat.log2+1
theorem HY {x:Int}{n:Nat}(h:2^n<=x/\x<2^(n+1)):cj x=n+1:=by
 have h0:0<x:=by have:=Int.pow_pos (n:=2) (m:=n) (by decide);omega
 obtain⟨k,rfl⟩:=Int.eq_ofNat_of_zero_le (Int.le_of_lt h0);have hk:k≠0:=by omega
 rw[cj,if_neg (by omega)];have:(k:Int).toNat=k:=rfl;rw[this,(Nat.log2_eq_iff hk).2 ⟨by exact_mod_cast h.1,by exact_mod_cast h.2⟩]
theorem pU {x:Int}(h:0<x):1<=cj x/\2^(cj x-1)<=x/\x<2^cj x:=by
 obtain⟨k,rfl⟩:=Int.eq_ofNat_of_zero_le (Int.le_of_lt h);have hk:k≠0:=by omega
 rw[cj,if_neg (by omega)];have h1:=(Nat.log2_eq_iff hk).1 rfl;have:(k:Int).toNat=k:=rfl;rw[this];refine⟨by omega,?_,?_⟩
 . rw[Nat.add_sub_cancel];exact_mod_cast h1.1
 . exact_mod_cast h1.2
theorem oc {x:Int}{n:Nat}(h:x<2^n)(h0:0<=x):cj x<=n:=by
 by_cases hx:x=0
 . simp[cj,hx]
 . obtain⟨h1,h2,h3⟩:=pU (show 0<x by omega);rcases Nat.lt_or_ge n (cj x) with h4|h4
   . have:(2:Int)^n<=2^(cj x-1):=gJ (by decide) (by omega);omega
   . exact h4
theorem TZ {x:Int}{s n:Nat}{u:Int}(hu:u=x/2^s)(h0:0<=x)(h:2^n<=u/\u<2^(n+1)):cj x=s+n+1:=by
 have hp:=Int.pow_pos (n:=2) (m:=s) (by decide);subst hu;refine HY ⟨?_,?_⟩
 . have h1:=Int.mul_le_mul_of_nonneg_left h.1 (Int.le_of_lt hp);have h2:=Int.mul_ediv_self_le (x:=x) (k:=2^s) (by omega);rw[Int.pow_add];omega
 . have h1:2^s*(x/2^s+1)<=2^s*2^(n+1):=Int.mul_le_mul_of_nonneg_left (by omega) (Int.le_of_lt hp);have h2:=Int.lt_mul_ediv_self_add (x:=x) (k:=2^s) hp;rw[Int.mul_add]at h1;rw[show s+n+1=s+(n+1) by omega,Int.pow_add];omega
def lC:an:=[0,1,2,2,3,3,3,3,4,4,4,4,4,4,4,4,5,5,5,5,5,5,5,5,5,5,5,5,5,5,5,5]++List.replicate 32 6++List.replicate 64 7++List.replicate 128 8
theorem Ua:∀k:Fin 256,0<k.val->1<=(lC[k.val]!).toNat/\2^((lC[k.val]!).toNat-1)<=k.val/\k.val<2^((lC[k.val]!).toNat-1+1):=by decide +kernel
theorem Ub {u:Int}(h0:0<u)(h:u<256):∃n:Nat,(lC[u.toNat]!).toNat=n+1/\(2:Int)^n<=u/\u<2^(n+1):=by
 obtain⟨k,rfl⟩:=Int.eq_ofNat_of_zero_le (Int.le_of_lt h0);obtain⟨h1,h2,h3⟩:=Ua ⟨k,by omega⟩ (by simpa using h0);refine⟨(lC[k]!).toNat-1,by simp only at h1;rw[show (k:Int).toNat=k from rfl];omega,?_,?_⟩
 . exact_mod_cast h2
 . exact_mod_cast h3
set_option maxRecDepth 100000 in
theorem Uc (hft:M.FT=FT)(x:Int)(hx:0<=x/\x<18446744073709551616):aT M 240 [.uV x] [] ⟨.iV (cj x),[],[]⟩:=by
 have key:∀(u:Int) (s:Nat),u=x/2^s->(0<u/\u<256)->((lC[u.toNat]!).toNat:Int)+s=cj x:=fun u s hu h=>by
  obtain⟨n,e,h2⟩:=Ub h.1 h.2;rw[TZ hu hx.1 h2,e];omega
 have tl:lC.length=256:=by decide +kernel
 have tb:∀k:Nat,(lC[k]!).toNat<256:=fun k=>UInt8.toNat_lt _
 refine bH (by rw[hft];exact TY) (by simp) ?_;unfold HX;simp only[enter];repeat' first|(apply agf (n:=32) (c:=4294967296);rfl;rfl;rfl;decide;rfl)|(apply agf (n:=16) (c:=65536);rfl;rfl;rfl;decide;rfl)|(apply agf (n:=8) (c:=256);rfl;rfl;rfl;decide;rfl)|(apply agP;rfl)|(apply afb (s:=lC);rfl;rfl;omega)|(apply afJ;rfl;(have:=tb;refine⟨by omega,?_⟩;exact Int.lt_trans (Int.ofNat_lt.2 (tb _)) (by decide)))|(apply ael;rfl;rfl;exact⟨Int.le_trans (by decide) (Int.add_nonneg (by decide) (Int.natCast_nonneg _)),Int.lt_of_le_of_lt (Int.add_le_add (Int.le_refl _) (Int.ofNat_le.2 (Nat.le_of_lt (tb _)))) (by decide)⟩)|(apply ael;rfl;rfl;omega)|apply aap|apply aM|apply aaF|apply aaY|apply abu|apply abJ|(apply abz;rfl)|(apply abF;rfl)|(apply aeN;rfl;rfl)|(apply aab;rfl;rfl)|(apply aaZ;rfl;rfl)|(intro _;omega)|intro _
 all_goals try omega
 all_goals refine⟨.inr rfl,rfl,_,rfl,congrArg (fun z=>AV.iV z) ?_,rfl⟩
 . have e:x/4294967296/65536/256%256=x/4294967296/65536/256:=by omega
   rw[e,←key (x/4294967296/65536/256) 56 (by rw[show (2:Int)^56=72057594037927936 from rfl];omega) ⟨by omega,by omega⟩];omega
 . have e:x/4294967296/65536%256=x/4294967296/65536:=by omega
   rw[e,←key (x/4294967296/65536) 48 (by rw[show (2:Int)^48=281474976710656 from rfl];omega) ⟨by omega,by omega⟩];omega
 . have e:x/4294967296/256%256=x/4294967296/256:=by omega
   rw[e,←key (x/4294967296/256) 40 (by rw[show (2:Int)^40=1099511627776 from rfl];omega) ⟨by omega,by omega⟩];omega
 . have e:x/4294967296%256=x/4294967296:=by omega
   rw[e,←key (x/4294967296) 32 (by rw[show (2:Int)^32=4294967296 from rfl]) ⟨by omega,by omega⟩];omega
 . have e:x/65536/256%256=x/65536/256:=by omega
   rw[e,←key (x/65536/256) 24 (by rw[show (2:Int)^24=16777216 from rfl];omega) ⟨by omega,by omega⟩];omega
 . have e:x/65536%256=x/65536:=by omega
   rw[e,←key (x/65536) 16 (by rw[show (2:Int)^16=65536 from rfl]) ⟨by omega,by omega⟩];omega
 . have e:x/256%256=x/256:=by omega
   rw[e,←key (x/256) 8 (by rw[show (2:Int)^8=256 from rfl]) ⟨by omega,by omega⟩];omega
 . by_cases h0:x=0
   . subst h0;decide +kernel
   . have e:x%256=x:=by omega
     rw[e,←key x 0 (by simp) ⟨by omega,by omega⟩];omega
theorem Ud (hft:M.FT=FT)(x:Int)(hx:0<=x/\x<18446744073709551616)(rP:∀h,M.ext 240 [.uV x] h=some ⟨.iV (cj x),h,[]⟩):aT M 279 [.uV x] [] ⟨.iV (64-cj x:Nat),[],[]⟩:=by
 have hb:cj x<=64:=oc (n:=64) hx.2 hx.1;refine bH (by rw[hft];exact TE) (by simp) ?_;unfold HO;simp only[enter];exact gg11
end Go.Ab.Ch1

/-
  Own work: quotients of two words by one.
-/
namespace Go.Ab.Ch1
open Go.Ab.aY
variable {M:ax}
structure fH (y1 y0 v w q r:Int):Prop where
 q0:0<=q
 r0:0<=r
 e:q*y1+r=v
 ge:(v*4294967296+w)/(y1*4294967296+y0)<=q
structure iS (y1 y0 v w:Int):Prop where
 h1:2147483648<=y1/\y1<4294967296
 h0:0<=y0/\y0<4294967296
 hv:0<=v/\v<y1*4294967296+y0
 hw:0<=w/\w<4294967296
variable {y1 y0 v w q r:Int}
theorem iS.lt (C:iS y1 y0 v w):0<=(v*4294967296+w)/(y1*4294967296+y0)/\(v*4294967296+w)/(y1*4294967296+y0)<4294967296:=by
 have h1:=C.h1;have h0:=C.h0;have hv:=C.hv;have hw:=C.hw;exact⟨Int.ediv_nonneg (by omega) (by omega),Int.ediv_lt_of_lt_mul (by omega) (by omega)⟩
theorem fH.HZ (C:iS y1 y0 v w)(I:fH y1 y0 v w q r):q<=4294967297:=by
 have h1:=C.h1;have h0:=C.h0;have hv:=C.hv;rcases Int.lt_or_le 4294967297 q with h|h
 . have h2:4294967298*y1<=q*y1:=Int.mul_le_mul_of_nonneg_right (by omega) (by omega);have h3:=I.e;have h4:=I.r0;omega
 . exact h
theorem fH.full (C:iS y1 y0 v w)(I:fH y1 y0 v w q r):q*(y1*4294967296+y0)=(v-r)*4294967296+q*y0:=by
 have e:=I.e;have:v-r=q*y1:=by omega
 rw[this,Int.mul_add,Int.mul_assoc]
theorem fH.exit (C:iS y1 y0 v w)(I:fH y1 y0 v w q r)(h:q*y0<=4294967296*r+w):q=(v*4294967296+w)/(y1*4294967296+y0):=by
 have h1:=C.h1;have h0:=C.h0;have h2:q<=(v*4294967296+w)/(y1*4294967296+y0):=Int.le_ediv_of_mul_le (by omega) (by rw[I.full C];omega);have:=I.ge;omega
theorem fH.dec (C:iS y1 y0 v w)(I:fH y1 y0 v w q r)(h:4294967296<=q\/4294967296*r+w<q*y0):fH y1 y0 v w (q-1) (r+y1):=by
 have h1:=C.h1;have h0:=C.h0;have hl:=C.lt;have hg:(v*4294967296+w)/(y1*4294967296+y0)<=q-1:=by
  rcases h with h|h
  . omega
  . have:(v*4294967296+w)/(y1*4294967296+y0)<q:=Int.ediv_lt_of_lt_mul (by omega) (by rw[I.full C];omega);omega
 exact⟨by omega,by have:=I.r0;omega,by have:=I.e;rw[Int.sub_mul];omega,hg⟩
theorem fH.mF (C:iS y1 y0 v w)(I:fH y1 y0 v w q r)(h:4294967296<=r):q=(v*4294967296+w)/(y1*4294967296+y0):=by
 have h1:=C.h1;have h0:=C.h0;have hv:=C.hv;have hw:=C.hw;have hq:q<4294967296:=by
  rcases Int.lt_or_le q 4294967296 with h'|h'
  . exact h'
  . have h2:4294967296*y1<=q*y1:=Int.mul_le_mul_of_nonneg_right h' (by omega);have:=I.e;omega
 refine I.exit C ?_;have h3:=Int.mul_le_mul (a:=q) (b:=y0) (c:=4294967295) (d:=4294967295) (by omega) (by omega) h0.1 (by omega);omega
theorem fH.init (C:iS y1 y0 v w):fH y1 y0 v w (v/y1) (v-v/y1*y1):=by
 have h1:=C.h1;have h0:=C.h0;have hv:=C.hv;have hw:=C.hw;have e1:=Int.mul_ediv_self_le (x:=v) (k:=y1) (by omega);have e2:=Int.lt_mul_ediv_self_add (x:=v) (k:=y1) (by omega);have e3:y1*(v/y1)=v/y1*y1:=Int.mul_comm _ _;refine⟨Int.ediv_nonneg hv.1 (by omega),by omega,by omega,?_⟩;have h5:(v*4294967296+w)/(y1*4294967296+y0)<=(v*4294967296+w)/(y1*4294967296):=by
  refine Int.le_ediv_of_mul_le (by omega) ?_;have hl:=C.lt;have h6:=Int.ediv_mul_le (v*4294967296+w) (show y1*4294967296+y0≠0 by omega);rw[Int.mul_add]at h6;have:=Int.mul_nonneg hl.1 h0.1;omega
 have h6:(v*4294967296+w)/(y1*4294967296)=v/y1:=by
  rw[Int.mul_comm y1,←Int.ediv_ediv_of_nonneg (by decide)];congr 1;omega
 omega
theorem fH.vk (C:iS y1 y0 v w)(h:q<4294967296)(h':0<=q):0<=q*y0/\q*y0<18446744073709551616:=by
 have h0:=C.h0;refine⟨Int.mul_nonneg h' h0.1,?_⟩;have h3:=Int.mul_le_mul (a:=q) (b:=y0) (c:=4294967295) (d:=4294967295) (by omega) (by omega) h0.1 (by omega);omega
theorem Ue (C:iS y1 y0 v w){Q:Ex->ao->Prop}(a0 a1 a2 a3 a4 a5 a8 a9 aB aE aF:AV)
 (hQ:∀r lo,Q (.exit 0) ⟨⟨[a0,a1,a2,a3,a4,a5,.uV y1,.uV y0,a8,a9,.uV w,aB,.uV ((v*4294967296+w)/(y1*4294967296+y0)),.uV r,aE,aF],lo,[],[]⟩,[]⟩) :
 ∀(n:Nat) (q r:Int) lo,q.toNat=n->fH y1 y0 v w q r->r<4294967296->W M (.loop uY) ⟨⟨[a0,a1,a2,a3,a4,a5,.uV y1,.uV y0,a8,a9,.uV w,aB,.uV q,.uV r,aE,aF],lo,[],[]⟩,[]⟩ Q:=by
 have h1:=C.h1;have h0:=C.h0;have hv:=C.hv;have hw:=C.hw;intro n;induction n with
 | zero=>
  intro q r lo hn I hr;have hq0:=I.q0;obtain rfl:q=0:=by omega
  have hr0:=I.r0;have eq:=I.exit C (by omega);refine W.loop ?_;unfold uY;refine gg10 ?_;have:=hQ r;rw[←eq]at this;exact this _
 | succ n ih=>
  intro q r lo hn I hr;have hq0:=I.q0;have hr0:=I.r0;have hql:=I.HZ C;refine W.loop ?_;unfold uY;by_cases hd:4294967296<=q\/4294967296*r+w<q*y0
  . have I2:=I.dec C hd;by_cases hb:4294967296<=q
    . by_cases hr2:4294967296<=r+y1
      . have e:=I2.mF C hr2;refine gg10 ?_;have:=hQ (r+y1);rw[←e]at this;exact this _
      . exact gg1
    . have hm:=fH.vk (q:=q) C (by omega) hq0;obtain⟨P,hP⟩:∃P,P=q*y0:=⟨_,rfl⟩;rw[←hP]at hd hm;by_cases hr2:4294967296<=r+y1
      . have e:=I2.mF C hr2;refine gg10 ?_;have:=hQ (r+y1);rw[←e]at this;exact this _
      . exact gg1
  . have hm:=fH.vk (q:=q) C (by omega) hq0;have e:=I.exit C (by omega);obtain⟨P,hP⟩:∃P,P=q*y0:=⟨_,rfl⟩;rw[←hP]at hd hm;refine gg10 ?_;have:=hQ r;rw[←e]at this;exact this _
theorem Uf (C:iS y1 y0 v w){Q:Ex->ao->Prop}(a0 a1 a2 a3 a4 a5 a8 a9 aA aC aE:AV)
 (hQ:∀r lo,Q (.exit 2) ⟨⟨[a0,a1,a2,a3,a4,a5,.uV y1,.uV y0,a8,a9,aA,.uV w,aC,.uV r,aE,.uV ((v*4294967296+w)/(y1*4294967296+y0))],lo,[],[]⟩,[]⟩) :
 ∀(n:Nat) (q r:Int) lo,q.toNat=n->fH y1 y0 v w q r->r<4294967296->W M (.loop uZ) ⟨⟨[a0,a1,a2,a3,a4,a5,.uV y1,.uV y0,a8,a9,aA,.uV w,aC,.uV r,aE,.uV q],lo,[],[]⟩,[]⟩ Q:=by
 have h1:=C.h1;have h0:=C.h0;have hv:=C.hv;have hw:=C.hw;intro n;induction n with
 | zero=>
  intro q r lo hn I hr;have hq0:=I.q0;obtain rfl:q=0:=by omega
  have hr0:=I.r0;have eq:=I.exit C (by omega);refine W.loop ?_;unfold uZ;refine gg10 ?_;have:=hQ r;rw[←eq]at this;exact this _
 | succ n ih=>
  intro q r lo hn I hr;have hq0:=I.q0;have hr0:=I.r0;have hql:=I.HZ C;refine W.loop ?_;unfold uZ;by_cases hd:4294967296<=q\/4294967296*r+w<q*y0
  . have I2:=I.dec C hd;by_cases hb:4294967296<=q
    . by_cases hr2:4294967296<=r+y1
      . have e:=I2.mF C hr2;refine gg10 ?_;have:=hQ (r+y1);rw[←e]at this;exact this _
      . exact gg1
    . have hm:=fH.vk (q:=q) C (by omega) hq0;obtain⟨P,hP⟩:∃P,P=q*y0:=⟨_,rfl⟩;rw[←hP]at hd hm;by_cases hr2:4294967296<=r+y1
      . have e:=I2.mF C hr2;refine gg10 ?_;have:=hQ (r+y1);rw[←e]at this;exact this _
      . exact gg1
  . have hm:=fH.vk (q:=q) C (by omega) hq0;have e:=I.exit C (by omega);obtain⟨P,hP⟩:∃P,P=q*y0:=⟨_,rfl⟩;rw[←hP]at hd hm;refine gg10 ?_;have:=hQ r;rw[←e]at this;exact this _
theorem Ug {hi lo y:Int}{s:Nat}(hy:0<y)(hh:0<=hi/\hi<y)(hl:0<=lo/\lo<18446744073709551616){q R:Int}(h:(hi*18446744073709551616+lo)*2^s=q*(y*2^s)+R)(hR:0<=R/\R<y*2^s) :
 q=(hi*18446744073709551616+lo)/y/\R/2^s=(hi*18446744073709551616+lo)%y:=by
 have hp:=Int.pow_pos (n:=2) (m:=s) (by decide);generalize (2:Int)^s=p at *
 generalize hi*18446744073709551616+lo=N at *
 have e1:R=(N-q*y)*p:=by rw[Int.sub_mul,h,←Int.mul_assoc];omega
 have r0:0<=N-q*y:=by
  rcases Int.lt_or_le (N-q*y) 0 with h'|h'
  . have:=Int.mul_lt_mul_of_pos_right h' hp;omega
  . exact h'
 have r1:N-q*y<y:=by
  refine Int.lt_of_mul_lt_mul_right (a:=p) ?_ (Int.le_of_lt hp);omega
 have e2:N/y=q:=by
  rw[show N=(N-q*y)+y*q by rw[Int.mul_comm y q];omega,Int.add_mul_ediv_left _ _ (by omega),Int.ediv_eq_zero_of_lt r0 r1];omega
 refine⟨e2.symm,?_⟩;rw[e1,Int.mul_ediv_cancel _ (by omega),Int.emod_def,e2,Int.mul_comm y q]
theorem vn {s:Nat}(h:s<=64):(2:Int)^s*2^(64-s)=18446744073709551616:=by
 rw[←Int.pow_add,show s+(64-s)=64 by omega];rfl
theorem Uh (hft:M.FT=FT)(hi lo y:Int)(hy:0<y/\y<18446744073709551616)(hh:0<=hi/\hi<y)(hl:0<=lo/\lo<18446744073709551616)(vo:∀h,M.ext 279 [.uV y] h=some ⟨.iV (64-cj y:Nat),h,[]⟩) :
 aT M 278 [.uV hi,.uV lo,.uV y] [] ⟨.aq [.uV ((hi*18446744073709551616+lo)/y),.uV ((hi*18446744073709551616+lo)%y)],[],[]⟩:=by
 refine bH (by rw[hft];exact TC) (by simp) ?_;unfold HN;simp only[enter];by_cases h0:hi=0
 . subst h0;exact gg8
 . obtain⟨b1,b2,b3⟩:=pU hy.1;have b4:cj y<=64:=oc (n:=64) hy.2 (by omega);obtain⟨s,hs⟩:∃s:Nat,s=64-cj y:=⟨_,rfl⟩;rw[←hs]at vo;have hs64:s<=63:=by omega
   have hp:=Int.pow_pos (n:=2) (m:=s) (by decide);have hps:=vn (s:=s) (by omega);have hY1:9223372036854775808<=y*2^s:=by
    have h1:(2:Int)^(cj y-1)*2^s<=y*2^s:=Int.mul_le_mul_of_nonneg_right b2 (Int.le_of_lt hp);rw[←Int.pow_add,show cj y-1+s=63 by omega]at h1;exact Int.le_trans (by decide) h1
   have hY2:y*2^s<18446744073709551616:=by
    have h1:y*2^s<2^cj y*2^s:=Int.mul_lt_mul_of_pos_right b3 hp;rw[←Int.pow_add,show cj y+s=64 by omega]at h1;exact Int.lt_of_lt_of_le h1 (by decide)
   have hhs:0<=hi*2^s/\hi*2^s<y*2^s:=⟨Int.mul_nonneg hh.1 (Int.le_of_lt hp),Int.mul_lt_mul_of_pos_right hh.2 hp⟩;have hp2:=Int.pow_pos (n:=2) (m:=64-s) (by decide);have hlo:0<=lo/2^(64-s)/\lo/2^(64-s)<2^s:=⟨Int.ediv_nonneg hl.1 (Int.le_of_lt hp2),Int.ediv_lt_of_lt_mul hp2 (by rw[hps];exact hl.2)⟩;have hdv:hi*2^s%2^s=0:=Int.mul_emod_left _ _;have hlos:lo*2^s/18446744073709551616=lo/2^(64-s):=by
    rw[←hps,Int.mul_comm lo];exact Int.mul_ediv_mul_of_pos _ _ hp
   have hN:(hi*18446744073709551616+lo)*2^s=(hi*2^s+lo/2^(64-s))*18446744073709551616+lo*2^s%18446744073709551616:=by
    rw[←hlos,Int.add_mul,Int.mul_right_comm];omega
   have hv:hi*2^s+lo/2^(64-s)<y*2^s:=by
    have h1:(hi*18446744073709551616+lo)*2^s<(y*18446744073709551616)*2^s:=Int.mul_lt_mul_of_pos_right (by omega) hp;rw[hN,Int.mul_right_comm]at h1;omega
   refine gg15 ?_;have fin:=fun q R h=>Ug (hi:=hi) (lo:=lo) (y:=y) (s:=s) hy.1 hh hl (q:=q) (R:=R) h
   rw[hN]at fin;have hv0:0<=hi*2^s+lo/2^(64-s):=by omega
   have hu:0<=lo*2^s%18446744073709551616/\lo*2^s%18446744073709551616<18446744073709551616:=by omega
   generalize hi*2^s+lo/2^(64-s)=v at *
   generalize lo*2^s%18446744073709551616=u at *
   generalize y*2^s=Y at *
   have C1:iS (Y/4294967296) (Y%4294967296) v (u/4294967296):=⟨by omega,by omega,by omega,by omega⟩;have I1:=fH.init C1;have m1:0<=v/(Y/4294967296)*(Y/4294967296)/\v/(Y/4294967296)*(Y/4294967296)<=v:=⟨Int.mul_nonneg I1.q0 (by omega),by have:=I1.r0;omega⟩;have r1:v-v/(Y/4294967296)*(Y/4294967296)<4294967296:=by
    have:=Int.lt_mul_ediv_self_add (x:=v) (k:=Y/4294967296) (by omega);rw[Int.mul_comm (Y/4294967296)]at this;omega
   repeat' first|(apply agc;rfl;rfl;omega;omega)|(apply afG (a:=v/(Y/4294967296)) (b:=Y/4294967296);rfl;rfl;omega)|(apply afK;rfl;rfl;omega)|apply aap|apply aM|apply aaF|apply aaY|apply acS|(apply aab;rfl;rfl)|(apply aaZ;rfl;rfl)
   refine Ue C1 _ _ _ _ _ _ _ _ _ _ _ (fun r lo2=>?_) _ _ _ _ rfl I1 r1;have eY:Y/4294967296*4294967296+Y%4294967296=Y:=by omega
   have hQ:=C1.lt;rw[eY]at hQ ⊢;have hd1:=Int.ediv_mul_le (v*4294967296+u/4294967296) (show Y≠0 by omega);have hd2:=Int.lt_ediv_add_one_mul_self (v*4294967296+u/4294967296) (show 0<Y by omega);generalize (v*4294967296+u/4294967296)/Y=Q1 at *
   have hR1:∃R,R=v*4294967296+u/4294967296-Q1*Y:=⟨_,rfl⟩;obtain⟨R1,hR1⟩:=hR1;rw[Int.add_mul,Int.one_mul]at hd2;have eR:((v*4294967296%18446744073709551616+u/4294967296)%18446744073709551616-Q1*Y%18446744073709551616)%18446744073709551616=R1:=by omega
   have C2:iS (Y/4294967296) (Y%4294967296) R1 (u%4294967296):=⟨by omega,by omega,by omega,by omega⟩;have I2:=fH.init C2;have m2:0<=R1/(Y/4294967296)*(Y/4294967296)/\R1/(Y/4294967296)*(Y/4294967296)<=R1:=⟨Int.mul_nonneg I2.q0 (by omega),by have:=I2.r0;omega⟩;have r2:R1-R1/(Y/4294967296)*(Y/4294967296)<4294967296:=by
    have:=Int.lt_mul_ediv_self_add (x:=R1) (k:=Y/4294967296) (by omega);rw[Int.mul_comm (Y/4294967296)]at this;omega
   repeat' first|(apply agu;rfl;rfl)|(apply agq;rfl;rfl)|(apply agO;rfl;rfl)|apply aap|apply aM|apply aaF|apply aaY|apply fy|(apply aab;rfl;rfl)|(apply aaZ;rfl;rfl)
   rw[eR];refine gg14 ?_;refine Uf C2 _ _ _ _ _ _ _ _ _ _ _ (fun r lo2=>?_) _ _ _ _ rfl I2 r2;have hQ2:=C2.lt;rw[eY]at hQ2 ⊢;have hd3:=Int.ediv_mul_le (R1*4294967296+u%4294967296) (show Y≠0 by omega);have hd4:=Int.lt_ediv_add_one_mul_self (R1*4294967296+u%4294967296) (show 0<Y by omega);generalize (R1*4294967296+u%4294967296)/Y=Q2 at *
   rw[Int.add_mul,Int.one_mul]at hd4;obtain⟨R2,hR2⟩:∃R,R=R1*4294967296+u%4294967296-Q2*Y:=⟨_,rfl⟩;have eR2:((R1*4294967296%18446744073709551616+u%4294967296)%18446744073709551616-Q2*Y%18446744073709551616)%18446744073709551616=R2:=by omega
   obtain⟨f1,f2⟩:=fin (Q1*4294967296+Q2) R2 (by rw[Int.add_mul,Int.mul_right_comm Q1];omega) (by omega);repeat' first|(apply afG (a:=Q1) (b:=4294967296);rfl;rfl;omega)|(apply afN (a:=Q1*4294967296) (b:=Q2);rfl;rfl;omega)|(apply agu;rfl;rfl)|(apply agq;rfl;rfl)|(apply agO;rfl;rfl)|(apply afS (n:=s);rfl;rfl;rfl;omega)|apply aap|apply aM|apply aaF|apply aaY|apply abu|apply fy|(apply aab;rfl;rfl)|(apply aaZ;rfl;rfl)
   refine⟨.inr rfl,rfl,_,rfl,?_,rfl⟩;rw[←f1,←f2,←eR2];rfl
end Go.Ab.Ch1

/-
  Own work: words of integers: digits shifted upwards, into a new block.
-/
namespace Go.Ab.Ch1
open Go.Ab.aY
variable {M:ax} {cap c1 c2:Option Nat}
theorem Ia {hp:ab}{x y:Option bw}:ab.put (hp++[x]) hp.length y=hp++[y]:=by simp[ab.put]
section
variable {t m:Nat} {x y:aL} {l:List aU} {pe:List AV} {lo:List (Nat×AV)} {hp:ab} {df wr:List Nat} {L:List Int} {e:TypeId} {a b v:Int} {Q:ao->Prop}
theorem agz (hx:(St.mk pe lo (hp++[some (.cells (ah L) e)]) df).aa x=some (.ptr hp.length m))(hy:(St.mk pe lo (hp++[some (.cells (ah L) e)]) df).aa y=some (.uV v))(hi:m<L.length)
 (h:WO M l ⟨⟨pe,lo,hp++[some (.cells (ah (L.set m v)) e)],df⟩,hp.length::wr⟩ Q):WO M (⟨.no,.store 1 x y,none⟩::l) ⟨⟨pe,lo,hp++[some (.cells (ah L) e)],df⟩,wr⟩ Q:=by
 refine afH hx hy bW hi ?_;rw[Ia];exact h
theorem agy (m:Nat)(hx:(St.mk pe lo hp df).aa x=some (.uV a))(hy:(St.mk pe lo hp df).aa y=some (.uV b))(ha:0<=a/\a<2^m)(hb:0<=b/\b<18446744073709551616)(hm:m<=64)(hd:b%2^m=0)
 (h:WO M l ⟨⟨pe,(t,.uV (a+b))::lo,hp,df⟩,wr⟩ Q):WO M (⟨.l t,.bin .or x y,none⟩::l) ⟨⟨pe,lo,hp,df⟩,wr⟩ Q:=by
 have key:aW ⟨pe,lo,hp,df⟩ (.bin .or x y)=aW ⟨pe,lo,hp,df⟩ (.bin .or y x):=by
  simp only[aW,hx,hy,cN,if_true];rw[BitVec.or_comm]
 obtain⟨⟨k,s',h1,h2⟩⟩:=agM (M:=M) (t:=t) (l:=l) (Q:=Q) m hy hx hb ha hm hd (by rw[Int.add_comm];exact h);refine⟨⟨k,s',?_,h2⟩⟩;rw[←h1];simp only[eE,eC,bR,aZ.bG,Bool.false_eq_true,if_false,key]
end
theorem Ui {hp:ab}{v:AV}{s:ao}{x:Option bw}(hh:s.s.hp=hp++[x])(hw:∀z∈s.wr,hp.length<=z)(hv:hp.length<v.top):dR v hp.length s=⟨v,hp++[x],[]⟩:=by
 unfold dR;have hf:s.wr.filter (· < hp.length)=[]:=by
  rw[List.filter_eq_nil_iff];intro z hz;have:=hw z hz;simp;omega
 rw[if_neg (by simp;omega),hh,hf]
theorem Ib (hft:M.FT=FT)(l:List Int)(hl:okW wB l)(ll:l.length<100000000)(s:Nat)(hs:s<=63)(hp:ab) :
 ∃r,(r.length=l.length+1/\okW wB r/\WV wB r=WV wB l*2^s)/\aT M 280 [.vs (ah l) l.length c1,.iV s] hp ⟨.sl hp.length 0 (l.length+1) 1 (some (l.length+1)),hp++[some (.cells (ah r) 246)],[]⟩:=by
 have hp2:=Int.pow_pos (n:=2) (m:=s) (by decide);have hps:=vn (s:=s) (by omega);have hp3:=Int.pow_pos (n:=2) (m:=64-s) (by decide);have key:=ir.rC (M:=M) (f:=280) (ars:=[.vs (ah l) l.length c1,.iV s]) (h:=hp) (K:=fun hr=>∃r,(r.length=l.length+1/\okW wB r/\WV wB r=WV wB l*2^s)/\hr=⟨.sl hp.length 0 (l.length+1) 1 (some (l.length+1)),hp++[some (.cells (ah r) 246)],[]⟩) (by rw[hft];exact Tw) (by simp) (by
  unfold HH;simp only[enter];refine gg6 ?_;rw[show ((l.length:Int)+1).toNat=l.length+1 by omega];refine W.iQ l.length (fun i s'=>∃L a4 a5 lo wr,s'=⟨⟨[.vs (ah l) l.length c1,.iV s,.ae,.sl hp.length 0 (l.length+1) 1 (some (l.length+1)),a4,a5,.vs (ah l) l.length c1,.iV l.length,.iV i],lo,hp++[some (.cells (ah L) 246)],[]⟩,wr⟩ /\
   L.length=l.length+1/\okW wB L/\(∀k,i<k->L[k]! = 0)/\(L[i]! < 2^s)/\WV wB L=WV wB (l.take i)*2^s/\∀z∈wr,hp.length<=z) (fun i s' hi ⟨L,a4,a5,lo,wr,hs',hL,bC,hz,hlt,hv,hw⟩=>?_) (fun s' ⟨L,a4,a5,lo,wr,hs',hL,bC,hz,hlt,hv,hw⟩=>?_) (Nat.zero_le _)
   ⟨_,_,_,_,_,rfl,by simp,kf (by decide),fun k _=>kj,by rw[kj];exact hp2,by rw[kh];simp[WV],by simp⟩
  . subst hs';have gx:=bY hl hi;rw[show l[i]! = l[((i:Int)).toNat]! from rfl]at gx;obtain⟨x,hx⟩:∃x,x=l[((i:Int)).toNat]! := ⟨_,rfl⟩;rw[←hx]at gx;have gx:0<=x/\x<18446744073709551616:=gx;have gL:=bY bC (i:=i) (by omega);have gL:0<=L[i]! /\ L[i]! < 18446744073709551616:=gL;have hm:0<=x*2^s%18446744073709551616/\x*2^s%18446744073709551616<18446744073709551616:=by omega
    have hd:x*2^s%18446744073709551616%2^s=0:=by
     rw[Int.emod_emod_of_dvd _ ⟨2^(64-s),hps.symm⟩];exact Int.mul_emod_left _ _
    have hq:x*2^s/18446744073709551616=x/2^(64-s):=by
     rw[←hps,Int.mul_comm x];exact Int.mul_ediv_mul_of_pos _ _ hp2
    have hq2:0<=x/2^(64-s)/\x/2^(64-s)<2^s:=⟨Int.ediv_nonneg gx.1 (Int.le_of_lt hp3),Int.ediv_lt_of_lt_mul hp3 (by rw[hps];exact gx.2)⟩;have hsB:(2:Int)^s<=9223372036854775808:=by
     have:=gJ (b:=2) (by decide) hs;exact Int.le_trans this (by decide)
    have hsum:L[i]! + x*2^s%18446744073709551616<18446744073709551616:=by
     obtain⟨k,hk⟩:∃k,x*2^s%18446744073709551616=2^s*k:=⟨x*2^s%18446744073709551616/2^s,by have:=Int.mul_ediv_add_emod (x*2^s%18446744073709551616) (2^s);omega⟩;have hk2:k<2^(64-s):=Int.lt_of_mul_lt_mul_left (a:=2^s) (by rw[←hk,hps];exact hm.2) (Int.le_of_lt hp2);have:=Int.mul_le_mul_of_nonneg_left (show k+1<=2^(64-s) by omega) (Int.le_of_lt hp2);rw[hps,Int.mul_add,←hk]at this;omega
    have eI:0+((i:Int)).toNat*1=i:=by omega
    have eJ:0+((i:Int)+1).toNat*1=i+1:=by omega
    have fin:∀L':List Int,L'=(L.set i (L[i]! + x*2^s%18446744073709551616)).set (i+1) (x/2^(64-s))->L'.length=l.length+1/\okW wB L'/\(∀k,i+1<k->L'[k]! = 0)/\(L'[i+1]! < 2^s)/\WV wB L'=WV wB (l.take (i+1))*2^s:=fun L' hL'=>by
     subst hL';refine⟨by rw[List.length_set,List.length_set];exact hL,fO (fO bC ⟨by omega,hsum⟩) ⟨hq2.1,by show _<(18446744073709551616:Int);omega⟩,fun k hk=>by rw[gA (by omega),gA (by omega)];exact hz k (by omega),by rw[ve (by rw[List.length_set];omega)];exact hq2.2,?_⟩;rw[fP (by rw[List.length_set];omega),gA (by omega),hz (i+1) (by omega),fP (by omega),eO hi,hv,←hq,Int.pow_succ];have e1:x*2^s=x*2^s%18446744073709551616+18446744073709551616*(x*2^s/18446744073709551616):=by omega
     have e2:l[i]! = x:=hx.symm;rw[e2,Int.add_mul,Int.mul_assoc _ x];have e3:wB^i*(x*2^s)=wB^i*(x*2^s%18446744073709551616)+wB^i*(18446744073709551616*(x*2^s/18446744073709551616)):=by rw[←Int.mul_add,←e1]
     rw[e3,show L[i]! + x*2^s%18446744073709551616-L[i]! = x*2^s%18446744073709551616 by omega,Int.sub_zero,Int.mul_assoc (wB^i) wB];exact Int.add_assoc _ _ _
    have eset:¬(0:Int)<s->L.set i (L[i]! + x*2^s%18446744073709551616)=(L.set i (L[i]! + x*2^s%18446744073709551616)).set (i+1) (x/2^(64-s)):=fun h0=>by
     have hs0:s=0:=by omega
     have hx0:x/2^(64-s)=0:=by
      rw[hs0];exact Int.ediv_eq_zero_of_lt gx.1 gx.2
     have h1:(L.set i (L[i]! + x*2^s%18446744073709551616))[i+1]! = 0:=by rw[gA (by omega)];exact hz (i+1) (by omega)
     have h2:i+1<(L.set i (L[i]! + x*2^s%18446744073709551616)).length:=by rw[List.length_set];omega
     rw[getElem!_pos (L.set i (L[i]! + x*2^s%18446744073709551616)) (i+1) h2]at h1;rw[hx0];exact((congrArg (fun z=>(L.set i (L[i]! + x*2^s%18446744073709551616)).set (i+1) z) h1.symm).trans (List.set_getElem_self h2)).symm
    subst hx;unfold Bz;by_cases h0:(0:Int)<s
    . refine gg3 ?_;obtain⟨f1,f2,f3,f4,f5⟩:=fin _ rfl;exact da ⟨_,_,_,_,_,rfl,f1,f2,f3,f4,f5,by intro z hz';simp at hz';rcases hz' with rfl|hz';exact Nat.le_refl _;exact hw z hz'⟩
    . refine gg3 ?_;obtain⟨f1,f2,f3,f4,f5⟩:=fin _ (eset h0);exact da ⟨_,_,_,_,_,rfl,f1,f2,f3,f4,f5,by intro z hz';simp at hz';rcases hz' with rfl|hz';exact Nat.le_refl _;exact hw z hz'⟩
  . subst hs';rw[List.take_length]at hv;unfold Bz;refine gg15 ?_;exact⟨.inr rfl,_,rfl,_,rfl,L,⟨hL,bC,hv⟩,Ui rfl hw (by simp[aV,AV.top])⟩)
 obtain⟨hr,h1,r,h2,rfl⟩:=key.out;exact⟨r,h2,h1⟩
end Go.Ab.Ch1

/-
  Own work: Knuth's division: the guess of a digit is at most one too great.
-/
namespace Go.Ab.aY
structure iT (t2 t1 t0 v1 v0 T V p:Int):Prop where
 h2:0<=t2
 h1:0<=t1/\t1<18446744073709551616
 h0:0<=t0/\t0<18446744073709551616
 w1:9223372036854775808<=v1/\v1<18446744073709551616
 w0:0<=v0/\v0<18446744073709551616
 hp:1<=p
 lo:((t2*18446744073709551616+t1)*18446744073709551616+t0)*p<=T
 hi:T<((t2*18446744073709551616+t1)*18446744073709551616+t0+1)*p
 pW:(v1*18446744073709551616+v0)*p<=V
 rQ:V<(v1*18446744073709551616+v0+1)*p
 hT:T<18446744073709551616*V
structure gK (t2 t1 v1 T V q r:Int):Prop where
 q0:0<=q/\q<18446744073709551616
 r0:0<=r
 e:q*v1+r=t2*18446744073709551616+t1
 ge:T<(q+1)*V
variable {t2 t1 t0 v1 v0 T V p q r:Int}
theorem iT.top (C:iT t2 t1 t0 v1 v0 T V p):t2<=v1:=by
 have h1:=C.h1;have h0:=C.h0;have w0:=C.w0;have a1:((t2*18446744073709551616+t1)*18446744073709551616+t0)*p<(18446744073709551616*(v1*18446744073709551616+v0+1))*p:=by
  have:=C.lo;have:=C.hT;have:=C.rQ;rw[Int.mul_assoc 18446744073709551616];omega
 have a2:=Int.lt_of_mul_lt_mul_right a1 (by have:=C.hp;omega);omega
theorem iT.geq (C:iT t2 t1 t0 v1 v0 T V p)(h0:0<=q)(h:(t2*18446744073709551616+t1)*18446744073709551616+t0+1<=q*(v1*18446744073709551616+v0)):T<q*V:=by
 have hp:=C.hp;have a1:=Int.mul_le_mul_of_nonneg_right h (show 0<=p by omega);have a2:=Int.mul_le_mul_of_nonneg_left C.pW h0;rw[←Int.mul_assoc]at a2;have:=C.hi;omega
theorem gK.qD (I:gK t2 t1 v1 T V q r):q*(v1*18446744073709551616+v0)=(t2*18446744073709551616+t1-r)*18446744073709551616+q*v0:=by
 have e:=I.e;have:t2*18446744073709551616+t1-r=q*v1:=by omega
 rw[this,Int.mul_add,Int.mul_assoc]
theorem gK.Uj (C:iT t2 t1 t0 v1 v0 T V p)(h:v1<=t2):gK t2 t1 v1 T V 18446744073709551615 (t1+v1):=by
 have:=C.top;have:=C.h1;have:=C.w1;have:=C.hT;exact⟨by omega,by omega,by omega,by omega⟩
theorem gK.Uk (C:iT t2 t1 t0 v1 v0 T V p)(h:t2<v1):gK t2 t1 v1 T V ((t2*18446744073709551616+t1)/v1) ((t2*18446744073709551616+t1)%v1):=by
 have h2:=C.h2;have h1:=C.h1;have w1:=C.w1;have h0:=C.h0;have w0:=C.w0;have q0:0<=(t2*18446744073709551616+t1)/v1:=Int.ediv_nonneg (by omega) (by omega);have q1:(t2*18446744073709551616+t1)/v1<18446744073709551616:=Int.ediv_lt_of_lt_mul (by omega) (by omega);have e:=Int.mul_ediv_add_emod (t2*18446744073709551616+t1) v1;have r0:=Int.emod_nonneg (t2*18446744073709551616+t1) (show v1≠0 by omega);have r1:=Int.emod_lt_of_pos (t2*18446744073709551616+t1) (show 0<v1 by omega);rw[Int.mul_comm]at e;refine⟨⟨q0,q1⟩,r0,e,C.geq (by omega) ?_⟩;generalize (t2*18446744073709551616+t1)/v1=q at *
 generalize (t2*18446744073709551616+t1)%v1=r at *
 have a1:(q+1)*(v1*18446744073709551616+v0)=(q*v1+v1)*18446744073709551616+(q+1)*v0:=by grind
 have a2:0<=(q+1)*v0:=Int.mul_nonneg (by omega) w0.1;rw[a1];generalize q*v1=z at *
 generalize (q+1)*v0=y at *
 omega
theorem gK.dec (C:iT t2 t1 t0 v1 v0 T V p)(I:gK t2 t1 v1 T V q r)(h:r*18446744073709551616+t0<q*v0):gK t2 t1 v1 T V (q-1) (r+v1):=by
 have w1:=C.w1;have q0:=I.q0;have r0:=I.r0;have h0:=C.h0;have q1:0<q:=by
  rcases Int.lt_or_le 0 q with h'|h'
  . exact h'
  . obtain rfl:q=0:=by omega
    omega
 refine⟨by omega,by omega,by have:=I.e;rw[Int.sub_mul];omega,?_⟩;rw[Int.sub_add_cancel];refine C.geq (by omega) ?_;rw[I.qD];omega
theorem gK.exit (C:iT t2 t1 t0 v1 v0 T V p)(I:gK t2 t1 v1 T V q r)(h:q*v0<=r*18446744073709551616+t0):(q-1)*V<=T:=by
 have w1:=C.w1;have q0:=I.q0;have r0:=I.r0;have w0:=C.w0;have hp:=C.hp;have a1:q*(v1*18446744073709551616+v0)<=(t2*18446744073709551616+t1)*18446744073709551616+t0:=by rw[I.qD];omega
 have a2:=Int.mul_le_mul_of_nonneg_right a1 (show 0<=p by omega);have a3:=Int.mul_le_mul_of_nonneg_left (Int.le_of_lt C.rQ) q0.1;have a4:q*((v1*18446744073709551616+v0+1)*p)=q*(v1*18446744073709551616+v0)*p+q*p:=by grind
 have a5:=Int.mul_le_mul_of_nonneg_right (show q<=18446744073709551616 by omega) (show 0<=p by omega);have a6:=Int.mul_le_mul_of_nonneg_right (show 18446744073709551616<=v1*18446744073709551616+v0 by omega) (show 0<=p by omega);have a7:=C.pW;have a8:=C.lo;rw[Int.sub_mul,Int.one_mul];omega
theorem gK.mF (C:iT t2 t1 t0 v1 v0 T V p)(I:gK t2 t1 v1 T V q r)(h:18446744073709551616<=r):(q-1)*V<=T:=by
 have q0:=I.q0;have w0:=C.w0;have h0:=C.h0;refine I.exit C ?_;have h3:=Int.mul_le_mul (a:=q) (b:=v0) (c:=18446744073709551615) (d:=18446744073709551615) (by omega) (by omega) w0.1 (by omega);omega
theorem iU {b:Int}{l:List Int}{n:Nat}(h:l.length=n+1):WV b l=WV b (l.take n)+b^n*l[n]! := by
 have:=eO (b:=b) (l:=l) (i:=n) (by omega);rwa [List.take_of_length_le (by omega)]at this
theorem iT.of {X V:List Int}{n:Nat}(hX:X.length=n+3)(hV:V.length=n+2)(oX:okW 18446744073709551616 X)(oV:okW 18446744073709551616 V)(hv:9223372036854775808<=V[n+1]!)(hT:WV 18446744073709551616 X<18446744073709551616*WV 18446744073709551616 V) :
 iT X[n+2]! X[n+1]! X[n]! V[n+1]! V[n]! (WV 18446744073709551616 X) (WV 18446744073709551616 V) (18446744073709551616^n):=by
 have x2:=bY oX (i:=n+2) (by omega);have x1:=bY oX (i:=n+1) (by omega);have x0:=bY oX (i:=n) (by omega);have v1:=bY oV (i:=n+1) (by omega);have v0:=bY oV (i:=n) (by omega);have eX:WV 18446744073709551616 X=WV 18446744073709551616 (X.take n)+((X[n+2]! * 18446744073709551616+X[n+1]!)*18446744073709551616+X[n]!)*18446744073709551616^n:=by
  rw[iU (n:=n+2) (by omega),eO (by omega),eO (by omega),Int.pow_succ,Int.pow_succ];grind
 have eV:WV 18446744073709551616 V=WV 18446744073709551616 (V.take n)+(V[n+1]! * 18446744073709551616+V[n]!)*18446744073709551616^n:=by
  rw[iU (n:=n+1) (by omega),eO (by omega),Int.pow_succ];grind
 have lX:=dr (b:=18446744073709551616) (by decide) (dm oX n);have lV:=dr (b:=18446744073709551616) (by decide) (dm oV n);have pX:=cn (b:=18446744073709551616) (by decide) (dm oX n);have pV:=cn (b:=18446744073709551616) (by decide) (dm oV n);rw[List.length_take,Nat.min_eq_left (by omega)]at lX lV;have hp:(0:Int)<18446744073709551616^n:=Int.pow_pos (by decide);refine⟨x2.1,x1,x0,⟨hv,v1.2⟩,v0,by omega,by omega,?_,by omega,?_,hT⟩
 . rw[Int.add_mul _ 1,Int.one_mul];omega
 . rw[Int.add_mul _ 1,Int.one_mul];omega
end Go.Ab.aY

/-
  Own work: words of integers: a digit of a quotient (Knuth's step): the loops.
-/
namespace Go.Ab.Ch1
open Go.Ab.aY
variable {M:ax} {cu cv:Option Nat}
def cU (hp:ab)(b:Nat)(e:TypeId)(P S X:List Int):ab:=hp.put b (some (.cells (ah (P++X++S)) e))
theorem Ic {hp:ab}{b:Nat}{e:TypeId}{P S X:List Int}:(cU hp b e P S X).length=hp.length:=fj
theorem BE {P X S:List Int}{i:Nat}(hi:i<X.length):(P++X++S)[P.length+i]! = X[i]! := by
 simp only[List.getElem!_eq_getElem?_getD];rw[List.append_assoc,List.getElem?_append_right (by omega),show P.length+i-P.length=i by omega,List.getElem?_append_left hi]
theorem Ie {P X S:List Int}{i:Nat}{v:Int}(hi:i<X.length):(P++X++S).set (P.length+i) v=P++X.set i v++S:=by
 rw[List.append_assoc,List.set_append_right _ _ (by omega),show P.length+i-P.length=i by omega,List.set_append_left _ _ hi,List.append_assoc]
section
variable {t bu bv m:Nat} {x y:aL} {l:List aU} {pe:List AV} {lo:List (Nat×AV)} {hp:ab} {df wr:List Nat} {P S X V Y:List Int} {e e':TypeId} {v:Int} {Q:ao->Prop}
theorem afI {i:Nat}(hx:(St.mk pe lo (cU hp bu e P S X) df).aa x=some (.ptr bu m))(hl:bu<hp.length)(hi:i<X.length)(hm:m=P.length+i)
 (h:WO M l ⟨⟨pe,(t,.uV X[i]!)::lo,cU hp bu e P S X,df⟩,wr⟩ Q):WO M (⟨.l t,.load 1 false x,none⟩::l) ⟨⟨pe,lo,cU hp bu e P S X,df⟩,wr⟩ Q:=by
 subst hm;refine afL (L:=P++X++S) (e:=e) hx (by unfold cU;exact dg hl) (by simp;omega) ?_;rw[BE hi];exact h
theorem vt {Y:Option bw}(hne:bu≠bv):(hp.put bu Y).at bv=hp.at bv:=by
 unfold ab.at ab.put;rw[List.getElem?_set_ne hne]
theorem afQ {i:Nat}(hx:(St.mk pe lo (cU hp bu e P S X) df).aa x=some (.ptr bv m))(hb:hp.at bv=some (.cells (ah (V++Y)) e'))(hne:bu≠bv)(hi:i<V.length)(hm:m=i)
 (h:WO M l ⟨⟨pe,(t,.uV V[i]!)::lo,cU hp bu e P S X,df⟩,wr⟩ Q):WO M (⟨.l t,.load 1 false x,none⟩::l) ⟨⟨pe,lo,cU hp bu e P S X,df⟩,wr⟩ Q:=by
 subst hm;refine afL (L:=V++Y) (e:=e') hx (by unfold cU;rw[vt hne];exact hb) (by rw[List.length_append];omega) ?_;have:(V++Y)[m]! = V[m]! := by
  simp only[List.getElem!_eq_getElem?_getD];rw[List.getElem?_append_left hi]
 rw[this];exact h
theorem afP {i:Nat}(hx:(St.mk pe lo (cU hp bu e P S X) df).aa x=some (.ptr bu m))(hy:(St.mk pe lo (cU hp bu e P S X) df).aa y=some (.uV v))(hl:bu<hp.length)(hi:i<X.length)(hm:m=P.length+i)
 (h:WO M l ⟨⟨pe,lo,cU hp bu e P S (X.set i v),df⟩,bu::wr⟩ Q):WO M (⟨.no,.store 1 x y,none⟩::l) ⟨⟨pe,lo,cU hp bu e P S X,df⟩,wr⟩ Q:=by
 subst hm;refine afH (L:=P++X++S) (e:=e) hx hy (by unfold cU;exact dg hl) (by simp;omega) ?_;rw[Ie hi];have:ab.put (cU hp bu e P S X) bu (some (.cells (ah (P++X.set i v++S)) e))=cU hp bu e P S (X.set i v):=by unfold cU;exact Hf
 rw[this];exact h
end
variable {bu bv k:Nat} {e e':TypeId} {hp:ab} {P S X V Y:List Int}
theorem Ig (C:mE M)(hl:bu<hp.length)(hne:bu≠bv)(hb:hp.at bv=some (.cells (ah (V++Y)) e'))(lk:k<10000000)(hX:X.length=k+3)(hV:V.length=k+2)
 {t2 t1 T D p:Int} (K:iT t2 t1 X[k]! V[k+1]! V[k]! T D p) {Q:Ex->ao->Prop} (a2 a9 aA aB aC aD aE aF aG aH aI aJ aK:AV) (wr:List Nat)
 (hQ:∀(q rh ov:Int) a7 a8 lo,(0<=q/\q<18446744073709551616)->T<(q+1)*D->(q-1)*D<=T ->
   Q (.exit 0) ⟨⟨[.sl bu P.length (k+3) 1 cu,.sl bv 0 (k+2) 1 cv,a2,.iV ((k+2:Nat):Int),.uV q,.uV rh,.uV ov,a7,a8,a9,aA,aB,aC,aD,aE,aF,aG,aH,aI,aJ,aK],lo,cU hp bu e P S X,[]⟩,wr⟩)
 (q rh ov:Int) (a7 a8:AV) (lo:List (Nat×AV)) (I:gK t2 t1 V[k+1]! T D q (rh+18446744073709551616*ov)) (hrh:0<=rh/\rh<18446744073709551616) (hov:0<=ov/\ov<=1) :
 W M (.loop BA) ⟨⟨[.sl bu P.length (k+3) 1 cu,.sl bv 0 (k+2) 1 cv,a2,.iV ((k+2:Nat):Int),.uV q,.uV rh,.uV ov,a7,a8,a9,aA,aB,aC,aD,aE,aF,aG,aH,aI,aJ,aK],lo,cU hp bu e P S X,[]⟩,wr⟩ Q:=by
 refine W.fE (fun m s=>∃q rh ov a7 a8 lo,s=⟨⟨[.sl bu P.length (k+3) 1 cu,.sl bv 0 (k+2) 1 cv,a2,.iV ((k+2:Nat):Int),.uV q,.uV rh,.uV ov,a7,a8,a9,aA,aB,aC,aD,aE,aF,aG,aH,aI,aJ,aK],lo,cU hp bu e P S X,[]⟩,wr⟩ /\
  m=q.toNat/\gK t2 t1 V[k+1]! T D q (rh+18446744073709551616*ov)/\(0<=rh/\rh<18446744073709551616)/\(0<=ov/\ov<=1)) (fun m s ⟨q,rh,ov,a7,a8,lo,hs,hm,I,hrh,hov⟩=>?_) (m:=q.toNat) ⟨q,rh,ov,a7,a8,lo,rfl,rfl,I,hrh,hov⟩
 subst hs;subst hm;have q0:=I.q0;have w0:=K.w0;have w1:=K.w1;have t0:=K.h0;unfold BA;by_cases ho:ov=0
 . subst ho;rw[Int.mul_zero,Int.add_zero]at I;have q244:=fun h=>C.nZ q V[k]! h q0 w0
   obtain⟨m,hm⟩:∃m,m=q*V[k]! := ⟨_,rfl⟩;have hmb:=vj q0 w0;rw[←hm]at q244 hmb;by_cases ht:m<=rh*18446744073709551616+X[k]!
   . have hfin:=I.exit K (by rw[←hm];exact ht);exact gg11
   . have I2:=I.dec K (by rw[←hm];omega);have q275:=fun h=>C.mD rh V[k+1]! 0 h (by omega) (by omega) (by decide) (by decide)
     have e1:(rh+V[k+1]! + 0)%18446744073709551616+18446744073709551616*((rh+V[k+1]! + 0)/18446744073709551616)=rh+V[k+1]! := by omega
     have i0:=I2.q0;exact gg11
 . have h1:ov=1:=by omega
   subst h1;have hfin:=I.mF K (by omega);exact gg11
theorem Ul (C:mE M)(hl:bu<hp.length)(hne:bu≠bv)(hb:hp.at bv=some (.cells (ah (V++Y)) e'))(lk:k<10000000)(hX:X.length=k+3)(oX:okW wB X)(hV:V.length=k+2)(oV:okW wB V)
 (q:Int) (q0:0<=q/\q<18446744073709551616) {Q:Ex->ao->Prop} (a2 a5 a6 a7 a8 aB aC aD aE aF aG aJ aK:AV) (lo:List (Nat×AV))
 (hQ:∀L (bo ca:Int) aB aC aD aE lo wr,L.length=k+3->okW wB L->L[k+2]! = X[k+2]! -> (0<=bo/\bo<=1)->(0<=ca/\ca<18446744073709551616)->(∀z∈wr,z=bu)->WV wB L=WV wB X-q*WV wB V+wB^(k+2)*(ca+bo) ->
   Q (.exit 2) ⟨⟨[.sl bu P.length (k+3) 1 cu,.sl bv 0 (k+2) 1 cv,a2,.iV ((k+2:Nat):Int),.uV q,a5,a6,a7,a8,.uV bo,.uV ca,aB,aC,aD,aE,aF,aG,.iV ((k+2:Nat):Int),.iV ((k+2:Nat):Int),aJ,aK],lo,cU hp bu e P S L,[]⟩,wr⟩) :
 W M (.loop rJ) ⟨⟨[.sl bu P.length (k+3) 1 cu,.sl bv 0 (k+2) 1 cv,a2,.iV ((k+2:Nat):Int),.uV q,a5,a6,a7,a8,.uV 0,.uV 0,aB,aC,aD,aE,aF,aG,.iV ((k+2:Nat):Int),.iV 0,aJ,aK],lo,cU hp bu e P S X,[]⟩,[]⟩ Q:=by
 refine W.iQ (k+2) (fun i s=>∃L bo ca aB aC aD aE lo wr,s=⟨⟨[.sl bu P.length (k+3) 1 cu,.sl bv 0 (k+2) 1 cv,a2,.iV ((k+2:Nat):Int),.uV q,a5,a6,a7,a8,.uV bo,.uV ca,aB,aC,aD,aE,aF,aG,.iV ((k+2:Nat):Int),.iV i,aJ,aK],lo,cU hp bu e P S L,[]⟩,wr⟩ /\
  L.length=k+3/\okW wB L/\L[k+2]! = X[k+2]! /\ (0<=bo/\bo<=1)/\(0<=ca/\ca<18446744073709551616)/\(∀z∈wr,z=bu)/\WV wB L=WV wB X-q*WV wB (V.take i)+wB^i*(ca+bo)) (fun i s hi ⟨L,bo,ca,aB,aC,aD,aE,lo,wr,hs,hL,oL,ht,hbo,hca,hw,hv⟩=>?_) (fun s ⟨L,bo,ca,aB,aC,aD,aE,lo,wr,hs,hL,oL,ht,hbo,hca,hw,hv⟩=>?_) (Nat.zero_le _)
  ⟨_,_,_,_,_,_,_,_,_,rfl,hX,oX,rfl,⟨by decide,by decide⟩,⟨by decide,by decide⟩,by simp,by simp[WV]⟩
 . subst hs;have gy:=bY oV (i:=i) (by omega);obtain⟨y,hy⟩:∃y,y=V[i]! := ⟨_,rfl⟩;rw[←hy]at gy;have gy:0<=y/\y<18446744073709551616:=gy;have gL:=bY oL (i:=i) (by omega);obtain⟨u,hu⟩:∃u,u=L[i]! := ⟨_,rfl⟩;rw[←hu]at gL;have gL:0<=u/\u<18446744073709551616:=gL;have q244:=fun h=>C.nZ q y h q0 gy
   have hm:=vj q0 gy;obtain⟨m,hmm⟩:∃m,m=q*y:=⟨_,rfl⟩;rw[←hmm]at q244 hm;have q275:=fun h=>C.mD (m%18446744073709551616) ca 0 h (by omega) hca.1 (by decide) (by decide)
   obtain⟨S1,hS1⟩:∃S1,S1=(m%18446744073709551616+ca+0)%18446744073709551616:=⟨_,rfl⟩;obtain⟨S2,hS2⟩:∃S2,S2=(m%18446744073709551616+ca+0)/18446744073709551616:=⟨_,rfl⟩;rw[←hS1,←hS2]at q275;obtain⟨D,hD⟩:∃D:Int,D=if u<S1+bo then 1 else 0:=⟨_,rfl⟩
   have q277:=fun h=>C.vi u S1 bo h gL.1 gL.2 (by omega) (by omega) hbo.1 hbo.2
   obtain⟨d,hd⟩:∃d,d=(u-S1-bo)%18446744073709551616:=⟨_,rfl⟩;rw[←hD,←hd]at q277;have hD2:0<=D/\D<=1/\u-S1-bo=d-18446744073709551616*D/\0<=d/\d<18446744073709551616:=by
    rw[hD];split <;> omega
   have hC2:(0<=m/18446744073709551616+S2/\m/18446744073709551616+S2<18446744073709551616)/\m+ca=S1+18446744073709551616*(m/18446744073709551616+S2):=by omega
   obtain⟨c2,hc2⟩:∃c2,c2=m/18446744073709551616+S2:=⟨_,rfl⟩;have next:∀aB aC aD aE lo,LI (fun s=>∃L bo ca aB aC aD aE lo wr,s=⟨⟨[.sl bu P.length (k+3) 1 cu,.sl bv 0 (k+2) 1 cv,a2,.iV ((k+2:Nat):Int),.uV q,a5,a6,a7,a8,.uV bo,.uV ca,aB,aC,aD,aE,aF,aG,.iV ((k+2:Nat):Int),.iV ((i+1:Nat):Int),aJ,aK],lo,cU hp bu e P S L,[]⟩,wr⟩ /\
    L.length=k+3/\okW wB L/\L[k+2]! = X[k+2]! /\ (0<=bo/\bo<=1)/\(0<=ca/\ca<18446744073709551616)/\(∀z∈wr,z=bu)/\WV wB L=WV wB X-q*WV wB (V.take (i+1))+wB^(i+1)*(ca+bo)) Q .normal ⟨⟨[.sl bu P.length (k+3) 1 cu,.sl bv 0 (k+2) 1 cv,a2,.iV ((k+2:Nat):Int),.uV q,a5,a6,a7,a8,.uV D,.uV (m/18446744073709551616+S2),aB,aC,aD,aE,aF,aG,.iV ((k+2:Nat):Int),.iV ((i:Int)+1),aJ,aK],lo,cU hp bu e P S (L.set i d),[]⟩,bu::wr⟩:=fun aB aC aD aE lo=>
    da ⟨_,_,_,aB,aC,aD,aE,lo,_,rfl,by rw[List.length_set];exact hL,fO oL hD2.2.2.2,by rw[gA (by omega)];exact ht,⟨hD2.1,hD2.2.1⟩,hC2.1,by simpa using hw,by
     rw[fP (by omega),←hu,eO (by omega),←hy,hv,Int.pow_succ];have e1:d-u=18446744073709551616*D+18446744073709551616*(m/18446744073709551616+S2)-q*y-ca-bo:=by rw[←hmm];omega
     rw[e1,←hc2];show _+wB^i*(18446744073709551616*D+18446744073709551616*c2-q*y-ca-bo)=_-_+wB^i*18446744073709551616*(c2+D);grind⟩
   rw[hy]at q244;rw[hu]at q277;unfold rJ;exact gg0
 . subst hs;rw[List.take_of_length_le (by omega)]at hv;unfold rJ;exact gg7
theorem Um (C:mE M)(hl:bu<hp.length)(hne:bu≠bv)(hb:hp.at bv=some (.cells (ah (V++Y)) e'))(lk:k<10000000)(hX:X.length=k+3)(oX:okW wB X)(hV:V.length=k+2)(oV:okW wB V)
 {Q:Ex->ao->Prop} (a2 a4 a5 a6 a7 a8 a9 aA aB aC aD aE aG aH aI:AV) (lo:List (Nat×AV)) (wr:List Nat) (hwr:∀z∈wr,z=bu)
 (hQ:∀L (ca:Int) aG lo wr,L.length=k+3->okW wB L->L[k+2]! = X[k+2]! -> (0<=ca/\ca<=1)->(∀z∈wr,z=bu)->WV wB L+wB^(k+2)*ca=WV wB X+WV wB V ->
   Q (.exit 4) ⟨⟨[.sl bu P.length (k+3) 1 cu,.sl bv 0 (k+2) 1 cv,a2,.iV ((k+2:Nat):Int),a4,a5,a6,a7,a8,a9,aA,aB,aC,aD,aE,.uV ca,aG,aH,aI,.iV ((k+2:Nat):Int),.iV ((k+2:Nat):Int)],lo,cU hp bu e P S L,[]⟩,wr⟩) :
 W M (.loop rK) ⟨⟨[.sl bu P.length (k+3) 1 cu,.sl bv 0 (k+2) 1 cv,a2,.iV ((k+2:Nat):Int),a4,a5,a6,a7,a8,a9,aA,aB,aC,aD,aE,.uV 0,aG,aH,aI,.iV ((k+2:Nat):Int),.iV 0],lo,cU hp bu e P S X,[]⟩,wr⟩ Q:=by
 refine W.iQ (k+2) (fun i s=>∃L ca aG lo wr,s=⟨⟨[.sl bu P.length (k+3) 1 cu,.sl bv 0 (k+2) 1 cv,a2,.iV ((k+2:Nat):Int),a4,a5,a6,a7,a8,a9,aA,aB,aC,aD,aE,.uV ca,aG,aH,aI,.iV ((k+2:Nat):Int),.iV i],lo,cU hp bu e P S L,[]⟩,wr⟩ /\
  L.length=k+3/\okW wB L/\L[k+2]! = X[k+2]! /\ (0<=ca/\ca<=1)/\(∀z∈wr,z=bu)/\WV wB L+wB^i*ca=WV wB X+WV wB (V.take i)) (fun i s hi ⟨L,ca,aG,lo,wr,hs,hL,oL,ht,hca,hw,hv⟩=>?_) (fun s ⟨L,ca,aG,lo,wr,hs,hL,oL,ht,hca,hw,hv⟩=>?_) (Nat.zero_le _)
  ⟨_,_,_,_,_,rfl,hX,oX,rfl,⟨by decide,by decide⟩,hwr,by simp[WV]⟩
 . subst hs;have gy:=bY oV (i:=i) (by omega);obtain⟨y,hy⟩:∃y,y=V[i]! := ⟨_,rfl⟩;rw[←hy]at gy;have gy:0<=y/\y<18446744073709551616:=gy;have gL:=bY oL (i:=i) (by omega);obtain⟨u,hu⟩:∃u,u=L[i]! := ⟨_,rfl⟩;rw[←hu]at gL;have gL:0<=u/\u<18446744073709551616:=gL;have q275:=fun h=>C.mD u y ca h gL.1 gy.1 hca.1 hca.2
   obtain⟨d,hd⟩:∃d,d=(u+y+ca)%18446744073709551616:=⟨_,rfl⟩;obtain⟨D,hD⟩:∃D,D=(u+y+ca)/18446744073709551616:=⟨_,rfl⟩;rw[←hD,←hd]at q275;have hD2:(0<=D/\D<=1)/\u+y+ca=d+18446744073709551616*D/\0<=d/\d<18446744073709551616:=by omega
   have next:∀aG lo,LI (fun s=>∃L ca aG lo wr,s=⟨⟨[.sl bu P.length (k+3) 1 cu,.sl bv 0 (k+2) 1 cv,a2,.iV ((k+2:Nat):Int),a4,a5,a6,a7,a8,a9,aA,aB,aC,aD,aE,.uV ca,aG,aH,aI,.iV ((k+2:Nat):Int),.iV ((i+1:Nat):Int)],lo,cU hp bu e P S L,[]⟩,wr⟩ /\
    L.length=k+3/\okW wB L/\L[k+2]! = X[k+2]! /\ (0<=ca/\ca<=1)/\(∀z∈wr,z=bu)/\WV wB L+wB^(i+1)*ca=WV wB X+WV wB (V.take (i+1))) Q .normal ⟨⟨[.sl bu P.length (k+3) 1 cu,.sl bv 0 (k+2) 1 cv,a2,.iV ((k+2:Nat):Int),a4,a5,a6,a7,a8,a9,aA,aB,aC,aD,aE,.uV D,aG,aH,aI,.iV ((k+2:Nat):Int),.iV ((i:Int)+1)],lo,cU hp bu e P S (L.set i d),[]⟩,bu::wr⟩:=fun aG lo=>
    da ⟨_,_,aG,lo,_,rfl,by rw[List.length_set];exact hL,fO oL hD2.2.2,by rw[gA (by omega)];exact ht,hD2.1,by simpa using hw,by
     rw[fP (by omega),←hu,eO (by omega),←hy,Int.pow_succ];have e1:d-u=y+ca-18446744073709551616*D:=by omega
     rw[e1];show WV wB L+wB^i*(y+ca-18446744073709551616*D)+wB^i*18446744073709551616*D=_;grind⟩
   rw[hy,hu]at q275;unfold rK;exact gg16
 . subst hs;rw[List.take_of_length_le (by omega)]at hv;unfold rK;exact gg7
end Go.Ab.Ch1

/-
  Own work: words of integers: a digit of a quotient (Knuth's step): the whole.
-/
namespace Go.Ab.Ch1
open Go.Ab.aY
variable {M:ax} {cu cv:Option Nat}
structure BF (M:ax):Prop extends mE M where
 BG:∀(hi lo y:Int) h,(0<y/\y<18446744073709551616)->(0<=hi/\hi<y)->(0<=lo/\lo<18446744073709551616)->M.ext 278 [.uV hi,.uV lo,.uV y] h=some ⟨.aq [.uV ((hi*18446744073709551616+lo)/y),.uV ((hi*18446744073709551616+lo)%y)],h,[]⟩
def t281:al:=
 zR [⟨(.p 9),.mv (kU 0),none⟩,
          ⟨(.p 10),.mv (kU 0),none⟩]
        (
         .seq (zR [⟨(.p 17),.mv (.p 3),none⟩,
            zi 18 0]
          (
           .block 2
           (.loop rJ)))
         (
          zR [zm 141 0,
            zm 142 3,
            zm 143 0,
            zm 144 3,
            za 145 1 143 144,
            zd 146 1 145,
            zm 147 10,
            zm 148 9,
            ⟨(.l 149),.call (kF 277) [(.l 146),(.l 147),(.l 148)],none⟩,
            zn 140 149,
            ze 150 0 140,
            ze 151 1 140,
            za 152 1 141 142,
            zS 1 152 150,
            zw 9 151]
          (
           .seq (zR [zm 153 9,
              ⟨(.l 154),.bin .eql (.l 153) (kU 0),none⟩]
            (
             .cond (.l 154)
             (
              zR [zm 155 4,
                zw 2 155]
              (.ret))
             (.skip)))
           (
            zR [⟨(.p 15),.mv (kU 0),none⟩]
            (
             .seq (zR [⟨(.p 19),.mv (.p 3),none⟩,
                zi 20 0]
              (
               .block 4
               (.loop rK)))
             (
              zR [zm 177 0,
                zm 178 3,
                za 179 1 177 178,
                zd 180 1 179,
                zm 181 15,
                zb 182 .add 180 181,
                za 183 1 177 178,
                zS 1 183 182]
              (
               zR [zm 184 4,
                 ⟨(.l 185),.bin .sub (.l 184) (kU 1),none⟩,
                 zw 2 185]
               (.ret))))))))
def pY (X V:List Int)(q:Int)(R:List Int):Prop:=(0<=q/\q<18446744073709551616)/\R.length=X.length/\okW wB R/\WV wB R=WV wB X-q*WV wB V/\WV wB R<WV wB V
theorem Un {X V L:List Int}{q ca bo d b:Int}{n:Nat}(hL:L.length=n+1)(oL:okW wB L)(hv:WV wB L=WV wB X-q*WV wB V+wB^n*(ca+bo))(hd:L[n]! - ca-bo=d-18446744073709551616*b)(hd2:0<=d/\d<18446744073709551616) :
 okW wB (L.set n d)/\WV wB (L.set n d)=WV wB X-q*WV wB V+wB^(n+1)*b:=by
 refine⟨fO oL hd2,?_⟩;rw[fP (by omega),hv,Int.pow_succ];have e:d-L[n]! = 18446744073709551616*b-ca-bo:=by omega
 rw[e];show _+wB^n*(18446744073709551616*b-ca-bo)=_-_+wB^n*18446744073709551616*b;grind
theorem Uo {X V R:List Int}{q:Int}(hR:R.length=X.length)(oR:okW wB R)(hq:0<=q/\q<18446744073709551616)(hv:WV wB R=WV wB X-q*WV wB V)(hge:WV wB X<(q+1)*WV wB V):pY X V q R:=by
 refine⟨hq,hR,oR,hv,?_⟩;rw[Int.add_mul,Int.one_mul]at hge;omega
theorem Up {X V R L:List Int}{q ca d:Int}{n:Nat}(oV:okW wB V)(hV:V.length=n)(hX:X.length=n+1)(oR:okW wB R)(hR:R.length=n+1)(hv:WV wB R=WV wB X-q*WV wB V+wB^(n+1))(h0:0<=WV wB X)(hle:(q-1)*WV wB V<=WV wB X)(hq:0<=q/\q<18446744073709551616)
 (hL:L.length=n+1) (oL:okW wB L) (ht:L[n]! = d) (hl:WV wB L+wB^n*ca=WV wB R+WV wB V) (hca:0<=ca/\ca<=1) :
 1<=q/\pY X V (q-1) (L.set n ((d+ca)%18446744073709551616)):=by
 have lR:=dr (b:=wB) (by decide) oR;rw[hR]at lR;have lV:=dr (b:=wB) (by decide) oV;rw[hV]at lV;have hp:wB^(n+1)=wB^n*18446744073709551616:=Int.pow_succ _ _;have hp0:0<wB^n:=Int.pow_pos (by decide);have q1:1<=q:=by
  rcases Int.lt_or_le 0 q with h|h
  . omega
  . obtain rfl:q=0:=by omega
    rw[Int.zero_mul]at hv;omega
 have gd:=bY oL (i:=n) (by omega);rw[ht]at gd;have gd:0<=d/\d<18446744073709551616:=gd;obtain⟨f,hf⟩:∃f,f=(d+ca)/18446744073709551616:=⟨_,rfl⟩;have hf2:(d+ca)%18446744073709551616-d=ca-18446744073709551616*f/\0<=f/\f<=1:=by omega
 have oN:okW wB (L.set n ((d+ca)%18446744073709551616)):=fO oL ⟨by omega,by show _<(18446744073709551616:Int);omega⟩;have eN:WV wB (L.set n ((d+ca)%18446744073709551616))=WV wB X-(q-1)*WV wB V+wB^(n+1)*(1-f):=by
  rw[fP (by omega),ht,hf2.1,hp];rw[hp]at hv;have e1:wB^n*(ca-18446744073709551616*f)=wB^n*ca-wB^n*18446744073709551616*f:=by rw[Int.mul_sub,Int.mul_assoc]
  have e2:wB^n*18446744073709551616*(1-f)=wB^n*18446744073709551616-wB^n*18446744073709551616*f:=by rw[Int.mul_sub,Int.mul_one]
  rw[e1,e2,Int.sub_mul,Int.one_mul];generalize wB^n*ca=z1 at *
  generalize wB^n*18446744073709551616*f=z2 at *
  generalize wB^n*18446744073709551616=z3 at *
  omega
 have lN:=dr (b:=wB) (by decide) oN;rw[List.length_set,hL]at lN;have f1:f=1:=by
  rcases Int.lt_or_le 0 f with h|h
  . omega
  . obtain rfl:f=0:=by omega
    rw[Int.sub_zero,Int.mul_one]at eN;omega
 subst f1;rw[Int.sub_self,Int.mul_zero,Int.add_zero]at eN;refine⟨q1,by omega,by rw[List.length_set];omega,oN,eN,?_⟩;rw[eN,Int.sub_mul,Int.one_mul];omega
variable {bu bv k:Nat} {e e':TypeId} {hp:ab} {P S X V Y:List Int}
theorem OB (C:mE M)(hl:bu<hp.length)(hne:bu≠bv)(hb:hp.at bv=some (.cells (ah (V++Y)) e'))(lk:k<10000000)(hX:X.length=k+3)(oX:okW wB X)(hV:V.length=k+2)(oV:okW wB V)
 (q:Int) (q0:0<=q/\q<18446744073709551616) (hge:WV wB X<(q+1)*WV wB V) (hle:(q-1)*WV wB V<=WV wB X) (a2 a5 a6 a7 a8 a9 aA aB aC aD aE aF aG aH aI aJ aK:AV) (lo:List (Nat×AV)) :
 W M t281 ⟨⟨[.sl bu P.length (k+3) 1 cu,.sl bv 0 (k+2) 1 cv,a2,.iV ((k+2:Nat):Int),.uV q,a5,a6,a7,a8,a9,aA,aB,aC,aD,aE,aF,aG,aH,aI,aJ,aK],lo,cU hp bu e P S X,[]⟩,[]⟩
  (fun x s=>(x = .normal\/x = .ret)/\s.s.bX=[]/\∃vs,de s.s [.var (.p 2)]=some vs/\∃q R,pY X V q R/\s.s.hp=cU hp bu e P S R/\(∀z∈s.wr,z=bu)/\aV vs = .uV q):=by
 have hX0:=cn (b:=wB) (by decide) oX;unfold t281;refine gg3 ?_;refine Ul C hl hne hb lk hX oX hV oV q q0 _ _ _ _ _ _ _ _ _ _ _ _ _ _ (fun L bo ca aB aC aD aE lo wr hL oL ht hbo hca hw hv=>?_);have gt:=bY oL (i:=k+2) (by omega);obtain⟨t,htt⟩:∃t,t=L[k+2]! := ⟨_,rfl⟩;rw[←htt]at gt;have gt:0<=t/\t<18446744073709551616:=gt;obtain⟨b,hbb⟩:∃b:Int,b=if t<ca+bo then 1 else 0:=⟨_,rfl⟩
 obtain⟨d,hd⟩:∃d,d=(t-ca-bo)%18446744073709551616:=⟨_,rfl⟩;have q277:=fun h=>C.vi t ca bo h gt.1 gt.2 hca.1 hca.2 hbo.1 hbo.2
 rw[←hbb,←hd]at q277;have hb2:(b=0\/b=1)/\t-ca-bo=d-18446744073709551616*b/\0<=d/\d<18446744073709551616:=by
  rw[hbb];split <;> omega
 obtain⟨oR,vR⟩:=Un hL oL hv (by rw[←htt];exact hb2.2.1) hb2.2.2;obtain⟨R,hR⟩:∃R,R=L.set (k+2) d:=⟨_,rfl⟩;have lR:R.length=k+3:=by rw[hR,List.length_set];exact hL
 have tR:R[k+2]! = d:=by rw[hR];exact ve (by omega)
 rw[←hR]at oR vR;have hw2:∀z∈bu::wr,z=bu:=by simpa using hw
 rw[htt]at q277;rcases hb2.1 with rfl|rfl
 . rw[Int.mul_zero,Int.add_zero]at vR;have fin:=Uo (X:=X) (V:=V) (by omega) oR q0 vR hge;rw[hR]at fin;exact gg0
 . rw[Int.mul_one]at vR;have back:=fun (L':List Int) (ca:Int) h1 h2 h3 h4 h5=>Up (X:=X) (V:=V) (R:=R) (L:=L') (q:=q) (ca:=ca) (d:=d) (n:=k+2) oV hV hX oR lR vR hX0 hle q0 h1 h2 h3 h4 h5
   rw[hR]at lR oR tR back;refine gg15 ?_;refine Um C hl hne hb lk lR oR hV oV _ _ _ _ _ _ _ _ _ _ _ _ _ _ _ _ _ hw2 (fun L' c2 aG lo wr hL' oL' ht' hc2 hw' hv'=>?_);rw[tR]at ht';obtain⟨q1,fin⟩:=back L' c2 hL' oL' ht' hv' hc2;rw[←ht']at fin;have hw3:∀z∈bu::wr,z=bu:=by simpa using hw'
   exact gg8
theorem Uq {n:Nat}{v:AV}{s:ao}(hh:s.s.hp.length=n):dR v n s=⟨v,s.s.hp,s.wr.filter (· < n)⟩:=by
 unfold dR;split
 . rw[List.take_of_length_le (by omega)]
 . rfl
theorem Ur (C:BF M)(hl:bu<hp.length)(hne:bu≠bv)(hb:hp.at bv=some (.cells (ah (V++Y)) e'))(lk:k<10000000)(hX:X.length=k+3)(oX:okW wB X)(hV:V.length=k+2)(oV:okW wB V)(hv:9223372036854775808<=V[k+1]!)(hT:WV wB X<wB*WV wB V) :
 ∃q R,pY X V q R/\∃wr,(∀z∈wr,z=bu)/\aT M 281 [.sl bu P.length (k+3) 1 cu,.sl bv 0 (k+2) 1 cv] (cU hp bu e P S X) ⟨.uV q,cU hp bu e P S R,wr⟩:=by
 have K:=iT.of hX hV oX oV hv hT;have h1:=K.h1;have w1:=K.w1;have h2:=K.h2;have key:=ir.rC (M:=M) (f:=281) (ars:=[.sl bu P.length (k+3) 1 cu,.sl bv 0 (k+2) 1 cv]) (h:=cU hp bu e P S X) (K:=fun hr=>∃q R,pY X V q R/\∃wr,(∀z∈wr,z=bu)/\hr=⟨.uV q,cU hp bu e P S R,wr⟩) (by rw[C.ft];exact Tx) (by simp) (by
  refine W.mono (Q:=fun x s=>(x = .normal\/x = .ret)/\s.s.bX=[]/\∃vs,de s.s [.var (.p 2)]=some vs/\∃q R,pY X V q R/\s.s.hp=cU hp bu e P S R/\(∀z∈s.wr,z=bu)/\aV vs = .uV q) ?_ (fun x s ⟨g1,g2,vs,g3,q,R,g4,g5,g6,g7⟩=>⟨g1,s,by rw[g2];rfl,vs,g3,q,R,g4,s.wr.filter (· < (cU hp bu e P S X).length),fun z hz=>g6 z (List.mem_filter.1 hz).1,by rw[Uq (by rw[g5,Ic,Ic]),g5,g7]⟩);unfold HI;simp only[enter];by_cases h:V[k+1]! <= X[k+2]!
  . have I:=gK.Uj K h;have q275:=fun h=>C.mD X[k+1]! V[k+1]! 0 h h1.1 (by omega) (by decide) (by decide)
    have e1:(X[k+1]! + V[k+1]! + 0)%18446744073709551616+18446744073709551616*((X[k+1]! + V[k+1]! + 0)/18446744073709551616)=X[k+1]! + V[k+1]! := by omega
    rw[←e1]at I;refine gg18 ?_;refine Ig C.tomE hl hne hb lk hX hV K _ _ _ _ _ _ _ _ _ _ _ _ _ _ (fun q rh ov a7 a8 lo g1 g2 g3=>?_) _ _ _ _ _ _ I (by omega) (by omega);exact gg8
  . have I:=gK.Uk K (by omega);have q278:=fun h=>C.BG X[k+2]! X[k+1]! V[k+1]! h (by omega) (by omega) h1
    have r0:=Int.emod_nonneg (X[k+2]! * 18446744073709551616+X[k+1]!) (show V[k+1]! ≠ 0 by omega);have r1:=Int.emod_lt_of_pos (X[k+2]! * 18446744073709551616+X[k+1]!) (show 0<V[k+1]! by omega);rw[←Int.add_zero ((X[k+2]! * 18446744073709551616+X[k+1]!)%V[k+1]!),←Int.mul_zero 18446744073709551616]at I;refine gg18 ?_;refine Ig C.tomE hl hne hb lk hX hV K _ _ _ _ _ _ _ _ _ _ _ _ _ _ (fun q rh ov a7 a8 lo g1 g2 g3=>?_) _ _ _ _ _ _ I ⟨r0,by omega⟩ (by decide);exact gg8
  )
 obtain⟨r,h1,q,R,h2,wr,h3,rfl⟩:=key;exact⟨q,R,h2,wr,h3,h1⟩
end Go.Ab.Ch1

/-
  Own work: words of integers: a step of a division, seen from the whole dividend; parts of a block.
-/
namespace Go.Ab.Ch1
open Go.Ab.aY
variable {M:ax} {cu cv:Option Nat}
theorem agZ {t n b:Nat}{k k':IntKind}{x y z:aL}{l:List aU}{pe:List AV}{lo:List (Nat×AV)}{hp:ab}{df wr:List Nat}{i j:Int}{Q:ao->Prop}(i' r:Nat)(hx:(St.mk pe lo hp df).aa x=some (.sl b 0 n 1 (some n)))(hy:(St.mk pe lo hp df).aa y=some (.int k i))(hz:(St.mk pe lo hp df).aa z=some (.int k' j))
 (hi:i=i') (hj:j=i'+r) (hr:0<r) (hn:i'+r<=n)
 (h:WO M l ⟨⟨pe,(t,.sl b i' r 1 (some (n-i')))::lo,hp,df⟩,wr⟩ Q):WO M (⟨.l t,.slice .sl 1 x (some y) (some z) none,none⟩::l) ⟨⟨pe,lo,hp,df⟩,wr⟩ Q:=by
 subst hi;have ej:j=((i'+r:Nat):Int):=by omega
 subst ej;refine aab (v:=.sl b i' r 1 (some (n-i'))) ?_ rfl h;have h1:(0:Int)<=((i'+r:Nat):Int)/\((i'+r:Nat):Int)<=(n:Int):=by omega
 have h2:(0:Int)<=(i':Int)/\(i':Int)<=((i'+r:Nat):Int):=by omega
 simp only[aW,hx,St.cZ,hy,hz,Option.map_some,jc,bM,Option.isNone_none,Option.isSome_some,Bool.true_or,if_true,Option.getD_some,if_pos h1,Int.toNat_natCast,if_pos h2,Nat.mul_one,Nat.zero_add];rw[if_pos (by omega),show i'+r-i'=r by omega]
structure BH (M:ax):Prop extends BF M where
 rR:∀ars h,M.ext 280 ars h=none
 vu:∀ars h,M.ext 281 ars h=none
variable {bu bv k j:Nat} {e e':TypeId} {hp:ab} {U V Y:List Int}
theorem Us (C:BH M)(hU:hp.at bu=some (.cells (ah U) e))(hne:bu≠bv)(hb:hp.at bv=some (.cells (ah (V++Y)) e'))(lk:k<10000000)(hj:j+(k+3)<=U.length)(oU:okW wB U)(hV:V.length=k+2)(oV:okW wB V)(hv:9223372036854775808<=V[k+1]!)(hup:WV wB (U.drop (j+1))<WV wB V) :
 ∃q U',(0<=q/\q<18446744073709551616)/\U'.length=U.length/\okW wB U'/\WV wB U'=WV wB U-wB^j*(q*WV wB V)/\WV wB (U'.drop j)<WV wB V/\∃wr,(∀z∈wr,z=bu)/\CT M (.fn (.func 281) [] []) [.sl bu j (k+3) 1 cu,.sl bv 0 (k+2) 1 cv] hp ⟨.uV q,hp.put bu (some (.cells (ah U') e)),wr⟩:=by
 obtain⟨P,hP⟩:∃P,P=U.take j:=⟨_,rfl⟩;obtain⟨X,hX⟩:∃X,X=(U.drop j).take (k+3):=⟨_,rfl⟩;obtain⟨S,hS⟩:∃S,S=U.drop (j+(k+3)):=⟨_,rfl⟩;have eU:U=P++X++S:=by
  rw[hP,hX,hS,List.append_assoc,←List.drop_drop,List.take_append_drop,List.take_append_drop]
 have lP:P.length=j:=by rw[hP,List.length_take];omega
 have lX:X.length=k+3:=by rw[hX,List.length_take,List.length_drop];omega
 have oX:okW wB X:=by rw[hX];exact dm (iR oU _) _
 have oS:okW wB S:=by rw[hS];exact iR oU _
 have oP:okW wB P:=by rw[hP];exact dm oU _
 have eD:U.drop j=X++S:=by rw[eU,←lP,List.append_assoc,List.drop_left]
 have hl:bu<hp.length:=eo hU;have gj:=bY oU (i:=j) (by omega);have d1:=nW (b:=wB) (l:=U) (i:=j) (by omega);have lt:=dr (b:=wB) (by decide) oV;rw[hV]at lt;have hpow:(0:Int)<wB^(k+2):=Int.pow_pos (by decide);have hS0:WV wB S=0:=by
  have h1:WV wB (U.drop (j+1))=WV wB ((U.drop (j+1)).take (k+2))+wB^(k+2)*WV wB S:=by
   have:=lj (b:=wB) (l:=U.drop (j+1)) (i:=k+2) (by rw[List.length_drop];omega);rwa [List.drop_drop,show j+1+(k+2)=j+(k+3) by omega,←hS]at this
  have h2:=cn (b:=wB) (by decide) (dm (iR oU (j+1)) (k+2));have h3:=cn (b:=wB) (by decide) oS;rcases Int.lt_or_le 0 (WV wB S) with h|h
  . have:=Int.mul_le_mul_of_nonneg_left (show 1<=WV wB S by omega) (Int.le_of_lt hpow);omega
  . omega
 have hXD:WV wB X=WV wB (U.drop j):=by rw[eD,fF,hS0,Int.mul_zero,Int.add_zero]
 have hT:WV wB X<wB*WV wB V:=by
  rw[hXD,d1];have gj:0<=U[j]! /\ U[j]! < 18446744073709551616:=gj;show _+18446744073709551616*_<18446744073709551616*_;omega
 obtain⟨q,R,⟨hq,lR,oR,vR,tR⟩,wr,hw,hrun⟩:=Ur (cu:=cu) (cv:=cv) (P:=P) (S:=S) (e:=e) C.toBF hl hne hb lk lX oX hV oV hv hT;refine⟨q,P++R++S,hq,?_,jg (jg oP oR) oS,?_,?_,wr,hw,?_⟩
 . rw[eU];simp[lR]
 . rw[eU,List.append_assoc,fF,fF,List.append_assoc,fF,fF,vR,lR,lP,Int.mul_add,Int.mul_add,Int.mul_sub];omega
 . rw[←lP,List.append_assoc,List.drop_left,fF,hS0,Int.mul_zero,Int.add_zero];exact tR
 . rw[lP]at hrun;have e1:cU hp bu e P S X=hp:=by unfold cU;rw[←eU];exact Hg hU
   rw[e1]at hrun;exact CT.run (fi:=[]) (ca:=[]) (C.vu _ _) hrun
end Go.Ab.Ch1

/-
  Own work: words of integers: quotient and rest: what is handed back; a divisor of one word.
-/
namespace Go.Ab.Ch1
open Go.Ab.aY
variable {M:ax} {cap c1 c2:Option Nat}
def db (x:AV)(l:List Int):Prop:=x = .vs (ah l) l.length none\/(x = .ae/\l=[])
def jR (v:AV)(hh:ab)(q r:List Int):Prop:=∃v1 x y,eM hh v v1/\v1.top=0/\bK v1 = .aq [x,y]/\db x q/\db y r
theorem lS (l:List Int):cJ (ah l)=ah l:=AT (fun _=>rfl) l
theorem Ih {b:Nat}{L:List Int}{e:TypeId}{hp:ab}{n:Nat}(hb:hp.at b=some (.cells (ah L) e))(hn:n<=L.length)(hh:ab)(he:(bz b (aN (L.take n)) cap).top≠0->hh=hp) :
 ∃v1,eM hh (bz b (aN (L.take n)) cap) v1/\v1.top=0/\bK v1 = .vs (ah (L.take (aN (L.take n)))) (L.take (aN (L.take n))).length none:=by
 have hle:=hZ (l:=L.take n);rw[List.length_take]at hle;obtain⟨k,hk⟩:∃k,k=aN (L.take n):=⟨_,rfl⟩;rw[←hk]at hle he ⊢;by_cases h0:0<k
 . have e1:bz b k cap = .sl b 0 k 1 cap:=if_pos h0;rw[e1]at he ⊢;obtain rfl:=he (by simp[AV.top]);have hl:(L.take k).length=k:=by rw[List.length_take];omega
   have hF:eM hh (.sl b 0 k 1 cap) (.vs (ah (L.take k)) k none):=by
    refine .sl (m:=ah (L.take k)) hb ?_ rfl (fun i x y hx hy=>?_)
    . have:=ke (f:=uC) (esz:=1) (fun _=>rfl) (l:=L) (i:=0) (n:=k) (by omega);simpa using this
    . rw[hx]at hy;cases hy;exact .same (cF (fV _) hx)
   rw[hl];exact⟨_,hF,fV _,by rw[bK,lS]⟩
 . obtain rfl:k=0:=by omega
   exact⟨.vs [] 0 cap,.same rfl,rfl,rfl⟩
theorem jR.trim {d1 d2:Option Nat}{b1 b2:Nat}{L1 L2:List Int}{e1 e2:TypeId}{hp:ab}{n1 n2:Nat}(h1:hp.at b1=some (.cells (ah L1) e1))(hn1:n1<=L1.length)(h2:hp.at b2=some (.cells (ah L2) e2))(hn2:n2<=L2.length) :
 jR (aV [bz b1 (aN (L1.take n1)) d1,bz b2 (aN (L2.take n2)) d2]) (if (aV [bz b1 (aN (L1.take n1)) d1,bz b2 (aN (L2.take n2)) d2]).top<=0 then [] else hp) (L1.take (aN (L1.take n1))) (L2.take (aN (L2.take n2))):=by
 obtain⟨x,hx⟩:∃x,x=bz b1 (aN (L1.take n1)) d1:=⟨_,rfl⟩;obtain⟨y,hy⟩:∃y,y=bz b2 (aN (L2.take n2)) d2:=⟨_,rfl⟩;obtain⟨hh,hhh⟩:∃hh,hh=(if (aV [x,y]).top<=0 then [] else hp):=⟨_,rfl⟩;have et:(aV [x,y]).top=max x.top (max y.top 0):=rfl;obtain⟨v1,f1,t1,k1⟩:=Ih (cap:=d1) h1 hn1 hh (fun h=>by rw[hhh,if_neg];rw[←hx]at h;omega);obtain⟨v2,f2,t2,k2⟩:=Ih (cap:=d2) h2 hn2 hh (fun h=>by rw[hhh,if_neg];rw[←hy]at h;omega);rw[←hx,←hy,←hhh];rw[←hx]at f1;rw[←hy]at f2;refine⟨.aq [v1,v2],_,_,.aq rfl (fun i a b ha hb=>?_),?_,?_,.inl rfl,.inl rfl⟩
 . match i with
   | 0=>cases ha;cases hb;exact f1
   | 1=>cases ha;cases hb;exact f2
   | i+2=>cases ha
 . simp[AV.top,bk,t1,t2]
 . simp only[bK,cJ,k1,k2]
theorem jR.less {hh:ab}{l:List Int}:jR (aV [.ae,.vs (ah l) l.length cap]) hh [] l:=by
 have ht:(aV [.ae,.vs (ah l) l.length cap]).top=0:=by simp[aV,AV.top,bk,fV l]
 refine⟨aV [.ae,.vs (ah l) l.length cap],.ae,.vs (ah l) l.length none,.same ht,ht,?_,.inr ⟨rfl,rfl⟩,.inl rfl⟩;simp only[aV,bK,cJ,lS l]
def rS (M:ax)(g:Nat)(ars:List AV)(x y:Int):Prop:=∃q r:List Int,(okW wB q/\az q/\WV wB q=x/y)/\(okW wB r/\az r/\WV wB r=x%y)/\∃v hh,jR v hh q r/\aT M g ars [] ⟨v,hh,[]⟩
theorem Ii {f N:Nat}{aO:List Nat}{res:List ew}{body:al}{ars:List AV}{x y:Int}(hft:M.FT f=some ⟨N,aO,res,body⟩)(hN:ars.length<=N)
 (h:W M body ⟨⟨aO.map (fun t=>(ars[t]?).getD cB),[],[],[]⟩,[]⟩ fun e s=>(e = .normal\/e = .ret)/\s.s.bX=[]/\∃vs,de s.s res=some vs/\∃q r:List Int,(okW wB q/\az q/\WV wB q=x/y)/\(okW wB r/\az r/\WV wB r=x%y)/\jR (aV vs) (if (aV vs).top<=0 then [] else s.s.hp) q r):rS M f ars x y:=by
 obtain⟨v,hh,⟨q,r,hq,hr,ho⟩,h2⟩:=fZ (P:=fun v hh=>∃q r:List Int,(okW wB q/\az q/\WV wB q=x/y)/\(okW wB r/\az r/\WV wB r=x%y)/\jR v hh q r) hft hN h;exact⟨q,r,hq,hr,v,hh,ho,h2⟩
structure BI (M:ax):Prop extends BH M where
 pZ:∀(a b:List Int) c1 c2 h,okW wB a->okW wB b->az a->az b->a.length<1000000000->b.length<1000000000->M.ext 250 [.vs (ah a) a.length c1,.vs (ah b) b.length c2] h=some ⟨.iV (bD (WV wB a-WV wB b)),h,[]⟩
 vo:∀(y:Int) h,(0<=y/\y<18446744073709551616)->M.ext 279 [.uV y] h=some ⟨.iV (64-cj y:Nat),h,[]⟩
theorem mG {x y q r:Int}(h:x=y*q+r)(h0:0<=r)(h1:r<y):q=x/y/\r=x%y:=by
 subst h;refine⟨?_,?_⟩
 . rw[Int.add_comm,Int.add_mul_ediv_left _ _ (by omega),Int.ediv_eq_zero_of_lt h0 h1,Int.zero_add]
 . rw[Int.add_comm,Int.add_mul_emod_self_left,Int.emod_eq_of_lt h0 h1]
theorem Ij (C:BF M)(a b:List Int)(oa:okW wB a)(ob:okW wB b)(la:a.length<10000000)(lb:b.length=1)(hb0:0<b[0]!){Q:Ex->ao->Prop}(a2 a3 a7 a8 a9 aA aB aC aD aE aF:AV)(lo:List (Nat×AV))
 (hQ:∀L (re:Int) lo wr,L.length=a.length->okW wB L->(0<=re/\re<b[0]!)->WV wB a=b[0]! * WV wB L+re ->
   Q (.exit 0) ⟨⟨[.vs (ah a) a.length c1,.vs (ah b) b.length c2,a2,a3,.sl 0 0 a.length 1 (some a.length),.uV re,.iV (-1),a7,a8,a9,aA,aB,aC,aD,aE,aF],lo,[some (.cells (ah L) 246)],[]⟩,wr⟩) :
 W M (.loop uQ) ⟨⟨[.vs (ah a) a.length c1,.vs (ah b) b.length c2,a2,a3,.sl 0 0 a.length 1 (some a.length),.uV 0,.iV ((a.length:Int)-1),a7,a8,a9,aA,aB,aC,aD,aE,aF],lo,[some (.cells (ah (List.replicate a.length 0)) 246)],[]⟩,[]⟩ Q:=by
 refine W.fE (fun t s=>∃L re iv lo wr,s=⟨⟨[.vs (ah a) a.length c1,.vs (ah b) b.length c2,a2,a3,.sl 0 0 a.length 1 (some a.length),.uV re,.iV iv,a7,a8,a9,aA,aB,aC,aD,aE,aF],lo,[some (.cells (ah L) 246)],[]⟩,wr⟩ /\
  iv=(t:Int)-1/\t<=a.length/\L.length=a.length/\okW wB L/\(0<=re/\re<b[0]!)/\(∀k,k<t->L[k]! = 0)/\WV wB a=b[0]! * WV wB L+wB^t*re+WV wB (a.take t)) (fun t s ⟨L,re,iv,lo,wr,hs,hiv,ht,hL,oL,hre,hz,hv⟩=>?_) (m:=a.length)
  ⟨_,_,_,_,_,rfl,rfl,Nat.le_refl _,by simp,kf (by decide),⟨by decide,hb0⟩,fun k _=>kj,by rw[kh,List.take_length];simp⟩
 subst hs;cases t with
 | zero=>
  obtain rfl:iv = -1:=by omega
  unfold uQ;exact gg4
 | succ i=>
  obtain rfl:iv=(i:Int):=by omega
  have gx:=bY oa (i:=i) (by omega);obtain⟨x,hx⟩:∃x,x=a[((i:Int)).toNat]! := ⟨_,rfl⟩;rw[show a[i]! = x from hx.symm]at gx;have gx:0<=x/\x<18446744073709551616:=gx;have gy:=bY ob (i:=0) (by omega);obtain⟨y,hy⟩:∃y,y=b[(0:Int).toNat]! := ⟨_,rfl⟩;rw[show b[0]! = y from hy.symm]at gy hre hb0 hv hQ;have gy:0<=y/\y<18446744073709551616:=gy;have q278:=fun h=>C.BG re x y h ⟨hb0,gy.2⟩ hre gx
  have e1:=Int.mul_ediv_add_emod (re*18446744073709551616+x) y;have r0:=Int.emod_nonneg (re*18446744073709551616+x) (show y≠0 by omega);have r1:=Int.emod_lt_of_pos (re*18446744073709551616+x) hb0;have d0:0<=(re*18446744073709551616+x)/y:=Int.ediv_nonneg (by omega) (by omega);have d1:(re*18446744073709551616+x)/y<18446744073709551616:=Int.ediv_lt_of_lt_mul (by omega) (by omega);obtain⟨d,hd⟩:∃d,d=(re*18446744073709551616+x)/y:=⟨_,rfl⟩;obtain⟨r,hr⟩:∃r,r=(re*18446744073709551616+x)%y:=⟨_,rfl⟩;rw[←hd,←hr]at q278 e1;rw[←hd]at d0 d1;rw[←hr]at r0 r1;have eI:0+((i:Int)).toNat*1=i:=by omega
  have next:∀lo wr,LI (fun s=>∃m',m'<i+1/\∃L re iv lo wr,s=⟨⟨[.vs (ah a) a.length c1,.vs (ah b) b.length c2,a2,a3,.sl 0 0 a.length 1 (some a.length),.uV re,.iV iv,a7,a8,a9,aA,aB,aC,aD,aE,aF],lo,[some (.cells (ah L) 246)],[]⟩,wr⟩ /\
   iv=(m':Int)-1/\m'<=a.length/\L.length=a.length/\okW wB L/\(0<=re/\re<b[0]!)/\(∀k,k<m'->L[k]! = 0)/\WV wB a=b[0]! * WV wB L+wB^m'*re+WV wB (a.take m')) Q .normal ⟨⟨[.vs (ah a) a.length c1,.vs (ah b) b.length c2,a2,a3,.sl 0 0 a.length 1 (some a.length),.uV r,.iV ((i:Int)-1),a7,a8,a9,aA,aB,aC,aD,aE,aF],lo,[some (.cells (ah (L.set i d)) 246)],[]⟩,wr⟩:=fun lo wr=>
   da ⟨i,Nat.lt_succ_self i,_,_,_,lo,wr,rfl,rfl,by omega,by rw[List.length_set];exact hL,fO oL ⟨d0,d1⟩,⟨r0,by rw[show b[0]! = y from hy.symm];exact r1⟩,fun k hk=>by rw[gA (by omega)];exact hz k (by omega),by
    rw[show b[0]! = y from hy.symm,hv,fP (by omega),hz i (by omega),eO (by omega),show a[i]! = x from hx.symm,Int.pow_succ,Int.sub_zero];have e2:wB^i*wB*re+wB^i*x=wB^i*(y*d+r):=by rw[e1];show wB^i*18446744073709551616*re+_=_;grind
    rw[Int.mul_add]at e2 ⊢;have e3:y*(wB^i*d)=wB^i*(y*d):=by grind
    rw[e3];omega⟩
  rw[hx,hy]at q278;unfold uQ;exact gg16
end Go.Ab.Ch1

/-
  Own work: words of integers: quotient and rest: the loops of long division.
-/
namespace Go.Ab.Ch1
open Go.Ab.aY
variable {M:ax} {cap c1 c2 cv:Option Nat}
theorem afR {t b m:Nat}{x:aL}{l:List aU}{pe:List AV}{lo:List (Nat×AV)}{hp:ab}{df wr:List Nat}{L:List Int}{e:TypeId}{v:Int}{Q:ao->Prop}(hx:(St.mk pe lo hp df).aa x=some (.ptr b m))(hb:hp.at b=some (.cells (ah L) e))(hi:m<L.length)(hv:L[m]! = v)
 (h:WO M l ⟨⟨pe,(t,.uV v)::lo,hp,df⟩,wr⟩ Q):WO M (⟨.l t,.load 1 false x,none⟩::l) ⟨⟨pe,lo,hp,df⟩,wr⟩ Q:=by
 subst hv;exact afL hx hb hi h
theorem Ut (C:BH M){k N:Nat}{V Y U0:List Int}(lN:N<10000000)(hN:k+3<=N)(hV:V.length=k+2)(oV:okW wB V)(hv:9223372036854775808<=V[k+1]!)(hU0:U0.length=N)(oU0:okW wB U0)(hup:WV wB (U0.drop (N-(k+2)))<WV wB V){Q:Ex->ao->Prop}(a0 a1 a2 a3 a4 a5 a6 a7 aD aE aF:AV)(lo:List (Nat×AV))(wr:List Nat)
 (hQ:∀U L lo wr,U.length=N->okW wB U->L.length=N-(k+2)->okW wB L->WV wB U0=WV wB V*WV wB L+WV wB U->WV wB U<WV wB V ->
   Q (.exit 2) ⟨⟨[a0,a1,a2,a3,a4,a5,a6,a7,.sl 0 0 (k+2) 1 cv,.sl 1 0 N 1 (some N),.iV ((k+2:Nat):Int),.sl 2 0 (N-(k+2)) 1 cap,.iV (-1),aD,aE,aF],lo,[some (.cells (ah (V++Y)) 246),some (.cells (ah U) 246),some (.cells (ah L) 246)],[]⟩,wr⟩)
 (j:Int) (hj:j=(N:Int)-(k+3)) :
 W M (.loop uR) ⟨⟨[a0,a1,a2,a3,a4,a5,a6,a7,.sl 0 0 (k+2) 1 cv,.sl 1 0 N 1 (some N),.iV ((k+2:Nat):Int),.sl 2 0 (N-(k+2)) 1 cap,.iV j,aD,aE,aF],lo,[some (.cells (ah (V++Y)) 246),some (.cells (ah U0) 246),some (.cells (ah (List.replicate (N-(k+2)) 0)) 246)],[]⟩,wr⟩ Q:=by
 refine W.fE (fun t s=>∃U L iv lo wr,s=⟨⟨[a0,a1,a2,a3,a4,a5,a6,a7,.sl 0 0 (k+2) 1 cv,.sl 1 0 N 1 (some N),.iV ((k+2:Nat):Int),.sl 2 0 (N-(k+2)) 1 cap,.iV iv,aD,aE,aF],lo,[some (.cells (ah (V++Y)) 246),some (.cells (ah U) 246),some (.cells (ah L) 246)],[]⟩,wr⟩ /\
  iv=(t:Int)-1/\t<=N-(k+2)/\U.length=N/\okW wB U/\L.length=N-(k+2)/\okW wB L/\(∀k,k<t->L[k]! = 0)/\WV wB U0=WV wB V*WV wB L+WV wB U/\WV wB (U.drop t)<WV wB V) (fun t s ⟨U,L,iv,lo,wr,hs,hiv,ht,hU,oU,hL,oL,hz,hv1,hv2⟩=>?_) (m:=N-(k+2))
  ⟨_,_,_,_,_,rfl,by omega,Nat.le_refl _,hU0,oU0,by simp,kf (by decide),fun k _=>kj,by rw[kh,Int.mul_zero,Int.zero_add],hup⟩
 subst hs;cases t with
 | zero=>
  obtain rfl:iv = -1:=by omega
  unfold uR;exact gg4
 | succ i=>
  obtain rfl:iv=(i:Int):=by omega
  obtain⟨q,U',hq,lU,oU',vU,tU,w,hw,hct⟩:=Us (cu:=some (N-i)) (cv:=cv) (bu:=1) (bv:=0) (e:=246) (e':=246) (hp:=[some (.cells (ah (V++Y)) 246),some (.cells (ah U) 246),some (.cells (ah L) 246)]) (U:=U) (V:=V) (Y:=Y) (j:=i) C rfl (by decide) rfl (show k<10000000 by omega) (by omega) oU hV oV hv hv2;have hct:CT M (.fn (.func 281) [] []) [.sl 1 i (k+3) 1 (some (N-i)),.sl 0 0 (k+2) 1 cv] [some (.cells (ah (V++Y)) 246),some (.cells (ah U) 246),some (.cells (ah L) 246)] ⟨.uV q,[some (.cells (ah (V++Y)) 246),some (.cells (ah U') 246),some (.cells (ah L) 246)],w⟩:=hct;have eI:0+((i:Int)).toNat*1=i:=by omega
  have next:∀lo wr,LI (fun s=>∃m',m'<i+1/\∃U L iv lo wr,s=⟨⟨[a0,a1,a2,a3,a4,a5,a6,a7,.sl 0 0 (k+2) 1 cv,.sl 1 0 N 1 (some N),.iV ((k+2:Nat):Int),.sl 2 0 (N-(k+2)) 1 cap,.iV iv,aD,aE,aF],lo,[some (.cells (ah (V++Y)) 246),some (.cells (ah U) 246),some (.cells (ah L) 246)],[]⟩,wr⟩ /\
   iv=(m':Int)-1/\m'<=N-(k+2)/\U.length=N/\okW wB U/\L.length=N-(k+2)/\okW wB L/\(∀k,k<m'->L[k]! = 0)/\WV wB U0=WV wB V*WV wB L+WV wB U/\WV wB (U.drop m')<WV wB V) Q .normal ⟨⟨[a0,a1,a2,a3,a4,a5,a6,a7,.sl 0 0 (k+2) 1 cv,.sl 1 0 N 1 (some N),.iV ((k+2:Nat):Int),.sl 2 0 (N-(k+2)) 1 cap,.iV ((i:Int)-1),aD,aE,aF],lo,[some (.cells (ah (V++Y)) 246),some (.cells (ah U') 246),some (.cells (ah (L.set i q)) 246)],[]⟩,wr⟩:=fun lo wr=>
   da ⟨i,Nat.lt_succ_self i,_,_,_,lo,wr,rfl,rfl,by omega,by omega,oU',by rw[List.length_set];exact hL,fO oL hq,fun k hk=>by rw[gA (by omega)];exact hz k (by omega),by
    rw[fP (by omega),hz i (by omega),Int.sub_zero,vU,hv1,Int.mul_add];have e3:WV wB V*(wB^i*q)=wB^i*(q*WV wB V):=by rw[←Int.mul_assoc,Int.mul_comm (WV wB V),Int.mul_assoc,Int.mul_comm (WV wB V)]
    rw[e3];omega,tU⟩
  unfold uR;exact gg12
theorem Uu {x z:Int}{s:Nat}(hx:0<=x/\x<18446744073709551616)(hs:s<=63) :
 (0<=x/2^s/\x/2^s<2^(64-s))/\(0<=z*2^(64-s)%18446744073709551616/\z*2^(64-s)%18446744073709551616<18446744073709551616)/\z*2^(64-s)%18446744073709551616%2^(64-s)=0 /\
   (0<=x/2^s+z*2^(64-s)%18446744073709551616/\x/2^s+z*2^(64-s)%18446744073709551616<18446744073709551616) /\
   2^s*(x/2^s+z*2^(64-s)%18446744073709551616)=x-x%2^s+18446744073709551616*(z%2^s):=by
 have hp2:=Int.pow_pos (n:=2) (m:=s) (by decide);have hps:=vn (s:=s) (by omega);have hp3:=Int.pow_pos (n:=2) (m:=64-s) (by decide);have e1:z*2^(64-s)%18446744073709551616=z%2^s*2^(64-s):=by
  rw[←hps,Int.mul_comm z,Int.mul_comm (2^s),Int.mul_emod_mul_of_pos _ _ hp3,Int.mul_comm]
 have h1:0<=x/2^s:=Int.ediv_nonneg hx.1 (by omega);have h2:x/2^s<2^(64-s):=Int.ediv_lt_of_lt_mul hp2 (by rw[Int.mul_comm,hps];exact hx.2);have h3:=Int.emod_nonneg z (show (2:Int)^s≠0 by omega);have h4:=Int.emod_lt_of_pos z hp2;have h5:=Int.mul_ediv_add_emod x (2^s);have h6:2^s*(z%2^s*2^(64-s))=18446744073709551616*(z%2^s):=by
  rw[Int.mul_comm (z%2^s),←Int.mul_assoc,hps]
 have h7:0<=z%2^s*2^(64-s):=Int.mul_nonneg h3 (by omega);have h8:(z%2^s+1)*2^(64-s)<=18446744073709551616:=by
  rw[←hps];exact Int.mul_le_mul_of_nonneg_right (by omega) (by omega)
 rw[Int.add_mul,Int.one_mul]at h8;have hm:0<=z*2^(64-s)%18446744073709551616/\z*2^(64-s)%18446744073709551616<18446744073709551616:=by omega
 refine⟨⟨h1,h2⟩,hm,by rw[e1];exact Int.mul_emod_left _ _,?_,?_⟩
 . rw[e1];omega
 . rw[e1,Int.mul_add,h6];omega
theorem Uv {k N s:Nat}{U:List Int}{B0 B2:Option bw}(hs:s<=63)(lN:N<10000000)(hN:k+3<=N)(hU:U.length=N)(oU:okW wB U){Q:Ex->ao->Prop}(a0 a1 a2 a3 a4 a5 a6 a8 aB aC aD:AV)(lo:List (Nat×AV))(wr:List Nat)
 (hQ:∀D aD lo wr,D.length=N->okW wB D->(2:Int)^s*WV wB (D.take (k+2))=WV wB (U.take (k+2))-U[0]! % 2^s+wB^(k+2)*(U[k+2]! % 2^s) ->
   Q (.exit 4) ⟨⟨[a0,a1,a2,a3,a4,a5,a6,.iV s,a8,.sl 1 0 N 1 (some N),.iV ((k+2:Nat):Int),aB,aC,aD,.iV ((k+2:Nat):Int),.iV ((k+2:Nat):Int)],lo,[B0,some (.cells (ah D) 246),B2],[]⟩,wr⟩) :
 W M (.loop uS) ⟨⟨[a0,a1,a2,a3,a4,a5,a6,.iV s,a8,.sl 1 0 N 1 (some N),.iV ((k+2:Nat):Int),aB,aC,aD,.iV ((k+2:Nat):Int),.iV 0],lo,[B0,some (.cells (ah U) 246),B2],[]⟩,wr⟩ Q:=by
 refine W.iQ (k+2) (fun i s'=>∃D aD lo wr,s'=⟨⟨[a0,a1,a2,a3,a4,a5,a6,.iV s,a8,.sl 1 0 N 1 (some N),.iV ((k+2:Nat):Int),aB,aC,aD,.iV ((k+2:Nat):Int),.iV i],lo,[B0,some (.cells (ah D) 246),B2],[]⟩,wr⟩ /\
  D.length=N/\okW wB D/\(∀k,i<=k->D[k]! = U[k]!)/\(2:Int)^s*WV wB (D.take i)=WV wB (U.take i)-U[0]! % 2^s+wB^i*(U[i]! % 2^s)) (fun i s' hi ⟨D,aD,lo,wr,hs',hD,oD,hk,hv⟩=>?_) (fun s' ⟨D,aD,lo,wr,hs',hD,oD,hk,hv⟩=>?_) (Nat.zero_le _)
  ⟨_,_,_,_,rfl,hU,oU,fun k _=>rfl,by simp[WV];omega⟩
 . subst hs';have gx:=bY oU (i:=i) (by omega);obtain⟨x,hx⟩:∃x,x=U[i]! := ⟨_,rfl⟩;rw[←hx]at gx;have gx:0<=x/\x<18446744073709551616:=gx;have gz:=bY oU (i:=i+1) (by omega);obtain⟨z,hz⟩:∃z,z=U[i+1]! := ⟨_,rfl⟩;rw[←hz]at gz;have gz:0<=z/\z<18446744073709551616:=gz;obtain⟨w1,w2,w3,w4,w5⟩:=Uu (z:=z) gx hs;have f0:D[i]! = x:=by rw[hk i (Nat.le_refl _),hx]
   have f1:(D.set i (x/2^s))[i]! = x/2^s:=ve (by omega);have f2:(D.set i (x/2^s))[i+1]! = z:=by rw[gA (by omega),hk (i+1) (by omega),hz]
   have eI:0+((i:Int)).toNat*1=i:=by omega
   have eJ:0+((i:Int)+1).toNat*1=i+1:=by omega
   have fin:∀D' d,D'=D.set i d->d=x/2^s+z*2^(64-s)%18446744073709551616->D'.length=N/\okW wB D'/\(∀k,i+1<=k->D'[k]! = U[k]!)/\(2:Int)^s*WV wB (D'.take (i+1))=WV wB (U.take (i+1))-U[0]! % 2^s+wB^(i+1)*(U[i+1]! % 2^s):=fun D' d e ed=>by
    subst e;refine⟨by rw[List.length_set];exact hD,fO oD (by rw[ed];exact w4),fun k hk'=>by rw[gA (by omega)];exact hk k (by omega),?_⟩;rw[eO (by rw[List.length_set];omega),ve (by omega),List.take_set_of_le (Nat.le_refl i),Int.mul_add,hv,eO (by omega),←hx,←hz,Int.pow_succ];have e1:(2:Int)^s*(wB^i*d)=wB^i*(x-x%2^s+18446744073709551616*(z%2^s)):=by rw[←w5,←ed,←Int.mul_assoc,Int.mul_comm (2^s),Int.mul_assoc]
    rw[e1,Int.mul_add,Int.mul_sub,←Int.mul_assoc (wB^i) 18446744073709551616];show _=_+wB^i*18446744073709551616*_;omega
   unfold uS;by_cases h0:(0:Int)<s
   . refine gg3 ?_;obtain⟨f1,f2,f3,f4⟩:=fin _ _ (List.set_set _) rfl;exact da ⟨_,_,_,_,rfl,f1,f2,f3,f4⟩
   . have e0:x/2^s=x/2^s+z*2^(64-s)%18446744073709551616:=by
      have:s=0:=by omega
      subst this;have:z*2^(64-0)%18446744073709551616=0:=by
       show z*18446744073709551616%18446744073709551616=0;omega
      omega
     refine gg3 ?_;obtain⟨f1,f2,f3,f4⟩:=fin _ _ rfl e0;exact da ⟨_,_,_,_,rfl,f1,f2,f3,f4⟩
 . subst hs';unfold uS;exact gg7
end Go.Ab.Ch1

/-
  Own work: words of integers: quotient and rest: the whole.
-/
namespace Go.Ab.Ch1
open Go.Ab.aY
variable {M:ax} {cap c1 c2 cv:Option Nat}
theorem agJ {t n b r:Nat}{k:IntKind}{x y:aL}{l:List aU}{pe:List AV}{lo:List (Nat×AV)}{hp:ab}{df wr:List Nat}{Q:ao->Prop}(hx:(St.mk pe lo hp df).aa x=some (.sl b 0 n 1 cap))(hy:(St.mk pe lo hp df).aa y=some (.int k r))(h0:0<r)(hr:r<=n)(hc:∀c,cap=some c->n<=c)
 (h:WO M l ⟨⟨pe,(t,.sl b 0 r 1 cap)::lo,hp,df⟩,wr⟩ Q):WO M (⟨.l t,.slice .sl 1 x none (some y) none,none⟩::l) ⟨⟨pe,lo,hp,df⟩,wr⟩ Q:=
 ags hx hy hr hc (by rw[show bz b r cap = .sl b 0 r 1 cap from if_pos h0];exact h)
theorem qc {L:List Int}{n:Nat}:L.take (aN (L.take n))=(L.take n).take (aN (L.take n)):=by
 have:=hZ (l:=L.take n);rw[List.length_take]at this;rw[List.take_take,Nat.min_eq_left (by omega)]
theorem Uw {b rb:List Int}{k s:Nat}(hb:b.length=k+2)(ob:okW wB b)(nb:az b)(hs:s=64-cj b[k+1]!)(lr:rb.length=k+3)(oR:okW wB rb)(vr:WV wB rb=WV wB b*2^s) :
 s<=63/\aN (rb.take (k+3))=k+2/\∃V Y,rb=V++Y/\V.length=k+2/\okW wB V/\WV wB V=WV wB b*2^s/\9223372036854775808<=V[k+1]! := by
 have t0:=lv nb (by omega);rw[hb,show k+2-1=k+1 by omega]at t0;have gt:=bY ob (i:=k+1) (by omega);have gt:0<=b[k+1]! /\ b[k+1]! < 18446744073709551616:=gt;obtain⟨s1,s2,s3⟩:=pU (x:=b[k+1]!) (by omega);have s4:=oc (x:=b[k+1]!) (n:=64) (by have:=gt.2;exact this) gt.1;have hs63:s<=63:=by omega
 have e0:=iU (b:=wB) (l:=b) (n:=k+1) (by omega);obtain⟨t,ht⟩:∃t,t=b[k+1]! := ⟨_,rfl⟩;rw[←ht]at t0 gt s1 s2 s3 s4 e0 hs;obtain⟨n,hn⟩:∃n,cj t=n+1:=⟨cj t-1,by omega⟩;rw[hn]at s2 s3 hs;rw[show n+1-1=n by omega]at s2;have p1:(2:Int)^n*2^s=9223372036854775808:=by rw[←Int.pow_add,show n+s=63 by omega];decide
 have p2:(2:Int)^(n+1)*2^s=18446744073709551616:=by rw[←Int.pow_add,show n+1+s=64 by omega];decide
 have hp2:=Int.pow_pos (n:=2) (m:=s) (by decide);have m1:=Int.mul_le_mul_of_nonneg_right s2 (Int.le_of_lt hp2);have m2:=Int.mul_le_mul_of_nonneg_right (show t+1<=2^(n+1) by omega) (Int.le_of_lt hp2);rw[p1]at m1;rw[p2,Int.add_mul,Int.one_mul]at m2;have hP:0<wB^(k+1):=Int.pow_pos (by decide);have l0:=cn (b:=wB) (by decide) (dm ob (k+1));have l1:=dr (b:=wB) (by decide) (dm ob (k+1));rw[List.length_take,Nat.min_eq_left (by omega)]at l1;have m3:wB^(k+1)*9223372036854775808<=WV wB rb:=by
  have h1:=Int.mul_le_mul_of_nonneg_left m1 (Int.le_of_lt hP);have h2:=Int.mul_nonneg l0 (Int.le_of_lt hp2);rw[vr,e0,Int.add_mul,Int.mul_assoc];omega
 have m4:WV wB rb<wB^(k+1)*18446744073709551616:=by
  have h1:=Int.mul_le_mul_of_nonneg_left m2 (Int.le_of_lt hP);have h2:=Int.mul_lt_mul_of_pos_right l1 hp2;rw[Int.mul_add]at h1;rw[vr,e0,Int.add_mul,Int.mul_assoc];omega
 have e1:=iU (b:=wB) (l:=rb) (n:=k+2) (by omega);have e2:WV wB (rb.take (k+2))=WV wB (rb.take (k+1))+wB^(k+1)*rb[k+1]! := eO (by omega);have g2:=bY oR (i:=k+2) (by omega);have g1:=bY oR (i:=k+1) (by omega);have n2:=cn (b:=wB) (by decide) (dm oR (k+2));have n1:=dr (b:=wB) (by decide) (dm oR (k+1));rw[List.length_take,Nat.min_eq_left (by omega)]at n1;have hPs:wB^(k+2)=wB^(k+1)*18446744073709551616:=Int.pow_succ _ _;have z2:rb[k+2]! = 0:=by
  rcases Int.lt_or_le 0 rb[k+2]! with h|h
  . have:=Int.mul_le_mul_of_nonneg_left (show 1<=rb[k+2]! by omega) (show 0<=wB^(k+2) by rw[hPs];omega);rw[hPs]at this e1;omega
  . have:=g2.1;omega
 rw[z2,Int.mul_zero,Int.add_zero]at e1;have z1:9223372036854775808<=rb[k+1]! := by
  have:wB^(k+1)*9223372036854775808<wB^(k+1)*(rb[k+1]! + 1):=by rw[Int.mul_add,Int.mul_one];omega
  have:=Int.lt_of_mul_lt_mul_left this (Int.le_of_lt hP);omega
 refine⟨hs63,?_,rb.take (k+2),rb.drop (k+2),(List.take_append_drop _ _).symm,by rw[List.length_take];omega,dm oR _,by rw[←e1,vr],?_⟩
 . rw[nX (by omega),if_pos z2,nX (by omega),if_neg (by omega)]
 . have:(rb.take (k+2))[k+1]! = rb[k+1]! := by
    simp only[List.getElem!_eq_getElem?_getD];rw[List.getElem?_take_of_lt (by omega)]
   rw[this];exact z1
theorem Ux {a b U:List Int}{k s:Nat}(ha:k+2<=a.length)(oa:okW wB a)(hb:b.length=k+2)(ob:okW wB b)(nb:az b)(hU:U.length=a.length+1)(oU:okW wB U)(vU:WV wB U=WV wB a*2^s) :
 WV wB (U.drop (a.length+1-(k+2)))<WV wB b*2^s:=by
 have hp2:=Int.pow_pos (n:=2) (m:=s) (by decide);have e1:=lj (b:=wB) (l:=U) (i:=a.length+1-(k+2)) (by omega);have l0:=cn (b:=wB) (by decide) (dm oU (a.length+1-(k+2)));have l1:=dr (b:=wB) (by decide) oa;have hg:=pS (b:=wB) (by decide) ob nb (by omega);rw[hb,show k+2-1=k+1 by omega]at hg;have hP:0<wB^(a.length+1-(k+2)):=Int.pow_pos (by decide);have ep:wB^a.length=wB^(a.length+1-(k+2))*wB^(k+1):=by rw[←Int.pow_add,show a.length+1-(k+2)+(k+1)=a.length by omega]
 have m1:=Int.mul_lt_mul_of_pos_right l1 hp2;have m2:=Int.mul_le_mul_of_nonneg_right hg (Int.le_of_lt hp2);rw[ep,Int.mul_assoc]at m1;have:wB^(a.length+1-(k+2))*WV wB (U.drop (a.length+1-(k+2)))<wB^(a.length+1-(k+2))*(wB^(k+1)*2^s):=by omega
 have:=Int.lt_of_mul_lt_mul_left this (Int.le_of_lt hP);omega
theorem Uy {U D:List Int}{k s:Nat}{r:Int}(hU:k+3<=U.length)(oU:okW wB U)(hlt:WV wB U<wB^(k+2))(hr:WV wB U=(2:Int)^s*r)(hs:s<=63)
 (h:(2:Int)^s*WV wB (D.take (k+2))=WV wB (U.take (k+2))-U[0]! % 2^s+wB^(k+2)*(U[k+2]! % 2^s)):WV wB (D.take (k+2))=r:=by
 have hp2:=Int.pow_pos (n:=2) (m:=s) (by decide);have hps:=vn (s:=s) (by omega);have e1:=lj (b:=wB) (l:=U) (i:=k+2) (by omega);have l0:=cn (b:=wB) (by decide) (dm oU (k+2));have l1:=cn (b:=wB) (by decide) (iR oU (k+2));have hP:0<wB^(k+2):=Int.pow_pos (by decide);have z:WV wB (U.drop (k+2))=0:=by
  rcases Int.lt_or_le 0 (WV wB (U.drop (k+2))) with h|h
  . have:=Int.mul_le_mul_of_nonneg_left (show 1<=WV wB (U.drop (k+2)) by omega) (Int.le_of_lt hP);omega
  . omega
 rw[z,Int.mul_zero,Int.add_zero]at e1;have z2:U[k+2]! = 0:=by
  have d:=nW (b:=wB) (l:=U) (i:=k+2) (by omega);have g:=bY oU (i:=k+2) (by omega);have l2:=cn (b:=wB) (by decide) (iR oU (k+2+1));have g:=g.1;rw[z]at d;have d:0=U[k+2]! + 18446744073709551616*WV wB (U.drop (k+2+1)):=d;omega
 have z0:U[0]! % 2^s=0:=by
  have d:=nW (b:=wB) (l:=U) (i:=0) (by omega);rw[List.drop_zero,hr]at d;refine Int.emod_eq_zero_of_dvd ⟨r-2^(64-s)*WV wB (U.drop (0+1)),?_⟩;rw[Int.mul_sub,←Int.mul_assoc,hps];have d:(2:Int)^s*r=U[0]! + 18446744073709551616*WV wB (U.drop (0+1)):=d;omega
 rw[z0,z2,Int.zero_emod,Int.mul_zero,Int.add_zero,Int.sub_zero,←e1,hr]at h;exact Int.eq_of_mul_eq_mul_left (by omega) h
theorem Ik {x y q u p:Int}(hp:0<p)(h:x*p=y*p*q+u)(h0:0<=u)(h1:u<y*p):q=x/y/\u=p*(x%y):=by
 have e:u=p*(x-y*q):=by
  rw[Int.mul_sub,←Int.mul_assoc,Int.mul_comm p x,Int.mul_comm p y];omega
 have r0:0<=x-y*q:=by
  rcases Int.lt_or_le (x-y*q) 0 with h'|h'
  . have:=Int.mul_lt_mul_of_pos_left h' hp;rw[Int.mul_zero]at this;omega
  . exact h'
 have r1:x-y*q<y:=by
  have h2:p*(x-y*q)<p*y:=by rw[←e,Int.mul_comm p y];exact h1
  exact Int.lt_of_mul_lt_mul_left h2 (Int.le_of_lt hp)
 obtain⟨g1,g2⟩:=mG (x:=x) (y:=y) (q:=q) (r:=x-y*q) (by omega) r0 r1;exact⟨g1,by rw[e,g2]⟩
theorem Uz (C:BI M)(a b:List Int)(oa:okW wB a)(ob:okW wB b)(na:az a)(nb:az b)(la:a.length<1000000)(lb:b.length<1000000)(hb:b≠[]):rS M 253 [.vs (ah a) a.length c1,.vs (ah b) b.length c2] (WV wB a) (WV wB b):=by
 have a0:=cn (b:=wB) (by decide) oa;have b0:=(iu (b:=wB) (by decide) ob nb).2 hb;have q250:=fun h=>C.pZ a b c1 c2 h oa ob na nb (by omega) (by omega)
 refine Ii (by rw[C.ft];exact uT) (by simp) ?_;unfold rI;simp only[enter];by_cases hlt:WV wB a<WV wB b
 . have e:bD (WV wB a-WV wB b) = -1:=if_pos (by omega);rw[e]at q250;exact gg0
 have hg:∃g,g=bD (WV wB a-WV wB b):=⟨_,rfl⟩;obtain⟨g,hg⟩:=hg;have g0:0<=g:=by
  rw[hg];unfold bD;split
  . omega
  . split <;> omega
 rw[←hg]at q250;have lb0:b.length≠0:=fun h=>hb (List.eq_nil_of_length_eq_zero h)
 by_cases hl1:b.length=1
 . have t0:=lv nb (by omega);rw[hl1,show 1-1=0 by omega]at t0;have gb:=bY ob (i:=0) (by omega);have vb:WV wB b=b[0]! := by
    have:=iU (b:=wB) (l:=b) (n:=0) (by omega);simpa[WV] using this
   refine gg6 ?_;refine Ij (c1:=c1) (c2:=c2) C.toBF a b oa ob (by omega) hl1 (by omega) _ _ _ _ _ _ _ _ _ _ _ _ (fun L re lo wr hL oL hre hv=>?_);have q1:CT M (.fn (.func 276) [] []) [.sl 0 0 a.length 1 (some a.length)] [some (.cells (ah L) 246)] ⟨bz 0 (aN (L.take a.length)) (some a.length),[some (.cells (ah L) 246)],[]⟩:=C.jH (cap:=some a.length) rfl (by omega) (by omega) (fun c hc=>by cases hc;exact Nat.le_refl _);have q2:CT M (.fn (.func 276) [] []) [.sl 1 0 1 1 (some 1)] [some (.cells (ah L) 246),some (.cells (ah [re]) 246)] ⟨bz 1 (aN ([re].take 1)) (some 1),[some (.cells (ah L) 246),some (.cells (ah [re]) 246)],[]⟩:=C.jH (cap:=some 1) rfl (by simp) (by omega) (fun c hc=>by cases hc;exact Nat.le_refl _);refine gg17 ?_;have hout:=jR.trim (d1:=some a.length) (d2:=some 1) (b1:=0) (b2:=1) (L1:=L) (L2:=[re]) (e1:=246) (e2:=246) (hp:=[some (.cells (ah L) 246),some (.cells (ah [re]) 246)]) (n1:=a.length) (n2:=1) rfl (by omega) rfl (by simp);have vb':WV wB a=WV wB b*WV wB L+re:=by rw[vb];exact hv
   obtain⟨d1,d2⟩:=mG vb' hre.1 (by rw[vb];exact hre.2);refine⟨.inr rfl,rfl,_,rfl,_,_,?_,?_,hout⟩
   . rw[qc,List.take_of_length_le (show L.length<=a.length by omega)];obtain⟨h1,h2,h3⟩:=kl oL;exact⟨h1,h2,by rw[h3,d1]⟩
   . rw[qc,List.take_of_length_le (show [re].length<=1 by simp)];have gy:b[0]! < 18446744073709551616:=gb.2;obtain⟨h1,h2,h3⟩:=kl (L:=[re]) (fun x hx=>by rw[List.mem_singleton.1 hx];exact⟨hre.1,by show _<(18446744073709551616:Int);omega⟩);exact⟨h1,h2,by rw[h3,←d2];simp[WV]⟩
 obtain⟨k,hk⟩:∃k,b.length=k+2:=⟨b.length-2,by omega⟩;have ha:k+2<=a.length:=by
  rcases Nat.lt_or_ge a.length (k+2) with h|h
  . exact absurd (nY (b:=wB) (by decide) oa ob nb (by omega)) hlt
  . exact h
 obtain⟨s,hs⟩:∃s,s=64-cj b[((b.length:Int)-1).toNat]! := ⟨_,rfl⟩;have gt:=bY ob (i:=((b.length:Int)-1).toNat) (by omega);have q279:=fun h=>C.vo b[((b.length:Int)-1).toNat]! h gt
 rw[←hs]at q279;rw[show ((b.length:Int)-1).toNat=k+1 by omega]at hs;have s63:s<=63:=by
  have t0:=lv nb (by omega);rw[show b.length-1=k+1 by omega]at t0;have gt:=bY ob (i:=k+1) (by omega);have:=(pU (x:=b[k+1]!) (by omega)).1;omega
 obtain⟨rb,⟨lrb,orb,vrb⟩,h280b⟩:=Ib (c1:=c2) C.ft b ob (by omega) s s63 [];obtain⟨_,htop,V,Y,eV,lV,oV,vV,tV⟩:=Uw hk ob nb hs (by omega) orb vrb;obtain⟨U0,⟨lU0,oU0,vU0⟩,h280a⟩:=Ib (c1:=c1) C.ft a oa (by omega) s s63 [some (.cells (ah (V++Y)) 246)];have q280b:CT M (.fn (.func 280) [] []) [.vs (ah b) b.length c2,.iV s] [] ⟨.sl 0 0 (b.length+1) 1 (some (b.length+1)),[some (.cells (ah (V++Y)) 246)],[]⟩:=by
  rw[←eV];exact CT.run (fi:=[]) (ca:=[]) (C.rR _ _) h280b
 have q276b:CT M (.fn (.func 276) [] []) [.sl 0 0 (b.length+1) 1 (some (b.length+1))] [some (.cells (ah (V++Y)) 246)] ⟨.sl 0 0 (k+2) 1 (some (b.length+1)),[some (.cells (ah (V++Y)) 246)],[]⟩:=by
  have:=C.jH (cap:=some (b.length+1)) (b:=0) (n:=b.length+1) (L:=V++Y) (e:=246) (hp:=[some (.cells (ah (V++Y)) 246)]) rfl (by rw[←eV];omega) (by omega) (fun c hc=>by cases hc;exact Nat.le_refl _);rw[←eV,show b.length+1=k+3 by omega,htop,←show b.length+1=k+3 by omega,eV]at this;exact this
 have q280a:CT M (.fn (.func 280) [] []) [.vs (ah a) a.length c1,.iV s] [some (.cells (ah (V++Y)) 246)] ⟨.sl 1 0 (a.length+1) 1 (some (a.length+1)),[some (.cells (ah (V++Y)) 246),some (.cells (ah U0) 246)],[]⟩:=CT.run (fi:=[]) (ca:=[]) (C.rR _ _) h280a;refine gg6 ?_;rw[show ((a.length:Int)-((k+2:Nat):Int)+1).toNat=a.length+1-(k+2) by omega];have hup:=Ux ha oa hk ob nb lU0 oU0 vU0;rw[←vV]at hup;refine Ut (cv:=some (b.length+1)) (cap:=some (a.length+1-(k+2))) C.toBH (k:=k) (N:=a.length+1) (V:=V) (Y:=Y) (U0:=U0) (by omega) (by omega) lV oV tV lU0 oU0 hup _ _ _ _ _ _ _ _ _ _ _ _ _ (fun U L lo wr lU oU lL oL hv hlU=>?_) _ (by omega);refine gg18 ?_;refine Uv (k:=k) (N:=a.length+1) (s:=s) s63 (by omega) (by omega) lU oU _ _ _ _ _ _ _ _ _ _ _ _ _ (fun D aD lo wr lD oD hD=>?_);have q1:CT M (.fn (.func 276) [] []) [.sl 2 0 (a.length+1-(k+2)) 1 (some (a.length+1-(k+2)))] [some (.cells (ah (V++Y)) 246),some (.cells (ah D) 246),some (.cells (ah L) 246)] ⟨bz 2 (aN (L.take (a.length+1-(k+2)))) (some (a.length+1-(k+2))),[some (.cells (ah (V++Y)) 246),some (.cells (ah D) 246),some (.cells (ah L) 246)],[]⟩:=C.jH (cap:=some (a.length+1-(k+2))) rfl (by omega) (by omega) (fun c hc=>by cases hc;exact Nat.le_refl _);have q2:CT M (.fn (.func 276) [] []) [.sl 1 0 (k+2) 1 (some (a.length+1))] [some (.cells (ah (V++Y)) 246),some (.cells (ah D) 246),some (.cells (ah L) 246)] ⟨bz 1 (aN (D.take (k+2))) (some (a.length+1)),[some (.cells (ah (V++Y)) 246),some (.cells (ah D) 246),some (.cells (ah L) 246)],[]⟩:=C.jH (cap:=some (a.length+1)) rfl (by omega) (by omega) (fun c hc=>by cases hc;omega);refine gg14 ?_;have hout:=jR.trim (d1:=some (a.length+1-(k+2))) (d2:=some (a.length+1)) (b1:=2) (b2:=1) (L1:=L) (L2:=D) (e1:=246) (e2:=246) (hp:=[some (.cells (ah (V++Y)) 246),some (.cells (ah D) 246),some (.cells (ah L) 246)]) (n1:=a.length+1-(k+2)) (n2:=k+2) rfl (by omega) rfl (by omega);have hp2:=Int.pow_pos (n:=2) (m:=s) (by decide);rw[vU0,vV]at hv;rw[vV]at hlU;obtain⟨d1,d2⟩:=Ik hp2 hv (cn (by decide) oU) hlU;have lt:=dr (b:=wB) (by decide) oV;rw[lV,vV]at lt;have hr:=Uy (by omega) oU (by omega) d2 s63 hD;refine⟨.inr rfl,rfl,_,rfl,_,_,?_,?_,hout⟩
 . rw[qc,List.take_of_length_le (show L.length<=a.length+1-(k+2) by omega)];obtain⟨h1,h2,h3⟩:=kl oL;exact⟨h1,h2,by rw[h3,d1]⟩
 . rw[qc];obtain⟨h1,h2,h3⟩:=kl (dm oD (k+2));exact⟨h1,h2,by rw[h3,hr]⟩
end Go.Ab.Ch1

/-
  Own work: words of integers: quotient and rest of no words.
-/
namespace Go.Ab.Ch1
open Go.Ab.aY
variable {M:ax} {c2:Option Nat}
theorem UA (hft:M.FT=FT)(b:List Int)(ob:okW wB b)(nb:az b)(hb:b≠[])(q250:∀h,M.ext 250 [.ae,.vs (ah b) b.length c2] h=some ⟨.iV (-1),h,[]⟩):rS M 253 [.ae,.vs (ah b) b.length c2] 0 (WV wB b):=by
 refine Ii (by rw[hft];exact uT) (by simp) ?_;unfold rI;simp only[enter];refine gg6 ?_;refine⟨.inr rfl,rfl,_,rfl,[],[],⟨ij,jy,by simp[WV]⟩,⟨ij,jy,by simp[WV]⟩,aV [.ae,.ae],.ae,.ae,.same rfl,rfl,rfl,.inr ⟨rfl,rfl⟩,.inr ⟨rfl,rfl⟩⟩
end Go.Ab.Ch1

/-
  Own work: quotient and rest by one word: in place if the dividend is less, new otherwise.
-/
namespace Go.Ab.Ch1
open Go.Ab.aY
variable {M:ax} {cap c1 c2:Option Nat}
theorem UB (hft:M.FT=FT)(l:List Int)(y:AV)(hp:ab)(q250:M.ext 250 [.vs (ah l) l.length none,y] hp=some ⟨.iV (-1),hp,[]⟩):aT M 253 [.vs (ah l) l.length none,y] hp ⟨.aq [.ae,.vs (ah l) l.length none],hp,[]⟩:=by
 refine lf (by rw[hft];exact uT) (by simp) (by simp[AV.top,bk,fV]) ?_;unfold rI;simp only[enter];exact gg4
def qd (v:AV)(hh:ab)(q r:List Int):Prop:=∃v1,hJ hh v v1/\v1.top=0/\cd v1 = .aq [.vs (ah q) q.length none,.vs (ah r) r.length none]
theorem Il {b:Nat}{L:List Int}{e:TypeId}{hp:ab}{n:Nat}(hb:hp.at b=some (.cells (ah L) e))(hn:n<=L.length)(hh:ab)(he:(bz b (aN (L.take n)) cap).top≠0->hh=hp) :
 ∃v1,hJ hh (bz b (aN (L.take n)) cap) v1/\v1.top=0/\cd v1 = .vs (ah (L.take (aN (L.take n)))) (L.take (aN (L.take n))).length none:=by
 have hle:=hZ (l:=L.take n);rw[List.length_take]at hle;obtain⟨k,hk⟩:∃k,k=aN (L.take n):=⟨_,rfl⟩;rw[←hk]at hle he ⊢;by_cases h0:0<k
 . have e1:bz b k cap = .sl b 0 k 1 cap:=if_pos h0;rw[e1]at he ⊢;obtain rfl:=he (by simp[AV.top]);have hl:(L.take k).length=k:=by rw[List.length_take];omega
   have hF:Fr hh [b] (.sl b 0 k 1 cap) (.vs (ah (L.take k)) k none):=by
    refine .sl (m:=ah (L.take k)) (List.mem_singleton.2 rfl) hb ?_ rfl (fun i x y hx hy=>?_) (.inr rfl)
    . have:=ke (f:=uC) (esz:=1) (fun _=>rfl) (l:=L) (i:=0) (n:=k) (by omega);simpa using this
    . rw[hx]at hy;cases hy;exact .same (cF (fV _) hx)
   rw[hl];refine⟨_,⟨[b],hF,rfl,fun c l' e' hc hl'=>?_⟩,fV _,by rw[cd,HU]⟩;rw[List.mem_singleton.1 hc,hb]at hl';cases hl';exact nJ (fun _=>rfl) _
 . obtain rfl:k=0:=by omega
   exact⟨.vs [] 0 cap,.same rfl rfl,rfl,rfl⟩
theorem qd.trim {d1 d2:Option Nat}{b1 b2:Nat}{L1 L2:List Int}{e1 e2:TypeId}{hp:ab}{n1 n2:Nat}(h1:hp.at b1=some (.cells (ah L1) e1))(hn1:n1<=L1.length)(h2:hp.at b2=some (.cells (ah L2) e2))(hn2:n2<=L2.length) :
 qd (aV [bz b1 (aN (L1.take n1)) d1,bz b2 (aN (L2.take n2)) d2]) (if (aV [bz b1 (aN (L1.take n1)) d1,bz b2 (aN (L2.take n2)) d2]).top<=0 then [] else hp) (L1.take (aN (L1.take n1))) (L2.take (aN (L2.take n2))):=by
 obtain⟨x,hx⟩:∃x,x=bz b1 (aN (L1.take n1)) d1:=⟨_,rfl⟩;obtain⟨y,hy⟩:∃y,y=bz b2 (aN (L2.take n2)) d2:=⟨_,rfl⟩;obtain⟨hh,hhh⟩:∃hh,hh=(if (aV [x,y]).top<=0 then [] else hp):=⟨_,rfl⟩;have et:(aV [x,y]).top=max x.top (max y.top 0):=rfl;obtain⟨v1,f1,t1,k1⟩:=Il (cap:=d1) h1 hn1 hh (fun h=>by rw[hhh,if_neg];rw[←hx]at h;omega);obtain⟨v2,f2,t2,k2⟩:=Il (cap:=d2) h2 hn2 hh (fun h=>by rw[hhh,if_neg];rw[←hy]at h;omega);rw[←hx,←hy,←hhh];rw[←hx]at f1;rw[←hy]at f2;refine⟨.aq [v1,v2],f1.two f2,?_,?_⟩
 . simp[AV.top,bk,t1,t2]
 . simp only[cd,dJ,k1,k2]
def Im (M:ax)(g:Nat)(ars:List AV)(x y:Int):Prop:=∃q r:List Int,(okW wB q/\az q/\WV wB q=x/y)/\(okW wB r/\az r/\WV wB r=x%y)/\∃v hh,qd v hh q r/\aT M g ars [] ⟨v,hh,[]⟩
theorem UC {f N:Nat}{aO:List Nat}{res:List ew}{body:al}{ars:List AV}{x y:Int}(hft:M.FT f=some ⟨N,aO,res,body⟩)(hN:ars.length<=N)
 (h:W M body ⟨⟨aO.map (fun t=>(ars[t]?).getD cB),[],[],[]⟩,[]⟩ fun e s=>(e = .normal\/e = .ret)/\s.s.bX=[]/\∃vs,de s.s res=some vs/\∃q r:List Int,(okW wB q/\az q/\WV wB q=x/y)/\(okW wB r/\az r/\WV wB r=x%y)/\qd (aV vs) (if (aV vs).top<=0 then [] else s.s.hp) q r):Im M f ars x y:=by
 obtain⟨v,hh,⟨q,r,hq,hr,ho⟩,h2⟩:=fZ (P:=fun v hh=>∃q r:List Int,(okW wB q/\az q/\WV wB q=x/y)/\(okW wB r/\az r/\WV wB r=x%y)/\qd v hh q r) hft hN h;exact⟨q,r,hq,hr,v,hh,ho,h2⟩
theorem UD (C:BI M)(a b:List Int)(oa:okW wB a)(ob:okW wB b)(na:az a)(nb:az b)(la:a.length<1000000)(hl1:b.length=1)(hlt:¬WV wB a<WV wB b):Im M 253 [.vs (ah a) a.length c1,.vs (ah b) b.length c2] (WV wB a) (WV wB b):=by
 have q250:=fun h=>C.pZ a b c1 c2 h oa ob na nb (by omega) (by omega)
 refine UC (by rw[C.ft];exact uT) (by simp) ?_;unfold rI;simp only[enter];have hg:∃g,g=bD (WV wB a-WV wB b):=⟨_,rfl⟩;obtain⟨g,hg⟩:=hg;have g0:0<=g:=by
  rw[hg];unfold bD;split
  . omega
  . split <;> omega
 rw[←hg]at q250;have t0:=lv nb (by omega);rw[hl1,show 1-1=0 by omega]at t0;have gb:=bY ob (i:=0) (by omega);have vb:WV wB b=b[0]! := by
  have:=iU (b:=wB) (l:=b) (n:=0) (by omega);simpa[WV] using this
 refine gg6 ?_;refine Ij (c1:=c1) (c2:=c2) C.toBF a b oa ob (by omega) hl1 (by omega) _ _ _ _ _ _ _ _ _ _ _ _ (fun L re lo wr hL oL hre hv=>?_);have q1:CT M (.fn (.func 276) [] []) [.sl 0 0 a.length 1 (some a.length)] [some (.cells (ah L) 246)] ⟨bz 0 (aN (L.take a.length)) (some a.length),[some (.cells (ah L) 246)],[]⟩:=C.jH (cap:=some a.length) rfl (by omega) (by omega) (fun c hc=>by cases hc;exact Nat.le_refl _);have q2:CT M (.fn (.func 276) [] []) [.sl 1 0 1 1 (some 1)] [some (.cells (ah L) 246),some (.cells (ah [re]) 246)] ⟨bz 1 (aN ([re].take 1)) (some 1),[some (.cells (ah L) 246),some (.cells (ah [re]) 246)],[]⟩:=C.jH (cap:=some 1) rfl (by simp) (by omega) (fun c hc=>by cases hc;exact Nat.le_refl _);refine gg17 ?_;have hout:=qd.trim (d1:=some a.length) (d2:=some 1) (b1:=0) (b2:=1) (L1:=L) (L2:=[re]) (e1:=246) (e2:=246) (hp:=[some (.cells (ah L) 246),some (.cells (ah [re]) 246)]) (n1:=a.length) (n2:=1) rfl (by omega) rfl (by simp);have vb':WV wB a=WV wB b*WV wB L+re:=by rw[vb];exact hv
 obtain⟨d1,d2⟩:=mG vb' hre.1 (by rw[vb];exact hre.2);refine⟨.inr rfl,rfl,_,rfl,_,_,?_,?_,hout⟩
 . rw[qc,List.take_of_length_le (show L.length<=a.length by omega)];obtain⟨h1,h2,h3⟩:=kl oL;exact⟨h1,h2,by rw[h3,d1]⟩
 . rw[qc,List.take_of_length_le (show [re].length<=1 by simp)];have gy:b[0]! < 18446744073709551616:=gb.2;obtain⟨h1,h2,h3⟩:=kl (L:=[re]) (fun x hx=>by rw[List.mem_singleton.1 hx];exact⟨hre.1,by show _<(18446744073709551616:Int);omega⟩);exact⟨h1,h2,by rw[h3,←d2];simp[WV]⟩
end Go.Ab.Ch1

/-
  Own work: words of integers as arguments by contents.
-/
namespace Go.Ab.Ch1
open Go.Ab.aY
theorem rT {h:ab}(l:List Int):rD h (ah l):=uI (fun _=>.cons (.atom rfl) .nil) l
theorem db.gB {h:ab}{x:AV}{l:List Int}(hx:db x l):cT h x (.vs (ah l) l.length none):=by
 rcases hx with rfl|⟨rfl,rfl⟩
 . exact cT.mA (rT l)
 . exact .nil
end Go.Ab.Ch1

/-
  Own work: integers of any size: contents, size, parts, made.
-/
namespace Go.Ab.Ch1
open Go.Ab.aY
variable {M:ax} {cap:Option Nat}
def ak (x:Int):Int:=if x<0 then -x else x
inductive aw:AV->Int->Prop
 | small {s:Int} (h : -9223372036854775808<=s/\s<9223372036854775808):aw (.agg [.int .i64 s,.ae]) s
 | eZ {σ z:Int} {w:List Int} (hs:σ=1\/σ = -1) (ok:okW wB w) (nr:az w) (hw:9223372036854775808<=WV wB w) (hz:z=σ*WV wB w):aw (.agg [.int .i64 σ,.vs (ah w) w.length none]) z
def fa (v:AV)(hh:ab)(v0:AV):Prop:=∃v1,eM hh v v1/\v1.top=0/\bK v1=v0
def cK (M:ax)(g:Nat)(ars:List AV)(v0:AV):Prop:=∃v hh,fa v hh v0/\aT M g ars [] ⟨v,hh,[]⟩
theorem jI {f N:Nat}{aO:List Nat}{res:List ew}{body:al}{ars:List AV}{v0:AV}(hft:M.FT f=some ⟨N,aO,res,body⟩)(hN:ars.length<=N)
 (h:W M body ⟨⟨aO.map (fun t=>(ars[t]?).getD cB),[],[],[]⟩,[]⟩ fun e s=>(e = .normal\/e = .ret)/\s.s.bX=[]/\∃vs,de s.s res=some vs/\fa (aV vs) (if (aV vs).top<=0 then [] else s.s.hp) v0):cK M f ars v0:=by
 obtain⟨v,hh,ho,h2⟩:=fZ (P:=fun v hh=>fa v hh v0) hft hN h;exact⟨v,hh,ho,h2⟩
theorem fa.same {v v0:AV}{hh:ab}(ht:v.top=0)(hc:bK v=v0):fa v hh v0:=⟨v,.same ht,ht,hc⟩
theorem UE (hft:M.FT=FT)(s:Int)(hs : -9223372036854775808<=s/\s<9223372036854775808):aT M 245 [.iV s] [] ⟨.uV (ak s),[],[]⟩:=by
 refine bH (by rw[hft];exact TA) (by simp) ?_;unfold HL;simp only[enter];by_cases h:s<0
 . have e:ak s = -s:=if_pos h;rw[e];by_cases h2:s = -9223372036854775808
   . subst h2;exact gg4
   . exact gg4
 . have e:ak s=s:=if_neg h;rw[e];exact gg11
theorem Io {x:Int}{b:Nat}{e:TypeId}{hh:ab}{c:Option Nat}(hb:hh.at b=some (.cells (ah [x]) e)):eM hh (.sl b 0 1 1 c) (.vs (ah [x]) 1 none):=
 .sl (m:=ah [x]) hb rfl rfl fun i y z hy hz=>by
  rw[hy]at hz;cases hz;exact .same (cF (fV _) hy)
theorem UF (hft:M.FT=FT)(rU:∀s h,(-9223372036854775808<=s/\s<9223372036854775808)->M.ext 245 [.iV s] h=some ⟨.uV (ak s),h,[]⟩){v:AV}{z:Int}(hv:aw v z) :
 ∃x l,db x l/\okW wB l/\az l/\WV wB l=ak z/\cK M 246 [v] (.aq [.bool (decide (z<0)),x]):=by
 cases hv with
 | small h=>
  by_cases h0:z=0
  . subst h0;refine⟨.ae,[],.inr ⟨rfl,rfl⟩,ij,jy,rfl,?_⟩;refine jI (by rw[hft];exact BB) (by simp) ?_;unfold uX;simp only[enter];exact gg1
  . have gz:0<ak z/\ak z<18446744073709551616:=by unfold ak;split <;> omega
    have ok:okW wB [ak z]:=fun x hx=>by rw[List.mem_singleton.1 hx];exact⟨by omega,gz.2⟩
    refine⟨.vs (ah [ak z]) 1 none,[ak z],.inl rfl,ok,(rN (by simp)).2 (by show ak z≠0;omega),by simp[WV],?_⟩;refine jI (by rw[hft];exact BB) (by simp) ?_;have q245:=fun h'=>rU z h' h
    unfold uX;simp only[enter];by_cases hn:z<0
    . rw[decide_eq_true hn];repeat' first|(apply aeS;rfl;rfl;(first|(simp only[nca];rfl)|rfl);first|exact q245 _)|apply aap|apply aM|apply aaF|apply aaY|apply acS|apply abu|apply abJ|apply cX|apply aeb|apply aem|(apply aeZ;rfl)|(apply aeJ;rfl;rfl;(first|(simp only[nca];rfl)|rfl))|(apply agN;rfl)|(apply abF;rfl)|(apply ada;rfl;rfl)|(apply adE;rfl;rfl)|(apply acb;rfl;rfl;rfl)|(apply acK;rfl;rfl;rfl)|(apply aab;rfl;rfl)|(apply aaZ;rfl;rfl)|(intro _;omega)|intro _
      all_goals try omega
      refine⟨.inr rfl,rfl,_,rfl,.aq [.bool true,.vs (ah [ak z]) 1 none],.aq rfl (fun i a b ha hb=>?_),by simp[AV.top,bk,fV],by simp[bK,cJ,lS]⟩;match i with
      | 0=>cases ha;cases hb;exact .same rfl
      | 1=>cases ha;cases hb;exact Io rfl
      | i+2=>cases ha
    . rw[decide_eq_false hn];repeat' first|(apply aeS;rfl;rfl;(first|(simp only[nca];rfl)|rfl);first|exact q245 _)|apply aap|apply aM|apply aaF|apply aaY|apply acS|apply abu|apply abJ|apply cX|apply aeb|apply aem|(apply aeZ;rfl)|(apply aeJ;rfl;rfl;(first|(simp only[nca];rfl)|rfl))|(apply agN;rfl)|(apply abF;rfl)|(apply ada;rfl;rfl)|(apply adE;rfl;rfl)|(apply acb;rfl;rfl;rfl)|(apply acK;rfl;rfl;rfl)|(apply aab;rfl;rfl)|(apply aaZ;rfl;rfl)|(intro _;omega)|intro _
      all_goals try omega
      refine⟨.inr rfl,rfl,_,rfl,.aq [.bool false,.vs (ah [ak z]) 1 none],.aq rfl (fun i a b ha hb=>?_),by simp[AV.top,bk,fV],by simp[bK,cJ,lS]⟩;match i with
      | 0=>cases ha;cases hb;exact .same rfl
      | 1=>cases ha;cases hb;exact Io rfl
      | i+2=>cases ha
 | @eZ σ z w hs ok nr hw hz=>
  refine⟨.vs (ah w) w.length none,w,.inl rfl,ok,nr,?_,?_⟩
  . subst hz;unfold ak;rcases hs with rfl|rfl
    . rw[if_neg (by omega)];omega
    . rw[if_pos (by omega)];omega
  cases w with
  | nil=>simp[WV]at hw
  | cons y w=>
  refine jI (by rw[hft];exact BB) (by simp) ?_;unfold uX;simp only[enter];rcases hs with rfl|rfl
  . have e:¬z<0:=by omega
    rw[decide_eq_false e];exact gg7
  . have e:z<0:=by omega
    rw[decide_eq_true e];exact gg7
end Go.Ab.Ch1

/-
  Own work: integers of any size: made of a sign and digits.
-/
namespace Go.Ab.Ch1
open Go.Ab.aY
variable {M:ax} {cap:Option Nat}
def fK (neg:Bool)(n:Int):Int:=if neg then -n else n
theorem BJ {σ:Int}{l:List Int}{hh:ab}:fa (aV [.agg [.iV σ,.vs (ah l) l.length none]]) hh (.agg [.iV σ,.vs (ah l) l.length none]):=.same (by simp[aV,AV.top,bk,fV]) (by simp[aV,bK,cJ,lS])
theorem UG (hft:M.FT=FT)(neg:Bool){x:AV}{l:List Int}(hx:db x l)(ok:okW wB l)(nr:az l)(hl:l.length<1000000000):∃v0,aw v0 (fK neg (WV wB l))/\cK M 247 [.bool neg,x] v0:=by
 rcases hx with rfl|⟨rfl,rfl⟩
 . by_cases h0:l.length=0
   . refine⟨.agg [.iV 0,.ae],?_,?_⟩
     . have:fK neg (WV wB l)=0:=by rw[List.eq_nil_of_length_eq_zero h0];cases neg <;> rfl
       rw[this];exact .small (by decide)
     refine jI (by rw[hft];exact rL) (by simp) ?_;unfold pR;simp only[enter];repeat' first|apply aap|apply aM|apply aaF|apply aaY|apply acS|apply abu|apply bZ|apply fx|(apply abz;rfl)|(apply adE;rfl;rfl)|(apply aft;rfl;rfl;exact⟨rfl,by first|exact Nat.le_refl _|decide|(simp[overwrite]),rfl⟩;rfl)|(apply acK;rfl;rfl;rfl)|(apply aab;rfl;rfl)|(intro _;omega)|intro _
     all_goals try omega
     exact⟨.inr rfl,rfl,_,rfl,.same rfl rfl⟩
   by_cases h1:l.length=1
   . obtain⟨y,hy⟩:∃y,y=l[(0:Int).toNat]! := ⟨_,rfl⟩;have gy:=bY ok (i:=0) (by omega);rw[show l[0]! = y from hy.symm]at gy;have gy:0<=y/\y<18446744073709551616:=gy;have ev:WV wB l=y:=by
      have:=iU (b:=wB) (l:=l) (n:=0) (by omega);rw[show l[0]! = y from hy.symm]at this;simpa[WV] using this
     by_cases h:y<=9223372036854775807
     . refine⟨.agg [.iV (fK neg y),.ae],by rw[ev];exact .small (by unfold fK;split <;> omega),?_⟩;refine jI (by rw[hft];exact rL) (by simp) ?_;unfold pR;simp only[enter];rw[hy]at h gy ⊢;cases neg
       . repeat' first|(apply afJ;rfl;omega)|apply aap|apply aM|apply aaF|apply aaY|apply acS|apply abu|apply bZ|apply fx|(apply abz;rfl)|(apply abF;rfl)|(apply acY;rfl)|(apply afy;rfl;rfl)|(apply adE;rfl;rfl)|(apply acR;rfl;rfl)|(apply aft;rfl;rfl;exact⟨rfl,by first|exact Nat.le_refl _|decide|(simp[overwrite]),rfl⟩;rfl)|(apply aeX;rfl;rfl;omega)|(apply afu;rfl;exact fun _=>rfl;(first|omega|(simp only[List.length_set];omega)|(simp;omega));decide;rfl;case ia=>infer_instance)|(apply acK;rfl;rfl;rfl)|(apply aab;rfl;rfl)|(intro _;omega)|intro _
         all_goals try omega
         exact⟨.inr rfl,rfl,_,rfl,.same rfl rfl⟩
       . repeat' first|(apply afJ;rfl;omega)|(apply agb;rfl;omega)|apply aap|apply aM|apply aaF|apply aaY|apply acS|apply abu|apply bZ|apply fx|(apply abz;rfl)|(apply abF;rfl)|(apply acY;rfl)|(apply afy;rfl;rfl)|(apply adE;rfl;rfl)|(apply acR;rfl;rfl)|(apply aft;rfl;rfl;exact⟨rfl,by first|exact Nat.le_refl _|decide|(simp[overwrite]),rfl⟩;rfl)|(apply aeX;rfl;rfl;omega)|(apply afu;rfl;exact fun _=>rfl;(first|omega|(simp only[List.length_set];omega)|(simp;omega));decide;rfl;case ia=>infer_instance)|(apply acK;rfl;rfl;rfl)|(apply aab;rfl;rfl)|(intro _;omega)|intro _
         all_goals try omega
         exact⟨.inr rfl,rfl,_,rfl,.same rfl rfl⟩
     . refine⟨.agg [.iV (fK neg 1),.vs (ah l) l.length none],.eZ (w:=l) (by cases neg;exact .inl rfl;exact .inr rfl) ok nr (by rw[ev];omega) (by cases neg <;> simp[fK]),?_⟩;refine jI (by rw[hft];exact rL) (by simp) ?_;unfold pR;simp only[enter];rw[hy]at h gy;cases neg;all_goals
       . repeat' first|apply aap|apply aM|apply aaF|apply aaY|apply acS|apply abu|apply abJ|apply bZ|apply cX|apply fx|(apply abz;rfl)|(apply abF;rfl)|(apply acY;rfl)|(apply aeM;rfl)|(apply afy;rfl;rfl)|(apply adE;rfl;rfl)|(apply acR;rfl;rfl)|(apply adM;rfl;rfl)|(apply aft;rfl;rfl;exact⟨rfl,by first|exact Nat.le_refl _|decide|(simp[overwrite]),rfl⟩;rfl)|(apply aeX;rfl;rfl;omega)|(apply afu;rfl;exact fun _=>rfl;(first|omega|(simp only[List.length_set];omega)|(simp;omega));decide;rfl;case ia=>infer_instance)|(apply acK;rfl;rfl;rfl)|(apply aab;rfl;rfl)|(intro _;omega)|intro _
         all_goals try omega
         exact⟨.inr rfl,rfl,_,rfl,BJ⟩
   have h2:9223372036854775808<=WV wB l:=by
    have h:=pS (b:=wB) (by decide) ok nr (by omega);have h2:=gJ (b:=wB) (by decide) (m:=1) (n:=l.length-1) (by omega);have h3:wB^1=18446744073709551616:=rfl;omega
   refine⟨.agg [.iV (fK neg 1),.vs (ah l) l.length none],.eZ (w:=l) (by cases neg;exact .inl rfl;exact .inr rfl) ok nr h2 (by cases neg <;> simp[fK]),?_⟩;refine jI (by rw[hft];exact rL) (by simp) ?_;unfold pR;simp only[enter];cases neg;all_goals
   . repeat' first|apply aap|apply aM|apply aaF|apply aaY|apply acS|apply abu|apply abJ|apply bZ|apply cX|apply fx|(apply abz;rfl)|(apply abF;rfl)|(apply aeM;rfl)|(apply adE;rfl;rfl)|(apply adM;rfl;rfl)|(apply aft;rfl;rfl;exact⟨rfl,by first|exact Nat.le_refl _|decide|(simp[overwrite]),rfl⟩;rfl)|(apply acK;rfl;rfl;rfl)|(apply aab;rfl;rfl)|(intro _;omega)|intro _
     all_goals try omega
     exact⟨.inr rfl,rfl,_,rfl,BJ⟩
 . refine⟨.agg [.iV 0,.ae],?_,?_⟩
   . have:fK neg (WV wB [])=0:=by cases neg <;> rfl
     rw[this];exact .small (by decide)
   refine jI (by rw[hft];exact rL) (by simp) ?_;unfold pR;simp only[enter];cases neg;all_goals
   . repeat' first|apply aap|apply aM|apply aaF|apply aaY|apply acS|apply abu|apply bZ|apply fx|(apply abz;rfl)|(apply adE;rfl;rfl)|(apply aft;rfl;rfl;exact⟨rfl,by first|exact Nat.le_refl _|decide|(simp[overwrite]),rfl⟩;rfl)|(apply acK;rfl;rfl;rfl)|(apply aab;rfl;rfl)|(intro _;omega)|intro _
     all_goals try omega
     exact⟨.inr rfl,rfl,_,rfl,.same rfl rfl⟩
end Go.Ab.Ch1

/-
  Own work: the code of integers of any size.
-/
namespace Go.Ab.Ch1
set_option maxRecDepth 1000000
def vv:al:=zR [zx 1 131 2 0,⟨.p 2,.alloc 131 [.iV (0),.ae],none⟩] (.seq (zR [zf 5 1 1,zd 6 1 5,⟨.l 7,.eq false (.ref .slice) (.l 6) (.c (.ae)),none⟩,zn 8 7,zg (zf 9 0 1) 8 true,zg (zd 10 1 9) 8 true,zg (zc 11 .neq 10 (-9223372036854775808)) 8 true,zp 12 8 11] (.cond (.l 12) (zR [zf 13 0 1,zd 14 1 13,⟨.l 15,.un .neg (.l 14),none⟩,⟨.l 16,.build [.iV (0),.ae] [(0,1,(.l 15))],none⟩,zs 2 2 16] (.ret)) (.skip))) (zR [zt 18 2 1,z1 19 246 18,zn 17 19,ze 20 0 17,ze 21 1 17,zw 3 20,zw 4 21] (zR [zm 22 3,zu 23 22,zm 24 4,z2 25 247 23 24,zs 2 2 25] (.ret))))
theorem Ip:FT 216=some ⟨26,[0,1,2,3,4],[.cell 2 true (.p 2)],vv⟩:=by kernel_rfl
def BK:al:=zR [zx 1 131 2 0,⟨.p 2,.alloc 131 [.iV (0),.ae],none⟩] (.seq (zR [zf 3 0 1,zd 4 1 3,zc 5 .lss 4 0] (.cond (.l 5) (zR [zt 6 2 1,z1 7 216 6,zs 2 2 7] (.ret)) (.skip))) (zR [zt 8 2 1,zs 2 2 8] (.ret)))
theorem Iq:FT 210=some ⟨9,[0,1,2],[.cell 2 true (.p 2)],BK⟩:=by kernel_rfl
def BL:al:=zR [zx 1 131 2 0,zi 2 0] (zR [zf 3 0 1,zd 4 1 3,⟨.l 5,.mm false [(kI 1),(.l 4)],none⟩,⟨.l 6,.mm true [(kI (-1)),(.l 5)],none⟩,zw 2 6] (.ret))
theorem UH:FT 211=some ⟨7,[0,1,2],[.var (.p 2)],BL⟩:=by kernel_rfl
def qe:al:=zR [zx 2 131 2 0,zx 3 131 2 1,⟨.p 4,.alloc 131 [.iV (0),.ae],none⟩] (.seq (zR [zf 10 1 2,zd 11 1 10,⟨.l 12,.eq false (.ref .slice) (.l 11) (.c (.ae)),none⟩,zn 13 12,zg (zf 14 1 3) 13 true,zg (zd 15 1 14) 13 true,⟨.l 16,.eq false (.ref .slice) (.l 15) (.c (.ae)),some ((.l 13),true)⟩,zp 17 13 16] (.cond (.l 17) (zR [zf 18 0 2,zd 19 1 18,zf 20 0 3,zd 21 1 20,zb 22 .add 19 21,zw 5 22] (zR [zm 23 5,zf 24 0 2,zd 25 1 24,zb 26 .gtr 23 25,zf 27 0 3,zd 28 1 27,zc 29 .gtr 28 0,⟨.l 30,.eq false .bool (.l 26) (.l 29),none⟩] (.cond (.l 30) (zR [zm 31 5,⟨.l 32,.build [.iV (0),.ae] [(0,1,(.l 31))],none⟩,zs 2 4 32] (.ret)) (.skip)))) (.skip))) (zR [zt 34 2 2,z1 35 246 34,zn 33 35,ze 36 0 33,ze 37 1 33,zw 6 36,zw 7 37] (zR [zt 39 2 3,z1 40 246 39,zn 38 40,ze 41 0 38,ze 42 1 38,zw 8 41,zw 9 42] (.seq (.block 0 (zR [zm 44 6,zm 45 8,⟨.l 46,.eq false .bool (.l 44) (.l 45),none⟩,zn 43 46] (.cond (.l 43) (zR [zm 47 6,zm 48 7,zm 49 9,z2 50 249 48 49,z2 51 247 47 50,zs 2 4 51] (.ret)) (zR [zm 53 7,zm 54 9,z2 55 250 53 54,zc 56 .geq 55 0,zn 52 56] (.cond (.l 52) (zR [zm 57 6,zm 58 7,zm 59 9,z2 60 251 58 59,z2 61 247 57 60,zs 2 4 61] (.ret)) (.skip)))))) (zR [zm 62 8,zm 63 9,zm 64 7,z2 65 251 63 64,z2 66 247 62 65,zs 2 4 66] (.ret))))))
theorem rV:FT 202=some ⟨67,[0,1,2,3,4,5,6,7,8,9],[.cell 2 true (.p 4)],qe⟩:=by kernel_rfl
def Ir:al:=zR [zx 2 131 2 0,zx 3 131 2 1,⟨.p 4,.alloc 131 [.iV (0),.ae],none⟩] (.seq (.draw [(zt 5 2 2,[]),(zt 6 2 3,[0]),(z1 7 216 6,[0]),(z2 8 202 5 7,[]),(zs 2 4 8,[])]) (.ret))
theorem UI:FT 217=some ⟨9,[0,1,2,3,4],[.cell 2 true (.p 4)],Ir⟩:=by kernel_rfl
def Is:al:=zR [zx 2 131 2 0,zx 3 131 2 1,zi 4 0] (.seq (zR [zf 5 1 2,zd 6 1 5,⟨.l 7,.eq false (.ref .slice) (.l 6) (.c (.ae)),none⟩,zn 8 7,zg (zf 9 1 3) 8 true,zg (zd 10 1 9) 8 true,⟨.l 11,.eq false (.ref .slice) (.l 10) (.c (.ae)),some ((.l 8),true)⟩,zp 12 8 11] (.cond (.l 12) (.seq (.block 0 (zR [zf 14 0 2,zd 15 1 14,zf 16 0 3,zd 17 1 16,zb 18 .lss 15 17,zn 13 18] (.cond (.l 13) (zR [zi 4 (-1)] (.ret)) (zR [zf 20 0 2,zd 21 1 20,zf 22 0 3,zd 23 1 22,zb 24 .gtr 21 23,zn 19 24] (.cond (.l 19) (zR [zi 4 1] (.ret)) (.skip)))))) (zR [zi 4 0] (.ret))) (.skip))) (zR [zt 25 2 2,zt 26 2 3,z2 27 217 25 26,z1 28 211 27,zw 4 28] (.ret)))
theorem UJ:FT 167=some ⟨29,[0,1,2,3,4],[.var (.p 4)],Is⟩:=by kernel_rfl
def qf:al:=zR [zx 2 131 2 0,zx 3 131 2 1,⟨.p 4,.alloc 131 [.iV (0),.ae],none⟩] (.seq (zR [zf 11 1 2,zd 12 1 11,⟨.l 13,.eq false (.ref .slice) (.l 12) (.c (.ae)),none⟩,zn 14 13,zg (zf 15 1 3) 14 true,zg (zd 16 1 15) 14 true,⟨.l 17,.eq false (.ref .slice) (.l 16) (.c (.ae)),some ((.l 14),true)⟩,zp 18 14 17] (.cond (.l 18) (.seq (.draw [(zf 20 0 2,[]),(zd 21 1 20,[]),(z1 22 245 21,[]),(zf 23 0 3,[0,1,2]),(zd 24 1 23,[0,1,2]),(z1 25 245 24,[]),(z2 26 244 22 25,[]),(zn 19 26,[]),(ze 27 0 19,[]),(ze 28 1 19,[8]),(zw 5 27,[9]),(zw 6 28,[])]) (zR [zm 29 5,⟨.l 30,.bin .eql (.l 29) (kU 0),none⟩,zn 31 30,zg (zm 32 6) 31 true,⟨.l 33,.bin .leq (.l 32) (kU 9223372036854775807),some ((.l 31),true)⟩,zp 34 31 33] (.cond (.l 34) (.seq (zR [zf 35 0 2,zd 36 1 35,zc 37 .lss 36 0,zf 38 0 3,zd 39 1 38,zc 40 .lss 39 0,⟨.l 41,.eq true .bool (.l 37) (.l 40),none⟩] (.cond (.l 41) (zR [zm 42 6,⟨.l 43,.dz .i64 (.l 42),none⟩,⟨.l 44,.un .neg (.l 43),none⟩,⟨.l 45,.build [.iV (0),.ae] [(0,1,(.l 44))],none⟩,zs 2 4 45] (.ret)) (.skip))) (zR [zm 46 6,⟨.l 47,.dz .i64 (.l 46),none⟩,⟨.l 48,.build [.iV (0),.ae] [(0,1,(.l 47))],none⟩,zs 2 4 48] (.ret))) (.skip)))) (.skip))) (zR [zt 50 2 2,z1 51 246 50,zn 49 51,ze 52 0 49,ze 53 1 49,zw 7 52,zw 8 53] (zR [zt 55 2 3,z1 56 246 55,zn 54 56,ze 57 0 54,ze 58 1 54,zw 9 57,zw 10 58] (zR [zm 59 7,zm 60 9,⟨.l 61,.eq true .bool (.l 59) (.l 60),none⟩,zm 62 8,zm 63 10,z2 64 248 62 63,z2 65 247 61 64,zs 2 4 65] (.ret)))))
theorem rW:FT 198=some ⟨66,[0,1,2,3,4,5,6,7,8,9,10],[.cell 2 true (.p 4)],qf⟩:=by kernel_rfl
def It:al:=zR [⟨.p 1,.alloc 131 [.iV (0),.ae],none⟩] (zR [zm 3 0,⟨.l 4,.build [.iV (0),.ae] [(0,1,(.l 3))],none⟩,zs 2 1 4] (.ret))
theorem UK:FT 168=some ⟨5,[0,2],[.cell 2 true (.p 1)],It⟩:=by kernel_rfl
def qh:al:=zR [zx 2 131 2 0,zx 3 131 2 1,⟨.p 4,.alloc 131 [.iV (0),.ae],none⟩,⟨.p 5,.alloc 131 [.iV (0),.ae],none⟩] (.seq (zR [zf 16 1 2,zd 17 1 16,⟨.l 18,.eq false (.ref .slice) (.l 17) (.c (.ae)),none⟩,zn 19 18,zg (zf 20 1 3) 19 true,zg (zd 21 1 20) 19 true,⟨.l 22,.eq false (.ref .slice) (.l 21) (.c (.ae)),some ((.l 19),true)⟩,zp 23 19 22,zn 24 23,zg (zf 25 0 2) 24 true,zg (zd 26 1 25) 24 true,zg (zc 27 .neq 26 (-9223372036854775808)) 24 true,zp 28 24 27] (.cond (.l 28) (.seq (.draw [(zf 29 0 2,[]),(zd 30 1 29,[]),(zf 31 0 3,[0,1]),(zd 32 1 31,[0,1]),(zb 33 .quo 30 32,[]),(zf 34 0 2,[0,1,2,3,4]),(zd 35 1 34,[0,1,2,3,4]),(zf 36 0 3,[0,1,2,3,4,5,6]),(zd 37 1 36,[0,1,2,3,4,5,6]),(zb 38 .rem 35 37,[0,1,2,3,4]),(zw 6 33,[5,6,7,8,9]),(zw 7 38,[])]) (.seq (zR [zm 39 7,zc 40 .lss 39 0] (.cond (.l 40) (.draw [(zm 41 6,[]),(zc 42 .sub 41 1,[]),(zm 43 7,[0,1]),(zf 44 0 3,[0,1,2]),(zd 45 1 44,[0,1,2]),(zb 46 .add 43 45,[0,1]),(zw 6 42,[2,3,4,5]),(zw 7 46,[])]) (.skip))) (zR [zm 47 6,⟨.l 48,.build [.iV (0),.ae] [(0,1,(.l 47))],none⟩,zm 49 7,⟨.l 50,.build [.iV (0),.ae] [(0,1,(.l 49))],none⟩,zs 2 4 48,zs 2 5 50] (.ret)))) (.skip))) (zR [zt 52 2 2,z1 53 246 52,zn 51 53,ze 54 0 51,ze 55 1 51,zw 8 54,zw 9 55] (zR [zt 57 2 3,z1 58 246 57,zn 56 58,ze 59 0 56,ze 60 1 56,zn 10 59,zw 10 60] (zR [zm 62 9,zm 63 10,z2 64 253 62 63,zn 61 64,ze 65 0 61,ze 66 1 61,zw 11 65,zw 12 66] (zR [zm 67 8,zm 68 11,z2 69 247 67 68,zm 70 8,zm 71 12,z2 72 247 70 71,⟨.p 13,.alloc 131 [.iV (0),.ae],none⟩,⟨.p 14,.alloc 131 [.iV (0),.ae],none⟩,zs 2 13 69,zs 2 14 72] (.seq (zR [zt 73 2 14,z1 74 211 73,zc 75 .lss 74 0] (.cond (.l 75) (.draw [(zt 76 2 13,[]),(⟨.l 77,.call (kF 168) [(kI 1)],none⟩,[0]),(z2 78 217 76 77,[]),(zt 79 2 14,[0,1,2]),(zt 80 2 3,[0,1,2,3]),(z2 81 202 79 80,[]),(zs 2 13 78,[]),(zs 2 14 81,[])]) (.skip))) (.seq (.draw [(zt 82 2 13,[]),(zt 83 2 14,[0]),(zs 2 4 82,[1]),(zs 2 5 83,[])]) (.ret))))))))
theorem rX:FT 205=some ⟨84,[0,1,2,3,4,5,6,7,8,9,11,12,13,14,15],[.cell 2 true (.p 4),.cell 2 true (.p 5)],qh⟩:=by kernel_rfl
def BM:al:=zR [zx 2 131 2 0,zx 3 131 2 1,⟨.p 4,.alloc 131 [.iV (0),.ae],none⟩] (.seq (zR [zt 7 2 3,z1 8 211 7,zc 9 .lss 8 0] (.cond (.l 9) (.draw [(zt 10 2 2,[]),(z1 11 216 10,[]),(zt 12 2 3,[0,1]),(z1 13 216 12,[]),(zs 2 2 11,[]),(zs 2 3 13,[])]) (.skip))) (zR [zt 15 2 2,zt 16 2 3,z2 17 205 15 16,zn 14 17,ze 18 0 14,ze 19 1 14,⟨.p 5,.alloc 131 [.iV (0),.ae],none⟩,⟨.l 6,.alloc 131 [.iV (0),.ae],none⟩,zs 2 5 18,zS 2 6 19] (zR [zt 20 2 5,zs 2 4 20] (.ret))))
theorem Iu:FT 252=some ⟨21,[0,1,2,3,4,5],[.cell 2 true (.p 4)],BM⟩:=by kernel_rfl
def vw:al:=.seq (zR [zt 11 2 3,z1 12 211 11,zc 13 .neq 12 0] (.cond (.l 13) (.skip) (.exit 0))) (.block 1 (zR [zt 15 2 2,zt 16 2 3,z2 17 205 15 16,zn 14 17,ze 18 0 14,ze 19 1 14,⟨.l 5,.alloc 131 [.iV (0),.ae],none⟩,⟨.p 5,.alloc 131 [.iV (0),.ae],none⟩,zS 2 5 18,zs 2 5 19] (.draw [(zt 20 2 3,[]),(zt 21 2 5,[0]),(zs 2 2 20,[1]),(zs 2 3 21,[])])))
def Iv:al:=zR [zx 2 131 2 0,zx 3 131 2 1,⟨.p 4,.alloc 131 [.iV (0),.ae],none⟩] (.seq (.draw [(zt 7 2 2,[]),(z1 8 210 7,[]),(zt 9 2 3,[0,1]),(z1 10 210 9,[]),(zs 2 2 8,[]),(zs 2 3 10,[])]) (.seq (.block 0 (.loop vw)) (zR [zt 22 2 2,zs 2 4 22] (.ret))))
theorem UL:FT 165=some ⟨23,[0,1,2,3,4,6],[.cell 2 true (.p 4)],Iv⟩:=by kernel_rfl
end Go.Ab.Ch1

/-
  Own work: integers of any size: opposite, size, sign, sums.
-/
namespace Go.Ab.Ch1
open Go.Ab.aY
variable {M:ax} {cap:Option Nat}
structure CI (M:ax)(N:Nat):Prop where
 ft:M.FT=FT
 lN:N<=500000
 rU:∀s h,(-9223372036854775808<=s/\s<9223372036854775808)->M.ext 245 [.iV s] h=some ⟨.uV (ak s),h,[]⟩
 nZ:∀(x y:Int) h,(0<=x/\x<18446744073709551616)->(0<=y/\y<18446744073709551616)->M.ext 244 [.uV x,.uV y] h=some ⟨.aq [.uV (x*y/18446744073709551616),.uV (x*y%18446744073709551616)],h,[]⟩
 km:∀v z,aw v z->∃x l,db x l/\okW wB l/\az l/\WV wB l=ak z/\∀h,M.ext 246 [v] h=some ⟨.aq [.bool (decide (z<0)),x],h,[]⟩
 jJ:∀neg x l,db x l->okW wB l->az l->l.length<=1000001->∃v0,aw v0 (fK neg (WV wB l))/\∀h,M.ext 247 [.bool neg,x] h=some ⟨v0,h,[]⟩
 Iw:∀x l y m,db x l->db y m->okW wB l->okW wB m->l.length<=500000->m.length<=500000->∃r,okW wB r/\az r/\WV wB r=WV wB l+WV wB m/\∀h,M.ext 249 [x,y] h=some ⟨.vs (ah r) r.length none,h,[]⟩
 BN:∀x l y m,db x l->db y m->okW wB l->okW wB m->az l->az m->l.length<=500000->m.length<=500000->WV wB m<=WV wB l->∃r,okW wB r/\az r/\WV wB r=WV wB l-WV wB m/\∀h,M.ext 251 [x,y] h=some ⟨.vs (ah r) r.length none,h,[]⟩
 Ix:∀x l y m,db x l->db y m->okW wB l->okW wB m->l.length<=500000->m.length<=500000->∃r,okW wB r/\az r/\WV wB r=WV wB l*WV wB m/\∀h,M.ext 248 [x,y] h=some ⟨.vs (ah r) r.length none,h,[]⟩
 pZ:∀x l y m,db x l->db y m->okW wB l->okW wB m->az l->az m->l.length<=500000->m.length<=500000->∀h,M.ext 250 [x,y] h=some ⟨.iV (bD (WV wB l-WV wB m)),h,[]⟩
theorem aw.out {v:AV}{z:Int}{hh:ab}(h:aw v z):fa (aV [v]) hh v:=by
 cases h with
 | small=>exact .same rfl rfl
 | eZ=>exact BJ
variable {N:Nat}
theorem CI.len (C:CI M N){z:Int}{l:List Int}(ok:okW wB l)(nr:az l)(hv:WV wB l=ak z)(hz:ak z<wB^N):l.length<=500000:=
 Nat.le_trans (fQ (b:=wB) (by decide) ok nr (by rw[hv];exact hz)) C.lN
theorem UM (C:CI M N){v:AV}{z:Int}(hv:aw v z)(hz:ak z<wB^N):∃v0,aw v0 (-z)/\cK M 216 [v] v0:=by
 obtain⟨x,l,hx,ok,nr,hl,q246⟩:=C.km v z hv;have len:=C.len ok nr hl hz;obtain⟨v0,h0,q247⟩:=C.jJ (!(decide (z<0))) x l hx ok nr (by omega);have ev:fK (!(decide (z<0))) (WV wB l) = -z:=by
  rw[hl];unfold fK ak;by_cases h:z<0
  . simp[h]
  . simp[h]
 rw[ev]at h0;by_cases hsm:(∃s,v = .agg [.iV s,.ae])/\z ≠ -9223372036854775808
 . obtain⟨⟨s,rfl⟩,hne⟩:=hsm;cases hv with
   | small h=>
   refine⟨.agg [.iV (-z),.ae],.small (by omega),?_⟩;refine jI (by rw[C.ft];exact Ip) (by simp) ?_;unfold vv;simp only[enter];repeat' first|apply aap|apply aM|apply aaF|apply aaY|apply abu|apply bZ|(apply abz;rfl)|(apply acY;rfl)|(apply aef;rfl;rfl)|(apply acR;rfl;rfl)|(apply aft;rfl;rfl;exact⟨rfl,by first|exact Nat.le_refl _|decide|(simp[overwrite]),rfl⟩;rfl)|(apply afw;rfl;(first|(focus((repeat' first|exact bW|assumption|apply bT);done))|exact dg (by simp));rfl)|(apply agb;rfl;omega)|(apply acK;rfl;rfl;rfl)|(apply aab;rfl;rfl)|(intro _;omega)|intro _
   all_goals try omega
   exact⟨.inr rfl,rfl,_,rfl,.same rfl rfl⟩
 . refine⟨v0,h0,jI (by rw[C.ft];exact Ip) (by simp) ?_⟩;have out:=fun hh=>h0.out (hh:=hh)
   cases hv with
   | small h=>
    have hz:z = -9223372036854775808:=Decidable.byContradiction fun h'=>hsm ⟨⟨z,rfl⟩,h'⟩
    subst hz;unfold vv;simp only[enter];cases h0;all_goals
    . repeat' first|apply aap|apply aM|apply aaF|apply aaY|apply abu|apply abJ|(apply abF;rfl)|(apply acY;rfl)|(apply aef;rfl;rfl)|(apply acR;rfl;rfl)|(apply abD;rfl;rfl;first|exact q246 _|exact q247 _)|(apply aft;rfl;rfl;exact⟨rfl,by first|exact Nat.le_refl _|decide|(simp[overwrite]),rfl⟩;rfl)|(apply afw;rfl;(first|(focus((repeat' first|exact bW|assumption|apply bT);done))|exact dg (by simp));rfl)|(apply acK;rfl;rfl;rfl)|(apply aab;rfl;rfl)|(apply aaZ;rfl;rfl)|(intro _;omega)|intro _
      all_goals try omega
      all_goals exact⟨.inr rfl,rfl,_,rfl,out _⟩
   | @eZ σ z w hs ok' nr' hw hz'=>
    cases w with
    | nil=>simp[WV]at hw
    | cons y w=>
    unfold vv;simp only[enter];by_cases hn:z<0
    all_goals
    . simp only[hn,decide_true,decide_false,Bool.not_true,Bool.not_false]at q246 q247;cases h0;all_goals
      . repeat' first|apply aap|apply aM|apply aaF|apply aaY|apply abu|apply abJ|(apply abF;rfl)|(apply aeM;rfl)|(apply adM;rfl;rfl)|(apply abD;rfl;rfl;first|exact q246 _|exact q247 _)|(apply aft;rfl;rfl;exact⟨rfl,by first|exact Nat.le_refl _|decide|(simp[overwrite]),rfl⟩;rfl)|(apply afw;rfl;(first|(focus((repeat' first|exact bW|assumption|apply bT);done))|exact dg (by simp));rfl)|(apply acK;rfl;rfl;rfl)|(apply aab;rfl;rfl)|(apply aaZ;rfl;rfl)
        all_goals try omega
        all_goals exact⟨.inr rfl,rfl,_,rfl,out _⟩
end Go.Ab.Ch1

/-
  Own work: integers of any size: absolute values, signs, the long way of a sum.
-/
namespace Go.Ab.Ch1
open Go.Ab.aY
variable {M:ax} {cap:Option Nat} {N:Nat}
theorem UN (hft:M.FT=FT){v:AV}{z:Int}(hv:aw v z):aT M 211 [v] [] ⟨.iV (bD z),[],[]⟩:=by
 refine bH (by rw[hft];exact UH) (by simp) ?_;have key:∀s:Int,(AV.iV (if (if s<1 then s else 1) > -1 then (if s<1 then s else 1) else -1)) = .iV (bD s):=fun s=>by
  congr 1;unfold bD;by_cases h:s<0
  . rw[if_pos h,if_pos (show s<1 by omega)];split <;> omega
  . rw[if_neg h];by_cases h1:0<s
    . rw[if_pos h1,if_neg (show ¬s<1 by omega)];rfl
    . obtain rfl:s=0:=by omega
      rfl
 cases hv with
 | small h=>
  unfold BL;simp only[enter];exact gg19
 | @eZ σ z w hs ok nr hw hz=>
  have e:bD z=σ:=by
   unfold bD;rcases hs with rfl|rfl
   . rw[if_neg (by omega),if_pos (by omega)]
   . rw[if_pos (by omega)]
  have k:=key σ;rw[show bD σ=bD z by rw[e];rcases hs with rfl|rfl <;> rfl]at k;unfold BL;simp only[enter];exact gg19
def t202:al:=
 zR [zt 34 2 2,
      z1 35 246 34,
      zn 33 35,
      ze 36 0 33,
      ze 37 1 33,
      zw 6 36,
      zw 7 37]
    (
     zR [zt 39 2 3,
       z1 40 246 39,
       zn 38 40,
       ze 41 0 38,
       ze 42 1 38,
       zw 8 41,
       zw 9 42]
     (
      .seq (.block 0
       (
        zR [zm 44 6,
          zm 45 8,
          ⟨(.l 46),.eq false .bool (.l 44) (.l 45),none⟩,
          zn 43 46]
        (
         .cond (.l 43)
         (
          zR [zm 47 6,
            zm 48 7,
            zm 49 9,
            z2 50 249 48 49,
            z2 51 247 47 50,
            zs 2 4 51]
          (.ret))
         (
          zR [zm 53 7,
            zm 54 9,
            z2 55 250 53 54,
            zc 56 .geq 55 0,
            zn 52 56]
          (
           .cond (.l 52)
           (
            zR [zm 57 6,
              zm 58 7,
              zm 59 9,
              z2 60 251 58 59,
              z2 61 247 57 60,
              zs 2 4 61]
            (.ret))
           (.skip))))))
      (
       zR [zm 62 8,
         zm 63 9,
         zm 64 7,
         z2 65 251 63 64,
         z2 66 247 62 65,
         zs 2 4 66]
       (.ret))))
theorem UO {l m r:List Int}(C:CI M N)(ok:okW wB r)(nr:az r)(hr:WV wB r=WV wB l+WV wB m)(hl:WV wB l<wB^N)(hm:WV wB m<wB^N):r.length<=1000001:=by
 have hN:=C.lN;have hp:wB^(N+1)=wB^N*18446744073709551616:=Int.pow_succ _ _;have hp0:0<wB^N:=Int.pow_pos (by decide);exact Nat.le_trans (fQ (b:=wB) (by decide) ok nr (n:=N+1) (by rw[hr,hp];omega)) (by omega)
def lE (v0:AV)(res:List ew)(e:Ex)(s:ao):Prop:=(e = .normal\/e = .ret)/\s.s.bX=[]/\∃vs,de s.s res=some vs/\fa (aV vs) (if (aV vs).top<=0 then [] else s.s.hp) v0
theorem cD {v0:AV}{res:List ew}{s:ao}{vs:List AV}(hd:s.s.bX=[])(h:de s.s res=some vs)(ho:fa (aV vs) (if (aV vs).top<=0 then [] else s.s.hp) v0):lE v0 res .ret s:=⟨.inr rfl,hd,vs,h,ho⟩
theorem UP (C:CI M N){s s' za zb:Int}{wa wb:AV}(ha:aw (.agg [.iV s,wa]) za)(hb:aw (.agg [.iV s',wb]) zb)(lza:ak za<wB^N)(lzb:ak zb<wB^N) :
 ∃v0,aw v0 (za+zb)/\∀a0 a1 a5 a6 a7 a8 a9 lo wr,W M t202 ⟨⟨[a0,a1,.ptr 0 0,.ptr 1 0,.ptr 2 0,a5,a6,a7,a8,a9],lo,[some (.cells [.iV s,wa] 131),some (.cells [.iV s',wb] 131),some (.cells [.iV 0,.ae] 131)],[]⟩,wr⟩ (lE v0 [.cell 2 true (.p 4)]):=by
 obtain⟨x,l,hx,okl,nrl,vl,q246a⟩:=C.km _ za ha;obtain⟨y,m,hy,okm,nrm',vm,q246b⟩:=C.km _ zb hb;have ll:=C.len okl nrl vl lza;have lm:=C.len okm nrm' vm lzb;have l0:=cn (b:=wB) (by decide) okl;have m0:=cn (b:=wB) (by decide) okm;have lN:=C.lN;by_cases hs:decide (za<0)=decide (zb<0)
 . obtain⟨r,okr,nrr,vr,q249⟩:=C.Iw x l y m hx hy okl okm ll lm;obtain⟨v0,h0,q247⟩:=C.jJ (decide (za<0)) (.vs (ah r) r.length none) r (.inl rfl) okr nrr (UO C okr nrr vr (by rw[vl];exact lza) (by rw[vm];exact lzb));have ev:fK (decide (za<0)) (WV wB r)=za+zb:=by
    rw[vr,vl,vm];unfold fK ak;by_cases h:za<0 <;> by_cases h':zb<0 <;> simp[h,h']at hs ⊢ <;> omega
   rw[ev]at h0;refine⟨v0,h0,fun a0 a1 a5 a6 a7 a8 a9 lo wr=>?_⟩;have out:=fun hh=>h0.out (hh:=hh)
   unfold t202;by_cases h:za<0 <;> by_cases h':zb<0 <;> simp only[h,h',decide_true,decide_false]at hs q246a q246b q247
   all_goals first|(exfalso;revert hs;decide)|skip
   all_goals
   . cases h0;all_goals
     . repeat' first|apply aap|apply aM|apply aaF|apply aaY|apply acS|apply abu|apply bZ|apply fx|(apply abz;rfl)|(apply abD;rfl;rfl;first|exact q246a _|exact q246b _|exact q249 _|exact q247 _)|(apply acb;rfl;rfl;rfl)|(apply afx;rfl;rfl;rfl)|(apply aab;rfl;rfl)|(apply aaZ;rfl;rfl)
       all_goals try omega
       all_goals exact cD rfl rfl (out _)
 have q250:=C.pZ x l y m hx hy okl okm nrl nrm' ll lm;by_cases hc:WV wB m<=WV wB l
 . obtain⟨g,hg⟩:∃g,g=bD (WV wB l-WV wB m):=⟨_,rfl⟩;have g0:0<=g:=by rw[hg];unfold bD;split <;> omega
   rw[←hg]at q250;obtain⟨r,okr,nrr,vr,q251⟩:=C.BN x l y m hx hy okl okm nrl nrm' ll lm hc;obtain⟨v0,h0,q247⟩:=C.jJ (decide (za<0)) (.vs (ah r) r.length none) r (.inl rfl) okr nrr (Nat.le_trans (fQ (b:=wB) (by decide) okr nrr (n:=N) (by rw[vr,vl];omega)) (by omega));have ev:fK (decide (za<0)) (WV wB r)=za+zb:=by
    rw[vr,vl,vm];unfold fK ak;by_cases h:za<0 <;> by_cases h':zb<0 <;> simp[h,h']at hs ⊢ <;> omega
   rw[ev]at h0;refine⟨v0,h0,fun a0 a1 a5 a6 a7 a8 a9 lo wr=>?_⟩;have out:=fun hh=>h0.out (hh:=hh)
   unfold t202;by_cases h:za<0 <;> by_cases h':zb<0 <;> simp only[h,h',decide_true,decide_false]at hs q246a q246b q247
   all_goals first|(exfalso;revert hs;decide)|skip
   all_goals
   . cases h0;all_goals
     . repeat' first|apply aap|apply aM|apply aaF|apply aaY|apply acS|apply abu|apply bZ|apply fx|(apply abz;rfl)|(apply abF;rfl)|(apply aeN;rfl;rfl)|(apply abD;rfl;rfl;first|exact q246a _|exact q246b _|exact q250 _|exact q251 _|exact q247 _)|(apply acb;rfl;rfl;rfl)|(apply afx;rfl;rfl;rfl)|(apply aab;rfl;rfl)|(apply aaZ;rfl;rfl)|(intro _;omega)|intro _
       all_goals try omega
       all_goals exact cD rfl rfl (out _)
 . obtain⟨g,hg⟩:∃g,g=bD (WV wB l-WV wB m):=⟨_,rfl⟩;have g0:g<0:=by rw[hg];unfold bD;split <;> omega
   rw[←hg]at q250;obtain⟨r,okr,nrr,vr,q251⟩:=C.BN y m x l hy hx okm okl nrm' nrl lm ll (by omega);obtain⟨v0,h0,q247⟩:=C.jJ (decide (zb<0)) (.vs (ah r) r.length none) r (.inl rfl) okr nrr (Nat.le_trans (fQ (b:=wB) (by decide) okr nrr (n:=N) (by rw[vr,vm];omega)) (by omega));have ev:fK (decide (zb<0)) (WV wB r)=za+zb:=by
    rw[vr,vl,vm];unfold fK ak;by_cases h:za<0 <;> by_cases h':zb<0 <;> simp[h,h']at hs ⊢ <;> omega
   rw[ev]at h0;refine⟨v0,h0,fun a0 a1 a5 a6 a7 a8 a9 lo wr=>?_⟩;have out:=fun hh=>h0.out (hh:=hh)
   unfold t202;by_cases h:za<0 <;> by_cases h':zb<0 <;> simp only[h,h',decide_true,decide_false]at hs q246a q246b q247
   all_goals first|(exfalso;revert hs;decide)|skip
   all_goals
   . cases h0;all_goals
     . repeat' first|apply aap|apply aM|apply aaF|apply aaY|apply acS|apply abu|apply abJ|apply cX|(apply abF;rfl)|(apply aeN;rfl;rfl)|(apply abD;rfl;rfl;first|exact q246a _|exact q246b _|exact q250 _|exact q251 _|exact q247 _)|(apply acb;rfl;rfl;rfl)|(apply afx;rfl;rfl;rfl)|(apply aab;rfl;rfl)|(apply aaZ;rfl;rfl)|(intro _;omega)|intro _
       all_goals try omega
       all_goals exact cD rfl rfl (out _)
end Go.Ab.Ch1

/-
  Own work: integers of any size: sums, differences, comparisons, absolute values.
-/
namespace Go.Ab.Ch1
open Go.Ab.aY
variable {M:ax} {cap:Option Nat} {N:Nat}
theorem UQ {x:Int}(h:9223372036854775808<=x/\x<18446744073709551616):IntKind.i64.wrap x=x-18446744073709551616:=by
 simp only[IntKind.wrap,IntKind.bits,IntKind.signed];simp;omega
theorem UR {x:Int}(h : -18446744073709551616<=x/\x < -9223372036854775808):IntKind.i64.wrap x=x+18446744073709551616:=by
 simp only[IntKind.wrap,IntKind.bits,IntKind.signed];simp;omega
theorem agQ {t:Nat}{x y:aL}{l:List aU}{pe:List AV}{lo:List (Nat×AV)}{hp:ab}{df wr:List Nat}{a b v:Int}{Q:ao->Prop}(hx:(St.mk pe lo hp df).aa x=some (.iV a))(hy:(St.mk pe lo hp df).aa y=some (.iV b))(hv:IntKind.i64.wrap (a+b)=v)
 (h:WO M l ⟨⟨pe,(t,.iV v)::lo,hp,df⟩,wr⟩ Q):WO M (⟨.l t,.bin .add x y,none⟩::l) ⟨⟨pe,lo,hp,df⟩,wr⟩ Q:=
 aab (v:=.iV v) (by simp[aW,hx,hy,cN,hv]) rfl h
theorem cI {f n:Nat}{aO:List Nat}{res:List ew}{body:al}{ars:List AV}{v0:AV}(hft:M.FT f=some ⟨n,aO,res,body⟩)(hN:ars.length<=n)
 (h:W M body ⟨⟨aO.map (fun t=>(ars[t]?).getD cB),[],[],[]⟩,[]⟩ (lE v0 res)):cK M f ars v0:=jI hft hN h
theorem US (C:CI M N){a b:AV}{za zb:Int}(ha:aw a za)(hb:aw b zb)(lza:ak za<wB^N)(lzb:ak zb<wB^N):∃v0,aw v0 (za+zb)/\cK M 202 [a,b] v0:=by
 by_cases hsm:(∃s s',a = .agg [.iV s,.ae]/\b = .agg [.iV s',.ae])/\(-9223372036854775808<=za+zb/\za+zb<9223372036854775808)
 . obtain⟨⟨s,s',rfl,rfl⟩,hr⟩:=hsm;cases ha with
   | small h=>
   cases hb with
   | small h'=>
   refine⟨.agg [.iV (za+zb),.ae],.small hr,?_⟩;refine cI (by rw[C.ft];exact rV) (by simp) ?_;unfold qe;simp only[enter];repeat' first|apply aap|apply aM|apply aaF|apply aaY|apply abu|apply bZ|(apply abz;rfl)|(apply acY;rfl)|(apply adU;rfl;rfl)|(apply acR;rfl;rfl)|(apply ael;rfl;rfl;omega)|(apply aft;rfl;rfl;exact⟨rfl,by first|exact Nat.le_refl _|decide|(simp[overwrite]),rfl⟩;rfl)|(apply afw;rfl;(first|(focus((repeat' first|exact bW|assumption|apply bT);done))|exact dg (by simp));rfl)|(apply acK;rfl;rfl;rfl)|(apply aab;rfl;rfl)|(apply aaZ;rfl;rfl)|(intro _;omega)|intro _
   all_goals try omega
   all_goals exact cD rfl rfl (.same rfl rfl)
 . have main:∀{s s':Int} {wa wb:AV},a = .agg [.iV s,wa]->b = .agg [.iV s',wb]->∃v0,aw v0 (za+zb)/\∀a0 a1 a5 a6 a7 a8 a9 lo wr,W M t202 ⟨⟨[a0,a1,.ptr 0 0,.ptr 1 0,.ptr 2 0,a5,a6,a7,a8,a9],lo,[some (.cells [.iV s,wa] 131),some (.cells [.iV s',wb] 131),some (.cells [.iV 0,.ae] 131)],[]⟩,wr⟩ (lE v0 [.cell 2 true (.p 4)]):=
    fun e1 e2=>UP C (e1 ▸ ha) (e2 ▸ hb) lza lzb
   cases ha with
   | small h=>
    cases hb with
    | small h'=>
     have hne:¬(-9223372036854775808<=za+zb/\za+zb<9223372036854775808):=fun hr=>hsm ⟨⟨_,_,rfl,rfl⟩,hr⟩
     obtain⟨v0,h0,tl⟩:=main rfl rfl;refine⟨v0,h0,cI (by rw[C.ft];exact rV) (by simp) ?_⟩;obtain⟨c,hc,hc2⟩:∃c,IntKind.i64.wrap (za+zb)=c/\(c=za+zb-18446744073709551616/\9223372036854775808<=za+zb\/c=za+zb+18446744073709551616/\za+zb < -9223372036854775808):=by
      rcases Int.lt_or_le (za+zb) 0 with h1|h1
      . exact⟨_,UR (by omega),.inr ⟨rfl,by omega⟩⟩
      . exact⟨_,UQ (by omega),.inl ⟨rfl,by omega⟩⟩
     unfold qe;simp only[enter];exact gg1
    | @eZ σ z w hs ok nr hw hz=>
     cases w with
     | nil=>simp[WV]at hw
     | cons y w=>
     obtain⟨v0,h0,tl⟩:=main rfl rfl;refine⟨v0,h0,cI (by rw[C.ft];exact rV) (by simp) ?_⟩;unfold qe;simp only[enter];exact gg1
   | @eZ σ z w hs ok nr hw hz=>
    cases w with
    | nil=>simp[WV]at hw
    | cons y w=>
    cases hb with
    | small h'=>
     obtain⟨v0,h0,tl⟩:=main rfl rfl;refine⟨v0,h0,cI (by rw[C.ft];exact rV) (by simp) ?_⟩;unfold qe;simp only[enter];exact gg1
    | @eZ σ' z' w' hs' ok' nr' hw' hz'=>
     cases w' with
     | nil=>simp[WV]at hw'
     | cons y' w'=>
     obtain⟨v0,h0,tl⟩:=main rfl rfl;refine⟨v0,h0,cI (by rw[C.ft];exact rV) (by simp) ?_⟩;unfold qe;simp only[enter];exact gg1
end Go.Ab.Ch1

/-
  Own work: integers of any size: differences, absolute values, comparisons, machine integers.
-/
namespace Go.Ab.Ch1
open Go.Ab.aY
variable {M:ax} {cap:Option Nat} {N:Nat}
def Op1 (M:ax)(N g:Nat)(f:Int->Int):Prop:=∀v z,aw v z->ak z<wB^N->∃v0,aw v0 (f z)/\∀h,M.ext g [v] h=some ⟨v0,h,[]⟩
def vy (M:ax)(N g:Nat)(f:Int->Int->Int):Prop:=∀a b x y,aw a x->aw b y->ak x<wB^N->ak y<wB^N->∃v0,aw v0 (f x y)/\∀h,M.ext g [a,b] h=some ⟨v0,h,[]⟩
structure BO (M:ax)(N:Nat):Prop extends CI M N where
 lF:Op1 M N 216 (fun z=>-z)
 qi:vy M N 202 (· + ·)
structure CJ (M:ax)(N:Nat):Prop extends BO M N where
 BP:vy M N 217 (· - ·)
 od:∀v z,aw v z->∀h,M.ext 211 [v] h=some ⟨.iV (bD z),h,[]⟩
theorem iW {z:Int}:ak (-z)=ak z:=by unfold ak;split <;> split <;> omega
theorem UT (C:BO M N){a b:AV}{x y:Int}(ha:aw a x)(hb:aw b y)(lx:ak x<wB^N)(ly:ak y<wB^N):∃v0,aw v0 (x-y)/\cK M 217 [a,b] v0:=by
 obtain⟨v1,h1,q216⟩:=C.lF b y hb ly;obtain⟨v0,h0,q202⟩:=C.qi a v1 x (-y) ha h1 lx (by rw[iW];exact ly);have h0:aw v0 (x-y):=by rw[Int.sub_eq_add_neg];exact h0
 refine⟨v0,h0,cI (by rw[C.ft];exact UI) (by simp) ?_⟩;have out:=fun hh=>h0.out (hh:=hh)
 unfold Ir;simp only[enter];cases ha;all_goals
 . cases hb;all_goals
   . cases h0;all_goals
     . repeat' first|(apply aeS;rfl;rfl;(first|(simp only[nca];rfl)|rfl);first|exact q216 _|exact q202 _)|(apply aft;rfl;rfl;exact⟨rfl,by first|exact Nat.le_refl _|decide|(simp[overwrite]),rfl⟩;rfl)|(apply afw;rfl;(first|(focus((repeat' first|exact bW|assumption|apply bT);done))|exact dg (by simp));rfl)|apply aap|apply aM|apply aaF|apply aaY|apply abu|apply aeb|apply aem|(apply aeJ;rfl;rfl;(first|(simp only[nca];rfl)|rfl))|(apply aeU;rfl;(first|(simp only[nca];rfl)|rfl);(first|(simp only[nca];rfl)|rfl))|(apply acK;rfl;rfl;rfl)
       all_goals exact cD rfl rfl (out _)
theorem UU (C:CJ M N){v:AV}{z:Int}(hv:aw v z)(lz:ak z<wB^N):∃v0,aw v0 (ak z)/\cK M 210 [v] v0:=by
 by_cases hn:z<0
 . obtain⟨v0,h0,q216⟩:=C.lF v z hv lz;have h0:aw v0 (ak z):=by rw[show ak z = -z from if_pos hn];exact h0
   refine⟨v0,h0,cI (by rw[C.ft];exact Iq) (by simp) ?_⟩;have out:=fun hh=>h0.out (hh:=hh)
   unfold BK;simp only[enter];cases hv with
   | small h=>
    cases h0;all_goals
    . repeat' first|apply aap|apply aM|apply aaF|apply aaY|apply abu|apply bZ|(apply abz;rfl)|(apply ada;rfl;rfl)|(apply abD;rfl;rfl;first|exact q216 _)|(apply aft;rfl;rfl;exact⟨rfl,by first|exact Nat.le_refl _|decide|(simp[overwrite]),rfl⟩;rfl)|(apply afw;rfl;(first|(focus((repeat' first|exact bW|assumption|apply bT);done))|exact dg (by simp));rfl)|(apply acK;rfl;rfl;rfl)|(apply aab;rfl;rfl)|(intro _;omega)|intro _
      all_goals try omega
      all_goals exact cD rfl rfl (out _)
   | @eZ σ z w hs ok nr hw hz=>
    have e:σ<0:=by rcases hs with rfl|rfl <;> omega
    cases h0;all_goals
    . repeat' first|apply aap|apply aM|apply aaF|apply aaY|apply abu|apply bZ|(apply abz;rfl)|(apply ada;rfl;rfl)|(apply abD;rfl;rfl;first|exact q216 _)|(apply aft;rfl;rfl;exact⟨rfl,by first|exact Nat.le_refl _|decide|(simp[overwrite]),rfl⟩;rfl)|(apply afw;rfl;(first|(focus((repeat' first|exact bW|assumption|apply bT);done))|exact dg (by simp));rfl)|(apply acK;rfl;rfl;rfl)|(apply aab;rfl;rfl)|(intro _;omega)|intro _
      all_goals try omega
      all_goals exact cD rfl rfl (out _)
 . have e:ak z=z:=if_neg hn;rw[e];refine⟨v,hv,cI (by rw[C.ft];exact Iq) (by simp) ?_⟩;have out:=fun hh=>hv.out (hh:=hh)
   unfold BK;simp only[enter];cases hv with
   | small h=>
    repeat' first|apply aap|apply aM|apply aaF|apply aaY|apply abu|apply abJ|(apply abF;rfl)|(apply ada;rfl;rfl)|(apply aft;rfl;rfl;exact⟨rfl,by first|exact Nat.le_refl _|decide|(simp[overwrite]),rfl⟩;rfl)|(apply afw;rfl;(first|(focus((repeat' first|exact bW|assumption|apply bT);done))|exact dg (by simp));rfl)|(apply acK;rfl;rfl;rfl)|(apply aab;rfl;rfl)|(intro _;omega)|intro _
    all_goals try omega
    all_goals exact cD rfl rfl (out _)
   | @eZ σ z w hs ok nr hw hz=>
    have e:¬σ<0:=by rcases hs with rfl|rfl <;> omega
    repeat' first|apply aap|apply aM|apply aaF|apply aaY|apply abu|apply abJ|(apply abF;rfl)|(apply ada;rfl;rfl)|(apply aft;rfl;rfl;exact⟨rfl,by first|exact Nat.le_refl _|decide|(simp[overwrite]),rfl⟩;rfl)|(apply afw;rfl;(first|(focus((repeat' first|exact bW|assumption|apply bT);done))|exact dg (by simp));rfl)|(apply acK;rfl;rfl;rfl)|(apply aab;rfl;rfl)|(intro _;omega)|intro _
    all_goals try omega
    all_goals exact cD rfl rfl (out _)
theorem Iy {x y:Int}:bD (x-y)=if x<y then -1 else if y<x then 1 else 0:=by
 unfold bD;by_cases h:x<y
 . rw[if_pos h,if_pos (by omega)]
 . rw[if_neg h,if_neg (by omega)];by_cases h':y<x
   . rw[if_pos h',if_pos (by omega)]
   . rw[if_neg h',if_neg (by omega)]
theorem UW (C:CJ M N){a b:AV}{x y:Int}(ha:aw a x)(hb:aw b y)(lx:ak x<wB^N)(ly:ak y<wB^N):cK M 167 [a,b] (.iV (bD (x-y))):=by
 obtain⟨v0,h0,q217⟩:=C.BP a b x y ha hb lx ly;have q211:=C.od v0 (x-y) h0;refine cI (by rw[C.ft];exact UJ) (by simp) ?_;unfold Is;simp only[enter];cases ha with
 | small h=>
  cases hb with
  | small h'=>
   by_cases h1:x<y
   . rw[Iy,if_pos h1];exact gg1
   . rw[Iy,if_neg h1];by_cases h2:y<x
     . rw[if_pos h2];exact gg1
     . rw[if_neg h2];exact gg1
  | @eZ σ z w hs ok nr hw hz=>
   cases w with
   | nil=>simp[WV]at hw
   | cons u w=>
   exact gg5
 | @eZ σ z w hs ok nr hw hz=>
  cases w with
  | nil=>simp[WV]at hw
  | cons u w=>
  cases hb;all_goals
  . exact gg5
theorem UX (hft:M.FT=FT)(s:Int):cK M 168 [.iV s] (.agg [.iV s,.ae]):=by
 refine cI (by rw[hft];exact UK) (by simp) ?_;unfold It;simp only[enter];exact gg1
end Go.Ab.Ch1

/-
  Own work: integers of any size: products.
-/
namespace Go.Ab.Ch1
open Go.Ab.aY
variable {M:ax} {cap:Option Nat} {N:Nat}
def t198:al:=
 zR [zt 50 2 2,
      z1 51 246 50,
      zn 49 51,
      ze 52 0 49,
      ze 53 1 49,
      zw 7 52,
      zw 8 53]
    (
     zR [zt 55 2 3,
       z1 56 246 55,
       zn 54 56,
       ze 57 0 54,
       ze 58 1 54,
       zw 9 57,
       zw 10 58]
     (
      zR [zm 59 7,
        zm 60 9,
        ⟨(.l 61),.eq true .bool (.l 59) (.l 60),none⟩,
        zm 62 8,
        zm 63 10,
        z2 64 248 62 63,
        z2 65 247 61 64,
        zs 2 4 65]
      (.ret)))
theorem iD {x:Int}:0<=ak x:=by unfold ak;split <;> omega
theorem Iz {x y:Int}(h:x<0↔y<0):ak x*ak y=x*y:=by
 unfold ak;by_cases h1:x<0
 . rw[if_pos h1,if_pos (h.1 h1),Int.neg_mul_neg]
 . rw[if_neg h1,if_neg (fun h2=>h1 (h.2 h2))]
theorem IA {x y:Int}(h:¬(x<0↔y<0)) : -(ak x*ak y)=x*y:=by
 unfold ak;by_cases h1:x<0
 . rw[if_pos h1,if_neg (fun h2=>h ⟨fun _=>h2,fun _=>h1⟩),Int.neg_mul,Int.neg_neg]
 . rw[if_neg h1,if_pos (Decidable.byContradiction fun h2=>h ⟨fun h3=>absurd h3 h1,fun h3=>absurd h3 h2⟩),Int.mul_neg,Int.neg_neg]
theorem UY {l m r:List Int}(C:CI M N)(ok:okW wB r)(nr:az r)(okl:okW wB l)(okm:okW wB m)(hr:WV wB r=WV wB l*WV wB m)(hl:WV wB l<wB^N)(hm:WV wB m<wB^N):r.length<=1000001:=by
 have hN:=C.lN;have hp:wB^(N+N)=wB^N*wB^N:=Int.pow_add _ _ _;have l0:=cn (b:=wB) (by decide) okl;have m0:=cn (b:=wB) (by decide) okm;have hp0:0<wB^N:=Int.pow_pos (by decide);have h1:WV wB l*WV wB m<wB^N*wB^N:=by
  have a1:=Int.mul_le_mul_of_nonneg_left (Int.le_of_lt hm) l0;have a2:=Int.mul_lt_mul_of_pos_right hl hp0;omega
 exact Nat.le_trans (fQ (b:=wB) (by decide) ok nr (n:=N+N) (by rw[hr,hp];exact h1)) (by omega)
theorem UZ (C:CI M N){s s' za zb:Int}{wa wb:AV}(ha:aw (.agg [.iV s,wa]) za)(hb:aw (.agg [.iV s',wb]) zb)(lza:ak za<wB^N)(lzb:ak zb<wB^N) :
 ∃v0,aw v0 (za*zb)/\∀a0 a1 a5 a6 a7 a8 a9 aA lo wr,W M t198 ⟨⟨[a0,a1,.ptr 0 0,.ptr 1 0,.ptr 2 0,a5,a6,a7,a8,a9,aA],lo,[some (.cells [.iV s,wa] 131),some (.cells [.iV s',wb] 131),some (.cells [.iV 0,.ae] 131)],[]⟩,wr⟩ (lE v0 [.cell 2 true (.p 4)]):=by
 obtain⟨x,l,hx,okl,nrl,vl,q246a⟩:=C.km _ za ha;obtain⟨y,m,hy,okm,nrm',vm,q246b⟩:=C.km _ zb hb;have ll:=C.len okl nrl vl lza;have lm:=C.len okm nrm' vm lzb;obtain⟨r,okr,nrr,vr,q248⟩:=C.Ix x l y m hx hy okl okm ll lm;have lr:=UY C okr nrr okl okm vr (by rw[vl];exact lza) (by rw[vm];exact lzb);rw[vl,vm]at vr;by_cases hs:za<0↔zb<0
 . obtain⟨v0,h0,q247⟩:=C.jJ false (.vs (ah r) r.length none) r (.inl rfl) okr nrr lr;have h0:aw v0 (za*zb):=by rw[←Iz hs,←vr];exact h0
   refine⟨v0,h0,fun a0 a1 a5 a6 a7 a8 a9 aA lo wr=>?_⟩;have out:=fun hh=>h0.out (hh:=hh)
   unfold t198;by_cases h:za<0 <;> by_cases h':zb<0 <;> simp only[h,h',decide_true,decide_false]at hs q246a q246b
   all_goals first|(exfalso;revert hs;decide)|skip
   all_goals
   . cases h0;all_goals
     . repeat' first|apply aap|apply aM|apply aaF|apply aaY|apply abu|(apply abD;rfl;rfl;first|exact q246a _|exact q246b _|exact q248 _|exact q247 _)|(apply acb;rfl;rfl;rfl)|(apply afx;rfl;rfl;rfl)|(apply aab;rfl;rfl)|(apply aaZ;rfl;rfl)
       all_goals exact cD rfl rfl (out _)
 . obtain⟨v0,h0,q247⟩:=C.jJ true (.vs (ah r) r.length none) r (.inl rfl) okr nrr lr;have h0:aw v0 (za*zb):=by rw[←IA hs,←vr];exact h0
   refine⟨v0,h0,fun a0 a1 a5 a6 a7 a8 a9 aA lo wr=>?_⟩;have out:=fun hh=>h0.out (hh:=hh)
   unfold t198;by_cases h:za<0 <;> by_cases h':zb<0 <;> simp only[h,h',decide_true,decide_false]at hs q246a q246b
   all_goals first|(exfalso;revert hs;decide)|skip
   all_goals
   . cases h0;all_goals
     . repeat' first|apply aap|apply aM|apply aaF|apply aaY|apply abu|(apply abD;rfl;rfl;first|exact q246a _|exact q246b _|exact q248 _|exact q247 _)|(apply acb;rfl;rfl;rfl)|(apply afx;rfl;rfl;rfl)|(apply aab;rfl;rfl)|(apply aaZ;rfl;rfl)
       all_goals exact cD rfl rfl (out _)
theorem Va (C:CI M N){a b:AV}{za zb:Int}(ha:aw a za)(hb:aw b zb)(lza:ak za<wB^N)(lzb:ak zb<wB^N):∃v0,aw v0 (za*zb)/\cK M 198 [a,b] v0:=by
 have main:∀{s s':Int} {wa wb:AV},a = .agg [.iV s,wa]->b = .agg [.iV s',wb]->∃v0,aw v0 (za*zb)/\∀a0 a1 a5 a6 a7 a8 a9 aA lo wr,W M t198 ⟨⟨[a0,a1,.ptr 0 0,.ptr 1 0,.ptr 2 0,a5,a6,a7,a8,a9,aA],lo,[some (.cells [.iV s,wa] 131),some (.cells [.iV s',wb] 131),some (.cells [.iV 0,.ae] 131)],[]⟩,wr⟩ (lE v0 [.cell 2 true (.p 4)]):=
  fun e1 e2=>UZ C (e1 ▸ ha) (e2 ▸ hb) lza lzb
 cases ha with
 | small h=>
  cases hb with
  | small h'=>
   have q245a:=fun k=>C.rU za k h
   have q245b:=fun k=>C.rU zb k h'
   have ga:0<=ak za/\ak za<18446744073709551616:=by unfold ak;split <;> omega
   have gb:0<=ak zb/\ak zb<18446744073709551616:=by unfold ak;split <;> omega
   have q244:=fun k=>C.nZ (ak za) (ak zb) k ga gb
   have hm:=vj ga gb;have ms:=@Iz za zb;have md:=@IA za zb;obtain⟨m,hmm⟩:∃m,m=ak za*ak zb:=⟨_,rfl⟩;rw[←hmm]at q244 hm ms md;by_cases hbig:m<=9223372036854775807
   . by_cases hs:za<0↔zb<0
     . refine⟨.agg [.iV m,.ae],by rw[←ms hs];exact .small (by omega),?_⟩;refine cI (by rw[C.ft];exact rW) (by simp) ?_;have e:m%18446744073709551616=m:=by omega
       have e2:m/18446744073709551616=0:=by omega
       rw[e,e2]at q244;unfold qf;simp only[enter];by_cases h1:za<0 <;> by_cases h2:zb<0
       all_goals try omega
       all_goals
       . repeat' first|(apply aeS;rfl;rfl;(first|(simp only[nca];rfl)|rfl);first|exact q245a _|exact q245b _|exact q244 _)|apply aap|apply aM|apply aaF|apply aaY|apply abu|apply abJ|apply bZ|apply aeb|apply aem|(apply aeZ;rfl)|(apply aeJ;rfl;rfl;(first|(simp only[nca];rfl)|rfl))|(apply abz;rfl)|(apply abF;rfl)|(apply acY;rfl)|(apply ada;rfl;rfl)|(apply afy;rfl;rfl)|(apply adE;rfl;rfl)|(apply afJ;rfl;omega)|(apply acR;rfl;rfl)|(apply aft;rfl;rfl;exact⟨rfl,by first|exact Nat.le_refl _|decide|(simp[overwrite]),rfl⟩;rfl)|(apply afw;rfl;(first|(focus((repeat' first|exact bW|assumption|apply bT);done))|exact dg (by simp));rfl)|(apply acK;rfl;rfl;rfl)|(apply aab;rfl;rfl)|(apply aaZ;rfl;rfl)|(intro _;omega)|intro _
         all_goals try omega
         all_goals exact cD rfl rfl (.same rfl rfl)
     . refine⟨.agg [.iV (-m),.ae],by rw[←md hs];exact .small (by omega),?_⟩;refine cI (by rw[C.ft];exact rW) (by simp) ?_;have e:m%18446744073709551616=m:=by omega
       have e2:m/18446744073709551616=0:=by omega
       rw[e,e2]at q244;unfold qf;simp only[enter];by_cases h1:za<0 <;> by_cases h2:zb<0
       all_goals try omega
       all_goals
       . repeat' first|(apply aeS;rfl;rfl;(first|(simp only[nca];rfl)|rfl);first|exact q245a _|exact q245b _|exact q244 _)|apply aap|apply aM|apply aaF|apply aaY|apply abu|apply bZ|apply aeb|apply aem|(apply aeZ;rfl)|(apply aeJ;rfl;rfl;(first|(simp only[nca];rfl)|rfl))|(apply abz;rfl)|(apply acY;rfl)|(apply ada;rfl;rfl)|(apply afy;rfl;rfl)|(apply adE;rfl;rfl)|(apply afJ;rfl;omega)|(apply acR;rfl;rfl)|(apply aft;rfl;rfl;exact⟨rfl,by first|exact Nat.le_refl _|decide|(simp[overwrite]),rfl⟩;rfl)|(apply afw;rfl;(first|(focus((repeat' first|exact bW|assumption|apply bT);done))|exact dg (by simp));rfl)|(apply agb;rfl;omega)|(apply acK;rfl;rfl;rfl)|(apply aab;rfl;rfl)|(apply aaZ;rfl;rfl)|(intro _;omega)|intro _
         all_goals try omega
         all_goals exact cD rfl rfl (.same rfl rfl)
   . obtain⟨v0,h0,tl⟩:=main rfl rfl;refine⟨v0,h0,cI (by rw[C.ft];exact rW) (by simp) ?_⟩;unfold qf;simp only[enter];exact gg16
  | @eZ σ z w hs ok nr hw hz=>
   cases w with
   | nil=>simp[WV]at hw
   | cons y w=>
   obtain⟨v0,h0,tl⟩:=main rfl rfl;refine⟨v0,h0,cI (by rw[C.ft];exact rW) (by simp) ?_⟩;unfold qf;simp only[enter];exact gg16
 | @eZ σ z w hs ok nr hw hz=>
  cases w with
  | nil=>simp[WV]at hw
  | cons y w=>
  cases hb;all_goals
  . obtain⟨v0,h0,tl⟩:=main rfl rfl;refine⟨v0,h0,cI (by rw[C.ft];exact rW) (by simp) ?_⟩;unfold qf;simp only[enter];exact gg16
end Go.Ab.Ch1

/-
  Own work: integers of any size: quotients and rests.
-/
namespace Go.Ab.Ch1
open Go.Ab.aY
variable {M:ax} {cap:Option Nat} {N:Nat}
structure CD (M:ax)(N:Nat):Prop extends CJ M N where
 n1:1<=N
 mH:∀s h,M.ext 168 [.iV s] h=some ⟨.agg [.iV s,.ae],h,[]⟩
 IB:∀x l y m,db x l->db y m->okW wB l->okW wB m->az l->az m->l.length<=500000->m.length<=500000->m≠[]->∃qv q rv r,db qv q/\db rv r/\okW wB q/\az q/\okW wB r/\az r/\WV wB q=WV wB l/WV wB m/\WV wB r=WV wB l%WV wB m/\∀h,M.ext 253 [x,y] h=some ⟨.aq [qv,rv],h,[]⟩
def t205:al:=
 zR [zt 52 2 2,
      z1 53 246 52,
      zn 51 53,
      ze 54 0 51,
      ze 55 1 51,
      zw 8 54,
      zw 9 55]
    (
     zR [zt 57 2 3,
       z1 58 246 57,
       zn 56 58,
       ze 59 0 56,
       ze 60 1 56,
       zn 10 59,
       zw 10 60]
     (
      zR [zm 62 9,
        zm 63 10,
        z2 64 253 62 63,
        zn 61 64,
        ze 65 0 61,
        ze 66 1 61,
        zw 11 65,
        zw 12 66]
      (
       zR [zm 67 8,
         zm 68 11,
         z2 69 247 67 68,
         zm 70 8,
         zm 71 12,
         z2 72 247 70 71,
         ⟨(.p 13),.alloc 131 [.iV (0),.ae],none⟩,
         ⟨(.p 14),.alloc 131 [.iV (0),.ae],none⟩,
         zs 2 13 69,
         zs 2 14 72]
       (
        .seq (zR [zt 73 2 14,
           z1 74 211 73,
           zc 75 .lss 74 0]
         (
          .cond (.l 75)
          (.draw [(zt 76 2 13,[]),
            (⟨(.l 77),.call (kF 168) [(kI 1)],none⟩,[0]),
            (z2 78 217 76 77,[]),
            (zt 79 2 14,[0,1,2]),
            (zt 80 2 3,[0,1,2,3]),
            (z2 81 202 79 80,[]),
            (zs 2 13 78,[]),
            (zs 2 14 81,[])])
          (.skip)))
        (
         .seq (.draw [(zt 82 2 13,[]),
           (zt 83 2 14,[0]),
           (zs 2 4 82,[1]),
           (zs 2 5 83,[])])
         (.ret))))))
theorem Vb {x y:Int}(hy:0<y):(x.tmod y<0->x/y=x.tdiv y-1/\x%y=x.tmod y+y)/\(0<=x.tmod y->x/y=x.tdiv y/\x%y=x.tmod y)/\(-y<x.tmod y/\x.tmod y<y):=by
 have e:=Int.mul_tdiv_add_tmod x y;have hb : -y<x.tmod y/\x.tmod y<y:=by
  rcases Int.le_total 0 x with h|h
  . rw[Int.tmod_eq_emod_of_nonneg h];have:=Int.emod_nonneg x (show y≠0 by omega);have:=Int.emod_lt_of_pos x hy;omega
  . have e:x.tmod y = -(-x%y):=by
     rw[←Int.tmod_eq_emod_of_nonneg (show 0 <= -x by omega),Int.neg_tmod];omega
    have:=Int.emod_nonneg (-x) (show y≠0 by omega);have:=Int.emod_lt_of_pos (-x) hy;omega
 refine⟨fun h=>?_,fun h=>?_,hb⟩
 . obtain⟨h1,h2⟩:=mG (x:=x) (y:=y) (q:=x.tdiv y-1) (r:=x.tmod y+y) (by rw[Int.mul_sub,Int.mul_one];omega) (by omega) (by omega);exact⟨h1.symm,h2.symm⟩
 . obtain⟨h1,h2⟩:=mG (x:=x) (y:=y) (q:=x.tdiv y) (r:=x.tmod y) (by omega) h hb.2;exact⟨h1.symm,h2.symm⟩
theorem Vc {x y q r:Int}(hy:0<y)(hx:x<0)(hq:q = -x/y)(hr:r = -x%y):(r=0->x/y = -q/\x%y=0)/\(r≠0->x/y = -q-1/\x%y=y-r)/\(0<=r/\r<y)/\0<=q/\q <= -x:=by
 have e:=Int.mul_ediv_add_emod (-x) y;have r0:=Int.emod_nonneg (-x) (show y≠0 by omega);have r1:=Int.emod_lt_of_pos (-x) hy;have q0:0 <= -x/y:=Int.ediv_nonneg (by omega) (by omega);have q1 : -x/y <= -x:=Int.ediv_le_self _ (by omega);rw[←hq,←hr]at e;rw[←hr]at r0 r1;rw[←hq]at q0 q1;refine⟨fun h=>?_,fun h=>?_,⟨r0,r1⟩,q0,q1⟩
 . obtain⟨h1,h2⟩:=mG (x:=x) (y:=y) (q:=-q) (r:=0) (by rw[Int.mul_neg];omega) (by omega) hy;exact⟨h1.symm,h2.symm⟩
 . obtain⟨h1,h2⟩:=mG (x:=x) (y:=y) (q:=-q-1) (r:=y-r) (by rw[Int.mul_sub,Int.mul_neg,Int.mul_one];omega) (by omega) (by omega);exact⟨h1.symm,h2.symm⟩
theorem BT {a b:AV}{x y:Int}{hh:ab}(ha:aw a x)(hb:aw b y):fa (aV [a,b]) hh (.aq [a,b]):=by
 cases ha;all_goals
 . cases hb;all_goals exact .same (by simp[aV,AV.top,bk,fV]) (by simp[aV,bK,cJ,lS])
theorem cV {x:Int}(h:0<=x):ak x=x:=if_neg (by omega)
theorem Vd (C:CD M N):(1:Int)<wB^N:=by
 have h:=gJ (b:=wB) (by decide) (m:=1) (n:=N) C.n1;have h3:wB^1=18446744073709551616:=rfl;omega
theorem Ve (C:CD M N){s s' za zb:Int}{wa wb:AV}(ha:aw (.agg [.iV s,wa]) za)(hb:aw (.agg [.iV s',wb]) zb)(lza:ak za<wB^N)(lzb:ak zb<wB^N)(hpos:0<zb) :
 ∃q r,aw q (za/zb)/\aw r (za%zb)/\∀a0 a1 a6 a7 a8 a9 aA aB aC aD aE lo wr,W M t205 ⟨⟨[a0,a1,.ptr 0 0,.ptr 1 0,.ptr 2 0,.ptr 3 0,a6,a7,a8,a9,aA,aB,aC,aD,aE],lo,[some (.cells [.iV s,wa] 131),some (.cells [.iV s',wb] 131),some (.cells [.iV 0,.ae] 131),some (.cells [.iV 0,.ae] 131)],[]⟩,wr⟩ (lE (.aq [q,r]) [.cell 2 true (.p 4),.cell 2 true (.p 5)]):=by
 obtain⟨x,l,hx,okl,nrl,vl,q246a⟩:=C.km _ za ha;obtain⟨y,m,hy,okm,nrm',vm,q246b⟩:=C.km _ zb hb;have ll:=C.len okl nrl vl lza;have lm:=C.len okm nrm' vm lzb;have hb0:¬zb<0:=by omega
 rw[cV (by omega)]at vm lzb;have mne:m≠[]:=fun e=>by rw[e]at vm;simp[WV]at vm;omega
 obtain⟨qv,q,rv,r,hq,hr,okq,nrq,okr,nrr,vq,vr,q253⟩:=C.IB x l y m hx hy okl okm nrl nrm' ll lm mne;rw[vl,vm]at vq vr;have q0:=cn (b:=wB) (by decide) okq;have r0:=cn (b:=wB) (by decide) okr;have a0:=iD (x:=za);have q1:WV wB q<=ak za:=by rw[vq];exact Int.ediv_le_self _ a0
 have r1:WV wB r<zb:=by rw[vr];exact Int.emod_lt_of_pos _ hpos
 have lN:=C.lN;have lq:q.length<=1000001:=Nat.le_trans (fQ (b:=wB) (by decide) okq nrq (n:=N) (by omega)) (by omega);have lr:r.length<=1000001:=Nat.le_trans (fQ (b:=wB) (by decide) okr nrr (n:=N) (by omega)) (by omega);simp only[hb0,decide_false]at q246b;by_cases hn:za<0
 . simp only[hn,decide_true]at q246a;rw[show ak za = -za from if_pos hn]at vq vr q1 lza;obtain⟨d1,d2,d3,d4,d5⟩:=Vc hpos hn vq vr;obtain⟨vQ,hQ,q247q⟩:=C.jJ true qv q hq okq nrq lq;obtain⟨vR,hR,q247r⟩:=C.jJ true rv r hr okr nrr lr;have hQ:aw vQ (-WV wB q):=hQ;have hR:aw vR (-WV wB r):=hR;have q211:=C.od vR _ hR;by_cases hz:WV wB r=0
   . obtain⟨e1,e2⟩:=d1 hz;rw[show bD (-WV wB r)=0 by rw[hz];rfl]at q211;refine⟨vQ,vR,by rw[e1];exact hQ,by rw[e2];rw[hz]at hR;exact hR,fun a0 a1 a6 a7 a8 a9 aA aB aC aD aE lo wr=>?_⟩;have out:=fun hh=>BT (hh:=hh) hQ hR
     unfold t205;cases hQ;all_goals
     . cases hR;all_goals
       . repeat' first|apply aap|apply aM|apply aaF|apply aaY|apply abu|apply abJ|apply aeb|apply aem|(apply aeJ;rfl;rfl;(first|(simp only[nca];rfl)|rfl))|(apply aeU;rfl;(first|(simp only[nca];rfl)|rfl);(first|(simp only[nca];rfl)|rfl))|(apply abF;rfl)|(apply ada;rfl;rfl)|(apply abD;rfl;rfl;first|exact q246a _|exact q246b _|exact q253 _|exact q247q _|exact q247r _|exact q211 _)|(apply acb;rfl;rfl;rfl)|(apply acK;rfl;rfl;rfl)|(apply afx;rfl;rfl;rfl)|(apply aab;rfl;rfl)|(apply aaZ;rfl;rfl)|(intro _;omega)|intro _
         all_goals try omega
         all_goals exact cD rfl rfl (out _)
   . obtain⟨e1,e2⟩:=d2 hz;rw[show bD (-WV wB r) = -1 from if_pos (by omega)]at q211;have q168:=C.mH 1;have h1:=Vd C;obtain⟨vS,hS,q217⟩:=C.BP vQ _ _ 1 hQ (.small (by decide)) (by rw[iW,cV q0];omega) h1;obtain⟨vT,hT,q202⟩:=C.qi vR _ _ zb hR hb (by rw[iW,cV r0];omega) (by rw[cV (by omega)];exact lzb);have hS:aw vS (za/zb):=by rw[e1];exact hS
     have hT:aw vT (za%zb):=by rw[e2,show zb-WV wB r = -WV wB r+zb by omega];exact hT
     refine⟨vS,vT,hS,hT,fun a0 a1 a6 a7 a8 a9 aA aB aC aD aE lo wr=>?_⟩;have out:=fun hh=>BT (hh:=hh) hS hT
     unfold t205;cases hQ;all_goals
     . cases hR;all_goals
       . cases hS;all_goals
         . cases hT;all_goals
           . repeat' first|(apply aeS;rfl;rfl;(first|(simp only[nca];rfl)|rfl);first|exact q168 _|exact q217 _|exact q202 _)|apply aap|apply aM|apply aaF|apply aaY|apply abu|apply aeb|apply aem|(apply aeJ;rfl;rfl;(first|(simp only[nca];rfl)|rfl))|(apply aeU;rfl;(first|(simp only[nca];rfl)|rfl);(first|(simp only[nca];rfl)|rfl))|(apply abz;rfl)|(apply ada;rfl;rfl)|(apply abD;rfl;rfl;first|exact q246a _|exact q246b _|exact q253 _|exact q247q _|exact q247r _|exact q211 _)|(apply acb;rfl;rfl;rfl)|(apply acK;rfl;rfl;rfl)|(apply afx;rfl;rfl;rfl)|(apply aab;rfl;rfl)|(apply aaZ;rfl;rfl)|(intro _;omega)|intro _
             all_goals try omega
             all_goals exact cD rfl rfl (out _)
 . simp only[hn,decide_false]at q246a;rw[show ak za=za from if_neg hn]at vq vr;obtain⟨vQ,hQ,q247q⟩:=C.jJ false qv q hq okq nrq lq;obtain⟨vR,hR,q247r⟩:=C.jJ false rv r hr okr nrr lr;have hQ:aw vQ (za/zb):=by rw[←vq];exact hQ
   have q211:=C.od vR _ hR;have hR:aw vR (za%zb):=by rw[←vr];exact hR
   obtain⟨g,hg⟩:∃g,g=bD (fK false (WV wB r)):=⟨_,rfl⟩;have g0:0<=g:=by rw[hg];unfold bD fK;simp;split <;> omega
   rw[←hg]at q211;refine⟨vQ,vR,hQ,hR,fun a0 a1 a6 a7 a8 a9 aA aB aC aD aE lo wr=>?_⟩;have out:=fun hh=>BT (hh:=hh) hQ hR
   unfold t205;cases hQ;all_goals
   . cases hR;all_goals
     . repeat' first|apply aap|apply aM|apply aaF|apply aaY|apply abu|apply abJ|apply aeb|apply aem|(apply aeJ;rfl;rfl;(first|(simp only[nca];rfl)|rfl))|(apply aeU;rfl;(first|(simp only[nca];rfl)|rfl);(first|(simp only[nca];rfl)|rfl))|(apply abF;rfl)|(apply ada;rfl;rfl)|(apply abD;rfl;rfl;first|exact q246a _|exact q246b _|exact q253 _|exact q247q _|exact q247r _|exact q211 _)|(apply acb;rfl;rfl;rfl)|(apply acK;rfl;rfl;rfl)|(apply afx;rfl;rfl;rfl)|(apply aab;rfl;rfl)|(apply aaZ;rfl;rfl)|(intro _;omega)|intro _
       all_goals try omega
       all_goals exact cD rfl rfl (out _)
end Go.Ab.Ch1

/-
  Own work: integers of any size: quotients and rests, the whole.
-/
namespace Go.Ab.Ch1
open Go.Ab.aY
variable {M:ax} {cap:Option Nat} {N:Nat}
theorem Vf (C:CD M N){a b:AV}{za zb:Int}(ha:aw a za)(hb:aw b zb)(lza:ak za<wB^N)(lzb:ak zb<wB^N)(hpos:0<zb):∃q r,aw q (za/zb)/\aw r (za%zb)/\cK M 205 [a,b] (.aq [q,r]):=by
 have main:∀{s s':Int} {wa wb:AV},a = .agg [.iV s,wa]->b = .agg [.iV s',wb]->∃q r,aw q (za/zb)/\aw r (za%zb)/\∀a0 a1 a6 a7 a8 a9 aA aB aC aD aE lo wr,W M t205 ⟨⟨[a0,a1,.ptr 0 0,.ptr 1 0,.ptr 2 0,.ptr 3 0,a6,a7,a8,a9,aA,aB,aC,aD,aE],lo,[some (.cells [.iV s,wa] 131),some (.cells [.iV s',wb] 131),some (.cells [.iV 0,.ae] 131),some (.cells [.iV 0,.ae] 131)],[]⟩,wr⟩ (lE (.aq [q,r]) [.cell 2 true (.p 4),.cell 2 true (.p 5)]):=
  fun e1 e2=>Ve C (e1 ▸ ha) (e2 ▸ hb) lza lzb hpos
 cases ha with
 | small h=>
  cases hb with
  | small h'=>
   by_cases hmin:za = -9223372036854775808
   . obtain⟨q,r,hq,hr,tl⟩:=main rfl rfl;refine⟨q,r,hq,hr,cI (by rw[C.ft];exact rX) (by simp) ?_⟩;unfold qh;simp only[enter];exact gg7
   . obtain⟨d1,d2,d3⟩:=Vb (x:=za) hpos;have hq : -9223372036854775807<=za.tdiv zb/\za.tdiv zb<=9223372036854775807:=by
      have h1:(za.tdiv zb).natAbs<=za.natAbs:=by rw[Int.natAbs_tdiv];exact Nat.div_le_self _ _
      omega
     by_cases hr:za.tmod zb<0
     . obtain⟨e1,e2⟩:=d1 hr;refine⟨_,_,by rw[e1];exact .small (by omega),by rw[e2];exact .small (by omega),cI (by rw[C.ft];exact rX) (by simp) ?_⟩;unfold qh;simp only[enter];repeat' first|apply aap|apply aM|apply aaF|apply aaY|apply abu|apply bZ|(apply afB;rfl)|(apply abz;rfl)|(apply acY;rfl)|(apply ada;rfl;rfl)|(apply aef;rfl;rfl)|(apply acR;rfl;rfl)|(apply ael;rfl;rfl;omega)|(apply aes;rfl;rfl;omega)|(apply afZ;rfl;rfl;omega)|(apply afY;rfl;rfl;omega;omega)|(apply acb;rfl;rfl;rfl)|(apply acK;rfl;rfl;rfl)|(apply afx;rfl;rfl;rfl)|(apply aab;rfl;rfl)|(apply aaZ;rfl;rfl)|(intro _;omega)|intro _
       all_goals try omega
       all_goals exact cD rfl rfl (.same rfl rfl)
     . obtain⟨e1,e2⟩:=d2 (by omega);refine⟨_,_,by rw[e1];exact .small (by omega),by rw[e2];exact .small (by omega),cI (by rw[C.ft];exact rX) (by simp) ?_⟩;unfold qh;simp only[enter];repeat' first|apply aap|apply aM|apply aaF|apply aaY|apply abu|apply abJ|apply bZ|(apply afB;rfl)|(apply abz;rfl)|(apply abF;rfl)|(apply acY;rfl)|(apply ada;rfl;rfl)|(apply aef;rfl;rfl)|(apply acR;rfl;rfl)|(apply afZ;rfl;rfl;omega)|(apply afY;rfl;rfl;omega;omega)|(apply acb;rfl;rfl;rfl)|(apply acK;rfl;rfl;rfl)|(apply afx;rfl;rfl;rfl)|(apply aab;rfl;rfl)|(apply aaZ;rfl;rfl)|(intro _;omega)|intro _
       all_goals try omega
       all_goals exact cD rfl rfl (.same rfl rfl)
  | @eZ σ z w hs ok nr hw hz=>
   cases w with
   | nil=>simp[WV]at hw
   | cons y w=>
   obtain⟨q,r,hq,hr,tl⟩:=main rfl rfl;refine⟨q,r,hq,hr,cI (by rw[C.ft];exact rX) (by simp) ?_⟩;unfold qh;simp only[enter];exact gg7
 | @eZ σ z w hs ok nr hw hz=>
  cases w with
  | nil=>simp[WV]at hw
  | cons y w=>
  cases hb;all_goals
  . obtain⟨q,r,hq,hr,tl⟩:=main rfl rfl;refine⟨q,r,hq,hr,cI (by rw[C.ft];exact rX) (by simp) ?_⟩;unfold qh;simp only[enter];exact gg7
end Go.Ab.Ch1

/-
  Own work: integers of any size: quotients of numbers that divide.
-/
namespace Go.Ab.Ch1
open Go.Ab.aY
variable {M:ax} {cap:Option Nat} {N:Nat}
structure CQ (M:ax)(N:Nat):Prop extends CD M N where
 rY:∀a b x y,aw a x->aw b y->ak x<wB^N->ak y<wB^N->0<y->∃q r,aw q (x/y)/\aw r (x%y)/\∀h,M.ext 205 [a,b] h=some ⟨.aq [q,r],h,[]⟩
theorem dG {k:IntKind}{n:Int}:cS (.int k n)=true:=rfl
theorem ek:cS .ae=true:=rfl
theorem aw.shape {v:AV}{z:Int}(h:aw v z):∃s w,v = .agg [.iV s,w]/\cS w=true/\w.top=0/\bK w=w:=by
 cases h with
 | small=>exact⟨_,_,rfl,rfl,rfl,rfl⟩
 | @eZ σ z w=>exact⟨_,_,rfl,rfl,fV _,by rw[bK,lS]⟩
theorem aw.one {s:Int}{w:AV}{z:Int}(h:aw (.agg [.iV s,w]) z):cS w=true/\w.top=0/\bK w=w:=by
 obtain⟨s',w',e,h⟩:=h.shape;cases e;exact h
theorem Vg (C:CQ M N){a b:AV}{x y k:Int}(ha:aw a x)(hb:aw b y)(lx:ak x<wB^N)(ly:ak y<wB^N)(hy:y≠0)(hk:x=y*k):∃v0,aw v0 k/\cK M 252 [a,b] v0:=by
 have q211:=C.od b y hb;by_cases hn:y<0
 . rw[show bD y = -1 from if_pos hn]at q211;obtain⟨va,h1,q216a⟩:=C.lF a x ha lx;obtain⟨vb,h2,q216b⟩:=C.lF b y hb ly;have h1:aw va (-x):=h1;have h2:aw vb (-y):=h2;obtain⟨q,r,hq,hr,q205⟩:=C.rY va vb _ _ h1 h2 (by rw[iW];exact lx) (by rw[iW];exact ly) (by omega);have hq:aw q k:=by
    have : -x / -y=k:=by rw[hk,←Int.neg_mul,Int.mul_ediv_cancel_left _ (by omega)]
    rw[←this];exact hq
   refine⟨q,hq,cI (by rw[C.ft];exact Iu) (by simp) ?_⟩;have out:=fun hh=>hq.out (hh:=hh)
   obtain⟨_,_,rfl,o1,_⟩:=ha.shape;obtain⟨_,_,rfl,o2,_⟩:=hb.shape;obtain⟨_,_,rfl,o3,_⟩:=hq.shape;obtain⟨_,_,rfl,o4,_⟩:=hr.shape;obtain⟨_,_,rfl,o5,_⟩:=h1.shape;obtain⟨_,_,rfl,o6,_⟩:=h2.shape;unfold BM;simp only[enter];repeat' first|(apply abD;rfl;rfl;first|exact q211 _|exact q216a _|exact q216b _|exact q205 _)|(apply aeS;rfl;rfl;(first|(simp only[nca];rfl)|rfl);first|exact q211 _|exact q216a _|exact q216b _|exact q205 _)|(apply ade;rfl;rfl;rfl;exact⟨rfl,Nat.le_refl _,by simp[overwrite,dG,ek,o3,o4,o5,o6]⟩;rfl)|apply aap|apply aM|apply aaF|apply aaY|apply abu|apply aeb|apply aem|(apply aeJ;rfl;rfl;(first|(simp only[nca];rfl)|rfl))|(apply aeU;rfl;(first|(simp only[nca];rfl)|rfl);(first|(simp only[nca];rfl)|rfl))|(apply abz;rfl)|(apply ada;rfl;rfl)|(apply acb;rfl;rfl;rfl)|(apply acK;rfl;rfl;rfl)|(apply aab;rfl;rfl)|(intro _;omega)|intro _
   all_goals try omega
   all_goals exact cD rfl rfl (out _)
 . obtain⟨g,hg⟩:∃g,g=bD y:=⟨_,rfl⟩;have g0:0<=g:=by rw[hg];unfold bD;split <;> (first|omega|(split <;> omega))
   rw[←hg]at q211;obtain⟨q,r,hq,hr,q205⟩:=C.rY a b _ _ ha hb lx ly (by omega);have hq:aw q k:=by
    have:x/y=k:=by rw[hk,Int.mul_ediv_cancel_left _ (by omega)]
    rw[←this];exact hq
   refine⟨q,hq,cI (by rw[C.ft];exact Iu) (by simp) ?_⟩;have out:=fun hh=>hq.out (hh:=hh)
   obtain⟨_,_,rfl,o1,_⟩:=ha.shape;obtain⟨_,_,rfl,o2,_⟩:=hb.shape;obtain⟨_,_,rfl,o3,_⟩:=hq.shape;obtain⟨_,_,rfl,o4,_⟩:=hr.shape;unfold BM;simp only[enter];repeat' first|(apply abD;rfl;rfl;first|exact q211 _|exact q205 _)|(apply ade;rfl;rfl;rfl;exact⟨rfl,Nat.le_refl _,by simp[overwrite,dG,ek,o3,o4]⟩;rfl)|apply aap|apply aM|apply aaF|apply aaY|apply abu|apply abJ|(apply abF;rfl)|(apply ada;rfl;rfl)|(apply acb;rfl;rfl;rfl)|(apply acK;rfl;rfl;rfl)|(apply aab;rfl;rfl)|(intro _;omega)|intro _
   all_goals try omega
   all_goals exact cD rfl rfl (out _)
end Go.Ab.Ch1

/-
  Own work: the code of fractions, powers and sizes of integers.
-/
namespace Go.Ab.Ch1
set_option maxRecDepth 1000000
def IC:al:=zR [zx 1 131 2 0,zi 2 0] (zR [zt 6 2 1,z1 7 246 6,zn 5 7,ze 8 0 5,ze 9 1 5,zn 3 8,zw 3 9] (.seq (zR [zm 10 3,zl 11 10,zc 12 .eql 11 0] (.cond (.l 12) (zR [zi 2 0] (.ret)) (.skip))) (zR [zm 13 3,zl 14 13,zc 15 .sub 14 1,⟨.l 16,.bin .mul (kI 64) (.l 15),none⟩,zm 17 3,zm 18 3,zl 19 18,zc 20 .sub 19 1,za 21 1 17 20,zd 22 1 21,z1 23 240 22,zb 24 .add 16 23,zw 2 24] (.ret))))
theorem Vh:FT 262=some ⟨25,[0,1,2,4],[.var (.p 2)],IC⟩:=by kernel_rfl
def qj:al:=.seq (zR [zm 7 1,zc 8 .gtr 7 0] (.cond (.l 8) (.skip) (.exit 0))) (.seq (.block 1 (.seq (zR [zm 11 1,zc 12 .and 11 1,zc 13 .eql 12 1] (.cond (.l 13) (.region [zt 14 2 4,zt 15 2 2,z2 16 198 14 15,zs 2 4 16]) (.skip))) (zR [zm 17 1,zc 18 .gtr 17 1] (.cond (.l 18) (.region [zt 19 2 2,zt 20 2 2,z2 21 198 19 20,zs 2 2 21]) (.skip))))) (.region [zm 9 1,⟨.l 10,.bin .shr (.l 9) (kU 1),none⟩,zw 1 10]))
def ID:al:=zR [zx 2 131 2 0,⟨.p 3,.alloc 131 [.iV (0),.ae],none⟩] (zR [⟨.l 6,.call (kF 168) [(kI 1)],none⟩,⟨.p 4,.alloc 131 [.iV (0),.ae],none⟩,zs 2 4 6] (.seq (.block 0 (.loop qj)) (zR [zt 22 2 4,zs 2 3 22] (.ret))))
theorem Vi:FT 215=some ⟨23,[0,1,2,4,5],[.cell 2 true (.p 3)],ID⟩:=by kernel_rfl
def IE:al:=zR [⟨.p 1,.alloc 133 [.iV (0),.ae,.iV (0),.ae],none⟩] (zR [zm 3 0,z1 4 168 3,z1 5 159 4,zs 4 1 5] (.ret))
theorem Vj:FT 157=some ⟨6,[0,2],[.cell 4 true (.p 1)],IE⟩:=by kernel_rfl
def IF:al:=zR [zx 1 131 2 0,⟨.p 2,.alloc 133 [.iV (0),.ae,.iV (0),.ae],none⟩] (.seq (.draw [(zt 3 2 1,[]),(⟨.l 4,.call (kF 168) [(kI 1)],none⟩,[0]),(⟨.l 5,.build [.iV (0),.ae,.iV (0),.ae] [(0,2,(.l 3)),(2,2,(.l 4))],none⟩,[]),(zs 4 2 5,[])]) (.ret))
theorem Vk:FT 159=some ⟨6,[0,1,2],[.cell 4 true (.p 2)],IF⟩:=by kernel_rfl
def BU:al:=zR [zx 2 131 2 0,zx 3 131 2 1,⟨.p 4,.alloc 133 [.iV (0),.ae,.iV (0),.ae],none⟩] (.seq (zR [zt 6 2 3,z1 7 211 6,zc 8 .lss 7 0] (.cond (.l 8) (.draw [(zt 9 2 2,[]),(z1 10 216 9,[]),(zt 11 2 3,[0,1]),(z1 12 216 11,[]),(zs 2 2 10,[]),(zs 2 3 12,[])]) (.skip))) (.seq (zR [zf 13 1 3,zd 14 1 13,⟨.l 15,.eq false (.ref .slice) (.l 14) (.c (.ae)),none⟩,zn 16 15,zg (zf 17 0 3) 16 true,zg (zd 18 1 17) 16 true,zg (zc 19 .eql 18 1) 16 true,zp 20 16 19] (.cond (.l 20) (zR [zt 21 2 2,zt 22 2 3,⟨.l 23,.build [.iV (0),.ae,.iV (0),.ae] [(0,2,(.l 21)),(2,2,(.l 22))],none⟩,zs 4 4 23] (.ret)) (.skip))) (zR [zt 24 2 2,zt 25 2 3,z2 26 165 24 25,⟨.p 5,.alloc 131 [.iV (0),.ae],none⟩,zs 2 5 26] (.seq (.draw [(zt 27 2 2,[]),(zt 28 2 5,[0]),(z2 29 252 27 28,[]),(zt 30 2 3,[0,1,2]),(zt 31 2 5,[0,1,2,3]),(z2 32 252 30 31,[]),(⟨.l 33,.build [.iV (0),.ae,.iV (0),.ae] [(0,2,(.l 29)),(2,2,(.l 32))],none⟩,[]),(zs 4 4 33,[])]) (.ret)))))
theorem IG:FT 203=some ⟨34,[0,1,2,3,4,5],[.cell 4 true (.p 4)],BU⟩:=by kernel_rfl
def IH:al:=zR [zx 1 133 4 0,⟨.p 2,.alloc 133 [.iV (0),.ae,.iV (0),.ae],none⟩] (.seq (.draw [(zf 3 0 1,[]),(zT 4 2 3,[]),(z1 5 216 4,[]),(zf 6 2 1,[0,1,2]),(zT 7 2 6,[0,1,2]),(⟨.l 8,.build [.iV (0),.ae,.iV (0),.ae] [(0,2,(.l 5)),(2,2,(.l 7))],none⟩,[]),(zs 4 2 8,[])]) (.ret))
theorem Vl:FT 199=some ⟨9,[0,1,2],[.cell 4 true (.p 2)],IH⟩:=by kernel_rfl
def II:al:=zR [zx 1 133 4 0,⟨.p 2,.alloc 133 [.iV (0),.ae,.iV (0),.ae],none⟩] (zR [zf 3 2 1,zT 4 2 3,zf 5 0 1,zT 6 2 5,z2 7 203 4 6,zs 4 2 7] (.ret))
theorem Vm:FT 200=some ⟨8,[0,1,2],[.cell 4 true (.p 2)],II⟩:=by kernel_rfl
def IJ:al:=zR [zx 1 133 4 0,⟨.p 2,.mv (.c (.bool false)),none⟩] (zR [zf 3 2 1,⟨.l 4,.iI 1 (.l 3),none⟩,zd 5 1 4,⟨.l 6,.eq false (.ref .slice) (.l 5) (.c (.ae)),none⟩,zn 7 6,zg (zf 8 2 1) 7 true,⟨.l 9,.iI 0 (.l 8),some ((.l 7),true)⟩,zg (zd 10 1 9) 7 true,zg (zc 11 .eql 10 1) 7 true,zp 12 7 11,zw 2 12] (.ret))
theorem Vn:FT 201=some ⟨13,[0,1,2],[.var (.p 2)],IJ⟩:=by kernel_rfl
def BV:al:=zR [zx 2 133 4 0,zx 3 133 4 1,⟨.p 4,.alloc 133 [.iV (0),.ae,.iV (0),.ae],none⟩] (.seq (zR [zt 5 4 2,z1 6 201 5,zn 7 6,zg (zt 8 4 3) 7 true,zg (z1 9 201 8) 7 true,zp 10 7 9] (.cond (.l 10) (zR [zf 11 0 2,zT 12 2 11,zf 13 0 3,zT 14 2 13,z2 15 202 12 14,z1 16 159 15,zs 4 4 16] (.ret)) (.skip))) (.seq (.draw [(zf 17 0 2,[]),(zT 18 2 17,[]),(zf 19 2 3,[0,1]),(zT 20 2 19,[0,1]),(z2 21 198 18 20,[]),(zf 22 0 3,[0,1,2,3,4]),(zT 23 2 22,[0,1,2,3,4]),(zf 24 2 2,[0,1,2,3,4,5,6]),(zT 25 2 24,[0,1,2,3,4,5,6]),(z2 26 198 23 25,[]),(z2 27 202 21 26,[]),(zf 28 2 2,[0,1,2,3,4,5,6,7,8,9,10]),(zT 29 2 28,[0,1,2,3,4,5,6,7,8,9,10]),(zf 30 2 3,[0,1,2,3,4,5,6,7,8,9,10,11,12]),(zT 31 2 30,[0,1,2,3,4,5,6,7,8,9,10,11,12]),(z2 32 198 29 31,[]),(z2 33 203 27 32,[]),(zs 4 4 33,[])]) (.ret)))
theorem IK:FT 151=some ⟨34,[0,1,2,3,4],[.cell 4 true (.p 4)],BV⟩:=by kernel_rfl
def IL:al:=zR [zx 2 133 4 0,zx 3 133 4 1,⟨.p 4,.alloc 133 [.iV (0),.ae,.iV (0),.ae],none⟩] (.seq (.draw [(zf 5 0 2,[]),(zT 6 2 5,[]),(zf 7 0 3,[0,1]),(zT 8 2 7,[0,1]),(z2 9 198 6 8,[]),(zf 10 2 2,[0,1,2,3,4]),(zT 11 2 10,[0,1,2,3,4]),(zf 12 2 3,[0,1,2,3,4,5,6]),(zT 13 2 12,[0,1,2,3,4,5,6]),(z2 14 198 11 13,[]),(z2 15 203 9 14,[]),(zs 4 4 15,[])]) (.ret))
theorem Vo:FT 152=some ⟨16,[0,1,2,3,4],[.cell 4 true (.p 4)],IL⟩:=by kernel_rfl
def IM:al:=zR [zx 2 133 4 0,zx 3 133 4 1,⟨.p 4,.alloc 133 [.iV (0),.ae,.iV (0),.ae],none⟩] (.seq (.draw [(zt 5 4 2,[]),(zt 6 4 3,[0]),(z1 7 200 6,[0]),(z2 8 152 5 7,[]),(zs 4 4 8,[])]) (.ret))
theorem Vp:FT 150=some ⟨9,[0,1,2,3,4],[.cell 4 true (.p 4)],IM⟩:=by kernel_rfl
def IN:al:=zR [zx 1 133 4 0,⟨.p 2,.alloc 131 [.iV (0),.ae],none⟩] (zR [zf 6 0 1,zT 7 2 6,zf 8 2 1,zT 9 2 8,z2 10 205 7 9,zn 5 10,ze 11 0 5,ze 12 1 5,⟨.p 3,.alloc 131 [.iV (0),.ae],none⟩,⟨.l 4,.alloc 131 [.iV (0),.ae],none⟩,zs 2 3 11,zS 2 4 12] (zR [zt 13 2 3,zs 2 2 13] (.ret)))
theorem Vq:FT 160=some ⟨14,[0,1,2,3],[.cell 2 true (.p 2)],IN⟩:=by kernel_rfl
end Go.Ab.Ch1

/-
  Own work: fractions: contents, integers as fractions.
-/
namespace Go.Ab.Ch1
open Go.Ab.aY
variable {M:ax} {cap:Option Nat} {N:Nat}
def iE (v:AV)(n d:Int):Prop:=∃s w s' w',v = .agg [.iV s,w,.iV s',w']/\aw (.agg [.iV s,w]) n/\aw (.agg [.iV s',w']) d
theorem iE.out {v:AV}{n d:Int}{hh:ab}(h:iE v n d):fa (aV [v]) hh v:=by
 obtain⟨s,w,s',w',rfl,h1,h2⟩:=h;obtain⟨_,t1,c1⟩:=h1.one;obtain⟨_,t2,c2⟩:=h2.one;exact .same (by simp[aV,AV.top,bk,t1,t2]) (by simp[aV,bK,cJ,c1,c2])
structure CF (M:ax)(N:Nat):Prop extends CQ M N where
 vz:∀v z,aw v z->∃v0,iE v0 z 1/\∀h,M.ext 159 [v] h=some ⟨v0,h,[]⟩
 IP:∀a b x y,aw a x->aw b y->ak x<wB^N->ak y<wB^N->∀h,M.ext 167 [a,b] h=some ⟨.iV (bD (x-y)),h,[]⟩
 lG:vy M N 198 (· * ·)
theorem Vr (C:CD M N){v:AV}{z:Int}(hv:aw v z):∃v0,iE v0 z 1/\cK M 159 [v] v0:=by
 obtain⟨s,w,rfl,o1,_⟩:=hv.shape;have q168:=C.mH 1;have hf:iE (.agg [.iV s,w,.iV 1,.ae]) z 1:=⟨_,_,_,_,rfl,hv,.small (by decide)⟩;refine⟨_,hf,cI (by rw[C.ft];exact Vk) (by simp) ?_⟩;have out:=fun hh=>hf.out (hh:=hh)
 unfold IF;simp only[enter];exact gg19
theorem Vs (C:CF M N){s:Int}(hs : -9223372036854775808<=s/\s<9223372036854775808):∃v0,iE v0 s 1/\cK M 157 [.iV s] v0:=by
 have q168:=C.mH s;obtain⟨v0,hf,q159⟩:=C.vz _ s (.small hs);refine⟨_,hf,cI (by rw[C.ft];exact Vj) (by simp) ?_⟩;have out:=fun hh=>hf.out (hh:=hh)
 obtain⟨s1,w,s',w',rfl,h1,h2⟩:=hf;obtain⟨o1,_⟩:=h1.one;obtain⟨o2,_⟩:=h2.one;unfold IE;simp only[enter];repeat' first|(apply ade;rfl;rfl;rfl;exact⟨rfl,Nat.le_refl _,by simp[overwrite,dG,ek,o1,o2]⟩;rfl)|apply aap|apply aM|apply aaF|apply aaY|apply abu|(apply abD;rfl;rfl;first|exact q168 _|exact q159 _)|(apply acK;rfl;rfl;rfl)|(apply aab;rfl;rfl)
 exact cD rfl rfl (out _)
theorem Vt (C:CJ M N){v:AV}{n d:Int}(hv:iE v n d)(ln:ak n<wB^N):∃v0,iE v0 (-n) d/\cK M 199 [v] v0:=by
 obtain⟨s1,w,s',w',rfl,h1,h2⟩:=hv;obtain⟨v1,h3,q216⟩:=C.lF _ n h1 ln;obtain⟨s3,w3,rfl,o3,_⟩:=h3.shape;obtain⟨o1,_⟩:=h1.one;obtain⟨o2,_⟩:=h2.one;have hf:iE (.agg [.iV s3,w3,.iV s',w']) (-n) d:=⟨_,_,_,_,rfl,h3,h2⟩;refine⟨_,hf,cI (by rw[C.ft];exact Vl) (by simp) ?_⟩;have out:=fun hh=>hf.out (hh:=hh)
 unfold IH;simp only[enter];repeat' first|(apply aeS;rfl;rfl;(first|(simp only[nca];rfl)|rfl);first|exact q216 _)|(apply ade;rfl;rfl;rfl;exact⟨rfl,Nat.le_refl _,by simp[overwrite,dG,ek,o2,o3]⟩;rfl)|apply aap|apply aM|apply aaF|apply aaY|apply abu|apply aeb|apply aem|(apply aeZ;rfl)|(apply aeJ;rfl;rfl;(first|(simp only[nca];rfl)|rfl))|(apply aeU;rfl;(first|(simp only[nca];rfl)|rfl);(first|(simp only[nca];rfl)|rfl))|(apply acb;rfl;rfl;rfl)|(apply acK;rfl;rfl;rfl)|(apply aab;rfl;rfl)
 exact cD rfl rfl (out _)
end Go.Ab.Ch1
