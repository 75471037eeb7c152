/-
  Own work: the resolved code of some functions of chapter 1.
-/
import Derived.Test.YtcjphdmkgmkabaaGreatDoorCh1Base
import Derived.Test.YtcjphdmkgmkabaaGreatDoorLib4
import Derived.Test.YtcjphdmkgmkabaaGreatDoorCh1Row
import Derived.Test.YtcjphdmkgmkabaaGreatDoorLib5
set_option maxHeartbeats 8000000
set_option maxRecDepth 20000
namespace Go.Ab.Ch1
set_option maxRecDepth 1000000
def Gc:an:=zR [⟨.p 3,.mv (.c (.bool false)),none⟩] (zR [zm 7 0,zm 8 1,zb 9 .lss 7 8,zn 10 9,zg (zm 11 0) 10 false,zg (zm 12 2) 10 false,zg (zb 13 .gtr 11 12) 10 false,zP 14 10 13,zw 3 14] (.ret))
theorem QR:FT 95=some ⟨15,[0,1,2,6],[.var (.p 3)],Gc⟩:=by kernel_rfl
end Go.Ab.Ch1

/-
  Own work: plain facts of drawn orders: an exchange after the other gives an order of the same elements; its last place and the rest.
-/
namespace Go.Ab
end Go.Ab

/-
  Own work: mark.Draw, mark.outside, stadionref01.CheckDraw: what they compute.
-/
namespace Go.Ab.Ch1
open Go.Proofs.Tryz
variable {M:ao}
theorem QS (hft:M.FT=FT)(x lo hi:Int):aU M 95 [.iV x,.iV lo,.iV hi] [] ⟨.bool (decide (x<lo) || decide (hi<x)),[],[]⟩:=by
 refine bO (by rw[hft];exact QR) (by simp) ?_;unfold Gc;repeat' first|(apply aab;rfl;rfl)|(apply aah;rfl;rfl)|refine gc ?_|(intro _;omega)|intro _
 all_goals exact⟨.inr rfl,rfl,_,rfl,by simp[aQ, *];try omega,by simp[AV.top]⟩
end Go.Ab.Ch1

/-
  Own work: contracts of chapter 1 as a table.
-/
namespace Go.Ab
open Go.ChangeShapes Go.WideShapes Go.RowKit
variable {P:Program} {gl:Nat->Option AV}
theorem bE {FT:FuncId->Option cK}{T:List (Nat×Spec)}:(aZ P FT T).FT=FT:=rfl
theorem dR {FT:FuncId->Option cK}{T:List (Nat×Spec)}:(aZ P FT T).ext=bj T:=rfl
theorem QT {FT:FuncId->Option cK}(hs:iQ P gl FT){T:List (Nat×Spec)}(hT:dg P gl (bj T)){f:Nat}{xs:List AV}{w:World}(hr:aU (aZ P FT T) f xs [] ⟨.bool true,[],[]⟩)
 (hgl:∀g v,gl g=some v->V bare w v (.pointer (some ⟨g,0,none⟩))) {as':List Value} (hv:VL bare w xs as'):Calls P f as'.toArray w fun e w'=>e = .returned (.bool true)/\Below w.heap.size w w':=by
 obtain⟨n,hn⟩:=hr;refine(Pe hs.mix hT hs.ft hn hgl hv).mono fun e w' he=>?_
 obtain⟨v',h1,⟨ρ',h2⟩,h3⟩:=he;cases h2;exact⟨h1,Pf h3⟩
end Go.Ab
namespace Go.Ab.Ch1
open Go.Proofs
def zI:Spec:=yA [] (.bool true)
theorem QU:bQ Tryz.prog gl 18 zI:=Pk Gb rfl rfl QG
theorem QV (h:ab):zI [] h=some ⟨.bool true,h,[]⟩:=rfl
def tM:Spec:=fun
 | [.int .i64 x,.int .i64 lo,.int .i64 hi],h=>some ⟨.bool (decide (x<lo) || decide (hi<x)),h,[]⟩
 | _,_=>none
theorem Gd:bQ Tryz.prog gl 95 tM:=by
 intro xs h r hq;unfold tM at hq;split at hq
 . cases hq;exact nF ju cQ (QS (M:=aZ Tryz.prog FT []) bE _ _ _) (eO.same rfl) rfl (.inl rfl)
 . cases hq
theorem QW (l:List Int):aY (ints l)=0:=kB (fun _=>rfl) l
set_option maxRecDepth 1000000
def Ge:an:=zR [zi 2 0] (.seq (zR [zm 5 0] (.cond (.l 5) (zR [zm 6 1,zw 2 6] (.ret)) (.skip))) (zR [zi 2 0] (.ret)))
theorem QX:FT 97=some ⟨7,[0,1,4],[.var (.p 2)],Ge⟩:=by kernel_rfl
def tN:an:=zR [zr 8 .lss 5 4] (.seq (.cond (.l 8) (.skip) (.exit 0)) (.seq (.block 1 (zR [⟨.l 9,.dX none 1 (.p 3) (.p 5),none⟩,zd 10 1 9,zw 2 10] (zR [zm 11 2,zc 12 .neq 11 0] (.cond (.l 12) (zR [zm 13 2,zw 1 13] (.ret)) (.skip))))) (.region [zq 14 .add 5 1,zw 5 14])))
def Gf:an:=zR [zi 1 0] (.seq (zR [⟨.p 3,.mv (.p 0),none⟩,⟨.p 4,.len .sl (.p 3),none⟩,zi 5 0] (.block 0 (.loop tN))) (zR [zi 1 0] (.ret)))
theorem QY:FT 96=some ⟨15,[0,2,4,5,6,7],[.var (.p 1)],Gf⟩:=by kernel_rfl
variable {inv:fe} {F:FuncId->Option cK}
abbrev zJ (T:List (Nat×Spec))(inv:fe)(F:FuncId->Option cK):ao:=⟨bj T,inv,F⟩
def fO:List Int->Int
 | []=>0
 | e::r=>if e=0 then fO r else e
def tO:Spec:=fun
 | [.bool t,.int .i64 e],h=>some ⟨.int .i64 (if t then e else 0),h,[]⟩
 | _,_=>none
def jT:Spec:=fun
 | [v],h=>match fv h v with
   | some l=>if l.length<4611686018427387904 then some ⟨.int .i64 (fO l),h,[]⟩ else none
   | none=>none
 | _,_=>none
theorem QZ {T:List (Nat×Spec)}(hft:F=FT)(t:Bool)(e:Int):aU (zJ T inv F) 97 [.bool t,.int .i64 e] [] ⟨.int .i64 (if t then e else 0),[],[]⟩:=by
 refine bO (show F 97=_ from by rw[hft];exact QX) (by simp) ?_;unfold Ge;simp only[enter];cases t;all_goals
  exact gg0
 all_goals exact⟨.inr rfl,rfl,_,rfl,rfl,rfl⟩
theorem Ra {l:List Int}{i:Nat}(h:i<l.length):fO (l.drop i)=if l[i]! = 0 then fO (l.drop (i+1)) else l[i]! := by
 rw[List.drop_eq_getElem_cons h,getElem!_pos l i h,fO]
theorem Gg {T:List (Nat×Spec)}(l:List Int)(cap:Option Nat)(a0:AV)(hl:l.length<4611686018427387904)(hp:ab)(df:List Nat){Q:Ex->al->Prop}:∀(r i:Nat),i+r=l.length->∀(a1 a2:AV) (lo:List (Nat×AV)) (wr:List Nat),
 (fO (l.drop i)=0->∀a2 lo wr,Q (.exit 0) ⟨⟨[a0,a1,a2,.vs (ints l) l.length cap,.int .i64 l.length,.int .i64 l.length],lo,hp,df⟩,wr⟩) ->
 (∀a2 a5 lo wr,Q .ret ⟨⟨[a0,.int .i64 (fO (l.drop i)),a2,.vs (ints l) l.length cap,.int .i64 l.length,a5],lo,hp,df⟩,wr⟩) ->
 W (zJ T inv F) (.loop tN) ⟨⟨[a0,a1,a2,.vs (ints l) l.length cap,.int .i64 l.length,.int .i64 i],lo,hp,df⟩,wr⟩ Q
 | 0,i,hi,a1,a2,lo,wr,h1,h2=>by
  obtain rfl:i=l.length:=by omega
  refine W.loop ?_;unfold tN;exact gg1
 | r+1,i,hi,a1,a2,lo,wr,h1,h2=>by
  have e:=Ra (l:=l) (i:=(i:Int).toNat) (by omega);rw[Int.toNat_natCast]at e;refine W.loop ?_;unfold tN;repeat' first|(apply aab;rfl;rfl)|(apply aaF;rfl;rfl)|refine gc ?_|(intro _;omega)|intro _
  . rename_i hne;rw[Int.toNat_natCast]at hne;rw[if_neg hne]at e;rw[e]at h2;exact h2 _ _ _ _
  . rename_i he;rw[Int.toNat_natCast]at he;rw[if_pos he]at e;rw[e]at h1 h2;exact cW (Gg l cap a0 hl hp df r (i+1) (by omega) _ _ _ _ h1 h2)
theorem Rb {T:List (Nat×Spec)}(hft:F=FT)(l:List Int)(cap:Option Nat)(hl:l.length<4611686018427387904):aU (zJ T inv F) 96 [.vs (ints l) l.length cap] [] ⟨.int .i64 (fO l),[],[]⟩:=by
 refine bO (show F 96=_ from by rw[hft];exact QY) (by simp) ?_;unfold Gf;simp only[enter];repeat' first|refine gc ?_|fail
 refine Gg l cap _ hl _ _ l.length 0 (by omega) _ _ _ _ (fun h a2 lo wr=>?_) (fun a2 a5 lo wr=>?_)
 . exact gg0
 . exact gg0
theorem Gh:bQ Tryz.prog gl 97 tO:=by
 intro xs h r hq;unfold tO at hq;split at hq
 . cases hq;exact nF ju cQ (QZ (T:=[]) rfl _ _) (eO.same rfl) rfl (.inl rfl)
 . cases hq
theorem Rc {f:Nat}(hw:∀(l:List Int) cap,l.length<4611686018427387904->aU (aZ Tryz.prog FT []) f [.vs (ints l) l.length cap] [] ⟨.int .i64 (fO l),[],[]⟩):bQ Tryz.prog gl f jT:=by
 intro xs h r hq;unfold jT at hq;split at hq
 . split at hq
   . rename_i l hl;split at hq
     . rename_i hlen;cases hq;obtain⟨S,cap,hf⟩:=(tE hl).fr (fun _=>rfl);exact nF ju cQ (hw l cap hlen) (.cons hf .nil) rfl (.inr rfl)
     . cases hq
   . cases hq
 . cases hq
theorem Gi:bQ Tryz.prog gl 96 jT:=Rc fun l cap h=>Rb (T:=[]) rfl l cap h
def tP:an:=.seq (zR [zm 6 2,zc 7 .gtr 6 0,zn 8 7,zg (zm 9 0) 8 true,zg (zm 10 2) 8 true,zg (zc 11 .sub 10 1) 8 true,zg (za 12 1 9 11) 8 true,zg (zd 13 1 12) 8 true,⟨.l 14,.bin .eql (.l 13) (kU 0),some ((.l 8),true)⟩,zp 15 8 14] (.cond (.l 15) (.skip) (.exit 0))) (.block 1 (.region [zm 16 2,zc 17 .sub 16 1,zw 2 17]))
def Gj:an:=zR [⟨.p 1,.mv (.c (.ae)),none⟩] (zR [zm 4 0,zl 5 4,zw 2 5] (.seq (.block 0 (.loop tP)) (zR [zm 18 0,zm 19 2,⟨.l 20,.slice .sl 1 (.l 18) none (some (.l 19)) none,none⟩,zw 1 20] (.ret))))
theorem Rd:FT 276=some ⟨21,[0,2,3],[.var (.p 1)],Gj⟩:=by kernel_rfl
def tQ:an:=.seq (zR [zm 19 3,zc 20 .geq 19 0] (.cond (.l 20) (.skip) (.exit 0))) (.seq (.block 1 (.seq (.draw [(zm 23 0,[]),(zm 24 3,[0]),(za 25 1 23 24,[]),(zd 26 1 25,[]),(zm 27 1,[0,1,2,3]),(zm 28 3,[0,1,2,3,4]),(za 29 1 27 28,[0,1,2,3]),(zd 30 1 29,[0,1,2,3]),(zb 31 .neq 26 30,[])]) (.cond (.l 31) (.seq (.seq (.draw [(zm 32 0,[]),(zm 33 3,[0]),(za 34 1 32 33,[]),(zd 35 1 34,[]),(zm 36 1,[0,1,2,3]),(zm 37 3,[0,1,2,3,4]),(za 38 1 36 37,[0,1,2,3]),(zd 39 1 38,[0,1,2,3]),(zb 40 .lss 35 39,[])]) (.cond (.l 40) (zR [zi 2 (-1)] (.ret)) (.skip))) (zR [zi 2 1] (.ret))) (.skip)))) (.region [zm 21 3,zc 22 .sub 21 1,zw 3 22]))
def Gk:an:=zR [zi 2 0] (.seq (zR [zm 6 0,zl 7 6,zm 8 1,zl 9 8,zb 10 .neq 7 9] (.cond (.l 10) (.seq (zR [zm 11 0,zl 12 11,zm 13 1,zl 14 13,zb 15 .lss 12 14] (.cond (.l 15) (zR [zi 2 (-1)] (.ret)) (.skip))) (zR [zi 2 1] (.ret))) (.skip))) (.seq (zR [zm 16 0,zl 17 16,zc 18 .sub 17 1,zw 3 18] (.block 0 (.loop tQ))) (zR [zi 2 0] (.ret))))
theorem Re:FT 250=some ⟨41,[0,1,4,5],[.var (.p 2)],Gk⟩:=by kernel_rfl
def tS:an:=zR [zr 30 .lss 17 16] (.seq (.cond (.l 30) (.skip) (.exit 2)) (.seq (.block 3 (zR [zm 31 17,⟨.l 32,.dX none 1 (.p 15) (.p 17),none⟩,zd 33 1 32,zw 7 31,zw 8 33] (zR [zm 35 5,zm 36 8,z2 37 244 35 36,zn 34 37,ze 38 0 34,ze 39 1 34,zw 9 38,zw 10 39] (zR [⟨.p 11,.mv (kU 0),none⟩] (zR [zm 41 10,zm 42 3,zm 43 4,zm 44 7,zb 45 .add 43 44,za 46 1 42 45,zd 47 1 46,⟨.l 48,.call (kF 275) [(.l 41),(.l 47),(kU 0)],none⟩,zn 40 48,ze 49 0 40,ze 50 1 40,zw 10 49,zw 11 50] (zR [zm 51 9,zm 52 11,zb 53 .add 51 52,zw 9 53] (zR [zm 55 10,zm 56 6,⟨.l 57,.call (kF 275) [(.l 55),(.l 56),(kU 0)],none⟩,zn 54 57,ze 58 0 54,ze 59 1 54,zw 10 58,zw 11 59] (.region [zm 60 3,zm 61 4,zm 62 7,zb 63 .add 61 62,zm 64 10,zm 65 9,zm 66 11,zb 67 .add 65 66,za 68 1 60 63,zS 1 68 64,zw 6 67])))))))) (.region [zq 69 .add 17 1,zw 17 69])))
def zK:an:=zR [zr 23 .lss 14 13] (.seq (.cond (.l 23) (.skip) (.exit 0)) (.seq (.block 1 (zR [zm 24 14,⟨.l 25,.dX none 1 (.p 12) (.p 14),none⟩,zd 26 1 25,zw 4 24,zw 5 26] (zR [⟨.p 6,.mv (kU 0),none⟩] (.seq (zR [⟨.p 15,.mv (.p 1),none⟩,⟨.p 16,.len .sl (.p 15),none⟩,zi 17 0] (.block 2 (.loop tS))) (.region [zm 70 3,zm 71 4,zm 72 1,zl 73 72,zb 74 .add 71 73,zm 75 6,za 76 1 70 74,zS 1 76 75]))))) (.region [zq 77 .add 14 1,zw 14 77])))
def Gl:an:=zR [⟨.p 2,.mv (.c (.ae)),none⟩] (zR [zm 14 0,zl 15 14,zm 16 1,zl 17 16,zb 18 .add 15 17,⟨.l 19,.fK 246 1 8 [.uV (0)] (.l 18) (.l 18),none⟩,zw 3 19] (.seq (zR [⟨.p 12,.mv (.p 0),none⟩,⟨.p 13,.len .sl (.p 12),none⟩,zi 14 0] (.block 0 (.loop zK))) (zR [zm 78 3,z1 79 276 78,zw 2 79] (.ret))))
theorem Rf:FT 248=some ⟨80,[0,1,4,5,6,7,8,9,10,11,12,13,20,21,22,27,28,29],[.var (.p 2)],Gl⟩:=by kernel_rfl
def zM:an:=zR [zr 15 .lss 8 7] (.seq (.cond (.l 15) (.skip) (.exit 0)) (.seq (.block 1 (zR [zm 16 8,⟨.l 17,.dX none 1 (.p 6) (.p 8),none⟩,zd 18 1 17,zw 4 16,zw 5 18] (.seq (.draw [(zm 19 3,[]),(zm 20 4,[0]),(za 21 1 19 20,[]),(zd 22 1 21,[]),(zm 23 5,[0,1,2,3]),(zm 24 1,[0,1,2,3,4]),(zb 25 .shl 23 24,[0,1,2,3]),(zb 26 .or 22 25,[]),(za 27 1 19 20,[]),(zS 1 27 26,[])]) (zR [zm 28 1,zc 29 .gtr 28 0] (.cond (.l 29) (.region [zm 30 3,zm 31 4,zc 32 .add 31 1,zm 33 5,zm 34 1,⟨.l 35,.bin .sub (kI 64) (.l 34),none⟩,zb 36 .shr 33 35,za 37 1 30 32,zS 1 37 36]) (.skip)))))) (.region [zq 38 .add 8 1,zw 8 38])))
def Gm:an:=zR [⟨.p 2,.mv (.c (.ae)),none⟩] (zR [zm 8 0,zl 9 8,zc 10 .add 9 1,⟨.l 11,.fK 246 1 8 [.uV (0)] (.l 10) (.l 10),none⟩,zw 3 11] (.seq (zR [⟨.p 6,.mv (.p 0),none⟩,⟨.p 7,.len .sl (.p 6),none⟩,zi 8 0] (.block 0 (.loop zM))) (zR [zm 39 3,zw 2 39] (.ret))))
theorem Rg:FT 280=some ⟨40,[0,1,4,5,6,7,12,13,14],[.var (.p 2)],Gm⟩:=by kernel_rfl
def tT:an:=.seq (zR [zm 30 6,zc 31 .geq 30 0] (.cond (.l 31) (.skip) (.exit 0))) (.seq (.block 1 (.draw [(zm 35 4,[]),(zm 36 6,[0]),(zm 37 5,[0,1]),(zm 38 0,[0,1,2]),(zm 39 6,[0,1,2,3]),(za 40 1 38 39,[0,1,2]),(zd 41 1 40,[0,1,2]),(zm 42 1,[0,1,2,3,4,5,6]),(⟨.l 43,.dX none 1 (.l 42) (kI 0),none⟩,[0,1,2,3,4,5,6]),(zd 44 1 43,[0,1,2,3,4,5,6]),(⟨.l 45,.call (kF 278) [(.l 37),(.l 41),(.l 44)],none⟩,[0,1]),(zn 34 45,[0,1]),(ze 46 0 34,[0,1]),(ze 47 1 34,[0,1,12]),(za 48 1 35 36,[13]),(zS 1 48 46,[13]),(zw 5 47,[])])) (.region [zm 32 6,zc 33 .sub 32 1,zw 6 33]))
def tW:an:=.seq (zR [zm 80 12,zc 81 .geq 80 0] (.cond (.l 81) (.skip) (.exit 2))) (.seq (.block 3 (.region [zm 84 11,zm 85 12,zm 86 9,zm 87 12,zm 88 12,zm 89 10,zb 90 .add 88 89,zc 91 .add 90 1,⟨.l 92,.slice .sl 1 (.l 86) (some (.l 87)) (some (.l 91)) none,none⟩,zm 93 8,z2 94 281 92 93,za 95 1 84 85,zS 1 95 94])) (.region [zm 82 12,zc 83 .sub 82 1,zw 12 83]))
def tX:an:=zR [zr 98 .lss 15 14] (.seq (.cond (.l 98) (.skip) (.exit 4)) (.seq (.block 5 (zR [zm 99 15,zw 13 99] (zR [zm 100 9,zm 101 13,za 102 1 100 101,zd 103 1 102,zm 104 7,zb 105 .shr 103 104,za 106 1 100 101,zS 1 106 105] (zR [zm 107 7,zc 108 .gtr 107 0,zn 109 108,zg (zm 110 13) 109 true,zg (zc 111 .add 110 1) 109 true,zg (zm 112 9) 109 true,zg (zl 113 112) 109 true,zg (zb 114 .lss 111 113) 109 true,zp 115 109 114] (.cond (.l 115) (.draw [(zm 116 9,[]),(zm 117 13,[0]),(za 118 1 116 117,[]),(zd 119 1 118,[]),(zm 120 9,[0,1,2,3]),(zm 121 13,[0,1,2,3,4]),(zc 122 .add 121 1,[0,1,2,3,4]),(za 123 1 120 122,[0,1,2,3]),(zd 124 1 123,[0,1,2,3]),(zm 125 7,[0,1,2,3,4,5,6,7,8]),(⟨.l 126,.bin .sub (kI 64) (.l 125),none⟩,[0,1,2,3,4,5,6,7,8]),(zb 127 .shl 124 126,[0,1,2,3]),(zb 128 .or 119 127,[]),(za 129 1 116 117,[]),(zS 1 129 128,[])]) (.skip)))))) (.region [zq 130 .add 15 1,zw 15 130])))
def zN:an:=zR [⟨.p 2,.mv (.c (.ae)),none⟩,⟨.p 3,.mv (.c (.ae)),none⟩] (.seq (zR [zm 16 0,zm 17 1,z2 18 250 16 17,zc 19 .lss 18 0] (.cond (.l 19) (zR [zm 20 0,⟨.p 2,.mv (.c (.ae)),none⟩,zw 3 20] (.ret)) (.skip))) (.seq (zR [zm 21 1,zl 22 21,zc 23 .eql 22 1] (.cond (.l 23) (zR [zm 24 0,zl 25 24,⟨.l 26,.fK 246 1 8 [.uV (0)] (.l 25) (.l 25),none⟩,zw 4 26] (zR [⟨.p 5,.mv (kU 0),none⟩] (.seq (zR [zm 27 0,zl 28 27,zc 29 .sub 28 1,zw 6 29] (.block 0 (.loop tT))) (zR [zm 49 4,z1 50 276 49,zm 51 5,⟨.l 52,.dT 246 1 1 [.uV (0)] [(0,1,(.l 51))],none⟩,z1 53 276 52,zw 2 50,zw 3 53] (.ret))))) (.skip))) (zR [zm 54 1,zm 55 1,zl 56 55,zc 57 .sub 56 1,za 58 1 54 57,zd 59 1 58,z1 60 279 59,zw 7 60] (zR [zm 61 1,zm 62 7,z2 63 280 61 62,z1 64 276 63,zw 8 64] (zR [zm 65 0,zm 66 7,z2 67 280 65 66,zw 9 67] (zR [zm 68 8,zl 69 68,zw 10 69] (zR [zm 70 0,zl 71 70,zm 72 10,zb 73 .sub 71 72,zc 74 .add 73 1,⟨.l 75,.fK 246 1 8 [.uV (0)] (.l 74) (.l 74),none⟩,zw 11 75] (.seq (zR [zm 76 0,zl 77 76,zm 78 10,zb 79 .sub 77 78,zw 12 79] (.block 2 (.loop tW))) (.seq (zR [⟨.p 14,.mv (.p 10),none⟩,zi 15 0] (.block 4 (.loop tX))) (.seq (.draw [(zm 131 11,[]),(z1 132 276 131,[]),(zm 133 9,[0,1]),(zm 134 10,[0,1,2]),(⟨.l 135,.slice .sl 1 (.l 133) none (some (.l 134)) none,none⟩,[0,1]),(z1 136 276 135,[]),(zw 2 132,[]),(zw 3 136,[])]) (.ret)))))))))))
theorem Gn:FT 253=some ⟨137,[0,1,4,5,6,7,8,9,10,11,12,13,14,15,96,97],[.var (.p 2),.var (.p 3)],zN⟩:=by kernel_rfl
def zO:an:=.seq (zR [zm 63 6,⟨.l 64,.bin .eql (.l 63) (kU 0),none⟩] (.cond (.l 64) (.skip) (.exit 0))) (.block 1 (zR [zm 66 4,zm 67 1,zm 68 3,zc 69 .sub 68 2,za 70 1 67 69,zd 71 1 70,z2 72 244 66 71,zn 65 72,ze 73 0 65,ze 74 1 65,zw 7 73,zw 8 74] (.seq (zR [zm 75 7,zm 76 5,zb 77 .lss 75 76,zn 78 77,zg (zm 79 7) 78 false,zg (zm 80 5) 78 false,zg (zb 81 .eql 79 80) 78 false,zg (zn 82 81) 78 false,zg (zm 83 8) 82 true,zg (zm 84 0) 82 true,zg (zm 85 3) 82 true,zg (zc 86 .sub 85 2) 82 true,zg (za 87 1 84 86) 82 true,zg (zd 88 1 87) 82 true,zg (zb 89 .leq 83 88) 82 true,zg (zp 90 82 89) 78 false,zP 91 78 90] (.cond (.l 91) (.exit 0) (.skip))) (zR [zm 92 4,⟨.l 93,.bin .sub (.l 92) (kU 1),none⟩,zw 4 93] (.region [zm 95 5,zm 96 1,zm 97 3,zc 98 .sub 97 1,za 99 1 96 98,zd 100 1 99,⟨.l 101,.call (kF 275) [(.l 95),(.l 100),(kU 0)],none⟩,zn 94 101,ze 102 0 94,ze 103 1 94,zw 5 102,zw 6 103])))))
def qo:an:=zR [zr 106 .lss 18 17] (.seq (.cond (.l 106) (.skip) (.exit 2)) (.seq (.block 3 (zR [zm 107 18,zw 11 107] (zR [zm 109 4,zm 110 1,zm 111 11,za 112 1 110 111,zd 113 1 112,z2 114 244 109 113,zn 108 114,ze 115 0 108,ze 116 1 108,zw 12 115,zw 13 116] (zR [⟨.p 14,.mv (kU 0),none⟩] (zR [zm 118 13,zm 119 10,⟨.l 120,.call (kF 275) [(.l 118),(.l 119),(kU 0)],none⟩,zn 117 120,ze 121 0 117,ze 122 1 117,zw 13 121,zw 14 122] (zR [zm 123 12,zm 124 14,zb 125 .add 123 124,zw 10 125] (.region [zm 127 0,zm 128 11,zm 129 0,zm 130 11,za 131 1 129 130,zd 132 1 131,zm 133 13,zm 134 9,⟨.l 135,.call (kF 277) [(.l 132),(.l 133),(.l 134)],none⟩,zn 126 135,ze 136 0 126,ze 137 1 126,za 138 1 127 128,zS 1 138 136,zw 9 137]))))))) (.region [zq 139 .add 18 1,zw 18 139])))
def qp:an:=zR [zr 158 .lss 20 19] (.seq (.cond (.l 158) (.skip) (.exit 4)) (.seq (.block 5 (zR [zm 159 20,zw 16 159] (.draw [(zm 161 0,[]),(zm 162 16,[0]),(zm 163 0,[0,1]),(zm 164 16,[0,1,2]),(za 165 1 163 164,[0,1]),(zd 166 1 165,[0,1]),(zm 167 1,[0,1,2,3,4,5]),(zm 168 16,[0,1,2,3,4,5,6]),(za 169 1 167 168,[0,1,2,3,4,5]),(zd 170 1 169,[0,1,2,3,4,5]),(zm 171 15,[0,1,2,3,4,5,6,7,8,9]),(⟨.l 172,.call (kF 275) [(.l 166),(.l 170),(.l 171)],none⟩,[0,1]),(zn 160 172,[0,1]),(ze 173 0 160,[0,1]),(ze 174 1 160,[0,1,13]),(za 175 1 161 162,[14]),(zS 1 175 173,[14]),(zw 15 174,[])]))) (.region [zq 176 .add 20 1,zw 20 176])))
def Gp:an:=zR [⟨.p 2,.mv (kU 0),none⟩] (zR [zm 19 1,zl 20 19,zw 3 20] (zR [⟨.p 4,.mv (kU 0),none⟩,⟨.p 5,.mv (kU 0),none⟩] (zR [⟨.p 6,.mv (kU 0),none⟩] (.seq (.seq (.draw [(zm 21 0,[]),(zm 22 3,[0]),(za 23 1 21 22,[]),(zd 24 1 23,[]),(zm 25 1,[0,1,2,3]),(zm 26 3,[0,1,2,3,4]),(zc 27 .sub 26 1,[0,1,2,3,4]),(za 28 1 25 27,[0,1,2,3]),(zd 29 1 28,[0,1,2,3]),(zb 30 .geq 24 29,[])]) (.cond (.l 30) (zR [⟨.p 4,.mv (kU 18446744073709551615),none⟩] (.draw [(zm 32 0,[]),(zm 33 3,[0]),(zc 34 .sub 33 1,[0]),(za 35 1 32 34,[]),(zd 36 1 35,[]),(zm 37 1,[0,1,2,3,4]),(zm 38 3,[0,1,2,3,4,5]),(zc 39 .sub 38 1,[0,1,2,3,4,5]),(za 40 1 37 39,[0,1,2,3,4]),(zd 41 1 40,[0,1,2,3,4]),(⟨.l 42,.call (kF 275) [(.l 36),(.l 41),(kU 0)],none⟩,[]),(zn 31 42,[]),(ze 43 0 31,[]),(ze 44 1 31,[12]),(zw 5 43,[13]),(zw 6 44,[])])) (.draw [(zm 46 0,[]),(zm 47 3,[0]),(za 48 1 46 47,[]),(zd 49 1 48,[]),(zm 50 0,[0,1,2,3]),(zm 51 3,[0,1,2,3,4]),(zc 52 .sub 51 1,[0,1,2,3,4]),(za 53 1 50 52,[0,1,2,3]),(zd 54 1 53,[0,1,2,3]),(zm 55 1,[0,1,2,3,4,5,6,7,8]),(zm 56 3,[0,1,2,3,4,5,6,7,8,9]),(zc 57 .sub 56 1,[0,1,2,3,4,5,6,7,8,9]),(za 58 1 55 57,[0,1,2,3,4,5,6,7,8]),(zd 59 1 58,[0,1,2,3,4,5,6,7,8]),(⟨.l 60,.call (kF 278) [(.l 49),(.l 54),(.l 59)],none⟩,[]),(zn 45 60,[]),(ze 61 0 45,[]),(ze 62 1 45,[16]),(zw 4 61,[17]),(zw 5 62,[])]))) (.seq (.block 0 (.loop zO)) (zR [⟨.p 9,.mv (kU 0),none⟩,⟨.p 10,.mv (kU 0),none⟩] (.seq (zR [⟨.p 17,.mv (.p 3),none⟩,zi 18 0] (.block 2 (.loop qo))) (zR [zm 141 0,zm 142 3,zm 143 0,zm 144 3,za 145 1 143 144,zd 146 1 145,zm 147 10,zm 148 9,⟨.l 149,.call (kF 277) [(.l 146),(.l 147),(.l 148)],none⟩,zn 140 149,ze 150 0 140,ze 151 1 140,za 152 1 141 142,zS 1 152 150,zw 9 151] (.seq (zR [zm 153 9,⟨.l 154,.bin .eql (.l 153) (kU 0),none⟩] (.cond (.l 154) (zR [zm 155 4,zw 2 155] (.ret)) (.skip))) (zR [⟨.p 15,.mv (kU 0),none⟩] (.seq (zR [⟨.p 19,.mv (.p 3),none⟩,zi 20 0] (.block 4 (.loop qp))) (zR [zm 177 0,zm 178 3,za 179 1 177 178,zd 180 1 179,zm 181 15,zb 182 .add 180 181,za 183 1 177 178,zS 1 183 182] (zR [zm 184 4,⟨.l 185,.bin .sub (.l 184) (kU 1),none⟩,zw 2 185] (.ret))))))))))))))
theorem Rh:FT 281=some ⟨186,[0,1,4,5,6,7,8,9,10,11,12,13,14,15,16,17,18,104,105,156,157],[.var (.p 2)],Gp⟩:=by kernel_rfl
def tY:an:=zR [zr 23 .lss 8 7] (.seq (.cond (.l 23) (.skip) (.exit 0)) (.seq (.block 1 (zR [zm 24 8,zw 5 24] (zR [⟨.p 6,.mv (kU 0),none⟩] (.seq (zR [zm 25 5,zm 26 1,zl 27 26,zb 28 .lss 25 27] (.cond (.l 28) (.region [zm 29 1,zm 30 5,za 31 1 29 30,zd 32 1 31,zw 6 32]) (.skip))) (.region [zm 34 3,zm 35 5,zm 36 0,zm 37 5,za 38 1 36 37,zd 39 1 38,zm 40 6,zm 41 4,⟨.l 42,.call (kF 275) [(.l 39),(.l 40),(.l 41)],none⟩,zn 33 42,ze 43 0 33,ze 44 1 33,za 45 1 34 35,zS 1 45 43,zw 4 44]))))) (.region [zq 46 .add 8 1,zw 8 46])))
def Gq:an:=zR [⟨.p 2,.mv (.c (.ae)),none⟩] (.seq (zR [zm 9 0,zl 10 9,zm 11 1,zl 12 11,zb 13 .lss 10 12] (.cond (.l 13) (.region [zm 14 1,zm 15 0,zw 0 14,zw 1 15]) (.skip))) (zR [zm 16 0,zl 17 16,zc 18 .add 17 1,⟨.l 19,.fK 246 1 8 [.uV (0)] (.l 18) (.l 18),none⟩,zw 3 19] (zR [⟨.p 4,.mv (kU 0),none⟩] (.seq (zR [zm 20 0,⟨.p 7,.len .sl (.l 20),none⟩,zi 8 0] (.block 0 (.loop tY))) (zR [zm 47 3,zm 48 0,zl 49 48,zm 50 4,za 51 1 47 49,zS 1 51 50] (zR [zm 52 3,z1 53 276 52,zw 2 53] (.ret)))))))
theorem Ri:FT 249=some ⟨54,[0,1,4,5,6,7,8,21,22],[.var (.p 2)],Gq⟩:=by kernel_rfl
def tZ:an:=zR [zr 15 .lss 8 7] (.seq (.cond (.l 15) (.skip) (.exit 0)) (.seq (.block 1 (zR [zm 16 8,zw 5 16] (zR [⟨.p 6,.mv (kU 0),none⟩] (.seq (zR [zm 17 5,zm 18 1,zl 19 18,zb 20 .lss 17 19] (.cond (.l 20) (.region [zm 21 1,zm 22 5,za 23 1 21 22,zd 24 1 23,zw 6 24]) (.skip))) (.region [zm 26 3,zm 27 5,zm 28 0,zm 29 5,za 30 1 28 29,zd 31 1 30,zm 32 6,zm 33 4,⟨.l 34,.call (kF 277) [(.l 31),(.l 32),(.l 33)],none⟩,zn 25 34,ze 35 0 25,ze 36 1 25,za 37 1 26 27,zS 1 37 35,zw 4 36]))))) (.region [zq 38 .add 8 1,zw 8 38])))
def Gr:an:=zR [⟨.p 2,.mv (.c (.ae)),none⟩] (zR [zm 9 0,zl 10 9,⟨.l 11,.fK 246 1 8 [.uV (0)] (.l 10) (.l 10),none⟩,zw 3 11] (zR [⟨.p 4,.mv (kU 0),none⟩] (.seq (zR [zm 12 0,⟨.p 7,.len .sl (.l 12),none⟩,zi 8 0] (.block 0 (.loop tZ))) (zR [zm 39 3,z1 40 276 39,zw 2 40] (.ret)))))
theorem Rj:FT 251=some ⟨41,[0,1,4,5,6,7,8,13,14],[.var (.p 2)],Gr⟩:=by kernel_rfl
def Gs:an:=zR [⟨.p 1,.mv (kU 0),none⟩] (.seq (zR [zm 3 0,zc 4 .lss 3 0] (.cond (.l 4) (zR [zm 5 0,⟨.l 6,.un .neg (.l 5),none⟩,⟨.l 7,.dM .u64 (.l 6),none⟩,zw 1 7] (.ret)) (.skip))) (zR [zm 8 0,⟨.l 9,.dM .u64 (.l 8),none⟩,zw 1 9] (.ret)))
theorem Rk:FT 245=some ⟨10,[0,2],[.var (.p 1)],Gs⟩:=by kernel_rfl
def ua:an:=zR [zx 1 131 2 0,⟨.p 2,.mv (.c (.bool false)),none⟩,⟨.p 3,.mv (.c (.ae)),none⟩] (.seq (.block 0 (zR [zf 5 1 1,zd 6 1 5,⟨.l 7,.eq true (.ref .slice) (.l 6) (.c (.ae)),none⟩,zn 4 7] (.cond (.l 4) (.seq (.draw [(zf 8 0 1,[]),(zd 9 1 8,[]),(zc 10 .lss 9 0,[]),(zf 11 1 1,[0,1,2]),(zd 12 1 11,[0,1,2]),(zw 2 10,[3,4]),(zw 3 12,[])]) (.ret)) (zR [zf 14 0 1,zd 15 1 14,zc 16 .eql 15 0,zn 13 16] (.cond (.l 13) (zR [⟨.p 2,.mv (.c (.bool false)),none⟩,⟨.p 3,.mv (.c (.ae)),none⟩] (.ret)) (.skip)))))) (.seq (.draw [(zf 17 0 1,[]),(zd 18 1 17,[]),(zc 19 .lss 18 0,[]),(zf 20 0 1,[0,1,2]),(zd 21 1 20,[0,1,2]),(z1 22 245 21,[0,1,2]),(⟨.l 23,.dT 246 1 1 [.uV (0)] [(0,1,(.l 22))],none⟩,[0,1,2]),(zw 2 19,[6]),(zw 3 23,[])]) (.ret)))
theorem zQ:FT 246=some ⟨24,[0,1,2,3],[.var (.p 2),.var (.p 3)],ua⟩:=by kernel_rfl
def nS:an:=zR [⟨.p 2,.alloc 131 [.iV (0),.ae],none⟩] (.seq (.block 0 (zR [zm 6 1,zl 7 6,zc 8 .eql 7 0,zn 5 8] (.cond (.l 5) (zR [⟨.l 9,.build [.iV (0),.ae] [],none⟩,zs 2 2 9] (.ret)) (zR [zm 11 1,zl 12 11,zc 13 .eql 12 1,zn 14 13,zg (zm 15 1) 14 true,⟨.l 16,.dX none 1 (.l 15) (kI 0),some ((.l 14),true)⟩,zg (zd 17 1 16) 14 true,⟨.l 18,.bin .leq (.l 17) (kU 9223372036854775807),some ((.l 14),true)⟩,zp 19 14 18,zn 20 19,zg (zm 21 0) 20 true,zp 22 20 21,zn 10 22] (.cond (.l 10) (zR [zm 23 1,⟨.l 24,.dX none 1 (.l 23) (kI 0),none⟩,zd 25 1 24,⟨.l 26,.dM .i64 (.l 25),none⟩,⟨.l 27,.un .neg (.l 26),none⟩,⟨.l 28,.build [.iV (0),.ae] [(0,1,(.l 27))],none⟩,zs 2 2 28] (.ret)) (zR [zm 30 1,zl 31 30,zc 32 .eql 31 1,zn 33 32,zg (zm 34 1) 33 true,⟨.l 35,.dX none 1 (.l 34) (kI 0),some ((.l 33),true)⟩,zg (zd 36 1 35) 33 true,⟨.l 37,.bin .leq (.l 36) (kU 9223372036854775807),some ((.l 33),true)⟩,zp 38 33 37,zn 29 38] (.cond (.l 29) (zR [zm 39 1,⟨.l 40,.dX none 1 (.l 39) (kI 0),none⟩,zd 41 1 40,⟨.l 42,.dM .i64 (.l 41),none⟩,⟨.l 43,.build [.iV (0),.ae] [(0,1,(.l 42))],none⟩,zs 2 2 43] (.ret)) (zR [zm 45 0,zn 44 45] (.cond (.l 44) (zR [zm 46 1,⟨.l 47,.build [.iV (0),.ae] [(0,1,(kI (-1))),(1,1,(.l 46))],none⟩,zs 2 2 47] (.ret)) (.skip)))))))))) (zR [zm 48 1,⟨.l 49,.build [.iV (0),.ae] [(0,1,(kI 1)),(1,1,(.l 48))],none⟩,zs 2 2 49] (.ret)))
theorem qq:FT 247=some ⟨50,[0,1,4],[.cell 2 true (.p 2)],nS⟩:=by kernel_rfl
def Gt:an:=zR [⟨.p 2,.mv (kU 0),none⟩,⟨.p 3,.mv (kU 0),none⟩] (zR [zm 14 0,⟨.l 15,.bin .and (.l 14) (kU 4294967295),none⟩,zw 4 15] (zR [zm 16 0,⟨.l 17,.bin .shr (.l 16) (kU 32),none⟩,zw 5 17] (zR [zm 18 1,⟨.l 19,.bin .and (.l 18) (kU 4294967295),none⟩,zw 6 19] (zR [zm 20 1,⟨.l 21,.bin .shr (.l 20) (kU 32),none⟩,zw 7 21] (zR [zm 22 4,zm 23 6,zb 24 .mul 22 23,zw 8 24] (zR [zm 25 5,zm 26 6,zb 27 .mul 25 26,zm 28 8,⟨.l 29,.bin .shr (.l 28) (kU 32),none⟩,zb 30 .add 27 29,zw 9 30] (zR [zm 31 9,⟨.l 32,.bin .and (.l 31) (kU 4294967295),none⟩,zw 10 32] (zR [zm 33 9,⟨.l 34,.bin .shr (.l 33) (kU 32),none⟩,zw 11 34] (zR [zm 35 10,zm 36 4,zm 37 7,zb 38 .mul 36 37,zb 39 .add 35 38,zw 10 39] (zR [zm 40 5,zm 41 7,zb 42 .mul 40 41,zm 43 11,zb 44 .add 42 43,zm 45 10,⟨.l 46,.bin .shr (.l 45) (kU 32),none⟩,zb 47 .add 44 46,zw 2 47] (zR [zm 48 0,zm 49 1,zb 50 .mul 48 49,zw 3 50] (.ret))))))))))))
theorem Rl:FT 244=some ⟨51,[0,1,4,5,6,7,8,9,10,11,12,13],[.var (.p 2),.var (.p 3)],Gt⟩:=by kernel_rfl
def ub:an:=.seq (zR [zm 67 12,⟨.l 68,.bin .geq (.l 67) (kU 4294967296),none⟩,zn 69 68,zg (zm 70 12) 69 false,zg (zm 71 7) 69 false,zg (zb 72 .mul 70 71) 69 false,zg (zm 73 13) 69 false,⟨.l 74,.bin .mul (kU 4294967296) (.l 73),some ((.l 69),false)⟩,zg (zm 75 10) 69 false,zg (zb 76 .add 74 75) 69 false,zg (zb 77 .gtr 72 76) 69 false,zP 78 69 77] (.cond (.l 78) (.skip) (.exit 0))) (.block 1 (zR [zm 79 12,⟨.l 80,.bin .sub (.l 79) (kU 1),none⟩,zw 12 80] (zR [zm 81 13,zm 82 6,zb 83 .add 81 82,zw 13 83] (zR [zm 84 13,⟨.l 85,.bin .geq (.l 84) (kU 4294967296),none⟩] (.cond (.l 85) (.exit 0) (.skip))))))
def uc:an:=.seq (zR [zm 102 15,⟨.l 103,.bin .geq (.l 102) (kU 4294967296),none⟩,zn 104 103,zg (zm 105 15) 104 false,zg (zm 106 7) 104 false,zg (zb 107 .mul 105 106) 104 false,zg (zm 108 13) 104 false,⟨.l 109,.bin .mul (kU 4294967296) (.l 108),some ((.l 104),false)⟩,zg (zm 110 11) 104 false,zg (zb 111 .add 109 110) 104 false,zg (zb 112 .gtr 107 111) 104 false,zP 113 104 112] (.cond (.l 113) (.skip) (.exit 2))) (.block 3 (zR [zm 114 15,⟨.l 115,.bin .sub (.l 114) (kU 1),none⟩,zw 15 115] (zR [zm 116 13,zm 117 6,zb 118 .add 116 117,zw 13 118] (zR [zm 119 13,⟨.l 120,.bin .geq (.l 119) (kU 4294967296),none⟩] (.cond (.l 120) (.exit 2) (.skip))))))
def Gu:an:=zR [⟨.p 3,.mv (kU 0),none⟩,⟨.p 4,.mv (kU 0),none⟩] (.seq (zR [zm 19 2,⟨.l 20,.bin .eql (.l 19) (kU 0),none⟩] (.cond (.l 20) (.bad) (.skip))) (.seq (zR [zm 22 2,zm 23 0,zb 24 .leq 22 23] (.cond (.l 24) (.bad) (.skip))) (.seq (zR [zm 26 0,⟨.l 27,.bin .eql (.l 26) (kU 0),none⟩] (.cond (.l 27) (.seq (.draw [(zm 28 1,[]),(zm 29 2,[0]),(zb 30 .quo 28 29,[]),(zm 31 1,[0,1,2]),(zm 32 2,[0,1,2,3]),(zb 33 .rem 31 32,[0,1,2]),(zw 3 30,[3,4,5]),(zw 4 33,[])]) (.ret)) (.skip))) (zR [zm 34 2,z1 35 279 34,⟨.l 36,.dM .u64 (.l 35),none⟩,zw 5 36] (zR [zm 37 2,zm 38 5,zb 39 .shl 37 38,zw 2 39] (zR [zm 40 2,⟨.l 41,.bin .shr (.l 40) (kU 32),none⟩,zw 6 41] (zR [zm 42 2,⟨.l 43,.bin .and (.l 42) (kU 4294967295),none⟩,zw 7 43] (zR [zm 44 0,zm 45 5,zb 46 .shl 44 45,zm 47 1,zm 48 5,⟨.l 49,.bin .sub (kU 64) (.l 48),none⟩,zb 50 .shr 47 49,zb 51 .or 46 50,zw 8 51] (zR [zm 52 1,zm 53 5,zb 54 .shl 52 53,zw 9 54] (zR [zm 55 9,⟨.l 56,.bin .shr (.l 55) (kU 32),none⟩,zw 10 56] (zR [zm 57 9,⟨.l 58,.bin .and (.l 57) (kU 4294967295),none⟩,zw 11 58] (zR [zm 59 8,zm 60 6,zb 61 .quo 59 60,zw 12 61] (zR [zm 62 8,zm 63 12,zm 64 6,zb 65 .mul 63 64,zb 66 .sub 62 65,zw 13 66] (.seq (.block 0 (.loop ub)) (zR [zm 86 8,⟨.l 87,.bin .mul (.l 86) (kU 4294967296),none⟩,zm 88 10,zb 89 .add 87 88,zm 90 12,zm 91 2,zb 92 .mul 90 91,zb 93 .sub 89 92,zw 14 93] (zR [zm 94 14,zm 95 6,zb 96 .quo 94 95,zw 15 96] (zR [zm 97 14,zm 98 15,zm 99 6,zb 100 .mul 98 99,zb 101 .sub 97 100,zw 13 101] (.seq (.block 2 (.loop uc)) (zR [zm 121 12,⟨.l 122,.bin .mul (.l 121) (kU 4294967296),none⟩,zm 123 15,zb 124 .add 122 123,zm 125 14,⟨.l 126,.bin .mul (.l 125) (kU 4294967296),none⟩,zm 127 11,zb 128 .add 126 127,zm 129 15,zm 130 2,zb 131 .mul 129 130,zb 132 .sub 128 131,zm 133 5,zb 134 .shr 132 133,zw 3 124,zw 4 134] (.ret))))))))))))))))))))
theorem Rm:FT 278=some ⟨135,[0,1,2,6,7,8,9,10,11,12,13,14,15,16,17,18],[.var (.p 3),.var (.p 4)],Gu⟩:=by kernel_rfl
def Gv:an:=zR [zi 1 0] (zR [zm 3 0,z1 4 240 3,⟨.l 5,.bin .sub (kI 64) (.l 4),none⟩,zw 1 5] (.ret))
theorem Ro:FT 279=some ⟨6,[0,2],[.var (.p 1)],Gv⟩:=by kernel_rfl
end Go.Ab.Ch1

/-
  Own work: numbers by their digits to a base, the least significant one first: values, parts, changes of a digit, the length without zeros.
-/
namespace Go.Ab.aR
def WV (b:Int):List Int->Int
 | []=>0
 | x::l=>x+b*WV b l
def okW (b:Int)(l:List Int):Prop:=∀x∈l,0<=x/\x<b
theorem gH {b:Int}:okW b []:=fun x hx=>by cases hx
theorem Gw {b x:Int}{l:List Int}(h:okW b (x::l)):(0<=x/\x<b)/\okW b l:=⟨h x (by simp),fun y hy=>h y (by simp[hy])⟩
theorem bL {b:Int}{l:List Int}(h:okW b l){i:Nat}(hi:i<l.length):0<=l[i]! /\ l[i]! < b:=h _ (by rw[getElem!_pos l i hi];exact List.getElem_mem hi)
theorem fx {b:Int}{l:List Int}(h:okW b l){i:Nat}{v:Int}(hv:0<=v/\v<b):okW b (l.set i v):=fun x hx=>by
 rcases List.mem_or_eq_of_mem_set hx with hx|rfl
 . exact h x hx
 . exact hv
theorem cY {b:Int}{l:List Int}(h:okW b l)(n:Nat):okW b (l.take n):=fun x hx=>h x (List.mem_of_mem_take hx)
theorem hC {b:Int}{l:List Int}(h:okW b l)(n:Nat):okW b (l.drop n):=fun x hx=>h x (List.mem_of_mem_drop hx)
theorem iu {b:Int}{l m:List Int}(h:okW b l)(k:okW b m):okW b (l++m):=fun x hx=>by
 rcases List.mem_append.1 hx with hx|hx
 . exact h x hx
 . exact k x hx
theorem jv {b:Int}(hb:0<b){n:Nat}:okW b (List.replicate n 0):=fun x hx=>by
 rw[(List.mem_replicate.1 hx).2];omega
theorem fh {b:Int}:∀{l m:List Int},WV b (l++m)=WV b l+b^l.length*WV b m
 | [],m=>by simp[WV]
 | x::l,m=>by
  rw[List.cons_append,WV,WV,fh,List.length_cons,Int.pow_succ];grind
theorem jU {b:Int}{l:List Int}{i:Nat}(h:i<=l.length):WV b l=WV b (l.take i)+b^i*WV b (l.drop i):=by
 have:=fh (b:=b) (l:=l.take i) (m:=l.drop i);rwa [List.take_append_drop,List.length_take,Nat.min_eq_left h]at this
theorem eu {b:Int}{l:List Int}{i:Nat}(h:i<l.length):WV b (l.take (i+1))=WV b (l.take i)+b^i*l[i]! := by
 rw[List.take_add_one,List.getElem?_eq_getElem h,getElem!_pos l i h,Option.toList_some,fh,List.length_take,Nat.min_eq_left (by omega)];simp[WV]
theorem mj {b:Int}{l:List Int}{i:Nat}(h:i<l.length):WV b (l.drop i)=l[i]! + b*WV b (l.drop (i+1)):=by
 rw[List.drop_eq_getElem_cons h,getElem!_pos l i h,WV]
theorem Gx {b:Int}:∀{l:List Int},(∀x∈l,x=0)->WV b l=0
 | [],_=>rfl
 | x::l,h=>by rw[WV,h x (by simp),Gx fun y hy=>h y (by simp[hy])];simp
theorem jx {b:Int}{n:Nat}:WV b (List.replicate n 0)=0:=Gx fun _x hx=>(List.mem_replicate.1 hx).2
theorem fy {b:Int}:∀{l:List Int} {i:Nat} {v:Int},i<l.length->WV b (l.set i v)=WV b l+b^i*(v-l[i]!)
 | [],i,v,h=>by simp at h
 | x::l,0,v,h=>by simp[WV];omega
 | x::l,i+1,v,h=>by
  have e:(x::l)[i+1]! = l[i]! := by simp[List.getElem!_eq_getElem?_getD]
  rw[List.set_cons_succ,WV,WV,fy (by simpa using h),e,Int.pow_succ];grind
theorem qs {b:Int}(hb:0<b)(n:Nat):0<b^n:=Int.pow_pos hb
theorem bT {b:Int}(hb:0<b):∀{l:List Int},okW b l->0<=WV b l
 | [],_=>Int.le_refl _
 | x::l,h=>by
  obtain⟨h1,h2⟩:=Gw h;have:=Int.mul_nonneg (Int.le_of_lt hb) (bT hb h2);rw[WV];omega
theorem cR {b:Int}(hb:0<b):∀{l:List Int},okW b l->WV b l<b^l.length
 | [],_=>by simp[WV]
 | x::l,h=>by
  obtain⟨h1,h2⟩:=Gw h;have h3:=cR hb h2;have h4:b*(WV b l+1)<=b*b^l.length:=Int.mul_le_mul_of_nonneg_left (by omega) (Int.le_of_lt hb);rw[WV,List.length_cons,Int.pow_succ,Int.mul_comm (b^l.length) b];rw[Int.mul_add]at h4;omega
theorem fI {b:Int}(hb:1<b){m n:Nat}(h:m<=n):b^m<=b^n:=by
 obtain⟨k,rfl⟩:∃k,n=m+k:=⟨n-m,by omega⟩;rw[Int.pow_add];have h1:=qs (show 0<b by omega) m;have h2:=qs (show 0<b by omega) k;have h3:b^m*1<=b^m*b^k:=Int.mul_le_mul_of_nonneg_left (by omega) (Int.le_of_lt h1);omega
def aL:List Int->Nat
 | []=>0
 | x::l=>if aL l=0 then (if x=0 then 0 else 1) else aL l+1
theorem gK:∀{l:List Int},aL l<=l.length
 | []=>Nat.le_refl _
 | x::l=>by
  have:=gK (l:=l);rw[aL,List.length_cons]
  (repeat' split) <;> omega
theorem Gy:∀{l:List Int} {x:Int},aL (l++[x])=if x=0 then aL l else l.length+1
 | [],x=>by simp[aL]
 | y::l,x=>by
  rw[List.cons_append,aL,Gy,aL,List.length_cons];by_cases hx:x=0
  . simp[hx]
  . simp[hx]
theorem ml {l:List Int}{i:Nat}(h:i<l.length):aL (l.take (i+1))=if l[i]! = 0 then aL (l.take i) else i+1:=by
 rw[List.take_add_one,List.getElem?_eq_getElem h,getElem!_pos l i h,Option.toList_some,Gy,List.length_take,Nat.min_eq_left (by omega)]
theorem ud {b:Int}:∀{l:List Int},WV b (l.take (aL l))=WV b l
 | []=>rfl
 | x::l=>by
  have ih:=ud (b:=b) (l:=l);rw[aL];by_cases h:aL l=0
  . rw[h]at ih;rw[if_pos h,WV,←ih];by_cases hx:x=0
    . rw[if_pos hx,hx];simp[WV]
    . rw[if_neg hx];simp[WV]
  . rw[if_neg h,List.take_succ_cons,WV,WV,ih]
def aN (l:List Int):Prop:=aL l=l.length
theorem iK:aN []:=rfl
theorem zU:∀{l:List Int},aN (l.take (aL l))
 | []=>rfl
 | x::l=>by
  have ih:=zU (l:=l);have hle:=gK (l:=l);rw[aL];by_cases h:aL l=0
  . rw[if_pos h];by_cases hx:x=0
    . rw[if_pos hx];rfl
    . rw[if_neg hx];simp[aN,aL,hx]
  . rw[if_neg h,List.take_succ_cons];unfold aN at ih ⊢;rw[List.length_take,Nat.min_eq_left hle]at ih;rw[aL,List.length_cons,List.length_take,Nat.min_eq_left hle,ih,if_neg h]
theorem mn {l:List Int}(h:aN l)(h0:0<l.length):l[l.length-1]! ≠ 0:=fun e=>by
 have:=ml (l:=l) (i:=l.length-1) (by omega);rw[show l.length-1+1=l.length by omega,List.take_length,if_pos e]at this;have h2:=gK (l:=l.take (l.length-1));rw[List.length_take]at h2;unfold aN at h;omega
theorem zV {l:List Int}(h:0<l.length):aN l↔l[l.length-1]! ≠ 0:=by
 refine⟨fun hn=>mn hn h,fun e=>?_⟩;have:=ml (l:=l) (i:=l.length-1) (by omega);rw[show l.length-1+1=l.length by omega,List.take_length,if_neg e]at this;exact this
theorem nT {b:Int}(hb:1<b){l:List Int}(ok:okW b l)(h:aN l)(h0:0<l.length):b^(l.length-1)<=WV b l:=by
 have e:=jU (b:=b) (l:=l) (i:=l.length-1) (by omega);have h1:=bT (by omega) (cY ok (l.length-1));have h2:=mj (b:=b) (l:=l) (i:=l.length-1) (by omega);rw[show l.length-1+1=l.length by omega,List.drop_length,WV,Int.mul_zero,Int.add_zero]at h2;have h3:=mn h h0;have h4:=bL ok (i:=l.length-1) (by omega);rw[h2]at e;have h5:=qs (show 0<b by omega) (l.length-1);have h6:b^(l.length-1)*1<=b^(l.length-1)*l[l.length-1]! := Int.mul_le_mul_of_nonneg_left (by omega) (Int.le_of_lt h5);omega
theorem iS {b:Int}(hb:1<b){l:List Int}(ok:okW b l)(h:aN l):0<WV b l↔l≠[]:=by
 constructor
 . rintro h1 rfl;simp[WV]at h1
 . intro h1;have h0:0<l.length:=List.length_pos_iff.2 h1;have:=nT hb ok h h0;have:=qs (show 0<b by omega) (l.length-1);omega
theorem mq {b:Int}(hb:1<b){l m:List Int}(okl:okW b l)(okm:okW b m)(hm:aN m)(h:l.length<m.length):WV b l<WV b m:=by
 have h1:=cR (by omega) okl;have h2:=nT hb okm hm (by omega);have h3:=fI hb (show l.length<=m.length-1 by omega);omega
theorem fQ {b:Int}(hb:1<b){l:List Int}(ok:okW b l)(h:aN l){n:Nat}(hv:WV b l<b^n):l.length<=n:=by
 rcases Nat.lt_or_ge n l.length with h1|h1
 . have h2:=nT hb ok h (by omega);have h3:=fI hb (show n<=l.length-1 by omega);omega
 . exact h1
end Go.Ab.aR

/-
  Own work: words of 64 binary digits: the product of two words.
-/
namespace Go.Ab.Ch1
open Go.Ab.aR
variable {M:ao} {cap c1 c2:Option Nat}
theorem Rq {x y:Int}(hx:0<=x/\x<18446744073709551616)(hy:0<=y/\y<18446744073709551616) :
 let x0:=x%4294967296;let x1:=x/4294967296;let y0:=y%4294967296;let y1:=y/4294967296
 (0<=x0*y0/\x0*y0<=18446744065119617025)/\(0<=x1*y0/\x1*y0<=18446744065119617025)/\(0<=x0*y1/\x0*y1<=18446744065119617025)/\(0<=x1*y1/\x1*y1<=18446744065119617025) /\
   x*y=x1*y1*18446744073709551616+(x1*y0+x0*y1)*4294967296+x0*y0:=by
 intro x0 x1 y0 y1;have a0:0<=x0/\x0<=4294967295:=by omega
 have a1:0<=x1/\x1<=4294967295:=by omega
 have b0:0<=y0/\y0<=4294967295:=by omega
 have b1:0<=y1/\y1<=4294967295:=by omega
 have up:∀{a b:Int},0<=a/\a<=4294967295->0<=b/\b<=4294967295->0<=a*b/\a*b<=18446744065119617025:=fun {a b} ha hb=>
  ⟨Int.mul_nonneg ha.1 hb.1,by have:=Int.mul_le_mul ha.2 hb.2 hb.1 (by omega);omega⟩
 refine⟨up a0 b0,up a1 b0,up a0 b1,up a1 b1,?_⟩;have ex:x=x1*4294967296+x0:=by omega
 have ey:y=y1*4294967296+y0:=by omega
 generalize x0=x0 at *
 generalize x1=x1 at *
 generalize y0=y0 at *
 generalize y1=y1 at *
 subst ex;subst ey;grind
theorem Rr (hft:M.FT=FT)(x y:Int)(hx:0<=x/\x<18446744073709551616)(hy:0<=y/\y<18446744073709551616):aU M 244 [.uV x,.uV y] [] ⟨.aq [.uV (x*y/18446744073709551616),.uV (x*y%18446744073709551616)],[],[]⟩:=by
 obtain⟨p0,p1,p2,p3,e⟩:=Rq hx hy;refine bO (by rw[hft];exact Rl) (by simp) ?_;unfold Gt;simp only[enter];repeat' first|(apply aco;rfl;rfl;omega)|(apply abl (n:=32) (c:=4294967296);rfl;rfl;rfl;decide;rfl)|(apply aaU;rfl;rfl;exact⟨by omega,by omega⟩)|(apply abh;rfl;rfl;exact⟨by omega,by omega⟩)|(apply abP;rfl;rfl)|refine gc ?_|fail
 refine⟨.inr rfl,rfl,_,rfl,?_,rfl⟩;refine congrArg (fun u=>AV.aq [.uV u,.uV (x*y%18446744073709551616)]) ?_;omega
abbrev uC (x:Int):List AV:=[.uV x]
abbrev ak (l:List Int):List AV:=arr uC l
abbrev wB:Int:=18446744073709551616
theorem Gz {l:List Int}:(ak l).length=l.length:=by
 have:=js (f:=uC) (esz:=1) (fun _=>rfl) l;simpa using this
theorem Rs {l:List Int}{m:Nat}(h:m<l.length):(ak l)[m]? = some (.uV l[m]!):=by
 induction l generalizing m with
 | nil=>simp at h
 | cons x l ih=>
  cases m with
  | zero=>rfl
  | succ m=>
   have e:(x::l)[m+1]! = l[m]! := by simp[List.getElem!_eq_getElem?_getD]
   rw[e,←ih (by simpa using h)];rfl
section
variable {t b m:Nat} {x y:ax} {l:List aO} {pe:List AV} {lo:List (Nat×AV)} {hp:ab} {df wr:List Nat} {L:List Int} {e:TypeId} {v:Int} {Q:al->Prop}
theorem aaW (hx:(St.mk pe lo hp df).aa x=some (.ptr b m))(hb:hp.at b=some (.cells (ak L) e))(hi:m<L.length)
 (h:WO M l ⟨⟨pe,(t,.uV L[m]!)::lo,hp,df⟩,wr⟩ Q):WO M (⟨.l t,.load 1 false x,none⟩::l) ⟨⟨pe,lo,hp,df⟩,wr⟩ Q:=by
 refine abq (c:=ak L) (o:=m) (e:=e) (v:=.uV L[m]!) hx hb ?_ h;have h1:=Rs hi;have h2:m<(ak L).length:=by rw[Gz];exact hi
 rw[List.drop_eq_getElem_cons h2];rw[List.getElem?_eq_getElem h2]at h1;rw[Option.some.inj h1];rfl
theorem Rt {L:List Int}{m:Nat}{v:Int}(h:m<L.length):overwrite (ak L) m (uC v)=ak (L.set m v):=by
 induction L generalizing m with
 | nil=>simp at h
 | cons x L ih=>
  cases m with
  | zero=>simp[overwrite,arr]
  | succ m=>
   have:=ih (m:=m) (by simpa using h);simp only[List.set_cons_succ];have e1:ak (x::L) = .uV x::ak L:=rfl;have e2:ak (x::L.set m v) = .uV x::ak (L.set m v):=rfl;rw[e1,e2,←this];simp[overwrite]
theorem aaT (hx:(St.mk pe lo hp df).aa x=some (.ptr b m))(hy:(St.mk pe lo hp df).aa y=some (.uV v))(hb:hp.at b=some (.cells (ak L) e))(hi:m<L.length)
 (h:WO M l ⟨⟨pe,lo,hp.put b (some (.cells (ak (L.set m v)) e)),df⟩,b::wr⟩ Q):WO M (⟨.no,.store 1 x y,none⟩::l) ⟨⟨pe,lo,hp,df⟩,wr⟩ Q:=
 aaq (c:=ak L) (new:=uC v) hx (by rw[hy];rfl) hb ⟨rfl,by rw[Gz];omega,rfl⟩ (Rt hi) h
end
def bl (b n:Nat)(cap:Option Nat):AV:=if 0<n then .sl b 0 n 1 cap else .vs [] 0 cap
theorem abE {t n r b:Nat}{k:IntKind}{x y:ax}{l:List aO}{pe:List AV}{lo:List (Nat×AV)}{hp:ab}{df wr:List Nat}{Q:al->Prop}(hx:(St.mk pe lo hp df).aa x=some (.sl b 0 n 1 cap))(hy:(St.mk pe lo hp df).aa y=some (.int k r))(hr:r<=n)(hc:∀c,cap=some c->n<=c)
 (h:WO M l ⟨⟨pe,(t,bl b r cap)::lo,hp,df⟩,wr⟩ Q):WO M (⟨.l t,.slice .sl 1 x none (some y) none,none⟩::l) ⟨⟨pe,lo,hp,df⟩,wr⟩ Q:=by
 have hcap:(0:Int)<=(r:Int)/\(r:Int)<=((cap.getD n:Nat):Int):=by
  refine⟨by omega,?_⟩;cases cap with
  | none=>simp;omega
  | some c=>have:=hc c rfl;simp;omega
 have hcc:cap.map (fun x=>x)=cap:=by cases cap <;> simp
 refine aac (v:=bl b r cap) ?_ rfl h;unfold bl;simp only[aP,hx,St.cE,hy,Option.map_some,gP,br,Option.isNone_none,Option.isSome_some,Bool.true_or,if_true,if_pos hcap,Nat.sub_zero,Nat.zero_mul,Nat.zero_add,Int.toNat_natCast];split <;> simp[hcc]
theorem Ru (hft:M.FT=FT){b n:Nat}{L:List Int}{e:TypeId}{hp:ab}(hb:hp.at b=some (.cells (ak L) e))(hn:n<=L.length)(hl:n<1000000000)(hc:∀c,cap=some c->n<=c) :
 aU M 276 [.sl b 0 n 1 cap] hp ⟨bl b (aL (L.take n)) cap,hp,[]⟩:=by
 have hbl:=dQ hb;refine kD (by rw[hft];exact Rd) (by simp) (by unfold bl;split <;> simp[AV.top,aY];omega) ?_;unfold Gj;simp only[enter];repeat' first|refine gc ?_|fail
 have fin:∀(r:Nat) a1 lo,r<=n->bl b r cap=bl b (aL (L.take n)) cap->SQ M (zR [zm 18 0,zm 19 2,⟨.l 20,.slice .sl 1 (.l 18) none (some (.l 19)) none,none⟩,zw 1 20] .ret)
  (fun x s=>(x = .normal\/x = .ret)/\s.s.bA=[]/\(∃J,s.s.hp=hp++J)/\(∀x∈s.wr,hp.length<=x)/\∃vs,cU s.s [.var (.p 1)]=some vs/\aQ vs=bl b (aL (L.take n)) cap) .normal ⟨⟨[.sl b 0 n 1 cap,a1,.iV r],lo,hp,[]⟩,[]⟩:=fun r a1 lo hr he=>by
  repeat' first|refine gc ?_|fail
  refine abE (k:=.i64) rfl rfl hr hc ?_;repeat' first|refine gc ?_|fail
  rw[he];exact⟨.inr rfl,rfl,⟨[],by simp⟩,by simp,_,rfl,rfl⟩
 have loop:∀(r:Nat) lo a1,r<=n->aL (L.take r)=aL (L.take n)->W M (.loop tP) ⟨⟨[.sl b 0 n 1 cap,a1,.iV r],lo,hp,[]⟩,[]⟩ (BQ 0 (SQ M (zR [zm 18 0,zm 19 2,⟨.l 20,.slice .sl 1 (.l 18) none (some (.l 19)) none,none⟩,zw 1 20] .ret)
  (fun x s=>(x = .normal\/x = .ret)/\s.s.bA=[]/\(∃J,s.s.hp=hp++J)/\(∀x∈s.wr,hp.length<=x)/\∃vs,cU s.s [.var (.p 1)]=some vs/\aQ vs=bl b (aL (L.take n)) cap))):=by
  intro r;induction r with
  | zero=>
   intro lo a1 hr he;refine W.loop ?_;unfold tP;exact gg4
  | succ r ih=>
   intro lo a1 hr he;have e:=ml (l:=L) (i:=r) (by omega);have ei:0+((((r+1:Nat):Int)-1).toNat)*1=r:=by omega
   have er:((r+1:Nat):Int)-1=r:=by omega
   refine W.loop ?_;unfold tP;by_cases h0:L[r]! = 0
   . rw[if_pos h0]at e;refine gg10 ?_;refine cW ?_;have:=ih ((17,.iV (((r+1:Nat):Int)-1))::(16,.iV ((r+1:Nat):Int))::[]) a1 (by omega) (e.symm.trans he);rw[←er]at this;exact this
   . rw[if_neg h0]at e;exact gg6
 exact loop n _ _ (Nat.le_refl _) rfl
def aW (x:Int):Int:=if x<0 then -1 else if 0<x then 1 else 0
theorem ue {B:Int}(hB:1<B){a b:List Int}(ha:okW B a)(hb:okW B b){i:Nat}(hi:i<a.length)(hi2:i<b.length)(hd:a.drop (i+1)=b.drop (i+1))(h:a[i]! < b[i]!):WV B a<WV B b:=by
 have e1:=jU (b:=B) (l:=a) (i:=i) (by omega);have e2:=jU (b:=B) (l:=b) (i:=i) (by omega);rw[mj hi]at e1;rw[mj hi2,←hd]at e2;have h1:=cR (by omega) (cY ha i);have h2:=bT (by omega) (cY hb i);rw[List.length_take,Nat.min_eq_left (by omega)]at h1;have h3:B^i*(a[i]! + B*WV B (a.drop (i+1))+1)<=B^i*(b[i]! + B*WV B (a.drop (i+1))):=Int.mul_le_mul_of_nonneg_left (by omega) (Int.le_of_lt (qs (by omega) i));rw[Int.mul_add _ _ 1,Int.mul_one]at h3;omega
theorem Rv (hft:M.FT=FT)(a b:List Int)(ha:okW wB a)(hb:okW wB b)(na:aN a)(nb:aN b)(la:a.length<1000000000)(_lb:b.length<1000000000) :
 aU M 250 [.vs (ak a) a.length c1,.vs (ak b) b.length c2] [] ⟨.iV (aW (WV wB a-WV wB b)),[],[]⟩:=by
 have hB:(1:Int)<wB:=by decide
 refine bO (by rw[hft];exact Re) (by simp) ?_;unfold Gk;simp only[enter];by_cases hl:a.length=b.length
 . refine gg13 ?_;have loop:∀(r:Nat) lo a2,r<=a.length->a.drop r=b.drop r->W M (.loop tQ) ⟨⟨[.vs (ak a) a.length c1,.vs (ak b) b.length c2,a2,.iV ((r:Int)-1)],lo,[],[]⟩,[]⟩ (BQ 0 (SQ M (zR [⟨.p 2,.mv (.c (.iV 0)),none⟩] .ret)
    fun e s=>(e = .normal\/e = .ret)/\s.s.bA=[]/\∃vs,cU s.s [.var (.p 2)]=some vs/\aQ vs = .iV (aW (WV wB a-WV wB b))/\(if (AV.iV (aW (WV wB a-WV wB b))).top<=0 then [] else s.s.hp)=[])):=by
    intro r;induction r with
    | zero=>
     intro lo a2 hr hd;rw[List.drop_zero,List.drop_zero]at hd;refine W.loop ?_;unfold tQ;repeat' first|(apply aaE;rfl;rfl)|refine gc ?_|(intro _;omega)|intro _
     all_goals try omega
     exact⟨.inr rfl,rfl,_,rfl,by rw[hd,Int.sub_self];rfl,rfl⟩
    | succ r ih=>
     intro lo a2 hr hd;have er:((r+1:Nat):Int)-1=r:=by omega
     rw[er];refine W.loop ?_;unfold tQ;by_cases he:a[((r:Int)).toNat]! = b[((r:Int)).toNat]!
     . have hd2:a.drop r=b.drop r:=by
        rw[List.drop_eq_getElem_cons (show r<a.length by omega),List.drop_eq_getElem_cons (show r<b.length by omega),hd,←getElem!_pos a r,←getElem!_pos b r];exact congrArg (· :: _) he
       repeat' first|(apply aaE;rfl;rfl)|(apply aaF;rfl;rfl)|refine gc ?_|(intro _;omega)|intro _
       all_goals first|contradiction|(omega)|skip
       exact cW (ih _ _ (by omega) hd2)
     . by_cases hlt:a[((r:Int)).toNat]! < b[((r:Int)).toNat]!
       . have:=ue hB ha hb (i:=r) (by omega) (by omega) hd hlt;repeat' first|(apply aab;rfl;rfl)|(apply aaE;rfl;rfl)|(apply aaF;rfl;rfl)|refine gc ?_|(intro _;omega)|intro _
         all_goals first|contradiction|(omega)|exact⟨.inr rfl,rfl,_,rfl,by rw[aW,if_pos (by omega)];rfl,rfl⟩
       . have:=ue hB hb ha (i:=r) (by omega) (by omega) hd.symm (show b[r]! < a[r]! from by
          have h1:a[r]! ≠ b[r]! := he;have h2:¬a[r]! < b[r]! := hlt;omega)
         repeat' first|(apply aab;rfl;rfl)|(apply aaE;rfl;rfl)|(apply aaF;rfl;rfl)|refine gc ?_|(intro _;omega)|intro _
         all_goals first|contradiction|(omega)|exact⟨.inr rfl,rfl,_,rfl,by rw[aW,if_neg (by omega),if_pos (by omega)];rfl,rfl⟩
   exact loop a.length _ _ (Nat.le_refl _) (by rw[List.drop_length,hl,List.drop_length])
 . by_cases hlt:a.length<b.length
   . have:=mq hB ha hb nb hlt;repeat' first|(apply aab;rfl;rfl)|(apply aaF;rfl;rfl)|refine gc ?_|(intro _;omega)|intro _
     all_goals first|contradiction|(omega)|exact⟨.inr rfl,rfl,_,rfl,by rw[aW,if_pos (by omega)];rfl,rfl⟩
   . have:=mq hB hb ha na (by omega);repeat' first|(apply aab;rfl;rfl)|(apply aaF;rfl;rfl)|refine gc ?_|(intro _;omega)|intro _
     all_goals first|contradiction|(omega)|exact⟨.inr rfl,rfl,_,rfl,by rw[aW,if_neg (by omega),if_pos (by omega)];rfl,rfl⟩
def jy (v:AV)(hh:ab)(r:List Int):Prop:=∃v1,iB hh v v1/\v1.top=0/\bI v1 = .vs (ak r) r.length none
theorem Rw (l:List Int):dx (ak l)=ak l:=yK (fun _=>rfl) l
theorem gh (l:List Int):aY (ak l)=0:=kB (fun _=>rfl) l
theorem jy.trim {b:Nat}{L:List Int}{e:TypeId}{hp:ab}{n:Nat}(hb:hp.at b=some (.cells (ak L) e))(hn:n<=L.length):jy (bl b (aL (L.take n)) cap) (if (aQ [bl b (aL (L.take n)) cap]).top<=0 then [] else hp) (L.take (aL (L.take n))):=by
 have hle:=gK (l:=L.take n);rw[List.length_take]at hle;obtain⟨k,hk⟩:∃k,k=aL (L.take n):=⟨_,rfl⟩;rw[←hk]at hle ⊢;by_cases h0:0<k
 . have e1:bl b k cap = .sl b 0 k 1 cap:=if_pos h0;rw[e1,if_neg (by simp[aQ,AV.top])];have hl:(L.take k).length=k:=by rw[List.length_take];omega
   have hF:Fr hp [b] (.sl b 0 k 1 cap) (.vs (ak (L.take k)) k none):=by
    refine .sl (m:=ak (L.take k)) (List.mem_singleton.2 rfl) hb ?_ rfl (fun i x y hx hy=>?_) (.inr rfl)
    . have:=jQ (f:=uC) (esz:=1) (fun _=>rfl) (l:=L) (i:=0) (n:=k) (by omega);simpa using this
    . rw[hx]at hy;cases hy;exact .same (bZ (gh _) hx)
   unfold jy;rw[hl];refine⟨_,⟨[b],hF,rfl,fun c l' e' hc hl'=>?_⟩,gh _,by rw[bI,Rw]⟩;rw[List.mem_singleton.1 hc,hb]at hl';cases hl';exact lT (fun _=>rfl) _
 . obtain rfl:k=0:=by omega
   exact⟨.vs [] 0 cap,.same rfl rfl,rfl,rfl⟩
theorem jz {n k:Nat}:(List.replicate n (0:Int))[k]! = 0:=by
 rw[List.getElem!_eq_getElem?_getD,List.getElem?_replicate];split <;> rfl
theorem fR {L:List Int}{i k:Nat}{v:Int}(h:i≠k):(L.set i v)[k]! = L[k]! := by
 rw[List.getElem!_eq_getElem?_getD,List.getElem!_eq_getElem?_getD,List.getElem?_set_ne h]
theorem uf {L:List Int}{i:Nat}{v:Int}(h:i<L.length):(L.set i v)[i]! = v:=by
 rw[List.getElem!_eq_getElem?_getD,List.getElem?_set_self h];rfl
structure kK (M:ao):Prop where
 ft:M.FT=FT
 ug:∀ars h,M.ext 276 ars h=none
 kL:∀x y c h,0<=x->0<=y->0<=c->c<=1->M.ext 275 [.uV x,.uV y,.uV c] h=some ⟨.aq [.uV ((x+y+c)%18446744073709551616),.uV ((x+y+c)/18446744073709551616)],h,[]⟩
 uh:∀(x y c:Int) h,0<=x->x<18446744073709551616->0<=y->y<18446744073709551616->0<=c->c<=1->M.ext 277 [.uV x,.uV y,.uV c] h=some ⟨.aq [.uV ((x-y-c)%18446744073709551616),.uV (if x<y+c then 1 else 0)],h,[]⟩
theorem kK.jV (C:kK M){b n:Nat}{L:List Int}{e:TypeId}{hp:ab}(hb:hp.at b=some (.cells (ak L) e))(hn:n<=L.length)(hl:n<1000000000)(hc:∀c,cap=some c->n<=c):CT M (.fn (.func 276) [] []) [.sl b 0 n 1 cap] hp ⟨bl b (aL (L.take n)) cap,hp,[]⟩:=
 CT.run (fi:=[]) (ca:=[]) (C.ug _ _) (Ru C.ft hb hn hl hc)
def nU (M:ao)(g:Nat)(ars:List AV)(z:Int):Prop:=∃r:List Int,(okW wB r/\aN r/\WV wB r=z)/\∃v hh,jy v hh r/\aU M g ars [] ⟨v,hh,[]⟩
theorem zW {f N:Nat}{az:List Nat}{res:List fc}{body:an}{ars:List AV}{z:Int}(hft:M.FT f=some ⟨N,az,res,body⟩)(hN:ars.length<=N)
 (h:W M body ⟨⟨az.map (fun t=>(ars[t]?).getD bJ),[],[],[]⟩,[]⟩ fun e s=>(e = .normal\/e = .ret)/\s.s.bA=[]/\∃vs,cU s.s res=some vs/\∃r:List Int,(okW wB r/\aN r/\WV wB r=z)/\jy (aQ vs) (if (aQ vs).top<=0 then [] else s.s.hp) r):nU M f ars z:=by
 obtain⟨v,hh,⟨r,hr,ho⟩,h2⟩:=gA (P:=fun v hh=>∃r:List Int,(okW wB r/\aN r/\WV wB r=z)/\jy v hh r) hft hN h;exact⟨r,hr,v,hh,ho,h2⟩
theorem kM {L:List Int}(ok:okW wB L):okW wB (L.take (aL L))/\aN (L.take (aL L))/\WV wB (L.take (aL L))=WV wB L:=⟨cY ok _,zU,ud⟩
def fj (y:List Int)(i:Nat):Int:=if i<y.length then y[i]! else 0
theorem qt {B:Int}{y:List Int}{i:Nat}:WV B (y.take (i+1))=WV B (y.take i)+B^i*fj y i:=by
 unfold fj;split
 . rename_i h;exact eu h
 . rename_i h;rw[List.take_of_length_le (by omega),List.take_of_length_le (by omega),Int.mul_zero,Int.add_zero]
theorem GA {y:List Int}(ok:okW wB y)(i:Nat):0<=fj y i/\fj y i<wB:=by
 unfold fj;split
 . rename_i h;exact bL ok h
 . exact⟨by decide,by decide⟩
theorem GB (C:kK M)(x y:List Int)(hx:okW wB x)(hy:okW wB y)(lx:x.length<100000000)(ly:y.length<=x.length){Q:Ex->al->Prop}(a2 a5 a6:AV)(lo:List (Nat×AV))
 (hQ:∀L (c:Int) a5 a6 lo wr,L.length=x.length+1->okW wB L->(0<=c/\c<=1)->L[x.length]! = 0->WV wB L+wB^x.length*c=WV wB x+WV wB y ->
   Q (.exit 0) ⟨⟨[.vs (ak x) x.length c1,.vs (ak y) y.length c2,a2,.sl 0 0 (x.length+1) 1 (some (x.length+1)),.uV c,a5,a6,.iV x.length,.iV x.length],lo,[some (.cells (ak L) 246)],[]⟩,wr⟩) :
 W M (.loop tY) ⟨⟨[.vs (ak x) x.length c1,.vs (ak y) y.length c2,a2,.sl 0 0 (x.length+1) 1 (some (x.length+1)),.uV 0,a5,a6,.iV x.length,.iV 0],lo,[some (.cells (ak (List.replicate (x.length+1) 0)) 246)],[]⟩,[]⟩ Q:=by
 refine W.gB x.length (fun i s=>∃L c a5 a6 lo wr,s=⟨⟨[.vs (ak x) x.length c1,.vs (ak y) y.length c2,a2,.sl 0 0 (x.length+1) 1 (some (x.length+1)),.uV c,a5,a6,.iV x.length,.iV i],lo,[some (.cells (ak L) 246)],[]⟩,wr⟩ /\
  L.length=x.length+1/\okW wB L/\(0<=c/\c<=1)/\(∀k,i<=k->L[k]! = 0)/\WV wB L+wB^i*c=WV wB (x.take i)+WV wB (y.take i)) (fun i s hi ⟨L,c,a5,a6,lo,wr,hs,hl,ba,hc,hz,hv⟩=>?_) (fun s ⟨L,c,a5,a6,lo,wr,hs,hl,ba,hc,hz,hv⟩=>?_) (Nat.zero_le _)
  ⟨_,_,_,_,_,_,rfl,by simp,jv (by decide),⟨by decide,by decide⟩,fun k _=>jz,by rw[jx];simp[WV]⟩
 . subst hs;have gx:=bL hx hi;rw[show x[i]! = x[((i:Int)).toNat]! from rfl]at gx;have gy:=GA hy i;obtain⟨v,hvv⟩:∃v,v=fj y i:=⟨_,rfl⟩;rw[←hvv]at gy;have q275:=fun h=>C.kL x[((i:Int)).toNat]! v c h gx.1 gy.1 hc.1 hc.2
   obtain⟨S,hS⟩:∃S,S=x[((i:Int)).toNat]! + v+c:=⟨_,rfl⟩;have hS2:0<=S/\S<2*18446744073709551616:=by
    have h1:x[((i:Int)).toNat]! < 18446744073709551616:=gx.2;have h2:v<18446744073709551616:=gy.2;omega
   have eI:0+((i:Int)).toNat*1=i:=by omega
   have next:∀a5 a6 lo wr,LI (fun s=>∃L c a5 a6 lo wr,s=⟨⟨[.vs (ak x) x.length c1,.vs (ak y) y.length c2,a2,.sl 0 0 (x.length+1) 1 (some (x.length+1)),.uV c,a5,a6,.iV x.length,.iV ((i+1:Nat):Int)],lo,[some (.cells (ak L) 246)],[]⟩,wr⟩ /\
    L.length=x.length+1/\okW wB L/\(0<=c/\c<=1)/\(∀k,i+1<=k->L[k]! = 0)/\WV wB L+wB^(i+1)*c=WV wB (x.take (i+1))+WV wB (y.take (i+1))) Q .normal ⟨⟨[.vs (ak x) x.length c1,.vs (ak y) y.length c2,a2,.sl 0 0 (x.length+1) 1 (some (x.length+1)),.uV (S/18446744073709551616),a5,a6,.iV x.length,.iV ((i:Int)+1)],lo,[some (.cells (ak (L.set i (S%18446744073709551616))) 246)],[]⟩,wr⟩:=fun a5 a6 lo wr=>
    cL ⟨_,_,a5,a6,lo,wr,rfl,by rw[List.length_set];exact hl,fx ba ⟨by omega,by show _<(18446744073709551616:Int);omega⟩,⟨by omega,by omega⟩,fun k hk=>by rw[fR (by omega)];exact hz k (by omega),by
     rw[fy (by omega),hz i (Nat.le_refl _),eu hi,qt (y:=y),←hvv,Int.pow_succ];have e:S=x[i]! + v+c:=hS;have e2:S%18446744073709551616+18446744073709551616*(S/18446744073709551616)=S:=by omega
     have e3:wB^i*(S%18446744073709551616)+wB^i*18446744073709551616*(S/18446744073709551616)=wB^i*(x[i]! + v+c):=by rw[←e,←e2];grind
     show WV wB L+wB^i*(S%18446744073709551616-0)+wB^i*18446744073709551616*(S/18446744073709551616)=_;grind⟩
   unfold tY;by_cases hy2:i<y.length
   . have e:v=y[((i:Int)).toNat]! := by rw[hvv,fj,if_pos hy2];rfl
     rw[e]at q275 hS;refine gg18 ?_;rw[←hS];exact next _ _ _ _
   . have e:v=0:=by rw[hvv,fj,if_neg hy2]
     rw[e]at q275 hS;refine gg18 ?_;rw[←hS];exact next _ _ _ _
 . subst hs;rw[List.take_length,List.take_of_length_le ly]at hv;unfold tY;exact gg1
theorem Rx (C:kK M)(x y:List Int)(hx:okW wB x)(hy:okW wB y)(lx:x.length<100000000)(ly:y.length<100000000):nU M 249 [.vs (ak x) x.length c1,.vs (ak y) y.length c2] (WV wB x+WV wB y):=by
 have fin:∀(x y:List Int) (L:List Int) (c:Int),okW wB x->x.length<100000000->L.length=x.length+1->okW wB L->(0<=c/\c<=1)->L[x.length]! = 0->WV wB L+wB^x.length*c=WV wB x+WV wB y ->
  okW wB (L.set x.length c)/\WV wB (L.set x.length c)=WV wB x+WV wB y:=fun x y L c _ _ hl ba hc hz hv=>
  ⟨fx ba ⟨hc.1,by have:=hc.2;show c<(18446744073709551616:Int);omega⟩,by rw[fy (by omega),hz,Int.sub_zero];exact hv⟩
 refine zW (by rw[C.ft];exact Ri) (by simp) ?_;unfold Gq;simp only[enter];by_cases hl:x.length<y.length
 . refine gg5 ?_;refine GB (c1:=c2) (c2:=c1) C y x hy hx ly (by omega) _ _ _ _ (fun L c a5 a6 lo wr h1 h2 h3 h4 h5=>?_);obtain⟨f1,f2⟩:=fin y x L c hy ly h1 h2 h3 h4 h5;have q:=C.jV (cap:=some (y.length+1)) (b:=0) (n:=y.length+1) (L:=L.set y.length c) (e:=246) (hp:=[some (.cells (ak (L.set y.length c)) 246)]) rfl (by rw[List.length_set];omega) (by omega) (fun c hc=>by cases hc;exact Nat.le_refl _);rw[List.take_of_length_le (by rw[List.length_set];omega)]at q;have eI:0+((y.length:Int)).toNat*1=y.length:=by omega
   refine gg5 ?_;refine⟨.inr rfl,rfl,_,rfl,(L.set y.length c).take (aL (L.set y.length c)),?_,?_⟩
   . obtain⟨g1,g2,g3⟩:=kM f1;exact⟨g1,g2,by rw[g3,f2];omega⟩
   . have:=jy.trim (cap:=some (y.length+1)) (b:=0) (L:=L.set y.length c) (e:=246) (hp:=[some (.cells (ak (L.set y.length c)) 246)]) (n:=y.length+1) rfl (by rw[List.length_set];omega);rw[List.take_of_length_le (by rw[List.length_set];omega)]at this;exact this
 . refine gg5 ?_;refine GB (c1:=c1) (c2:=c2) C x y hx hy lx (by omega) _ _ _ _ (fun L c a5 a6 lo wr h1 h2 h3 h4 h5=>?_);obtain⟨f1,f2⟩:=fin x y L c hx lx h1 h2 h3 h4 h5;have q:=C.jV (cap:=some (x.length+1)) (b:=0) (n:=x.length+1) (L:=L.set x.length c) (e:=246) (hp:=[some (.cells (ak (L.set x.length c)) 246)]) rfl (by rw[List.length_set];omega) (by omega) (fun c hc=>by cases hc;exact Nat.le_refl _);rw[List.take_of_length_le (by rw[List.length_set];omega)]at q;have eI:0+((x.length:Int)).toNat*1=x.length:=by omega
   refine gg5 ?_;refine⟨.inr rfl,rfl,_,rfl,(L.set x.length c).take (aL (L.set x.length c)),?_,?_⟩
   . obtain⟨g1,g2,g3⟩:=kM f1;exact⟨g1,g2,by rw[g3,f2]⟩
   . have:=jy.trim (cap:=some (x.length+1)) (b:=0) (L:=L.set x.length c) (e:=246) (hp:=[some (.cells (ak (L.set x.length c)) 246)]) (n:=x.length+1) rfl (by rw[List.length_set];omega);rw[List.take_of_length_le (by rw[List.length_set];omega)]at this;exact this
theorem Ry (C:kK M)(x y:List Int)(hx:okW wB x)(hy:okW wB y)(lx:x.length<100000000)(ly:y.length<=x.length){Q:Ex->al->Prop}(a2 a5 a6:AV)(lo:List (Nat×AV))
 (hQ:∀L (c:Int) a5 a6 lo wr,L.length=x.length->okW wB L->(0<=c/\c<=1)->WV wB L-wB^x.length*c=WV wB x-WV wB y ->
   Q (.exit 0) ⟨⟨[.vs (ak x) x.length c1,.vs (ak y) y.length c2,a2,.sl 0 0 x.length 1 (some x.length),.uV c,a5,a6,.iV x.length,.iV x.length],lo,[some (.cells (ak L) 246)],[]⟩,wr⟩) :
 W M (.loop tZ) ⟨⟨[.vs (ak x) x.length c1,.vs (ak y) y.length c2,a2,.sl 0 0 x.length 1 (some x.length),.uV 0,a5,a6,.iV x.length,.iV 0],lo,[some (.cells (ak (List.replicate x.length 0)) 246)],[]⟩,[]⟩ Q:=by
 refine W.gB x.length (fun i s=>∃L c a5 a6 lo wr,s=⟨⟨[.vs (ak x) x.length c1,.vs (ak y) y.length c2,a2,.sl 0 0 x.length 1 (some x.length),.uV c,a5,a6,.iV x.length,.iV i],lo,[some (.cells (ak L) 246)],[]⟩,wr⟩ /\
  L.length=x.length/\okW wB L/\(0<=c/\c<=1)/\(∀k,i<=k->L[k]! = 0)/\WV wB L-wB^i*c=WV wB (x.take i)-WV wB (y.take i)) (fun i s hi ⟨L,c,a5,a6,lo,wr,hs,hl,ba,hc,hz,hv⟩=>?_) (fun s ⟨L,c,a5,a6,lo,wr,hs,hl,ba,hc,hz,hv⟩=>?_) (Nat.zero_le _)
  ⟨_,_,_,_,_,_,rfl,by simp,jv (by decide),⟨by decide,by decide⟩,fun k _=>jz,by rw[jx];simp[WV]⟩
 . subst hs;have gx:=bL hx hi;rw[show x[i]! = x[((i:Int)).toNat]! from rfl]at gx;have gy:=GA hy i;obtain⟨v,hvv⟩:∃v,v=fj y i:=⟨_,rfl⟩;rw[←hvv]at gy;have q277:=fun h=>C.uh x[((i:Int)).toNat]! v c h gx.1 gx.2 gy.1 gy.2 hc.1 hc.2
   obtain⟨S,hS⟩:∃S,S=x[((i:Int)).toNat]! - v-c:=⟨_,rfl⟩;obtain⟨D,hD⟩:∃D:Int,D=if x[((i:Int)).toNat]! < v+c then 1 else 0:=⟨_,rfl⟩
   have hD2:0<=D/\D<=1/\S=S%18446744073709551616-18446744073709551616*D:=by
    have h1:x[((i:Int)).toNat]! < 18446744073709551616:=gx.2;have h2:v<18446744073709551616:=gy.2;rw[hD];split <;> omega
   have eI:0+((i:Int)).toNat*1=i:=by omega
   have next:∀a5 a6 lo wr,LI (fun s=>∃L c a5 a6 lo wr,s=⟨⟨[.vs (ak x) x.length c1,.vs (ak y) y.length c2,a2,.sl 0 0 x.length 1 (some x.length),.uV c,a5,a6,.iV x.length,.iV ((i+1:Nat):Int)],lo,[some (.cells (ak L) 246)],[]⟩,wr⟩ /\
    L.length=x.length/\okW wB L/\(0<=c/\c<=1)/\(∀k,i+1<=k->L[k]! = 0)/\WV wB L-wB^(i+1)*c=WV wB (x.take (i+1))-WV wB (y.take (i+1))) Q .normal ⟨⟨[.vs (ak x) x.length c1,.vs (ak y) y.length c2,a2,.sl 0 0 x.length 1 (some x.length),.uV D,a5,a6,.iV x.length,.iV ((i:Int)+1)],lo,[some (.cells (ak (L.set i (S%18446744073709551616))) 246)],[]⟩,wr⟩:=fun a5 a6 lo wr=>
    cL ⟨_,_,a5,a6,lo,wr,rfl,by rw[List.length_set];exact hl,fx ba ⟨by omega,by show _<(18446744073709551616:Int);omega⟩,⟨hD2.1,hD2.2.1⟩,fun k hk=>by rw[fR (by omega)];exact hz k (by omega),by
     rw[fy (by omega),hz i (Nat.le_refl _),eu hi,qt (y:=y),←hvv,Int.pow_succ];have e:S=x[i]! - v-c:=hS;have e3:wB^i*(S%18446744073709551616)-wB^i*18446744073709551616*D=wB^i*(x[i]! - v-c):=by rw[←e,Int.mul_assoc,←Int.mul_sub,←hD2.2.2]
     show WV wB L+wB^i*(S%18446744073709551616-0)-wB^i*18446744073709551616*D=_;grind⟩
   unfold tZ;by_cases hy2:i<y.length
   . have e:v=y[((i:Int)).toNat]! := by rw[hvv,fj,if_pos hy2];rfl
     rw[e]at q277 hS hD;rw[←hS,←hD]at q277;exact gg14
   . have e:v=0:=by rw[hvv,fj,if_neg hy2]
     rw[e]at q277 hS hD;rw[←hS,←hD]at q277;exact gg14
 . subst hs;rw[List.take_length,List.take_of_length_le ly]at hv;unfold tZ;exact gg1
theorem Rz (C:kK M)(x y:List Int)(hx:okW wB x)(hy:okW wB y)(lx:x.length<100000000)(ly:y.length<=x.length)(hle:WV wB y<=WV wB x):nU M 251 [.vs (ak x) x.length c1,.vs (ak y) y.length c2] (WV wB x-WV wB y):=by
 refine zW (by rw[C.ft];exact Rj) (by simp) ?_;unfold Gr;simp only[enter];repeat' first|refine gc ?_|fail
 all_goals try omega
 refine Ry (c1:=c1) (c2:=c2) C x y hx hy lx ly _ _ _ _ (fun L c a5 a6 lo wr h1 h2 h3 h5=>?_);have h6:WV wB L=WV wB x-WV wB y:=by
  have h7:=cR (b:=wB) (by decide) h2;rw[h1]at h7;have h8:c=0:=by
   rcases Int.lt_or_le 0 c with h|h
   . have:c=1:=by omega
     subst this;rw[Int.mul_one]at h5;omega
   . omega
  subst h8;rw[Int.mul_zero]at h5;omega
 have q:=C.jV (cap:=some x.length) (b:=0) (n:=x.length) (L:=L) (e:=246) (hp:=[some (.cells (ak L) 246)]) rfl (by omega) (by omega) (fun c hc=>by cases hc;exact Nat.le_refl _);rw[List.take_of_length_le (by omega)]at q;repeat' first|refine gd7 ?_|refine gc ?_|fail
 refine⟨.inr rfl,rfl,_,rfl,L.take (aL L),?_,?_⟩
 . obtain⟨g1,g2,g3⟩:=kM h2;exact⟨g1,g2,by rw[g3,h6]⟩
 . have:=jy.trim (cap:=some x.length) (b:=0) (L:=L) (e:=246) (hp:=[some (.cells (ak L) 246)]) (n:=x.length) rfl (by omega);rw[List.take_of_length_le (by omega)]at this;exact this
structure kN (M:ao):Prop extends kK M where
 mr:∀(x y:Int) h,(0<=x/\x<18446744073709551616)->(0<=y/\y<18446744073709551616)->M.ext 244 [.uV x,.uV y] h=some ⟨.aq [.uV (x*y/18446744073709551616),.uV (x*y%18446744073709551616)],h,[]⟩
theorem ui {x y:Int}(hx:0<=x/\x<18446744073709551616)(hy:0<=y/\y<18446744073709551616):0<=x*y/\x*y<=340282366920938463426481119284349108225:=by
 refine⟨Int.mul_nonneg hx.1 hy.1,?_⟩;have:=Int.mul_le_mul (a:=x) (b:=y) (c:=18446744073709551615) (d:=18446744073709551615) (by omega) (by omega) hy.1 (by omega);omega
theorem RA (C:kN M)(a b:List Int)(hb:okW wB b)(la:a.length<10000000)(lb:b.length<10000000)(i:Nat)(hi:i<a.length)(x P:Int)(hx:0<=x/\x<18446744073709551616){Q:Ex->al->Prop}(a2 a7 a8 a9 aA aB aC aD aE:AV)(lo:List (Nat×AV))(wr:List Nat)(L:List Int)(hl:L.length=a.length+b.length)(ba:okW wB L)(hz:∀k,i+b.length<=k->L[k]! = 0)(hv:WV wB L=P)
 (hQ:∀L (c:Int) a7 a8 a9 aA aB lo wr,L.length=a.length+b.length->okW wB L->(0<=c/\c<18446744073709551616)->(∀k,i+b.length<=k->L[k]! = 0)->WV wB L+wB^(i+b.length)*c=P+wB^i*x*WV wB b ->
   Q (.exit 2) ⟨⟨[.vs (ak a) a.length c1,.vs (ak b) b.length c2,a2,.sl 0 0 (a.length+b.length) 1 (some (a.length+b.length)),.iV i,.uV x,.uV c,a7,a8,a9,aA,aB,aC,aD,aE,.vs (ak b) b.length c2,.iV b.length,.iV b.length],lo,[some (.cells (ak L) 246)],[]⟩,wr⟩) :
 W M (.loop tS) ⟨⟨[.vs (ak a) a.length c1,.vs (ak b) b.length c2,a2,.sl 0 0 (a.length+b.length) 1 (some (a.length+b.length)),.iV i,.uV x,.uV 0,a7,a8,a9,aA,aB,aC,aD,aE,.vs (ak b) b.length c2,.iV b.length,.iV 0],lo,[some (.cells (ak L) 246)],[]⟩,wr⟩ Q:=by
 refine W.gB b.length (fun j s=>∃L c a7 a8 a9 aA aB lo wr,s=⟨⟨[.vs (ak a) a.length c1,.vs (ak b) b.length c2,a2,.sl 0 0 (a.length+b.length) 1 (some (a.length+b.length)),.iV i,.uV x,.uV c,a7,a8,a9,aA,aB,aC,aD,aE,.vs (ak b) b.length c2,.iV b.length,.iV j],lo,[some (.cells (ak L) 246)],[]⟩,wr⟩ /\
  L.length=a.length+b.length/\okW wB L/\(0<=c/\c<18446744073709551616)/\(∀k,i+b.length<=k->L[k]! = 0)/\WV wB L+wB^(i+j)*c=P+wB^i*x*WV wB (b.take j)) (fun j s hj ⟨L,c,a7,a8,a9,aA,aB,lo,wr,hs,hl,ba,hc,hz,hv⟩=>?_) (fun s ⟨L,c,a7,a8,a9,aA,aB,lo,wr,hs,hl,ba,hc,hz,hv⟩=>?_) (Nat.zero_le _)
  ⟨_,_,_,_,_,_,_,_,_,rfl,hl,ba,⟨by decide,by decide⟩,hz,by rw[hv];simp[WV]⟩
 . subst hs;have gy:=bL hb hj;rw[show b[j]! = b[((j:Int)).toNat]! from rfl]at gy;obtain⟨y,hy⟩:∃y,y=b[((j:Int)).toNat]! := ⟨_,rfl⟩;rw[←hy]at gy;have gy:0<=y/\y<18446744073709551616:=gy;have q244:=fun h=>C.mr x y h hx gy
   have hm:=ui hx gy;have hxy:∃m,m=x*y:=⟨_,rfl⟩;obtain⟨m,hmm⟩:=hxy;rw[←hmm]at q244 hm;have gL:=bL ba (i:=i+j) (by omega);obtain⟨w,hw⟩:∃w,w=L[i+j]! := ⟨_,rfl⟩;rw[←hw]at gL;have gL:0<=w/\w<18446744073709551616:=gL;have q1:=fun h=>C.kL (m%18446744073709551616) w 0 h (by omega) gL.1 (by decide) (by decide)
   have q2:=fun h=>C.kL ((m%18446744073709551616+w+0)%18446744073709551616) c 0 h (by omega) hc.1 (by decide) (by decide)
   obtain⟨R,hR⟩:∃R,R=((m%18446744073709551616+w+0)%18446744073709551616+c+0)%18446744073709551616:=⟨_,rfl⟩;obtain⟨D,hD⟩:∃D,D=m/18446744073709551616+(m%18446744073709551616+w+0)/18446744073709551616+((m%18446744073709551616+w+0)%18446744073709551616+c+0)/18446744073709551616:=⟨_,rfl⟩;have hD2:(0<=D/\D<18446744073709551616)/\m+w+c=R+18446744073709551616*D/\(0<=R/\R<18446744073709551616):=by omega
   have eI:0+(((i:Int)+(j:Int))).toNat*1=i+j:=by omega
   have next:∀a7 a8 a9 aA aB lo wr,LI (fun s=>∃L c a7 a8 a9 aA aB lo wr,s=⟨⟨[.vs (ak a) a.length c1,.vs (ak b) b.length c2,a2,.sl 0 0 (a.length+b.length) 1 (some (a.length+b.length)),.iV i,.uV x,.uV c,a7,a8,a9,aA,aB,aC,aD,aE,.vs (ak b) b.length c2,.iV b.length,.iV ((j+1:Nat):Int)],lo,[some (.cells (ak L) 246)],[]⟩,wr⟩ /\
    L.length=a.length+b.length/\okW wB L/\(0<=c/\c<18446744073709551616)/\(∀k,i+b.length<=k->L[k]! = 0)/\WV wB L+wB^(i+(j+1))*c=P+wB^i*x*WV wB (b.take (j+1))) Q .normal ⟨⟨[.vs (ak a) a.length c1,.vs (ak b) b.length c2,a2,.sl 0 0 (a.length+b.length) 1 (some (a.length+b.length)),.iV i,.uV x,.uV D,a7,a8,a9,aA,aB,aC,aD,aE,.vs (ak b) b.length c2,.iV b.length,.iV ((j:Int)+1)],lo,[some (.cells (ak (L.set (i+j) R)) 246)],[]⟩,wr⟩:=fun a7 a8 a9 aA aB lo wr=>
    cL ⟨_,_,a7,a8,a9,aA,aB,lo,wr,rfl,by rw[List.length_set];exact hl,fx ba hD2.2.2,hD2.1,fun k hk=>by rw[fR (by omega)];exact hz k hk,by
     rw[fy (by omega),←hw,eu hj,show i+(j+1)=(i+j)+1 from rfl,Int.pow_succ,show b[j]! = y from hy.symm];have e:=hD2.2.1;rw[hmm]at e;have e2:wB^(i+j)*(R-w)+wB^(i+j)*18446744073709551616*D=wB^(i+j)*(x*y+c):=by
      have:x*y+c=R-w+18446744073709551616*D:=by omega
      rw[this,Int.mul_add,Int.mul_assoc]
     have e3:wB^(i+j)=wB^i*wB^j:=Int.pow_add _ _ _;show WV wB L+wB^(i+j)*(R-w)+wB^(i+j)*18446744073709551616*D=P+wB^i*x*(WV wB (b.take j)+wB^j*y);rw[Int.add_assoc,e2,Int.mul_add,←Int.add_assoc,Int.add_right_comm,hv];rw[e3];grind⟩
   rw[hD,hR,hw]at next
   rw[hw]at q1 q2;rw[hy]at q244;unfold tS;exact gg14
 . subst hs;rw[List.take_length]at hv;unfold tS;exact gg1
theorem RB (C:kN M)(a b:List Int)(ha:okW wB a)(hb:okW wB b)(la:a.length<10000000)(lb:b.length<10000000):nU M 248 [.vs (ak a) a.length c1,.vs (ak b) b.length c2] (WV wB a*WV wB b):=by
 refine zW (by rw[C.ft];exact Rf) (by simp) ?_;unfold Gl;simp only[enter];repeat' first|refine gc ?_|fail
 have e0:((a.length:Int)+(b.length:Int)).toNat=a.length+b.length:=by omega
 rw[e0];refine W.gB a.length (fun i s=>∃L a4 a5 a6 a7 a8 a9 aA aB aF aG aH lo wr,s=⟨⟨[.vs (ak a) a.length c1,.vs (ak b) b.length c2,.ae,.sl 0 0 (a.length+b.length) 1 (some (a.length+b.length)),a4,a5,a6,a7,a8,a9,aA,aB,.vs (ak a) a.length c1,.iV a.length,.iV i,aF,aG,aH],lo,[some (.cells (ak L) 246)],[]⟩,wr⟩ /\
  L.length=a.length+b.length/\okW wB L/\(∀k,i+b.length<=k->L[k]! = 0)/\WV wB L=WV wB (a.take i)*WV wB b) (fun i s hi ⟨L,a4,a5,a6,a7,a8,a9,aA,aB,aF,aG,aH,lo,wr,hs,hl,ba,hz,hv⟩=>?_) (fun s ⟨L,a4,a5,a6,a7,a8,a9,aA,aB,aF,aG,aH,lo,wr,hs,hl,ba,hz,hv⟩=>?_) (Nat.zero_le _)
  ⟨List.replicate (a.length+b.length) 0,_,_,_,_,_,_,_,_,_,_,_,_,_,rfl,by simp,jv (by decide),fun k _=>jz,by rw[jx];simp[WV]⟩
 . subst hs;have gx:=bL ha hi;rw[show a[i]! = a[((i:Int)).toNat]! from rfl]at gx;have eI:0+(((i:Int)+(b.length:Int))).toNat*1=i+b.length:=by omega
   unfold zK;refine gg5 ?_;refine RA (c1:=c1) (c2:=c2) C a b hb la lb i hi a[((i:Int)).toNat]! _ gx _ _ _ _ _ _ _ _ _ _ _ L hl ba hz hv (fun L2 c a7 a8 a9 aA aB lo wr h1 h2 h3 h4 h5=>?_);refine gg18 ?_;refine cL ⟨L2.set (i+b.length) c,_,_,_,_,_,_,_,_,_,_,_,_,_,rfl,by rw[List.length_set];exact h1,fx h2 h3,fun k hk=>by rw[fR (by omega)];exact h4 k (by omega),?_⟩;rw[fy (by omega),h4 _ (Nat.le_refl _),Int.sub_zero,h5,eu hi];show _=(WV wB (a.take i)+wB^i*a[i]!)*WV wB b;rw[Int.add_mul];rfl
 . subst hs;rw[List.take_length]at hv;have q:=C.jV (cap:=some (a.length+b.length)) (b:=0) (n:=a.length+b.length) (L:=L) (e:=246) (hp:=[some (.cells (ak L) 246)]) rfl (by omega) (by omega) (fun c hc=>by cases hc;exact Nat.le_refl _);rw[List.take_of_length_le (by omega)]at q;unfold zK;refine gg5 ?_;refine⟨.inr rfl,rfl,_,rfl,L.take (aL L),?_,?_⟩
   . obtain⟨g1,g2,g3⟩:=kM ba;exact⟨g1,g2,by rw[g3,hv]⟩
   . have:=jy.trim (cap:=some (a.length+b.length)) (b:=0) (L:=L) (e:=246) (hp:=[some (.cells (ak L) 246)]) (n:=a.length+b.length) rfl (by omega);rw[List.take_of_length_le (by omega)]at this;exact this
def GC:an:=zR [zi 1 0] (.seq (zR [zm 3 0,⟨.l 4,.bin .geq (.l 3) (kU 4294967296),none⟩] (.cond (.l 4) (zR [zm 5 0,⟨.l 6,.bin .shr (.l 5) (kU 32),none⟩,zw 0 6] (.region [zi 1 32])) (.skip))) (.seq (zR [zm 7 0,⟨.l 8,.bin .geq (.l 7) (kU 65536),none⟩] (.cond (.l 8) (zR [zm 9 0,⟨.l 10,.bin .shr (.l 9) (kU 16),none⟩,zw 0 10] (.region [zm 11 1,zc 12 .add 11 16,zw 1 12])) (.skip))) (.seq (zR [zm 13 0,⟨.l 14,.bin .geq (.l 13) (kU 256),none⟩] (.cond (.l 14) (zR [zm 15 0,⟨.l 16,.bin .shr (.l 15) (kU 8),none⟩,zw 0 16] (.region [zm 17 1,zc 18 .add 17 8,zw 1 18])) (.skip))) (zR [zm 19 1,zm 20 0,⟨.l 21,.dM .u8 (.l 20),none⟩,⟨.l 22,.index (.c (.str zD0)) (.l 21),none⟩,⟨.l 23,.dM .i64 (.l 22),none⟩,zb 24 .add 19 23,zw 1 24] (.ret)))))
theorem RC:FT 240=some ⟨25,[0,2],[.var (.p 1)],GC⟩:=by kernel_rfl
def db (x:Int):Nat:=if x=0 then 0 else x.toNat.log2+1
theorem RD {x:Int}{n:Nat}(h:2^n<=x/\x<2^(n+1)):db x=n+1:=by
 have h0:0<x:=by have:=Int.pow_pos (n:=2) (m:=n) (by decide);omega
 obtain⟨k,rfl⟩:=Int.eq_ofNat_of_zero_le (Int.le_of_lt h0);have hk:k≠0:=by omega
 rw[db,if_neg (by omega)];have:(k:Int).toNat=k:=rfl;rw[this,(Nat.log2_eq_iff hk).2 ⟨by exact_mod_cast h.1,by exact_mod_cast h.2⟩]
theorem uj {x:Int}(h:0<x):1<=db x/\2^(db x-1)<=x/\x<2^db x:=by
 obtain⟨k,rfl⟩:=Int.eq_ofNat_of_zero_le (Int.le_of_lt h);have hk:k≠0:=by omega
 rw[db,if_neg (by omega)];have h1:=(Nat.log2_eq_iff hk).1 rfl;have:(k:Int).toNat=k:=rfl;rw[this];refine⟨by omega,?_,?_⟩
 . rw[Nat.add_sub_cancel];exact_mod_cast h1.1
 . exact_mod_cast h1.2
theorem zX {x:Int}{n:Nat}(h:x<2^n)(h0:0<=x):db x<=n:=by
 by_cases hx:x=0
 . simp[db,hx]
 . obtain⟨h1,h2,h3⟩:=uj (show 0<x by omega);rcases Nat.lt_or_ge n (db x) with h4|h4
   . have:(2:Int)^n<=2^(db x-1):=fI (by decide) (by omega);omega
   . exact h4
theorem RE {x:Int}{s n:Nat}{u:Int}(hu:u=x/2^s)(_h0:0<=x)(h:2^n<=u/\u<2^(n+1)):db x=s+n+1:=by
 have hp:=Int.pow_pos (n:=2) (m:=s) (by decide);subst hu;refine RD ⟨?_,?_⟩
 . have h1:=Int.mul_le_mul_of_nonneg_left h.1 (Int.le_of_lt hp);have h2:=Int.mul_ediv_self_le (x:=x) (k:=2^s) (by omega);rw[Int.pow_add];omega
 . have h1:2^s*(x/2^s+1)<=2^s*2^(n+1):=Int.mul_le_mul_of_nonneg_left (by omega) (Int.le_of_lt hp);have h2:=Int.lt_mul_ediv_self_add (x:=x) (k:=2^s) hp;rw[Int.mul_add]at h1;rw[show s+n+1=s+(n+1) by omega,Int.pow_add];omega
def jW:aM:=[0,1,2,2,3,3,3,3,4,4,4,4,4,4,4,4,5,5,5,5,5,5,5,5,5,5,5,5,5,5,5,5]++List.replicate 32 6++List.replicate 64 7++List.replicate 128 8
theorem RF:∀k:Fin 256,0<k.val->1<=(jW[k.val]!).toNat/\2^((jW[k.val]!).toNat-1)<=k.val/\k.val<2^((jW[k.val]!).toNat-1+1):=by decide +kernel
theorem RG {u:Int}(h0:0<u)(h:u<256):∃n:Nat,(jW[u.toNat]!).toNat=n+1/\(2:Int)^n<=u/\u<2^(n+1):=by
 obtain⟨k,rfl⟩:=Int.eq_ofNat_of_zero_le (Int.le_of_lt h0);obtain⟨h1,h2,h3⟩:=RF ⟨k,by omega⟩ (by simpa using h0);refine⟨(jW[k]!).toNat-1,by simp only at h1;rw[show (k:Int).toNat=k from rfl];omega,?_,?_⟩
 . exact_mod_cast h2
 . exact_mod_cast h3
set_option maxRecDepth 100000 in
theorem RH (hft:M.FT=FT)(x:Int)(hx:0<=x/\x<18446744073709551616):aU M 240 [.uV x] [] ⟨.iV (db x),[],[]⟩:=by
 have key:∀(u:Int) (s:Nat),u=x/2^s->(0<u/\u<256)->((jW[u.toNat]!).toNat:Int)+s=db x:=fun u s hu h=>by
  obtain⟨n,e,h2⟩:=RG h.1 h.2;rw[RE hu hx.1 h2,e];omega
 have tl:jW.length=256:=by decide +kernel
 have tb:∀k:Nat,(jW[k]!).toNat<256:=fun k=>UInt8.toNat_lt _
 refine bO (by rw[hft];exact RC) (by simp) ?_;unfold GC;simp only[enter];repeat' first|(apply abl (n:=32) (c:=4294967296);rfl;rfl;rfl;decide;rfl)|(apply abl (n:=16) (c:=65536);rfl;rfl;rfl;decide;rfl)|(apply abl (n:=8) (c:=256);rfl;rfl;rfl;decide;rfl)|(apply aci;rfl)|(apply abz (s:=jW);rfl;rfl;omega)|(apply abR;rfl;(have:=tb;refine⟨by omega,?_⟩;exact Int.lt_trans (Int.ofNat_lt.2 (tb _)) (by decide)))|(apply abn;rfl;rfl;exact⟨Int.le_trans (by decide) (Int.add_nonneg (by decide) (Int.natCast_nonneg _)),Int.lt_of_le_of_lt (Int.add_le_add (Int.le_refl _) (Int.ofNat_le.2 (Nat.le_of_lt (tb _)))) (by decide)⟩)|(apply aaE;rfl;rfl)|refine gc ?_|(intro _;omega)|intro _
 all_goals try omega
 all_goals refine⟨.inr rfl,rfl,_,rfl,congrArg (fun z=>AV.iV z) ?_,rfl⟩
 . have e:x/4294967296/65536/256%256=x/4294967296/65536/256:=by omega
   rw[e,←key (x/4294967296/65536/256) 56 (by rw[show (2:Int)^56=72057594037927936 from rfl];omega) ⟨by omega,by omega⟩];omega
 . have e:x/4294967296/65536%256=x/4294967296/65536:=by omega
   rw[e,←key (x/4294967296/65536) 48 (by rw[show (2:Int)^48=281474976710656 from rfl];omega) ⟨by omega,by omega⟩];omega
 . have e:x/4294967296/256%256=x/4294967296/256:=by omega
   rw[e,←key (x/4294967296/256) 40 (by rw[show (2:Int)^40=1099511627776 from rfl];omega) ⟨by omega,by omega⟩];omega
 . have e:x/4294967296%256=x/4294967296:=by omega
   rw[e,←key (x/4294967296) 32 (by rw[show (2:Int)^32=4294967296 from rfl]) ⟨by omega,by omega⟩];omega
 . have e:x/65536/256%256=x/65536/256:=by omega
   rw[e,←key (x/65536/256) 24 (by rw[show (2:Int)^24=16777216 from rfl];omega) ⟨by omega,by omega⟩];omega
 . have e:x/65536%256=x/65536:=by omega
   rw[e,←key (x/65536) 16 (by rw[show (2:Int)^16=65536 from rfl]) ⟨by omega,by omega⟩];omega
 . have e:x/256%256=x/256:=by omega
   rw[e,←key (x/256) 8 (by rw[show (2:Int)^8=256 from rfl]) ⟨by omega,by omega⟩];omega
 . by_cases h0:x=0
   . subst h0;decide +kernel
   . have e:x%256=x:=by omega
     rw[e,←key x 0 (by simp) ⟨by omega,by omega⟩];omega
theorem RI (hft:M.FT=FT)(x:Int)(hx:0<=x/\x<18446744073709551616)(aay:∀h,M.ext 240 [.uV x] h=some ⟨.iV (db x),h,[]⟩):aU M 279 [.uV x] [] ⟨.iV (64-db x:Nat),[],[]⟩:=by
 have hb:db x<=64:=zX (n:=64) hx.2 hx.1;refine bO (by rw[hft];exact Ro) (by simp) ?_;unfold Gv;simp only[enter];repeat' first|refine gd0 ?_|refine gc ?_|fail
 exact⟨.inr rfl,rfl,_,rfl,congrArg (fun z=>AV.iV z) (by omega),rfl⟩
structure fk (y1 y0 v w q r:Int):Prop where
 q0:0<=q
 r0:0<=r
 e:q*y1+r=v
 ge:(v*4294967296+w)/(y1*4294967296+y0)<=q
structure hJ (y1 y0 v w:Int):Prop where
 h1:2147483648<=y1/\y1<4294967296
 h0:0<=y0/\y0<4294967296
 hv:0<=v/\v<y1*4294967296+y0
 hw:0<=w/\w<4294967296
variable {y1 y0 v w q r:Int}
theorem hJ.lt (C:hJ y1 y0 v w):0<=(v*4294967296+w)/(y1*4294967296+y0)/\(v*4294967296+w)/(y1*4294967296+y0)<4294967296:=by
 have h1:=C.h1;have h0:=C.h0;have hv:=C.hv;have hw:=C.hw;exact⟨Int.ediv_nonneg (by omega) (by omega),Int.ediv_lt_of_lt_mul (by omega) (by omega)⟩
theorem fk.GD (C:hJ y1 y0 v w)(I:fk y1 y0 v w q r):q<=4294967297:=by
 have h1:=C.h1;have h0:=C.h0;have hv:=C.hv;rcases Int.lt_or_le 4294967297 q with h|h
 . have h2:4294967298*y1<=q*y1:=Int.mul_le_mul_of_nonneg_right (by omega) (by omega);have h3:=I.e;have h4:=I.r0;omega
 . exact h
theorem fk.full (_C:hJ y1 y0 v w)(I:fk y1 y0 v w q r):q*(y1*4294967296+y0)=(v-r)*4294967296+q*y0:=by
 have e:=I.e;have:v-r=q*y1:=by omega
 rw[this,Int.mul_add,Int.mul_assoc]
theorem fk.exit (C:hJ y1 y0 v w)(I:fk y1 y0 v w q r)(h:q*y0<=4294967296*r+w):q=(v*4294967296+w)/(y1*4294967296+y0):=by
 have h1:=C.h1;have h0:=C.h0;have h2:q<=(v*4294967296+w)/(y1*4294967296+y0):=Int.le_ediv_of_mul_le (by omega) (by rw[I.full C];omega);have:=I.ge;omega
theorem fk.dec (C:hJ y1 y0 v w)(I:fk y1 y0 v w q r)(h:4294967296<=q\/4294967296*r+w<q*y0):fk y1 y0 v w (q-1) (r+y1):=by
 have h1:=C.h1;have h0:=C.h0;have hl:=C.lt;have hg:(v*4294967296+w)/(y1*4294967296+y0)<=q-1:=by
  rcases h with h|h
  . omega
  . have:(v*4294967296+w)/(y1*4294967296+y0)<q:=Int.ediv_lt_of_lt_mul (by omega) (by rw[I.full C];omega);omega
 exact⟨by omega,by have:=I.r0;omega,by have:=I.e;rw[Int.sub_mul];omega,hg⟩
theorem fk.kO (C:hJ y1 y0 v w)(I:fk y1 y0 v w q r)(h:4294967296<=r):q=(v*4294967296+w)/(y1*4294967296+y0):=by
 have h1:=C.h1;have h0:=C.h0;have hv:=C.hv;have hw:=C.hw;have hq:q<4294967296:=by
  rcases Int.lt_or_le q 4294967296 with h'|h'
  . exact h'
  . have h2:4294967296*y1<=q*y1:=Int.mul_le_mul_of_nonneg_right h' (by omega);have:=I.e;omega
 refine I.exit C ?_;have h3:=Int.mul_le_mul (a:=q) (b:=y0) (c:=4294967295) (d:=4294967295) (by omega) (by omega) h0.1 (by omega);omega
theorem fk.init (C:hJ y1 y0 v w):fk y1 y0 v w (v/y1) (v-v/y1*y1):=by
 have h1:=C.h1;have h0:=C.h0;have hv:=C.hv;have hw:=C.hw;have e1:=Int.mul_ediv_self_le (x:=v) (k:=y1) (by omega);have e2:=Int.lt_mul_ediv_self_add (x:=v) (k:=y1) (by omega);have e3:y1*(v/y1)=v/y1*y1:=Int.mul_comm _ _;refine⟨Int.ediv_nonneg hv.1 (by omega),by omega,by omega,?_⟩;have h5:(v*4294967296+w)/(y1*4294967296+y0)<=(v*4294967296+w)/(y1*4294967296):=by
  refine Int.le_ediv_of_mul_le (by omega) ?_;have hl:=C.lt;have h6:=Int.ediv_mul_le (v*4294967296+w) (show y1*4294967296+y0≠0 by omega);rw[Int.mul_add]at h6;have:=Int.mul_nonneg hl.1 h0.1;omega
 have h6:(v*4294967296+w)/(y1*4294967296)=v/y1:=by
  rw[Int.mul_comm y1,←Int.ediv_ediv_of_nonneg (by decide)];congr 1;omega
 omega
theorem fk.uk (C:hJ y1 y0 v w)(h:q<4294967296)(h':0<=q):0<=q*y0/\q*y0<18446744073709551616:=by
 have h0:=C.h0;refine⟨Int.mul_nonneg h' h0.1,?_⟩;have h3:=Int.mul_le_mul (a:=q) (b:=y0) (c:=4294967295) (d:=4294967295) (by omega) (by omega) h0.1 (by omega);omega
theorem RJ (C:hJ y1 y0 v w){Q:Ex->al->Prop}(a0 a1 a2 a3 a4 a5 a8 a9 aB aE aF:AV)
 (hQ:∀r lo,Q (.exit 0) ⟨⟨[a0,a1,a2,a3,a4,a5,.uV y1,.uV y0,a8,a9,.uV w,aB,.uV ((v*4294967296+w)/(y1*4294967296+y0)),.uV r,aE,aF],lo,[],[]⟩,[]⟩) :
 ∀(n:Nat) (q r:Int) lo,q.toNat=n->fk y1 y0 v w q r->r<4294967296->W M (.loop ub) ⟨⟨[a0,a1,a2,a3,a4,a5,.uV y1,.uV y0,a8,a9,.uV w,aB,.uV q,.uV r,aE,aF],lo,[],[]⟩,[]⟩ Q:=by
 have h1:=C.h1;have h0:=C.h0;have hv:=C.hv;have hw:=C.hw;intro n;induction n with
 | zero=>
  intro q r lo hn I hr;have hq0:=I.q0;obtain rfl:q=0:=by omega
  have hr0:=I.r0;have eq:=I.exit C (by omega);refine W.loop ?_;unfold ub;refine gg11 ?_;have:=hQ r;rw[←eq]at this;exact this _
 | succ n ih=>
  intro q r lo hn I hr;have hq0:=I.q0;have hr0:=I.r0;have hql:=I.GD C;refine W.loop ?_;unfold ub;by_cases hd:4294967296<=q\/4294967296*r+w<q*y0
  . have I2:=I.dec C hd;by_cases hb:4294967296<=q
    . by_cases hr2:4294967296<=r+y1
      . have e:=I2.kO C hr2;refine gg11 ?_;have:=hQ (r+y1);rw[←e]at this;exact this _
      . exact gg21
    . have hm:=fk.uk (q:=q) C (by omega) hq0;obtain⟨P,hP⟩:∃P,P=q*y0:=⟨_,rfl⟩;rw[←hP]at hd hm;by_cases hr2:4294967296<=r+y1
      . have e:=I2.kO C hr2;refine gg11 ?_;have:=hQ (r+y1);rw[←e]at this;exact this _
      . exact gg21
  . have hm:=fk.uk (q:=q) C (by omega) hq0;have e:=I.exit C (by omega);obtain⟨P,hP⟩:∃P,P=q*y0:=⟨_,rfl⟩;rw[←hP]at hd hm;refine gg11 ?_;have:=hQ r;rw[←e]at this;exact this _
theorem RK (C:hJ y1 y0 v w){Q:Ex->al->Prop}(a0 a1 a2 a3 a4 a5 a8 a9 aA aC aE:AV)
 (hQ:∀r lo,Q (.exit 2) ⟨⟨[a0,a1,a2,a3,a4,a5,.uV y1,.uV y0,a8,a9,aA,.uV w,aC,.uV r,aE,.uV ((v*4294967296+w)/(y1*4294967296+y0))],lo,[],[]⟩,[]⟩) :
 ∀(n:Nat) (q r:Int) lo,q.toNat=n->fk y1 y0 v w q r->r<4294967296->W M (.loop uc) ⟨⟨[a0,a1,a2,a3,a4,a5,.uV y1,.uV y0,a8,a9,aA,.uV w,aC,.uV r,aE,.uV q],lo,[],[]⟩,[]⟩ Q:=by
 have h1:=C.h1;have h0:=C.h0;have hv:=C.hv;have hw:=C.hw;intro n;induction n with
 | zero=>
  intro q r lo hn I hr;have hq0:=I.q0;obtain rfl:q=0:=by omega
  have hr0:=I.r0;have eq:=I.exit C (by omega);refine W.loop ?_;unfold uc;refine gg11 ?_;have:=hQ r;rw[←eq]at this;exact this _
 | succ n ih=>
  intro q r lo hn I hr;have hq0:=I.q0;have hr0:=I.r0;have hql:=I.GD C;refine W.loop ?_;unfold uc;by_cases hd:4294967296<=q\/4294967296*r+w<q*y0
  . have I2:=I.dec C hd;by_cases hb:4294967296<=q
    . by_cases hr2:4294967296<=r+y1
      . have e:=I2.kO C hr2;refine gg11 ?_;have:=hQ (r+y1);rw[←e]at this;exact this _
      . exact gg21
    . have hm:=fk.uk (q:=q) C (by omega) hq0;obtain⟨P,hP⟩:∃P,P=q*y0:=⟨_,rfl⟩;rw[←hP]at hd hm;by_cases hr2:4294967296<=r+y1
      . have e:=I2.kO C hr2;refine gg11 ?_;have:=hQ (r+y1);rw[←e]at this;exact this _
      . exact gg21
  . have hm:=fk.uk (q:=q) C (by omega) hq0;have e:=I.exit C (by omega);obtain⟨P,hP⟩:∃P,P=q*y0:=⟨_,rfl⟩;rw[←hP]at hd hm;refine gg11 ?_;have:=hQ r;rw[←e]at this;exact this _
theorem RL {hi lo y:Int}{s:Nat}(hy:0<y)(_hh:0<=hi/\hi<y)(_hl:0<=lo/\lo<18446744073709551616){q R:Int}(h:(hi*18446744073709551616+lo)*2^s=q*(y*2^s)+R)(hR:0<=R/\R<y*2^s) :
 q=(hi*18446744073709551616+lo)/y/\R/2^s=(hi*18446744073709551616+lo)%y:=by
 have hp:=Int.pow_pos (n:=2) (m:=s) (by decide);generalize (2:Int)^s=p at *
 generalize hi*18446744073709551616+lo=N at *
 have e1:R=(N-q*y)*p:=by rw[Int.sub_mul,h,←Int.mul_assoc];omega
 have r0:0<=N-q*y:=by
  rcases Int.lt_or_le (N-q*y) 0 with h'|h'
  . have:=Int.mul_lt_mul_of_pos_right h' hp;omega
  . exact h'
 have r1:N-q*y<y:=by
  refine Int.lt_of_mul_lt_mul_right (a:=p) ?_ (Int.le_of_lt hp);omega
 have e2:N/y=q:=by
  rw[show N=(N-q*y)+y*q by rw[Int.mul_comm y q];omega,Int.add_mul_ediv_left _ _ (by omega),Int.ediv_eq_zero_of_lt r0 r1];omega
 refine⟨e2.symm,?_⟩;rw[e1,Int.mul_ediv_cancel _ (by omega),Int.emod_def,e2,Int.mul_comm y q]
theorem um {s:Nat}(h:s<=64):(2:Int)^s*2^(64-s)=18446744073709551616:=by
 rw[←Int.pow_add,show s+(64-s)=64 by omega];rfl
theorem RM (hft:M.FT=FT)(hi lo y:Int)(hy:0<y/\y<18446744073709551616)(hh:0<=hi/\hi<y)(hl:0<=lo/\lo<18446744073709551616)(uo:∀h,M.ext 279 [.uV y] h=some ⟨.iV (64-db y:Nat),h,[]⟩) :
 aU M 278 [.uV hi,.uV lo,.uV y] [] ⟨.aq [.uV ((hi*18446744073709551616+lo)/y),.uV ((hi*18446744073709551616+lo)%y)],[],[]⟩:=by
 refine bO (by rw[hft];exact Rm) (by simp) ?_;unfold Gu;simp only[enter];by_cases h0:hi=0
 . subst h0;exact gg7
 . obtain⟨b1,b2,b3⟩:=uj hy.1;have b4:db y<=64:=zX (n:=64) hy.2 (by omega);obtain⟨s,hs⟩:∃s:Nat,s=64-db y:=⟨_,rfl⟩;rw[←hs]at uo;have hs64:s<=63:=by omega
   have hp:=Int.pow_pos (n:=2) (m:=s) (by decide);have hps:=um (s:=s) (by omega);have hY1:9223372036854775808<=y*2^s:=by
    have h1:(2:Int)^(db y-1)*2^s<=y*2^s:=Int.mul_le_mul_of_nonneg_right b2 (Int.le_of_lt hp);rw[←Int.pow_add,show db y-1+s=63 by omega]at h1;exact Int.le_trans (by decide) h1
   have hY2:y*2^s<18446744073709551616:=by
    have h1:y*2^s<2^db y*2^s:=Int.mul_lt_mul_of_pos_right b3 hp;rw[←Int.pow_add,show db y+s=64 by omega]at h1;exact Int.lt_of_lt_of_le h1 (by decide)
   have hhs:0<=hi*2^s/\hi*2^s<y*2^s:=⟨Int.mul_nonneg hh.1 (Int.le_of_lt hp),Int.mul_lt_mul_of_pos_right hh.2 hp⟩;have hp2:=Int.pow_pos (n:=2) (m:=64-s) (by decide);have hlo:0<=lo/2^(64-s)/\lo/2^(64-s)<2^s:=⟨Int.ediv_nonneg hl.1 (Int.le_of_lt hp2),Int.ediv_lt_of_lt_mul hp2 (by rw[hps];exact hl.2)⟩;have hdv:hi*2^s%2^s=0:=Int.mul_emod_left _ _;have hlos:lo*2^s/18446744073709551616=lo/2^(64-s):=by
    rw[←hps,Int.mul_comm lo];exact Int.mul_ediv_mul_of_pos _ _ hp
   have hN:(hi*18446744073709551616+lo)*2^s=(hi*2^s+lo/2^(64-s))*18446744073709551616+lo*2^s%18446744073709551616:=by
    rw[←hlos,Int.add_mul,Int.mul_right_comm];omega
   have hv:hi*2^s+lo/2^(64-s)<y*2^s:=by
    have h1:(hi*18446744073709551616+lo)*2^s<(y*18446744073709551616)*2^s:=Int.mul_lt_mul_of_pos_right (by omega) hp;rw[hN,Int.mul_right_comm]at h1;omega
   repeat' first|(apply acm (L:=s) (a:=y);rfl;rfl;omega;exact⟨by omega,hY2⟩)|(apply acm (L:=s) (a:=hi);rfl;rfl;omega;exact⟨hhs.1,by omega⟩)|(apply abl (n:=32) (c:=4294967296);rfl;rfl;rfl;decide;rfl)|(apply aco;rfl;rfl;omega)|(apply abA (a:=64);rfl;rfl;omega)|(apply abi (n:=64-s) (a:=lo);rfl;rfl;omega;omega)|(apply acp s;rfl;rfl;omega;exact hlo;omega;exact hdv)|(apply abJ (n:=s) (a:=lo);rfl;rfl;rfl;omega)|(apply aaG;rfl;rfl)|(apply aak;rfl;rfl)|refine gd0 ?_|refine gc ?_|(intro _;omega)|intro _
   all_goals try omega
   have fin:=fun q R h=>RL (hi:=hi) (lo:=lo) (y:=y) (s:=s) hy.1 hh hl (q:=q) (R:=R) h
   rw[hN]at fin;have hv0:0<=hi*2^s+lo/2^(64-s):=by omega
   have hu:0<=lo*2^s%18446744073709551616/\lo*2^s%18446744073709551616<18446744073709551616:=by omega
   generalize hi*2^s+lo/2^(64-s)=v at *
   generalize lo*2^s%18446744073709551616=u at *
   generalize y*2^s=Y at *
   have C1:hJ (Y/4294967296) (Y%4294967296) v (u/4294967296):=⟨by omega,by omega,by omega,by omega⟩;have I1:=fk.init C1;have m1:0<=v/(Y/4294967296)*(Y/4294967296)/\v/(Y/4294967296)*(Y/4294967296)<=v:=⟨Int.mul_nonneg I1.q0 (by omega),by have:=I1.r0;omega⟩;have r1:v-v/(Y/4294967296)*(Y/4294967296)<4294967296:=by
    have:=Int.lt_mul_ediv_self_add (x:=v) (k:=Y/4294967296) (by omega);rw[Int.mul_comm (Y/4294967296)]at this;omega
   repeat' first|(apply abF;rfl;rfl;omega;omega)|(apply aaU (a:=v/(Y/4294967296)) (b:=Y/4294967296);rfl;rfl;omega)|refine gd6 ?_|refine gc ?_|fail
   refine RJ C1 _ _ _ _ _ _ _ _ _ _ _ (fun r lo2=>?_) _ _ _ _ rfl I1 r1;have eY:Y/4294967296*4294967296+Y%4294967296=Y:=by omega
   have hQ:=C1.lt;rw[eY]at hQ ⊢;have hd1:=Int.ediv_mul_le (v*4294967296+u/4294967296) (show Y≠0 by omega);have hd2:=Int.lt_ediv_add_one_mul_self (v*4294967296+u/4294967296) (show 0<Y by omega);generalize (v*4294967296+u/4294967296)/Y=Q1 at *
   have hR1:∃R,R=v*4294967296+u/4294967296-Q1*Y:=⟨_,rfl⟩;obtain⟨R1,hR1⟩:=hR1;rw[Int.add_mul,Int.one_mul]at hd2;have eR:((v*4294967296%18446744073709551616+u/4294967296)%18446744073709551616-Q1*Y%18446744073709551616)%18446744073709551616=R1:=by omega
   have C2:hJ (Y/4294967296) (Y%4294967296) R1 (u%4294967296):=⟨by omega,by omega,by omega,by omega⟩;have I2:=fk.init C2;have m2:0<=R1/(Y/4294967296)*(Y/4294967296)/\R1/(Y/4294967296)*(Y/4294967296)<=R1:=⟨Int.mul_nonneg I2.q0 (by omega),by have:=I2.r0;omega⟩;have r2:R1-R1/(Y/4294967296)*(Y/4294967296)<4294967296:=by
    have:=Int.lt_mul_ediv_self_add (x:=R1) (k:=Y/4294967296) (by omega);rw[Int.mul_comm (Y/4294967296)]at this;omega
   repeat' first|(apply abP;rfl;rfl)|(apply abO;rfl;rfl)|(apply acn;rfl;rfl)|refine gc ?_|fail
   rw[eR];repeat' first|(apply abF;rfl;rfl;omega;omega)|(apply aaU (a:=R1/(Y/4294967296)) (b:=Y/4294967296);rfl;rfl;omega)|refine gd6 ?_|refine gc ?_|fail
   refine RK C2 _ _ _ _ _ _ _ _ _ _ _ (fun r lo2=>?_) _ _ _ _ rfl I2 r2;have hQ2:=C2.lt;rw[eY]at hQ2 ⊢;have hd3:=Int.ediv_mul_le (R1*4294967296+u%4294967296) (show Y≠0 by omega);have hd4:=Int.lt_ediv_add_one_mul_self (R1*4294967296+u%4294967296) (show 0<Y by omega);generalize (R1*4294967296+u%4294967296)/Y=Q2 at *
   rw[Int.add_mul,Int.one_mul]at hd4;obtain⟨R2,hR2⟩:∃R,R=R1*4294967296+u%4294967296-Q2*Y:=⟨_,rfl⟩;have eR2:((R1*4294967296%18446744073709551616+u%4294967296)%18446744073709551616-Q2*Y%18446744073709551616)%18446744073709551616=R2:=by omega
   obtain⟨f1,f2⟩:=fin (Q1*4294967296+Q2) R2 (by rw[Int.add_mul,Int.mul_right_comm Q1];omega) (by omega);repeat' first|(apply aaU (a:=Q1) (b:=4294967296);rfl;rfl;omega)|(apply abh (a:=Q1*4294967296) (b:=Q2);rfl;rfl;omega)|(apply abP;rfl;rfl)|(apply abO;rfl;rfl)|(apply acn;rfl;rfl)|(apply abi (n:=s);rfl;rfl;rfl;omega)|refine gc ?_|fail
   refine⟨.inr rfl,rfl,_,rfl,?_,rfl⟩;rw[←f1,←f2,←eR2];rfl
theorem GF {hp:ab}{x y:Option bc}:ab.put (hp++[x]) hp.length y=hp++[y]:=by simp[ab.put]
section
variable {t m:Nat} {x y:ax} {l:List aO} {pe:List AV} {lo:List (Nat×AV)} {hp:ab} {df wr:List Nat} {L:List Int} {e:TypeId} {a b:Int} {Q:al->Prop}
theorem ace (hx:(St.mk pe lo (hp++[some (.cells (ak L) e)]) df).aa x=some (.ptr hp.length m))(hy:(St.mk pe lo (hp++[some (.cells (ak L) e)]) df).aa y=some (.uV v))(hi:m<L.length)
 (h:WO M l ⟨⟨pe,lo,hp++[some (.cells (ak (L.set m v)) e)],df⟩,hp.length::wr⟩ Q):WO M (⟨.no,.store 1 x y,none⟩::l) ⟨⟨pe,lo,hp++[some (.cells (ak L) e)],df⟩,wr⟩ Q:=by
 refine aaT hx hy cN hi ?_;rw[GF];exact h
theorem acd (m:Nat)(hx:(St.mk pe lo hp df).aa x=some (.uV a))(hy:(St.mk pe lo hp df).aa y=some (.uV b))(ha:0<=a/\a<2^m)(hb:0<=b/\b<18446744073709551616)(hm:m<=64)(hd:b%2^m=0)
 (h:WO M l ⟨⟨pe,(t,.uV (a+b))::lo,hp,df⟩,wr⟩ Q):WO M (⟨.l t,.bin .or x y,none⟩::l) ⟨⟨pe,lo,hp,df⟩,wr⟩ Q:=by
 have key:aP ⟨pe,lo,hp,df⟩ (.bin .or x y)=aP ⟨pe,lo,hp,df⟩ (.bin .or y x):=by
  simp only[aP,hx,hy,ck,if_true];rw[BitVec.or_comm]
 obtain⟨⟨k,s',h1,h2⟩⟩:=acp (M:=M) (t:=t) (l:=l) (Q:=Q) m hy hx hb ha hm hd (by rw[Int.add_comm];exact h);refine⟨⟨k,s',?_,h2⟩⟩;rw[←h1];simp only[dN,di,bw,aS.bh,Bool.false_eq_true,if_false,key]
end
theorem RN {hp:ab}{v:AV}{s:al}{x:Option bc}(hh:s.s.hp=hp++[x])(hw:∀z∈s.wr,hp.length<=z)(hv:hp.length<v.top):eB v hp.length s=⟨v,hp++[x],[]⟩:=by
 unfold eB;have hf:s.wr.filter (· < hp.length)=[]:=by
  rw[List.filter_eq_nil_iff];intro z hz;have:=hw z hz;simp;omega
 rw[if_neg (by simp;omega),hh,hf]
theorem GG (hft:M.FT=FT)(l:List Int)(hl:okW wB l)(ll:l.length<100000000)(s:Nat)(hs:s<=63)(hp:ab) :
 ∃r,(r.length=l.length+1/\okW wB r/\WV wB r=WV wB l*2^s)/\aU M 280 [.vs (ak l) l.length c1,.iV s] hp ⟨.sl hp.length 0 (l.length+1) 1 (some (l.length+1)),hp++[some (.cells (ak r) 246)],[]⟩:=by
 have hp2:=Int.pow_pos (n:=2) (m:=s) (by decide);have hps:=um (s:=s) (by omega);have hp3:=Int.pow_pos (n:=2) (m:=64-s) (by decide);have key:=tG.FG (M:=M) (f:=280) (ars:=[.vs (ak l) l.length c1,.iV s]) (h:=hp) (K:=fun hr=>∃r,(r.length=l.length+1/\okW wB r/\WV wB r=WV wB l*2^s)/\hr=⟨.sl hp.length 0 (l.length+1) 1 (some (l.length+1)),hp++[some (.cells (ak r) 246)],[]⟩) (by rw[hft];exact Rg) (by simp) (by
  unfold Gm;simp only[enter];repeat' first|refine gc ?_|fail
  rw[show ((l.length:Int)+1).toNat=l.length+1 by omega];refine W.gB l.length (fun i s'=>∃L a4 a5 lo wr,s'=⟨⟨[.vs (ak l) l.length c1,.iV s,.ae,.sl hp.length 0 (l.length+1) 1 (some (l.length+1)),a4,a5,.vs (ak l) l.length c1,.iV l.length,.iV i],lo,hp++[some (.cells (ak L) 246)],[]⟩,wr⟩ /\
   L.length=l.length+1/\okW wB L/\(∀k,i<k->L[k]! = 0)/\(L[i]! < 2^s)/\WV wB L=WV wB (l.take i)*2^s/\∀z∈wr,hp.length<=z) (fun i s' hi ⟨L,a4,a5,lo,wr,hs',hL,ba,hz,hlt,hv,hw⟩=>?_) (fun s' ⟨L,a4,a5,lo,wr,hs',hL,ba,hz,hlt,hv,hw⟩=>?_) (Nat.zero_le _)
   ⟨_,_,_,_,_,rfl,by simp,jv (by decide),fun k _=>jz,by rw[jz];exact hp2,by rw[jx];simp[WV],by simp⟩
  . subst hs';have gx:=bL hl hi;rw[show l[i]! = l[((i:Int)).toNat]! from rfl]at gx;obtain⟨x,hx⟩:∃x,x=l[((i:Int)).toNat]! := ⟨_,rfl⟩;rw[←hx]at gx;have gx:0<=x/\x<18446744073709551616:=gx;have gL:=bL ba (i:=i) (by omega);have gL:0<=L[i]! /\ L[i]! < 18446744073709551616:=gL;have hm:0<=x*2^s%18446744073709551616/\x*2^s%18446744073709551616<18446744073709551616:=by omega
    have hd:x*2^s%18446744073709551616%2^s=0:=by
     rw[Int.emod_emod_of_dvd _ ⟨2^(64-s),hps.symm⟩];exact Int.mul_emod_left _ _
    have hq:x*2^s/18446744073709551616=x/2^(64-s):=by
     rw[←hps,Int.mul_comm x];exact Int.mul_ediv_mul_of_pos _ _ hp2
    have hq2:0<=x/2^(64-s)/\x/2^(64-s)<2^s:=⟨Int.ediv_nonneg gx.1 (Int.le_of_lt hp3),Int.ediv_lt_of_lt_mul hp3 (by rw[hps];exact gx.2)⟩;have hsB:(2:Int)^s<=9223372036854775808:=by
     have:=fI (b:=2) (by decide) hs;exact Int.le_trans this (by decide)
    have hsum:L[i]! + x*2^s%18446744073709551616<18446744073709551616:=by
     obtain⟨k,hk⟩:∃k,x*2^s%18446744073709551616=2^s*k:=⟨x*2^s%18446744073709551616/2^s,by have:=Int.mul_ediv_add_emod (x*2^s%18446744073709551616) (2^s);omega⟩;have hk2:k<2^(64-s):=Int.lt_of_mul_lt_mul_left (a:=2^s) (by rw[←hk,hps];exact hm.2) (Int.le_of_lt hp2);have:=Int.mul_le_mul_of_nonneg_left (show k+1<=2^(64-s) by omega) (Int.le_of_lt hp2);rw[hps,Int.mul_add,←hk]at this;omega
    have eI:0+((i:Int)).toNat*1=i:=by omega
    have eJ:0+((i:Int)+1).toNat*1=i+1:=by omega
    have fin:∀L':List Int,L'=(L.set i (L[i]! + x*2^s%18446744073709551616)).set (i+1) (x/2^(64-s))->L'.length=l.length+1/\okW wB L'/\(∀k,i+1<k->L'[k]! = 0)/\(L'[i+1]! < 2^s)/\WV wB L'=WV wB (l.take (i+1))*2^s:=fun L' hL'=>by
     subst hL';refine⟨by rw[List.length_set,List.length_set];exact hL,fx (fx ba ⟨by omega,hsum⟩) ⟨hq2.1,by show _<(18446744073709551616:Int);omega⟩,fun k hk=>by rw[fR (by omega),fR (by omega)];exact hz k (by omega),by rw[uf (by rw[List.length_set];omega)];exact hq2.2,?_⟩;rw[fy (by rw[List.length_set];omega),fR (by omega),hz (i+1) (by omega),fy (by omega),eu hi,hv,←hq,Int.pow_succ];have e1:x*2^s=x*2^s%18446744073709551616+18446744073709551616*(x*2^s/18446744073709551616):=by omega
     have e2:l[i]! = x:=hx.symm;rw[e2,Int.add_mul,Int.mul_assoc _ x];have e3:wB^i*(x*2^s)=wB^i*(x*2^s%18446744073709551616)+wB^i*(18446744073709551616*(x*2^s/18446744073709551616)):=by rw[←Int.mul_add,←e1]
     rw[e3,show L[i]! + x*2^s%18446744073709551616-L[i]! = x*2^s%18446744073709551616 by omega,Int.sub_zero,Int.mul_assoc (wB^i) wB];exact Int.add_assoc _ _ _
    have eset:¬(0:Int)<s->L.set i (L[i]! + x*2^s%18446744073709551616)=(L.set i (L[i]! + x*2^s%18446744073709551616)).set (i+1) (x/2^(64-s)):=fun h0=>by
     have hs0:s=0:=by omega
     have hx0:x/2^(64-s)=0:=by
      rw[hs0];exact Int.ediv_eq_zero_of_lt gx.1 gx.2
     have h1:(L.set i (L[i]! + x*2^s%18446744073709551616))[i+1]! = 0:=by rw[fR (by omega)];exact hz (i+1) (by omega)
     have h2:i+1<(L.set i (L[i]! + x*2^s%18446744073709551616)).length:=by rw[List.length_set];omega
     rw[getElem!_pos (L.set i (L[i]! + x*2^s%18446744073709551616)) (i+1) h2]at h1;rw[hx0];exact((congrArg (fun z=>(L.set i (L[i]! + x*2^s%18446744073709551616)).set (i+1) z) h1.symm).trans (List.set_getElem_self h2)).symm
    subst hx;unfold zM;by_cases h0:(0:Int)<s
    . refine gg10 ?_;obtain⟨f1,f2,f3,f4,f5⟩:=fin _ rfl;exact cL ⟨_,_,_,_,_,rfl,f1,f2,f3,f4,f5,by intro z hz';simp at hz';rcases hz' with rfl|hz';exact Nat.le_refl _;exact hw z hz'⟩
    . refine gg10 ?_;obtain⟨f1,f2,f3,f4,f5⟩:=fin _ (eset h0);exact cL ⟨_,_,_,_,_,rfl,f1,f2,f3,f4,f5,by intro z hz';simp at hz';rcases hz' with rfl|hz';exact Nat.le_refl _;exact hw z hz'⟩
  . subst hs';rw[List.take_length]at hv;unfold zM;refine gg5 ?_;exact⟨.inr rfl,_,rfl,_,rfl,L,⟨hL,ba,hv⟩,RN rfl hw (by simp[aQ,AV.top])⟩)
 obtain⟨hr,h1,r,h2,rfl⟩:=key.out;exact⟨r,h2,h1⟩
end Go.Ab.Ch1

/-
  Own work: Knuth's division: the guess of a digit is at most one too great.
-/
namespace Go.Ab.aR
structure hZ (t2 t1 t0 v1 v0 T V p:Int):Prop where
 h2:0<=t2
 h1:0<=t1/\t1<18446744073709551616
 h0:0<=t0/\t0<18446744073709551616
 w1:9223372036854775808<=v1/\v1<18446744073709551616
 w0:0<=v0/\v0<18446744073709551616
 hp:1<=p
 lo:((t2*18446744073709551616+t1)*18446744073709551616+t0)*p<=T
 hi:T<((t2*18446744073709551616+t1)*18446744073709551616+t0+1)*p
 nW:(v1*18446744073709551616+v0)*p<=V
 qu:V<(v1*18446744073709551616+v0+1)*p
 hT:T<18446744073709551616*V
structure fY (t2 t1 v1 T V q r:Int):Prop where
 q0:0<=q/\q<18446744073709551616
 r0:0<=r
 e:q*v1+r=t2*18446744073709551616+t1
 ge:T<(q+1)*V
variable {t2 t1 t0 v1 v0 T V p q r:Int}
theorem hZ.top (C:hZ t2 t1 t0 v1 v0 T V p):t2<=v1:=by
 have h1:=C.h1;have h0:=C.h0;have w0:=C.w0;have a1:((t2*18446744073709551616+t1)*18446744073709551616+t0)*p<(18446744073709551616*(v1*18446744073709551616+v0+1))*p:=by
  have:=C.lo;have:=C.hT;have:=C.qu;rw[Int.mul_assoc 18446744073709551616];omega
 have a2:=Int.lt_of_mul_lt_mul_right a1 (by have:=C.hp;omega);omega
theorem hZ.geq (C:hZ t2 t1 t0 v1 v0 T V p)(h0:0<=q)(h:(t2*18446744073709551616+t1)*18446744073709551616+t0+1<=q*(v1*18446744073709551616+v0)):T<q*V:=by
 have hp:=C.hp;have a1:=Int.mul_le_mul_of_nonneg_right h (show 0<=p by omega);have a2:=Int.mul_le_mul_of_nonneg_left C.nW h0;rw[←Int.mul_assoc]at a2;have:=C.hi;omega
theorem fY.qD (I:fY t2 t1 v1 T V q r):q*(v1*18446744073709551616+v0)=(t2*18446744073709551616+t1-r)*18446744073709551616+q*v0:=by
 have e:=I.e;have:t2*18446744073709551616+t1-r=q*v1:=by omega
 rw[this,Int.mul_add,Int.mul_assoc]
theorem fY.RO (C:hZ t2 t1 t0 v1 v0 T V p)(h:v1<=t2):fY t2 t1 v1 T V 18446744073709551615 (t1+v1):=by
 have:=C.top;have:=C.h1;have:=C.w1;have:=C.hT;exact⟨by omega,by omega,by omega,by omega⟩
theorem fY.RP (C:hZ t2 t1 t0 v1 v0 T V p)(h:t2<v1):fY t2 t1 v1 T V ((t2*18446744073709551616+t1)/v1) ((t2*18446744073709551616+t1)%v1):=by
 have h2:=C.h2;have h1:=C.h1;have w1:=C.w1;have h0:=C.h0;have w0:=C.w0;have q0:0<=(t2*18446744073709551616+t1)/v1:=Int.ediv_nonneg (by omega) (by omega);have q1:(t2*18446744073709551616+t1)/v1<18446744073709551616:=Int.ediv_lt_of_lt_mul (by omega) (by omega);have e:=Int.mul_ediv_add_emod (t2*18446744073709551616+t1) v1;have r0:=Int.emod_nonneg (t2*18446744073709551616+t1) (show v1≠0 by omega);have r1:=Int.emod_lt_of_pos (t2*18446744073709551616+t1) (show 0<v1 by omega);rw[Int.mul_comm]at e;refine⟨⟨q0,q1⟩,r0,e,C.geq (by omega) ?_⟩;generalize (t2*18446744073709551616+t1)/v1=q at *
 generalize (t2*18446744073709551616+t1)%v1=r at *
 have a1:(q+1)*(v1*18446744073709551616+v0)=(q*v1+v1)*18446744073709551616+(q+1)*v0:=by grind
 have a2:0<=(q+1)*v0:=Int.mul_nonneg (by omega) w0.1;rw[a1];generalize q*v1=z at *
 generalize (q+1)*v0=y at *
 omega
theorem fY.dec (C:hZ t2 t1 t0 v1 v0 T V p)(I:fY t2 t1 v1 T V q r)(h:r*18446744073709551616+t0<q*v0):fY t2 t1 v1 T V (q-1) (r+v1):=by
 have w1:=C.w1;have q0:=I.q0;have r0:=I.r0;have h0:=C.h0;have q1:0<q:=by
  rcases Int.lt_or_le 0 q with h'|h'
  . exact h'
  . obtain rfl:q=0:=by omega
    omega
 refine⟨by omega,by omega,by have:=I.e;rw[Int.sub_mul];omega,?_⟩;rw[Int.sub_add_cancel];refine C.geq (by omega) ?_;rw[I.qD];omega
theorem fY.exit (C:hZ t2 t1 t0 v1 v0 T V p)(I:fY t2 t1 v1 T V q r)(h:q*v0<=r*18446744073709551616+t0):(q-1)*V<=T:=by
 have w1:=C.w1;have q0:=I.q0;have r0:=I.r0;have w0:=C.w0;have hp:=C.hp;have a1:q*(v1*18446744073709551616+v0)<=(t2*18446744073709551616+t1)*18446744073709551616+t0:=by rw[I.qD];omega
 have a2:=Int.mul_le_mul_of_nonneg_right a1 (show 0<=p by omega);have a3:=Int.mul_le_mul_of_nonneg_left (Int.le_of_lt C.qu) q0.1;have a4:q*((v1*18446744073709551616+v0+1)*p)=q*(v1*18446744073709551616+v0)*p+q*p:=by grind
 have a5:=Int.mul_le_mul_of_nonneg_right (show q<=18446744073709551616 by omega) (show 0<=p by omega);have a6:=Int.mul_le_mul_of_nonneg_right (show 18446744073709551616<=v1*18446744073709551616+v0 by omega) (show 0<=p by omega);have a7:=C.nW;have a8:=C.lo;rw[Int.sub_mul,Int.one_mul];omega
theorem fY.kO (C:hZ t2 t1 t0 v1 v0 T V p)(I:fY t2 t1 v1 T V q r)(h:18446744073709551616<=r):(q-1)*V<=T:=by
 have q0:=I.q0;have w0:=C.w0;have h0:=C.h0;refine I.exit C ?_;have h3:=Int.mul_le_mul (a:=q) (b:=v0) (c:=18446744073709551615) (d:=18446744073709551615) (by omega) (by omega) w0.1 (by omega);omega
theorem iT {b:Int}{l:List Int}{n:Nat}(h:l.length=n+1):WV b l=WV b (l.take n)+b^n*l[n]! := by
 have:=eu (b:=b) (l:=l) (i:=n) (by omega);rwa [List.take_of_length_le (by omega)]at this
theorem hZ.of {X V:List Int}{n:Nat}(hX:X.length=n+3)(hV:V.length=n+2)(oX:okW 18446744073709551616 X)(oV:okW 18446744073709551616 V)(hv:9223372036854775808<=V[n+1]!)(hT:WV 18446744073709551616 X<18446744073709551616*WV 18446744073709551616 V) :
 hZ X[n+2]! X[n+1]! X[n]! V[n+1]! V[n]! (WV 18446744073709551616 X) (WV 18446744073709551616 V) (18446744073709551616^n):=by
 have x2:=bL oX (i:=n+2) (by omega);have x1:=bL oX (i:=n+1) (by omega);have x0:=bL oX (i:=n) (by omega);have v1:=bL oV (i:=n+1) (by omega);have v0:=bL oV (i:=n) (by omega);have eX:WV 18446744073709551616 X=WV 18446744073709551616 (X.take n)+((X[n+2]! * 18446744073709551616+X[n+1]!)*18446744073709551616+X[n]!)*18446744073709551616^n:=by
  rw[iT (n:=n+2) (by omega),eu (by omega),eu (by omega),Int.pow_succ,Int.pow_succ];grind
 have eV:WV 18446744073709551616 V=WV 18446744073709551616 (V.take n)+(V[n+1]! * 18446744073709551616+V[n]!)*18446744073709551616^n:=by
  rw[iT (n:=n+1) (by omega),eu (by omega),Int.pow_succ];grind
 have lX:=cR (b:=18446744073709551616) (by decide) (cY oX n);have lV:=cR (b:=18446744073709551616) (by decide) (cY oV n);have pX:=bT (b:=18446744073709551616) (by decide) (cY oX n);have pV:=bT (b:=18446744073709551616) (by decide) (cY oV n);rw[List.length_take,Nat.min_eq_left (by omega)]at lX lV;have hp:(0:Int)<18446744073709551616^n:=Int.pow_pos (by decide);refine⟨x2.1,x1,x0,⟨hv,v1.2⟩,v0,by omega,by omega,?_,by omega,?_,hT⟩
 . rw[Int.add_mul _ 1,Int.one_mul];omega
 . rw[Int.add_mul _ 1,Int.one_mul];omega
end Go.Ab.aR
