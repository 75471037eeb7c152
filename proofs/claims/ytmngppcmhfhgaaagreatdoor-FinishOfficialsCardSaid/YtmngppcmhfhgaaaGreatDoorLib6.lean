/-
  Own work: the resolved code of some functions of chapter 1: marks.
-/
import Derived.Test.YtmngppcmhfhgaaaGreatDoorLib3
import Derived.Test.YtmngppcmhfhgaaaGreatDoorLib5
import Derived.Test.YtmngppcmhfhgaaaGreatDoorCh5Base
import Derived.Test.YtmngppcmhfhgaaaGreatDoorLib1
import Derived.IntWalk
import Derived.Test.YtmngppcmhfhgaaaGreatDoorCh5Row
import Derived.Test.YtmngppcmhfhgaaaGreatDoorLib4
open Classical renaming not_not→bP
open Int renaming toNat_natCast→be,lt_of_le_of_lt→b8
open List renaming length_append→aL,length_cons→aR,length_nil→aY,length_set→bN,eq_nil_of_length_eq_zero→bW,mem_singleton→b6,drop_eq_getElem_cons→b7,drop_zero→b9
open Nat renaming le_refl→ba
open Rat renaming den_intCast→bA,num_intCast→bI
set_option maxHeartbeats 8000000
set_option maxRecDepth 20000
namespace Go.Ab.Ch5.N
set_option maxRecDepth 1000000
def MK:ao:=zR [zx 1 58 3 0,zi 2 0] (.seq (zR [zf 5 0 1,zd 6 1 5,⟨.l 7,.bin .eql (.l 6) (.c (.str zD9)),none⟩] (.cond (.l 7) (.seq (.draw [(zf 8 2 1,[]),(zd 9 1 8,[]),(z1 10 237 9,[]),(zu 11 10,[]),(⟨.l 12,.call (kF 228) [(.l 11),(kI 1)],none⟩,[]),(zf 13 1 1,[0,1,2,3,4]),(zd 14 1 13,[0,1,2,3,4]),(zc 15 .neq 14 0,[0,1,2,3,4]),(⟨.l 16,.call (kF 228) [(.l 15),(kI 3)],none⟩,[]),(⟨.l 17,.eo 28 2 1 [.iV (0)] [(0,1,(.l 12)),(1,1,(.l 16))],none⟩,[]),(z1 18 227 17,[]),(zw 2 18,[])]) (.ret)) (.skip))) (.seq (.draw [(⟨.l 20,.call (kF 186) [],none⟩,[]),(zf 21 0 1,[0]),(zd 22 1 21,[0]),(⟨.l 23,.lookup .str (.agg [.iV (0),.iV (0),.bool false,.dT,.eZ]) (.l 20) (.l 22) true,none⟩,[]),(zn 19 23,[]),(ze 24 0 19,[]),(ze 25 1 19,[5]),(⟨.p 3,.alloc 246 [.iV (0),.iV (0),.bool false,.dT,.eZ],none⟩,[0,1,2,3,4,5,6]),(zs 5 3 24,[6]),(zw 4 25,[])]) (.seq (.draw [(zm 26 4,[]),(zu 27 26,[]),(⟨.l 28,.call (kF 228) [(.l 27),(kI 13)],none⟩,[]),(zf 29 2 1,[0,1,2]),(zd 30 1 29,[0,1,2]),(⟨.l 31,.bin .neq (.l 30) (.c (.str [])),none⟩,[0,1,2]),(⟨.l 32,.call (kF 228) [(.l 31),(kI 1)],none⟩,[]),(zf 33 1 1,[0,1,2,3,4,5,6]),(zd 34 1 33,[0,1,2,3,4,5,6]),(zf 35 0 3,[0,1,2,3,4,5,6,7,8]),(zd 36 1 35,[0,1,2,3,4,5,6,7,8]),(zf 37 1 3,[0,1,2,3,4,5,6,7,8,9,10]),(zd 38 1 37,[0,1,2,3,4,5,6,7,8,9,10]),(⟨.l 39,.call (kF 238) [(.l 34),(.l 36),(.l 38)],none⟩,[]),(⟨.l 40,.call (kF 228) [(.l 39),(kI 3)],none⟩,[]),(⟨.l 41,.eo 28 3 1 [.iV (0)] [(0,1,(.l 28)),(1,1,(.l 32)),(2,1,(.l 40))],none⟩,[]),(z1 42 227 41,[]),(zw 2 42,[])]) (.ret))))
theorem abP:FT 184=some ⟨43,[0,1,2,3,4],[.var (.p 2)],MK⟩:=by kernel_rfl
def ML:ao:=zR [⟨.p 0,.mv (.c (.dT)),none⟩] (zR [⟨.l 1,.jV,none⟩,⟨.l 2,.jV,none⟩,⟨.no,.jb .str (.l 2) (.c (.str zD7)) (kI 1),none⟩,⟨.no,.jb .str (.l 2) (.c (.str zD3)) (kI 100),none⟩,⟨.no,.jb .str (.l 2) (.c (.str zD10)) (kI 1000),none⟩,zn 3 2,⟨.l 4,.build [.iV (0),.iV (0),.bool false,.dT,.eZ] [(0,1,(kI 1)),(1,1,(kI 863999999)),(2,1,(.c (.bool false))),(3,1,(.l 3)),(4,1,(kF 240))],none⟩,⟨.no,.jb .str (.l 1) (.c (.str zD6)) (.l 4),none⟩,⟨.l 5,.jV,none⟩,⟨.no,.jb .str (.l 5) (.c (.str zD7)) (kI 1),none⟩,⟨.no,.jb .str (.l 5) (.c (.str zD4)) (kI 10),none⟩,zn 6 5,⟨.l 7,.build [.iV (0),.iV (0),.bool false,.dT,.eZ] [(0,1,(kI 0)),(1,1,(kI 999999)),(2,1,(.c (.bool true))),(3,1,(.l 6)),(4,1,(kF 241))],none⟩,⟨.no,.jb .str (.l 1) (.c (.str zD5)) (.l 7),none⟩,⟨.l 8,.jV,none⟩,⟨.no,.jb .str (.l 8) (.c (.str zD7)) (kI 1),none⟩,zn 9 8,⟨.l 10,.build [.iV (0),.iV (0),.bool false,.dT,.eZ] [(0,1,(kI 0)),(1,1,(kI 99999)),(2,1,(.c (.bool true))),(3,1,(.l 9)),(4,1,(kF 242))],none⟩,⟨.no,.jb .str (.l 1) (.c (.str zD8)) (.l 10),none⟩,zn 11 1,zw 0 11] (.ret))
theorem abQ:FT 186=some ⟨12,[0],[.var (.p 0)],ML⟩:=by kernel_rfl
def MM:ao:=zR [⟨.p 1,.mv (.c (.bool false)),none⟩] (zR [⟨.l 3,.eo 9 4 1 [.str []] [(0,1,(.c (.str [68,78,83]))),(1,1,(.c (.str [68,78,70]))),(2,1,(.c (.str [68,81]))),(3,1,(.c (.str [78,77])))],none⟩,zm 4 0,z2 5 185 3 4,zw 1 5] (.ret))
theorem abR:FT 237=some ⟨6,[0,2],[.var (.p 1)],MM⟩:=by kernel_rfl
def MN:ao:=zR [zx 2 58 3 0,⟨.p 3,.alloc 58 [.str [],.iV (0),.str []],none⟩,zi 4 0] (.seq (zR [zt 11 3 2,z1 12 184 11,zw 5 12] (zR [zm 13 5,zc 14 .neq 13 0] (.cond (.l 14) (zR [⟨.l 15,.build [.str [],.iV (0),.str []] [],none⟩,zm 16 5,zs 3 3 15,zw 4 16] (.ret)) (.skip)))) (.seq (zR [zf 17 0 2,zd 18 1 17,⟨.l 19,.bin .eql (.l 18) (.c (.str zD9)),none⟩] (.cond (.l 19) (zR [⟨.l 20,.eo 9 4 1 [.str []] [(0,1,(.c (.str zD7))),(1,1,(.c (.str zD3))),(2,1,(.c (.str zD10))),(3,1,(.c (.str zD4)))],none⟩,zm 21 1,z2 22 185 20 21,zw 6 22] (.seq (zR [zm 23 6,zu 24 23] (.cond (.l 24) (zR [⟨.l 25,.build [.str [],.iV (0),.str []] [],none⟩,zs 3 3 25,zi 4 13] (.ret)) (.skip))) (zR [zt 26 3 2,zs 3 3 26,zi 4 0] (.ret)))) (.skip))) (.seq (.draw [(⟨.l 27,.call (kF 186) [],none⟩,[]),(zf 28 0 2,[0]),(zd 29 1 28,[0]),(⟨.l 30,.lookup .str (.agg [.iV (0),.iV (0),.bool false,.dT,.eZ]) (.l 27) (.l 29) false,none⟩,[]),(⟨.p 7,.alloc 246 [.iV (0),.iV (0),.bool false,.dT,.eZ],none⟩,[0,1,2,3]),(zs 5 7 30,[])]) (zR [zf 32 3 7,zd 33 1 32,zm 34 1,⟨.l 35,.lookup .str (.iV (0)) (.l 33) (.l 34) true,none⟩,zn 31 35,ze 36 0 31,ze 37 1 31,zw 8 36,zw 9 37] (.seq (zR [zm 38 9,zu 39 38] (.cond (.l 39) (zR [⟨.l 40,.build [.str [],.iV (0),.str []] [],none⟩,zs 3 3 40,zi 4 13] (.ret)) (.skip))) (.seq (zR [zf 41 2 7,zd 42 1 41,zu 43 42] (.cond (.l 43) (.region [zf 44 1 2,zd 45 1 44,zm 46 8,zc 47 .sub 46 1,zb 48 .add 45 47,zf 49 1 2,zS 1 49 48]) (.skip))) (.seq (.draw [(zf 50 1 2,[]),(zd 51 1 50,[]),(zf 52 1 2,[0,1]),(zd 53 1 52,[0,1]),(zm 54 8,[0,1,2,3]),(zb 55 .rem 53 54,[0,1]),(zb 56 .sub 51 55,[]),(zf 57 1 2,[]),(zS 1 57 56,[])]) (.seq (zR [zf 58 1 2,zd 59 1 58,zf 60 1 7,zd 61 1 60,zb 62 .gtr 59 61] (.cond (.l 62) (zR [⟨.l 63,.build [.str [],.iV (0),.str []] [],none⟩,zs 3 3 63,zi 4 4] (.ret)) (.skip))) (zR [zt 64 3 2,zs 3 3 64,zi 4 0] (.ret))))))))))
theorem abS:FT 132=some ⟨65,[0,1,2,4,5,6,7,8,9,10],[.cell 3 true (.p 3),.var (.p 4)],MN⟩:=by kernel_rfl
def MO:ao:=zR [zi 1 0] (.seq (zR [⟨.p 2,.mv (.p 0),none⟩] (.block 0 (zR [⟨.l 5,.bin .eql (.p 2) (.c (.str zD6)),none⟩,zn 4 5] (.cond (.l 4) (zR [zi 1 863999999] (.ret)) (zR [⟨.l 7,.bin .eql (.p 2) (.c (.str zD5)),none⟩,zn 6 7] (.cond (.l 6) (zR [zi 1 999999] (.ret)) (.skip))))))) (zR [zi 1 99999] (.ret)))
theorem abT:FT 177=some ⟨8,[0,2,3],[.var (.p 1)],MO⟩:=by kernel_rfl
def MP:ao:=zR [zi 1 0,⟨.p 2,.mv (.c (.str [])),none⟩] (.seq (zR [⟨.p 3,.mv (.p 0),none⟩] (.block 0 (zR [⟨.l 6,.bin .eql (.p 3) (.c (.str zD3)),none⟩,zn 5 6] (.cond (.l 5) (zR [zi 1 100,⟨.p 2,.mv (.c (.str zD6)),none⟩] (.ret)) (zR [⟨.l 8,.bin .eql (.p 3) (.c (.str zD10)),none⟩,zn 7 8] (.cond (.l 7) (zR [zi 1 1000,⟨.p 2,.mv (.c (.str zD6)),none⟩] (.ret)) (zR [⟨.l 10,.bin .eql (.p 3) (.c (.str zD4)),none⟩,zn 9 10] (.cond (.l 9) (zR [zi 1 10,⟨.p 2,.mv (.c (.str zD5)),none⟩] (.ret)) (zR [⟨.l 12,.bin .eql (.p 3) (.c (.str zD7)),none⟩,zn 11 12] (.cond (.l 11) (zR [zi 1 1,⟨.p 2,.mv (.c (.str [])),none⟩] (.ret)) (.skip))))))))))) (zR [zi 1 0,⟨.p 2,.mv (.c (.str [])),none⟩] (.ret)))
theorem abU:FT 176=some ⟨13,[0,2,3,4],[.var (.p 1),.var (.p 2)],MP⟩:=by kernel_rfl
def MQ:ao:=zR [zx 2 58 3 0,⟨.p 3,.alloc 58 [.str [],.iV (0),.str []],none⟩,zi 4 0] (zR [zm 10 1,z1 11 176 10,zn 9 11,ze 12 0 9,ze 13 1 9,zw 5 12,zw 6 13] (.seq (zR [zm 14 5,zc 15 .eql 14 0,zn 16 15,zg (zm 17 6) 16 false,⟨.l 18,.bin .neq (.l 17) (.c (.str [])),some ((.l 16),false)⟩,zg (zn 19 18) 16 false,zg (zf 20 0 2) 19 true,zg (zd 21 1 20) 19 true,⟨.l 22,.bin .neq (.l 21) (.c (.str zD9)),some ((.l 19),true)⟩,zg (zp 23 19 22) 16 false,zg (zn 24 23) 16 false,zg (zf 25 0 2) 24 true,zg (zd 26 1 25) 24 true,zg (zm 27 6) 24 true,zg (zb 28 .neq 26 27) 24 true,zg (zp 29 24 28) 16 false,zP 30 16 29] (.cond (.l 30) (zR [⟨.l 31,.build [.str [],.iV (0),.str []] [],none⟩,zs 3 3 31,zi 4 13] (.ret)) (.skip))) (zR [zt 32 3 2,⟨.p 7,.alloc 58 [.str [],.iV (0),.str []],none⟩,zs 3 7 32] (zR [zf 33 1 2,zd 34 1 33,zm 35 5,zb 36 .quo 34 35,zm 37 5,zb 38 .mul 36 37,zf 39 1 7,zS 1 39 38] (.seq (zR [zf 40 0 2,zd 41 1 40,⟨.l 42,.bin .eql (.l 41) (.c (.str zD6)),none⟩,zn 43 42,zg (zf 44 1 7) 43 true,zg (zd 45 1 44) 43 true,zg (zf 46 1 2) 43 true,zg (zd 47 1 46) 43 true,zg (zb 48 .lss 45 47) 43 true,zp 49 43 48] (.cond (.l 49) (.region [zf 50 1 7,zd 51 1 50,zm 52 5,zb 53 .add 51 52,zf 54 1 7,zS 1 54 53]) (.skip))) (.seq (.seq (.draw [(zf 55 1 7,[]),(zd 56 1 55,[]),(zf 57 0 2,[0,1]),(zd 58 1 57,[0,1]),(z1 59 177 58,[0,1]),(zb 60 .gtr 56 59,[])]) (.cond (.l 60) (zR [⟨.l 61,.build [.str [],.iV (0),.str []] [],none⟩,zs 3 3 61,zi 4 4] (.ret)) (.skip))) (zR [zt 62 3 7,zs 3 3 62,zi 4 0] (.ret))))))))
theorem abV:FT 111=some ⟨63,[0,1,2,4,5,6,7,8],[.cell 3 true (.p 3),.var (.p 4)],MQ⟩:=by kernel_rfl
def MR:ao:=zR [⟨.p 2,.mv (.c (.bool false)),none⟩] (zR [zm 5 0,zm 6 1,z2 7 239 5 6,zc 8 .geq 7 0,zw 2 8] (.ret))
theorem abW:FT 185=some ⟨9,[0,1,4],[.var (.p 2)],MR⟩:=by kernel_rfl
def yr:ao:=zR [zr 9 .lss 5 4] (.seq (.cond (.l 9) (.skip) (.exit 0)) (.seq (.block 1 (zR [zm 10 5,zw 3 10] (zR [zm 11 1,zm 12 0,zm 13 3,za 14 1 12 13,zd 15 1 14,zb 16 .eql 11 15] (.cond (.l 16) (zR [zm 17 3,zw 2 17] (.ret)) (.skip))))) (.region [zq 18 .add 5 1,zw 5 18])))
def MS:ao:=zR [zi 2 0] (.seq (zR [zm 6 0,⟨.p 4,.len .sl (.l 6),none⟩,zi 5 0] (.block 0 (.loop yr))) (zR [zi 2 (-1)] (.ret)))
theorem abX:FT 239=some ⟨19,[0,1,4,5,7,8],[.var (.p 2)],MS⟩:=by kernel_rfl
open Go.Ab.bl
variable {M:az} {cap:Option Nat} {N:Nat}
variable {c1 c2:Option Nat}
theorem gQ.zero {b:Nat}{e:TypeId}{hp:ae}(hb:hp.at b=some (.cells (aj []) e)):gQ (aT [.sl b 0 0 1 cap]) (if (aT [.sl b 0 0 1 cap]).top<=0 then [] else hp) []:=by
 rw[if_neg (by simp[aT,AV.top])];refine⟨.vs [] 0 none,⟨[b],.sl (m:=[]) (b6.2 rfl) hb rfl rfl (fun i x y hx=>by simp at hx) (.inr rfl),rfl,fun c l' e' hc hl'=>?_⟩,rfl,rfl⟩;rw[b6.1 hc,hb]at hl';cases hl';exact pN (fun _=>rfl) []
theorem abY (hft:M.FT=FT)(eH:∀ars h,M.ext 236 ars h=none):xS M 257 [.vs (aj []) ([]:List Int).length c1,.vs (aj []) ([]:List Int).length c2] (WV dB []*WV dB []):=by
 refine DU (by rw[hft];exact Lh) am ?_;have q:=CT.run (fi:=[]) (ca:=[]) (ars:=[.sl 0 0 0 1 (some 0)]) (eH _ _) (DY hft (b:=0) (L:=[]) (e:=3) (hp:=[some (.cells (aj []) 3)]) (cap:=some 0) rfl);have hl:([]:List Int).length=0:=rfl;unfold DP;simp only[enter];rw[hl];repeat' first|apply aaK|apply aa|apply aaI|apply aaC|apply acu|(apply adz;rfl;rfl;omega)|(apply afL;rfl;rfl;omega)|(apply abx;rfl;rfl)|(apply abO;rfl;rfl)
 refine W.loop ?_;unfold xP;repeat' first|apply aaK|apply aa|apply aaI|apply aaC|apply abZ|apply acV|apply bh|apply bk|apply bJ|(apply acj;rfl)|(apply acE;rfl;rfl)|(apply afp;rfl;rfl;first|exact q)|(apply abx;rfl;rfl)|(apply abO;rfl;rfl)|(intro _;omega)|intro _
 all_goals try omega
 all_goals exact⟨.inr rfl,rfl,_,rfl,[],⟨iU,kl,rfl⟩,gQ.zero rfl⟩
open Go.Proofs
theorem cO.top {x:AV}{l:List Int}(h:cO x l):x.top=0:=(tn x h).2.1
theorem bZ.top {v:AV}{z:Int}(h:bZ v z):v.top=0:=by
 obtain⟨_,x,_,rfl,_,_,ht,_⟩:=h.shape;simp[AV.top,bG,ht]
theorem MT {x y:AV}{l m:List Int}(h:ae)(hx:cO x l)(hy:cO y m)(o1:okW dB l)(o2:okW dB m)(n1:aU l)(n2:aU m)(l1:l.length<1000000)(l2:m.length<1000000):xY [x,y] h=some ⟨.iV (bB (WV dB l-WV dB m)),h,[]⟩:=
 qe (Ly bL l m o1 o2 n1 n2 ac ac) rfl rfl rfl (.cons hx.gG (.cons hy.gG .nil))
theorem yt (x:AV)(a b:List Int)(hx:cO x a)(o1:okW dB a)(o2:okW dB b)(n1:aU a)(n2:aU b)(l1:a.length<100000)(l2:b.length<100000)(hb:b≠[]) :
 ∃qv q rv r,cO qv q/\cO rv r/\okW dB q/\aU q/\okW dB r/\aU r/\WV dB q=WV dB a/WV dB b/\WV dB r=WV dB a%WV dB b/\∀h,pd [x,.vs (aj b) b.length none] h=some ⟨.ay [qv,rv],h,[]⟩:=by
 rcases hx with rfl|⟨rfl,rfl⟩
 . obtain⟨q,r,⟨h1,h2,h3⟩,⟨h4,h5,h6⟩,v,hh,⟨v1,x,y,f,t,k,i1,i2⟩,hr⟩:=LH (c1:=none) (c2:=none) LX a b o1 o2 n1 n2 l1 l2 hb;exact⟨x,q,y,r,i1,i2,h1,h2,h4,h5,h3,h6,fun h=>rN ⟨v,hh,v1,hr,f,fM (fJ a) (fJ b),t,k⟩⟩
 . have bp:=(ib (b:=dB) ak o2 n2).2 hb;have e:bB (WV dB []-WV dB b) = -1:=if_pos (by show (0:Int)-WV dB b<0;omega);refine⟨.ab,[],.ab,[],.inr ⟨rfl,rfl⟩,.inr ⟨rfl,rfl⟩,o1,n1,o1,n1,(Int.zero_ediv _).symm,(Int.zero_emod _).symm,fun h=>?_⟩;refine cE (abz (M:=bz Tryz.prog FT xZ) (c2:=none) bL b fun h=>?_) (fM rfl (fJ b)) rfl rfl h;rw[←e];exact MT h (.inr ⟨rfl,rfl⟩) (.inl rfl) o1 o2 n1 n2 (by show (0:Nat)<_;omega) ac
theorem cCg:MA (bz Tryz.prog FT [(224,pd)]) where
 ft:=bL
 jA:=yt
theorem MU {x y:AV}(a b:List Int)(hx:cO x a)(hy:cO y b)(oa:okW dB a)(ob:okW dB b)(na:aU a)(nb:aU b)(la:a.length<100000)(lb:b.length<100000):∃gv g,cO gv g/\okW dB g/\aU g/\WV dB g=(Int.gcd (WV dB a) (WV dB b):Nat)/\g.length<100000/\∀h,yb [x,y] h=some ⟨gv,h,[]⟩:=by
 obtain⟨gv,g,h1,h2,h3,h4,h5,hr⟩:=abA cCg a b hx hy oa ob na nb la lb;exact⟨gv,g,h1,h2,h3,h4,h5,dW hr (fM hx.top hy.top)⟩
noncomputable def MV:Spec:=sL [] 300
theorem aca:aZ Tryz.prog gl 300 MV:=jN bK
noncomputable def yu:List (Nat×Spec):=[(300,MV)]
theorem MW:cY Tryz.prog gl (bE yu):=aQ aca bK
theorem MX:Ez (bz Tryz.prog FT yu) where
 ft:=bL
 yg:=fun a c i _h hi=>qe (abc (M:=bz Tryz.prog FT []) (c1:=c) bL a i hi) rfl rfl rfl (.cons (xX a) (.cons (.atom rfl) .nil))
 eH:=fun _ _=>rfl
noncomputable def ET:Spec:=sL yu 233
noncomputable def MY:Spec:=sL yu 256
noncomputable def tA:Spec:=sK [] 183
theorem MZ:aZ Tryz.prog gl 233 ET:=jN MW
theorem acb:aZ Tryz.prog gl 256 MY:=jN MW
theorem EU:aZ Tryz.prog gl 183 tA:=bM bK
theorem yw:∀neg x l,cO x l->okW dB l->l.length<1000000000->∃v0,bZ v0 (bV neg (WV dB l))/\∀h,tA [.bool neg,x] h=some ⟨v0,h,[]⟩:=fun neg x l hx ok hl=>by
 obtain⟨v0,h1,h2⟩:=abj (M:=bz Tryz.prog FT []) bL (fun _ _=>rfl) neg hx ok hl;exact⟨v0,h1,dW h2 (fM rfl hx.top)⟩
noncomputable def tB:List (Nat×Spec):=[(233,ET),(256,MY),(255,xY),(257,Em),(183,tA)]
theorem EV:cY Tryz.prog gl (bE tB):=aQ MZ (aQ acb (aQ LV (aQ LW (aQ EU bK))))
theorem yx:yh (bz Tryz.prog FT tB) where
 ft:=bL
 qQ:=fun l m k1 k2 o1 o2 l1 l2=>by
  obtain⟨r,⟨h1,h2,h3⟩,v,hh,⟨v1,f,t,k⟩,hr⟩:=abg (c1:=k1) (c2:=k2) MX l m o1 o2 l1 l2;exact⟨r,h1,h2,h3,fun x y h hx hy=>mN (.cons hx (.cons hy .nil)) ⟨v,hh,v1,hr,f,t,k⟩⟩
 EA:=fun l m o1 o2 n1 n2 l1 l2 hle=>by
  have hlen:m.length<=l.length:=gw (b:=dB) ak o2 n2 (b8 hle (dM ak o1));obtain⟨r,⟨h1,h2,h3⟩,v,hh,⟨v1,f,t,k⟩,hr⟩:=abh (c1:=none) (c2:=none) MX l m o1 o2 l1 hlen hle;exact⟨r,h1,h2,h3,fun x y h hx hy=>mN (.cons hx.gG (.cons hy.gG .nil)) ⟨v,hh,v1,hr,f,t,k⟩⟩
 tp:=fun l m x y h o1 o2 n1 n2 l1 l2 hx hy=>MT h hx hy o1 o2 n1 n2 l1 l2
 qM:=fun l m o1 o2 l1 l2=>by
  by_cases h0:0<l.length+m.length
  . obtain⟨r,⟨h1,h2,h3⟩,v,hh,⟨v1,f,t,k⟩,hr⟩:=LB (M:=bz Tryz.prog FT []) (c1:=none) (c2:=none) bL (fun _ _=>rfl) l m o1 o2 ac ac h0;exact⟨r,h1,h2,h3,fun x y h hx hy=>mN (.cons hx.gG (.cons hy.gG .nil)) ⟨v,hh,v1,hr,f,t,k⟩⟩
  . obtain⟨rfl,rfl⟩:l=[]/\m=[]:=⟨bW ac,bW ac⟩;obtain⟨r,⟨h1,h2,h3⟩,v,hh,⟨v1,f,t,k⟩,hr⟩:=abY (M:=bz Tryz.prog FT []) (c1:=none) (c2:=none) bL (fun _ _=>rfl);exact⟨r,h1,h2,h3,fun x y h hx hy=>mN (.cons hx.gG (.cons hy.gG .nil)) ⟨v,hh,v1,hr,f,t,k⟩⟩
 ja:=yw
noncomputable def EW:Spec:=sK tB 193
noncomputable def EX:Spec:=sK tB 194
noncomputable def EY:Spec:=sK tB 254
theorem acd:aZ Tryz.prog gl 193 EW:=bM EV
theorem ace:aZ Tryz.prog gl 194 EX:=bM EV
theorem acf:aZ Tryz.prog gl 254 EY:=bM EV
theorem Na {a:AV}{z:Int}(ha:bZ a z)(l:al z<dB^100):∃v0,bZ v0 (-z)/\∀h,EY [a] h=some ⟨v0,h,[]⟩:=by
 obtain⟨v0,h1,h2⟩:=abk yx ha l ak;exact⟨v0,h1,dW h2 (jO ha.top)⟩
theorem acg {a b:AV}{x y:Int}(ha:bZ a x)(hb:bZ b y)(la:al x<dB^100)(lb:al y<dB^100):∃v0,bZ v0 (x*y)/\∀h,EX [a,b] h=some ⟨v0,h,[]⟩:=by
 obtain⟨v0,h1,h2⟩:=abl yx ha hb la lb ak;exact⟨v0,h1,dW h2 (fM ha.top hb.top)⟩
theorem ach {a b:AV}{x y:Int}(ha:bZ a x)(hb:bZ b y)(la:al x<dB^100)(lb:al y<dB^100):∃v0,bZ v0 (x+y)/\∀h,EW [a,b] h=some ⟨v0,h,[]⟩:=by
 obtain⟨v0,h1,h2⟩:=abn yx ha hb la lb ak;exact⟨v0,h1,dW h2 (fM ha.top hb.top)⟩
noncomputable def tC:Spec:=sK [] 182
noncomputable def tD:Spec:=sK [] 130
noncomputable def Nc:Spec:=sK [] 202
noncomputable def tE:Spec:=sK [(182,tC)] 129
theorem Nd:aZ Tryz.prog gl 182 tC:=bM bK
theorem EZ:aZ Tryz.prog gl 130 tD:=bM bK
theorem aci:aZ Tryz.prog gl 202 Nc:=bM bK
theorem Fa:aZ Tryz.prog gl 129 tE:=bM (aQ Nd bK)
theorem Nf (n:Nat)(h:ae)(hn:n<9223372036854775808):tC [.iV (n:Nat),.iV 1] h=some ⟨.str (bm n),h,[]⟩:=cE (abq bL n hn) rfl rfl rfl h
theorem cTx:Mu (bz Tryz.prog FT [(182,tC)]) where
 ft:=bL
 Mv:=fun n h hn=>Nf n h ac
 Mw:=fun n h hn=>cE (abr bL n hn) rfl rfl rfl h
theorem yy {a:AV}{z:Int}(h:ae)(ha:bZ a z)(l:al z<dB^100):tE [a] h=some ⟨.str (cR z),h,[]⟩:=cE (abt cTx ha l ak) (jO ha.top) rfl rfl h
theorem Fb (n:Int)(hn : -9223372036854775808<=n/\n<9223372036854775808):∃v0,bZ v0 n/\∀h,tD [.iV n] h=some ⟨v0,h,[]⟩:=by
 obtain⟨v0,h1,h2⟩:=aby (M:=bz Tryz.prog FT []) ⟨bL,fun _ _=>rfl,fun _ _=>rfl⟩ n hn;exact⟨v0,h1,dW h2 rfl⟩
noncomputable def yz:List (Nat×Spec):=[(254,EY),(171,yb),(224,pd),(183,tA),(129,tE)]
theorem Ng:cY Tryz.prog gl (bE yz):=aQ acf (aQ LY (aQ En (aQ EU (aQ Fa bK))))
theorem cFn:yi (bz Tryz.prog FT yz) 100 where
 ft:=bL
 yj:=Na
 qO:=MU
 jA:=yt
 ja:=yw
 yk:=yy
noncomputable def yA:Spec:=sK yz 192
theorem Nh:aZ Tryz.prog gl 192 yA:=bM Ng
theorem Ni {a b:AV}{x y:Int}(h:ae)(ha:bZ a x)(hb:bZ b y)(la:al x<dB^100)(lb:al y<dB^100)(h0:y≠0):yA [a,b] h=some ⟨.str (aW (Rat.divInt x y)),h,[]⟩:=
 cE (abE cFn ak ha hb la lb h0) (fM ha.top hb.top) rfl rfl h
noncomputable def Fc:List (Nat×Spec):=(202,Nc)::(182,tC)::(130,tD)::(192,yA)::yz
theorem acm:cY Tryz.prog gl (bE Fc):=aQ aci (aQ Nd (aQ EZ (aQ Nh Ng)))
theorem cOf:EE (bz Tryz.prog FT Fc) 100 where
 ft:=bL
 yj:=Na
 qO:=MU
 jA:=yt
 ja:=yw
 yk:=yy
 MC:=fun a b h ha hb=>cE (abF bL a b ha hb) rfl rfl rfl h
 EH:=Nf
 EK:=Fb
 tz:=Ni
noncomputable def Fe:Spec:=sK Fc 149
theorem aco:aZ Tryz.prog gl 149 Fe:=bM acm
theorem acp (n d:Int)(h:ae)(hn : -9223372036854775808<=n/\n<9223372036854775808)(hd : -9223372036854775808<=d/\d<9223372036854775808)(h0:d≠0):Fe [.iV n,.iV d] h=some ⟨.str (aW (Rat.divInt n d)),h,[]⟩:=
 cE (abG cOf ak hn hd h0) rfl rfl rfl h
noncomputable def Nj:List (Nat×Spec):=[(152,nj),(232,xV)]
theorem cQk:MG (bz Tryz.prog FT Nj) where
 ft:=bL
 tq:=fun s h hl=>tu s h hl
 pa:=fun s h hl hd=>LN s h hl hd
noncomputable def Nk:Spec:=sK Nj 191
theorem acr:aZ Tryz.prog gl 191 Nk:=bM (aQ tr (aQ LL bK))
noncomputable def Ff:List (Nat×Spec):=[(152,nj),(178,tv),(130,tD)]
noncomputable def yB:Spec:=sK Ff 170
theorem Nl:aZ Tryz.prog gl 170 yB:=bM (aQ tr (aQ Ej (aQ EZ bK)))
theorem Nm (z:Int):preB 45 (cR z)=decide (z<0)/\bX 45 (cR z)=bm (al z).toNat:=by
 have h:=sW (z:Rat);rw[yp,bI,bA,if_pos rfl]at h;exact h
theorem Nn (q:Rat)(hl:(aW q).length<1000000):∃v1 v2,bZ v1 q.num/\bZ v2 (q.den:Nat)/\∀h,yB [.str (aW q)] h=some ⟨.ay [v1,v2],h,[]⟩:=by
 obtain⟨e1,e2,_,_,e3,e4⟩:=EN q;obtain⟨p1,p2⟩:=Nm q.num;obtain⟨d1,d2⟩:=El (jv q.den);have hk:=DQ (aW q);obtain⟨v1,k1,q1⟩:=tw (cR q.num) (by rw[←e1];omega) (by rw[p2];exact jv _);have k1:=k1.qL;rw[p1,p2,jh]at k1;have en:(if decide (q.num<0)=true then -((al q.num).toNat:Int) else ((al q.num).toNat:Int))=q.num:=by
  unfold al;by_cases h:q.num<0
  . simp only[h,decide_true,if_true];omega
  . simp only[h,decide_false];show ((q.num.toNat:Nat):Int)=_;omega
 rw[en]at k1;have q152:=fun h=>tu (aW q) h hl
 by_cases hd:q.den=1
 . obtain⟨v2,k2,q2⟩:=Fb 1 ak;rw[decide_eq_false (fun h=>h hd)]at e3;have es:aW q=cR q.num:=if_pos hd;refine⟨v1,v2,k1,by rw[hd];exact k2,dW (abB (M:=bz Tryz.prog FT Ff) bL (aW q) hl e3 q152 k1 k2 (by rw[es];exact q1) q2) rfl⟩
 . rw[if_neg hd]at e4;obtain⟨v2,k2,q2⟩:=tw (bm q.den) (by
    have e:(aW q).length=(cR q.num).length+1+(bm q.den).length:=by
     unfold aW;rw[if_neg hd,aL,aR];omega
    omega) (by rw[d2];exact jv _)
   have k2:=k2.qL;rw[d1,d2,jh,if_neg ak]at k2;rw[decide_eq_true hd]at e3;refine⟨v1,v2,k1,k2,dW (Lx (M:=bz Tryz.prog FT Ff) bL (aW q) hl e3 q152 k1 k2 (by rw[e4];exact q1) (by rw[e4];exact q2)) rfl⟩
noncomputable def Fg:List (Nat×Spec):=[(191,Nk),(170,yB),(194,EX),(193,EW),(192,yA),(149,Fe)]
theorem acs:cY Tryz.prog gl (bE Fg):=aQ acr (aQ Nl (aQ ace (aQ acd (aQ Nh (aQ aco bK)))))
theorem cAd:MH (bz Tryz.prog FT Fg) 100 where
 ft:=bL
 EO:=fun q hl=>by
  obtain⟨n,d,b,h1,h2⟩:=abL cQk hl;exact⟨n,d,b,h1,fun h=>cE h2 rfl rfl rfl h⟩
 qN:=Nn
 yq:=acg
 MI:=ach
 tz:=Ni
 MJ:=acp
theorem k50:(10:Int)^(2*201+1)<=dB^100:=by rw[show 2*201+1=200+203 from rfl,Int.pow_add];decide
theorem nk {k:Nat}{q:Rat}(h:Dq k q)(h0:0<k)(hk:k<=600):(aW q).length<1000000:=by
 have:=KJ (h.lq (N:=601) h0 ac);omega
noncomputable def yC:Spec:=sK Fg 139
noncomputable def mg:Spec:=sK [] 105
noncomputable def tF:Spec:=sK [(105,mg)] 113
noncomputable def yD:Spec:=sK [(113,tF),(139,yC)] 128
noncomputable def Fh:Spec:=sK [(128,yD),(105,mg)] 48
theorem acw:aZ Tryz.prog gl 139 yC:=bM acs
theorem Fi:aZ Tryz.prog gl 105 mg:=bM bK
theorem No:aZ Tryz.prog gl 113 tF:=bM (aQ Fi bK)
theorem acx:aZ Tryz.prog gl 128 yD:=bM (aQ No (aQ acw bK))
theorem acy:aZ Tryz.prog gl 48 Fh:=bM (aQ acx (aQ Fi bK))
theorem acz (p q:Rat)(h:ae)(hp:Dq 201 p)(hq:Dq 201 q):yC [.str (aW p),.str (aW q)] h=some ⟨.str (aW (p+q)),h,[]⟩:=
 cE (abM cAd k50 hp hq (nk hp ak ak) (nk hq ak ak)) rfl rfl rfl h
theorem yE (q:Rat)(h:ae):mg [.str (aW q)] h=some ⟨.iV (bB q.num),h,[]⟩:=cE (abI bL q) rfl rfl rfl h
theorem Fj {k:Nat}(q:Rat)(h:ae)(hq:Dq k q)(h0:0<k)(hk:k<=600):tF [.str (aW q)] h=some ⟨.str (aW (-q)),h,[]⟩:=
 cE (abJ (M:=bz Tryz.prog FT [(105,mg)]) bL (nk hq h0 hk) (yE q)) rfl rfl rfl h
theorem acA (p q:Rat)(h:ae)(hp:Dq 201 p)(hq:Dq 201 q):yD [.str (aW p),.str (aW q)] h=some ⟨.str (aW (p-q)),h,[]⟩:=
 cE (abN (M:=bz Tryz.prog FT [(113,tF),(139,yC)]) bL (fun h=>Fj q h hq ak ak) (fun h=>acz p (-q) h hp hq.neg)) rfl rfl rfl h
theorem Np (p q:Rat)(h:ae)(hp:Dq 201 p)(hq:Dq 201 q):Fh [.str (aW p),.str (aW q)] h=some ⟨.iV (jQ p q),h,[]⟩:=by
 have e:bB (p-q).num=jQ p q:=by rw[←KP,Zf]
 rw[←e];exact cE (w48 (M:=bz Tryz.prog FT [(128,yD),(105,mg)]) bL (fun h=>acA p q h hp hq) (yE _)) rfl rfl rfl h
structure Nq (M:az):Prop where
 ft:M.FT=FT
 jA:∀(x:AV) (a b:List Int),cO x a->okW dB a->okW dB b->aU a->aU b->a.length<100000->b.length<100000->b≠[]->∃qv q rv r,cO qv q/\cO rv r/\okW dB q/\aU q/\okW dB r/\aU r/\WV dB q=WV dB a/WV dB b/\WV dB r=WV dB a%WV dB b/\∀h,M.ext 224 [x,.vs (aj b) b.length none] h=some ⟨.ay [qv,rv],h,[]⟩
 qQ:∀l m k1 k2,okW dB l->okW dB m->l.length<1000000->m.length<1000000->∃r,okW dB r/\WV dB r=WV dB l+WV dB m/\r.length<=l.length+m.length+1/\∀x y h,dx h x (.vs (aj l) l.length k1)->dx h y (.vs (aj m) m.length k2)->M.ext 233 [x,y] h=some ⟨.vs (aj r) r.length none,h,[]⟩
 ja:∀neg x l,cO x l->okW dB l->l.length<1000000000->∃v0,bZ v0 (bV neg (WV dB l))/\∀h,M.ext 183 [.bool neg,x] h=some ⟨v0,h,[]⟩
theorem acB {h:ae}{b:Nat}{e:TypeId}{cp:Option Nat}(hb:h.at b=some (.cells [.iV 1] e)):dx h (.sl b 0 1 1 cp) (.vs (aj [1]) ([1]:List Int).length none):=
 .sl (m:=aj [1]) hb rfl rfl (xT [1]).2
theorem Nr {a b:Int}(hb:0<b):(-a)/b=if a%b=0 then -(a/b) else -(a/b+1):=by
 rw[Int.neg_ediv];have:(b ∣ a)↔a%b=0:=⟨fun h=>Int.emod_eq_zero_of_dvd h,fun h=>Int.dvd_of_emod_eq_zero h⟩;by_cases h:a%b=0
 . rw[if_pos h,if_pos (this.2 h)];omega
 . rw[if_neg h,if_neg (fun k=>h (this.1 k)),Int.sign_eq_one_of_pos hb];omega
theorem acC (C:Nq M){a b:AV}{za zb:Int}(ha:bZ a za)(hb:bZ b zb)(la:al za<dB^N)(lb:al zb<dB^N)(hN:N<100000)(h0:0<zb):∃v0,bZ v0 (za/zb)/\dj M 179 [a,b] v0:=by
 obtain⟨na,x,l,rfl,hx,ol,nl,ll,ea,_,_⟩:=ha.abs la;obtain⟨nb,y,m,rfl,hy,om,nm,lm,eb,_,hn⟩:=hb.abs lb;have m0:=cK (b:=dB) ak om;obtain⟨rfl,hm⟩:nb=false/\m≠[]:=by
  cases nb
  . refine⟨rfl,fun h=>?_⟩;subst h;simp[bV,WV]at eb;omega
  . have:zb = -WV dB m:=eb;omega
 have eb:zb=WV dB m:=eb;obtain rfl:y = .vs (aj m) m.length none:=hy.resolve_right fun h=>hm h.2
 obtain⟨qv,q,rv,r,hq,hr,oq,nq,or_,nr,vq,vr,q224⟩:=C.jA x l m hx ol om nl nm ac ac hm;have lq:q.length<=l.length:=gw (b:=dB) ak oq nq (b8 (by rw[vq];exact Int.ediv_le_self _ (cK ak ol)) (dM ak ol));have hr0:WV dB l%WV dB m=0↔r=[]:=by
  rw[←vr];constructor
  . intro h;refine Decidable.byContradiction fun hne=>?_
    have:=(ib (b:=dB) ak or_ nr).2 hne;omega
  . intro h;rw[h];rfl
 by_cases hc:na=true/\r≠[]
 . obtain⟨rfl,hne⟩:=hc;obtain rfl:rv = .vs (aj r) r.length none:=hr.resolve_right fun h=>hne h.2
   have hrl:=List.length_pos_iff.2 hne;obtain⟨s,os,vs,ls,q233⟩:=C.qQ q [1] none none oq (fun z hz=>by rw[b6.1 hz];decide) ac ak;have l1:([1]:List Int).length=1:=rfl;obtain⟨v0,k0,q183⟩:=C.ja true _ s (.inl rfl) os ac;have e:bV true (WV dB s)=za/zb:=by
    rw[ea,eb];show -WV dB s = -WV dB l/WV dB m;rw[Nr ac,if_neg (fun h=>hne (hr0.1 h)),vs,vq];rfl
   rw[e]at k0;have q233:=fun b e cp h hb=>q233 qv (.sl b 0 1 1 cp) h hq.gG (acB (e:=e) hb)
   refine⟨v0,k0,dm (by rw[C.ft];exact Mf) am ?_⟩;have out:=fun hh=>k0.out (hh:=hh)
   obtain⟨n0,x0,l0,rfl,hx0,o0,_,_⟩:=k0.shape;unfold yd;simp only[enter];repeat' first|(apply afa;rfl;rfl;rfl;exact⟨rfl,ba _,gH o0⟩;rfl)|(apply afN;rfl;rfl;rfl)|apply aaK|apply aa|apply aaI|apply aaC|apply abZ|(apply ack;rfl)|(apply adx;rfl)|(apply acI;rfl;rfl)|(apply acJ;rfl;rfl)|(apply acq;rfl;rfl;first|exact q224 _|exact q183 _)|(apply acq;rfl;rfl;exact q233 _ _ _ _ rfl)|(apply acH;rfl;rfl;rfl)|(apply acv;rfl;rfl;rfl)|(apply abx;rfl;rfl)|(apply abO;rfl;rfl)|(intro _;omega)|intro _
   all_goals try omega
   all_goals exact cI rfl rfl (out _)
 . obtain⟨v0,k0,q183⟩:=C.ja na qv q hq oq ac;have e:bV na (WV dB q)=za/zb:=by
    rw[ea,eb,vq];cases na with
    | false=>rfl
    | true=>
     have hre:r=[]:=Decidable.byContradiction fun h=>hc ⟨rfl,h⟩
     show -(WV dB l/WV dB m) = -WV dB l/WV dB m;rw[Nr (by have:=(ib (b:=dB) ak om nm).2 hm;omega),if_pos (hr0.2 hre)]
   rw[e]at k0;refine⟨v0,k0,dm (by rw[C.ft];exact Mf) am ?_⟩;have out:=fun hh=>k0.out (hh:=hh)
   obtain⟨n0,x0,l0,rfl,hx0,o0,_,_⟩:=k0.shape;cases na with
   | false=>
    unfold yd;simp only[enter];repeat' first|(apply afa;rfl;rfl;rfl;exact⟨rfl,ba _,gH o0⟩;rfl)|(apply afN;rfl;rfl;rfl)|apply aaK|apply aa|apply aaI|apply aaC|apply abZ|apply acn|(apply acj;rfl)|(apply aeU;rfl)|(apply adt;rfl;rfl)|(apply acq;rfl;rfl;first|exact q224 _|exact q183 _)|(apply acv;rfl;rfl;rfl)|(apply abx;rfl;rfl)|(apply abO;rfl;rfl)
    all_goals try omega
    all_goals exact cI rfl rfl (out _)
   | true=>
    obtain rfl:r=[]:=Decidable.byContradiction fun h=>hc ⟨rfl,h⟩
    have l0':([]:List Int).length=0:=rfl;unfold yd;simp only[enter];rcases hr with rfl|⟨rfl,_⟩;all_goals
    . repeat' first|(apply afa;rfl;rfl;rfl;exact⟨rfl,ba _,gH o0⟩;rfl)|(apply afN;rfl;rfl;rfl)|apply aaK|apply aa|apply aaI|apply aaC|apply abZ|apply acn|(apply acj;rfl)|(apply adx;rfl)|(apply acI;rfl;rfl)|(apply acJ;rfl;rfl)|(apply acq;rfl;rfl;first|exact q224 _|exact q183 _)|(apply acv;rfl;rfl;rfl)|(apply abx;rfl;rfl)|(apply abO;rfl;rfl)|(intro _;omega)|intro _
      all_goals try omega
      all_goals exact cI rfl rfl (out _)
theorem acD (hft:M.FT=FT){q:Rat}{v1 v2 v3:AV}(hw:q.den=1->aW q=cR q.num)(k1:bZ v1 q.num)(k2:bZ v2 (q.den:Nat))(q68:∀h,M.ext 68 [.str (aW q)] h=some ⟨.bool (decide (q.den=1)),h,[]⟩)(q170:∀h,M.ext 170 [.str (aW q)] h=some ⟨.ay [v1,v2],h,[]⟩)(q179:∀h,M.ext 179 [v1,v2] h=some ⟨v3,h,[]⟩)(q129:∀h,M.ext 129 [v3] h=some ⟨.str (cR (q.num/q.den)),h,[]⟩):bg M 114 [.str (aW q)] [] ⟨.str (cR (q.num/q.den)),[],[]⟩:=by
 obtain⟨_,_,_,rfl,_,o1,_⟩:=k1.shape;obtain⟨_,_,_,rfl,_,o2,_⟩:=k2.shape;refine bU (by rw[hft];exact abb) am ?_;unfold Mq;simp only[enter];by_cases h1:q.den=1
 . rw[decide_eq_true h1]at q68;rw[h1,show (q.num/((1:Nat):Int))=q.num from Int.ediv_one _,←hw h1];repeat' first|apply aaK|apply aa|apply aaI|apply aaC|apply abZ|apply aP|(apply ack;rfl)|(apply acq;rfl;rfl;first|exact q68 _)|(apply abx;rfl;rfl)|(apply abO;rfl;rfl)
   all_goals exact⟨.inr rfl,rfl,_,rfl,rfl,rfl⟩
 . rw[decide_eq_false h1]at q68;repeat' first|(apply afa;rfl;rfl;rfl;exact⟨rfl,ba _,by first|exact gH o1|exact gH o2⟩;rfl)|(apply afN;rfl;rfl;rfl)|apply aaK|apply aa|apply aaI|apply aaC|apply abZ|apply acn|(apply acj;rfl)|(apply acq;rfl;rfl;first|exact q68 _|exact q170 _|exact q179 _|exact q129 _)|(apply acv;rfl;rfl;rfl)|(apply abx;rfl;rfl)|(apply abO;rfl;rfl)
   all_goals exact⟨.inr rfl,rfl,_,rfl,rfl,rfl⟩
end Go.Ab.Ch5.N

/-
  Own work: plain facts on stable sorting by blocks that are merged in place.
-/
namespace Go.Ab.Sort
section
variable {key:Int->Int}
end
end Go.Ab.Sort

/-
  Own work: the resolved code of some functions of chapter 1: shares and the stable sort.
-/
namespace Go.Ab.Ch5.N
set_option maxRecDepth 1000000
open Go.Ab.Sort
variable {M:az} {h:ae} {b n:Nat} {cap:Option Nat} {g:AV}
variable {key:Int->Int} {ok:Int->Prop} {cf:Int->Int->Int}
open Go.Ab.bl
variable {N:Nat}
theorem w49 (hft:M.FT=FT){n:Int}{v:AV}(q130:∀h,M.ext 130 [.iV n] h=some ⟨v,h,[]⟩)(q129:∀h,M.ext 129 [v] h=some ⟨.str (cR n),h,[]⟩):bg M 49 [.iV n] [] ⟨.str (aW (n:Rat)),[],[]⟩:=by
 rw[yp];refine bU (by rw[hft];exact aaU) am ?_;unfold Ml;simp only[enter];repeat' first|apply aaK|apply aa|apply aaI|apply aaC|apply abZ|(apply acq;rfl;rfl;first|exact q130 _|exact q129 _)|(apply abx;rfl;rfl)|(apply abO;rfl;rfl)
 all_goals exact⟨.inr rfl,rfl,_,rfl,rfl,rfl⟩
end Go.Ab.Ch5.N

/-
  Own work: the resolved code of some functions of chapter 5: starts.
-/
namespace Go.Ab.Ch5
def yF:ao:=zR [zr 8 .lss 5 4] (.seq (.cond (.l 8) (.skip) (.exit 0)) (.seq (.block 1 (zR [⟨.l 9,.fy none 1 (.p 3) (.p 5),none⟩,zd 10 1 9,zw 2 10] (zR [zm 11 2,zc 12 .neq 11 0] (.cond (.l 12) (zR [zm 13 2,zw 1 13] (.ret)) (.skip))))) (.region [zq 14 .add 5 1,zw 5 14])))
def Ns:ao:=zR [zi 1 0] (.seq (zR [⟨.p 3,.mv (.p 0),none⟩,⟨.p 4,.len .sl (.p 3),none⟩,zi 5 0] (.block 0 (.loop yF))) (zR [zi 1 0] (.ret)))
theorem acF:FT 90=some ⟨15,[0,2,4,5,6,7],[.var (.p 1)],Ns⟩:=by kernel_rfl
def Nt:ao:=zR [zi 2 0] (.seq (zR [zm 5 0] (.cond (.l 5) (zR [zm 6 1,zw 2 6] (.ret)) (.skip))) (zR [zi 2 0] (.ret)))
theorem acG:FT 91=some ⟨7,[0,1,4],[.var (.p 2)],Nt⟩:=by kernel_rfl
variable {M:az} {cap:Option Nat}
theorem w91 (hft:M.FT=FT)(t:Bool)(e:Int):bg M 91 [.bool t,.iV e] [] ⟨.iV (if t then e else 0),[],[]⟩:=by
 refine bU (by rw[hft];exact acG) am ?_;unfold Nt;simp only[enter];cases t;all_goals
  repeat' first|apply aaK|apply aa|apply aaI|apply aaC|apply abZ|apply acn|apply aP|(apply ack;rfl)|(apply acj;rfl)|(apply abx;rfl;rfl)|(apply abO;rfl;rfl)
 all_goals exact⟨.inr rfl,rfl,_,rfl,rfl,rfl⟩
def cM:List Int->Int
 | []=>0
 | e::r=>if e=0 then cM r else e
theorem vn {l:List Int}{i:Nat}(h:i<l.length):cM (l.drop i)=if l[i]! = 0 then cM (l.drop (i+1)) else l[i]! := by
 rw[b7 h,getElem!_pos l i h,cM]
theorem Nu (l:List Int)(hl:l.length<4611686018427387904){Q:Ex->aw->Prop}:∀(r i:Nat) (a2:AV) (lo:List (Nat×AV)) (wr:List Nat),i+r=l.length ->
 (cM (l.drop i)=0->∀a2 lo wr,Q (.exit 0) ⟨⟨[.vs (ints l) l.length cap,.iV 0,a2,.vs (ints l) l.length cap,.iV l.length,.iV l.length],lo,[],[]⟩,wr⟩) ->
 (∀a2 a5 lo wr,Q .ret ⟨⟨[.vs (ints l) l.length cap,.iV (cM (l.drop i)),a2,.vs (ints l) l.length cap,.iV l.length,a5],lo,[],[]⟩,wr⟩) ->
 W M (.loop yF) ⟨⟨[.vs (ints l) l.length cap,.iV 0,a2,.vs (ints l) l.length cap,.iV l.length,.iV i],lo,[],[]⟩,wr⟩ Q
 | 0,i,a2,lo,wr,hi,h1,h2=>by
  obtain rfl:i=l.length:=by omega
  refine W.loop ?_;unfold yF;repeat' first|apply aaK|apply aa|apply aaI|apply aaC|apply acV|apply bh|apply bJ|(apply acj;rfl)|(apply acE;rfl;rfl)|(intro _;omega)|intro _
  exact h1 (by simp[cM]) _ _ _
 | r+1,i,a2,lo,wr,hi,h1,h2=>by
  have e:=vn (l:=l) (i:=(i:Int).toNat) ac;rw[be]at e;refine W.loop ?_;unfold yF;repeat' first|apply aaK|apply aa|apply aaI|apply aaC|apply acu|apply abZ|apply acn|apply aP|apply bc|apply bH|apply cz|(apply ack;rfl)|(apply acj;rfl)|(apply acE;rfl;rfl)|(apply adH;rfl;rfl)|(apply adz;rfl;rfl;omega)|(apply afb;rfl;rfl;omega)|(apply afo;rfl;exact fun _=>rfl;(first|omega|(simp only[bN];omega)|(simp;omega));decide;rfl;case ia=>infer_instance)|(apply abx;rfl;rfl)|(apply abO;rfl;rfl)|(intro _;omega)|intro _
  . rename_i he;rw[be]at he;rw[if_neg he]at e;rw[e]at h2;exact h2 _ _ _ _
  . rename_i he;rw[be]at he;rw[if_pos he]at e;rw[e]at h1 h2;exact fV (Nu l hl r (i+1) _ _ _ ac h1 h2)
theorem w90 (hft:M.FT=FT)(l:List Int)(hl:l.length<4611686018427387904):bg M 90 [.vs (ints l) l.length cap] [] ⟨.iV (cM l),[],[]⟩:=by
 refine bU (by rw[hft];exact acF) am ?_;unfold Ns;simp only[enter];repeat' first|apply aaK|apply aa|apply aaI|apply aaC|apply acu|(apply abO;rfl;rfl)
 refine Nu l hl l.length 0 _ _ _ ac (fun h a2 lo wr=>?_) (fun a2 a5 lo wr=>?_)
 . repeat' first|apply aaK|apply aa|apply aaI|apply aaC|apply abZ|apply bk|(apply abO;rfl;rfl)
   exact⟨.inr rfl,rfl,_,rfl,by rw[b9]at h;rw[h];rfl,rfl⟩
 . repeat' first|apply aP|apply bH
   exact⟨.inr rfl,rfl,_,rfl,rfl,rfl⟩
open Go.Proofs
def kL:Spec:=fun
 | [.bool t,.int .i64 e],h=>some ⟨.int .i64 (if t then e else 0),h,[]⟩
 | _,_=>none
end Go.Ab.Ch5

/-
  Own work: the code of functions: official marks.
-/
namespace Go.Ab.Ch5.N
set_option maxRecDepth 1000000
def b5:ao:=zR [zx 2 44 2 0,⟨.p 3,.mv (.c (.bool false)),none⟩] (.seq (zR [⟨.l 9,.call (kF 15) [],none⟩,zu 10 9,zn 11 10,zg (zt 12 2 2) 11 false,zg (z1 13 31 12) 11 false,zP 14 11 13,zn 15 14,zg (zm 16 1) 15 false,zg (zL 17 16) 15 false,zg (zc 18 .gtr 17 20) 15 false,zP 19 15 18] (.cond (.l 19) (zR [⟨.l 20,.call (kF 15) [],none⟩,zw 3 20] (.ret)) (.skip))) (zR [zt 22 2 2,zm 23 1,z2 24 32 22 23,zn 21 24,ze 25 0 21,ze 26 1 21,⟨.p 4,.alloc 58 [.str [],.iV (0),.str []],none⟩,zs 3 4 25,zw 5 26] (zR [zt 27 2 2,z1 28 33 27,zm 29 1,z1 30 34 29,⟨.l 31,.eo 3 2 1 [.iV (0)] [(0,1,(.l 28)),(1,1,(.l 30))],none⟩,z1 32 25 31,zw 6 32] (zR [⟨.p 7,.alloc 58 [.str [],.iV (0),.str []],none⟩] (.seq (zR [zm 33 6,zc 34 .eql 33 0] (.cond (.l 34) (.region [zt 36 2 2,zm 37 1,z2 38 35 36 37,zn 35 38,ze 39 0 35,ze 40 1 35,zs 3 7 39,zw 6 40]) (.skip))) (zR [zt 41 3 4,zm 42 5,zm 43 6,zt 44 3 7,⟨.l 45,.call (kF 36) [(.l 41),(.l 42),(.l 43),(.l 44)],none⟩,zw 3 45] (.ret)))))))
theorem ft5:FT 5=some ⟨46,[0,1,2,4,5,6,7,8],[.var (.p 3)],b5⟩:=by kernel_rfl
def Nv:ao:=zR [zx 1 44 2 0,⟨.p 2,.mv (.c (.bool false)),none⟩] (zR [zf 3 0 1,zd 4 1 3,zL 5 4,zc 6 .gtr 5 20,zn 7 6,zg (zf 8 1 1) 7 false,zg (zd 9 1 8) 7 false,zg (zL 10 9) 7 false,zg (zc 11 .gtr 10 20) 7 false,zP 12 7 11,zw 2 12] (.ret))
theorem acK:FT 31=some ⟨13,[0,1,2],[.var (.p 2)],Nv⟩:=by kernel_rfl
def Fk:ao:=zR [zx 2 44 2 0,⟨.p 3,.alloc 58 [.str [],.iV (0),.str []],none⟩,zi 4 0] (zR [zt 9 2 2,z1 10 107 9,zn 8 10,ze 11 0 8,ze 12 1 8,⟨.p 5,.alloc 175 [.iV (0),.ab,.iV (0),.ab,.iV (0),.ab,.iV (0),.ab],none⟩,zs 8 5 11,zw 6 12] (.seq (zR [zm 13 6,zm 14 1,z1 15 108 14,⟨.l 16,.eo 28 2 1 [.iV (0)] [(0,1,(.l 13)),(1,1,(.l 15))],none⟩,z1 17 90 16,zw 6 17] (zR [zm 18 6,zc 19 .neq 18 0] (.cond (.l 19) (zR [⟨.l 20,.build [.str [],.iV (0),.str []] [],none⟩,zm 21 6,zs 3 3 20,zw 4 21] (.ret)) (.skip)))) (zR [zt 22 8 5,zm 23 1,z2 24 109 22 23,ze 25 0 24,ze 26 1 24,zs 3 3 25,zw 4 26] (.ret))))
theorem Nw:FT 32=some ⟨27,[0,1,2,4,5,6,7],[.cell 3 true (.p 3),.var (.p 4)],Fk⟩:=by kernel_rfl
def Fl:ao:=zR [zx 1 44 2 0,zi 2 0] (zR [zf 4 0 1,zd 5 1 4,zf 6 1 1,zd 7 1 6,⟨.l 8,.eo 40 2 1 [.str []] [(0,1,(.l 5)),(1,1,(.l 7))],none⟩,z1 9 110 8,zw 3 9] (.seq (zR [zm 10 3,zc 11 .neq 10 0] (.cond (.l 11) (zR [zm 12 3,zw 2 12] (.ret)) (.skip))) (.seq (zR [zf 13 0 1,zd 14 1 13,zf 15 1 1,zd 16 1 15,z2 17 48 14 16,zc 18 .gtr 17 0] (.cond (.l 18) (zR [zi 2 11] (.ret)) (.skip))) (.seq (.seq (.draw [(zf 19 0 1,[]),(zd 20 1 19,[]),(z1 21 105 20,[]),(zc 22 .lss 21 0,[]),(zn 23 22,[]),(zg (zf 24 1 1) 23 false,[]),(zg (zd 25 1 24) 23 false,[]),(zg (z1 26 105 25) 23 false,[]),(zg (zc 27 .leq 26 0) 23 false,[]),(zP 28 23 27,[]),(zn 29 28,[]),(zg (zf 30 1 1) 29 false,[]),(zg (zd 31 1 30) 29 false,[]),(⟨.l 32,.call (kF 49) [(kI 863999999)],some ((.l 29),false)⟩,[11,12]),(zg (z2 33 48 31 32) 29 false,[]),(zg (zc 34 .gtr 33 0) 29 false,[]),(zP 35 29 34,[])]) (.cond (.l 35) (zR [zi 2 3] (.ret)) (.skip))) (zR [zi 2 0] (.ret))))))
theorem Nx:FT 33=some ⟨36,[0,1,2,3],[.var (.p 2)],Fl⟩:=by kernel_rfl
def Ny:ao:=zR [zi 1 0] (zR [⟨.l 6,.build [.str [],.iV (0),.str []] [(0,1,(.c (.str zD6))),(1,1,(kI 1))],none⟩,zm 7 0,z2 8 111 6 7,zn 5 8,ze 9 0 5,ze 10 1 5,⟨.l 3,.alloc 58 [.str [],.iV (0),.str []],none⟩,zS 3 3 9,zw 2 10] (zR [zm 11 2,zw 1 11] (.ret)))
theorem acL:FT 34=some ⟨12,[0,2,4],[.var (.p 1)],Ny⟩:=by kernel_rfl
def Nz:ao:=zR [zx 2 44 2 0,⟨.p 3,.alloc 58 [.str [],.iV (0),.str []],none⟩,zi 4 0] (zR [zf 9 1 2,zd 10 1 9,z1 11 113 10,z1 12 114 11,z1 13 113 12,z1 14 112 13,zn 8 14,ze 15 0 8,ze 16 1 8,zw 5 15,zn 7 16] (zR [zm 17 5,⟨.l 18,.build [.str [],.iV (0),.str []] [(0,1,(.c (.str zD6))),(1,1,(.l 17))],none⟩,zm 19 1,z2 20 111 18 19,ze 21 0 20,ze 22 1 20,zs 3 3 21,zw 4 22] (.ret)))
theorem acM:FT 35=some ⟨23,[0,1,2,4,5,6],[.cell 3 true (.p 3),.var (.p 4)],Nz⟩:=by kernel_rfl
def Fm:ao:=zR [zx 4 58 3 0,zx 5 58 3 3,⟨.p 6,.mv (.c (.bool false)),none⟩] (.seq (zR [zm 9 2,zc 10 .neq 9 0] (.cond (.l 10) (zR [zt 11 3 4,⟨.l 12,.build [.str [],.iV (0),.str []] [],none⟩,⟨.l 13,.eq false (.nu [(0,1,false,.str),(1,1,false,.int),(2,1,false,.str)]) (.l 11) (.l 12),none⟩,zn 14 13,zg (zm 15 1) 14 true,zg (zm 16 2) 14 true,zg (zb 17 .eql 15 16) 14 true,zp 18 14 17,zw 6 18] (.ret)) (.skip))) (zR [zm 19 1,zc 20 .eql 19 0,zn 21 20,zg (zt 22 3 4) 21 true,zg (zt 23 3 5) 21 true,⟨.l 24,.eq false (.nu [(0,1,false,.str),(1,1,false,.int),(2,1,false,.str)]) (.l 22) (.l 23),some ((.l 21),true)⟩,zp 25 21 24,zw 6 25] (.ret)))
theorem NA:FT 36=some ⟨26,[0,1,2,3,4,7,8],[.var (.p 6)],Fm⟩:=by kernel_rfl
def NB:ao:=zR [zx 1 175 8 0,⟨.p 2,.mv (.c (.bool false)),none⟩] (.seq (.draw [(zf 3 4 1,[]),(zT 4 4 3,[]),(⟨.l 5,.call (kF 143) [(kI 863999999)],none⟩,[0,1]),(z2 6 147 4 5,[]),(zc 7 .gtr 6 0,[]),(zw 2 7,[])]) (.ret))
theorem acN:FT 101=some ⟨8,[0,1,2],[.var (.p 2)],NB⟩:=by kernel_rfl
def Fo:ao:=zR [zx 1 44 2 0,⟨.p 2,.alloc 175 [.iV (0),.ab,.iV (0),.ab,.iV (0),.ab,.iV (0),.ab],none⟩,zi 3 0] (.seq (.seq (.draw [(zf 6 0 1,[]),(zd 7 1 6,[]),(z1 8 172 7,[]),(zf 9 1 1,[0,1,2]),(zd 10 1 9,[0,1,2]),(z1 11 172 10,[]),(⟨.l 12,.eo 28 2 1 [.iV (0)] [(0,1,(.l 8)),(1,1,(.l 11))],none⟩,[]),(z1 13 90 12,[]),(zw 4 13,[])]) (zR [zm 14 4,zc 15 .neq 14 0] (.cond (.l 15) (zR [⟨.l 16,.build [.iV (0),.ab,.iV (0),.ab,.iV (0),.ab,.iV (0),.ab] [],none⟩,zm 17 4,zs 8 2 16,zw 3 17] (.ret)) (.skip)))) (.seq (.draw [(zf 18 0 1,[]),(zd 19 1 18,[]),(z1 20 165 19,[]),(zf 21 1 1,[0,1,2]),(zd 22 1 21,[0,1,2]),(z1 23 165 22,[]),(⟨.l 24,.build [.iV (0),.ab,.iV (0),.ab,.iV (0),.ab,.iV (0),.ab] [(0,4,(.l 20)),(4,4,(.l 23))],none⟩,[]),(⟨.p 5,.alloc 175 [.iV (0),.ab,.iV (0),.ab,.iV (0),.ab,.iV (0),.ab],none⟩,[0,1,2,3,4,5,6]),(zs 8 5 24,[])]) (.seq (.draw [(zt 25 8 5,[]),(zf 26 0 5,[0]),(zT 27 4 26,[0]),(zf 28 4 5,[0,1,2]),(zT 29 4 28,[0,1,2]),(z2 30 147 27 29,[0]),(zc 31 .gtr 30 0,[0]),(⟨.l 32,.call (kF 91) [(.l 31),(kI 11)],none⟩,[0]),(zf 33 0 5,[0,1,2,3,4,5,6,7]),(zT 34 4 33,[0,1,2,3,4,5,6,7]),(z1 35 173 34,[0]),(zc 36 .lss 35 0,[0]),(zn 37 36,[0]),(zg (zf 38 4 5) 37 false,[0]),(zg (zT 39 4 38) 37 false,[0]),(zg (z1 40 173 39) 37 false,[0]),(zg (zc 41 .leq 40 0) 37 false,[0]),(zP 42 37 41,[0]),(zn 43 42,[0]),(zg (zt 44 8 5) 43 false,[0]),(zg (z1 45 101 44) 43 false,[0]),(zP 46 43 45,[0]),(⟨.l 47,.call (kF 91) [(.l 46),(kI 3)],none⟩,[0]),(⟨.l 48,.eo 28 2 1 [.iV (0)] [(0,1,(.l 32)),(1,1,(.l 47))],none⟩,[0]),(z1 49 90 48,[0]),(zs 8 2 25,[]),(zw 3 49,[])]) (.ret))))
theorem NC:FT 107=some ⟨50,[0,1,2,3,4,5],[.cell 8 true (.p 2),.var (.p 3)],Fo⟩:=by kernel_rfl
def ND:ao:=zR [zi 1 0] (zR [⟨.l 6,.build [.str [],.iV (0),.str []] [(0,1,(.c (.str zD6))),(1,1,(kI 1))],none⟩,zm 7 0,z2 8 132 6 7,zn 5 8,ze 9 0 5,ze 10 1 5,⟨.l 3,.alloc 58 [.str [],.iV (0),.str []],none⟩,zS 3 3 9,zw 2 10] (zR [zm 11 2,zw 1 11] (.ret)))
theorem acO:FT 108=some ⟨12,[0,2,4],[.var (.p 1)],ND⟩:=by kernel_rfl
def NF:ao:=zR [zx 2 175 8 0,⟨.p 3,.alloc 58 [.str [],.iV (0),.str []],none⟩,zi 4 0] (zR [zf 9 4 2,zT 10 4 9,z1 11 174 10,z1 12 175 11,zn 8 12,ze 13 0 8,ze 14 1 8,zw 5 13,zn 7 14] (zR [zm 15 5,⟨.l 16,.build [.str [],.iV (0),.str []] [(0,1,(.c (.str zD6))),(1,1,(.l 15))],none⟩,zm 17 1,z2 18 132 16 17,ze 19 0 18,ze 20 1 18,zs 3 3 19,zw 4 20] (.ret)))
theorem acP:FT 109=some ⟨21,[0,1,2,4,5,6],[.cell 3 true (.p 3),.var (.p 4)],NF⟩:=by kernel_rfl
def Fp:ao:=.seq (zR [zm 5 2,zm 6 0,zl 7 6,zb 8 .lss 5 7] (.cond (.l 8) (.skip) (.exit 0))) (.seq (.block 1 (zR [zm 11 0,zm 12 2,za 13 1 11 12,zd 14 1 13,z1 15 104 14,zw 3 15] (zR [zm 16 3,zc 17 .neq 16 0] (.cond (.l 17) (zR [zm 18 3,zw 1 18] (.ret)) (.skip))))) (.region [zm 9 2,zc 10 .add 9 1,zw 2 10]))
def NG:ao:=zR [zi 1 0] (.seq (zR [zi 2 0] (.block 0 (.loop Fp))) (zR [zi 1 0] (.ret)))
theorem acQ:FT 110=some ⟨19,[0,2,3,4],[.var (.p 1)],NG⟩:=by kernel_rfl
def yG:ao:=.seq (zR [zm 22 5,zc 23 .geq 22 0] (.cond (.l 23) (.skip) (.exit 0))) (.seq (.block 1 (zR [zf 26 1 3,zd 27 1 26,zm 28 5,za 29 1 27 28,zd 30 1 29,zw 6 30] (.seq (zR [zf 31 0 3,zd 32 1 31] (.cond (.l 32) (.region [zm 33 6,⟨.l 34,.bin .sub (kI 0) (.l 33),none⟩,zw 6 34]) (.skip))) (.seq (zR [zm 35 4,zc 36 .gtr 35 9223372036,zn 37 36,zg (zm 38 4) 37 false,zg (zc 39 .lss 38 (-9223372036)) 37 false,zP 40 37 39,zn 41 40,zg (zm 42 4) 41 false,zg (zc 43 .eql 42 9223372036) 41 false,zg (zn 44 43) 41 false,zg (zm 45 6) 44 true,zg (zc 46 .gtr 45 854775807) 44 true,zg (zp 47 44 46) 41 false,zP 48 41 47,zn 49 48,zg (zm 50 4) 49 false,zg (zc 51 .eql 50 (-9223372036)) 49 false,zg (zn 52 51) 49 false,zg (zm 53 6) 52 true,zg (zc 54 .lss 53 (-854775808)) 52 true,zg (zp 55 52 54) 49 false,zP 56 49 55] (.cond (.l 56) (zR [zi 1 0,⟨.p 2,.mv (.c (.bool false)),none⟩] (.ret)) (.skip))) (.region [zm 57 4,zc 58 .mul 57 1000000000,zm 59 6,zb 60 .add 58 59,zw 4 60]))))) (.region [zm 24 5,zc 25 .sub 24 1,zw 5 25]))
def NH:ao:=zR [zi 1 0,⟨.p 2,.mv (.c (.bool false)),none⟩] (.seq (zR [zm 8 0,z1 9 68 8,zu 10 9,zn 11 10,zg (zm 12 0) 11 false,zg (zL 13 12) 11 false,zg (zc 14 .gtr 13 20) 11 false,zP 15 11 14] (.cond (.l 15) (zR [zi 1 0,⟨.p 2,.mv (.c (.bool false)),none⟩] (.ret)) (.skip))) (zR [zm 16 0,z1 17 178 16,⟨.p 3,.alloc 200 [.bool false,.ab],none⟩,zs 2 3 17] (zR [zi 4 0] (.seq (zR [zf 18 1 3,zd 19 1 18,zl 20 19,zc 21 .sub 20 1,zw 5 21] (.block 0 (.loop yG))) (zR [zm 61 4,zw 1 61,⟨.p 2,.mv (.c (.bool true)),none⟩] (.ret))))))
theorem acR:FT 112=some ⟨62,[0,2,3,4,5,6,7],[.var (.p 1),.var (.p 2)],NH⟩:=by kernel_rfl
def NI:ao:=zR [zx 1 173 4 0,⟨.p 2,.alloc 171 [.iV (0),.ab],none⟩] (zR [zt 3 4 1,z1 4 148 3,z1 5 231 4,z1 6 201 5,zs 2 2 6] (.ret))
theorem acS:FT 174=some ⟨7,[0,1,2],[.cell 2 true (.p 2)],NI⟩:=by kernel_rfl
def NJ:ao:=zR [zx 1 171 2 0,zi 2 0,⟨.p 3,.mv (.c (.bool false)),none⟩] (.seq (.draw [(zf 4 0 1,[]),(zd 5 1 4,[]),(zf 6 1 1,[0,1]),(zd 7 1 6,[0,1]),(⟨.l 8,.eq false (.ref .slice) (.l 7) (.c (.ab)),none⟩,[0,1]),(zw 2 5,[2,3,4]),(zw 3 8,[])]) (.ret))
theorem acT:FT 175=some ⟨9,[0,1,2,3],[.var (.p 2),.var (.p 3)],NJ⟩:=by kernel_rfl
end Go.Ab.Ch5.N

/-
  Own work: marks of chapter 1: the contracts of the checks, of the order and of rounding.
-/
namespace Go.Ab.Ch5.N.K
variable {inv:fg} {F:FuncId->Option dh}
abbrev mh:List UInt8:=[110,111,110,101]
abbrev dY:List UInt8:=[116,105,109,101]
abbrev kT:List UInt8:=[108,101,110,103,116,104]
abbrev pf:List UInt8:=[112,111,105,110,116,115]
abbrev ie:List UInt8:=[101,120,97,99,116]
abbrev jB:List UInt8:=[104,117,110,100,114,101,100,116,104,115]
abbrev jC:List UInt8:=[116,101,110,116,104,115]
abbrev jD:List UInt8:=[99,101,110,116,105,109,101,116,114,101,115]
abbrev fx (k:List UInt8)(v:Int)(r:List UInt8):AV:=.agg [.str k,.iV v,.str r]
def indexOf (x:List UInt8):List (List UInt8)->Nat->Int
 | [],_=>-1
 | a::l,i=>if x=a then i else indexOf x l (i+1)
theorem acU {x:List UInt8}{l:List (List UInt8)}{i:Nat}(h:i<l.length):indexOf x (l.drop i) i=if x=l[i]! then (i:Int) else indexOf x (l.drop (i+1)) (i+1):=by
 rw[b7 h,getElem!_pos l i h,indexOf]
theorem NK {x:List UInt8}:∀(l:List (List UInt8)) (i:Nat),decide (0<=indexOf x l i)=decide (x∈l)
 | [],i=>by simp[indexOf]
 | a::l,i=>by
  rw[indexOf];split
  . rename_i h;subst h;simp
  . rename_i h;rw[NK l (i+1)];simp[h]
theorem NL {T:List (Nat×Spec)}(l:List (List UInt8))(x:List UInt8)(cap:Option Nat)(hl:l.length<4611686018427387904)(hp:ae)(df:List Nat){Q:Ex->aw->Prop}:∀(r i:Nat),i+r=l.length->∀(a2 a3:AV) (lo:List (Nat×AV)) (wr:List Nat),
 (indexOf x (l.drop i) i = -1->∀a3 lo wr,Q (.exit 0) ⟨⟨[.vs (strs l) l.length cap,.str x,a2,a3,.iV l.length,.iV l.length],lo,hp,df⟩,wr⟩) ->
 (∀a3 a5 lo wr,Q .ret ⟨⟨[.vs (strs l) l.length cap,.str x,.iV (indexOf x (l.drop i) i),a3,.iV l.length,a5],lo,hp,df⟩,wr⟩) ->
 W (fH T inv F) (.loop yr) ⟨⟨[.vs (strs l) l.length cap,.str x,a2,a3,.iV l.length,.iV i],lo,hp,df⟩,wr⟩ Q
 | 0,i,hi,a2,a3,lo,wr,h1,h2=>by
  obtain rfl:i=l.length:=by omega
  refine W.loop ?_;unfold yr;repeat' first|apply aaK|apply aa|apply aaI|apply aaC|apply acu|apply abZ|apply acV|apply acn|apply aP|apply bh|apply bc|apply bH|apply bk|(apply cB;rfl)|apply bJ|apply cz|apply bF|apply cH|(apply ack;rfl)|(apply acj;rfl)|(apply aeX;rfl;all_goals intro _)|(apply acE;rfl;rfl)|(apply adw;rfl;rfl)|(apply adz;rfl;rfl;omega)|(apply afb;rfl;rfl;omega)|(apply afn;rfl;rfl;omega)|(apply afo;rfl;exact fun _=>rfl;(first|omega|(simp only[bN];omega)|(simp;omega));decide;rfl;case ia=>infer_instance)|(apply agP;rfl;(first|rfl|assumption|exact cC|(apply cW;assumption)|(apply di;first|assumption|(simp only[nT];assumption)));exact fun _=>rfl;(first|omega|(simp only[bN];omega)|(simp;omega));decide;rfl;case ia=>infer_instance)|(apply aeT;rfl;rfl;all_goals first|(intro h;exact absurd h ak)|(intro h;exact absurd rfl h)|(intro h;contradiction)|intro _)|(apply acH;rfl;rfl;rfl)|(apply acv;rfl;rfl;rfl)|(apply aeS;rfl;rfl;rfl)|(apply abx;rfl;rfl)|(apply abO;rfl;rfl)|(intro _;omega)|intro _
  exact h1 (by simp[indexOf]) _ _ _
 | r+1,i,hi,a2,a3,lo,wr,h1,h2=>by
  have e:=acU (x:=x) (l:=l) (i:=(i:Int).toNat) ac;rw[be]at e;refine W.loop ?_;unfold yr;repeat' first|apply aaK|apply aa|apply aaI|apply aaC|apply acu|apply abZ|apply acV|apply acn|apply aP|apply bh|apply bc|apply bH|apply bk|(apply cB;rfl)|apply bJ|apply cz|apply bF|apply cH|(apply ack;rfl)|(apply acj;rfl)|(apply aeX;rfl;all_goals intro _)|(apply acE;rfl;rfl)|(apply adw;rfl;rfl)|(apply adz;rfl;rfl;omega)|(apply afb;rfl;rfl;omega)|(apply afn;rfl;rfl;omega)|(apply afo;rfl;exact fun _=>rfl;(first|omega|(simp only[bN];omega)|(simp;omega));decide;rfl;case ia=>infer_instance)|(apply agP;rfl;(first|rfl|assumption|exact cC|(apply cW;assumption)|(apply di;first|assumption|(simp only[nT];assumption)));exact fun _=>rfl;(first|omega|(simp only[bN];omega)|(simp;omega));decide;rfl;case ia=>infer_instance)|(apply aeT;rfl;rfl;all_goals first|(intro h;exact absurd h ak)|(intro h;exact absurd rfl h)|(intro h;contradiction)|intro _)|(apply acH;rfl;rfl;rfl)|(apply acv;rfl;rfl;rfl)|(apply aeS;rfl;rfl;rfl)|(apply abx;rfl;rfl)|(apply abO;rfl;rfl)|(intro _;omega)|intro _
  . rename_i he;rw[be]at he;rw[if_pos he]at e;rw[e]at h2;exact h2 _ _ _ _
  . rename_i he;rw[be]at he;rw[if_neg he]at e;rw[e]at h1 h2;exact fV (NL l x cap hl hp df r (i+1) ac _ _ _ _ h1 h2)
theorem acW {T:List (Nat×Spec)}(hft:F=FT)(l:List (List UInt8))(x:List UInt8)(cap:Option Nat)(hl:l.length<4611686018427387904):bg (fH T inv F) 239 [.vs (strs l) l.length cap,.str x] [] ⟨.iV (indexOf x l 0),[],[]⟩:=by
 refine bU (show F 239=_ from by rw[hft];exact abX) am ?_;unfold MS;simp only[enter];repeat' first|apply aaK|apply aa|apply aaI|apply aaC|apply acu|apply abZ|apply acV|apply acn|apply aP|apply bh|apply bc|apply bH|apply bk|(apply cB;rfl)|apply bJ|apply cz|apply bF|apply cH|(apply ack;rfl)|(apply acj;rfl)|(apply aeX;rfl;all_goals intro _)|(apply abx;rfl;rfl)|(apply abO;rfl;rfl)
 refine NL l x cap hl _ _ l.length 0 ac _ _ _ _ (fun h a2 lo wr=>?_) (fun a2 a5 lo wr=>?_)
 . repeat' first|apply aaK|apply aa|apply aaI|apply aaC|apply acu|apply abZ|apply acV|apply acn|apply aP|apply bh|apply bc|apply bH|apply bk|(apply cB;rfl)|apply bJ|apply cz|apply bF|apply cH|(apply ack;rfl)|(apply acj;rfl)|(apply aeX;rfl;all_goals intro _)|(apply abx;rfl;rfl)|(apply abO;rfl;rfl)
   exact⟨.inr rfl,rfl,_,rfl,by rw[b9]at h;rw[h];rfl,rfl⟩
 . repeat' first|apply aaK|apply aa|apply aaI|apply aaC|apply acu|apply abZ|apply acV|apply acn|apply aP|apply bh|apply bc|apply bH|apply bk|(apply cB;rfl)|apply bJ|apply cz|apply bF|apply cH|(apply ack;rfl)|(apply acj;rfl)|(apply aeX;rfl;all_goals intro _)|(apply abx;rfl;rfl)|(apply abO;rfl;rfl)
   exact⟨.inr rfl,rfl,_,rfl,rfl,rfl⟩
def tG:Spec:=fun
 | [v,.str x],h=>match pR h v with
   | some l=>if l.length<4611686018427387904 then some ⟨.int .i64 (indexOf x l 0),h,[]⟩ else none
   | none=>none
 | _,_=>none
def yH:Spec:=fun
 | [v,.str x],h=>match pR h v with
   | some l=>if l.length<4611686018427387904 then some ⟨.bool (decide (x∈l)),h,[]⟩ else none
   | none=>none
 | _,_=>none
theorem acX {h:ae}{l:List (List UInt8)}{cap:Option Nat}:pR h (.vs (strs l) l.length cap)=some l:=by
 simp only[pR,rI,gJ,Hq,if_true]
theorem acY {T:List (Nat×Spec)}(hft:F=FT)(l:List (List UInt8))(x:List UInt8)(cap:Option Nat)(hl:l.length<4611686018427387904):bg (fH ((239,tG)::T) inv F) 185 [.vs (strs l) l.length cap,.str x] [] ⟨.bool (decide (x∈l)),[],[]⟩:=by
 have hi:∀h,(fH ((239,tG)::T) inv F).ext 239 [.vs (strs l) l.length cap,.str x] h=some ⟨.iV (indexOf x l 0),h,[]⟩:=fun h=>by
  show bE _ _ _ _=_;simp only[Ih,tG,acX,if_pos hl]
 refine bU (show F 185=_ from by rw[hft];exact abW) am ?_;unfold MR;simp only[enter];have hm:=NK (x:=x) l 0;repeat' first|apply aaK|apply aa|apply aaI|apply aaC|apply acu|apply abZ|apply acV|apply acn|apply aP|apply bh|apply bc|apply bH|apply bk|(apply cB;rfl)|apply bJ|apply cz|apply bF|apply cH|(apply ack;rfl)|(apply acj;rfl)|(apply aeX;rfl;all_goals intro _)|(apply aeY;rfl;rfl)|(apply acq;rfl;rfl;first|exact hi _)|(apply afe;rfl;rfl;rfl;all_goals first|(intro h;exact absurd h ak)|intro _)|(apply acq;rfl;rfl;rfl)|(apply abx;rfl;rfl)|(apply abO;rfl;rfl)|(intro _;omega)|intro _
 all_goals refine⟨.inr rfl,rfl,_,rfl,?_,rfl⟩
 all_goals rw[←hm]
 . rename_i h;rw[decide_eq_true h];rfl
 . rename_i h;rw[decide_eq_false ac];rfl
abbrev tH:List (List UInt8):=[[68,78,83],[68,78,70],[68,81],[78,77]]
def Fq:Spec:=fun
 | [.str x],h=>some ⟨.bool (decide (x∈tH)),h,[]⟩
 | _,_=>none
theorem acZ {T:List (Nat×Spec)}(hft:F=FT)(x:List UInt8):bg (fH ((185,yH)::T) inv F) 237 [.str x] [] ⟨.bool (decide (x∈tH)),[],[]⟩:=by
 refine bU (show F 237=_ from by rw[hft];exact abR) am ?_;unfold MM;simp only[enter];repeat' first|apply aaK|apply aa|apply aaI|apply aaC|apply acu|apply abZ|apply acV|apply acn|apply aP|apply bh|apply bc|apply bH|apply bk|(apply cB;rfl)|apply bJ|apply cz|apply bF|apply cH|(apply ack;rfl)|(apply acj;rfl)|(apply aeX;rfl;all_goals intro _)|(apply afe;rfl;rfl;rfl;all_goals first|(intro h;exact absurd h ak)|intro _)|(apply acq;rfl;rfl;rfl)|(apply acH;rfl;rfl;rfl)|(apply acv;rfl;rfl;rfl)|(apply aeS;rfl;rfl;rfl)|(apply abx;rfl;rfl)|(apply abO;rfl;rfl)
 all_goals (rename_i h;exact⟨.inr rfl,rfl,_,rfl,by rw[h];rfl,rfl⟩)
abbrev ada (N:Nat):AV:=.agg [.iV 1,.iV 863999999,.bool false,.map (N+1),.fn (.func 240) [] []]
abbrev adb (N:Nat):AV:=.agg [.iV 0,.iV 999999,.bool true,.map (N+2),.fn (.func 241) [] []]
abbrev ade (N:Nat):AV:=.agg [.iV 0,.iV 99999,.bool true,.map (N+3),.fn (.func 242) [] []]
abbrev NM (N:Nat):List cd:=[.map [(.str dY,ada N),(.str kT,adb N),(.str pf,ade N)],
 .map [(.str ie,.iV 1),(.str jB,.iV 100),(.str jC,.iV 1000)],.map [(.str ie,.iV 1),(.str jD,.iV 10)],.map [(.str ie,.iV 1)]]
def yI:Spec:=fun
 | [],h=>some ⟨.map h.length,h++(NM h.length).map some,[]⟩
 | _,_=>none
theorem adf {T:List (Nat×Spec)}(hft:F=FT):bg (fH T inv F) 186 [] [] ⟨.map 0,(NM 0).map some,[]⟩:=by
 refine bU (show F 186=_ from by rw[hft];exact abQ) am ?_;unfold ML;simp only[List.map_cons,List.map_nil,List.getElem?_nil,Option.getD_none];repeat' first|apply aaK|apply aa|apply aaI|apply aaC|apply acu|apply abZ|apply acV|apply acn|apply aP|apply bh|apply bc|apply bH|apply bk|(apply cB;rfl)|apply bJ|apply cz|apply bF|apply cH|(apply ack;rfl)|(apply acj;rfl)|(apply aeX;rfl;all_goals intro _)|(apply acH;rfl;rfl;rfl)|(apply acv;rfl;rfl;rfl)|(apply aeS;rfl;rfl;rfl)|(apply abx;rfl;rfl)|(apply abO;rfl;rfl)
 exact⟨.inr rfl,rfl,_,rfl,rfl,rfl⟩
def jU (k:List UInt8):Int:=if k=dY then 1 else 0
def cS (k:List UInt8):Int:=if k=dY then 863999999 else if k=kT then 999999 else 99999
def known (k:List UInt8):Prop:=k=dY\/k=kT\/k=pf
instance (k:List UInt8):Decidable (known k):=by unfold known;infer_instance
def dD (k:List UInt8)(v:Int)(r:List UInt8):Int:=
 if k=mh then (if r∉tH then 1 else if v≠0 then 3 else 0) else if ¬known k then 13 else if r≠[] then 1 else if v<jU k\/cS k<v then 3 else 0
theorem adg (k:List UInt8):k=mh\/k=dY\/k=kT\/k=pf\/(k≠mh/\¬known k):=by
 unfold known;by_cases h1:k=mh
 . exact .inl h1
 by_cases h2:k=dY
 . exact .inr (.inl h2)
 by_cases h3:k=kT
 . exact .inr (.inr (.inl h3))
 by_cases h4:k=pf
 . exact .inr (.inr (.inr (.inl h4)))
 exact .inr (.inr (.inr (.inr ⟨h1,by simp[h2,h3,h4]⟩)))
def adh:List (Nat×Spec):=[(186,yI),(237,Fq),(228,kL),(227,jg),(238,fun
 | [.int .i64 x,.int .i64 lo,.int .i64 hi],h=>some ⟨.bool (decide (x<lo) || decide (hi<x)),h,[]⟩
 | _,_=>none)]
theorem adi (hft:F=FT)(k:List UInt8)(v:Int)(r:List UInt8):bg (fH adh inv F) 184 [fx k v r] [] ⟨.iV (dD k v r),[],[]⟩:=by
 refine bU (show F 184=_ from by rw[hft];exact abP) am ?_;unfold MK;simp only[enter];rcases adg k with rfl|rfl|rfl|rfl|⟨h1,h2⟩
 . repeat' first|apply aaK|apply aa|apply aaI|apply aaC|apply acu|apply abZ|apply acV|apply acn|apply aP|apply bh|apply bc|apply bH|apply bk|(apply cB;rfl)|apply bJ|apply cz|apply bF|apply cH|(apply aeW;rfl)|apply adJ|apply adY|(apply afk;rfl)|(apply aff;rfl)|(apply afl;rfl)|(apply afg;rfl)|(apply afm;rfl)|(apply aez;rfl)|(apply aeu;rfl;rfl;(first|(simp only[nca];rfl)|rfl))|(apply aeV;rfl;(first|(simp only[nca];rfl)|rfl);(first|(simp only[nca];rfl)|rfl))|(apply afd;rfl)|(apply afx;rfl;rfl)|(apply afj;rfl;rfl;rfl;rfl;all_goals first|(intro h;exact absurd h ak)|intro _)|(apply adA;rfl;rfl;rfl;rfl)|(apply afi;rfl;rfl;rfl;rfl)|(apply ack;rfl)|(apply acj;rfl)|(apply aeX;rfl;all_goals intro _)|(apply adw;rfl;rfl)|(apply adH;rfl;rfl)|(apply aeT;rfl;rfl;all_goals first|(intro h;exact absurd h ak)|(intro h;exact absurd rfl h)|(intro h;contradiction)|intro _)|(apply aeZ;rfl;rfl;all_goals first|(intro h;exact absurd h ak)|(intro h;exact absurd rfl h)|(intro h;contradiction)|intro _)|(apply afe;rfl;rfl;rfl;all_goals first|(intro h;exact absurd h ak)|intro _)|(apply acq;rfl;rfl;rfl)|(apply acH;rfl;rfl;rfl)|(apply acv;rfl;rfl;rfl)|(apply aeS;rfl;rfl;rfl)|(apply abx;rfl;rfl)|(apply abO;rfl;rfl)|(intro _;omega)|intro _
   all_goals refine⟨.inr rfl,rfl,_,rfl,congrArg (AV.int .i64) ?_,rfl⟩
   all_goals (by_cases hr:r∈tH <;> simp_all [cM,dD])
 . repeat' first|apply aaK|apply aa|apply aaI|apply aaC|apply acu|apply abZ|apply acV|apply acn|apply aP|apply bh|apply bc|apply bH|apply bk|(apply cB;rfl)|apply bJ|apply cz|apply bF|apply cH|(apply aeW;rfl)|apply adJ|apply adY|(apply afk;rfl)|(apply aff;rfl)|(apply afl;rfl)|(apply afg;rfl)|(apply afm;rfl)|(apply aez;rfl)|(apply aeu;rfl;rfl;(first|(simp only[nca];rfl)|rfl))|(apply aeV;rfl;(first|(simp only[nca];rfl)|rfl);(first|(simp only[nca];rfl)|rfl))|(apply afd;rfl)|(apply afx;rfl;rfl)|(apply afj;rfl;rfl;rfl;rfl;all_goals first|(intro h;exact absurd h ak)|intro _)|(apply adA;rfl;rfl;rfl;rfl)|(apply afi;rfl;rfl;rfl;rfl)|(apply ack;rfl)|(apply acj;rfl)|(apply aeX;rfl;all_goals intro _)|(apply adw;rfl;rfl)|(apply adH;rfl;rfl)|(apply aeT;rfl;rfl;all_goals first|(intro h;exact absurd h ak)|(intro h;exact absurd rfl h)|(intro h;contradiction)|intro _)|(apply aeZ;rfl;rfl;all_goals first|(intro h;exact absurd h ak)|(intro h;exact absurd rfl h)|(intro h;contradiction)|intro _)|(apply afe;rfl;rfl;rfl;all_goals first|(intro h;exact absurd h ak)|intro _)|(apply acq;rfl;rfl;rfl)|(apply acH;rfl;rfl;rfl)|(apply acv;rfl;rfl;rfl)|(apply aeS;rfl;rfl;rfl)|(apply abx;rfl;rfl)|(apply abO;rfl;rfl)|(intro _;omega)|intro _
   all_goals refine⟨.inr rfl,rfl,_,rfl,congrArg (AV.int .i64) ?_,rfl⟩
   all_goals (by_cases hv:v<1\/863999999<v <;> simp_all [cM,dD,known,jU,cS] <;> omega)
 . repeat' first|apply aaK|apply aa|apply aaI|apply aaC|apply acu|apply abZ|apply acV|apply acn|apply aP|apply bh|apply bc|apply bH|apply bk|(apply cB;rfl)|apply bJ|apply cz|apply bF|apply cH|(apply aeW;rfl)|apply adJ|apply adY|(apply afk;rfl)|(apply aff;rfl)|(apply afl;rfl)|(apply afg;rfl)|(apply afm;rfl)|(apply aez;rfl)|(apply aeu;rfl;rfl;(first|(simp only[nca];rfl)|rfl))|(apply aeV;rfl;(first|(simp only[nca];rfl)|rfl);(first|(simp only[nca];rfl)|rfl))|(apply afd;rfl)|(apply afx;rfl;rfl)|(apply afj;rfl;rfl;rfl;rfl;all_goals first|(intro h;exact absurd h ak)|intro _)|(apply adA;rfl;rfl;rfl;rfl)|(apply afi;rfl;rfl;rfl;rfl)|(apply ack;rfl)|(apply acj;rfl)|(apply aeX;rfl;all_goals intro _)|(apply adw;rfl;rfl)|(apply adH;rfl;rfl)|(apply aeT;rfl;rfl;all_goals first|(intro h;exact absurd h ak)|(intro h;exact absurd rfl h)|(intro h;contradiction)|intro _)|(apply aeZ;rfl;rfl;all_goals first|(intro h;exact absurd h ak)|(intro h;exact absurd rfl h)|(intro h;contradiction)|intro _)|(apply afe;rfl;rfl;rfl;all_goals first|(intro h;exact absurd h ak)|intro _)|(apply acq;rfl;rfl;rfl)|(apply acH;rfl;rfl;rfl)|(apply acv;rfl;rfl;rfl)|(apply aeS;rfl;rfl;rfl)|(apply abx;rfl;rfl)|(apply abO;rfl;rfl)|(intro _;omega)|intro _
   all_goals refine⟨.inr rfl,rfl,_,rfl,congrArg (AV.int .i64) ?_,rfl⟩
   all_goals (by_cases hv:v<0\/999999<v <;> simp_all [cM,dD,known,jU,cS] <;> omega)
 . repeat' first|apply aaK|apply aa|apply aaI|apply aaC|apply acu|apply abZ|apply acV|apply acn|apply aP|apply bh|apply bc|apply bH|apply bk|(apply cB;rfl)|apply bJ|apply cz|apply bF|apply cH|(apply aeW;rfl)|apply adJ|apply adY|(apply afk;rfl)|(apply aff;rfl)|(apply afl;rfl)|(apply afg;rfl)|(apply afm;rfl)|(apply aez;rfl)|(apply aeu;rfl;rfl;(first|(simp only[nca];rfl)|rfl))|(apply aeV;rfl;(first|(simp only[nca];rfl)|rfl);(first|(simp only[nca];rfl)|rfl))|(apply afd;rfl)|(apply afx;rfl;rfl)|(apply afj;rfl;rfl;rfl;rfl;all_goals first|(intro h;exact absurd h ak)|intro _)|(apply adA;rfl;rfl;rfl;rfl)|(apply afi;rfl;rfl;rfl;rfl)|(apply ack;rfl)|(apply acj;rfl)|(apply aeX;rfl;all_goals intro _)|(apply adw;rfl;rfl)|(apply adH;rfl;rfl)|(apply aeT;rfl;rfl;all_goals first|(intro h;exact absurd h ak)|(intro h;exact absurd rfl h)|(intro h;contradiction)|intro _)|(apply aeZ;rfl;rfl;all_goals first|(intro h;exact absurd h ak)|(intro h;exact absurd rfl h)|(intro h;contradiction)|intro _)|(apply afe;rfl;rfl;rfl;all_goals first|(intro h;exact absurd h ak)|intro _)|(apply acq;rfl;rfl;rfl)|(apply acH;rfl;rfl;rfl)|(apply acv;rfl;rfl;rfl)|(apply aeS;rfl;rfl;rfl)|(apply abx;rfl;rfl)|(apply abO;rfl;rfl)|(intro _;omega)|intro _
   all_goals refine⟨.inr rfl,rfl,_,rfl,congrArg (AV.int .i64) ?_,rfl⟩
   all_goals (by_cases hv:v<0\/99999<v <;> simp_all [cM,dD,known,jU,cS] <;> omega)
 . simp only[known,not_or]at h2;have b1:(k == dY)=false:=beq_eq_false_iff_ne.2 h2.1;have b2:(k == kT)=false:=beq_eq_false_iff_ne.2 h2.2.1;have b3:(k == pf)=false:=beq_eq_false_iff_ne.2 h2.2.2;repeat' first|apply aaK|apply aa|apply aaI|apply aaC|apply acu|apply abZ|apply acV|apply acn|apply aP|apply bh|apply bc|apply bH|apply bk|(apply cB;rfl)|apply bJ|apply cz|apply bF|apply cH|(apply aeW;rfl)|apply adJ|apply adY|(apply afk;rfl)|(apply aff;rfl)|(apply afl;rfl)|(apply afg;rfl)|(apply afm;rfl)|(apply aez;rfl)|(apply aeu;rfl;rfl;(first|(simp only[nca];rfl)|rfl))|(apply aeV;rfl;(first|(simp only[nca];rfl)|rfl);(first|(simp only[nca];rfl)|rfl))|(apply afd;rfl)|(apply afx;rfl;rfl)|(apply afj;rfl;rfl;rfl;rfl;all_goals first|(intro h;exact absurd h ak)|intro _)|(apply adA;rfl;rfl;rfl;rfl)|(apply afi;rfl;rfl;rfl;rfl)|(apply ack;rfl)|(apply acj;rfl)|(apply aeX;rfl;all_goals intro _)|(apply adw;rfl;rfl)|(apply adH;rfl;rfl)|(apply afE;rfl;rfl;rfl;rfl;simp only[jc,kZ,b1,b2,b3])|(apply aeT;rfl;rfl;all_goals first|(intro h;exact absurd h ak)|(intro h;exact absurd rfl h)|(intro h;contradiction)|intro _)|(apply aeZ;rfl;rfl;all_goals first|(intro h;exact absurd h ak)|(intro h;exact absurd rfl h)|(intro h;contradiction)|intro _)|(apply afe;rfl;rfl;rfl;all_goals first|(intro h;exact absurd h ak)|intro _)|(apply acq;rfl;rfl;rfl)|(apply acH;rfl;rfl;rfl)|(apply acv;rfl;rfl;rfl)|(apply aeS;rfl;rfl;rfl)|(apply abx;rfl;rfl)|(apply abO;rfl;rfl)|(intro _;omega)|intro _
   all_goals refine⟨.inr rfl,rfl,_,rfl,congrArg (AV.int .i64) ?_,rfl⟩
   all_goals simp[cM,dD,known,h1,h2]
def Fs:Spec:=fun
 | [.agg [.str k,.int .i64 v,.str r]],h=>some ⟨.int .i64 (dD k v r),h,[]⟩
 | _,_=>none
theorem adj {T:List (Nat×Spec)}(hft:F=FT)(k:List UInt8):bg (fH T inv F) 177 [.str k] [] ⟨.iV (cS k),[],[]⟩:=by
 refine bU (show F 177=_ from by rw[hft];exact abT) am ?_;unfold MO;simp only[enter];repeat' first|apply aaK|apply aa|apply aaI|apply aaC|apply acu|apply abZ|apply acV|apply acn|apply aP|apply bh|apply bc|apply bH|apply bk|(apply cB;rfl)|apply bJ|apply cz|apply bF|apply cH|(apply ack;rfl)|(apply acj;rfl)|(apply aeX;rfl;all_goals intro _)|(apply adw;rfl;rfl)|(apply aeT;rfl;rfl;all_goals first|(intro h;exact absurd h ak)|(intro h;exact absurd rfl h)|(intro h;contradiction)|intro _)|(apply abx;rfl;rfl)|(apply abO;rfl;rfl)|(intro _;omega)|intro _
 all_goals exact⟨.inr rfl,rfl,_,rfl,by simp[aT,cS, *],rfl⟩
def stepOf (k c:List UInt8):Int:=
 if k=dY then (if c=ie then 1 else if c=jB then 100 else if c=jC then 1000 else 0)
 else if k=kT then (if c=ie then 1 else if c=jD then 10 else 0)
 else if k=pf then (if c=ie then 1 else 0) else 0
def dQ (k:List UInt8)(s v:Int):Int:=if k=dY then v+(s-1)-(v+(s-1))%s else v-v%s
def isClass (c:List UInt8):Prop:=c∈[ie,jB,jC,jD]
instance (c:List UInt8):Decidable (isClass c):=by unfold isClass;infer_instance
def cU (k:List UInt8)(v:Int)(r c:List UInt8):Int:=
 if dD k v r≠0 then dD k v r else if k=mh then (if isClass c then 0 else 13) else if stepOf k c=0 then 13 else if cS k<dQ k (stepOf k c) v then 4 else 0
def dF (k:List UInt8)(v:Int)(r c:List UInt8):List UInt8:=if cU k v r c≠0 then [] else k
def dG (k:List UInt8)(v:Int)(r c:List UInt8):List UInt8:=if cU k v r c≠0 then [] else r
def dH (k:List UInt8)(v:Int)(r c:List UInt8):Int:=if cU k v r c≠0 then 0 else if k=mh then v else dQ k (stepOf k c) v
abbrev mi (k:List UInt8)(v:Int)(r c:List UInt8):AV:=.ay [fx (dF k v r c) (dH k v r c) (dG k v r c),.iV (cU k v r c)]
theorem NN (c:List UInt8):c=ie\/c=jB\/c=jC\/c=jD\/(c≠ie/\c≠jB/\c≠jC/\c≠jD):=by
 by_cases h1:c=ie
 . exact .inl h1
 by_cases h2:c=jB
 . exact .inr (.inl h2)
 by_cases h3:c=jC
 . exact .inr (.inr (.inl h3))
 by_cases h4:c=jD
 . exact .inr (.inr (.inr (.inl h4)))
 exact .inr (.inr (.inr (.inr ⟨h1,h2,h3,h4⟩)))
theorem mf {k:List UInt8}{v:Int}{r:List UInt8}(h:dD k v r=0):(k=mh/\r∈tH/\v=0)\/(k≠mh/\known k/\r=[]/\jU k<=v/\v<=cS k):=by
 unfold dD at h;split at h
 . rename_i h1;split at h
   . cases h
   . rename_i h2;split at h
     . cases h
     . rename_i h3;exact .inl ⟨h1,bP.1 h2,bP.1 h3⟩
 . rename_i h1;split at h
   . cases h
   . rename_i h2;split at h
     . cases h
     . rename_i h3;split at h
       . cases h
       . rename_i h4;exact .inr ⟨h1,bP.1 h2,bP.1 h3,ac,ac⟩
def adk:List (Nat×Spec):=[(184,Fs),(185,yH),(186,yI)]
theorem adl (hft:F=FT)(k:List UInt8)(v:Int)(r c:List UInt8):bg (fH adk inv F) 132 [fx k v r,.str c] [] ⟨mi k v r c,[],[]⟩:=by
 refine bU (show F 132=_ from by rw[hft];exact abS) am ?_;unfold MN;simp only[enter];by_cases he:dD k v r=0
 . rcases mf he with ⟨rfl,hr,rfl⟩|⟨hk,hk2,rfl,hl,hm⟩
   . repeat' first|apply aaK|apply aa|apply aaI|apply aaC|apply acu|apply abZ|apply acV|apply acn|apply aP|apply bh|apply bc|apply bH|apply bk|(apply cB;rfl)|apply bJ|apply cz|apply bF|apply cH|(apply aeW;rfl)|apply adJ|apply adY|(apply afk;rfl)|(apply aff;rfl)|(apply afl;rfl)|(apply afg;rfl)|(apply afm;rfl)|(apply aez;rfl)|(apply aeu;rfl;rfl;(first|(simp only[nca];rfl)|rfl))|(apply aeV;rfl;(first|(simp only[nca];rfl)|rfl);(first|(simp only[nca];rfl)|rfl))|(apply afd;rfl)|(apply afx;rfl;rfl)|(apply afj;rfl;rfl;rfl;rfl;all_goals first|(intro h;exact absurd h ak)|intro _)|(apply adA;rfl;rfl;rfl;rfl)|(apply afi;rfl;rfl;rfl;rfl)|(apply ack;rfl)|(apply acj;rfl)|(apply aeX;rfl;all_goals intro _)|(apply acI;rfl;rfl)|(apply adw;rfl;rfl)|(apply adH;rfl;rfl)|(apply adz;rfl;rfl;omega)|(apply aeR;rfl;rfl;omega)|(apply afh;rfl;rfl;first|omega|(simp only[aL,aR,aY];omega)|(simp;omega))|(apply afB;rfl;rfl;omega;intro _ _)|(apply afG;rfl;rfl;omega;intro _ _)|(apply afw;rfl;rfl;omega)|(apply aeT;rfl;rfl;all_goals first|(intro h;exact absurd h ak)|(intro h;exact absurd rfl h)|(intro h;contradiction)|intro _)|(apply aeZ;rfl;rfl;all_goals first|(intro h;exact absurd h ak)|(intro h;exact absurd rfl h)|(intro h;contradiction)|intro _)|(apply afe;rfl;rfl;rfl;all_goals first|(intro h;exact absurd h ak)|intro _)|(apply acq;rfl;rfl;rfl)|(apply acH;rfl;rfl;rfl)|(apply acv;rfl;rfl;rfl)|(apply aeS;rfl;rfl;rfl)|(apply abx;rfl;rfl)|(apply abO;rfl;rfl)|(intro _;omega)|intro _
     all_goals refine⟨.inr rfl,rfl,_,rfl,?_,rfl⟩
     . rename_i h;have h':isClass c:=of_decide_eq_true h;simp[aT,dF,dG,dH,cU,he,h',overwrite]
     . rename_i h;have h':¬isClass c:=of_decide_eq_false h;simp[aT,dF,dG,dH,cU,he,h',overwrite]
   . rcases hk2 with rfl|rfl|rfl;all_goals simp only[jU,cS]at hl hm
     all_goals simp(decide:=true) at hl hm
     all_goals rcases NN c with rfl|rfl|rfl|rfl|⟨c1,c2,c3,c4⟩
     . repeat' first|apply aaK|apply aa|apply aaI|apply aaC|apply acu|apply abZ|apply acV|apply acn|apply aP|apply bh|apply bc|apply bH|apply bk|(apply cB;rfl)|apply bJ|apply cz|apply bF|apply cH|(apply aeW;rfl)|apply adJ|apply adY|(apply afk;rfl)|(apply aff;rfl)|(apply afl;rfl)|(apply afg;rfl)|(apply afm;rfl)|(apply aez;rfl)|(apply aeu;rfl;rfl;(first|(simp only[nca];rfl)|rfl))|(apply aeV;rfl;(first|(simp only[nca];rfl)|rfl);(first|(simp only[nca];rfl)|rfl))|(apply afd;rfl)|(apply afx;rfl;rfl)|(apply afj;rfl;rfl;rfl;rfl;all_goals first|(intro h;exact absurd h ak)|intro _)|(apply adA;rfl;rfl;rfl;rfl)|(apply afi;rfl;rfl;rfl;rfl)|(apply ack;rfl)|(apply acj;rfl)|(apply aeX;rfl;all_goals intro _)|(apply acI;rfl;rfl)|(apply adw;rfl;rfl)|(apply adH;rfl;rfl)|(apply adz;rfl;rfl;omega)|(apply aeR;rfl;rfl;omega)|(apply afh;rfl;rfl;first|omega|(simp only[aL,aR,aY];omega)|(simp;omega))|(apply afB;rfl;rfl;omega;intro _ _)|(apply afG;rfl;rfl;omega;intro _ _)|(apply afw;rfl;rfl;omega)|(apply afE;rfl;rfl;rfl;rfl;rfl)|(apply aeT;rfl;rfl;all_goals first|(intro h;exact absurd h ak)|(intro h;exact absurd rfl h)|(intro h;contradiction)|intro _)|(apply aeZ;rfl;rfl;all_goals first|(intro h;exact absurd h ak)|(intro h;exact absurd rfl h)|(intro h;contradiction)|intro _)|(apply afe;rfl;rfl;rfl;all_goals first|(intro h;exact absurd h ak)|intro _)|(apply acq;rfl;rfl;rfl)|(apply acH;rfl;rfl;rfl)|(apply acv;rfl;rfl;rfl)|(apply aeS;rfl;rfl;rfl)|(apply abx;rfl;rfl)|(apply abO;rfl;rfl)|(intro _;omega)|intro _
       all_goals refine⟨.inr rfl,rfl,_,rfl,?_,rfl⟩
       all_goals simp_all [aT,dF,dG,dH,cU,stepOf,dQ,cS,overwrite]
     . repeat' first|apply aaK|apply aa|apply aaI|apply aaC|apply acu|apply abZ|apply acV|apply acn|apply aP|apply bh|apply bc|apply bH|apply bk|(apply cB;rfl)|apply bJ|apply cz|apply bF|apply cH|(apply aeW;rfl)|apply adJ|apply adY|(apply afk;rfl)|(apply aff;rfl)|(apply afl;rfl)|(apply afg;rfl)|(apply afm;rfl)|(apply aez;rfl)|(apply aeu;rfl;rfl;(first|(simp only[nca];rfl)|rfl))|(apply aeV;rfl;(first|(simp only[nca];rfl)|rfl);(first|(simp only[nca];rfl)|rfl))|(apply afd;rfl)|(apply afx;rfl;rfl)|(apply afj;rfl;rfl;rfl;rfl;all_goals first|(intro h;exact absurd h ak)|intro _)|(apply adA;rfl;rfl;rfl;rfl)|(apply afi;rfl;rfl;rfl;rfl)|(apply ack;rfl)|(apply acj;rfl)|(apply aeX;rfl;all_goals intro _)|(apply acI;rfl;rfl)|(apply adw;rfl;rfl)|(apply adH;rfl;rfl)|(apply adz;rfl;rfl;omega)|(apply aeR;rfl;rfl;omega)|(apply afh;rfl;rfl;first|omega|(simp only[aL,aR,aY];omega)|(simp;omega))|(apply afB;rfl;rfl;omega;intro _ _)|(apply afG;rfl;rfl;omega;intro _ _)|(apply afw;rfl;rfl;omega)|(apply afE;rfl;rfl;rfl;rfl;rfl)|(apply aeT;rfl;rfl;all_goals first|(intro h;exact absurd h ak)|(intro h;exact absurd rfl h)|(intro h;contradiction)|intro _)|(apply aeZ;rfl;rfl;all_goals first|(intro h;exact absurd h ak)|(intro h;exact absurd rfl h)|(intro h;contradiction)|intro _)|(apply afe;rfl;rfl;rfl;all_goals first|(intro h;exact absurd h ak)|intro _)|(apply acq;rfl;rfl;rfl)|(apply acH;rfl;rfl;rfl)|(apply acv;rfl;rfl;rfl)|(apply aeS;rfl;rfl;rfl)|(apply abx;rfl;rfl)|(apply abO;rfl;rfl)|(intro _;omega)|intro _
       all_goals refine⟨.inr rfl,rfl,_,rfl,?_,rfl⟩
       all_goals simp_all [aT,dF,dG,dH,cU,stepOf,dQ,cS,overwrite]
     . repeat' first|apply aaK|apply aa|apply aaI|apply aaC|apply acu|apply abZ|apply acV|apply acn|apply aP|apply bh|apply bc|apply bH|apply bk|(apply cB;rfl)|apply bJ|apply cz|apply bF|apply cH|(apply aeW;rfl)|apply adJ|apply adY|(apply afk;rfl)|(apply aff;rfl)|(apply afl;rfl)|(apply afg;rfl)|(apply afm;rfl)|(apply aez;rfl)|(apply aeu;rfl;rfl;(first|(simp only[nca];rfl)|rfl))|(apply aeV;rfl;(first|(simp only[nca];rfl)|rfl);(first|(simp only[nca];rfl)|rfl))|(apply afd;rfl)|(apply afx;rfl;rfl)|(apply afj;rfl;rfl;rfl;rfl;all_goals first|(intro h;exact absurd h ak)|intro _)|(apply adA;rfl;rfl;rfl;rfl)|(apply afi;rfl;rfl;rfl;rfl)|(apply ack;rfl)|(apply acj;rfl)|(apply aeX;rfl;all_goals intro _)|(apply acI;rfl;rfl)|(apply adw;rfl;rfl)|(apply adH;rfl;rfl)|(apply adz;rfl;rfl;omega)|(apply aeR;rfl;rfl;omega)|(apply afh;rfl;rfl;first|omega|(simp only[aL,aR,aY];omega)|(simp;omega))|(apply afB;rfl;rfl;omega;intro _ _)|(apply afG;rfl;rfl;omega;intro _ _)|(apply afw;rfl;rfl;omega)|(apply afE;rfl;rfl;rfl;rfl;rfl)|(apply aeT;rfl;rfl;all_goals first|(intro h;exact absurd h ak)|(intro h;exact absurd rfl h)|(intro h;contradiction)|intro _)|(apply aeZ;rfl;rfl;all_goals first|(intro h;exact absurd h ak)|(intro h;exact absurd rfl h)|(intro h;contradiction)|intro _)|(apply afe;rfl;rfl;rfl;all_goals first|(intro h;exact absurd h ak)|intro _)|(apply acq;rfl;rfl;rfl)|(apply acH;rfl;rfl;rfl)|(apply acv;rfl;rfl;rfl)|(apply aeS;rfl;rfl;rfl)|(apply abx;rfl;rfl)|(apply abO;rfl;rfl)|(intro _;omega)|intro _
       all_goals refine⟨.inr rfl,rfl,_,rfl,?_,rfl⟩
       all_goals simp_all [aT,dF,dG,dH,cU,stepOf,dQ,cS,overwrite]
     . repeat' first|apply aaK|apply aa|apply aaI|apply aaC|apply acu|apply abZ|apply acV|apply acn|apply aP|apply bh|apply bc|apply bH|apply bk|(apply cB;rfl)|apply bJ|apply cz|apply bF|apply cH|(apply aeW;rfl)|apply adJ|apply adY|(apply afk;rfl)|(apply aff;rfl)|(apply afl;rfl)|(apply afg;rfl)|(apply afm;rfl)|(apply aez;rfl)|(apply aeu;rfl;rfl;(first|(simp only[nca];rfl)|rfl))|(apply aeV;rfl;(first|(simp only[nca];rfl)|rfl);(first|(simp only[nca];rfl)|rfl))|(apply afd;rfl)|(apply afx;rfl;rfl)|(apply afj;rfl;rfl;rfl;rfl;all_goals first|(intro h;exact absurd h ak)|intro _)|(apply adA;rfl;rfl;rfl;rfl)|(apply afi;rfl;rfl;rfl;rfl)|(apply ack;rfl)|(apply acj;rfl)|(apply aeX;rfl;all_goals intro _)|(apply acI;rfl;rfl)|(apply adw;rfl;rfl)|(apply adH;rfl;rfl)|(apply adz;rfl;rfl;omega)|(apply aeR;rfl;rfl;omega)|(apply afh;rfl;rfl;first|omega|(simp only[aL,aR,aY];omega)|(simp;omega))|(apply afB;rfl;rfl;omega;intro _ _)|(apply afG;rfl;rfl;omega;intro _ _)|(apply afw;rfl;rfl;omega)|(apply afE;rfl;rfl;rfl;rfl;rfl)|(apply aeT;rfl;rfl;all_goals first|(intro h;exact absurd h ak)|(intro h;exact absurd rfl h)|(intro h;contradiction)|intro _)|(apply aeZ;rfl;rfl;all_goals first|(intro h;exact absurd h ak)|(intro h;exact absurd rfl h)|(intro h;contradiction)|intro _)|(apply afe;rfl;rfl;rfl;all_goals first|(intro h;exact absurd h ak)|intro _)|(apply acq;rfl;rfl;rfl)|(apply acH;rfl;rfl;rfl)|(apply acv;rfl;rfl;rfl)|(apply aeS;rfl;rfl;rfl)|(apply abx;rfl;rfl)|(apply abO;rfl;rfl)|(intro _;omega)|intro _
       all_goals refine⟨.inr rfl,rfl,_,rfl,?_,rfl⟩
       all_goals simp_all [aT,dF,dG,dH,cU,stepOf,overwrite]
     . have b1:(c == ie)=false:=beq_eq_false_iff_ne.2 c1;have b2:(c == jB)=false:=beq_eq_false_iff_ne.2 c2;have b3:(c == jC)=false:=beq_eq_false_iff_ne.2 c3;have b4:(c == jD)=false:=beq_eq_false_iff_ne.2 c4;repeat' first|apply aaK|apply aa|apply aaI|apply aaC|apply acu|apply abZ|apply acV|apply acn|apply aP|apply bh|apply bc|apply bH|apply bk|(apply cB;rfl)|apply bJ|apply cz|apply bF|apply cH|(apply aeW;rfl)|apply adJ|apply adY|(apply afk;rfl)|(apply aff;rfl)|(apply afl;rfl)|(apply afg;rfl)|(apply afm;rfl)|(apply aez;rfl)|(apply aeu;rfl;rfl;(first|(simp only[nca];rfl)|rfl))|(apply aeV;rfl;(first|(simp only[nca];rfl)|rfl);(first|(simp only[nca];rfl)|rfl))|(apply afd;rfl)|(apply afx;rfl;rfl)|(apply afj;rfl;rfl;rfl;rfl;all_goals first|(intro h;exact absurd h ak)|intro _)|(apply adA;rfl;rfl;rfl;rfl)|(apply afi;rfl;rfl;rfl;rfl)|(apply ack;rfl)|(apply acj;rfl)|(apply aeX;rfl;all_goals intro _)|(apply acI;rfl;rfl)|(apply adw;rfl;rfl)|(apply adH;rfl;rfl)|(apply adz;rfl;rfl;omega)|(apply aeR;rfl;rfl;omega)|(apply afh;rfl;rfl;first|omega|(simp only[aL,aR,aY];omega)|(simp;omega))|(apply afB;rfl;rfl;omega;intro _ _)|(apply afG;rfl;rfl;omega;intro _ _)|(apply afw;rfl;rfl;omega)|(apply afE (es:=[(.str ie,.iV 1),(.str jB,.iV 100),(.str jC,.iV 1000)]);rfl;rfl;rfl;rfl;simp only[jc,kZ,b1,b2,b3])|(apply aeT;rfl;rfl;all_goals first|(intro h;exact absurd h ak)|(intro h;exact absurd rfl h)|(intro h;contradiction)|intro _)|(apply aeZ;rfl;rfl;all_goals first|(intro h;exact absurd h ak)|(intro h;exact absurd rfl h)|(intro h;contradiction)|intro _)|(apply afe;rfl;rfl;rfl;all_goals first|(intro h;exact absurd h ak)|intro _)|(apply acq;rfl;rfl;rfl)|(apply acH;rfl;rfl;rfl)|(apply acv;rfl;rfl;rfl)|(apply aeS;rfl;rfl;rfl)|(apply abx;rfl;rfl)|(apply abO;rfl;rfl)|(intro _;omega)|intro _
       all_goals refine⟨.inr rfl,rfl,_,rfl,?_,rfl⟩
       all_goals simp_all [aT,dF,dG,dH,cU,stepOf,overwrite]
     . repeat' first|apply aaK|apply aa|apply aaI|apply aaC|apply acu|apply abZ|apply acV|apply acn|apply aP|apply bh|apply bc|apply bH|apply bk|(apply cB;rfl)|apply bJ|apply cz|apply bF|apply cH|(apply aeW;rfl)|apply adJ|apply adY|(apply afk;rfl)|(apply aff;rfl)|(apply afl;rfl)|(apply afg;rfl)|(apply afm;rfl)|(apply aez;rfl)|(apply aeu;rfl;rfl;(first|(simp only[nca];rfl)|rfl))|(apply aeV;rfl;(first|(simp only[nca];rfl)|rfl);(first|(simp only[nca];rfl)|rfl))|(apply afd;rfl)|(apply afx;rfl;rfl)|(apply afj;rfl;rfl;rfl;rfl;all_goals first|(intro h;exact absurd h ak)|intro _)|(apply adA;rfl;rfl;rfl;rfl)|(apply afi;rfl;rfl;rfl;rfl)|(apply ack;rfl)|(apply acj;rfl)|(apply aeX;rfl;all_goals intro _)|(apply acI;rfl;rfl)|(apply adw;rfl;rfl)|(apply adH;rfl;rfl)|(apply adz;rfl;rfl;omega)|(apply aeR;rfl;rfl;omega)|(apply afh;rfl;rfl;first|omega|(simp only[aL,aR,aY];omega)|(simp;omega))|(apply afB;rfl;rfl;omega;intro _ _)|(apply afG;rfl;rfl;omega;intro _ _)|(apply afw;rfl;rfl;omega)|(apply afE;rfl;rfl;rfl;rfl;rfl)|(apply aeT;rfl;rfl;all_goals first|(intro h;exact absurd h ak)|(intro h;exact absurd rfl h)|(intro h;contradiction)|intro _)|(apply aeZ;rfl;rfl;all_goals first|(intro h;exact absurd h ak)|(intro h;exact absurd rfl h)|(intro h;contradiction)|intro _)|(apply afe;rfl;rfl;rfl;all_goals first|(intro h;exact absurd h ak)|intro _)|(apply acq;rfl;rfl;rfl)|(apply acH;rfl;rfl;rfl)|(apply acv;rfl;rfl;rfl)|(apply aeS;rfl;rfl;rfl)|(apply abx;rfl;rfl)|(apply abO;rfl;rfl)|(intro _;omega)|intro _
       all_goals refine⟨.inr rfl,rfl,_,rfl,?_,rfl⟩
       all_goals simp_all [aT,dF,dG,dH,cU,stepOf,dQ,cS,overwrite]
     . repeat' first|apply aaK|apply aa|apply aaI|apply aaC|apply acu|apply abZ|apply acV|apply acn|apply aP|apply bh|apply bc|apply bH|apply bk|(apply cB;rfl)|apply bJ|apply cz|apply bF|apply cH|(apply aeW;rfl)|apply adJ|apply adY|(apply afk;rfl)|(apply aff;rfl)|(apply afl;rfl)|(apply afg;rfl)|(apply afm;rfl)|(apply aez;rfl)|(apply aeu;rfl;rfl;(first|(simp only[nca];rfl)|rfl))|(apply aeV;rfl;(first|(simp only[nca];rfl)|rfl);(first|(simp only[nca];rfl)|rfl))|(apply afd;rfl)|(apply afx;rfl;rfl)|(apply afj;rfl;rfl;rfl;rfl;all_goals first|(intro h;exact absurd h ak)|intro _)|(apply adA;rfl;rfl;rfl;rfl)|(apply afi;rfl;rfl;rfl;rfl)|(apply ack;rfl)|(apply acj;rfl)|(apply aeX;rfl;all_goals intro _)|(apply acI;rfl;rfl)|(apply adw;rfl;rfl)|(apply adH;rfl;rfl)|(apply adz;rfl;rfl;omega)|(apply aeR;rfl;rfl;omega)|(apply afh;rfl;rfl;first|omega|(simp only[aL,aR,aY];omega)|(simp;omega))|(apply afB;rfl;rfl;omega;intro _ _)|(apply afG;rfl;rfl;omega;intro _ _)|(apply afw;rfl;rfl;omega)|(apply afE;rfl;rfl;rfl;rfl;rfl)|(apply aeT;rfl;rfl;all_goals first|(intro h;exact absurd h ak)|(intro h;exact absurd rfl h)|(intro h;contradiction)|intro _)|(apply aeZ;rfl;rfl;all_goals first|(intro h;exact absurd h ak)|(intro h;exact absurd rfl h)|(intro h;contradiction)|intro _)|(apply afe;rfl;rfl;rfl;all_goals first|(intro h;exact absurd h ak)|intro _)|(apply acq;rfl;rfl;rfl)|(apply acH;rfl;rfl;rfl)|(apply acv;rfl;rfl;rfl)|(apply aeS;rfl;rfl;rfl)|(apply abx;rfl;rfl)|(apply abO;rfl;rfl)|(intro _;omega)|intro _
       all_goals refine⟨.inr rfl,rfl,_,rfl,?_,rfl⟩
       all_goals simp_all [aT,dF,dG,dH,cU,stepOf,overwrite]
     . repeat' first|apply aaK|apply aa|apply aaI|apply aaC|apply acu|apply abZ|apply acV|apply acn|apply aP|apply bh|apply bc|apply bH|apply bk|(apply cB;rfl)|apply bJ|apply cz|apply bF|apply cH|(apply aeW;rfl)|apply adJ|apply adY|(apply afk;rfl)|(apply aff;rfl)|(apply afl;rfl)|(apply afg;rfl)|(apply afm;rfl)|(apply aez;rfl)|(apply aeu;rfl;rfl;(first|(simp only[nca];rfl)|rfl))|(apply aeV;rfl;(first|(simp only[nca];rfl)|rfl);(first|(simp only[nca];rfl)|rfl))|(apply afd;rfl)|(apply afx;rfl;rfl)|(apply afj;rfl;rfl;rfl;rfl;all_goals first|(intro h;exact absurd h ak)|intro _)|(apply adA;rfl;rfl;rfl;rfl)|(apply afi;rfl;rfl;rfl;rfl)|(apply ack;rfl)|(apply acj;rfl)|(apply aeX;rfl;all_goals intro _)|(apply acI;rfl;rfl)|(apply adw;rfl;rfl)|(apply adH;rfl;rfl)|(apply adz;rfl;rfl;omega)|(apply aeR;rfl;rfl;omega)|(apply afh;rfl;rfl;first|omega|(simp only[aL,aR,aY];omega)|(simp;omega))|(apply afB;rfl;rfl;omega;intro _ _)|(apply afG;rfl;rfl;omega;intro _ _)|(apply afw;rfl;rfl;omega)|(apply afE;rfl;rfl;rfl;rfl;rfl)|(apply aeT;rfl;rfl;all_goals first|(intro h;exact absurd h ak)|(intro h;exact absurd rfl h)|(intro h;contradiction)|intro _)|(apply aeZ;rfl;rfl;all_goals first|(intro h;exact absurd h ak)|(intro h;exact absurd rfl h)|(intro h;contradiction)|intro _)|(apply afe;rfl;rfl;rfl;all_goals first|(intro h;exact absurd h ak)|intro _)|(apply acq;rfl;rfl;rfl)|(apply acH;rfl;rfl;rfl)|(apply acv;rfl;rfl;rfl)|(apply aeS;rfl;rfl;rfl)|(apply abx;rfl;rfl)|(apply abO;rfl;rfl)|(intro _;omega)|intro _
       all_goals refine⟨.inr rfl,rfl,_,rfl,?_,rfl⟩
       all_goals simp_all [aT,dF,dG,dH,cU,stepOf,overwrite]
     . repeat' first|apply aaK|apply aa|apply aaI|apply aaC|apply acu|apply abZ|apply acV|apply acn|apply aP|apply bh|apply bc|apply bH|apply bk|(apply cB;rfl)|apply bJ|apply cz|apply bF|apply cH|(apply aeW;rfl)|apply adJ|apply adY|(apply afk;rfl)|(apply aff;rfl)|(apply afl;rfl)|(apply afg;rfl)|(apply afm;rfl)|(apply aez;rfl)|(apply aeu;rfl;rfl;(first|(simp only[nca];rfl)|rfl))|(apply aeV;rfl;(first|(simp only[nca];rfl)|rfl);(first|(simp only[nca];rfl)|rfl))|(apply afd;rfl)|(apply afx;rfl;rfl)|(apply afj;rfl;rfl;rfl;rfl;all_goals first|(intro h;exact absurd h ak)|intro _)|(apply adA;rfl;rfl;rfl;rfl)|(apply afi;rfl;rfl;rfl;rfl)|(apply ack;rfl)|(apply acj;rfl)|(apply aeX;rfl;all_goals intro _)|(apply acI;rfl;rfl)|(apply adw;rfl;rfl)|(apply adH;rfl;rfl)|(apply adz;rfl;rfl;omega)|(apply aeR;rfl;rfl;omega)|(apply afh;rfl;rfl;first|omega|(simp only[aL,aR,aY];omega)|(simp;omega))|(apply afB;rfl;rfl;omega;intro _ _)|(apply afG;rfl;rfl;omega;intro _ _)|(apply afw;rfl;rfl;omega)|(apply afE;rfl;rfl;rfl;rfl;rfl)|(apply aeT;rfl;rfl;all_goals first|(intro h;exact absurd h ak)|(intro h;exact absurd rfl h)|(intro h;contradiction)|intro _)|(apply aeZ;rfl;rfl;all_goals first|(intro h;exact absurd h ak)|(intro h;exact absurd rfl h)|(intro h;contradiction)|intro _)|(apply afe;rfl;rfl;rfl;all_goals first|(intro h;exact absurd h ak)|intro _)|(apply acq;rfl;rfl;rfl)|(apply acH;rfl;rfl;rfl)|(apply acv;rfl;rfl;rfl)|(apply aeS;rfl;rfl;rfl)|(apply abx;rfl;rfl)|(apply abO;rfl;rfl)|(intro _;omega)|intro _
       all_goals refine⟨.inr rfl,rfl,_,rfl,?_,rfl⟩
       all_goals simp_all [aT,dF,dG,dH,cU,stepOf,dQ,cS,overwrite]
     . have b1:(c == ie)=false:=beq_eq_false_iff_ne.2 c1;have b2:(c == jB)=false:=beq_eq_false_iff_ne.2 c2;have b3:(c == jC)=false:=beq_eq_false_iff_ne.2 c3;have b4:(c == jD)=false:=beq_eq_false_iff_ne.2 c4;repeat' first|apply aaK|apply aa|apply aaI|apply aaC|apply acu|apply abZ|apply acV|apply acn|apply aP|apply bh|apply bc|apply bH|apply bk|(apply cB;rfl)|apply bJ|apply cz|apply bF|apply cH|(apply aeW;rfl)|apply adJ|apply adY|(apply afk;rfl)|(apply aff;rfl)|(apply afl;rfl)|(apply afg;rfl)|(apply afm;rfl)|(apply aez;rfl)|(apply aeu;rfl;rfl;(first|(simp only[nca];rfl)|rfl))|(apply aeV;rfl;(first|(simp only[nca];rfl)|rfl);(first|(simp only[nca];rfl)|rfl))|(apply afd;rfl)|(apply afx;rfl;rfl)|(apply afj;rfl;rfl;rfl;rfl;all_goals first|(intro h;exact absurd h ak)|intro _)|(apply adA;rfl;rfl;rfl;rfl)|(apply afi;rfl;rfl;rfl;rfl)|(apply ack;rfl)|(apply acj;rfl)|(apply aeX;rfl;all_goals intro _)|(apply acI;rfl;rfl)|(apply adw;rfl;rfl)|(apply adH;rfl;rfl)|(apply adz;rfl;rfl;omega)|(apply aeR;rfl;rfl;omega)|(apply afh;rfl;rfl;first|omega|(simp only[aL,aR,aY];omega)|(simp;omega))|(apply afB;rfl;rfl;omega;intro _ _)|(apply afG;rfl;rfl;omega;intro _ _)|(apply afw;rfl;rfl;omega)|(apply afE (es:=[(.str ie,.iV 1),(.str jD,.iV 10)]);rfl;rfl;rfl;rfl;simp only[jc,kZ,b1,b4])|(apply aeT;rfl;rfl;all_goals first|(intro h;exact absurd h ak)|(intro h;exact absurd rfl h)|(intro h;contradiction)|intro _)|(apply aeZ;rfl;rfl;all_goals first|(intro h;exact absurd h ak)|(intro h;exact absurd rfl h)|(intro h;contradiction)|intro _)|(apply afe;rfl;rfl;rfl;all_goals first|(intro h;exact absurd h ak)|intro _)|(apply acq;rfl;rfl;rfl)|(apply acH;rfl;rfl;rfl)|(apply acv;rfl;rfl;rfl)|(apply aeS;rfl;rfl;rfl)|(apply abx;rfl;rfl)|(apply abO;rfl;rfl)|(intro _;omega)|intro _
       all_goals refine⟨.inr rfl,rfl,_,rfl,?_,rfl⟩
       all_goals simp_all [aT,dF,dG,dH,cU,stepOf,overwrite]
     . repeat' first|apply aaK|apply aa|apply aaI|apply aaC|apply acu|apply abZ|apply acV|apply acn|apply aP|apply bh|apply bc|apply bH|apply bk|(apply cB;rfl)|apply bJ|apply cz|apply bF|apply cH|(apply aeW;rfl)|apply adJ|apply adY|(apply afk;rfl)|(apply aff;rfl)|(apply afl;rfl)|(apply afg;rfl)|(apply afm;rfl)|(apply aez;rfl)|(apply aeu;rfl;rfl;(first|(simp only[nca];rfl)|rfl))|(apply aeV;rfl;(first|(simp only[nca];rfl)|rfl);(first|(simp only[nca];rfl)|rfl))|(apply afd;rfl)|(apply afx;rfl;rfl)|(apply afj;rfl;rfl;rfl;rfl;all_goals first|(intro h;exact absurd h ak)|intro _)|(apply adA;rfl;rfl;rfl;rfl)|(apply afi;rfl;rfl;rfl;rfl)|(apply ack;rfl)|(apply acj;rfl)|(apply aeX;rfl;all_goals intro _)|(apply acI;rfl;rfl)|(apply adw;rfl;rfl)|(apply adH;rfl;rfl)|(apply adz;rfl;rfl;omega)|(apply aeR;rfl;rfl;omega)|(apply afh;rfl;rfl;first|omega|(simp only[aL,aR,aY];omega)|(simp;omega))|(apply afB;rfl;rfl;omega;intro _ _)|(apply afG;rfl;rfl;omega;intro _ _)|(apply afw;rfl;rfl;omega)|(apply afE;rfl;rfl;rfl;rfl;rfl)|(apply aeT;rfl;rfl;all_goals first|(intro h;exact absurd h ak)|(intro h;exact absurd rfl h)|(intro h;contradiction)|intro _)|(apply aeZ;rfl;rfl;all_goals first|(intro h;exact absurd h ak)|(intro h;exact absurd rfl h)|(intro h;contradiction)|intro _)|(apply afe;rfl;rfl;rfl;all_goals first|(intro h;exact absurd h ak)|intro _)|(apply acq;rfl;rfl;rfl)|(apply acH;rfl;rfl;rfl)|(apply acv;rfl;rfl;rfl)|(apply aeS;rfl;rfl;rfl)|(apply abx;rfl;rfl)|(apply abO;rfl;rfl)|(intro _;omega)|intro _
       all_goals refine⟨.inr rfl,rfl,_,rfl,?_,rfl⟩
       all_goals simp_all [aT,dF,dG,dH,cU,stepOf,dQ,cS,overwrite]
     . repeat' first|apply aaK|apply aa|apply aaI|apply aaC|apply acu|apply abZ|apply acV|apply acn|apply aP|apply bh|apply bc|apply bH|apply bk|(apply cB;rfl)|apply bJ|apply cz|apply bF|apply cH|(apply aeW;rfl)|apply adJ|apply adY|(apply afk;rfl)|(apply aff;rfl)|(apply afl;rfl)|(apply afg;rfl)|(apply afm;rfl)|(apply aez;rfl)|(apply aeu;rfl;rfl;(first|(simp only[nca];rfl)|rfl))|(apply aeV;rfl;(first|(simp only[nca];rfl)|rfl);(first|(simp only[nca];rfl)|rfl))|(apply afd;rfl)|(apply afx;rfl;rfl)|(apply afj;rfl;rfl;rfl;rfl;all_goals first|(intro h;exact absurd h ak)|intro _)|(apply adA;rfl;rfl;rfl;rfl)|(apply afi;rfl;rfl;rfl;rfl)|(apply ack;rfl)|(apply acj;rfl)|(apply aeX;rfl;all_goals intro _)|(apply acI;rfl;rfl)|(apply adw;rfl;rfl)|(apply adH;rfl;rfl)|(apply adz;rfl;rfl;omega)|(apply aeR;rfl;rfl;omega)|(apply afh;rfl;rfl;first|omega|(simp only[aL,aR,aY];omega)|(simp;omega))|(apply afB;rfl;rfl;omega;intro _ _)|(apply afG;rfl;rfl;omega;intro _ _)|(apply afw;rfl;rfl;omega)|(apply afE;rfl;rfl;rfl;rfl;rfl)|(apply aeT;rfl;rfl;all_goals first|(intro h;exact absurd h ak)|(intro h;exact absurd rfl h)|(intro h;contradiction)|intro _)|(apply aeZ;rfl;rfl;all_goals first|(intro h;exact absurd h ak)|(intro h;exact absurd rfl h)|(intro h;contradiction)|intro _)|(apply afe;rfl;rfl;rfl;all_goals first|(intro h;exact absurd h ak)|intro _)|(apply acq;rfl;rfl;rfl)|(apply acH;rfl;rfl;rfl)|(apply acv;rfl;rfl;rfl)|(apply aeS;rfl;rfl;rfl)|(apply abx;rfl;rfl)|(apply abO;rfl;rfl)|(intro _;omega)|intro _
       all_goals refine⟨.inr rfl,rfl,_,rfl,?_,rfl⟩
       all_goals simp_all [aT,dF,dG,dH,cU,stepOf,overwrite]
     . repeat' first|apply aaK|apply aa|apply aaI|apply aaC|apply acu|apply abZ|apply acV|apply acn|apply aP|apply bh|apply bc|apply bH|apply bk|(apply cB;rfl)|apply bJ|apply cz|apply bF|apply cH|(apply aeW;rfl)|apply adJ|apply adY|(apply afk;rfl)|(apply aff;rfl)|(apply afl;rfl)|(apply afg;rfl)|(apply afm;rfl)|(apply aez;rfl)|(apply aeu;rfl;rfl;(first|(simp only[nca];rfl)|rfl))|(apply aeV;rfl;(first|(simp only[nca];rfl)|rfl);(first|(simp only[nca];rfl)|rfl))|(apply afd;rfl)|(apply afx;rfl;rfl)|(apply afj;rfl;rfl;rfl;rfl;all_goals first|(intro h;exact absurd h ak)|intro _)|(apply adA;rfl;rfl;rfl;rfl)|(apply afi;rfl;rfl;rfl;rfl)|(apply ack;rfl)|(apply acj;rfl)|(apply aeX;rfl;all_goals intro _)|(apply acI;rfl;rfl)|(apply adw;rfl;rfl)|(apply adH;rfl;rfl)|(apply adz;rfl;rfl;omega)|(apply aeR;rfl;rfl;omega)|(apply afh;rfl;rfl;first|omega|(simp only[aL,aR,aY];omega)|(simp;omega))|(apply afB;rfl;rfl;omega;intro _ _)|(apply afG;rfl;rfl;omega;intro _ _)|(apply afw;rfl;rfl;omega)|(apply afE;rfl;rfl;rfl;rfl;rfl)|(apply aeT;rfl;rfl;all_goals first|(intro h;exact absurd h ak)|(intro h;exact absurd rfl h)|(intro h;contradiction)|intro _)|(apply aeZ;rfl;rfl;all_goals first|(intro h;exact absurd h ak)|(intro h;exact absurd rfl h)|(intro h;contradiction)|intro _)|(apply afe;rfl;rfl;rfl;all_goals first|(intro h;exact absurd h ak)|intro _)|(apply acq;rfl;rfl;rfl)|(apply acH;rfl;rfl;rfl)|(apply acv;rfl;rfl;rfl)|(apply aeS;rfl;rfl;rfl)|(apply abx;rfl;rfl)|(apply abO;rfl;rfl)|(intro _;omega)|intro _
       all_goals refine⟨.inr rfl,rfl,_,rfl,?_,rfl⟩
       all_goals simp_all [aT,dF,dG,dH,cU,stepOf,overwrite]
     . repeat' first|apply aaK|apply aa|apply aaI|apply aaC|apply acu|apply abZ|apply acV|apply acn|apply aP|apply bh|apply bc|apply bH|apply bk|(apply cB;rfl)|apply bJ|apply cz|apply bF|apply cH|(apply aeW;rfl)|apply adJ|apply adY|(apply afk;rfl)|(apply aff;rfl)|(apply afl;rfl)|(apply afg;rfl)|(apply afm;rfl)|(apply aez;rfl)|(apply aeu;rfl;rfl;(first|(simp only[nca];rfl)|rfl))|(apply aeV;rfl;(first|(simp only[nca];rfl)|rfl);(first|(simp only[nca];rfl)|rfl))|(apply afd;rfl)|(apply afx;rfl;rfl)|(apply afj;rfl;rfl;rfl;rfl;all_goals first|(intro h;exact absurd h ak)|intro _)|(apply adA;rfl;rfl;rfl;rfl)|(apply afi;rfl;rfl;rfl;rfl)|(apply ack;rfl)|(apply acj;rfl)|(apply aeX;rfl;all_goals intro _)|(apply acI;rfl;rfl)|(apply adw;rfl;rfl)|(apply adH;rfl;rfl)|(apply adz;rfl;rfl;omega)|(apply aeR;rfl;rfl;omega)|(apply afh;rfl;rfl;first|omega|(simp only[aL,aR,aY];omega)|(simp;omega))|(apply afB;rfl;rfl;omega;intro _ _)|(apply afG;rfl;rfl;omega;intro _ _)|(apply afw;rfl;rfl;omega)|(apply afE;rfl;rfl;rfl;rfl;rfl)|(apply aeT;rfl;rfl;all_goals first|(intro h;exact absurd h ak)|(intro h;exact absurd rfl h)|(intro h;contradiction)|intro _)|(apply aeZ;rfl;rfl;all_goals first|(intro h;exact absurd h ak)|(intro h;exact absurd rfl h)|(intro h;contradiction)|intro _)|(apply afe;rfl;rfl;rfl;all_goals first|(intro h;exact absurd h ak)|intro _)|(apply acq;rfl;rfl;rfl)|(apply acH;rfl;rfl;rfl)|(apply acv;rfl;rfl;rfl)|(apply aeS;rfl;rfl;rfl)|(apply abx;rfl;rfl)|(apply abO;rfl;rfl)|(intro _;omega)|intro _
       all_goals refine⟨.inr rfl,rfl,_,rfl,?_,rfl⟩
       all_goals simp_all [aT,dF,dG,dH,cU,stepOf,overwrite]
     . have b1:(c == ie)=false:=beq_eq_false_iff_ne.2 c1;have b2:(c == jB)=false:=beq_eq_false_iff_ne.2 c2;have b3:(c == jC)=false:=beq_eq_false_iff_ne.2 c3;have b4:(c == jD)=false:=beq_eq_false_iff_ne.2 c4;repeat' first|apply aaK|apply aa|apply aaI|apply aaC|apply acu|apply abZ|apply acV|apply acn|apply aP|apply bh|apply bc|apply bH|apply bk|(apply cB;rfl)|apply bJ|apply cz|apply bF|apply cH|(apply aeW;rfl)|apply adJ|apply adY|(apply afk;rfl)|(apply aff;rfl)|(apply afl;rfl)|(apply afg;rfl)|(apply afm;rfl)|(apply aez;rfl)|(apply aeu;rfl;rfl;(first|(simp only[nca];rfl)|rfl))|(apply aeV;rfl;(first|(simp only[nca];rfl)|rfl);(first|(simp only[nca];rfl)|rfl))|(apply afd;rfl)|(apply afx;rfl;rfl)|(apply afj;rfl;rfl;rfl;rfl;all_goals first|(intro h;exact absurd h ak)|intro _)|(apply adA;rfl;rfl;rfl;rfl)|(apply afi;rfl;rfl;rfl;rfl)|(apply ack;rfl)|(apply acj;rfl)|(apply aeX;rfl;all_goals intro _)|(apply acI;rfl;rfl)|(apply adw;rfl;rfl)|(apply adH;rfl;rfl)|(apply adz;rfl;rfl;omega)|(apply aeR;rfl;rfl;omega)|(apply afh;rfl;rfl;first|omega|(simp only[aL,aR,aY];omega)|(simp;omega))|(apply afB;rfl;rfl;omega;intro _ _)|(apply afG;rfl;rfl;omega;intro _ _)|(apply afw;rfl;rfl;omega)|(apply afE (es:=[(.str ie,.iV 1)]);rfl;rfl;rfl;rfl;simp only[jc,kZ,b1])|(apply aeT;rfl;rfl;all_goals first|(intro h;exact absurd h ak)|(intro h;exact absurd rfl h)|(intro h;contradiction)|intro _)|(apply aeZ;rfl;rfl;all_goals first|(intro h;exact absurd h ak)|(intro h;exact absurd rfl h)|(intro h;contradiction)|intro _)|(apply afe;rfl;rfl;rfl;all_goals first|(intro h;exact absurd h ak)|intro _)|(apply acq;rfl;rfl;rfl)|(apply acH;rfl;rfl;rfl)|(apply acv;rfl;rfl;rfl)|(apply aeS;rfl;rfl;rfl)|(apply abx;rfl;rfl)|(apply abO;rfl;rfl)|(intro _;omega)|intro _
       all_goals refine⟨.inr rfl,rfl,_,rfl,?_,rfl⟩
       all_goals simp_all [aT,dF,dG,dH,cU,stepOf,overwrite]
 . repeat' first|apply aaK|apply aa|apply aaI|apply aaC|apply acu|apply abZ|apply acV|apply acn|apply aP|apply bh|apply bc|apply bH|apply bk|(apply cB;rfl)|apply bJ|apply cz|apply bF|apply cH|(apply aeW;rfl)|apply adJ|apply adY|(apply afk;rfl)|(apply aff;rfl)|(apply afl;rfl)|(apply afg;rfl)|(apply afm;rfl)|(apply aez;rfl)|(apply aeu;rfl;rfl;(first|(simp only[nca];rfl)|rfl))|(apply aeV;rfl;(first|(simp only[nca];rfl)|rfl);(first|(simp only[nca];rfl)|rfl))|(apply afd;rfl)|(apply afx;rfl;rfl)|(apply afj;rfl;rfl;rfl;rfl;all_goals first|(intro h;exact absurd h ak)|intro _)|(apply adA;rfl;rfl;rfl;rfl)|(apply afi;rfl;rfl;rfl;rfl)|(apply ack;rfl)|(apply acj;rfl)|(apply aeX;rfl;all_goals intro _)|(apply acI;rfl;rfl)|(apply adw;rfl;rfl)|(apply adH;rfl;rfl)|(apply adz;rfl;rfl;omega)|(apply aeR;rfl;rfl;omega)|(apply afh;rfl;rfl;first|omega|(simp only[aL,aR,aY];omega)|(simp;omega))|(apply afB;rfl;rfl;omega;intro _ _)|(apply afG;rfl;rfl;omega;intro _ _)|(apply afw;rfl;rfl;omega)|(apply aeT;rfl;rfl;all_goals first|(intro h;exact absurd h ak)|(intro h;exact absurd rfl h)|(intro h;contradiction)|intro _)|(apply aeZ;rfl;rfl;all_goals first|(intro h;exact absurd h ak)|(intro h;exact absurd rfl h)|(intro h;contradiction)|intro _)|(apply afe;rfl;rfl;rfl;all_goals first|(intro h;exact absurd h ak)|intro _)|(apply acq;rfl;rfl;rfl)|(apply acH;rfl;rfl;rfl)|(apply acv;rfl;rfl;rfl)|(apply aeS;rfl;rfl;rfl)|(apply abx;rfl;rfl)|(apply abO;rfl;rfl)|(intro _;omega)|intro _
   all_goals refine⟨.inr rfl,rfl,_,rfl,?_,rfl⟩
   all_goals simp_all [aT,dF,dG,dH,cU,overwrite]
end Go.Ab.Ch5.N.K

/-
  Own work: spans and official marks: what the program's functions compute.
-/
namespace Go.Ab.Ch5.N
open Go.Ab.bl
variable {M:az} {cap:Option Nat} {N:Nat}
theorem aN.word {v:AV}{z:Int}(h:aN v z)(hz : -9223372036854775808<z/\z<9223372036854775808):v = .agg [.iV z,.ab]:=by
 cases h with
 | small h=>rfl
 | @fQ σ z w hs ok nr hw hz'=>rcases hs with rfl|rfl <;> omega
theorem adm (hft:M.FT=FT)(z:Int):bg M 175 [.agg [.iV z,.ab]] [] ⟨.ay [.iV z,.bool true],[],[]⟩:=by
 refine bU (by rw[hft];exact acT) am ?_;unfold NJ;simp only[enter];repeat' first|apply aaK|apply aa|apply aaI|apply aaC|apply abZ|(apply aeW;rfl)|(apply acH;rfl;rfl;rfl)|(apply acv;rfl;rfl;rfl)|(apply abx;rfl;rfl)|(apply abO;rfl;rfl)
 all_goals exact⟨.inr rfl,rfl,_,rfl,rfl,rfl⟩
def ij (q:Rat):Int:=-((-q).num/((-q).den:Nat))
theorem adn (hft:M.FT=FT){v v1 v2 v3:AV}{q:Rat}(hv:dP v q)(q148:∀h,M.ext 148 [v] h=some ⟨v1,h,[]⟩)(q231:∀h,M.ext 231 [v1] h=some ⟨v2,h,[]⟩)(q201:∀h,M.ext 201 [v2] h=some ⟨v3,h,[]⟩){z:Int}(h3:aN v3 z):dj M 174 [v] v3:=by
 obtain⟨s1,w,s',w',rfl,h1,h2⟩:=hv;obtain⟨s3,w3,rfl,o3,t3,c3⟩:=h3.shape;refine dm (by rw[hft];exact acS) am ?_;unfold NI;simp only[enter];repeat' first|(apply afa;rfl;rfl;rfl;exact⟨rfl,ba _,by simp[eW,o3]⟩;rfl)|apply aaK|apply aa|apply aaI|apply aaC|apply abZ|(apply acq;rfl;rfl;first|exact q148 _|exact q231 _|exact q201 _)|(apply acH;rfl;rfl;rfl)|(apply acv;rfl;rfl;rfl)
 exact cI rfl rfl (h3.out)
structure Rd (v va vb:AV)(p q:Rat):Prop where
 ha:dP va p
 hb:dP vb q
 eq:∃s w s' w' t x t' x',va = .agg [.iV s,w,.iV s',w']/\vb = .agg [.iV t,x,.iV t',x']/\v = .agg [.iV s,w,.iV s',w',.iV t,x,.iV t',x']
theorem Rd.mk' {va vb:AV}{p q:Rat}(ha:dP va p)(hb:dP vb q):∃v,Rd v va vb p q:=by
 obtain⟨s,w,s',w',h1,_,_⟩:=id ha;obtain⟨t,x,t',x',h2,_,_⟩:=id hb;exact⟨_,ha,hb,s,w,s',w',t,x,t',x',h1,h2,rfl⟩
theorem Rd.shape {v va vb:AV}{p q:Rat}(h:Rd v va vb p q):∃s w s' w' t x t' x',va = .agg [.iV s,w,.iV s',w']/\vb = .agg [.iV t,x,.iV t',x']/\v = .agg [.iV s,w,.iV s',w',.iV t,x,.iV t',x'] /\
 (db w=true/\db w'=true/\db x=true/\db x'=true)/\(w.top=0/\w'.top=0/\x.top=0/\x'.top=0)/\(bR w=w/\bR w'=w'/\bR x=x/\bR x'=x'):=by
 obtain⟨ha,hb,s,w,s',w',t,x,t',x',rfl,rfl,rfl⟩:=h;obtain⟨_,_,_,_,e1,a1,a2⟩:=ha;obtain⟨_,_,_,_,e2,b1,b2⟩:=hb;simp only[AV.agg.injEq,List.cons.injEq,and_true]at e1 e2;obtain⟨i1,rfl,i2,rfl⟩:=e1;obtain⟨i3,rfl,i4,rfl⟩:=e2;cases i1;cases i2;cases i3;cases i4;obtain⟨o1,t1,c1⟩:=a1.one;obtain⟨o2,t2,c2⟩:=a2.one;obtain⟨o3,t3,c3⟩:=b1.one;obtain⟨o4,t4,c4⟩:=b2.one;exact⟨s,w,s',w',t,x,t',x',rfl,rfl,rfl,⟨o1,o2,o3,o4⟩,⟨t1,t2,t3,t4⟩,⟨c1,c2,c3,c4⟩⟩
theorem ado (hft:M.FT=FT){v va vb vm:AV}{p q:Rat}(hv:Rd v va vb p q){c:Int}(q143:∀h,M.ext 143 [.iV 863999999] h=some ⟨vm,h,[]⟩)(q147:∀h,M.ext 147 [vb,vm] h=some ⟨.iV c,h,[]⟩):bg M 101 [v] [] ⟨.bool (decide (0<c)),[],[]⟩:=by
 obtain⟨s,w,s',w',t,x,t',x',rfl,rfl,rfl,⟨o1,o2,o3,o4⟩,_,_⟩:=hv.shape;refine bU (by rw[hft];exact acN) am ?_;unfold NB;simp only[enter];by_cases h:0<c
 . rw[decide_eq_true h];repeat' first|(apply adA;rfl;rfl;(first|(simp only[nca];rfl)|rfl);first|exact q143 _|exact q147 _)|apply aaK|apply aa|apply aaI|apply aaC|apply abZ|apply adJ|apply adY|(apply aez;rfl)|(apply aeu;rfl;rfl;(first|(simp only[nca];rfl)|rfl))|(apply acI;rfl;rfl)|(apply acH;rfl;rfl;rfl)|(apply acv;rfl;rfl;rfl)|(apply abx;rfl;rfl)|(apply abO;rfl;rfl)|(intro _;omega)|intro _
   all_goals try omega
   all_goals exact⟨.inr rfl,rfl,_,rfl,rfl,rfl⟩
 . rw[decide_eq_false h];repeat' first|(apply adA;rfl;rfl;(first|(simp only[nca];rfl)|rfl);first|exact q143 _|exact q147 _)|apply aaK|apply aa|apply aaI|apply aaC|apply abZ|apply adJ|apply adY|(apply aez;rfl)|(apply aeu;rfl;rfl;(first|(simp only[nca];rfl)|rfl))|(apply acI;rfl;rfl)|(apply acH;rfl;rfl;rfl)|(apply acv;rfl;rfl;rfl)|(apply abx;rfl;rfl)|(apply abO;rfl;rfl)|(intro _;omega)|intro _
   all_goals try omega
   all_goals exact⟨.inr rfl,rfl,_,rfl,rfl,rfl⟩
def NO:AV:=.agg [.iV 0,.ab,.iV 0,.ab,.iV 0,.ab,.iV 0,.ab]
structure tI (M:az):Prop where
 ft:M.FT=FT
 nt:∀v h l,gO h v=some l->l.length<1000->M.ext 90 [v] h=some ⟨.iV (cM l),h,[]⟩
 Ft:∀t (e:Int) h,M.ext 91 [.bool t,.iV e] h=some ⟨.iV (if t then e else 0),h,[]⟩
theorem adp (C:tI M){a b:ax}{e1 e2 e:Int}(q1:∀h,M.ext 172 [.str a] h=some ⟨.iV e1,h,[]⟩)(q2:∀h,M.ext 172 [.str b] h=some ⟨.iV e2,h,[]⟩)(he:cM [e1,e2]=e)(h0:e≠0):bg M 107 [.agg [.str a,.str b]] [] ⟨.ay [NO,.iV e],[],[]⟩:=by
 have f:=fun v h hi=>C.nt v h [e1,e2] hi (by show 2<1000;decide)
 rw[he]at f;refine bU (by rw[C.ft];exact NC) am ?_;unfold Fo;simp only[enter];repeat' first|(apply adA;rfl;rfl;(first|(simp only[nca];rfl)|rfl);first|exact q1 _|exact q2 _|exact f _ _ rfl)|apply aaK|apply aa|apply aaI|apply aaC|apply abZ|apply aP|apply adJ|apply adY|(apply aez;rfl)|(apply aeu;rfl;rfl;(first|(simp only[nca];rfl)|rfl))|(apply afd;rfl)|(apply ack;rfl)|(apply adH;rfl;rfl)|(apply acH;rfl;rfl;rfl)|(apply acv;rfl;rfl;rfl)|(apply aeS;rfl;rfl;rfl)|(apply abx;rfl;rfl)|(apply abO;rfl;rfl)|(intro _;omega)|intro _
 all_goals try omega
 all_goals exact⟨.inr rfl,rfl,_,rfl,rfl,rfl⟩
def kV (c1 s1 s2:Int)(late:Bool):Int:=if 0<c1 then 11 else if s1<0\/s2<=0\/late=true then 3 else 0
theorem adq (C:tI M){a b:ax}{v va vb:AV}{p q:Rat}(hv:Rd v va vb p q){c1 s1 s2:Int}{late:Bool}(q1:∀h,M.ext 172 [.str a] h=some ⟨.iV 0,h,[]⟩)(q2:∀h,M.ext 172 [.str b] h=some ⟨.iV 0,h,[]⟩)(qa:∀h,M.ext 165 [.str a] h=some ⟨va,h,[]⟩)(qb:∀h,M.ext 165 [.str b] h=some ⟨vb,h,[]⟩)
 (q147:∀h,M.ext 147 [va,vb] h=some ⟨.iV c1,h,[]⟩) (tJ:∀h,M.ext 173 [va] h=some ⟨.iV s1,h,[]⟩) (t173:∀h,M.ext 173 [vb] h=some ⟨.iV s2,h,[]⟩) (q101:∀h,M.ext 101 [v] h=some ⟨.bool late,h,[]⟩):dj M 107 [.agg [.str a,.str b]] (.ay [v,.iV (kV c1 s1 s2 late)]):=by
 obtain⟨s,w,s',w',t,x,t',x',rfl,rfl,rfl,⟨o1,o2,o3,o4⟩,⟨t1,t2,t3,t4⟩,⟨k1,k2,k3,k4⟩⟩:=hv.shape;have f00:∀v h,gO h v=some [0,0]->M.ext 90 [v] h=some ⟨.iV 0,h,[]⟩:=fun v h hi=>C.nt v h _ hi ak
 have f10:∀v h,gO h v=some [11,0]->M.ext 90 [v] h=some ⟨.iV 11,h,[]⟩:=fun v h hi=>C.nt v h _ hi ak
 have f13:∀v h,gO h v=some [11,3]->M.ext 90 [v] h=some ⟨.iV 11,h,[]⟩:=fun v h hi=>C.nt v h _ hi ak
 have f03:∀v h,gO h v=some [0,3]->M.ext 90 [v] h=some ⟨.iV 3,h,[]⟩:=fun v h hi=>C.nt v h _ hi ak
 have tt:∀e h,M.ext 91 [.bool true,.iV e] h=some ⟨.iV e,h,[]⟩:=fun e h=>C.Ft true e h
 have tf:∀e h,M.ext 91 [.bool false,.iV e] h=some ⟨.iV 0,h,[]⟩:=fun e h=>C.Ft false e h
 have out:∀(e:Int) hh,fw (aT [.agg [.iV s,w,.iV s',w',.iV t,x,.iV t',x'],.iV e]) hh (.ay [.agg [.iV s,w,.iV s',w',.iV t,x,.iV t',x'],.iV e]):=fun e hh=>
  .same (by simp[aT,AV.top,bG,t1,t2,t3,t4]) (by simp[aT,bR,da,k1,k2,k3,k4])
 refine dm (by rw[C.ft];exact NC) am ?_;unfold Fo;simp only[enter];have fin:∀e hh,kV c1 s1 s2 late=e->fw (aT [.agg [.iV s,w,.iV s',w',.iV t,x,.iV t',x'],.iV e]) hh (.ay [.agg [.iV s,w,.iV s',w',.iV t,x,.iV t',x'],.iV (kV c1 s1 s2 late)]):=fun e hh he=>by
  rw[he];exact out e _
 by_cases h1:0<c1
 all_goals
 . by_cases h2:s1<0
   all_goals
   . by_cases h3:s2<=0
     all_goals
     . cases late;all_goals
       . repeat' first|(apply adA;rfl;rfl;(first|(simp only[nca];rfl)|rfl);first|exact q1 _|exact q2 _|exact qa _|exact qb _|exact q147 _|exact tJ _|exact t173 _|exact q101 _|exact tt _ _|exact tf _ _|exact f00 _ _ rfl|exact f10 _ _ rfl|exact f13 _ _ rfl|exact f03 _ _ rfl)|(apply afa;rfl;rfl;rfl;exact⟨rfl,ba _,by simp[overwrite,eW,o1,o2,o3,o4]⟩;rfl)|apply aaK|apply aa|apply aaI|apply aaC|apply abZ|apply acn|apply adJ|apply adY|(apply aff;rfl)|(apply afg;rfl)|(apply aez;rfl)|(apply aeu;rfl;rfl;(first|(simp only[nca];rfl)|rfl))|(apply aeV;rfl;(first|(simp only[nca];rfl)|rfl);(first|(simp only[nca];rfl)|rfl))|(apply afd;rfl)|(apply acj;rfl)|(apply acE;rfl;rfl)|(apply afK;rfl;rfl)|(apply acI;rfl;rfl)|(apply adH;rfl;rfl)|(apply acJ;rfl;rfl)|(apply adt;rfl;rfl)|(apply acH;rfl;rfl;rfl)|(apply acv;rfl;rfl;rfl)|(apply abx;rfl;rfl)|(apply abO;rfl;rfl)|(intro _;omega)|intro _
         all_goals try omega
         all_goals exact cI rfl rfl (fin _ _ (by simp[kV,h1,h2,h3]))
open K in
theorem adr (hft:M.FT=FT)(c:ax)(q132:∀h,M.ext 132 [fx dY 1 [],.str c] h=some ⟨mi dY 1 [] c,h,[]⟩):bg M 108 [.str c] [] ⟨.iV (cU dY 1 [] c),[],[]⟩:=by
 refine bU (by rw[hft];exact acO) am ?_;unfold ND;simp only[enter];repeat' first|apply aaK|apply aa|apply aaI|apply aaC|apply abZ|(apply acq;rfl;rfl;first|exact q132 _)|(apply acH;rfl;rfl;rfl)|(apply aeS;rfl;rfl;rfl)|(apply abx;rfl;rfl)|(apply abO;rfl;rfl)
 all_goals exact⟨.inr rfl,rfl,_,rfl,rfl,rfl⟩
open K in
theorem ads (hft:M.FT=FT){v va vb vc:AV}{p q:Rat}(hv:Rd v va vb p q){n:Int}{k r c:ax}{m e:Int}(q174:∀h,M.ext 174 [vb] h=some ⟨vc,h,[]⟩)(q175:∀h,M.ext 175 [vc] h=some ⟨.ay [.iV n,.bool true],h,[]⟩)(q132:∀h,M.ext 132 [fx dY n [],.str c] h=some ⟨.ay [fx k m r,.iV e],h,[]⟩):bg M 109 [v,.str c] [] ⟨.ay [fx k m r,.iV e],[],[]⟩:=by
 obtain⟨s,w,s',w',t,x,t',x',rfl,rfl,rfl,_,_,_⟩:=hv.shape;refine bU (by rw[hft];exact acP) am ?_;unfold NF;simp only[enter];repeat' first|apply aaK|apply aa|apply aaI|apply aaC|apply abZ|(apply acq;rfl;rfl;first|exact q174 _|exact q175 _|exact q132 _)|(apply acH;rfl;rfl;rfl)|(apply acv;rfl;rfl;rfl)|(apply aeS;rfl;rfl;rfl)|(apply abx;rfl;rfl)|(apply abO;rfl;rfl)
 all_goals exact⟨.inr rfl,rfl,_,rfl,rfl,rfl⟩
open K in
theorem NP (C:tI M){a b c:ax}{v:AV}{e1 e2 e:Int}(q107:∀h,M.ext 107 [.agg [.str a,.str b]] h=some ⟨.ay [v,.iV e1],h,[]⟩)(hv:∃s w s' w' t x t' x',v = .agg [.iV s,w,.iV s',w',.iV t,x,.iV t',x']/\(db w=true/\db w'=true/\db x=true/\db x'=true))(q108:∀h,M.ext 108 [.str c] h=some ⟨.iV e2,h,[]⟩)(he:cM [e1,e2]=e)(h0:e≠0):bg M 32 [.agg [.str a,.str b],.str c] [] ⟨.ay [fx [] 0 [],.iV e],[],[]⟩:=by
 have f:=fun v h hi=>C.nt v h [e1,e2] hi (by show 2<1000;decide)
 rw[he]at f;obtain⟨s,w,s',w',t,x,t',x',rfl,o1,o2,o3,o4⟩:=hv;refine bU (by rw[C.ft];exact Nw) am ?_;unfold Fk;simp only[enter];repeat' first|(apply afa;rfl;rfl;rfl;exact⟨rfl,ba _,rfl⟩;rfl)|(apply afa;rfl;rfl;rfl;exact⟨rfl,ba _,by simp[eW,o1,o2,o3,o4]⟩;rfl)|apply aaK|apply aa|apply aaI|apply aaC|apply abZ|apply aP|(apply ack;rfl)|(apply adH;rfl;rfl)|(apply acq;rfl;rfl;first|exact q107 _|exact q108 _|exact f _ _ rfl)|(apply acH;rfl;rfl;rfl)|(apply acv;rfl;rfl;rfl)|(apply abx;rfl;rfl)|(apply abO;rfl;rfl)|(intro _;omega)|intro _
 all_goals try omega
 all_goals exact⟨.inr rfl,rfl,_,rfl,rfl,rfl⟩
open K in
theorem w32 (C:tI M){a b c k r:ax}{v va vb:AV}{p q:Rat}{m e:Int}(hv:Rd v va vb p q)(q107:∀h,M.ext 107 [.agg [.str a,.str b]] h=some ⟨.ay [v,.iV 0],h,[]⟩)(q108:∀h,M.ext 108 [.str c] h=some ⟨.iV 0,h,[]⟩)(q109:∀h,M.ext 109 [v,.str c] h=some ⟨.ay [fx k m r,.iV e],h,[]⟩):bg M 32 [.agg [.str a,.str b],.str c] [] ⟨.ay [fx k m r,.iV e],[],[]⟩:=by
 have f00:∀v h,gO h v=some [0,0]->M.ext 90 [v] h=some ⟨.iV 0,h,[]⟩:=fun v h hi=>C.nt v h _ hi ak
 obtain⟨s,w,s',w',t,x,t',x',rfl,rfl,rfl,⟨o1,o2,o3,o4⟩,_,_⟩:=hv.shape;refine bU (by rw[C.ft];exact Nw) am ?_;unfold Fk;simp only[enter];repeat' first|(apply afa;rfl;rfl;rfl;exact⟨rfl,ba _,rfl⟩;rfl)|(apply afa;rfl;rfl;rfl;exact⟨rfl,ba _,by simp[eW,o1,o2,o3,o4]⟩;rfl)|apply aaK|apply aa|apply aaI|apply aaC|apply abZ|apply acn|(apply acj;rfl)|(apply adH;rfl;rfl)|(apply acq;rfl;rfl;first|exact q107 _|exact q108 _|exact q109 _|exact f00 _ _ rfl)|(apply acH;rfl;rfl;rfl)|(apply acv;rfl;rfl;rfl)|(apply abx;rfl;rfl)|(apply abO;rfl;rfl)|(intro _;omega)|intro _
 all_goals try omega
 all_goals exact⟨.inr rfl,rfl,_,rfl,rfl,rfl⟩
theorem adu (hft:M.FT=FT)(a b:ax){ea eb:Int}(qa:∀h,M.ext 104 [.str a] h=some ⟨.iV ea,h,[]⟩)(qb:∀h,M.ext 104 [.str b] h=some ⟨.iV eb,h,[]⟩):bg M 110 [.vs [.str a,.str b] 2 cap] [] ⟨.iV (if ea≠0 then ea else eb),[],[]⟩:=by
 refine bU (by rw[hft];exact acQ) am ?_;unfold NG;simp only[enter];by_cases h1:ea=0
 . rw[if_neg (fun h=>h h1)];subst h1;by_cases h2:eb=0
   all_goals
   . repeat' first|apply aaK|apply aa|apply aaI|apply aaC|apply acu|(apply abO;rfl;rfl)
     refine W.loop ?_;unfold Fp;repeat' first|apply aaK|apply aa|apply aaI|apply aaC|apply acu|apply acn|apply bc|(apply ack;rfl)|(apply acj;rfl)|(apply acE;rfl;rfl)|(apply adH;rfl;rfl)|(apply adz;rfl;rfl;omega)|(apply acq;rfl;rfl;first|exact qa _)|(apply afb;rfl;rfl;omega)|(apply acH;rfl;rfl;rfl)|(apply abx;rfl;rfl)|(apply abO;rfl;rfl)|(intro _;omega)|intro _
     all_goals try omega
     refine fV (W.loop ?_);repeat' first|apply aaK|apply aa|apply aaI|apply aaC|apply acu|apply abZ|apply acn|apply aP|apply bc|apply bH|apply cz|(apply ack;rfl)|(apply acj;rfl)|(apply acE;rfl;rfl)|(apply adH;rfl;rfl)|(apply adz;rfl;rfl;omega)|(apply acq;rfl;rfl;first|exact qb _)|(apply afb;rfl;rfl;omega)|(apply acH;rfl;rfl;rfl)|(apply abx;rfl;rfl)|(apply abO;rfl;rfl)|(intro _;omega)|intro _
     all_goals try omega
     all_goals first
      | exact⟨.inr rfl,rfl,_,rfl,rfl,rfl⟩
      | (
         refine fV (W.loop ?_);repeat' first|apply aaK|apply aa|apply aaI|apply aaC|apply abZ|apply acV|apply bh|apply bk|apply bJ|(apply acj;rfl)|(apply acE;rfl;rfl)|(apply abx;rfl;rfl)|(apply abO;rfl;rfl)|(intro _;omega)|intro _
         all_goals try omega
         all_goals exact⟨.inr rfl,rfl,_,rfl,by rw[h2];rfl,rfl⟩)
 . rw[if_pos h1];repeat' first|apply aaK|apply aa|apply aaI|apply aaC|apply acu|(apply abO;rfl;rfl)
   refine W.loop ?_;unfold Fp;repeat' first|apply aaK|apply aa|apply aaI|apply aaC|apply acu|apply abZ|apply acn|apply aP|apply bH|apply cz|(apply ack;rfl)|(apply acE;rfl;rfl)|(apply adH;rfl;rfl)|(apply acq;rfl;rfl;first|exact qa _)|(apply afb;rfl;rfl;omega)|(apply acH;rfl;rfl;rfl)|(apply abx;rfl;rfl)|(apply abO;rfl;rfl)|(intro _;omega)|intro _
   all_goals try omega
   all_goals exact⟨.inr rfl,rfl,_,rfl,rfl,rfl⟩
theorem adv (hft:M.FT=FT){a b:ax}{e:Int}(q110:∀v h,dx h v (.vs [.str a,.str b] 2 none)->M.ext 110 [v] h=some ⟨.iV e,h,[]⟩)(h0:e≠0):bg M 33 [.agg [.str a,.str b]] [] ⟨.iV e,[],[]⟩:=by
 refine bU (by rw[hft];exact Nx) am ?_;unfold Fl;simp only[enter];repeat' first|apply aaK|apply aa|apply aaI|apply aaC|apply abZ|apply aP|(apply ack;rfl)|(apply adH;rfl;rfl)|(apply acq;rfl;rfl;exact q110 _ _ (DG rfl rfl rfl))|(apply acH;rfl;rfl;rfl)|(apply acv;rfl;rfl;rfl)|(apply abx;rfl;rfl)|(apply abO;rfl;rfl)|(intro _;omega)|intro _
 all_goals try omega
 all_goals exact⟨.inr rfl,rfl,_,rfl,rfl,rfl⟩
theorem w33 (hft:M.FT=FT){a b m:ax}{c1 c2 s1 s2:Int}(q110:∀v h,dx h v (.vs [.str a,.str b] 2 none)->M.ext 110 [v] h=some ⟨.iV 0,h,[]⟩)(q48:∀h,M.ext 48 [.str a,.str b] h=some ⟨.iV c1,h,[]⟩)(mg:∀h,M.ext 105 [.str a] h=some ⟨.iV s1,h,[]⟩)(t105:∀h,M.ext 105 [.str b] h=some ⟨.iV s2,h,[]⟩)
 (q49:∀h,M.ext 49 [.iV 863999999] h=some ⟨.str m,h,[]⟩) (r48:∀h,M.ext 48 [.str b,.str m] h=some ⟨.iV c2,h,[]⟩):bg M 33 [.agg [.str a,.str b]] [] ⟨.iV (kV c1 s1 s2 (decide (0<c2))),[],[]⟩:=by
 refine bU (by rw[hft];exact Nx) am ?_;unfold Fl;simp only[enter];by_cases h1:0<c1
 . rw[show kV c1 s1 s2 (decide (0<c2))=11 by simp[kV,h1]];repeat' first|apply aaK|apply aa|apply aaI|apply aaC|apply abZ|apply acn|apply aP|(apply ack;rfl)|(apply acj;rfl)|(apply acI;rfl;rfl)|(apply adH;rfl;rfl)|(apply acq;rfl;rfl;exact q110 _ _ (DG rfl rfl rfl))|(apply acq;rfl;rfl;first|exact q48 _)|(apply acH;rfl;rfl;rfl)|(apply acv;rfl;rfl;rfl)|(apply abx;rfl;rfl)|(apply abO;rfl;rfl)|(intro _;omega)|intro _
   all_goals try omega
   all_goals exact⟨.inr rfl,rfl,_,rfl,rfl,rfl⟩
 . by_cases h2:s1<0
   all_goals
   . by_cases h3:s2<=0
     all_goals
     . by_cases h4:0<c2
       all_goals
       . simp only[kV,h1,h2,h3,h4,decide_true,decide_false,if_false,or_true,if_true,or_false,Bool.false_eq_true];repeat' first|(apply adA;rfl;rfl;(first|(simp only[nca];rfl)|rfl);first|exact mg _|exact t105 _|exact q49 _|exact r48 _)|apply aaK|apply aa|apply aaI|apply aaC|apply abZ|apply acn|apply aP|apply adJ|apply adY|(apply aff;rfl)|(apply afg;rfl)|(apply aez;rfl)|(apply aeu;rfl;rfl;(first|(simp only[nca];rfl)|rfl))|(apply ack;rfl)|(apply acj;rfl)|(apply acE;rfl;rfl)|(apply afK;rfl;rfl)|(apply acI;rfl;rfl)|(apply adH;rfl;rfl)|(apply acJ;rfl;rfl)|(apply adt;rfl;rfl)|(apply acq;rfl;rfl;exact q110 _ _ (DG rfl rfl rfl))|(apply acq;rfl;rfl;first|exact q48 _)|(apply acH;rfl;rfl;rfl)|(apply acv;rfl;rfl;rfl)|(apply abx;rfl;rfl)|(apply abO;rfl;rfl)|(intro _;omega)|intro _
         all_goals try omega
         all_goals exact⟨.inr rfl,rfl,_,rfl,rfl,rfl⟩
open K in
theorem w34 (hft:M.FT=FT)(c:ax)(q111:∀h,M.ext 111 [fx dY 1 [],.str c] h=some ⟨mi dY 1 [] c,h,[]⟩):bg M 34 [.str c] [] ⟨.iV (cU dY 1 [] c),[],[]⟩:=by
 refine bU (by rw[hft];exact acL) am ?_;unfold Ny;simp only[enter];repeat' first|apply aaK|apply aa|apply aaI|apply aaC|apply abZ|(apply acq;rfl;rfl;first|exact q111 _)|(apply acH;rfl;rfl;rfl)|(apply aeS;rfl;rfl;rfl)|(apply abx;rfl;rfl)|(apply abO;rfl;rfl)
 all_goals exact⟨.inr rfl,rfl,_,rfl,rfl,rfl⟩
theorem bZ.one {v:AV}{n:Int}(h:bZ v n)(h0:0<=n/\n<1000000000):n=0/\(v = .agg [.bool false,.ab]\/v = .agg [.bool false,.vs [] 0 none])\/n≠0/\v = .agg [.bool false,.vs [.iV n] 1 none]:=by
 obtain⟨neg,x,l,rfl,hx,ok,nr,hz,hn⟩:=h;have hw:=cK (b:=dB) ak ok;obtain rfl:neg=false:=by
  cases neg with
  | false=>rfl
  | true=>
   have:=(ib (b:=dB) ak ok nr).2 (hn rfl);rw[if_pos rfl]at hz;omega
 rw[if_neg ak]at hz;match l,ok,nr,hz,hx with
 | [],_,_,hz,hx=>
  refine .inl ⟨hz,?_⟩;rcases hx with rfl|⟨rfl,_⟩
  . exact .inr rfl
  . exact .inl rfl
 | [d],ok,nr,hz,hx=>
  have e:n=d:=by rw[hz];simp[WV]
  subst e;have hd:=(ib (b:=dB) ak ok nr).2 am;rw[←hz]at hd;refine .inr ⟨ac,?_⟩;rcases hx with rfl|⟨_,h⟩
  . rfl
  . cases h
 | d::e::l,ok,nr,hz,hx=>
  exfalso;have h1:1<=WV dB (e::l):=by
   have ok2:okW dB (e::l):=fun x hx=>ok x (List.mem_cons_of_mem _ hx)
   have nr2:aU (e::l):=by
    have:=(rV (l:=d::e::l) am).1 nr;exact(rV (l:=e::l) am).2 (by simpa using this)
   have:=(ib (b:=dB) ak ok2 nr2).2 am;omega
  have h2:=(ok d am).1;have h3:WV dB (d::e::l)=d+dB*WV dB (e::l):=rfl;have h4:dB=1000000000:=rfl;rw[h3]at hz;generalize WV dB (e::l)=W at *
  rw[h4]at hz;omega
theorem ady (hft:M.FT=FT){s:ax}{n:Int}{v:AV}(h0:0<=n/\n<1000000000)(hl:s.length<=20)(q68:∀h,M.ext 68 [.str s] h=some ⟨.bool true,h,[]⟩)(q178:∀h,M.ext 178 [.str s] h=some ⟨v,h,[]⟩)(hv:bZ v n):bg M 112 [.str s] [] ⟨.ay [.iV n,.bool true],[],[]⟩:=by
 refine bU (by rw[hft];exact acR) am ?_;unfold NH;simp only[enter];rcases hv.one h0 with ⟨rfl,rfl|rfl⟩|⟨hn,rfl⟩
 . repeat' first|apply aaK|apply aa|apply aaI|apply aaC|apply acu|apply acn|(apply acj;rfl)|(apply aew;rfl)|(apply acI;rfl;rfl)|(apply adt;rfl;rfl)|(apply aeR;rfl;rfl;omega)|(apply acq;rfl;rfl;first|exact q68 _|exact q178 _)|(apply acH;rfl;rfl;rfl)|(apply acv;rfl;rfl;rfl)|(apply aeS;rfl;rfl;rfl)|(apply abx;rfl;rfl)|(apply abO;rfl;rfl)|(intro _;omega)|intro _
   all_goals try omega
   refine W.loop ?_;unfold yG;repeat' first|apply aaK|apply aa|apply aaI|apply aaC|apply abZ|apply acV|apply bh|apply bk|apply bJ|(apply acj;rfl)|(apply aeY;rfl;rfl)|(apply abx;rfl;rfl)|(apply abO;rfl;rfl)|(intro _;omega)|intro _
   all_goals try omega
   all_goals exact⟨.inr rfl,rfl,_,rfl,rfl,rfl⟩
 . repeat' first|apply aaK|apply aa|apply aaI|apply aaC|apply acu|apply acn|(apply acj;rfl)|(apply aew;rfl)|(apply acI;rfl;rfl)|(apply adt;rfl;rfl)|(apply aeR;rfl;rfl;omega)|(apply acq;rfl;rfl;first|exact q68 _|exact q178 _)|(apply acH;rfl;rfl;rfl)|(apply acv;rfl;rfl;rfl)|(apply aeS;rfl;rfl;rfl)|(apply abx;rfl;rfl)|(apply abO;rfl;rfl)|(intro _;omega)|intro _
   all_goals try omega
   refine W.loop ?_;unfold yG;repeat' first|apply aaK|apply aa|apply aaI|apply aaC|apply abZ|apply acV|apply bh|apply bk|apply bJ|(apply acj;rfl)|(apply aeY;rfl;rfl)|(apply abx;rfl;rfl)|(apply abO;rfl;rfl)|(intro _;omega)|intro _
   all_goals try omega
   all_goals exact⟨.inr rfl,rfl,_,rfl,rfl,rfl⟩
 . repeat' first|apply aaK|apply aa|apply aaI|apply aaC|apply acu|apply acn|(apply acj;rfl)|(apply aew;rfl)|(apply acI;rfl;rfl)|(apply adt;rfl;rfl)|(apply aeR;rfl;rfl;omega)|(apply acq;rfl;rfl;first|exact q68 _|exact q178 _)|(apply acH;rfl;rfl;rfl)|(apply acv;rfl;rfl;rfl)|(apply aeS;rfl;rfl;rfl)|(apply abx;rfl;rfl)|(apply abO;rfl;rfl)|(intro _;omega)|intro _
   all_goals try omega
   refine W.loop ?_;unfold yG;repeat' first|apply aaK|apply aa|apply aaI|apply aaC|apply acu|apply acn|apply bc|(apply ack;rfl)|(apply acj;rfl)|(apply aew;rfl)|(apply aeU;rfl)|(apply acE;rfl;rfl)|(apply acI;rfl;rfl)|(apply aeY;rfl;rfl)|(apply adw;rfl;rfl)|(apply adt;rfl;rfl)|(apply adz;rfl;rfl;omega)|(apply aeR;rfl;rfl;omega)|(apply afr;rfl;rfl;omega)|(apply afb;rfl;rfl;omega)|(apply acH;rfl;rfl;rfl)|(apply abx;rfl;rfl)|(apply abO;rfl;rfl)|(intro _;omega)|intro _
   all_goals try omega
   refine fV (W.loop ?_);repeat' first|apply aaK|apply aa|apply aaI|apply aaC|apply abZ|apply acV|apply bh|apply bk|apply bJ|(apply acj;rfl)|(apply aeY;rfl;rfl)|(apply abx;rfl;rfl)|(apply abO;rfl;rfl)|(intro _;omega)|intro _
   all_goals try omega
   all_goals exact⟨.inr rfl,rfl,_,rfl,by simp[aT],rfl⟩
open K in
theorem w35 (hft:M.FT=FT){a b b1 b2 b3 c k r:ax}{n m e:Int}(q1:∀h,M.ext 113 [.str b] h=some ⟨.str b1,h,[]⟩)(q2:∀h,M.ext 114 [.str b1] h=some ⟨.str b2,h,[]⟩)(q3:∀h,M.ext 113 [.str b2] h=some ⟨.str b3,h,[]⟩)(q4:∀h,M.ext 112 [.str b3] h=some ⟨.ay [.iV n,.bool true],h,[]⟩)
 (q5:∀h,M.ext 111 [fx dY n [],.str c] h=some ⟨.ay [fx k m r,.iV e],h,[]⟩):bg M 35 [.agg [.str a,.str b],.str c] [] ⟨.ay [fx k m r,.iV e],[],[]⟩:=by
 refine bU (by rw[hft];exact acM) am ?_;unfold Nz;simp only[enter];repeat' first|apply aaK|apply aa|apply aaI|apply aaC|apply abZ|(apply acq;rfl;rfl;first|exact q1 _|exact q2 _|exact q3 _|exact q4 _|exact q5 _)|(apply acH;rfl;rfl;rfl)|(apply acv;rfl;rfl;rfl)|(apply aeS;rfl;rfl;rfl)|(apply abx;rfl;rfl)|(apply abO;rfl;rfl)
 all_goals exact⟨.inr rfl,rfl,_,rfl,rfl,rfl⟩
theorem w31 (hft:M.FT=FT)(a b:ax):bg M 31 [.agg [.str a,.str b]] [] ⟨.bool (decide (20<a.length\/20<b.length)),[],[]⟩:=by
 refine bU (by rw[hft];exact acK) am ?_;unfold Nv;simp only[enter];by_cases h:20<a.length
 . rw[decide_eq_true (.inl h)];repeat' first|apply aaK|apply aa|apply aaI|apply aaC|apply abZ|(apply afc;rfl)|(apply acI;rfl;rfl)|(apply acJ;rfl;rfl)|(apply acH;rfl;rfl;rfl)|(apply acv;rfl;rfl;rfl)|(apply abx;rfl;rfl)|(apply abO;rfl;rfl)|(intro _;omega)|intro _
   all_goals try omega
   all_goals exact⟨.inr rfl,rfl,_,rfl,rfl,rfl⟩
 . by_cases h2:20<b.length
   . rw[decide_eq_true (.inr h2)];repeat' first|apply aaK|apply aa|apply aaI|apply aaC|apply abZ|(apply aew;rfl)|(apply acI;rfl;rfl)|(apply adt;rfl;rfl)|(apply acH;rfl;rfl;rfl)|(apply acv;rfl;rfl;rfl)|(apply abx;rfl;rfl)|(apply abO;rfl;rfl)|(intro _;omega)|intro _
     all_goals try omega
     all_goals exact⟨.inr rfl,rfl,_,rfl,rfl,rfl⟩
   . rw[decide_eq_false ac];repeat' first|apply aaK|apply aa|apply aaI|apply aaC|apply abZ|(apply aew;rfl)|(apply acI;rfl;rfl)|(apply adt;rfl;rfl)|(apply acH;rfl;rfl;rfl)|(apply acv;rfl;rfl;rfl)|(apply abx;rfl;rfl)|(apply abO;rfl;rfl)|(intro _;omega)|intro _
     all_goals try omega
     all_goals exact⟨.inr rfl,rfl,_,rfl,rfl,rfl⟩
open Go.Proofs
theorem NQ:∀l,Go.Ab.Ch5.cM l=cM l
 | []=>rfl
 | e::r=>by
  show (if e=0 then Go.Ab.Ch5.cM r else e)=(if e=0 then cM r else e);rw[NQ r]
theorem NR:aZ Tryz.prog gl 90 jg:=Cf fun l cap h=>by
 rw[←NQ];exact Go.Ab.Ch5.w90 (cap:=cap) bL l h
theorem NS:aZ Tryz.prog gl 91 kL:=by
 intro xs h r hq;unfold kL at hq;split at hq
 . cases hq;exact jI iN bK (w91 (M:=bz Tryz.prog FT []) bL _ _) (fA.same rfl) rfl (.inl rfl)
 . cases hq
def yJ:Spec:=AA [] (.bool true)
theorem adB:aZ Tryz.prog gl 15 yJ:=QV HX rfl rfl SY
noncomputable def yK:Spec:=sK TF 143
theorem adC:aZ Tryz.prog gl 143 yK:=bM wQ
theorem adD {n:Int}(hn : -9223372036854775808<=n/\n<9223372036854775808):∃v0,dP v0 (n:Rat)/\∀h,yK [.iV n] h=some ⟨v0,h,[]⟩:=by
 obtain⟨v0,h1,h2⟩:=Vr (eF.c (N:=1) ak ak) hn;exact⟨v0,by unfold dP;rw[bI,bA];exact h1,dW h2 rfl⟩
theorem adE {n:Int}(hn : -9223372036854775808<=n/\n<9223372036854775808):Dq 20 (n:Rat):=by
 have e:(10:Int)^20=100000000000000000000:=by decide
 unfold Dq;rw[bI,bA,e];exact⟨by unfold al;split <;> omega,ak⟩
noncomputable def tJ:Spec:=sK TJ 173
theorem adF:aZ Tryz.prog gl 173 tJ:=bM sy
theorem NT (v:AV)(q:Rat)(hv:dP v q)(h:ae):tJ [v] h=some ⟨.iV (bB q.num),h,[]⟩:=dW (Vt (eJ.c (N:=1) ak) hv) (jO hv.top) h
noncomputable def NU:List (Nat×Spec):=[(130,tD),(129,tE)]
noncomputable def Fu:Spec:=sK NU 49
theorem adG:aZ Tryz.prog gl 49 Fu:=bM (aQ EZ (aQ Fa bK))
theorem k49 (n:Int)(h:ae)(hn : -9223372036854775808<=n/\n<9223372036854775808):Fu [.iV n] h=some ⟨.str (aW (n:Rat)),h,[]⟩:=by
 obtain⟨v0,k,q⟩:=Fb n hn;exact cE (w49 (M:=bz Tryz.prog FT NU) bL q fun h=>yy h k (EL (N:=100) ak hn)) rfl rfl rfl h
noncomputable def NV:List (Nat×Spec):=[(224,pd),(233,ET),(183,tA)]
noncomputable def NW:Spec:=sK NV 179
theorem adI:aZ Tryz.prog gl 179 NW:=bM (aQ En (aQ MZ (aQ EU bK)))
theorem cFl:Nq (bz Tryz.prog FT NV) where
 ft:=bL
 jA:=yt
 qQ:=yx.qQ
 ja:=yw
noncomputable def NX:List (Nat×Spec):=[(68,xW),(170,yB),(179,NW),(129,tE)]
noncomputable def Fv:Spec:=sK NX 114
theorem adK:aZ Tryz.prog gl 114 Fv:=bM (aQ LM (aQ Nl (aQ adI (aQ Fa bK))))
theorem tnF{k N:Nat}(h:2*k+1<=9*N):(10:Int)^(2*k+1)<=dB^N:=by
 have e:dB^N=(10:Int)^(9*N):=by rw[Int.pow_mul];rfl
 rw[e];exact oM h
theorem adL (q:Rat)(h:ae)(hq:Dq 200 q):Fv [.str (aW q)] h=some ⟨.str (aW (qH q)),h,[]⟩:=by
 have hl:=nk hq ak ak;obtain⟨v1,v2,k1,k2,q170⟩:=Nn q hl;have d0:=den_pos (q:=q);have hf:=fit (N:=100) (k:=200) (tnF ak) hq;obtain⟨v3,k3,q179⟩:=acC (N:=100) cFl k1 k2 hf.n0 hf.d0 ak d0;have e:aW (qH q)=cR (q.num/q.den):=by
  obtain⟨f1,f2⟩:=xr q;unfold aW;rw[if_pos f2,f1]
 have bf:=(fit (N:=100) (k:=201) (tnF ak) hq.floor).n0;rw[(xr q).1]at bf;rw[e];refine cE (acD (M:=bz Tryz.prog FT NX) bL (fun h1=>if_pos h1) k1 k2 (fun h=>?_) q170 (dW q179 (fM k1.top k2.top)) (fun h=>yy h k3 bf)) rfl rfl rfl h;refine(LO (aW q) h hl).trans ?_;rw[decide_eq_decide.2 (EN q).2.2.1]
noncomputable def NY:List (Nat×Spec):=[(68,xW),(178,tv)]
noncomputable def Fw:Spec:=sK NY 112
theorem adM:aZ Tryz.prog gl 112 Fw:=bM (aQ LM (aQ Ej bK))
theorem adN (n:Int)(h:ae)(hn:0<=n/\n<1000000000):Fw [.str (aW (n:Rat))] h=some ⟨.ay [.iV n,.bool true],h,[]⟩:=by
 have rQ:(10:Int)^9=1000000000:=by decide
 have ea:al n=n:=if_neg ac;have hl:=DH (z:=n) (k:=9) ak (by rw[ea,rQ];exact hn.2);obtain⟨p1,p2⟩:=Nm n;obtain⟨v1,k1,q1⟩:=tw (cR n) ac (by rw[p2];exact jv _);have k1:=k1.qL;rw[p1,p2,jh,ea]at k1;have en:(if decide (n<0)=true then -(n.toNat:Int) else (n.toNat:Int))=n:=by
  rw[if_neg (by simp;omega)];omega
 rw[en]at k1;rw[yp];refine cE (ady (M:=bz Tryz.prog FT NY) bL hn ac (fun h=>?_) q1 k1) rfl rfl rfl h;refine(LO (cR n) h ac).trans ?_;have:=(EN (n:Rat)).2.2.1;rw[yp]at this;rw[decide_eq_true (this.2 (bA n))]
end Go.Ab.Ch5.N

/-
  Own work: marks of chapter 1: the reference's rounding, winds, the law's own helpers.
-/
namespace Go.Ab.Ch5.N.K
variable {inv:fg} {F:FuncId->Option dh}
def yL (c:List UInt8):Int:=if c=jB then 100 else if c=jC then 1000 else if c=jD then 10 else if c=ie then 1 else 0
def yM (c:List UInt8):List UInt8:=if c=jB then dY else if c=jC then dY else if c=jD then kT else []
def yN:Spec:=fun
 | [.str c],h=>some ⟨.ay [.int .i64 (yL c),.str (yM c)],h,[]⟩
 | _,_=>none
theorem adO {T:List (Nat×Spec)}(hft:F=FT)(c:List UInt8):bg (fH T inv F) 176 [.str c] [] ⟨.ay [.iV (yL c),.str (yM c)],[],[]⟩:=by
 refine bU (show F 176=_ from by rw[hft];exact abU) am ?_;unfold MP;simp only[enter];repeat' first|apply aaK|apply aa|apply aaI|apply aaC|apply acu|apply abZ|apply acV|apply acn|apply aP|apply bh|apply bc|apply bH|apply bk|(apply cB;rfl)|apply bJ|apply cz|apply bF|apply cH|(apply ack;rfl)|(apply acj;rfl)|(apply aeX;rfl;all_goals intro _)|(apply adw;rfl;rfl)|(apply aeT;rfl;rfl;all_goals first|(intro h;exact absurd h ak)|(intro h;exact absurd rfl h)|(intro h;contradiction)|intro _)|(apply abx;rfl;rfl)|(apply abO;rfl;rfl)|(intro _;omega)|intro _
 all_goals exact⟨.inr rfl,rfl,_,rfl,by simp[aT,yL,yM, *],rfl⟩
def Fx:Spec:=fun
 | [.str k],h=>some ⟨.int .i64 (cS k),h,[]⟩
 | _,_=>none
def kB:List (Nat×Spec):=[(176,yN),(177,Fx)]
theorem adP (hft:F=FT)(k:List UInt8)(v:Int)(r c:List UInt8)(he:dD k v r=0):bg (fH kB inv F) 111 [fx k v r,.str c] [] ⟨mi k v r c,[],[]⟩:=by
 refine bU (show F 111=_ from by rw[hft];exact abV) am ?_;unfold MQ;simp only[enter];have hmN:∀h,(fH kB inv F).ext 177 [.str mh] h=some ⟨.iV 99999,h,[]⟩:=fun _=>rfl
 have hmT:∀h,(fH kB inv F).ext 177 [.str dY] h=some ⟨.iV 863999999,h,[]⟩:=fun _=>rfl
 have hmL:∀h,(fH kB inv F).ext 177 [.str kT] h=some ⟨.iV 999999,h,[]⟩:=fun _=>rfl
 have hmP:∀h,(fH kB inv F).ext 177 [.str pf] h=some ⟨.iV 99999,h,[]⟩:=fun _=>rfl
 rcases NN c with rfl|rfl|rfl|rfl|⟨c1,c2,c3,c4⟩
 . have hs:∀h,(fH kB inv F).ext 176 [.str ie] h=some ⟨.ay [.iV 1,.str []],h,[]⟩:=fun _=>rfl
   rcases mf he with ⟨rfl,hr,rfl⟩|⟨hk,rfl|rfl|rfl,rfl,hl,hm⟩;all_goals try simp only[jU,cS]at hl hm
   all_goals try simp(decide:=true) at hl hm
   . repeat' first|apply aaK|apply aa|apply aaI|apply aaC|apply acu|apply abZ|apply acV|apply acn|apply aP|apply bh|apply bc|apply bH|apply bk|(apply cB;rfl)|apply bJ|apply cz|apply bF|apply cH|(apply aeW;rfl)|apply adJ|apply adY|(apply afk;rfl)|(apply aff;rfl)|(apply afl;rfl)|(apply afg;rfl)|(apply afm;rfl)|(apply aez;rfl)|(apply aeu;rfl;rfl;(first|(simp only[nca];rfl)|rfl))|(apply aeV;rfl;(first|(simp only[nca];rfl)|rfl);(first|(simp only[nca];rfl)|rfl))|(apply afd;rfl)|(apply afj;rfl;rfl;rfl;rfl;all_goals first|(intro h;exact absurd h ak)|intro _)|(apply adA;rfl;rfl;rfl;rfl)|(apply afi;rfl;rfl;rfl;rfl)|(apply ack;rfl)|(apply acj;rfl)|(apply aeX;rfl;all_goals intro _)|(apply adx;rfl)|(apply aew;rfl)|(apply aeU;rfl)|(apply afc;rfl)|(apply afs;rfl)|(apply acE;rfl;rfl)|(apply acI;rfl;rfl)|(apply adw;rfl;rfl)|(apply adH;rfl;rfl)|(apply acJ;rfl;rfl)|(apply adt;rfl;rfl)|(apply adz;rfl;rfl;omega)|(apply afr;rfl;rfl;omega)|(apply afh;rfl;rfl;first|omega|(simp only[aL,aR,aY];omega)|(simp;omega))|(apply afz;rfl;rfl;omega;omega;intro _ _)|(apply afA;rfl;rfl;omega;omega;intro _ _)|(apply afv;rfl;rfl;omega;omega)|(apply acq;rfl;rfl;first|exact hs _)|(apply adA;rfl;rfl;rfl;first|exact hmN _|exact hmT _|exact hmL _|exact hmP _)|(apply aeT;rfl;rfl;all_goals first|(intro h;exact absurd h ak)|(intro h;exact absurd rfl h)|(intro h;contradiction)|intro _)|(apply aeZ;rfl;rfl;all_goals first|(intro h;exact absurd h ak)|(intro h;exact absurd rfl h)|(intro h;contradiction)|intro _)|(apply afe;rfl;rfl;rfl;all_goals first|(intro h;exact absurd h ak)|intro _)|(apply acq;rfl;rfl;rfl)|(apply acH;rfl;rfl;rfl)|(apply acv;rfl;rfl;rfl)|(apply aeS;rfl;rfl;rfl)|(apply abx;rfl;rfl)|(apply abO;rfl;rfl)|(intro _;omega)|intro _
     all_goals refine⟨.inr rfl,rfl,_,rfl,?_,rfl⟩
     all_goals simp_all [aT,dF,dG,dH,cU,cS,overwrite,isClass]
     all_goals omega
   . repeat' first|apply aaK|apply aa|apply aaI|apply aaC|apply acu|apply abZ|apply acV|apply acn|apply aP|apply bh|apply bc|apply bH|apply bk|(apply cB;rfl)|apply bJ|apply cz|apply bF|apply cH|(apply aeW;rfl)|apply adJ|apply adY|(apply afk;rfl)|(apply aff;rfl)|(apply afl;rfl)|(apply afg;rfl)|(apply afm;rfl)|(apply aez;rfl)|(apply aeu;rfl;rfl;(first|(simp only[nca];rfl)|rfl))|(apply aeV;rfl;(first|(simp only[nca];rfl)|rfl);(first|(simp only[nca];rfl)|rfl))|(apply afd;rfl)|(apply afj;rfl;rfl;rfl;rfl;all_goals first|(intro h;exact absurd h ak)|intro _)|(apply adA;rfl;rfl;rfl;rfl)|(apply afi;rfl;rfl;rfl;rfl)|(apply ack;rfl)|(apply acj;rfl)|(apply aeX;rfl;all_goals intro _)|(apply adx;rfl)|(apply aew;rfl)|(apply aeU;rfl)|(apply afc;rfl)|(apply afs;rfl)|(apply acE;rfl;rfl)|(apply acI;rfl;rfl)|(apply adw;rfl;rfl)|(apply adH;rfl;rfl)|(apply acJ;rfl;rfl)|(apply adt;rfl;rfl)|(apply adz;rfl;rfl;omega)|(apply afr;rfl;rfl;omega)|(apply afh;rfl;rfl;first|omega|(simp only[aL,aR,aY];omega)|(simp;omega))|(apply afz;rfl;rfl;omega;omega;intro _ _)|(apply afA;rfl;rfl;omega;omega;intro _ _)|(apply afv;rfl;rfl;omega;omega)|(apply acq;rfl;rfl;first|exact hs _)|(apply adA;rfl;rfl;rfl;first|exact hmN _|exact hmT _|exact hmL _|exact hmP _)|(apply aeT;rfl;rfl;all_goals first|(intro h;exact absurd h ak)|(intro h;exact absurd rfl h)|(intro h;contradiction)|intro _)|(apply aeZ;rfl;rfl;all_goals first|(intro h;exact absurd h ak)|(intro h;exact absurd rfl h)|(intro h;contradiction)|intro _)|(apply afe;rfl;rfl;rfl;all_goals first|(intro h;exact absurd h ak)|intro _)|(apply acq;rfl;rfl;rfl)|(apply acH;rfl;rfl;rfl)|(apply acv;rfl;rfl;rfl)|(apply aeS;rfl;rfl;rfl)|(apply abx;rfl;rfl)|(apply abO;rfl;rfl)|(intro _;omega)|intro _
     all_goals refine⟨.inr rfl,rfl,_,rfl,?_,rfl⟩
     all_goals simp_all [aT,dF,dG,dH,cU,stepOf,dQ,cS,overwrite]
     all_goals omega
   . repeat' first|apply aaK|apply aa|apply aaI|apply aaC|apply acu|apply abZ|apply acV|apply acn|apply aP|apply bh|apply bc|apply bH|apply bk|(apply cB;rfl)|apply bJ|apply cz|apply bF|apply cH|(apply aeW;rfl)|apply adJ|apply adY|(apply afk;rfl)|(apply aff;rfl)|(apply afl;rfl)|(apply afg;rfl)|(apply afm;rfl)|(apply aez;rfl)|(apply aeu;rfl;rfl;(first|(simp only[nca];rfl)|rfl))|(apply aeV;rfl;(first|(simp only[nca];rfl)|rfl);(first|(simp only[nca];rfl)|rfl))|(apply afd;rfl)|(apply afj;rfl;rfl;rfl;rfl;all_goals first|(intro h;exact absurd h ak)|intro _)|(apply adA;rfl;rfl;rfl;rfl)|(apply afi;rfl;rfl;rfl;rfl)|(apply ack;rfl)|(apply acj;rfl)|(apply aeX;rfl;all_goals intro _)|(apply adx;rfl)|(apply aew;rfl)|(apply aeU;rfl)|(apply afc;rfl)|(apply afs;rfl)|(apply acE;rfl;rfl)|(apply acI;rfl;rfl)|(apply adw;rfl;rfl)|(apply adH;rfl;rfl)|(apply acJ;rfl;rfl)|(apply adt;rfl;rfl)|(apply adz;rfl;rfl;omega)|(apply afr;rfl;rfl;omega)|(apply afh;rfl;rfl;first|omega|(simp only[aL,aR,aY];omega)|(simp;omega))|(apply afz;rfl;rfl;omega;omega;intro _ _)|(apply afA;rfl;rfl;omega;omega;intro _ _)|(apply afv;rfl;rfl;omega;omega)|(apply acq;rfl;rfl;first|exact hs _)|(apply adA;rfl;rfl;rfl;first|exact hmN _|exact hmT _|exact hmL _|exact hmP _)|(apply aeT;rfl;rfl;all_goals first|(intro h;exact absurd h ak)|(intro h;exact absurd rfl h)|(intro h;contradiction)|intro _)|(apply aeZ;rfl;rfl;all_goals first|(intro h;exact absurd h ak)|(intro h;exact absurd rfl h)|(intro h;contradiction)|intro _)|(apply afe;rfl;rfl;rfl;all_goals first|(intro h;exact absurd h ak)|intro _)|(apply acq;rfl;rfl;rfl)|(apply acH;rfl;rfl;rfl)|(apply acv;rfl;rfl;rfl)|(apply aeS;rfl;rfl;rfl)|(apply abx;rfl;rfl)|(apply abO;rfl;rfl)|(intro _;omega)|intro _
     all_goals refine⟨.inr rfl,rfl,_,rfl,?_,rfl⟩
     all_goals simp_all [aT,dF,dG,dH,cU,stepOf,dQ,cS,overwrite]
     all_goals omega
   . repeat' first|apply aaK|apply aa|apply aaI|apply aaC|apply acu|apply abZ|apply acV|apply acn|apply aP|apply bh|apply bc|apply bH|apply bk|(apply cB;rfl)|apply bJ|apply cz|apply bF|apply cH|(apply aeW;rfl)|apply adJ|apply adY|(apply afk;rfl)|(apply aff;rfl)|(apply afl;rfl)|(apply afg;rfl)|(apply afm;rfl)|(apply aez;rfl)|(apply aeu;rfl;rfl;(first|(simp only[nca];rfl)|rfl))|(apply aeV;rfl;(first|(simp only[nca];rfl)|rfl);(first|(simp only[nca];rfl)|rfl))|(apply afd;rfl)|(apply afj;rfl;rfl;rfl;rfl;all_goals first|(intro h;exact absurd h ak)|intro _)|(apply adA;rfl;rfl;rfl;rfl)|(apply afi;rfl;rfl;rfl;rfl)|(apply ack;rfl)|(apply acj;rfl)|(apply aeX;rfl;all_goals intro _)|(apply adx;rfl)|(apply aew;rfl)|(apply aeU;rfl)|(apply afc;rfl)|(apply afs;rfl)|(apply acE;rfl;rfl)|(apply acI;rfl;rfl)|(apply adw;rfl;rfl)|(apply adH;rfl;rfl)|(apply acJ;rfl;rfl)|(apply adt;rfl;rfl)|(apply adz;rfl;rfl;omega)|(apply afr;rfl;rfl;omega)|(apply afh;rfl;rfl;first|omega|(simp only[aL,aR,aY];omega)|(simp;omega))|(apply afz;rfl;rfl;omega;omega;intro _ _)|(apply afA;rfl;rfl;omega;omega;intro _ _)|(apply afv;rfl;rfl;omega;omega)|(apply acq;rfl;rfl;first|exact hs _)|(apply adA;rfl;rfl;rfl;first|exact hmN _|exact hmT _|exact hmL _|exact hmP _)|(apply aeT;rfl;rfl;all_goals first|(intro h;exact absurd h ak)|(intro h;exact absurd rfl h)|(intro h;contradiction)|intro _)|(apply aeZ;rfl;rfl;all_goals first|(intro h;exact absurd h ak)|(intro h;exact absurd rfl h)|(intro h;contradiction)|intro _)|(apply afe;rfl;rfl;rfl;all_goals first|(intro h;exact absurd h ak)|intro _)|(apply acq;rfl;rfl;rfl)|(apply acH;rfl;rfl;rfl)|(apply acv;rfl;rfl;rfl)|(apply aeS;rfl;rfl;rfl)|(apply abx;rfl;rfl)|(apply abO;rfl;rfl)|(intro _;omega)|intro _
     all_goals refine⟨.inr rfl,rfl,_,rfl,?_,rfl⟩
     all_goals simp_all [aT,dF,dG,dH,cU,stepOf,dQ,cS,overwrite]
     all_goals omega
 . have hs:∀h,(fH kB inv F).ext 176 [.str jB] h=some ⟨.ay [.iV 100,.str dY],h,[]⟩:=fun _=>rfl
   rcases mf he with ⟨rfl,hr,rfl⟩|⟨hk,rfl|rfl|rfl,rfl,hl,hm⟩;all_goals try simp only[jU,cS]at hl hm
   all_goals try simp(decide:=true) at hl hm
   . repeat' first|apply aaK|apply aa|apply aaI|apply aaC|apply acu|apply abZ|apply acV|apply acn|apply aP|apply bh|apply bc|apply bH|apply bk|(apply cB;rfl)|apply bJ|apply cz|apply bF|apply cH|(apply aeW;rfl)|apply adJ|apply adY|(apply afk;rfl)|(apply aff;rfl)|(apply afl;rfl)|(apply afg;rfl)|(apply afm;rfl)|(apply aez;rfl)|(apply aeu;rfl;rfl;(first|(simp only[nca];rfl)|rfl))|(apply aeV;rfl;(first|(simp only[nca];rfl)|rfl);(first|(simp only[nca];rfl)|rfl))|(apply afd;rfl)|(apply afj;rfl;rfl;rfl;rfl;all_goals first|(intro h;exact absurd h ak)|intro _)|(apply adA;rfl;rfl;rfl;rfl)|(apply afi;rfl;rfl;rfl;rfl)|(apply ack;rfl)|(apply acj;rfl)|(apply aeX;rfl;all_goals intro _)|(apply adx;rfl)|(apply aew;rfl)|(apply aeU;rfl)|(apply afc;rfl)|(apply afs;rfl)|(apply acE;rfl;rfl)|(apply acI;rfl;rfl)|(apply adw;rfl;rfl)|(apply adH;rfl;rfl)|(apply acJ;rfl;rfl)|(apply adt;rfl;rfl)|(apply adz;rfl;rfl;omega)|(apply afr;rfl;rfl;omega)|(apply afh;rfl;rfl;first|omega|(simp only[aL,aR,aY];omega)|(simp;omega))|(apply afz;rfl;rfl;omega;omega;intro _ _)|(apply afA;rfl;rfl;omega;omega;intro _ _)|(apply afv;rfl;rfl;omega;omega)|(apply acq;rfl;rfl;first|exact hs _)|(apply adA;rfl;rfl;rfl;first|exact hmN _|exact hmT _|exact hmL _|exact hmP _)|(apply aeT;rfl;rfl;all_goals first|(intro h;exact absurd h ak)|(intro h;exact absurd rfl h)|(intro h;contradiction)|intro _)|(apply aeZ;rfl;rfl;all_goals first|(intro h;exact absurd h ak)|(intro h;exact absurd rfl h)|(intro h;contradiction)|intro _)|(apply afe;rfl;rfl;rfl;all_goals first|(intro h;exact absurd h ak)|intro _)|(apply acq;rfl;rfl;rfl)|(apply acH;rfl;rfl;rfl)|(apply acv;rfl;rfl;rfl)|(apply aeS;rfl;rfl;rfl)|(apply abx;rfl;rfl)|(apply abO;rfl;rfl)|(intro _;omega)|intro _
     all_goals refine⟨.inr rfl,rfl,_,rfl,?_,rfl⟩
     all_goals simp_all [aT,dF,dG,dH,cU,cS,overwrite,isClass]
     all_goals omega
   . repeat' first|apply aaK|apply aa|apply aaI|apply aaC|apply acu|apply abZ|apply acV|apply acn|apply aP|apply bh|apply bc|apply bH|apply bk|(apply cB;rfl)|apply bJ|apply cz|apply bF|apply cH|(apply aeW;rfl)|apply adJ|apply adY|(apply afk;rfl)|(apply aff;rfl)|(apply afl;rfl)|(apply afg;rfl)|(apply afm;rfl)|(apply aez;rfl)|(apply aeu;rfl;rfl;(first|(simp only[nca];rfl)|rfl))|(apply aeV;rfl;(first|(simp only[nca];rfl)|rfl);(first|(simp only[nca];rfl)|rfl))|(apply afd;rfl)|(apply afj;rfl;rfl;rfl;rfl;all_goals first|(intro h;exact absurd h ak)|intro _)|(apply adA;rfl;rfl;rfl;rfl)|(apply afi;rfl;rfl;rfl;rfl)|(apply ack;rfl)|(apply acj;rfl)|(apply aeX;rfl;all_goals intro _)|(apply adx;rfl)|(apply aew;rfl)|(apply aeU;rfl)|(apply afc;rfl)|(apply afs;rfl)|(apply acE;rfl;rfl)|(apply acI;rfl;rfl)|(apply adw;rfl;rfl)|(apply adH;rfl;rfl)|(apply acJ;rfl;rfl)|(apply adt;rfl;rfl)|(apply adz;rfl;rfl;omega)|(apply afr;rfl;rfl;omega)|(apply afh;rfl;rfl;first|omega|(simp only[aL,aR,aY];omega)|(simp;omega))|(apply afz;rfl;rfl;omega;omega;intro _ _)|(apply afA;rfl;rfl;omega;omega;intro _ _)|(apply afv;rfl;rfl;omega;omega)|(apply acq;rfl;rfl;first|exact hs _)|(apply adA;rfl;rfl;rfl;first|exact hmN _|exact hmT _|exact hmL _|exact hmP _)|(apply aeT;rfl;rfl;all_goals first|(intro h;exact absurd h ak)|(intro h;exact absurd rfl h)|(intro h;contradiction)|intro _)|(apply aeZ;rfl;rfl;all_goals first|(intro h;exact absurd h ak)|(intro h;exact absurd rfl h)|(intro h;contradiction)|intro _)|(apply afe;rfl;rfl;rfl;all_goals first|(intro h;exact absurd h ak)|intro _)|(apply acq;rfl;rfl;rfl)|(apply acH;rfl;rfl;rfl)|(apply acv;rfl;rfl;rfl)|(apply aeS;rfl;rfl;rfl)|(apply abx;rfl;rfl)|(apply abO;rfl;rfl)|(intro _;omega)|intro _
     all_goals refine⟨.inr rfl,rfl,_,rfl,?_,rfl⟩
     all_goals simp_all [aT,dF,dG,dH,cU,stepOf,dQ,cS,overwrite]
     all_goals omega
   . repeat' first|apply aaK|apply aa|apply aaI|apply aaC|apply acu|apply abZ|apply acV|apply acn|apply aP|apply bh|apply bc|apply bH|apply bk|(apply cB;rfl)|apply bJ|apply cz|apply bF|apply cH|(apply aeW;rfl)|apply adJ|apply adY|(apply afk;rfl)|(apply aff;rfl)|(apply afl;rfl)|(apply afg;rfl)|(apply afm;rfl)|(apply aez;rfl)|(apply aeu;rfl;rfl;(first|(simp only[nca];rfl)|rfl))|(apply aeV;rfl;(first|(simp only[nca];rfl)|rfl);(first|(simp only[nca];rfl)|rfl))|(apply afd;rfl)|(apply afj;rfl;rfl;rfl;rfl;all_goals first|(intro h;exact absurd h ak)|intro _)|(apply adA;rfl;rfl;rfl;rfl)|(apply afi;rfl;rfl;rfl;rfl)|(apply ack;rfl)|(apply acj;rfl)|(apply aeX;rfl;all_goals intro _)|(apply adx;rfl)|(apply aew;rfl)|(apply aeU;rfl)|(apply afc;rfl)|(apply afs;rfl)|(apply acE;rfl;rfl)|(apply acI;rfl;rfl)|(apply adw;rfl;rfl)|(apply adH;rfl;rfl)|(apply acJ;rfl;rfl)|(apply adt;rfl;rfl)|(apply adz;rfl;rfl;omega)|(apply afr;rfl;rfl;omega)|(apply afh;rfl;rfl;first|omega|(simp only[aL,aR,aY];omega)|(simp;omega))|(apply afz;rfl;rfl;omega;omega;intro _ _)|(apply afA;rfl;rfl;omega;omega;intro _ _)|(apply afv;rfl;rfl;omega;omega)|(apply acq;rfl;rfl;first|exact hs _)|(apply adA;rfl;rfl;rfl;first|exact hmN _|exact hmT _|exact hmL _|exact hmP _)|(apply aeT;rfl;rfl;all_goals first|(intro h;exact absurd h ak)|(intro h;exact absurd rfl h)|(intro h;contradiction)|intro _)|(apply aeZ;rfl;rfl;all_goals first|(intro h;exact absurd h ak)|(intro h;exact absurd rfl h)|(intro h;contradiction)|intro _)|(apply afe;rfl;rfl;rfl;all_goals first|(intro h;exact absurd h ak)|intro _)|(apply acq;rfl;rfl;rfl)|(apply acH;rfl;rfl;rfl)|(apply acv;rfl;rfl;rfl)|(apply aeS;rfl;rfl;rfl)|(apply abx;rfl;rfl)|(apply abO;rfl;rfl)|(intro _;omega)|intro _
     all_goals refine⟨.inr rfl,rfl,_,rfl,?_,rfl⟩
     all_goals simp_all [aT,dF,dG,dH,cU,stepOf,overwrite]
     all_goals omega
   . repeat' first|apply aaK|apply aa|apply aaI|apply aaC|apply acu|apply abZ|apply acV|apply acn|apply aP|apply bh|apply bc|apply bH|apply bk|(apply cB;rfl)|apply bJ|apply cz|apply bF|apply cH|(apply aeW;rfl)|apply adJ|apply adY|(apply afk;rfl)|(apply aff;rfl)|(apply afl;rfl)|(apply afg;rfl)|(apply afm;rfl)|(apply aez;rfl)|(apply aeu;rfl;rfl;(first|(simp only[nca];rfl)|rfl))|(apply aeV;rfl;(first|(simp only[nca];rfl)|rfl);(first|(simp only[nca];rfl)|rfl))|(apply afd;rfl)|(apply afj;rfl;rfl;rfl;rfl;all_goals first|(intro h;exact absurd h ak)|intro _)|(apply adA;rfl;rfl;rfl;rfl)|(apply afi;rfl;rfl;rfl;rfl)|(apply ack;rfl)|(apply acj;rfl)|(apply aeX;rfl;all_goals intro _)|(apply adx;rfl)|(apply aew;rfl)|(apply aeU;rfl)|(apply afc;rfl)|(apply afs;rfl)|(apply acE;rfl;rfl)|(apply acI;rfl;rfl)|(apply adw;rfl;rfl)|(apply adH;rfl;rfl)|(apply acJ;rfl;rfl)|(apply adt;rfl;rfl)|(apply adz;rfl;rfl;omega)|(apply afr;rfl;rfl;omega)|(apply afh;rfl;rfl;first|omega|(simp only[aL,aR,aY];omega)|(simp;omega))|(apply afz;rfl;rfl;omega;omega;intro _ _)|(apply afA;rfl;rfl;omega;omega;intro _ _)|(apply afv;rfl;rfl;omega;omega)|(apply acq;rfl;rfl;first|exact hs _)|(apply adA;rfl;rfl;rfl;first|exact hmN _|exact hmT _|exact hmL _|exact hmP _)|(apply aeT;rfl;rfl;all_goals first|(intro h;exact absurd h ak)|(intro h;exact absurd rfl h)|(intro h;contradiction)|intro _)|(apply aeZ;rfl;rfl;all_goals first|(intro h;exact absurd h ak)|(intro h;exact absurd rfl h)|(intro h;contradiction)|intro _)|(apply afe;rfl;rfl;rfl;all_goals first|(intro h;exact absurd h ak)|intro _)|(apply acq;rfl;rfl;rfl)|(apply acH;rfl;rfl;rfl)|(apply acv;rfl;rfl;rfl)|(apply aeS;rfl;rfl;rfl)|(apply abx;rfl;rfl)|(apply abO;rfl;rfl)|(intro _;omega)|intro _
     all_goals refine⟨.inr rfl,rfl,_,rfl,?_,rfl⟩
     all_goals simp_all [aT,dF,dG,dH,cU,stepOf,overwrite]
     all_goals omega
 . have hs:∀h,(fH kB inv F).ext 176 [.str jC] h=some ⟨.ay [.iV 1000,.str dY],h,[]⟩:=fun _=>rfl
   rcases mf he with ⟨rfl,hr,rfl⟩|⟨hk,rfl|rfl|rfl,rfl,hl,hm⟩;all_goals try simp only[jU,cS]at hl hm
   all_goals try simp(decide:=true) at hl hm
   . repeat' first|apply aaK|apply aa|apply aaI|apply aaC|apply acu|apply abZ|apply acV|apply acn|apply aP|apply bh|apply bc|apply bH|apply bk|(apply cB;rfl)|apply bJ|apply cz|apply bF|apply cH|(apply aeW;rfl)|apply adJ|apply adY|(apply afk;rfl)|(apply aff;rfl)|(apply afl;rfl)|(apply afg;rfl)|(apply afm;rfl)|(apply aez;rfl)|(apply aeu;rfl;rfl;(first|(simp only[nca];rfl)|rfl))|(apply aeV;rfl;(first|(simp only[nca];rfl)|rfl);(first|(simp only[nca];rfl)|rfl))|(apply afd;rfl)|(apply afj;rfl;rfl;rfl;rfl;all_goals first|(intro h;exact absurd h ak)|intro _)|(apply adA;rfl;rfl;rfl;rfl)|(apply afi;rfl;rfl;rfl;rfl)|(apply ack;rfl)|(apply acj;rfl)|(apply aeX;rfl;all_goals intro _)|(apply adx;rfl)|(apply aew;rfl)|(apply aeU;rfl)|(apply afc;rfl)|(apply afs;rfl)|(apply acE;rfl;rfl)|(apply acI;rfl;rfl)|(apply adw;rfl;rfl)|(apply adH;rfl;rfl)|(apply acJ;rfl;rfl)|(apply adt;rfl;rfl)|(apply adz;rfl;rfl;omega)|(apply afr;rfl;rfl;omega)|(apply afh;rfl;rfl;first|omega|(simp only[aL,aR,aY];omega)|(simp;omega))|(apply afz;rfl;rfl;omega;omega;intro _ _)|(apply afA;rfl;rfl;omega;omega;intro _ _)|(apply afv;rfl;rfl;omega;omega)|(apply acq;rfl;rfl;first|exact hs _)|(apply adA;rfl;rfl;rfl;first|exact hmN _|exact hmT _|exact hmL _|exact hmP _)|(apply aeT;rfl;rfl;all_goals first|(intro h;exact absurd h ak)|(intro h;exact absurd rfl h)|(intro h;contradiction)|intro _)|(apply aeZ;rfl;rfl;all_goals first|(intro h;exact absurd h ak)|(intro h;exact absurd rfl h)|(intro h;contradiction)|intro _)|(apply afe;rfl;rfl;rfl;all_goals first|(intro h;exact absurd h ak)|intro _)|(apply acq;rfl;rfl;rfl)|(apply acH;rfl;rfl;rfl)|(apply acv;rfl;rfl;rfl)|(apply aeS;rfl;rfl;rfl)|(apply abx;rfl;rfl)|(apply abO;rfl;rfl)|(intro _;omega)|intro _
     all_goals refine⟨.inr rfl,rfl,_,rfl,?_,rfl⟩
     all_goals simp_all [aT,dF,dG,dH,cU,cS,overwrite,isClass]
     all_goals omega
   . repeat' first|apply aaK|apply aa|apply aaI|apply aaC|apply acu|apply abZ|apply acV|apply acn|apply aP|apply bh|apply bc|apply bH|apply bk|(apply cB;rfl)|apply bJ|apply cz|apply bF|apply cH|(apply aeW;rfl)|apply adJ|apply adY|(apply afk;rfl)|(apply aff;rfl)|(apply afl;rfl)|(apply afg;rfl)|(apply afm;rfl)|(apply aez;rfl)|(apply aeu;rfl;rfl;(first|(simp only[nca];rfl)|rfl))|(apply aeV;rfl;(first|(simp only[nca];rfl)|rfl);(first|(simp only[nca];rfl)|rfl))|(apply afd;rfl)|(apply afj;rfl;rfl;rfl;rfl;all_goals first|(intro h;exact absurd h ak)|intro _)|(apply adA;rfl;rfl;rfl;rfl)|(apply afi;rfl;rfl;rfl;rfl)|(apply ack;rfl)|(apply acj;rfl)|(apply aeX;rfl;all_goals intro _)|(apply adx;rfl)|(apply aew;rfl)|(apply aeU;rfl)|(apply afc;rfl)|(apply afs;rfl)|(apply acE;rfl;rfl)|(apply acI;rfl;rfl)|(apply adw;rfl;rfl)|(apply adH;rfl;rfl)|(apply acJ;rfl;rfl)|(apply adt;rfl;rfl)|(apply adz;rfl;rfl;omega)|(apply afr;rfl;rfl;omega)|(apply afh;rfl;rfl;first|omega|(simp only[aL,aR,aY];omega)|(simp;omega))|(apply afz;rfl;rfl;omega;omega;intro _ _)|(apply afA;rfl;rfl;omega;omega;intro _ _)|(apply afv;rfl;rfl;omega;omega)|(apply acq;rfl;rfl;first|exact hs _)|(apply adA;rfl;rfl;rfl;first|exact hmN _|exact hmT _|exact hmL _|exact hmP _)|(apply aeT;rfl;rfl;all_goals first|(intro h;exact absurd h ak)|(intro h;exact absurd rfl h)|(intro h;contradiction)|intro _)|(apply aeZ;rfl;rfl;all_goals first|(intro h;exact absurd h ak)|(intro h;exact absurd rfl h)|(intro h;contradiction)|intro _)|(apply afe;rfl;rfl;rfl;all_goals first|(intro h;exact absurd h ak)|intro _)|(apply acq;rfl;rfl;rfl)|(apply acH;rfl;rfl;rfl)|(apply acv;rfl;rfl;rfl)|(apply aeS;rfl;rfl;rfl)|(apply abx;rfl;rfl)|(apply abO;rfl;rfl)|(intro _;omega)|intro _
     all_goals refine⟨.inr rfl,rfl,_,rfl,?_,rfl⟩
     all_goals simp_all [aT,dF,dG,dH,cU,stepOf,dQ,cS,overwrite]
     all_goals omega
   . repeat' first|apply aaK|apply aa|apply aaI|apply aaC|apply acu|apply abZ|apply acV|apply acn|apply aP|apply bh|apply bc|apply bH|apply bk|(apply cB;rfl)|apply bJ|apply cz|apply bF|apply cH|(apply aeW;rfl)|apply adJ|apply adY|(apply afk;rfl)|(apply aff;rfl)|(apply afl;rfl)|(apply afg;rfl)|(apply afm;rfl)|(apply aez;rfl)|(apply aeu;rfl;rfl;(first|(simp only[nca];rfl)|rfl))|(apply aeV;rfl;(first|(simp only[nca];rfl)|rfl);(first|(simp only[nca];rfl)|rfl))|(apply afd;rfl)|(apply afj;rfl;rfl;rfl;rfl;all_goals first|(intro h;exact absurd h ak)|intro _)|(apply adA;rfl;rfl;rfl;rfl)|(apply afi;rfl;rfl;rfl;rfl)|(apply ack;rfl)|(apply acj;rfl)|(apply aeX;rfl;all_goals intro _)|(apply adx;rfl)|(apply aew;rfl)|(apply aeU;rfl)|(apply afc;rfl)|(apply afs;rfl)|(apply acE;rfl;rfl)|(apply acI;rfl;rfl)|(apply adw;rfl;rfl)|(apply adH;rfl;rfl)|(apply acJ;rfl;rfl)|(apply adt;rfl;rfl)|(apply adz;rfl;rfl;omega)|(apply afr;rfl;rfl;omega)|(apply afh;rfl;rfl;first|omega|(simp only[aL,aR,aY];omega)|(simp;omega))|(apply afz;rfl;rfl;omega;omega;intro _ _)|(apply afA;rfl;rfl;omega;omega;intro _ _)|(apply afv;rfl;rfl;omega;omega)|(apply acq;rfl;rfl;first|exact hs _)|(apply adA;rfl;rfl;rfl;first|exact hmN _|exact hmT _|exact hmL _|exact hmP _)|(apply aeT;rfl;rfl;all_goals first|(intro h;exact absurd h ak)|(intro h;exact absurd rfl h)|(intro h;contradiction)|intro _)|(apply aeZ;rfl;rfl;all_goals first|(intro h;exact absurd h ak)|(intro h;exact absurd rfl h)|(intro h;contradiction)|intro _)|(apply afe;rfl;rfl;rfl;all_goals first|(intro h;exact absurd h ak)|intro _)|(apply acq;rfl;rfl;rfl)|(apply acH;rfl;rfl;rfl)|(apply acv;rfl;rfl;rfl)|(apply aeS;rfl;rfl;rfl)|(apply abx;rfl;rfl)|(apply abO;rfl;rfl)|(intro _;omega)|intro _
     all_goals refine⟨.inr rfl,rfl,_,rfl,?_,rfl⟩
     all_goals simp_all [aT,dF,dG,dH,cU,stepOf,overwrite]
     all_goals omega
   . repeat' first|apply aaK|apply aa|apply aaI|apply aaC|apply acu|apply abZ|apply acV|apply acn|apply aP|apply bh|apply bc|apply bH|apply bk|(apply cB;rfl)|apply bJ|apply cz|apply bF|apply cH|(apply aeW;rfl)|apply adJ|apply adY|(apply afk;rfl)|(apply aff;rfl)|(apply afl;rfl)|(apply afg;rfl)|(apply afm;rfl)|(apply aez;rfl)|(apply aeu;rfl;rfl;(first|(simp only[nca];rfl)|rfl))|(apply aeV;rfl;(first|(simp only[nca];rfl)|rfl);(first|(simp only[nca];rfl)|rfl))|(apply afd;rfl)|(apply afj;rfl;rfl;rfl;rfl;all_goals first|(intro h;exact absurd h ak)|intro _)|(apply adA;rfl;rfl;rfl;rfl)|(apply afi;rfl;rfl;rfl;rfl)|(apply ack;rfl)|(apply acj;rfl)|(apply aeX;rfl;all_goals intro _)|(apply adx;rfl)|(apply aew;rfl)|(apply aeU;rfl)|(apply afc;rfl)|(apply afs;rfl)|(apply acE;rfl;rfl)|(apply acI;rfl;rfl)|(apply adw;rfl;rfl)|(apply adH;rfl;rfl)|(apply acJ;rfl;rfl)|(apply adt;rfl;rfl)|(apply adz;rfl;rfl;omega)|(apply afr;rfl;rfl;omega)|(apply afh;rfl;rfl;first|omega|(simp only[aL,aR,aY];omega)|(simp;omega))|(apply afz;rfl;rfl;omega;omega;intro _ _)|(apply afA;rfl;rfl;omega;omega;intro _ _)|(apply afv;rfl;rfl;omega;omega)|(apply acq;rfl;rfl;first|exact hs _)|(apply adA;rfl;rfl;rfl;first|exact hmN _|exact hmT _|exact hmL _|exact hmP _)|(apply aeT;rfl;rfl;all_goals first|(intro h;exact absurd h ak)|(intro h;exact absurd rfl h)|(intro h;contradiction)|intro _)|(apply aeZ;rfl;rfl;all_goals first|(intro h;exact absurd h ak)|(intro h;exact absurd rfl h)|(intro h;contradiction)|intro _)|(apply afe;rfl;rfl;rfl;all_goals first|(intro h;exact absurd h ak)|intro _)|(apply acq;rfl;rfl;rfl)|(apply acH;rfl;rfl;rfl)|(apply acv;rfl;rfl;rfl)|(apply aeS;rfl;rfl;rfl)|(apply abx;rfl;rfl)|(apply abO;rfl;rfl)|(intro _;omega)|intro _
     all_goals refine⟨.inr rfl,rfl,_,rfl,?_,rfl⟩
     all_goals simp_all [aT,dF,dG,dH,cU,stepOf,overwrite]
     all_goals omega
 . have hs:∀h,(fH kB inv F).ext 176 [.str jD] h=some ⟨.ay [.iV 10,.str kT],h,[]⟩:=fun _=>rfl
   rcases mf he with ⟨rfl,hr,rfl⟩|⟨hk,rfl|rfl|rfl,rfl,hl,hm⟩;all_goals try simp only[jU,cS]at hl hm
   all_goals try simp(decide:=true) at hl hm
   . repeat' first|apply aaK|apply aa|apply aaI|apply aaC|apply acu|apply abZ|apply acV|apply acn|apply aP|apply bh|apply bc|apply bH|apply bk|(apply cB;rfl)|apply bJ|apply cz|apply bF|apply cH|(apply aeW;rfl)|apply adJ|apply adY|(apply afk;rfl)|(apply aff;rfl)|(apply afl;rfl)|(apply afg;rfl)|(apply afm;rfl)|(apply aez;rfl)|(apply aeu;rfl;rfl;(first|(simp only[nca];rfl)|rfl))|(apply aeV;rfl;(first|(simp only[nca];rfl)|rfl);(first|(simp only[nca];rfl)|rfl))|(apply afd;rfl)|(apply afj;rfl;rfl;rfl;rfl;all_goals first|(intro h;exact absurd h ak)|intro _)|(apply adA;rfl;rfl;rfl;rfl)|(apply afi;rfl;rfl;rfl;rfl)|(apply ack;rfl)|(apply acj;rfl)|(apply aeX;rfl;all_goals intro _)|(apply adx;rfl)|(apply aew;rfl)|(apply aeU;rfl)|(apply afc;rfl)|(apply afs;rfl)|(apply acE;rfl;rfl)|(apply acI;rfl;rfl)|(apply adw;rfl;rfl)|(apply adH;rfl;rfl)|(apply acJ;rfl;rfl)|(apply adt;rfl;rfl)|(apply adz;rfl;rfl;omega)|(apply afr;rfl;rfl;omega)|(apply afh;rfl;rfl;first|omega|(simp only[aL,aR,aY];omega)|(simp;omega))|(apply afz;rfl;rfl;omega;omega;intro _ _)|(apply afA;rfl;rfl;omega;omega;intro _ _)|(apply afv;rfl;rfl;omega;omega)|(apply acq;rfl;rfl;first|exact hs _)|(apply adA;rfl;rfl;rfl;first|exact hmN _|exact hmT _|exact hmL _|exact hmP _)|(apply aeT;rfl;rfl;all_goals first|(intro h;exact absurd h ak)|(intro h;exact absurd rfl h)|(intro h;contradiction)|intro _)|(apply aeZ;rfl;rfl;all_goals first|(intro h;exact absurd h ak)|(intro h;exact absurd rfl h)|(intro h;contradiction)|intro _)|(apply afe;rfl;rfl;rfl;all_goals first|(intro h;exact absurd h ak)|intro _)|(apply acq;rfl;rfl;rfl)|(apply acH;rfl;rfl;rfl)|(apply acv;rfl;rfl;rfl)|(apply aeS;rfl;rfl;rfl)|(apply abx;rfl;rfl)|(apply abO;rfl;rfl)|(intro _;omega)|intro _
     all_goals refine⟨.inr rfl,rfl,_,rfl,?_,rfl⟩
     all_goals simp_all [aT,dF,dG,dH,cU,cS,overwrite,isClass]
     all_goals omega
   . repeat' first|apply aaK|apply aa|apply aaI|apply aaC|apply acu|apply abZ|apply acV|apply acn|apply aP|apply bh|apply bc|apply bH|apply bk|(apply cB;rfl)|apply bJ|apply cz|apply bF|apply cH|(apply aeW;rfl)|apply adJ|apply adY|(apply afk;rfl)|(apply aff;rfl)|(apply afl;rfl)|(apply afg;rfl)|(apply afm;rfl)|(apply aez;rfl)|(apply aeu;rfl;rfl;(first|(simp only[nca];rfl)|rfl))|(apply aeV;rfl;(first|(simp only[nca];rfl)|rfl);(first|(simp only[nca];rfl)|rfl))|(apply afd;rfl)|(apply afj;rfl;rfl;rfl;rfl;all_goals first|(intro h;exact absurd h ak)|intro _)|(apply adA;rfl;rfl;rfl;rfl)|(apply afi;rfl;rfl;rfl;rfl)|(apply ack;rfl)|(apply acj;rfl)|(apply aeX;rfl;all_goals intro _)|(apply adx;rfl)|(apply aew;rfl)|(apply aeU;rfl)|(apply afc;rfl)|(apply afs;rfl)|(apply acE;rfl;rfl)|(apply acI;rfl;rfl)|(apply adw;rfl;rfl)|(apply adH;rfl;rfl)|(apply acJ;rfl;rfl)|(apply adt;rfl;rfl)|(apply adz;rfl;rfl;omega)|(apply afr;rfl;rfl;omega)|(apply afh;rfl;rfl;first|omega|(simp only[aL,aR,aY];omega)|(simp;omega))|(apply afz;rfl;rfl;omega;omega;intro _ _)|(apply afA;rfl;rfl;omega;omega;intro _ _)|(apply afv;rfl;rfl;omega;omega)|(apply acq;rfl;rfl;first|exact hs _)|(apply adA;rfl;rfl;rfl;first|exact hmN _|exact hmT _|exact hmL _|exact hmP _)|(apply aeT;rfl;rfl;all_goals first|(intro h;exact absurd h ak)|(intro h;exact absurd rfl h)|(intro h;contradiction)|intro _)|(apply aeZ;rfl;rfl;all_goals first|(intro h;exact absurd h ak)|(intro h;exact absurd rfl h)|(intro h;contradiction)|intro _)|(apply afe;rfl;rfl;rfl;all_goals first|(intro h;exact absurd h ak)|intro _)|(apply acq;rfl;rfl;rfl)|(apply acH;rfl;rfl;rfl)|(apply acv;rfl;rfl;rfl)|(apply aeS;rfl;rfl;rfl)|(apply abx;rfl;rfl)|(apply abO;rfl;rfl)|(intro _;omega)|intro _
     all_goals refine⟨.inr rfl,rfl,_,rfl,?_,rfl⟩
     all_goals simp_all [aT,dF,dG,dH,cU,stepOf,overwrite]
     all_goals omega
   . repeat' first|apply aaK|apply aa|apply aaI|apply aaC|apply acu|apply abZ|apply acV|apply acn|apply aP|apply bh|apply bc|apply bH|apply bk|(apply cB;rfl)|apply bJ|apply cz|apply bF|apply cH|(apply aeW;rfl)|apply adJ|apply adY|(apply afk;rfl)|(apply aff;rfl)|(apply afl;rfl)|(apply afg;rfl)|(apply afm;rfl)|(apply aez;rfl)|(apply aeu;rfl;rfl;(first|(simp only[nca];rfl)|rfl))|(apply aeV;rfl;(first|(simp only[nca];rfl)|rfl);(first|(simp only[nca];rfl)|rfl))|(apply afd;rfl)|(apply afj;rfl;rfl;rfl;rfl;all_goals first|(intro h;exact absurd h ak)|intro _)|(apply adA;rfl;rfl;rfl;rfl)|(apply afi;rfl;rfl;rfl;rfl)|(apply ack;rfl)|(apply acj;rfl)|(apply aeX;rfl;all_goals intro _)|(apply adx;rfl)|(apply aew;rfl)|(apply aeU;rfl)|(apply afc;rfl)|(apply afs;rfl)|(apply acE;rfl;rfl)|(apply acI;rfl;rfl)|(apply adw;rfl;rfl)|(apply adH;rfl;rfl)|(apply acJ;rfl;rfl)|(apply adt;rfl;rfl)|(apply adz;rfl;rfl;omega)|(apply afr;rfl;rfl;omega)|(apply afh;rfl;rfl;first|omega|(simp only[aL,aR,aY];omega)|(simp;omega))|(apply afz;rfl;rfl;omega;omega;intro _ _)|(apply afA;rfl;rfl;omega;omega;intro _ _)|(apply afv;rfl;rfl;omega;omega)|(apply acq;rfl;rfl;first|exact hs _)|(apply adA;rfl;rfl;rfl;first|exact hmN _|exact hmT _|exact hmL _|exact hmP _)|(apply aeT;rfl;rfl;all_goals first|(intro h;exact absurd h ak)|(intro h;exact absurd rfl h)|(intro h;contradiction)|intro _)|(apply aeZ;rfl;rfl;all_goals first|(intro h;exact absurd h ak)|(intro h;exact absurd rfl h)|(intro h;contradiction)|intro _)|(apply afe;rfl;rfl;rfl;all_goals first|(intro h;exact absurd h ak)|intro _)|(apply acq;rfl;rfl;rfl)|(apply acH;rfl;rfl;rfl)|(apply acv;rfl;rfl;rfl)|(apply aeS;rfl;rfl;rfl)|(apply abx;rfl;rfl)|(apply abO;rfl;rfl)|(intro _;omega)|intro _
     all_goals refine⟨.inr rfl,rfl,_,rfl,?_,rfl⟩
     all_goals simp_all [aT,dF,dG,dH,cU,stepOf,dQ,cS,overwrite]
     all_goals omega
   . repeat' first|apply aaK|apply aa|apply aaI|apply aaC|apply acu|apply abZ|apply acV|apply acn|apply aP|apply bh|apply bc|apply bH|apply bk|(apply cB;rfl)|apply bJ|apply cz|apply bF|apply cH|(apply aeW;rfl)|apply adJ|apply adY|(apply afk;rfl)|(apply aff;rfl)|(apply afl;rfl)|(apply afg;rfl)|(apply afm;rfl)|(apply aez;rfl)|(apply aeu;rfl;rfl;(first|(simp only[nca];rfl)|rfl))|(apply aeV;rfl;(first|(simp only[nca];rfl)|rfl);(first|(simp only[nca];rfl)|rfl))|(apply afd;rfl)|(apply afj;rfl;rfl;rfl;rfl;all_goals first|(intro h;exact absurd h ak)|intro _)|(apply adA;rfl;rfl;rfl;rfl)|(apply afi;rfl;rfl;rfl;rfl)|(apply ack;rfl)|(apply acj;rfl)|(apply aeX;rfl;all_goals intro _)|(apply adx;rfl)|(apply aew;rfl)|(apply aeU;rfl)|(apply afc;rfl)|(apply afs;rfl)|(apply acE;rfl;rfl)|(apply acI;rfl;rfl)|(apply adw;rfl;rfl)|(apply adH;rfl;rfl)|(apply acJ;rfl;rfl)|(apply adt;rfl;rfl)|(apply adz;rfl;rfl;omega)|(apply afr;rfl;rfl;omega)|(apply afh;rfl;rfl;first|omega|(simp only[aL,aR,aY];omega)|(simp;omega))|(apply afz;rfl;rfl;omega;omega;intro _ _)|(apply afA;rfl;rfl;omega;omega;intro _ _)|(apply afv;rfl;rfl;omega;omega)|(apply acq;rfl;rfl;first|exact hs _)|(apply adA;rfl;rfl;rfl;first|exact hmN _|exact hmT _|exact hmL _|exact hmP _)|(apply aeT;rfl;rfl;all_goals first|(intro h;exact absurd h ak)|(intro h;exact absurd rfl h)|(intro h;contradiction)|intro _)|(apply aeZ;rfl;rfl;all_goals first|(intro h;exact absurd h ak)|(intro h;exact absurd rfl h)|(intro h;contradiction)|intro _)|(apply afe;rfl;rfl;rfl;all_goals first|(intro h;exact absurd h ak)|intro _)|(apply acq;rfl;rfl;rfl)|(apply acH;rfl;rfl;rfl)|(apply acv;rfl;rfl;rfl)|(apply aeS;rfl;rfl;rfl)|(apply abx;rfl;rfl)|(apply abO;rfl;rfl)|(intro _;omega)|intro _
     all_goals refine⟨.inr rfl,rfl,_,rfl,?_,rfl⟩
     all_goals simp_all [aT,dF,dG,dH,cU,stepOf,overwrite]
     all_goals omega
 . have hs:∀h,(fH kB inv F).ext 176 [.str c] h=some ⟨.ay [.iV 0,.str []],h,[]⟩:=fun _=>by show bE _ _ _ _=_;simp only[kB,Ih,yN,yL,yM,if_neg c1,if_neg c2,if_neg c3,if_neg c4]
   rcases mf he with ⟨rfl,hr,rfl⟩|⟨hk,rfl|rfl|rfl,rfl,hl,hm⟩;all_goals try simp only[jU,cS]at hl hm
   all_goals try simp(decide:=true) at hl hm
   . repeat' first|apply aaK|apply aa|apply aaI|apply aaC|apply acu|apply abZ|apply acV|apply acn|apply aP|apply bh|apply bc|apply bH|apply bk|(apply cB;rfl)|apply bJ|apply cz|apply bF|apply cH|(apply aeW;rfl)|apply adJ|apply adY|(apply afk;rfl)|(apply aff;rfl)|(apply afl;rfl)|(apply afg;rfl)|(apply afm;rfl)|(apply aez;rfl)|(apply aeu;rfl;rfl;(first|(simp only[nca];rfl)|rfl))|(apply aeV;rfl;(first|(simp only[nca];rfl)|rfl);(first|(simp only[nca];rfl)|rfl))|(apply afd;rfl)|(apply afj;rfl;rfl;rfl;rfl;all_goals first|(intro h;exact absurd h ak)|intro _)|(apply adA;rfl;rfl;rfl;rfl)|(apply afi;rfl;rfl;rfl;rfl)|(apply ack;rfl)|(apply acj;rfl)|(apply aeX;rfl;all_goals intro _)|(apply adx;rfl)|(apply aew;rfl)|(apply aeU;rfl)|(apply afc;rfl)|(apply afs;rfl)|(apply acE;rfl;rfl)|(apply acI;rfl;rfl)|(apply adw;rfl;rfl)|(apply adH;rfl;rfl)|(apply acJ;rfl;rfl)|(apply adt;rfl;rfl)|(apply adz;rfl;rfl;omega)|(apply afr;rfl;rfl;omega)|(apply afh;rfl;rfl;first|omega|(simp only[aL,aR,aY];omega)|(simp;omega))|(apply afz;rfl;rfl;omega;omega;intro _ _)|(apply afA;rfl;rfl;omega;omega;intro _ _)|(apply afv;rfl;rfl;omega;omega)|(apply acq;rfl;rfl;first|exact hs _)|(apply adA;rfl;rfl;rfl;first|exact hmN _|exact hmT _|exact hmL _|exact hmP _)|(apply aeT;rfl;rfl;all_goals first|(intro h;exact absurd h ak)|(intro h;exact absurd rfl h)|(intro h;contradiction)|intro _)|(apply aeZ;rfl;rfl;all_goals first|(intro h;exact absurd h ak)|(intro h;exact absurd rfl h)|(intro h;contradiction)|intro _)|(apply afe;rfl;rfl;rfl;all_goals first|(intro h;exact absurd h ak)|intro _)|(apply acq;rfl;rfl;rfl)|(apply acH;rfl;rfl;rfl)|(apply acv;rfl;rfl;rfl)|(apply aeS;rfl;rfl;rfl)|(apply abx;rfl;rfl)|(apply abO;rfl;rfl)|(intro _;omega)|intro _
     all_goals refine⟨.inr rfl,rfl,_,rfl,?_,rfl⟩
     all_goals simp_all [aT,dF,dG,dH,cU,overwrite,isClass]
     all_goals omega
   . repeat' first|apply aaK|apply aa|apply aaI|apply aaC|apply acu|apply abZ|apply acV|apply acn|apply aP|apply bh|apply bc|apply bH|apply bk|(apply cB;rfl)|apply bJ|apply cz|apply bF|apply cH|(apply aeW;rfl)|apply adJ|apply adY|(apply afk;rfl)|(apply aff;rfl)|(apply afl;rfl)|(apply afg;rfl)|(apply afm;rfl)|(apply aez;rfl)|(apply aeu;rfl;rfl;(first|(simp only[nca];rfl)|rfl))|(apply aeV;rfl;(first|(simp only[nca];rfl)|rfl);(first|(simp only[nca];rfl)|rfl))|(apply afd;rfl)|(apply afj;rfl;rfl;rfl;rfl;all_goals first|(intro h;exact absurd h ak)|intro _)|(apply adA;rfl;rfl;rfl;rfl)|(apply afi;rfl;rfl;rfl;rfl)|(apply ack;rfl)|(apply acj;rfl)|(apply aeX;rfl;all_goals intro _)|(apply adx;rfl)|(apply aew;rfl)|(apply aeU;rfl)|(apply afc;rfl)|(apply afs;rfl)|(apply acE;rfl;rfl)|(apply acI;rfl;rfl)|(apply adw;rfl;rfl)|(apply adH;rfl;rfl)|(apply acJ;rfl;rfl)|(apply adt;rfl;rfl)|(apply adz;rfl;rfl;omega)|(apply afr;rfl;rfl;omega)|(apply afh;rfl;rfl;first|omega|(simp only[aL,aR,aY];omega)|(simp;omega))|(apply afz;rfl;rfl;omega;omega;intro _ _)|(apply afA;rfl;rfl;omega;omega;intro _ _)|(apply afv;rfl;rfl;omega;omega)|(apply acq;rfl;rfl;first|exact hs _)|(apply adA;rfl;rfl;rfl;first|exact hmN _|exact hmT _|exact hmL _|exact hmP _)|(apply aeT;rfl;rfl;all_goals first|(intro h;exact absurd h ak)|(intro h;exact absurd rfl h)|(intro h;contradiction)|intro _)|(apply aeZ;rfl;rfl;all_goals first|(intro h;exact absurd h ak)|(intro h;exact absurd rfl h)|(intro h;contradiction)|intro _)|(apply afe;rfl;rfl;rfl;all_goals first|(intro h;exact absurd h ak)|intro _)|(apply acq;rfl;rfl;rfl)|(apply acH;rfl;rfl;rfl)|(apply acv;rfl;rfl;rfl)|(apply aeS;rfl;rfl;rfl)|(apply abx;rfl;rfl)|(apply abO;rfl;rfl)|(intro _;omega)|intro _
     all_goals refine⟨.inr rfl,rfl,_,rfl,?_,rfl⟩
     all_goals simp_all [aT,dF,dG,dH,cU,stepOf,overwrite]
     all_goals omega
   . repeat' first|apply aaK|apply aa|apply aaI|apply aaC|apply acu|apply abZ|apply acV|apply acn|apply aP|apply bh|apply bc|apply bH|apply bk|(apply cB;rfl)|apply bJ|apply cz|apply bF|apply cH|(apply aeW;rfl)|apply adJ|apply adY|(apply afk;rfl)|(apply aff;rfl)|(apply afl;rfl)|(apply afg;rfl)|(apply afm;rfl)|(apply aez;rfl)|(apply aeu;rfl;rfl;(first|(simp only[nca];rfl)|rfl))|(apply aeV;rfl;(first|(simp only[nca];rfl)|rfl);(first|(simp only[nca];rfl)|rfl))|(apply afd;rfl)|(apply afj;rfl;rfl;rfl;rfl;all_goals first|(intro h;exact absurd h ak)|intro _)|(apply adA;rfl;rfl;rfl;rfl)|(apply afi;rfl;rfl;rfl;rfl)|(apply ack;rfl)|(apply acj;rfl)|(apply aeX;rfl;all_goals intro _)|(apply adx;rfl)|(apply aew;rfl)|(apply aeU;rfl)|(apply afc;rfl)|(apply afs;rfl)|(apply acE;rfl;rfl)|(apply acI;rfl;rfl)|(apply adw;rfl;rfl)|(apply adH;rfl;rfl)|(apply acJ;rfl;rfl)|(apply adt;rfl;rfl)|(apply adz;rfl;rfl;omega)|(apply afr;rfl;rfl;omega)|(apply afh;rfl;rfl;first|omega|(simp only[aL,aR,aY];omega)|(simp;omega))|(apply afz;rfl;rfl;omega;omega;intro _ _)|(apply afA;rfl;rfl;omega;omega;intro _ _)|(apply afv;rfl;rfl;omega;omega)|(apply acq;rfl;rfl;first|exact hs _)|(apply adA;rfl;rfl;rfl;first|exact hmN _|exact hmT _|exact hmL _|exact hmP _)|(apply aeT;rfl;rfl;all_goals first|(intro h;exact absurd h ak)|(intro h;exact absurd rfl h)|(intro h;contradiction)|intro _)|(apply aeZ;rfl;rfl;all_goals first|(intro h;exact absurd h ak)|(intro h;exact absurd rfl h)|(intro h;contradiction)|intro _)|(apply afe;rfl;rfl;rfl;all_goals first|(intro h;exact absurd h ak)|intro _)|(apply acq;rfl;rfl;rfl)|(apply acH;rfl;rfl;rfl)|(apply acv;rfl;rfl;rfl)|(apply aeS;rfl;rfl;rfl)|(apply abx;rfl;rfl)|(apply abO;rfl;rfl)|(intro _;omega)|intro _
     all_goals refine⟨.inr rfl,rfl,_,rfl,?_,rfl⟩
     all_goals simp_all [aT,dF,dG,dH,cU,stepOf,overwrite]
     all_goals omega
   . repeat' first|apply aaK|apply aa|apply aaI|apply aaC|apply acu|apply abZ|apply acV|apply acn|apply aP|apply bh|apply bc|apply bH|apply bk|(apply cB;rfl)|apply bJ|apply cz|apply bF|apply cH|(apply aeW;rfl)|apply adJ|apply adY|(apply afk;rfl)|(apply aff;rfl)|(apply afl;rfl)|(apply afg;rfl)|(apply afm;rfl)|(apply aez;rfl)|(apply aeu;rfl;rfl;(first|(simp only[nca];rfl)|rfl))|(apply aeV;rfl;(first|(simp only[nca];rfl)|rfl);(first|(simp only[nca];rfl)|rfl))|(apply afd;rfl)|(apply afj;rfl;rfl;rfl;rfl;all_goals first|(intro h;exact absurd h ak)|intro _)|(apply adA;rfl;rfl;rfl;rfl)|(apply afi;rfl;rfl;rfl;rfl)|(apply ack;rfl)|(apply acj;rfl)|(apply aeX;rfl;all_goals intro _)|(apply adx;rfl)|(apply aew;rfl)|(apply aeU;rfl)|(apply afc;rfl)|(apply afs;rfl)|(apply acE;rfl;rfl)|(apply acI;rfl;rfl)|(apply adw;rfl;rfl)|(apply adH;rfl;rfl)|(apply acJ;rfl;rfl)|(apply adt;rfl;rfl)|(apply adz;rfl;rfl;omega)|(apply afr;rfl;rfl;omega)|(apply afh;rfl;rfl;first|omega|(simp only[aL,aR,aY];omega)|(simp;omega))|(apply afz;rfl;rfl;omega;omega;intro _ _)|(apply afA;rfl;rfl;omega;omega;intro _ _)|(apply afv;rfl;rfl;omega;omega)|(apply acq;rfl;rfl;first|exact hs _)|(apply adA;rfl;rfl;rfl;first|exact hmN _|exact hmT _|exact hmL _|exact hmP _)|(apply aeT;rfl;rfl;all_goals first|(intro h;exact absurd h ak)|(intro h;exact absurd rfl h)|(intro h;contradiction)|intro _)|(apply aeZ;rfl;rfl;all_goals first|(intro h;exact absurd h ak)|(intro h;exact absurd rfl h)|(intro h;contradiction)|intro _)|(apply afe;rfl;rfl;rfl;all_goals first|(intro h;exact absurd h ak)|intro _)|(apply acq;rfl;rfl;rfl)|(apply acH;rfl;rfl;rfl)|(apply acv;rfl;rfl;rfl)|(apply aeS;rfl;rfl;rfl)|(apply abx;rfl;rfl)|(apply abO;rfl;rfl)|(intro _;omega)|intro _
     all_goals refine⟨.inr rfl,rfl,_,rfl,?_,rfl⟩
     all_goals simp_all [aT,dF,dG,dH,cU,stepOf,overwrite]
     all_goals omega
def aeP(h:Int):Int:= -(-h/10)
def aeO:Spec:=fun
 | [.int .i64 n],h=>some ⟨.ay [.int .i64 (if n < -9999\/9999<n then 0 else aeP n),.int .i64 (if n < -9999\/9999<n then 3 else 0)],h,[]⟩
 | _,_=>none
def adQ:Spec:=fun
 | [.int .i64 x,.int .i64 lo,.int .i64 hi],h=>some ⟨.bool (decide (x<lo) || decide (hi<x)),h,[]⟩
 | _,_=>none
def yJ:Spec:=fun
 | [],h=>some ⟨.bool true,h,[]⟩
 | _,_=>none
def aeQ:Spec:=fun
 | [.agg [.str k,.int .i64 _,.str r]],h=>some ⟨.bool (decide (k.length<=40/\r.length<=40)),h,[]⟩
 | _,_=>none
def tK:Spec:=fun
 | [.agg [.str k,.int .i64 v,.str r],.str c],h=>some ⟨mi k v r c,h,[]⟩
 | _,_=>none
def qR:Spec:=fun
 | [.agg [.str k,.int .i64 v,.str r],.str c],h=>if dD k v r=0 then some ⟨mi k v r c,h,[]⟩ else none
 | _,_=>none
end Go.Ab.Ch5.N.K

/-
  Own work: the contracts of marks as a table.
-/
namespace Go.Ab
variable {ks:List Nat} {N:Nat}
theorem Rn.Fy {l l0:List AV}(h:kf ks N l l0):Rn ks N (.agg l) (.agg l0):=.agg h.1 h.2
end Go.Ab
namespace Go.Ab.Ch5.N.K
open Go.Proofs
theorem adR:aZ Tryz.prog gl 239 tG:=by
 intro xs h r hq;unfold tG at hq;split at hq
 . split at hq
   . rename_i l hl;split at hq
     . rename_i hlen;cases hq;obtain⟨S,cap,hf⟩:=(Hs hl).fr (fun _=>rfl);exact jI iN bK (acW (T:=[]) rfl l _ cap hlen) (.cons hf (.cons (.same rfl) .nil)) rfl (.inr rfl)
     . cases hq
   . cases hq
 . cases hq
theorem NZ:aZ Tryz.prog gl 185 yH:=by
 intro xs h r hq;unfold yH at hq;split at hq
 . split at hq
   . rename_i l hl;split at hq
     . rename_i hlen;cases hq;obtain⟨S,cap,hf⟩:=(Hs hl).fr (fun _=>rfl);exact jI iN (aQ adR bK) (acY (T:=[]) rfl l _ cap hlen) (.cons hf (.cons (.same rfl) .nil)) rfl (.inr rfl)
     . cases hq
   . cases hq
 . cases hq
theorem adS:aZ Tryz.prog gl 237 Fq:=by
 intro xs h r hq;unfold Fq at hq;split at hq
 . cases hq;exact jI iN (aQ NZ bK) (acZ (T:=[]) rfl _) (fA.same rfl) rfl (.inl rfl)
 . cases hq
theorem Oa:aZ Tryz.prog gl 186 yI:=by
 intro xs h r hq;unfold yI at hq;split at hq
 . cases hq;have hk:∀(i b:Nat),([0,1,2,3]:List Nat)[i]? = some b->Rn [0,1,2,3] h.length (.map b) (.map (h.length+i)):=fun i b hi=>.map hi
   refine He iN bK (adf (T:=[]) rfl) (fA.nil (S:=[])) (ks:=[0,1,2,3]) ak (.map (i:=0) rfl) rfl (fun i b o1 hi ho=>?_) (.inl rfl);match i,hi,ho with
   | 0,hi,ho=>
    cases hi;cases ho;refine⟨_,rfl,.map (.same rfl) ?_,.inl rfl⟩;refine .cons (.Fy (.cons (.same rfl) (.cons (.same rfl) (.cons (.same rfl) (.cons (hk 1 1 rfl) (.cons (.same rfl) .nil)))))) (.cons (.Fy (.cons (.same rfl) (.cons (.same rfl) (.cons (.same rfl) (.cons (hk 2 2 rfl) (.cons (.same rfl) .nil)))))) (.cons (.Fy (.cons (.same rfl) (.cons (.same rfl) (.cons (.same rfl) (.cons (hk 3 3 rfl) (.cons (.same rfl) .nil)))))) .nil))
   | 1,hi,ho=>cases hi;cases ho;exact⟨_,rfl,.map (.same rfl) (.same rfl),.inl rfl⟩
   | 2,hi,ho=>cases hi;cases ho;exact⟨_,rfl,.map (.same rfl) (.same rfl),.inl rfl⟩
   | 3,hi,ho=>cases hi;cases ho;exact⟨_,rfl,.map (.same rfl) (.same rfl),.inl rfl⟩
 . cases hq
theorem adT:aZ Tryz.prog gl 238 adQ:=Tl
theorem adU:aZ Tryz.prog gl 184 Fs:=by
 intro xs h r hq;unfold Fs at hq;split at hq
 . cases hq;exact jI iN (aQ Oa (aQ adS (aQ Ik (aQ Il (aQ adT bK))))) (adi rfl _ _ _) (fA.same rfl) rfl (.inl rfl)
 . cases hq
theorem adV:aZ Tryz.prog gl 177 Fx:=by
 intro xs h r hq;unfold Fx at hq;split at hq
 . cases hq;exact jI iN bK (adj (T:=[]) rfl _) (fA.same rfl) rfl (.inl rfl)
 . cases hq
theorem Ob:aZ Tryz.prog gl 132 tK:=by
 intro xs h r hq;unfold tK at hq;split at hq
 . cases hq;exact jI iN (aQ adU (aQ NZ (aQ Oa bK))) (adl rfl _ _ _ _) (fA.same rfl) rfl (.inl rfl)
 . cases hq
theorem adW:aZ Tryz.prog gl 176 yN:=by
 intro xs h r hq;unfold yN at hq;split at hq
 . cases hq;exact jI iN bK (adO (T:=[]) rfl _) (fA.same rfl) rfl (.inl rfl)
 . cases hq
theorem Oc:aZ Tryz.prog gl 111 qR:=by
 intro xs h r hq;unfold qR at hq;split at hq
 . split at hq
   . rename_i hc;cases hq;exact jI iN (aQ adW (aQ adV bK)) (adP rfl _ _ _ _ hc) (fA.same rfl) rfl (.inl rfl)
   . cases hq
 . cases hq
end Go.Ab.Ch5.N.K

/-
  Own work: stadionlaw05.FinishOfficials answers true.
-/
namespace Go.Ab.Ch5.N
open Go.Ab.bl K
variable {M:az} {cap:Option Nat} {N:Nat}
theorem adX (hft:M.FT=FT){e m:Int}{k r:ax}(h0:e≠0):bg M 36 [fx [] 0 [],.iV e,.iV e,fx k m r] [] ⟨.bool true,[],[]⟩:=by
 refine bU (by rw[hft];exact NA) am ?_;unfold Fm;simp only[enter];repeat' first|apply aaK|apply aa|apply aaI|apply aaC|apply abZ|apply aP|(apply ack;rfl)|(apply adx;rfl)|(apply adw;rfl;rfl)|(apply adH;rfl;rfl)|(apply acJ;rfl;rfl)|(apply ags;rfl;rfl;all_goals first|(intro h;exact absurd ⟨rfl,rfl,rfl⟩ h)|intro _)|(apply acH;rfl;rfl;rfl)|(apply acv;rfl;rfl;rfl)|(apply abx;rfl;rfl)|(apply abO;rfl;rfl)|(intro _;omega)|intro _
 all_goals try omega
 all_goals exact⟨.inr rfl,rfl,_,rfl,rfl,rfl⟩
theorem w36 (hft:M.FT=FT)(k r:ax)(m:Int):bg M 36 [fx k m r,.iV 0,.iV 0,fx k m r] [] ⟨.bool true,[],[]⟩:=by
 refine bU (by rw[hft];exact NA) am ?_;unfold Fm;simp only[enter];repeat' first|apply aaK|apply aa|apply aaI|apply aaC|apply abZ|apply acn|(apply acj;rfl)|(apply adx;rfl)|(apply adw;rfl;rfl)|(apply adH;rfl;rfl)|(apply acJ;rfl;rfl)|(apply ags;rfl;rfl;all_goals first|(intro h;exact absurd ⟨rfl,rfl,rfl⟩ h)|intro _)|(apply acH;rfl;rfl;rfl)|(apply acv;rfl;rfl;rfl)|(apply abx;rfl;rfl)|(apply abO;rfl;rfl)|(intro _;omega)|intro _
 all_goals try omega
 all_goals exact⟨.inr rfl,rfl,_,rfl,rfl,rfl⟩
def Od (M:az)(a b c:ax):Prop:=
 (∃e1 e2 e:Int,e≠0/\cM [e1,e2]=e/\(∀h,M.ext 32 [.agg [.str a,.str b],.str c] h=some ⟨.ay [fx [] 0 [],.iV e],h,[]⟩)/\(∀h,M.ext 33 [.agg [.str a,.str b]] h=some ⟨.iV e1,h,[]⟩)/\∀h,M.ext 34 [.str c] h=some ⟨.iV e2,h,[]⟩) \/
 (∃(k r:ax) (m e:Int),(e≠0->k=[]/\r=[]/\m=0)/\(∀h,M.ext 32 [.agg [.str a,.str b],.str c] h=some ⟨.ay [fx k m r,.iV e],h,[]⟩)/\(∀h,M.ext 33 [.agg [.str a,.str b]] h=some ⟨.iV 0,h,[]⟩)/\(∀h,M.ext 34 [.str c] h=some ⟨.iV 0,h,[]⟩) /\
   ∀h,M.ext 35 [.agg [.str a,.str b],.str c] h=some ⟨.ay [fx k m r,.iV e],h,[]⟩)
structure C5 (M:az):Prop where
 ft:M.FT=FT
 Oe:∀h,M.ext 15 [] h=some ⟨.bool true,h,[]⟩
 Fz:∀v h l,gO h v=some l->l.length<1000->M.ext 25 [v] h=some ⟨.iV (cM l),h,[]⟩
 Of:∀a b h,M.ext 31 [.agg [.str a,.str b]] h=some ⟨.bool (decide (20<a.length\/20<b.length)),h,[]⟩
 od:∀(e m:Int) (k r:ax) h,e≠0->M.ext 36 [fx [] 0 [],.iV e,.iV e,fx k m r] h=some ⟨.bool true,h,[]⟩
 Og:∀(k r:ax) (m:Int) h,M.ext 36 [fx k m r,.iV 0,.iV 0,fx k m r] h=some ⟨.bool true,h,[]⟩
 all:∀a b c:ax,a.length<=20->b.length<=20->c.length<=20->Od M a b c
theorem w5 (C:C5 M)(a b c:ax):bg M 5 [.agg [.str a,.str b],.str c] [] ⟨.bool true,[],[]⟩:=by
 refine bU (by rw[C.ft];exact ft5) am ?_;have q15:=C.Oe;have q31:=C.Of a b;unfold b5;simp only[enter];by_cases hab:20<a.length\/20<b.length
 . rw[decide_eq_true hab]at q31;repeat' first|apply aaK|apply aa|apply aaI|apply aaC|apply abZ|apply aP|(apply ack;rfl)|(apply aew;rfl)|(apply afc;rfl)|(apply acJ;rfl;rfl)|(apply adt;rfl;rfl)|(apply acq;rfl;rfl;first|exact q15 _|exact q31 _)|(apply acH;rfl;rfl;rfl)|(apply acv;rfl;rfl;rfl)|(apply abx;rfl;rfl)|(apply abO;rfl;rfl)
   all_goals try omega
   all_goals exact⟨.inr rfl,rfl,_,rfl,rfl,rfl⟩
 . rw[decide_eq_false hab]at q31;by_cases hc:20<c.length
   . repeat' first|apply aaK|apply aa|apply aaI|apply aaC|apply abZ|apply aP|(apply ack;rfl)|(apply aew;rfl)|(apply acI;rfl;rfl)|(apply adt;rfl;rfl)|(apply acq;rfl;rfl;first|exact q15 _|exact q31 _)|(apply acH;rfl;rfl;rfl)|(apply acv;rfl;rfl;rfl)|(apply abx;rfl;rfl)|(apply abO;rfl;rfl)|(intro _;omega)|intro _
     all_goals try omega
     all_goals exact⟨.inr rfl,rfl,_,rfl,rfl,rfl⟩
   . rcases C.all a b c ac ac ac with ⟨e1,e2,e,h0,he,q32,q33,q34⟩|⟨k,r,m,e,hz,q32,q33,q34,q35⟩
     . have f:=fun v h hi=>C.Fz v h [e1,e2] hi (by show 2<1000;decide)
       rw[he]at f;have q36:=fun h=>C.od e 0 [] [] h h0
       repeat' first|apply aaK|apply aa|apply aaI|apply aaC|apply abZ|apply acn|(apply acj;rfl)|(apply aew;rfl)|(apply acI;rfl;rfl)|(apply adw;rfl;rfl)|(apply adt;rfl;rfl)|(apply acq;rfl;rfl;first|exact q15 _|exact q31 _|exact q32 _|exact q33 _|exact q34 _|exact f _ _ rfl|exact q36 _)|(apply acH;rfl;rfl;rfl)|(apply acv;rfl;rfl;rfl)|(apply aeS;rfl;rfl;rfl)|(apply abx;rfl;rfl)|(apply abO;rfl;rfl)|(intro _;omega)|intro _
       all_goals try omega
       all_goals exact⟨.inr rfl,rfl,_,rfl,rfl,rfl⟩
     . have f:∀v h,gO h v=some [0,0]->M.ext 25 [v] h=some ⟨.iV 0,h,[]⟩:=fun v h hi=>C.Fz v h _ hi ak
       by_cases h0:e=0
       . subst h0;have q36:=C.Og k r m;repeat' first|apply aaK|apply aa|apply aaI|apply aaC|apply abZ|apply acn|(apply ack;rfl)|(apply acj;rfl)|(apply aew;rfl)|(apply acI;rfl;rfl)|(apply adw;rfl;rfl)|(apply adt;rfl;rfl)|(apply acq;rfl;rfl;first|exact q15 _|exact q31 _|exact q32 _|exact q33 _|exact q34 _|exact q35 _|exact f _ _ rfl|exact q36 _)|(apply acH;rfl;rfl;rfl)|(apply acv;rfl;rfl;rfl)|(apply aeS;rfl;rfl;rfl)|(apply abx;rfl;rfl)|(apply abO;rfl;rfl)|(intro _;omega)|intro _
         all_goals try omega
         all_goals exact⟨.inr rfl,rfl,_,rfl,rfl,rfl⟩
       . obtain⟨rfl,rfl,rfl⟩:=hz h0;have q36:=fun h=>C.od e 0 [] [] h h0
         repeat' first|apply aaK|apply aa|apply aaI|apply aaC|apply abZ|apply acn|(apply ack;rfl)|(apply acj;rfl)|(apply aew;rfl)|(apply acI;rfl;rfl)|(apply adw;rfl;rfl)|(apply adt;rfl;rfl)|(apply acq;rfl;rfl;first|exact q15 _|exact q31 _|exact q32 _|exact q33 _|exact q34 _|exact q35 _|exact f _ _ rfl|exact q36 _)|(apply acH;rfl;rfl;rfl)|(apply acv;rfl;rfl;rfl)|(apply aeS;rfl;rfl;rfl)|(apply abx;rfl;rfl)|(apply abO;rfl;rfl)|(intro _;omega)|intro _
         all_goals try omega
         all_goals exact⟨.inr rfl,rfl,_,rfl,rfl,rfl⟩
open Go.Proofs
def kX:Int:=863999999
theorem Oh:Dq 20 (kX:Rat):=adE ak
noncomputable def FA:Spec:=sK [(143,yK),(147,sB)] 101
theorem adZ:aZ Tryz.prog gl 101 FA:=bM (aQ adC (aQ JM bK))
theorem aea {v va vb:AV}{p q:Rat}(hv:Rd v va vb p q)(hq:Dq 200 q)(h:ae):FA [v] h=some ⟨.bool (decide (0<jQ q kX)),h,[]⟩:=by
 obtain⟨vm,hm,q143⟩:=adD (n:=kX) ak;have q147:=JN (N:=1000) ak ak vb vm q kX hv.hb hm (hq.bq ak) (Oh.bq ak);have ht:v.top=0:=by
  obtain⟨_,_,_,_,_,_,_,_,_,_,rfl,_,⟨t1,t2,t3,t4⟩,_⟩:=hv.shape;simp[AV.top,bG,t1,t2,t3,t4]
 exact cE (ado (M:=bz Tryz.prog FT [(143,yK),(147,sB)]) bL hv q143 q147) (jO ht) rfl rfl h
noncomputable def yO:List (Nat×Spec):=[(172,DJ),(90,jg),(165,DI),(147,sB),(173,tJ),(91,kL),(101,FA)]
theorem aeb:cY Tryz.prog gl (bE yO):=aQ ZA (aQ NR (aQ Zv (aQ JM (aQ adF (aQ NS (aQ adZ bK))))))
noncomputable def yP:Spec:=sK yO 107
theorem aec:aZ Tryz.prog gl 107 yP:=bM aeb
theorem Oi {v:AV}{h:ae}{l:List Int}(hi:gO h v=some l)(hl:l.length<1000):jg [v] h=some ⟨.iV (cM l),h,[]⟩:=by
 show (match gO h v with|some l=>_|none=>_)=_;rw[hi];exact if_pos ac
theorem FB (T:List (Nat×Spec))(h1:∀ar h,bE T 90 ar h=jg ar h)(h2:∀ar h,bE T 91 ar h=kL ar h):tI (bz Tryz.prog FT T) where
 ft:=bL
 nt:=fun _v h _l hi hl=>(h1 _ _).trans (Oi hi hl)
 Ft:=fun _t _e h=>h2 _ _
theorem aed {a b:ax}{e:Int}(la:a.length<1000000)(lb:b.length<1000000)(he:cM [dD a,dD b]=e)(h0:e≠0)(h:ae):yP [.agg [.str a,.str b]] h=some ⟨.ay [NO,.iV e],h,[]⟩:=
 cE (adp (FB yO (fun _ _=>rfl) (fun _ _=>rfl)) (fun h=>xG a h la) (fun h=>xG b h lb) he h0) rfl rfl rfl h
def tL (p q:Rat):Int:=kV (jQ p q) (bB p.num) (bB q.num) (decide (0<jQ q kX))
theorem aee {p q:Rat}(hp:Dq 60 p)(hq:Dq 60 q):∃v va vb,Rd v va vb p q/\∀h,yP [.agg [.str (aW p),.str (aW q)]] h=some ⟨.ay [v,.iV (tL p q)],h,[]⟩:=by
 have lp:=nk hp ak ak;have lq:=nk hq ak ak;obtain⟨va,ha,qa⟩:=KY (N:=1000) ak ak p (hp.lq ak ak);obtain⟨vb,hb,qb⟩:=KY (N:=1000) ak ak q (hq.lq ak ak);obtain⟨v,hv⟩:=Rd.mk' ha hb;have q147:=JN (N:=1000) ak ak va vb p q ha hb (hp.bq ak) (hq.bq ak);refine⟨v,va,vb,hv,dW (adq (FB yO (fun _ _=>rfl) (fun _ _=>rfl)) hv (fun h=>?_) (fun h=>?_) qa qb q147 (NT va p ha) (NT vb q hb) (aea hv (hq.mono ak))) rfl⟩
 . exact(xG _ h lp).trans (by rw[xw (k:=60) ak ak hp])
 . exact(xG _ h lq).trans (by rw[xw (k:=60) ak ak hq])
theorem aef {n:Int}(h:1<=n/\n<=863999999):K.dD dY n []=0:=by
 simp(decide:=true) [K.dD,jU,cS];omega
noncomputable def FC:Spec:=sK [(132,tK)] 108
theorem aeg:aZ Tryz.prog gl 108 FC:=bM (aQ Ob bK)
theorem aeh (c:ax)(h:ae):FC [.str c] h=some ⟨.iV (cU dY 1 [] c),h,[]⟩:=cE (adr (M:=bz Tryz.prog FT [(132,tK)]) bL c fun _=>rfl) rfl rfl rfl h
noncomputable def Oj:List (Nat×Spec):=[(148,De),(231,Dh),(201,sx)]
noncomputable def FD:Spec:=sK Oj 174
theorem aei:aZ Tryz.prog gl 174 FD:=bM (aQ WI (aQ Xi (aQ JF bK)))
theorem aej {v:AV}{q:Rat}(hv:dP v q)(hq:Dq 145 q):∃v0,aN v0 (ij q)/\∀h,FD [v] h=some ⟨v0,h,[]⟩:=by
 obtain⟨v1,h1,q1⟩:=WL (N:=1000) ak v q hv (hq.bq ak);obtain⟨v2,h2,q2⟩:=Xj (N:=1000) ak ak v1 (-q) h1 (hq.neg.bq ak);have hb:al ((-q).num/((-q).den:Nat))<wB^1000:=by
  have:=(hq.neg.floor.bq (N:=1000) ak).1;rw[(xr (-q)).1]at this;exact this
 obtain⟨v3,h3,q3⟩:=JG (N:=1000) ak v2 _ h2 hb;exact⟨v3,h3,dW (adn (M:=bz Tryz.prog FT Oj) bL hv q1 q2 q3 h3) (jO hv.top)⟩
noncomputable def FE:Spec:=sK [] 175
theorem aek:aZ Tryz.prog gl 175 FE:=bM bK
theorem ael (z:Int)(h:ae):FE [.agg [.iV z,.ab]] h=some ⟨.ay [.iV z,.bool true],h,[]⟩:=cE (adm bL z) rfl rfl rfl h
theorem aem {q:Rat}(h5:0<q.num)(h4:¬0<jQ q kX):1<=ij q/\ij q<=863999999:=by
 have hd:=den_pos (q:=q);have h6:q.num<=kX*(q.den:Nat):=by
  unfold jQ bB at h4;rw[bI,bA]at h4;split at h4
  . omega
  . split at h4 <;> omega
 unfold ij;rw[Rat.neg_num,Rat.neg_den];have e:kX=863999999:=rfl;rw[e]at h6;have a1:(-q.num)/(q.den:Nat)<0:=Int.ediv_neg_of_neg_of_pos ac hd;have a2 : -863999999<=(-q.num)/(q.den:Nat):=(Int.le_ediv_iff_mul_le hd).2 ac;omega
theorem aen {p q:Rat}(h:tL p q=0):1<=ij q/\ij q<=863999999:=by
 unfold tL kV at h;split at h
 . cases h
 . split at h
   . cases h
   . rename_i h1 h2;have h3:¬bB q.num<=0:=fun k=>h2 (.inr (.inl k))
     have h4:¬0<jQ q kX:=fun k=>h2 (.inr (.inr (decide_eq_true k)))
     have h5:0<q.num:=by
      unfold bB at h3;split at h3
      . omega
      . split at h3 <;> omega
     exact aem h5 h4
noncomputable def Ok:List (Nat×Spec):=[(174,FD),(175,FE),(132,tK)]
noncomputable def FF:Spec:=sK Ok 109
theorem aeo:aZ Tryz.prog gl 109 FF:=bM (aQ aei (aQ aek (aQ Ob bK)))
theorem Rd.top {v va vb:AV}{p q:Rat}(hv:Rd v va vb p q):v.top=0:=by
 obtain⟨_,_,_,_,_,_,_,_,_,_,rfl,_,⟨t1,t2,t3,t4⟩,_⟩:=hv.shape;simp[AV.top,bG,t1,t2,t3,t4]
theorem aep {v va vb:AV}{p q:Rat}(hv:Rd v va vb p q)(hq:Dq 145 q)(hc:1<=ij q/\ij q<=863999999)(c:ax)(h:ae):FF [v,.str c] h=some ⟨mi dY (ij q) [] c,h,[]⟩:=by
 obtain⟨v0,h0,q0⟩:=aej hv.hb hq;obtain rfl:=h0.word ac;exact cE (ads (M:=bz Tryz.prog FT Ok) bL hv q0 (ael _) fun _=>rfl) (fM hv.top rfl) rfl rfl h
noncomputable def qj:List (Nat×Spec):=[(107,yP),(90,jg),(108,FC),(109,FF),(91,kL)]
noncomputable def Ol:Spec:=sK qj 32
theorem aeq:aZ Tryz.prog gl 32 Ol:=bM (aQ aec (aQ NR (aQ aeg (aQ aeo (aQ NS bK)))))
noncomputable def FG:Spec:=sL [(104,yc)] 110
theorem aer:aZ Tryz.prog gl 110 FG:=jN (aQ aaL bK)
theorem Om {a b:ax}(la:a.length<1000000)(lb:b.length<1000000)(v:AV)(h:ae)(hf:dx h v (.vs [.str a,.str b] 2 none)):FG [v] h=some ⟨.iV (if dD a≠0 then dD a else dD b),h,[]⟩:=
 qe (adu (M:=bz Tryz.prog FT [(104,yc)]) (cap:=none) bL a b (fun h=>LZ a h la) (fun h=>LZ b h lb)) rfl rfl rfl (.cons hf .nil)
noncomputable def oc:List (Nat×Spec):=[(110,FG),(48,Fh),(105,mg),(49,Fu)]
noncomputable def yQ:Spec:=sK oc 33
theorem aes:aZ Tryz.prog gl 33 yQ:=bM (aQ aer (aQ acy (aQ Fi (aQ adG bK))))
theorem FH {x y:Int}:cM [x,y]=if x≠0 then x else y:=by
 by_cases h:x=0
 . subst h;by_cases h2:y=0
   . subst h2;rfl
   . simp[cM,h2]
 . simp[cM,h]
theorem aet {a b:ax}(la:a.length<1000000)(lb:b.length<1000000){e:Int}(he:cM [dD a,dD b]=e)(h0:e≠0)(h:ae):yQ [.agg [.str a,.str b]] h=some ⟨.iV e,h,[]⟩:=by
 rw[FH]at he;refine cE (adv (M:=bz Tryz.prog FT oc) bL (fun v h hf=>?_) h0) rfl rfl rfl h;rw[←he];exact Om la lb v h hf
theorem k33 {p q:Rat}(hp:Dq 60 p)(hq:Dq 60 q)(h:ae):yQ [.agg [.str (aW p),.str (aW q)]] h=some ⟨.iV (tL p q),h,[]⟩:=by
 have lp:=nk hp ak ak;have lq:=nk hq ak ak;refine cE (w33 (M:=bz Tryz.prog FT oc) bL (fun v h hf=>?_) (fun h=>Np p q h (hp.mono ak) (hq.mono ak)) (yE p) (yE q) (fun h=>k49 863999999 h ak) (fun h=>Np q kX h (hq.mono ak) (Oh.mono ak))) rfl rfl rfl h;refine(Om lp lq v h hf).trans ?_;rw[xw (k:=60) ak ak hp,xw (k:=60) ak ak hq];rfl
noncomputable def FI:Spec:=sK [(111,qR)] 34
theorem aev:aZ Tryz.prog gl 34 FI:=bM (aQ Oc bK)
theorem On {n:Int}(hn:1<=n/\n<=863999999)(c:ax)(h:ae):qR [fx dY n [],.str c] h=some ⟨mi dY n [] c,h,[]⟩:=if_pos (aef hn)
theorem k34 (c:ax)(h:ae):FI [.str c] h=some ⟨.iV (cU dY 1 [] c),h,[]⟩:=cE (w34 (M:=bz Tryz.prog FT [(111,qR)]) bL c fun h=>On (n:=1) ak c h) rfl rfl rfl h
noncomputable def qk:List (Nat×Spec):=[(113,tF),(114,Fv),(112,Fw),(111,qR)]
noncomputable def FJ:Spec:=sK qk 35
theorem aex:aZ Tryz.prog gl 35 FJ:=bM (aQ No (aQ adK (aQ adM (aQ Oc bK))))
theorem aey (q:Rat) : -qH (-q)=((ij q:Int):Rat):=by
 obtain⟨f1,f2⟩:=xr (-q);exact Rat.ext (by rw[Rat.neg_num,f1,bI];rfl) (by rw[Rat.neg_den,f2,bA])
theorem k35 {p q:Rat}(hq:Dq 145 q)(hc:1<=ij q/\ij q<=863999999)(c:ax)(h:ae):FJ [.agg [.str (aW p),.str (aW q)],.str c] h=some ⟨mi dY (ij q) [] c,h,[]⟩:=by
 refine cE (w35 (M:=bz Tryz.prog FT qk) bL (fun h=>Fj q h hq ak ak) (fun h=>adL (-q) h (hq.neg.mono ak)) (fun h=>Fj _ h hq.neg.floor ak ak) (n:=ij q) (fun h=>?_) (fun h=>On hc c h)) rfl rfl rfl h;rw[aey];exact adN _ h ac
noncomputable def Oo:Spec:=sK [] 31
theorem aeA:aZ Tryz.prog gl 31 Oo:=bM bK
noncomputable def Oq:Spec:=sK [] 36
theorem aeB:aZ Tryz.prog gl 36 Oq:=bM bK
noncomputable def yR:List (Nat×Spec):=[(15,yJ),(25,jg),(31,Oo),(32,Ol),(33,yQ),(34,FI),(35,FJ),(36,Oq)]
theorem aeC:cY Tryz.prog gl (bE yR):=aQ adB (aQ Ts (aQ aeA (aQ aeq (aQ aes (aQ aev (aQ aex (aQ aeB bK)))))))
theorem aeD (a b c:ax)(la:a.length<=20)(lb:b.length<=20):Od (bz Tryz.prog FT yR) a b c:=by
 have C:=FB qj (fun _ _=>rfl) (fun _ _=>rfl);have q108:=aeh c;have q34:=k34 c;by_cases he:cM [dD a,dD b]=0
 . have ⟨ha,hb⟩:dD a=0/\dD b=0:=by
    simp only[cM]at he;split at he
    . split at he <;> constructor <;> omega
    . constructor <;> omega
   obtain⟨p,rfl,hp⟩:=mf ha la;obtain⟨q,rfl,hq⟩:=mf hb lb;have hp:=hp.mono (n:=60) ak;have hq:=hq.mono (n:=60) ak;obtain⟨v,va,vb,hv,q107⟩:=aee hp hq;have q33:=k33 hp hq;obtain⟨e1,he1⟩:∃e1,tL p q=e1:=⟨_,rfl⟩;obtain⟨e2,he2⟩:∃e2,cU dY 1 [] c=e2:=⟨_,rfl⟩;rw[he2]at q108 q34;rw[he1]at q107 q33;by_cases h0:cM [e1,e2]=0
   . obtain⟨rfl,rfl⟩:e1=0/\e2=0:=by
      rw[FH]at h0;split at h0
      . omega
      . constructor <;> omega
     have hc:=aen he1;exact .inr ⟨dF dY (ij q) [] c,dG dY (ij q) [] c,dH dY (ij q) [] c,cU dY (ij q) [] c,fun h=>⟨if_pos h,if_pos h,if_pos h⟩,fun h=>cE (w32 C hv q107 q108 (aep hv (hq.mono ak) hc c)) rfl rfl rfl h,q33,q34,k35 (hq.mono ak) hc c⟩
   . obtain⟨s,w,s',w',t,x,t',x',_,_,hs,ho,_⟩:=hv.shape;exact .inl ⟨e1,e2,_,h0,rfl,fun h=>cE (NP C q107 ⟨_,_,_,_,_,_,_,_,hs,ho⟩ q108 rfl h0) rfl rfl rfl h,q33,q34⟩
 . have q107:=aed (a:=a) (b:=b) ac ac rfl he;have q33:=aet (a:=a) (b:=b) ac ac rfl he;obtain⟨e1,he1⟩:∃e1,cM [dD a,dD b]=e1:=⟨_,rfl⟩;rw[he1]at q107 q33 he;have h0:cM [e1,cU dY 1 [] c]=e1:=by rw[FH,if_pos he]
   exact .inl ⟨e1,_,e1,he,h0,fun h=>cE (NP C q107 ⟨_,_,_,_,_,_,_,_,rfl,ak⟩ q108 h0 he) rfl rfl rfl h,q33,q34⟩
theorem c5:C5 (bz Tryz.prog FT yR) where
 ft:=bL
 Oe:=fun h=>by
  show yJ [] h=_;rfl
 Fz:=fun v h l hi hl=>Oi hi hl
 Of:=fun a b h=>cE (w31 bL a b) rfl rfl rfl h
 od:=fun e m k r h h0=>cE (adX bL h0) rfl rfl rfl h
 Og:=fun k r m h=>cE (w36 bL k r m) rfl rfl rfl h
 all:=fun a b c la lb _=>aeD a b c la lb
end Go.Ab.Ch5.N
