/-
  Own work: the resolved code of some functions of chapter 1: marks.
-/
import Derived.Test.YtmngppcmhfhgaaaGreatDoorLib3
import Derived.Test.YtmngppcmhfhgaaaGreatDoorLib5
import Derived.Test.YtmngppcmhfhgaaaGreatDoorCh5Base
import Derived.Test.YtmngppcmhfhgaaaGreatDoorLib1
import Derived.IntWalk
import Derived.Test.YtmngppcmhfhgaaaGreatDoorCh5Row
import Derived.Test.YtmngppcmhfhgaaaGreatDoorLib4
import Derived.Sort.AssemblyPlain
import Derived.Test.YtmngppcmhfhgaaaGreatDoorLib2
import Derived.Laws.RangeString
import Derived.Lib.DecodeN
open Array renaming toList_setIfInBounds→de
open Bool renaming false_eq_true→cT,false_and→fo,true_and→f6
open Classical renaming not_not→c5
open Int renaming toNat_natCast→bZ,natCast_pow→eL
open List renaming length_append→be,length_cons→bj,length_nil→br,length_set→bA,length_map→b9,drop_eq_getElem_cons→ce,take_append_getElem→cP,drop_zero→cZ,getElem_mem→c6,eq_nil_of_length_eq_zero→c7,nil_append→c9,mem_singleton→dc,append_nil→du,any_eq_false→dz,mem_map→d6,length_take→d7,take_length→d8,getElem_map→d9,map_append→eA,any_cons→fu,map_cons→fY
open Nat renaming le_refl→cD,zero_le→dg
open Rat renaming num_intCast→ci,den_intCast→cC
set_option maxHeartbeats 8000000
set_option maxRecDepth 20000
namespace Go.Ab.Ch5.N
set_option maxRecDepth 1000000
def Od:al:=zR [zx 1 58 3 0,zi 2 0] (.seq (zR [zf 5 0 1,zd 6 1 5,⟨.l 7,.bin .eql (.l 6) (.c (.str zD9)),none⟩] (.cond (.l 7) (.seq (.draw [(zf 8 2 1,[]),(zd 9 1 8,[]),(z1 10 237 9,[]),(zu 11 10,[]),(⟨.l 12,.call (kF 228) [(.l 11),(kI 1)],none⟩,[]),(zf 13 1 1,[0,1,2,3,4]),(zd 14 1 13,[0,1,2,3,4]),(zc 15 .neq 14 0,[0,1,2,3,4]),(⟨.l 16,.call (kF 228) [(.l 15),(kI 3)],none⟩,[]),(⟨.l 17,.dW 28 2 1 [.iV (0)] [(0,1,(.l 12)),(1,1,(.l 16))],none⟩,[]),(z1 18 227 17,[]),(zw 2 18,[])]) (.ret)) (.skip))) (.seq (.draw [(⟨.l 20,.call (kF 186) [],none⟩,[]),(zf 21 0 1,[0]),(zd 22 1 21,[0]),(⟨.l 23,.lookup .str (.agg [.iV (0),.iV (0),.bool false,.ee,.fk]) (.l 20) (.l 22) true,none⟩,[]),(zn 19 23,[]),(ze 24 0 19,[]),(ze 25 1 19,[5]),(⟨.p 3,.alloc 246 [.iV (0),.iV (0),.bool false,.ee,.fk],none⟩,[0,1,2,3,4,5,6]),(zs 5 3 24,[6]),(zw 4 25,[])]) (.seq (.draw [(zm 26 4,[]),(zu 27 26,[]),(⟨.l 28,.call (kF 228) [(.l 27),(kI 13)],none⟩,[]),(zf 29 2 1,[0,1,2]),(zd 30 1 29,[0,1,2]),(⟨.l 31,.bin .neq (.l 30) (.c (.str [])),none⟩,[0,1,2]),(⟨.l 32,.call (kF 228) [(.l 31),(kI 1)],none⟩,[]),(zf 33 1 1,[0,1,2,3,4,5,6]),(zd 34 1 33,[0,1,2,3,4,5,6]),(zf 35 0 3,[0,1,2,3,4,5,6,7,8]),(zd 36 1 35,[0,1,2,3,4,5,6,7,8]),(zf 37 1 3,[0,1,2,3,4,5,6,7,8,9,10]),(zd 38 1 37,[0,1,2,3,4,5,6,7,8,9,10]),(⟨.l 39,.call (kF 238) [(.l 34),(.l 36),(.l 38)],none⟩,[]),(⟨.l 40,.call (kF 228) [(.l 39),(kI 3)],none⟩,[]),(⟨.l 41,.dW 28 3 1 [.iV (0)] [(0,1,(.l 28)),(1,1,(.l 32)),(2,1,(.l 40))],none⟩,[]),(z1 42 227 41,[]),(zw 2 42,[])]) (.ret))))
theorem adY:FT 184=some ⟨43,[0,1,2,3,4],[.var (.p 2)],Od⟩:=by kernel_rfl
def Oe:al:=zR [⟨.p 0,.mv (.c (.ee)),none⟩] (zR [⟨.l 1,.kC,none⟩,⟨.l 2,.kC,none⟩,⟨.no,.jA .str (.l 2) (.c (.str zD7)) (kI 1),none⟩,⟨.no,.jA .str (.l 2) (.c (.str zD3)) (kI 100),none⟩,⟨.no,.jA .str (.l 2) (.c (.str zD8)) (kI 1000),none⟩,zn 3 2,⟨.l 4,.build [.iV (0),.iV (0),.bool false,.ee,.fk] [(0,1,(kI 1)),(1,1,(kI 863999999)),(2,1,(.c (.bool false))),(3,1,(.l 3)),(4,1,(kF 240))],none⟩,⟨.no,.jA .str (.l 1) (.c (.str zD4)) (.l 4),none⟩,⟨.l 5,.kC,none⟩,⟨.no,.jA .str (.l 5) (.c (.str zD7)) (kI 1),none⟩,⟨.no,.jA .str (.l 5) (.c (.str zD10)) (kI 10),none⟩,zn 6 5,⟨.l 7,.build [.iV (0),.iV (0),.bool false,.ee,.fk] [(0,1,(kI 0)),(1,1,(kI 999999)),(2,1,(.c (.bool true))),(3,1,(.l 6)),(4,1,(kF 241))],none⟩,⟨.no,.jA .str (.l 1) (.c (.str zD6)) (.l 7),none⟩,⟨.l 8,.kC,none⟩,⟨.no,.jA .str (.l 8) (.c (.str zD7)) (kI 1),none⟩,zn 9 8,⟨.l 10,.build [.iV (0),.iV (0),.bool false,.ee,.fk] [(0,1,(kI 0)),(1,1,(kI 99999)),(2,1,(.c (.bool true))),(3,1,(.l 9)),(4,1,(kF 242))],none⟩,⟨.no,.jA .str (.l 1) (.c (.str zD5)) (.l 10),none⟩,zn 11 1,zw 0 11] (.ret))
theorem adZ:FT 186=some ⟨12,[0],[.var (.p 0)],Oe⟩:=by kernel_rfl
def Of:al:=zR [⟨.p 1,.mv (.c (.bool false)),none⟩] (zR [⟨.l 3,.dW 9 4 1 [.str []] [(0,1,(.c (.str [68,78,83]))),(1,1,(.c (.str [68,78,70]))),(2,1,(.c (.str [68,81]))),(3,1,(.c (.str [78,77])))],none⟩,zm 4 0,z2 5 185 3 4,zw 1 5] (.ret))
theorem aea:FT 237=some ⟨6,[0,2],[.var (.p 1)],Of⟩:=by kernel_rfl
def Og:al:=zR [zx 2 58 3 0,⟨.p 3,.alloc 58 [.str [],.iV (0),.str []],none⟩,zi 4 0] (.seq (zR [zt 11 3 2,z1 12 184 11,zw 5 12] (zR [zm 13 5,zc 14 .neq 13 0] (.cond (.l 14) (zR [⟨.l 15,.build [.str [],.iV (0),.str []] [],none⟩,zm 16 5,zs 3 3 15,zw 4 16] (.ret)) (.skip)))) (.seq (zR [zf 17 0 2,zd 18 1 17,⟨.l 19,.bin .eql (.l 18) (.c (.str zD9)),none⟩] (.cond (.l 19) (zR [⟨.l 20,.dW 9 4 1 [.str []] [(0,1,(.c (.str zD7))),(1,1,(.c (.str zD3))),(2,1,(.c (.str zD8))),(3,1,(.c (.str zD10)))],none⟩,zm 21 1,z2 22 185 20 21,zw 6 22] (.seq (zR [zm 23 6,zu 24 23] (.cond (.l 24) (zR [⟨.l 25,.build [.str [],.iV (0),.str []] [],none⟩,zs 3 3 25,zi 4 13] (.ret)) (.skip))) (zR [zt 26 3 2,zs 3 3 26,zi 4 0] (.ret)))) (.skip))) (.seq (.draw [(⟨.l 27,.call (kF 186) [],none⟩,[]),(zf 28 0 2,[0]),(zd 29 1 28,[0]),(⟨.l 30,.lookup .str (.agg [.iV (0),.iV (0),.bool false,.ee,.fk]) (.l 27) (.l 29) false,none⟩,[]),(⟨.p 7,.alloc 246 [.iV (0),.iV (0),.bool false,.ee,.fk],none⟩,[0,1,2,3]),(zs 5 7 30,[])]) (zR [zf 32 3 7,zd 33 1 32,zm 34 1,⟨.l 35,.lookup .str (.iV (0)) (.l 33) (.l 34) true,none⟩,zn 31 35,ze 36 0 31,ze 37 1 31,zw 8 36,zw 9 37] (.seq (zR [zm 38 9,zu 39 38] (.cond (.l 39) (zR [⟨.l 40,.build [.str [],.iV (0),.str []] [],none⟩,zs 3 3 40,zi 4 13] (.ret)) (.skip))) (.seq (zR [zf 41 2 7,zd 42 1 41,zu 43 42] (.cond (.l 43) (.region [zf 44 1 2,zd 45 1 44,zm 46 8,zc 47 .sub 46 1,zb 48 .add 45 47,zf 49 1 2,zS 1 49 48]) (.skip))) (.seq (.draw [(zf 50 1 2,[]),(zd 51 1 50,[]),(zf 52 1 2,[0,1]),(zd 53 1 52,[0,1]),(zm 54 8,[0,1,2,3]),(zb 55 .rem 53 54,[0,1]),(zb 56 .sub 51 55,[]),(zf 57 1 2,[]),(zS 1 57 56,[])]) (.seq (zR [zf 58 1 2,zd 59 1 58,zf 60 1 7,zd 61 1 60,zb 62 .gtr 59 61] (.cond (.l 62) (zR [⟨.l 63,.build [.str [],.iV (0),.str []] [],none⟩,zs 3 3 63,zi 4 4] (.ret)) (.skip))) (zR [zt 64 3 2,zs 3 3 64,zi 4 0] (.ret))))))))))
theorem aeb:FT 132=some ⟨65,[0,1,2,4,5,6,7,8,9,10],[.cell 3 true (.p 3),.var (.p 4)],Og⟩:=by kernel_rfl
def Oh:al:=zR [⟨.p 2,.mv (.c (.bool false)),none⟩] (zR [zm 5 0,zm 6 1,z2 7 239 5 6,zc 8 .geq 7 0,zw 2 8] (.ret))
theorem aec:FT 185=some ⟨9,[0,1,4],[.var (.p 2)],Oh⟩:=by kernel_rfl
def zJ:al:=zR [zr 9 .lss 5 4] (.seq (.cond (.l 9) (.skip) (.exit 0)) (.seq (.block 1 (zR [zm 10 5,zw 3 10] (zR [zm 11 1,zm 12 0,zm 13 3,za 14 1 12 13,zd 15 1 14,zb 16 .eql 11 15] (.cond (.l 16) (zR [zm 17 3,zw 2 17] (.ret)) (.skip))))) (.region [zq 18 .add 5 1,zw 5 18])))
def Oi:al:=zR [zi 2 0] (.seq (zR [zm 6 0,⟨.p 4,.len .sl (.l 6),none⟩,zi 5 0] (.block 0 (.loop zJ))) (zR [zi 2 (-1)] (.ret)))
theorem aed:FT 239=some ⟨19,[0,1,4,5,7,8],[.var (.p 2)],Oi⟩:=by kernel_rfl
open Go.Ab.bB
variable {M:ay} {cap:Option Nat} {N:Nat}
variable {c1 c2:Option Nat}
theorem iy.zero {b:Nat}{e:TypeId}{hp:ab}(hb:hp.at b=some (.cells (aj []) e)):iy (bk [.sl b 0 0 1 cap]) (if (bk [.sl b 0 0 1 cap]).top<=0 then [] else hp) []:=by
 rw[if_neg (by simp[bk,AV.top])];refine⟨.vs [] 0 none,⟨[b],.sl (m:=[]) (dc.2 rfl) hb rfl rfl (fun i x y hx=>by simp at hx) (.inr rfl),rfl,fun c l' e' hc hl'=>?_⟩,rfl,rfl⟩;rw[dc.1 hc,hb]at hl';cases hl';exact qK (fun _=>rfl) []
theorem aee (hft:M.FT=FT)(ff:∀ars h,M.ext 236 ars h=none):yX M 257 [.vs (aj []) ([]:List Int).length c1,.vs (aj []) ([]:List Int).length c2] (WV dB []*WV dB []):=by
 refine Fi (by rw[hft];exact MC) ax ?_;have q:=CT.run (fi:=[]) (ca:=[]) (ars:=[.sl 0 0 0 1 (some 0)]) (ff _ _) (Fm hft (b:=0) (L:=[]) (e:=3) (hp:=[some (.cells (aj []) 3)]) (cap:=some 0) rfl);have hl:([]:List Int).length=0:=rfl;unfold Fe;simp only[enter];rw[hl];repeat' first|apply abx|apply aa|apply abr|apply aaL|apply aef|(apply aeX;rfl;rfl;omega)|(apply aiI;rfl;rfl;omega)|(apply abA;rfl;rfl)|(apply abC;rfl;rfl)
 refine W.loop ?_;unfold yU;repeat' first|apply abx|apply aa|apply abr|apply aaL|apply acG|apply aeM|apply bH|apply bJ|apply cA|(apply acM;rfl)|(apply aep;rfl;rfl)|(apply ahW;rfl;rfl;first|exact q)|(apply abA;rfl;rfl)|(apply abC;rfl;rfl)|(intro _;omega)|intro _
 all_goals try omega
 all_goals exact⟨.inr rfl,rfl,_,rfl,[],⟨jr,kR,rfl⟩,iy.zero rfl⟩
open Go.Proofs
theorem da.top {x:AV}{l:List Int}(h:da x l):x.top=0:=(uu x h).2.1
theorem cG.top {v:AV}{z:Int}(h:cG v z):v.top=0:=by
 obtain⟨_,x,_,rfl,_,_,ht,_⟩:=h.shape;simp[AV.top,bO,ht]
theorem Oj {x y:AV}{l m:List Int}(h:ab)(hx:da x l)(hy:da y m)(o1:okW dB l)(o2:okW dB m)(n1:bg l)(n2:bg m)(l1:l.length<1000000)(l2:m.length<1000000):zo [x,y] h=some ⟨.iV (bE (WV dB l-WV dB m)),h,[]⟩:=
 pj (MR bN l m o1 o2 n1 n2 ac ac) rfl rfl rfl (.cons hx.ix (.cons hy.ix .nil))
theorem Gd (x:AV)(a b:List Int)(hx:da x a)(o1:okW dB a)(o2:okW dB b)(n1:bg a)(n2:bg b)(l1:a.length<100000)(l2:b.length<100000)(hb:b≠[]) :
 ∃qv q rv r,da qv q/\da rv r/\okW dB q/\bg q/\okW dB r/\bg r/\WV dB q=WV dB a/WV dB b/\WV dB r=WV dB a%WV dB b/\∀h,rM [x,.vs (aj b) b.length none] h=some ⟨.aw [qv,rv],h,[]⟩:=by
 rcases hx with rfl|⟨rfl,rfl⟩
 . obtain⟨q,r,⟨h1,h2,h3⟩,⟨h4,h5,h6⟩,v,hh,⟨v1,x,y,f,t,k,i1,i2⟩,hr⟩:=MZ (c1:=none) (c2:=none) Nn a b o1 o2 n1 n2 l1 l2 hb;exact⟨x,q,y,r,i1,i2,h1,h2,h4,h5,h3,h6,fun h=>sY ⟨v,hh,v1,hr,f,gq (fU a) (fU b),t,k⟩⟩
 . have bp:=(jP (b:=dB) ao o2 n2).2 hb;have e:bE (WV dB []-WV dB b) = -1:=if_pos (by show (0:Int)-WV dB b<0;omega);refine⟨.ah,[],.ah,[],.inr ⟨rfl,rfl⟩,.inr ⟨rfl,rfl⟩,o1,n1,o1,n1,(Int.zero_ediv _).symm,(Int.zero_emod _).symm,fun h=>?_⟩;refine cS (adC (M:=bD Tryz.prog FT zy) (c2:=none) bN b fun h=>?_) (gq rfl (fU b)) rfl rfl h;rw[←e];exact Oj h (.inr ⟨rfl,rfl⟩) (.inl rfl) o1 o2 n1 n2 (by show (0:Nat)<_;omega) ac
theorem cCg:NR (bD Tryz.prog FT [(224,rM)]) where
 ft:=bN
 lW:=Gd
theorem Ol {x y:AV}(a b:List Int)(hx:da x a)(hy:da y b)(oa:okW dB a)(ob:okW dB b)(na:bg a)(nb:bg b)(la:a.length<100000)(lb:b.length<100000):∃gv g,da gv g/\okW dB g/\bg g/\WV dB g=(Int.gcd (WV dB a) (WV dB b):Nat)/\g.length<100000/\∀h,zz [x,y] h=some ⟨gv,h,[]⟩:=by
 obtain⟨gv,g,h1,h2,h3,h4,h5,hr⟩:=adD cCg a b hx hy oa ob na nb la lb;exact⟨gv,g,h1,h2,h3,h4,h5,eE hr (gq hx.top hy.top)⟩
noncomputable def Om:Spec:=sL [] 300
theorem aeg:bl Tryz.prog gl 300 Om:=jS bP
noncomputable def zK:List (Nat×Spec):=[(300,Om)]
theorem On:cW Tryz.prog gl (bM zK):=aX aeg bP
theorem Oo:FN (bD Tryz.prog FT zK) where
 ft:=bN
 zC:=fun a c i _h hi=>pj (adg (M:=bD Tryz.prog FT []) (c1:=c) bN a i hi) rfl rfl rfl (.cons (zk a) (.cons (.atom rfl) .nil))
 ff:=fun _ _=>rfl
noncomputable def Oq:Spec:=sL zK 233
noncomputable def Ot:Spec:=sL zK 256
noncomputable def zM:Spec:=sK [] 183
theorem aeh:bl Tryz.prog gl 233 Oq:=jS On
theorem aei:bl Tryz.prog gl 256 Ot:=jS On
theorem Ou:bl Tryz.prog gl 183 zM:=bQ bP
theorem Ge:∀neg x l,da x l->okW dB l->l.length<1000000000->∃v0,cG v0 (cd neg (WV dB l))/\∀h,zM [.bool neg,x] h=some ⟨v0,h,[]⟩:=fun neg x l hx ok hl=>by
 obtain⟨v0,h1,h2⟩:=adn (M:=bD Tryz.prog FT []) bN (fun _ _=>rfl) neg hx ok hl;exact⟨v0,h1,eE h2 (gq rfl hx.top)⟩
noncomputable def uB:List (Nat×Spec):=[(233,Oq),(256,Ot),(255,zo),(257,FC),(183,zM)]
theorem Gf:cW Tryz.prog gl (bM uB):=aX aeh (aX aei (aX Nl (aX Nm (aX Ou bP))))
theorem Gg:zD (bD Tryz.prog FT uB) where
 ft:=bN
 NJ:=fun l m k1 k2 o1 o2 l1 l2=>by
  obtain⟨r,⟨h1,h2,h3⟩,v,hh,⟨v1,f,t,k⟩,hr⟩:=adk (c1:=k1) (c2:=k2) Oo l m o1 o2 l1 l2;exact⟨r,h1,h2,h3,fun x y h hx hy=>nC (.cons hx (.cons hy .nil)) ⟨v,hh,v1,hr,f,t,k⟩⟩
 FO:=fun l m o1 o2 n1 n2 l1 l2 hle=>by
  have hlen:m.length<=l.length:=ib (b:=dB) ao o2 n2 (Int.lt_of_le_of_lt hle (dU ao o1));obtain⟨r,⟨h1,h2,h3⟩,v,hh,⟨v1,f,t,k⟩,hr⟩:=adl (c1:=none) (c2:=none) Oo l m o1 o2 l1 hlen hle;exact⟨r,h1,h2,h3,fun x y h hx hy=>nC (.cons hx.ix (.cons hy.ix .nil)) ⟨v,hh,v1,hr,f,t,k⟩⟩
 uv:=fun l m x y h o1 o2 n1 n2 l1 l2 hx hy=>Oj h hx hy o1 o2 n1 n2 l1 l2
 rH:=fun l m o1 o2 l1 l2=>by
  by_cases h0:0<l.length+m.length
  . obtain⟨r,⟨h1,h2,h3⟩,v,hh,⟨v1,f,t,k⟩,hr⟩:=MU (M:=bD Tryz.prog FT []) (c1:=none) (c2:=none) bN (fun _ _=>rfl) l m o1 o2 ac ac h0;exact⟨r,h1,h2,h3,fun x y h hx hy=>nC (.cons hx.ix (.cons hy.ix .nil)) ⟨v,hh,v1,hr,f,t,k⟩⟩
  . obtain⟨rfl,rfl⟩:l=[]/\m=[]:=⟨c7 ac,c7 ac⟩;obtain⟨r,⟨h1,h2,h3⟩,v,hh,⟨v1,f,t,k⟩,hr⟩:=aee (M:=bD Tryz.prog FT []) (c1:=none) (c2:=none) bN (fun _ _=>rfl);exact⟨r,h1,h2,h3,fun x y h hx hy=>nC (.cons hx.ix (.cons hy.ix .nil)) ⟨v,hh,v1,hr,f,t,k⟩⟩
 lf:=Ge
noncomputable def Gh:Spec:=sK uB 193
noncomputable def Gi:Spec:=sK uB 194
noncomputable def Gj:Spec:=sK uB 254
theorem aej:bl Tryz.prog gl 193 Gh:=bQ Gf
theorem aek:bl Tryz.prog gl 194 Gi:=bQ Gf
theorem ael:bl Tryz.prog gl 254 Gj:=bQ Gf
theorem Ov {a:AV}{z:Int}(ha:cG a z)(l:ak z<dB^100):∃v0,cG v0 (-z)/\∀h,Gj [a] h=some ⟨v0,h,[]⟩:=by
 obtain⟨v0,h1,h2⟩:=ado Gg ha l ao;exact⟨v0,h1,eE h2 (km ha.top)⟩
theorem aem {a b:AV}{x y:Int}(ha:cG a x)(hb:cG b y)(la:ak x<dB^100)(lb:ak y<dB^100):∃v0,cG v0 (x*y)/\∀h,Gi [a,b] h=some ⟨v0,h,[]⟩:=by
 obtain⟨v0,h1,h2⟩:=adp Gg ha hb la lb ao;exact⟨v0,h1,eE h2 (gq ha.top hb.top)⟩
theorem aen {a b:AV}{x y:Int}(ha:cG a x)(hb:cG b y)(la:ak x<dB^100)(lb:ak y<dB^100):∃v0,cG v0 (x+y)/\∀h,Gh [a,b] h=some ⟨v0,h,[]⟩:=by
 obtain⟨v0,h1,h2⟩:=adr Gg ha hb la lb ao;exact⟨v0,h1,eE h2 (gq ha.top hb.top)⟩
noncomputable def uD:Spec:=sK [] 182
noncomputable def uE:Spec:=sK [] 130
noncomputable def Ow:Spec:=sK [] 202
noncomputable def zN:Spec:=sK [(182,uD)] 129
theorem Ox:bl Tryz.prog gl 182 uD:=bQ bP
theorem Gk:bl Tryz.prog gl 130 uE:=bQ bP
theorem aeo:bl Tryz.prog gl 202 Ow:=bQ bP
theorem Oy:bl Tryz.prog gl 129 zN:=bQ (aX Ox bP)
theorem Oz (n:Nat)(h:ab)(hn:n<9223372036854775808):uD [.iV (n:Nat),.iV 1] h=some ⟨.str (bw n),h,[]⟩:=cS (adu bN n hn) rfl rfl rfl h
theorem cTx:NL (bD Tryz.prog FT [(182,uD)]) where
 ft:=bN
 NM:=fun n h hn=>Oz n h ac
 NN:=fun n h hn=>cS (adv bN n hn) rfl rfl rfl h
theorem Gl {a:AV}{z:Int}(h:ab)(ha:cG a z)(l:ak z<dB^100):zN [a] h=some ⟨.str (cY z),h,[]⟩:=cS (adw cTx ha l ao) (km ha.top) rfl rfl h
theorem Gm (n:Int)(hn : -9223372036854775808<=n/\n<9223372036854775808):∃v0,cG v0 n/\∀h,uE [.iV n] h=some ⟨v0,h,[]⟩:=by
 obtain⟨v0,h1,h2⟩:=adB (M:=bD Tryz.prog FT []) ⟨bN,fun _ _=>rfl,fun _ _=>rfl⟩ n hn;exact⟨v0,h1,eE h2 rfl⟩
noncomputable def zO:List (Nat×Spec):=[(254,Gj),(171,zz),(224,rM),(183,zM),(129,zN)]
theorem OA:cW Tryz.prog gl (bM zO):=aX ael (aX Np (aX No (aX Ou (aX Oy bP))))
theorem cFn:zE (bD Tryz.prog FT zO) 100 where
 ft:=bN
 zF:=Ov
 rJ:=Ol
 lW:=Gd
 lf:=Ge
 zG:=Gl
noncomputable def zQ:Spec:=sK zO 192
theorem OB:bl Tryz.prog gl 192 zQ:=bQ OA
theorem OC {a b:AV}{x y:Int}(h:ab)(ha:cG a x)(hb:cG b y)(la:ak x<dB^100)(lb:ak y<dB^100)(h0:y≠0):zQ [a,b] h=some ⟨.str (aT (Rat.divInt x y)),h,[]⟩:=
 cS (adG cFn ao ha hb la lb h0) (gq ha.top hb.top) rfl rfl h
noncomputable def Gn:List (Nat×Spec):=(202,Ow)::(182,uD)::(130,uE)::(192,zQ)::zO
theorem aer:cW Tryz.prog gl (bM Gn):=aX aeo (aX Ox (aX Gk (aX OB OA)))
theorem cOf:FV (bD Tryz.prog FT Gn) 100 where
 ft:=bN
 zF:=Ov
 rJ:=Ol
 lW:=Gd
 lf:=Ge
 zG:=Gl
 NT:=fun a b h ha hb=>cS (adH bN a b ha hb) rfl rfl rfl h
 FW:=Oz
 FX:=Gm
 uz:=OC
noncomputable def Gp:Spec:=sK Gn 149
theorem aet:bl Tryz.prog gl 149 Gp:=bQ aer
theorem aeu (n d:Int)(h:ab)(hn : -9223372036854775808<=n/\n<9223372036854775808)(hd : -9223372036854775808<=d/\d<9223372036854775808)(h0:d≠0):Gp [.iV n,.iV d] h=some ⟨.str (aT (Rat.divInt n d)),h,[]⟩:=
 cS (adI cOf ao hn hd h0) rfl rfl rfl h
noncomputable def OD:List (Nat×Spec):=[(152,lZ),(232,yZ)]
theorem cQk:NZ (bD Tryz.prog FT OD) where
 ft:=bN
 uw:=fun s h hl=>rL s h hl
 pM:=fun s h hl hd=>Nf s h hl hd
noncomputable def OE:Spec:=sK OD 191
theorem aew:bl Tryz.prog gl 191 OE:=bQ (aX rK (aX Nd bP))
noncomputable def Gq:List (Nat×Spec):=[(152,lZ),(178,zh),(130,uE)]
noncomputable def Gr:Spec:=sK Gq 170
theorem aex:bl Tryz.prog gl 170 Gr:=bQ (aX rK (aX Nh (aX Gk bP)))
theorem aey (z:Int):preB 45 (cY z)=decide (z<0)/\bW 45 (cY z)=bw (ak z).toNat:=by
 have h:=pH (z:Rat);rw[rO,ci,cC,if_pos rfl]at h;exact h
theorem aez (q:Rat)(hl:(aT q).length<1000000):∃v1 v2,cG v1 q.num/\cG v2 (q.den:Nat)/\∀h,Gr [.str (aT q)] h=some ⟨.aw [v1,v2],h,[]⟩:=by
 obtain⟨e1,e2,_,_,e3,e4⟩:=pP q;obtain⟨p1,p2⟩:=aey q.num;obtain⟨d1,d2⟩:=FB (ko q.den);have hk:=um (aT q);obtain⟨v1,k1,q1⟩:=zj (cY q.num) (by rw[←e1];omega) (by rw[p2];exact ko _);have k1:=k1.uq;rw[p1,p2,jv]at k1;have en:(if decide (q.num<0)=true then -((ak q.num).toNat:Int) else ((ak q.num).toNat:Int))=q.num:=by
  unfold ak;by_cases h:q.num<0
  . simp only[h,decide_true,if_true];omega
  . simp only[h,decide_false];show ((q.num.toNat:Nat):Int)=_;omega
 rw[en]at k1;have q152:=fun h=>rL (aT q) h hl
 by_cases hd:q.den=1
 . obtain⟨v2,k2,q2⟩:=Gm 1 ao;rw[decide_eq_false (fun h=>h hd)]at e3;have es:aT q=cY q.num:=if_pos hd;refine⟨v1,v2,k1,by rw[hd];exact k2,eE (adE (M:=bD Tryz.prog FT Gq) bN (aT q) hl e3 q152 k1 k2 (by rw[es];exact q1) q2) rfl⟩
 . rw[if_neg hd]at e4;obtain⟨v2,k2,q2⟩:=zj (bw q.den) (by
    have e:(aT q).length=(cY q.num).length+1+(bw q.den).length:=by
     unfold aT;rw[if_neg hd,be,bj];omega
    omega) (by rw[d2];exact ko _)
   have k2:=k2.uq;rw[d1,d2,jv,if_neg ao]at k2;rw[decide_eq_true hd]at e3;refine⟨v1,v2,k1,k2,eE (MQ (M:=bD Tryz.prog FT Gq) bN (aT q) hl e3 q152 k1 k2 (by rw[e4];exact q1) (by rw[e4];exact q2)) rfl⟩
noncomputable def Gs:List (Nat×Spec):=[(191,OE),(170,Gr),(194,Gi),(193,Gh),(192,zQ),(149,Gp)]
theorem aeA:cW Tryz.prog gl (bM Gs):=aX aew (aX aex (aX aek (aX aej (aX OB (aX aet bP)))))
theorem cAd:Oa (bD Tryz.prog FT Gs) 100 where
 ft:=bN
 Gb:=fun q hl=>by
  obtain⟨n,d,b,h1,h2⟩:=adU cQk hl;exact⟨n,d,b,h1,fun h=>cS h2 rfl rfl rfl h⟩
 rI:=aez
 zI:=aem
 Ob:=aen
 uz:=OC
 Oc:=aeu
theorem k50:(10:Int)^(2*201+1)<=dB^100:=by rw[show 2*201+1=200+203 from rfl,Int.pow_add];decide
theorem pQ {k:Nat}{q:Rat}(h:Dq k q)(h0:0<k)(hk:k<=600):(aT q).length<1000000:=by
 have:=Ma (h.lq (N:=601) h0 ac);omega
noncomputable def zU:Spec:=sK Gs 139
noncomputable def lh:Spec:=sK [] 105
noncomputable def zV:Spec:=sK [(105,lh)] 113
noncomputable def zW:Spec:=sK [(113,zV),(139,zU)] 128
noncomputable def zX:Spec:=sK [(128,zW),(105,lh)] 48
theorem aeD:bl Tryz.prog gl 139 zU:=bQ aeA
theorem zY:bl Tryz.prog gl 105 lh:=bQ bP
theorem aeE:bl Tryz.prog gl 113 zV:=bQ (aX zY bP)
theorem aeF:bl Tryz.prog gl 128 zW:=bQ (aX aeE (aX aeD bP))
theorem OF:bl Tryz.prog gl 48 zX:=bQ (aX aeF (aX zY bP))
theorem aeG (p q:Rat)(h:ab)(hp:Dq 201 p)(hq:Dq 201 q):zU [.str (aT p),.str (aT q)] h=some ⟨.str (aT (p+q)),h,[]⟩:=
 cS (adV cAd k50 hp hq (pQ hp ao ao) (pQ hq ao ao)) rfl rfl rfl h
theorem uF (q:Rat)(h:ab):lh [.str (aT q)] h=some ⟨.iV (bE q.num),h,[]⟩:=cS (adN bN q) rfl rfl rfl h
theorem aeH {k:Nat}(q:Rat)(h:ab)(hq:Dq k q)(h0:0<k)(hk:k<=600):zV [.str (aT q)] h=some ⟨.str (aT (-q)),h,[]⟩:=
 cS (adO (M:=bD Tryz.prog FT [(105,lh)]) bN (pQ hq h0 hk) (uF q)) rfl rfl rfl h
theorem aeI (p q:Rat)(h:ab)(hp:Dq 201 p)(hq:Dq 201 q):zW [.str (aT p),.str (aT q)] h=some ⟨.str (aT (p-q)),h,[]⟩:=
 cS (adW (M:=bD Tryz.prog FT [(113,zV),(139,zU)]) bN (fun h=>aeH q h hq ao ao) (fun h=>aeG p (-q) h hp hq.neg)) rfl rfl rfl h
theorem zZ (p q:Rat)(h:ab)(hp:Dq 201 p)(hq:Dq 201 q):zX [.str (aT p),.str (aT q)] h=some ⟨.iV (jh p q),h,[]⟩:=by
 have e:bE (p-q).num=jh p q:=by rw[←Mh,abg]
 rw[←e];exact cS (w48 (M:=bD Tryz.prog FT [(128,zW),(105,lh)]) bN (fun h=>aeI p q h hp hq) (uF _)) rfl rfl rfl h
noncomputable def OG:Spec:=sK [(105,lh)] 125
noncomputable def OH:Spec:=sK [(152,lZ)] 126
noncomputable def OI:Spec:=sK [(152,lZ)] 127
theorem aeJ:bl Tryz.prog gl 125 OG:=bQ (aX zY bP)
theorem aeK:bl Tryz.prog gl 126 OH:=bQ (aX rK bP)
theorem aeL:bl Tryz.prog gl 127 OI:=bQ (aX rK bP)
end Go.Ab.Ch5.N

/-
  Own work: plain facts on stable sorting by blocks that are merged in place.
-/
namespace Go.Ab.Sort
section
variable {key:Int->Int}
end
end Go.Ab.Sort

/-
  Own work: the resolved code of some functions of chapter 1: shares and the stable sort.
-/
namespace Go.Ab.Ch5.N
set_option maxRecDepth 1000000
open Go.Ab.Sort
variable {M:ay} {h:ab} {b n:Nat} {cap:Option Nat} {g:AV}
variable {key:Int->Int} {ok:Int->Prop} {cf:Int->Int->Int}
open Go.Ab.bB
variable {N:Nat}
theorem w49 (hft:M.FT=FT){n:Int}{v:AV}(q130:∀h,M.ext 130 [.iV n] h=some ⟨v,h,[]⟩)(q129:∀h,M.ext 129 [v] h=some ⟨.str (cY n),h,[]⟩):bm M 49 [.iV n] [] ⟨.str (aT (n:Rat)),[],[]⟩:=by
 rw[rO];refine bX (by rw[hft];exact acX) ax ?_;unfold NB;simp only[enter];repeat' first|apply abx|apply aa|apply abr|apply aaL|apply acG|(apply adX;rfl;rfl;first|exact q130 _|exact q129 _)|(apply abA;rfl;rfl)|(apply abC;rfl;rfl)
 all_goals exact⟨.inr rfl,rfl,_,rfl,rfl,rfl⟩
end Go.Ab.Ch5.N

/-
  Own work: the resolved code of some functions of chapter 5: starts.
-/
namespace Go.Ab.Ch5
def OJ:al:=zR [zx 3 3 1 2,zi 4 0,zi 5 0] (zR [zm 11 0,⟨.l 12,.call (kF 119) [(.l 11),(kF 120)],none⟩,zw 6 12] (.seq (.seq (.draw [(zm 13 0,[]),(zl 14 13,[]),(zc 15 .gtr 14 1000,[]),(⟨.l 16,.call (kF 91) [(.l 15),(kI 5)],none⟩,[]),(zm 17 6,[0,1,2,3]),(⟨.l 18,.call (kF 91) [(.l 17),(kI 3)],none⟩,[]),(zm 19 1,[0,1,2,3,4,5]),(⟨.l 20,.call (kF 121) [(.l 19),(kI 1),(kI 10000)],none⟩,[]),(⟨.l 21,.load 1 false (.p 3),none⟩,[0,1,2,3,4,5,6,7]),(⟨.l 22,.call (kF 121) [(.l 21),(kI 0),(kI 999999999)],none⟩,[]),(⟨.l 23,.dW 28 4 1 [.iV (0)] [(0,1,(.l 16)),(1,1,(.l 18)),(2,1,(.l 20)),(3,1,(.l 22))],none⟩,[]),(z1 24 90 23,[]),(zw 7 24,[])]) (zR [zm 25 7,zc 26 .neq 25 0] (.cond (.l 26) (zR [zm 27 7,zi 4 0,zw 5 27] (.ret)) (.skip)))) (zR [zm 28 0,⟨.l 29,.se (.func 123) [] [(.p 3)],none⟩,z2 30 122 28 29,zw 8 30] (.seq (zR [zm 31 8,zc 32 .lss 31 0] (.cond (.l 32) (zR [zi 4 0,zi 5 7] (.ret)) (.skip))) (zR [zm 33 8,zm 34 1,zb 35 .mul 33 34,zw 4 35,zi 5 0] (.ret))))))
theorem aeN:FT 39=some ⟨36,[0,1,2,5,6,7,8,9,10],[.var (.p 4),.var (.p 5)],OJ⟩:=by kernel_rfl
def uG:al:=.seq (zR [zm 11 4,zm 12 0,zl 13 12,zb 14 .lss 11 13] (.cond (.l 14) (.skip) (.exit 0))) (.seq (.block 1 (zR [zm 17 0,zm 18 4,za 19 1 17 18,zd 20 1 19,⟨.l 21,.call (kF 87) [(.l 20),(kI 0),(kI 999999999)],none⟩] (.cond (.l 21) (zR [zi 3 3] (.ret)) (.skip)))) (.region [zm 15 4,zc 16 .add 15 1,zw 4 16]))
def OK:al:=zR [zi 3 0] (.seq (zR [zm 8 0,zl 9 8,zc 10 .gtr 9 1000] (.cond (.l 10) (zR [zi 3 5] (.ret)) (.skip))) (.seq (zR [zi 4 0] (.block 0 (.loop uG))) (.seq (zR [zm 22 1,⟨.l 23,.call (kF 87) [(.l 22),(kI 1),(kI 10000)],none⟩,zn 24 23,zg (zm 25 2) 24 false,⟨.l 26,.call (kF 87) [(.l 25),(kI 0),(kI 999999999)],some ((.l 24),false)⟩,zP 27 24 26] (.cond (.l 27) (zR [zi 3 3] (.ret)) (.skip))) (zR [zi 3 0] (.ret)))))
theorem aeO:FT 40=some ⟨28,[0,1,2,6,7],[.var (.p 3)],OK⟩:=by kernel_rfl
def OL:al:=zR [⟨.p 3,.mv (.c (.bool false)),none⟩] (zR [zm 7 0,zm 8 1,zb 9 .lss 7 8,zn 10 9,zg (zm 11 0) 10 false,zg (zm 12 2) 10 false,zg (zb 13 .gtr 11 12) 10 false,zP 14 10 13,zw 3 14] (.ret))
theorem aeP:FT 87=some ⟨15,[0,1,2,6],[.var (.p 3)],OL⟩:=by kernel_rfl
def Aa:al:=zR [zr 8 .lss 5 4] (.seq (.cond (.l 8) (.skip) (.exit 0)) (.seq (.block 1 (zR [⟨.l 9,.dE none 1 (.p 3) (.p 5),none⟩,zd 10 1 9,zw 2 10] (zR [zm 11 2,zc 12 .neq 11 0] (.cond (.l 12) (zR [zm 13 2,zw 1 13] (.ret)) (.skip))))) (.region [zq 14 .add 5 1,zw 5 14])))
def OM:al:=zR [zi 1 0] (.seq (zR [⟨.p 3,.mv (.p 0),none⟩,⟨.p 4,.len .sl (.p 3),none⟩,zi 5 0] (.block 0 (.loop Aa))) (zR [zi 1 0] (.ret)))
theorem aeQ:FT 90=some ⟨15,[0,2,4,5,6,7],[.var (.p 1)],OM⟩:=by kernel_rfl
def ON:al:=zR [zi 2 0] (.seq (zR [zm 5 0] (.cond (.l 5) (zR [zm 6 1,zw 2 6] (.ret)) (.skip))) (zR [zi 2 0] (.ret)))
theorem aeR:FT 91=some ⟨7,[0,1,4],[.var (.p 2)],ON⟩:=by kernel_rfl
def OO:al:=zR [⟨.p 2,.mv (.c (.bool false)),none⟩] (zR [zm 5 0,zm 6 1,z2 7 122 5 6,zc 8 .geq 7 0,zw 2 8] (.ret))
theorem aeS:FT 119=some ⟨9,[0,1,4],[.var (.p 2)],OO⟩:=by kernel_rfl
def OP:al:=zR [⟨.p 1,.mv (.c (.bool false)),none⟩] (zR [zm 3 0,zc 4 .lss 3 0,zn 5 4,zg (zm 6 0) 5 false,zg (zc 7 .gtr 6 999999999) 5 false,zP 8 5 7,zw 1 8] (.ret))
theorem aeT:FT 120=some ⟨9,[0,2],[.var (.p 1)],OP⟩:=by kernel_rfl
def OQ:al:=zR [zi 3 0] (zR [zm 7 0,zm 8 1,zb 9 .lss 7 8,zn 10 9,zg (zm 11 0) 10 false,zg (zm 12 2) 10 false,zg (zb 13 .gtr 11 12) 10 false,zP 14 10 13,⟨.l 15,.call (kF 91) [(.l 14),(kI 3)],none⟩,zw 3 15] (.ret))
theorem aeU:FT 121=some ⟨16,[0,1,2,6],[.var (.p 3)],OQ⟩:=by kernel_rfl
def uH:al:=zR [zr 9 .lss 5 4] (.seq (.cond (.l 9) (.skip) (.exit 0)) (.seq (.block 1 (zR [zm 10 5,zw 3 10] (zR [zm 11 1,zm 12 0,zm 13 3,za 14 1 12 13,zd 15 1 14,⟨.l 16,.call (.l 11) [(.l 15)],none⟩] (.cond (.l 16) (zR [zm 17 3,zw 2 17] (.ret)) (.skip))))) (.region [zq 18 .add 5 1,zw 5 18])))
def OR:al:=zR [zi 2 0] (.seq (zR [zm 6 0,⟨.p 4,.len .sl (.l 6),none⟩,zi 5 0] (.block 0 (.loop uH))) (zR [zi 2 (-1)] (.ret)))
theorem aeV:FT 122=some ⟨19,[0,1,4,5,7,8],[.var (.p 2)],OR⟩:=by kernel_rfl
def OS:al:=zR [⟨.p 2,.mv (.c (.bool false)),none⟩] (zR [zm 4 0,⟨.l 5,.load 1 false (.p 1),none⟩,zb 6 .gtr 4 5,zw 2 6] (.ret))
theorem aeW:FT 123=some ⟨7,[0,1,3],[.var (.p 2)],OS⟩:=by kernel_rfl
variable {M:ay} {cap:Option Nat}
abbrev ic (k:Nat):AV:=.fn (.func k) [] []
def dF (x lo hi:Int):Bool:=decide (x<lo) || decide (hi<x)
theorem w87 (hft:M.FT=FT)(x lo hi:Int):bm M 87 [.iV x,.iV lo,.iV hi] [] ⟨.bool (dF x lo hi),[],[]⟩:=by
 refine bX (by rw[hft];exact aeP) ax ?_;unfold OL;simp only[enter];repeat' first|apply abx|apply aa|apply abr|apply aaL|apply acG|(apply ahQ;rfl)|(apply aid;rfl)|(apply aep;rfl;rfl)|(apply aeq;rfl;rfl)|(apply aeB;rfl;rfl)|(apply aeC;rfl;rfl)|(apply abA;rfl;rfl)|(apply abC;rfl;rfl)|(intro _;omega)|intro _
 all_goals exact⟨.inr rfl,rfl,_,rfl,congrArg AV.bool (by simp_all [dF]),rfl⟩
theorem OT (hft:M.FT=FT)(t:Bool)(e:Int):bm M 91 [.bool t,.iV e] [] ⟨.iV (if t then e else 0),[],[]⟩:=by
 refine bX (by rw[hft];exact aeR) ax ?_;unfold ON;simp only[enter];cases t;all_goals
  repeat' first|apply abx|apply aa|apply abr|apply aaL|apply acG|apply adA|apply ba|(apply acO;rfl)|(apply acM;rfl)|(apply abA;rfl;rfl)|(apply abC;rfl;rfl)
 all_goals exact⟨.inr rfl,rfl,_,rfl,rfl,rfl⟩
theorem aeY (hft:M.FT=FT)(h91:∀t e h,M.ext 91 [.bool t,.iV e] h=some ⟨.iV (if t then e else 0),h,[]⟩)(x lo hi:Int):bm M 121 [.iV x,.iV lo,.iV hi] [] ⟨.iV (if dF x lo hi then 3 else 0),[],[]⟩:=by
 have q1:=h91 true 3;have q2:=h91 false 3;refine bX (by rw[hft];exact aeU) ax ?_;unfold OQ;simp only[enter];repeat' first|apply abx|apply aa|apply abr|apply aaL|apply acG|(apply ahQ;rfl)|(apply aid;rfl)|(apply aep;rfl;rfl)|(apply aeq;rfl;rfl)|(apply aeB;rfl;rfl)|(apply aeC;rfl;rfl)|(apply adX;rfl;rfl;first|exact q1 _|exact q2 _)|(apply abA;rfl;rfl)|(apply abC;rfl;rfl)|(intro _;omega)|intro _
 all_goals exact⟨.inr rfl,rfl,_,rfl,congrArg (AV.int .i64) (by simp_all [dF]),rfl⟩
def dM:List Int->Int
 | []=>0
 | e::r=>if e=0 then dM r else e
theorem Dt {l:List Int}{i:Nat}(h:i<l.length):dM (l.drop i)=if l[i]! = 0 then dM (l.drop (i+1)) else l[i]! := by
 rw[ce h,getElem!_pos l i h,dM]
theorem OU (l:List Int)(hl:l.length<4611686018427387904){Q:Ex->au->Prop}:∀(r i:Nat) (a2:AV) (lo:List (Nat×AV)) (wr:List Nat),i+r=l.length ->
 (dM (l.drop i)=0->∀a2 lo wr,Q (.exit 0) ⟨⟨[.vs (ints l) l.length cap,.iV 0,a2,.vs (ints l) l.length cap,.iV l.length,.iV l.length],lo,[],[]⟩,wr⟩) ->
 (∀a2 a5 lo wr,Q .ret ⟨⟨[.vs (ints l) l.length cap,.iV (dM (l.drop i)),a2,.vs (ints l) l.length cap,.iV l.length,a5],lo,[],[]⟩,wr⟩) ->
 W M (.loop Aa) ⟨⟨[.vs (ints l) l.length cap,.iV 0,a2,.vs (ints l) l.length cap,.iV l.length,.iV i],lo,[],[]⟩,wr⟩ Q
 | 0,i,a2,lo,wr,hi,h1,h2=>by
  obtain rfl:i=l.length:=by omega
  refine W.loop ?_;unfold Aa;repeat' first|apply abx|apply aa|apply abr|apply aaL|apply aeM|apply bH|apply cA|(apply acM;rfl)|(apply aep;rfl;rfl)|(intro _;omega)|intro _
  exact h1 (by simp[dM]) _ _ _
 | r+1,i,a2,lo,wr,hi,h1,h2=>by
  have e:=Dt (l:=l) (i:=(i:Int).toNat) ac;rw[bZ]at e;refine W.loop ?_;unfold Aa;repeat' first|apply abx|apply aa|apply abr|apply aaL|apply aef|apply acG|apply adA|apply ba|apply bC|apply cn|apply dr|(apply acO;rfl)|(apply acM;rfl)|(apply aep;rfl;rfl)|(apply agx;rfl;rfl)|(apply aeX;rfl;rfl;omega)|(apply ahT;rfl;rfl;omega)|(apply aib;rfl;exact fun _=>rfl;(first|omega|(simp only[bA];omega)|(simp;omega));decide;rfl;case ia=>infer_instance)|(apply abA;rfl;rfl)|(apply abC;rfl;rfl)|(intro _;omega)|intro _
  . rename_i he;rw[bZ]at he;rw[if_neg he]at e;rw[e]at h2;exact h2 _ _ _ _
  . rename_i he;rw[bZ]at he;rw[if_pos he]at e;rw[e]at h1 h2;exact fX (OU l hl r (i+1) _ _ _ ac h1 h2)
theorem OV (hft:M.FT=FT)(l:List Int)(hl:l.length<4611686018427387904):bm M 90 [.vs (ints l) l.length cap] [] ⟨.iV (dM l),[],[]⟩:=by
 refine bX (by rw[hft];exact aeQ) ax ?_;unfold OM;simp only[enter];repeat' first|apply abx|apply aa|apply abr|apply aaL|apply aef|(apply abC;rfl;rfl)
 refine OU l hl l.length 0 _ _ _ ac (fun h a2 lo wr=>?_) (fun a2 a5 lo wr=>?_)
 . repeat' first|apply abx|apply aa|apply abr|apply aaL|apply acG|apply bJ|(apply abC;rfl;rfl)
   exact⟨.inr rfl,rfl,_,rfl,by rw[cZ]at h;rw[h];rfl,rfl⟩
 . repeat' first|apply ba|apply cn
   exact⟨.inr rfl,rfl,_,rfl,rfl,rfl⟩
def fM (p:Int->Bool):List Int->Nat->Int
 | [],_=>-1
 | a::l,i=>if p a then i else fM p l (i+1)
theorem aeZ {p:Int->Bool}{l:List Int}{i:Nat}(h:i<l.length):fM p (l.drop i) i=if p l[i]! then (i:Int) else fM p (l.drop (i+1)) (i+1):=by
 rw[ce h,getElem!_pos l i h,fM]
theorem OW (p:Int->Bool):∀(l:List Int) (i:Nat),decide (0<=fM p l i)=l.any p
 | [],i=>by simp[fM]
 | a::l,i=>by
  rw[fM,fu];cases p a
  . simpa using OW p l (i+1)
  . simp
theorem Gt (p:Int->Bool):∀(l:List Int) (i:Nat),fM p l i = -1\/(0<=fM p l i/\fM p l i<i+l.length)
 | [],i=>.inl rfl
 | a::l,i=>by
  rw[fM];split
  . right;simp only[bj];omega
  . rcases Gt p l (i+1) with h|h
    . exact .inl h
    . right;simp only[bj];omega
theorem OX (l:List Int)(p:Int->Bool)(f:AV)(H:ab)(hl:l.length<4611686018427387904)(hf:∀x,CT M f [.iV x] H ⟨.bool (p x),H,[]⟩){Q:Ex->au->Prop}:∀(r i:Nat) (a3:AV) (lo:List (Nat×AV)),i+r=l.length ->
 (fM p (l.drop i) i = -1->∀a3 lo,Q (.exit 0) ⟨⟨[.vs (ints l) l.length cap,f,.iV 0,a3,.iV l.length,.iV l.length],lo,H,[]⟩,[]⟩) ->
 (∀a3 a5 lo,Q .ret ⟨⟨[.vs (ints l) l.length cap,f,.iV (fM p (l.drop i) i),a3,.iV l.length,a5],lo,H,[]⟩,[]⟩) ->
 W M (.loop uH) ⟨⟨[.vs (ints l) l.length cap,f,.iV 0,a3,.iV l.length,.iV i],lo,H,[]⟩,[]⟩ Q
 | 0,i,a3,lo,hi,h1,h2=>by
  obtain rfl:i=l.length:=by omega
  refine W.loop ?_;unfold uH;repeat' first|apply abx|apply aa|apply abr|apply aaL|apply aeM|apply bH|apply cA|(apply acM;rfl)|(apply aep;rfl;rfl)|(intro _;omega)|intro _
  exact h1 (by simp[fM]) _ _
 | r+1,i,a3,lo,hi,h1,h2=>by
  have e:=aeZ (p:=p) (l:=l) (i:=(i:Int).toNat) ac;have hc:=hf l[((i:Int)).toNat]!;rw[bZ]at e;refine W.loop ?_;cases hp:p l[((i:Int)).toNat]!
  . rw[hp]at hc;rw[bZ]at hp;rw[hp]at e;rw[e]at h1 h2;unfold uH;repeat' first|apply abx|apply aa|apply abr|apply aaL|apply aef|apply adA|apply bC|(apply acO;rfl)|(apply acM;rfl)|(apply aep;rfl;rfl)|(apply aeX;rfl;rfl;omega)|(apply ahW;rfl;rfl;first|exact hc)|(apply ahT;rfl;rfl;omega)|(apply aib;rfl;exact fun _=>rfl;(first|omega|(simp only[bA];omega)|(simp;omega));decide;rfl;case ia=>infer_instance)|(apply abA;rfl;rfl)|(apply abC;rfl;rfl)|(intro _;omega)|intro _
    exact fX (OX l p f H hl hf r (i+1) _ _ ac h1 h2)
  . rw[hp]at hc;rw[bZ]at hp;rw[hp]at e;rw[e]at h2;unfold uH;repeat' first|apply abx|apply aa|apply abr|apply aaL|apply aef|apply acG|apply adA|apply ba|apply cn|apply dr|(apply acO;rfl)|(apply aep;rfl;rfl)|(apply ahW;rfl;rfl;first|exact hc)|(apply ahT;rfl;rfl;omega)|(apply aib;rfl;exact fun _=>rfl;(first|omega|(simp only[bA];omega)|(simp;omega));decide;rfl;case ia=>infer_instance)|(apply abA;rfl;rfl)|(apply abC;rfl;rfl)|(intro _;omega)|intro _
    exact h2 _ _ _
theorem OY (hft:M.FT=FT)(mc:∀ars h,M.ext 122 ars h=none)(l:List Int)(p:Int->Bool)(f:AV)(H:ab)(hl:l.length<4611686018427387904)(hf:∀x,CT M f [.iV x] H ⟨.bool (p x),H,[]⟩) :
 CT M (ic 122) [.vs (ints l) l.length cap,f] H ⟨.iV (fM p l 0),H,[]⟩:=by
 refine CT.run (mc _ _) (kd (by rw[hft];exact aeV) ax ?_);simp only[c9,du];unfold OR;simp only[enter];repeat' first|apply abx|apply aa|apply abr|apply aaL|apply aef|(apply abA;rfl;rfl)|(apply abC;rfl;rfl)
 refine OX l p f H hl hf l.length 0 _ _ ac (fun h a3 lo=>?_) (fun a3 a5 lo=>?_)
 . repeat' first|apply abx|apply aa|apply abr|apply aaL|apply acG|apply bJ|(apply abC;rfl;rfl)
   exact⟨.inr rfl,rfl,rfl,rfl,_,rfl,by rw[cZ]at h;rw[h];rfl⟩
 . repeat' first|apply ba|apply cn
   exact⟨.inr rfl,rfl,rfl,rfl,_,rfl,rfl⟩
theorem OZ (hft:M.FT=FT)(pR:∀ars h,M.ext 119 ars h=none)(mc:∀ars h,M.ext 122 ars h=none)(l:List Int)(p:Int->Bool)(f:AV)(H:ab)(hl:l.length<4611686018427387904)(hf:∀x,CT M f [.iV x] H ⟨.bool (p x),H,[]⟩) :
 CT M (ic 119) [.vs (ints l) l.length cap,f] H ⟨.bool (l.any p),H,[]⟩:=by
 have hc:=OY (cap:=cap) hft mc l p f H hl hf;have hb:=Gt p l 0;rw[←OW p l 0];refine CT.run (pR _ _) (kd (by rw[hft];exact aeS) ax ?_);simp only[c9,du];unfold OO;simp only[enter];repeat' first|apply abx|apply aa|apply abr|apply aaL|apply acG|(apply ahS;rfl;rfl)|(apply ahW;rfl;rfl;first|exact hc)|(apply abA;rfl;rfl)|(apply abC;rfl;rfl)|(intro _;omega)|intro _
 all_goals (rename_i h;exact⟨.inr rfl,rfl,rfl,rfl,_,rfl,congrArg AV.bool (by simp[h])⟩)
theorem afa (hft:M.FT=FT)(n:∀ars h,M.ext 120 ars h=none)(H:ab)(x:Int):CT M (ic 120) [.iV x] H ⟨.bool (dF x 0 999999999),H,[]⟩:=by
 refine CT.run (n _ _) (kd (by rw[hft];exact aeT) ax ?_);simp only[c9,du];unfold OP;simp only[enter];repeat' first|apply abx|apply aa|apply abr|apply aaL|apply acG|(apply ahQ;rfl)|(apply aid;rfl)|(apply aep;rfl;rfl)|(apply aeq;rfl;rfl)|(apply aeB;rfl;rfl)|(apply aeC;rfl;rfl)|(apply abA;rfl;rfl)|(apply abC;rfl;rfl)|(intro _;omega)|intro _
 all_goals exact⟨.inr rfl,rfl,rfl,rfl,_,rfl,congrArg AV.bool (by simp_all [dF])⟩
theorem afb (hft:M.FT=FT)(n:∀ars h,M.ext 123 ars h=none)(H:ab)(bx:Nat)(t x:Int)(hb:H.at bx=some (.cells [.iV t] 3)):CT M (.fn (.func 123) [] [.ptr bx 0]) [.iV x] H ⟨.bool (decide (t<x)),H,[]⟩:=by
 refine CT.run (n _ _) (kd (by rw[hft];exact aeW) ax ?_);simp only[c9,List.cons_append];unfold OS;simp only[enter];repeat' first|(apply aiN;rfl;exact hb;rfl)|apply abx|apply aa|apply abr|apply aaL|apply acG|(apply aeq;rfl;rfl)|(apply abA;rfl;rfl)|(apply abC;rfl;rfl)|(intro _;omega)|intro _
 all_goals exact⟨.inr rfl,rfl,rfl,rfl,_,rfl,congrArg AV.bool (by simp_all)⟩
def fV (l:List Int)(s t:Int):Int:=if 1000<l.length then 5 else if l.any (fun x=>dF x 0 999999999) then 3 else if dF s 1 10000 then 3 else if dF t 0 999999999 then 3 else 0
def iX (l:List Int)(t:Int):Int:=fM (fun x=>decide (t<x)) l 0
structure Pa (M:ay):Prop where
 ft:M.FT=FT
 pR:∀ars h,M.ext 119 ars h=none
 Pb:∀ars h,M.ext 120 ars h=none
 mc:∀ars h,M.ext 122 ars h=none
 Pc:∀ars h,M.ext 123 ars h=none
 afc:∀ars h,M.ext 124 ars h=none
 kA:∀t e h,M.ext 91 [.bool t,.iV e] h=some ⟨.iV (if t then e else 0),h,[]⟩
 uI:∀x lo hi h,M.ext 121 [.iV x,.iV lo,.iV hi] h=some ⟨.iV (if dF x lo hi then 3 else 0),h,[]⟩
 kB:∀v l h,dZ h v=some l->l.length<4611686018427387904->M.ext 90 [v] h=some ⟨.iV (dM l),h,[]⟩
theorem ints_at {h:ab}{b n:Nat}{cap:Option Nat}{l:List Int}{e:TypeId}(hb:h.at b=some (.cells (ints l) e))(hl:l.length=n):dZ h (.sl b 0 n 1 cap)=some l:=by
 subst hl;have e0:(ints l).length=l.length:=(lH (f:=fun x:Int=>[AV.iV x]) (esz:=1) (fun _=>rfl) l).trans (Nat.mul_one _);have e1:cut (ints l) 0 (l.length*1)=some (ints l):=by
  rw[Nat.mul_one,←e0];simp[cut]
 simp only[dZ,oO,hb,e1,Option.map_some,BI];simp
theorem afd (l:List Int)(s t:Int):dM [if decide (1000<l.length) then 5 else 0,if l.any (fun x=>dF x 0 999999999) then 3 else 0,if dF s 1 10000 then 3 else 0,if dF t 0 999999999 then 3 else 0]=fV l s t:=by
 unfold fV;by_cases h:1000<l.length
 . simp[dM,h]
 . cases l.any (fun x=>dF x 0 999999999) <;> cases dF s 1 10000 <;> cases dF t 0 999999999 <;> simp[dM,h]
theorem w39 (C:Pa M)(l:List Int)(s t:Int)(hl:l.length<1000000):bm M 39 [.vs (ints l) l.length cap,.iV s,.iV t] [] ⟨.aw [.iV (if fV l s t≠0 then 0 else if iX l t<0 then 0 else iX l t*s),.iV (if fV l s t≠0 then fV l s t else if iX l t<0 then 7 else 0)],[],[]⟩:=by
 refine bX (by rw[C.ft];exact aeN) ax ?_;have H1:ab.at [some (bV.cells [.iV t] 3)] 0=some (.cells [.iV t] 3):=rfl;have q119:=OZ (cap:=cap) C.ft C.pR C.mc l (fun x=>dF x 0 999999999) (ic 120) [some (.cells [.iV t] 3)] ac (fun x=>afa C.ft C.Pb _ x);have q122:=fun (H:ab) (hb:H.at 0=some (.cells [.iV t] 3))=>OY (cap:=cap) C.ft C.mc l (fun x=>decide (t<x)) (.fn (.func 123) [] [.ptr 0 0]) H ac (fun x=>afb C.ft C.Pc H 0 t x hb)
 have hfe:=afd l s t;have hbound:=Gt (fun x=>decide (t<x)) l 0;have hss:fV l s t=0->1<=s/\s<=10000:=fun h=>by
  unfold fV at h;split at h
  . omega
  . split at h
    . omega
    . split at h
      . omega
      . rename_i hs;simp[dF]at hs;omega
 have q90:∀(a b c d:Int),M.ext 90 [.sl 1 0 4 1 (some 4)] ([some (bV.cells [.iV t] 3)]++[some (.cells [.iV a,.iV b,.iV c,.iV d] 28)])=some ⟨.iV (dM [a,b,c,d]),[some (bV.cells [.iV t] 3)]++[some (.cells [.iV a,.iV b,.iV c,.iV d] 28)],[]⟩:=fun a b c d=>by
  have hb:ab.at ([some (bV.cells [.iV t] 3)]++[some (.cells (ints [a,b,c,d]) 28)]) 1=some (.cells (ints [a,b,c,d]) 28):=rfl;exact C.kB _ [a,b,c,d] _ (ints_at hb rfl) ax
 unfold iX;generalize fM (fun x=>decide (t<x)) l 0=F at *
 generalize l.any (fun x=>dF x 0 999999999)=far at *
 generalize fV l s t=E at *
 have hmul:E=0->¬F<0 -> -9223372036854775808<=F*s/\F*s<9223372036854775808:=fun h0 h1=>by
  obtain⟨g1,g2⟩:=hss h0;have k1:F*s<=1000000*s:=Int.mul_le_mul_of_nonneg_right ac ac;have k2:0<=F*s:=Int.mul_nonneg ac ac;omega
 unfold OJ;simp only[enter];by_cases hm:1000<l.length
 . rw[decide_eq_true hm]at hfe;have q:=q90 (if true=true then 5 else 0) (if far=true then 3 else 0) (if dF s 1 10000=true then 3 else 0) (if dF t 0 999999999=true then 3 else 0);rw[hfe]at q;by_cases hE:E=0
   . exfalso;rw[hE]at hfe;simp[dM]at hfe
   . clear hfe hmul hss;repeat' first|apply abx|apply aa|apply abr|apply aaL|apply acG|apply ba|apply afU|apply agy|(apply ahl;rfl)|(apply ahb;rfl;rfl;(first|(simp only[nca];rfl)|rfl))|(apply aij;rfl)|(apply acO;rfl)|(apply aeq;rfl;rfl)|(apply agx;rfl;rfl)|(apply ahW;rfl;rfl;first|exact q119)|(apply ahR;rfl;rfl;(first|(simp only[nca];rfl)|rfl);first|exact C.kA _ _ _|exact C.uI _ _ _ _|exact q)|(apply aev;rfl;rfl;rfl)|(apply aes;rfl;rfl;rfl)|(apply abA;rfl;rfl)|(apply abC;rfl;rfl)|(intro _;omega)|intro _
     exact⟨.inr rfl,rfl,_,rfl,by rw[if_pos hE,if_pos hE];rfl,rfl⟩
 . rw[decide_eq_false hm]at hfe;have q:=q90 (if false=true then 5 else 0) (if far=true then 3 else 0) (if dF s 1 10000=true then 3 else 0) (if dF t 0 999999999=true then 3 else 0);rw[hfe]at q;by_cases hE:E=0
   . rw[hE]at q;have hmul:=hmul hE;by_cases hF:F<0
     . repeat' first|apply abx|apply aa|apply abr|apply aaL|apply acG|apply adA|apply ba|apply afU|apply agy|(apply ahl;rfl)|(apply ahb;rfl;rfl;(first|(simp only[nca];rfl)|rfl))|(apply aij;rfl)|(apply acO;rfl)|(apply acM;rfl)|(apply aep;rfl;rfl)|(apply aeq;rfl;rfl)|(apply agx;rfl;rfl)|(apply ahW;rfl;rfl;first|exact q119|exact q122 _ rfl)|(apply ahR;rfl;rfl;(first|(simp only[nca];rfl)|rfl);first|exact C.kA _ _ _|exact C.uI _ _ _ _|exact q)|(apply aev;rfl;rfl;rfl)|(apply aes;rfl;rfl;rfl)|(apply abA;rfl;rfl)|(apply abC;rfl;rfl)|(intro _;omega)|intro _
       exact⟨.inr rfl,rfl,_,rfl,by rw[if_neg (fun h=>h hE),if_pos hF,if_neg (fun h=>h hE),if_pos hF];rfl,rfl⟩
     . repeat' first|(apply aiE;rfl;rfl;exact hmul hF)|apply abx|apply aa|apply abr|apply aaL|apply acG|apply adA|apply afU|apply agy|(apply ahl;rfl)|(apply ahb;rfl;rfl;(first|(simp only[nca];rfl)|rfl))|(apply aij;rfl)|(apply acM;rfl)|(apply aep;rfl;rfl)|(apply aeq;rfl;rfl)|(apply agx;rfl;rfl)|(apply ahW;rfl;rfl;first|exact q119|exact q122 _ rfl)|(apply ahR;rfl;rfl;(first|(simp only[nca];rfl)|rfl);first|exact C.kA _ _ _|exact C.uI _ _ _ _|exact q)|(apply aev;rfl;rfl;rfl)|(apply aes;rfl;rfl;rfl)|(apply abA;rfl;rfl)|(apply abC;rfl;rfl)|(intro _;omega)|intro _
       exact⟨.inr rfl,rfl,_,rfl,by rw[if_neg (fun h=>h hE),if_neg hF,if_neg (fun h=>h hE),if_neg hF];rfl,rfl⟩
   . clear hfe hmul hss;repeat' first|apply abx|apply aa|apply abr|apply aaL|apply acG|apply ba|apply afU|apply agy|(apply ahl;rfl)|(apply ahb;rfl;rfl;(first|(simp only[nca];rfl)|rfl))|(apply aij;rfl)|(apply acO;rfl)|(apply aeq;rfl;rfl)|(apply agx;rfl;rfl)|(apply ahW;rfl;rfl;first|exact q119)|(apply ahR;rfl;rfl;(first|(simp only[nca];rfl)|rfl);first|exact C.kA _ _ _|exact C.uI _ _ _ _|exact q)|(apply aev;rfl;rfl;rfl)|(apply aes;rfl;rfl;rfl)|(apply abA;rfl;rfl)|(apply abC;rfl;rfl)|(intro _;omega)|intro _
     exact⟨.inr rfl,rfl,_,rfl,by rw[if_pos hE,if_pos hE];rfl,rfl⟩
theorem aff {p:Int->Bool}{l:List Int}{i:Nat}(h:i<l.length):(l.drop i).any p=(p l[i]! || (l.drop (i+1)).any p):=by
 rw[ce h,getElem!_pos l i h,fu]
theorem Pd (rP:∀x lo hi h,M.ext 87 [.iV x,.iV lo,.iV hi] h=some ⟨.bool (dF x lo hi),h,[]⟩)(l:List Int)(hl:l.length<1000000)(a1 a2:AV){Q:Ex->au->Prop}:∀(r i:Nat) (lo:List (Nat×AV)) (wr:List Nat),i+r=l.length ->
 ((l.drop i).any (fun x=>dF x 0 999999999)=false->∀a4 lo wr,Q (.exit 0) ⟨⟨[.vs (ints l) l.length cap,a1,a2,.iV 0,a4],lo,[],[]⟩,wr⟩) ->
 ((l.drop i).any (fun x=>dF x 0 999999999)=true->∀a4 lo wr,Q .ret ⟨⟨[.vs (ints l) l.length cap,a1,a2,.iV 3,a4],lo,[],[]⟩,wr⟩) ->
 W M (.loop uG) ⟨⟨[.vs (ints l) l.length cap,a1,a2,.iV 0,.iV i],lo,[],[]⟩,wr⟩ Q
 | 0,i,lo,wr,hi,h1,h2=>by
  obtain rfl:i=l.length:=by omega
  refine W.loop ?_;unfold uG;repeat' first|apply abx|apply aa|apply abr|apply aaL|apply aeM|apply bH|apply cA|(apply acM;rfl)|(apply aep;rfl;rfl)|(apply abA;rfl;rfl)|(intro _;omega)|intro _
  exact h1 ax _ _ _
 | r+1,i,lo,wr,hi,h1,h2=>by
  have e:=aff (p:=fun x=>dF x 0 999999999) (l:=l) (i:=(i:Int).toNat) ac;have q:=rP l[((i:Int)).toNat]! 0 999999999;rw[bZ]at e;refine W.loop ?_;cases hp:dF l[((i:Int)).toNat]! 0 999999999
  . rw[hp]at q;rw[bZ]at hp;rw[hp,Bool.false_or]at e;rw[e]at h1 h2;unfold uG;repeat' first|apply abx|apply aa|apply abr|apply aaL|apply aef|apply adA|apply bC|(apply acO;rfl)|(apply acM;rfl)|(apply aep;rfl;rfl)|(apply aeX;rfl;rfl;omega)|(apply adX;rfl;rfl;first|exact q _)|(apply ahT;rfl;rfl;omega)|(apply aib;rfl;exact fun _=>rfl;(first|omega|(simp only[bA];omega)|(simp;omega));decide;rfl;case ia=>infer_instance)|(apply abA;rfl;rfl)|(apply abC;rfl;rfl)|(intro _;omega)|intro _
    exact fX (Pd rP l hl a1 a2 r (i+1) _ _ ac h1 h2)
  . rw[hp]at q;rw[bZ]at hp;rw[hp,Bool.true_or]at e;unfold uG;repeat' first|apply abx|apply aa|apply abr|apply aaL|apply aef|apply acG|apply adA|apply ba|apply cn|apply dr|(apply acO;rfl)|(apply aep;rfl;rfl)|(apply adX;rfl;rfl;first|exact q _)|(apply ahT;rfl;rfl;omega)|(apply aib;rfl;exact fun _=>rfl;(first|omega|(simp only[bA];omega)|(simp;omega));decide;rfl;case ia=>infer_instance)|(apply abA;rfl;rfl)|(apply abC;rfl;rfl)|(intro _;omega)|intro _
    exact h2 e _ _ _
theorem w40 (hft:M.FT=FT)(rP:∀x lo hi h,M.ext 87 [.iV x,.iV lo,.iV hi] h=some ⟨.bool (dF x lo hi),h,[]⟩)(l:List Int)(s t:Int)(hl:l.length<1000000):bm M 40 [.vs (ints l) l.length cap,.iV s,.iV t] [] ⟨.iV (fV l s t),[],[]⟩:=by
 refine bX (by rw[hft];exact aeO) ax ?_;unfold OK;simp only[enter];by_cases hm:1000<l.length
 . repeat' first|apply abx|apply aa|apply abr|apply aaL|apply acG|apply ba|(apply acO;rfl)|(apply aeq;rfl;rfl)|(apply abA;rfl;rfl)|(apply abC;rfl;rfl)|(intro _;omega)|intro _
   exact⟨.inr rfl,rfl,_,rfl,by rw[fV,if_pos hm];rfl,rfl⟩
 . repeat' first|apply abx|apply aa|apply abr|apply aaL|apply aef|apply adA|(apply acM;rfl)|(apply aeq;rfl;rfl)|(apply abA;rfl;rfl)|(apply abC;rfl;rfl)|(intro _;omega)|intro _
   refine Pd rP l hl _ _ l.length 0 _ _ ac (fun h a4 lo wr=>?_) (fun h a4 lo wr=>?_)
   . rw[cZ]at h;have q1:=rP s 1 10000;have q2:=rP t 0 999999999;have e:fV l s t=if dF s 1 10000 then 3 else if dF t 0 999999999 then 3 else 0:=by
      rw[fV,if_neg hm,h,if_neg (show ¬(false=true) by decide)]
     cases hs:dF s 1 10000 <;> cases ht:dF t 0 999999999;all_goals
      rw[hs]at q1;rw[ht]at q2;rw[hs,ht]at e;repeat' first|apply abx|apply aa|apply abr|apply aaL|apply acG|apply adA|apply ba|apply bJ|(apply acO;rfl)|(apply acM;rfl)|(apply ahQ;rfl)|(apply aid;rfl)|(apply aeB;rfl;rfl)|(apply aeC;rfl;rfl)|(apply adX;rfl;rfl;first|exact q1 _|exact q2 _)|(apply abA;rfl;rfl)|(apply abC;rfl;rfl)
     all_goals exact⟨.inr rfl,rfl,_,rfl,by rw[e];simp[bk],rfl⟩
   . rw[cZ]at h;repeat' first|apply ba|apply cn
     exact⟨.inr rfl,rfl,_,rfl,by rw[fV,if_neg hm,h,if_pos rfl];rfl,rfl⟩
open Go.Proofs
def uJ:Spec:=fun
 | [.int .i64 x,.int .i64 lo,.int .i64 hi],h=>some ⟨.bool (dF x lo hi),h,[]⟩
 | _,_=>none
theorem afh:bl Tryz.prog gl 87 uJ:=by
 intro xs h r hq;unfold uJ at hq;split at hq
 . cases hq;exact jo iu bP (w87 (M:=bD Tryz.prog FT []) bN _ _ _) (fJ.same rfl) rfl (.inl rfl)
 . cases hq
def jq:Spec:=fun
 | [.bool t,.int .i64 e],h=>some ⟨.int .i64 (if t then e else 0),h,[]⟩
 | _,_=>none
theorem rQ:bl Tryz.prog gl 91 jq:=by
 intro xs h r hq;unfold jq at hq;split at hq
 . cases hq;exact jo iu bP (OT (M:=bD Tryz.prog FT []) bN _ _) (fJ.same rfl) rfl (.inl rfl)
 . cases hq
def Gu:Spec:=fun
 | [.int .i64 x,.int .i64 lo,.int .i64 hi],h=>some ⟨.int .i64 (if dF x lo hi then 3 else 0),h,[]⟩
 | _,_=>none
theorem afi:bl Tryz.prog gl 121 Gu:=by
 intro xs h r hq;unfold Gu at hq;split at hq
 . cases hq;exact jo iu (T:=[(91,jq)]) (aX rQ bP) (aeY bN (fun _ _ _=>by rw[gU];rfl) _ _ _) (fJ.same rfl) rfl (.inl rfl)
 . cases hq
def iw:Spec:=fun
 | [v],h=>match dZ h v with
   | some l=>if l.length<4611686018427387904 then some ⟨.int .i64 (dM l),h,[]⟩ else none
   | none=>none
 | _,_=>none
theorem uK:bl Tryz.prog gl 90 iw:=by
 intro xs h r hq;unfold iw at hq;split at hq
 . split at hq
   . rename_i l hl;split at hq
     . rename_i hn;cases hq;obtain⟨S,cap,hf⟩:=(sV hl).fr (fun _=>rfl);exact jo iu bP (OV (M:=bD Tryz.prog FT []) bN l hn) (.cons hf .nil) rfl (.inr rfl)
     . cases hq
   . cases hq
 . cases hq
def Pe:List (Nat×Spec):=[(91,jq),(121,Gu),(90,iw)]
theorem afj:cW Tryz.prog gl (bM Pe):=aX rQ (aX afi (aX uK bP))
theorem uL:Pa (bD Tryz.prog FT Pe) where
 ft:=bN
 pR _ _:=rfl
 Pb _ _:=rfl
 mc _ _:=rfl
 Pc _ _:=rfl
 afc _ _:=rfl
 kA _ _ _:=by rw[gU];rfl
 uI _ _ _ _:=by rw[gU];rfl
 kB v l h hl hn:=by
  rw[gU];show iw [v] h=_;simp only[iw,hl,if_pos hn]
def uM:Spec:=fun
 | [v,.int .i64 s,.int .i64 t],h=>match dZ h v with
   | some l=>if l.length<1000000 then some ⟨.aw [.int .i64 (if fV l s t≠0 then 0 else if iX l t<0 then 0 else iX l t*s),.int .i64 (if fV l s t≠0 then fV l s t else if iX l t<0 then 7 else 0)],h,[]⟩ else none
   | none=>none
 | _,_=>none
theorem afk:bl Tryz.prog gl 39 uM:=by
 intro xs h r hq;unfold uM at hq;split at hq
 . split at hq
   . rename_i l hl;split at hq
     . rename_i hn;cases hq;obtain⟨S,cap,hf⟩:=(sV hl).fr (fun _=>rfl);exact jo iu afj (w39 uL l _ _ hn) (.cons hf (.cons (.same rfl) (.cons (.same rfl) .nil))) rfl (.inr rfl)
     . cases hq
   . cases hq
 . cases hq
def afl:List (Nat×Spec):=[(87,uJ)]
theorem afm:cW Tryz.prog gl (bM afl):=aX afh bP
def uN:Spec:=fun
 | [v,.int .i64 s,.int .i64 t],h=>match dZ h v with
   | some l=>if l.length<1000000 then some ⟨.int .i64 (fV l s t),h,[]⟩ else none
   | none=>none
 | _,_=>none
theorem afn:bl Tryz.prog gl 40 uN:=by
 intro xs h r hq;unfold uN at hq;split at hq
 . split at hq
   . rename_i l hl;split at hq
     . rename_i hn;cases hq;obtain⟨S,cap,hf⟩:=(sV hl).fr (fun _=>rfl);exact jo iu afm (w40 bN (fun _ _ _ _=>by rw[gU];rfl) l _ _ hn) (.cons hf (.cons (.same rfl) (.cons (.same rfl) .nil))) rfl (.inr rfl)
     . cases hq
   . cases hq
 . cases hq
end Go.Ab.Ch5

/-
  Own work: the code of functions: official marks.
-/
namespace Go.Ab.Ch5.N
set_option maxRecDepth 1000000
def Pf:al:=zR [zx 2 44 2 0,⟨.p 3,.alloc 58 [.str [],.iV (0),.str []],none⟩,zi 4 0] (zR [zt 9 2 2,z1 10 107 9,zn 8 10,ze 11 0 8,ze 12 1 8,⟨.p 5,.alloc 175 [.iV (0),.ah,.iV (0),.ah,.iV (0),.ah,.iV (0),.ah],none⟩,zs 8 5 11,zw 6 12] (.seq (zR [zm 13 6,zm 14 1,z1 15 108 14,⟨.l 16,.dW 28 2 1 [.iV (0)] [(0,1,(.l 13)),(1,1,(.l 15))],none⟩,z1 17 90 16,zw 6 17] (zR [zm 18 6,zc 19 .neq 18 0] (.cond (.l 19) (zR [⟨.l 20,.build [.str [],.iV (0),.str []] [],none⟩,zm 21 6,zs 3 3 20,zw 4 21] (.ret)) (.skip)))) (zR [zt 22 8 5,zm 23 1,z2 24 109 22 23,ze 25 0 24,ze 26 1 24,zs 3 3 25,zw 4 26] (.ret))))
theorem afo:FT 32=some ⟨27,[0,1,2,4,5,6,7],[.cell 3 true (.p 3),.var (.p 4)],Pf⟩:=by kernel_rfl
def Pg:al:=zR [zx 1 44 2 0,zi 2 0] (zR [zf 4 0 1,zd 5 1 4,zf 6 1 1,zd 7 1 6,⟨.l 8,.dW 40 2 1 [.str []] [(0,1,(.l 5)),(1,1,(.l 7))],none⟩,z1 9 110 8,zw 3 9] (.seq (zR [zm 10 3,zc 11 .neq 10 0] (.cond (.l 11) (zR [zm 12 3,zw 2 12] (.ret)) (.skip))) (.seq (zR [zf 13 0 1,zd 14 1 13,zf 15 1 1,zd 16 1 15,z2 17 48 14 16,zc 18 .gtr 17 0] (.cond (.l 18) (zR [zi 2 11] (.ret)) (.skip))) (.seq (.seq (.draw [(zf 19 0 1,[]),(zd 20 1 19,[]),(z1 21 105 20,[]),(zc 22 .lss 21 0,[]),(zn 23 22,[]),(zg (zf 24 1 1) 23 false,[]),(zg (zd 25 1 24) 23 false,[]),(zg (z1 26 105 25) 23 false,[]),(zg (zc 27 .leq 26 0) 23 false,[]),(zP 28 23 27,[]),(zn 29 28,[]),(zg (zf 30 1 1) 29 false,[]),(zg (zd 31 1 30) 29 false,[]),(⟨.l 32,.call (kF 49) [(kI 863999999)],some ((.l 29),false)⟩,[11,12]),(zg (z2 33 48 31 32) 29 false,[]),(zg (zc 34 .gtr 33 0) 29 false,[]),(zP 35 29 34,[])]) (.cond (.l 35) (zR [zi 2 3] (.ret)) (.skip))) (zR [zi 2 0] (.ret))))))
theorem afp:FT 33=some ⟨36,[0,1,2,3],[.var (.p 2)],Pg⟩:=by kernel_rfl
def Ph:al:=zR [zx 1 175 8 0,⟨.p 2,.mv (.c (.bool false)),none⟩] (.seq (.draw [(zf 3 4 1,[]),(zT 4 4 3,[]),(⟨.l 5,.call (kF 143) [(kI 863999999)],none⟩,[0,1]),(z2 6 147 4 5,[]),(zc 7 .gtr 6 0,[]),(zw 2 7,[])]) (.ret))
theorem afq:FT 101=some ⟨8,[0,1,2],[.var (.p 2)],Ph⟩:=by kernel_rfl
def Pj:al:=zR [zx 1 44 2 0,⟨.p 2,.alloc 175 [.iV (0),.ah,.iV (0),.ah,.iV (0),.ah,.iV (0),.ah],none⟩,zi 3 0] (.seq (.seq (.draw [(zf 6 0 1,[]),(zd 7 1 6,[]),(z1 8 172 7,[]),(zf 9 1 1,[0,1,2]),(zd 10 1 9,[0,1,2]),(z1 11 172 10,[]),(⟨.l 12,.dW 28 2 1 [.iV (0)] [(0,1,(.l 8)),(1,1,(.l 11))],none⟩,[]),(z1 13 90 12,[]),(zw 4 13,[])]) (zR [zm 14 4,zc 15 .neq 14 0] (.cond (.l 15) (zR [⟨.l 16,.build [.iV (0),.ah,.iV (0),.ah,.iV (0),.ah,.iV (0),.ah] [],none⟩,zm 17 4,zs 8 2 16,zw 3 17] (.ret)) (.skip)))) (.seq (.draw [(zf 18 0 1,[]),(zd 19 1 18,[]),(z1 20 165 19,[]),(zf 21 1 1,[0,1,2]),(zd 22 1 21,[0,1,2]),(z1 23 165 22,[]),(⟨.l 24,.build [.iV (0),.ah,.iV (0),.ah,.iV (0),.ah,.iV (0),.ah] [(0,4,(.l 20)),(4,4,(.l 23))],none⟩,[]),(⟨.p 5,.alloc 175 [.iV (0),.ah,.iV (0),.ah,.iV (0),.ah,.iV (0),.ah],none⟩,[0,1,2,3,4,5,6]),(zs 8 5 24,[])]) (.seq (.draw [(zt 25 8 5,[]),(zf 26 0 5,[0]),(zT 27 4 26,[0]),(zf 28 4 5,[0,1,2]),(zT 29 4 28,[0,1,2]),(z2 30 147 27 29,[0]),(zc 31 .gtr 30 0,[0]),(⟨.l 32,.call (kF 91) [(.l 31),(kI 11)],none⟩,[0]),(zf 33 0 5,[0,1,2,3,4,5,6,7]),(zT 34 4 33,[0,1,2,3,4,5,6,7]),(z1 35 173 34,[0]),(zc 36 .lss 35 0,[0]),(zn 37 36,[0]),(zg (zf 38 4 5) 37 false,[0]),(zg (zT 39 4 38) 37 false,[0]),(zg (z1 40 173 39) 37 false,[0]),(zg (zc 41 .leq 40 0) 37 false,[0]),(zP 42 37 41,[0]),(zn 43 42,[0]),(zg (zt 44 8 5) 43 false,[0]),(zg (z1 45 101 44) 43 false,[0]),(zP 46 43 45,[0]),(⟨.l 47,.call (kF 91) [(.l 46),(kI 3)],none⟩,[0]),(⟨.l 48,.dW 28 2 1 [.iV (0)] [(0,1,(.l 32)),(1,1,(.l 47))],none⟩,[0]),(z1 49 90 48,[0]),(zs 8 2 25,[]),(zw 3 49,[])]) (.ret))))
theorem afr:FT 107=some ⟨50,[0,1,2,3,4,5],[.cell 8 true (.p 2),.var (.p 3)],Pj⟩:=by kernel_rfl
def Pk:al:=zR [zi 1 0] (zR [⟨.l 6,.build [.str [],.iV (0),.str []] [(0,1,(.c (.str zD4))),(1,1,(kI 1))],none⟩,zm 7 0,z2 8 132 6 7,zn 5 8,ze 9 0 5,ze 10 1 5,⟨.l 3,.alloc 58 [.str [],.iV (0),.str []],none⟩,zS 3 3 9,zw 2 10] (zR [zm 11 2,zw 1 11] (.ret)))
theorem afs:FT 108=some ⟨12,[0,2,4],[.var (.p 1)],Pk⟩:=by kernel_rfl
def Pm:al:=zR [zx 2 175 8 0,⟨.p 3,.alloc 58 [.str [],.iV (0),.str []],none⟩,zi 4 0] (zR [zf 9 4 2,zT 10 4 9,z1 11 174 10,z1 12 175 11,zn 8 12,ze 13 0 8,ze 14 1 8,zw 5 13,zn 7 14] (zR [zm 15 5,⟨.l 16,.build [.str [],.iV (0),.str []] [(0,1,(.c (.str zD4))),(1,1,(.l 15))],none⟩,zm 17 1,z2 18 132 16 17,ze 19 0 18,ze 20 1 18,zs 3 3 19,zw 4 20] (.ret)))
theorem aft:FT 109=some ⟨21,[0,1,2,4,5,6],[.cell 3 true (.p 3),.var (.p 4)],Pm⟩:=by kernel_rfl
def Gv:al:=.seq (zR [zm 5 2,zm 6 0,zl 7 6,zb 8 .lss 5 7] (.cond (.l 8) (.skip) (.exit 0))) (.seq (.block 1 (zR [zm 11 0,zm 12 2,za 13 1 11 12,zd 14 1 13,z1 15 104 14,zw 3 15] (zR [zm 16 3,zc 17 .neq 16 0] (.cond (.l 17) (zR [zm 18 3,zw 1 18] (.ret)) (.skip))))) (.region [zm 9 2,zc 10 .add 9 1,zw 2 10]))
def Pn:al:=zR [zi 1 0] (.seq (zR [zi 2 0] (.block 0 (.loop Gv))) (zR [zi 1 0] (.ret)))
theorem afu:FT 110=some ⟨19,[0,2,3,4],[.var (.p 1)],Pn⟩:=by kernel_rfl
def Po:al:=zR [zx 1 173 4 0,⟨.p 2,.alloc 171 [.iV (0),.ah],none⟩] (zR [zt 3 4 1,z1 4 148 3,z1 5 231 4,z1 6 201 5,zs 2 2 6] (.ret))
theorem afv:FT 174=some ⟨7,[0,1,2],[.cell 2 true (.p 2)],Po⟩:=by kernel_rfl
def Pp:al:=zR [zx 1 171 2 0,zi 2 0,⟨.p 3,.mv (.c (.bool false)),none⟩] (.seq (.draw [(zf 4 0 1,[]),(zd 5 1 4,[]),(zf 6 1 1,[0,1]),(zd 7 1 6,[0,1]),(⟨.l 8,.eq false (.ref .slice) (.l 7) (.c (.ah)),none⟩,[0,1]),(zw 2 5,[2,3,4]),(zw 3 8,[])]) (.ret))
theorem afw:FT 175=some ⟨9,[0,1,2,3],[.var (.p 2),.var (.p 3)],Pp⟩:=by kernel_rfl
end Go.Ab.Ch5.N

/-
  Own work: marks of chapter 1: the contracts of the checks, of the order and of rounding.
-/
namespace Go.Ab.Ch5.N.K
variable {inv:fy} {F:FuncId->Option dm}
abbrev nW:List UInt8:=[110,111,110,101]
abbrev cF:List UInt8:=[116,105,109,101]
abbrev pS:List UInt8:=[108,101,110,103,116,104]
abbrev rR:List UInt8:=[112,111,105,110,116,115]
abbrev iz:List UInt8:=[101,120,97,99,116]
abbrev jW:List UInt8:=[104,117,110,100,114,101,100,116,104,115]
abbrev iK:List UInt8:=[116,101,110,116,104,115]
abbrev me:List UInt8:=[99,101,110,116,105,109,101,116,114,101,115]
abbrev mf (k:List UInt8)(v:Int)(r:List UInt8):AV:=.agg [.str k,.iV v,.str r]
def indexOf (x:List UInt8):List (List UInt8)->Nat->Int
 | [],_=>-1
 | a::l,i=>if x=a then i else indexOf x l (i+1)
theorem afx {x:List UInt8}{l:List (List UInt8)}{i:Nat}(h:i<l.length):indexOf x (l.drop i) i=if x=l[i]! then (i:Int) else indexOf x (l.drop (i+1)) (i+1):=by
 rw[ce h,getElem!_pos l i h,indexOf]
theorem Pq {x:List UInt8}:∀(l:List (List UInt8)) (i:Nat),decide (0<=indexOf x l i)=decide (x∈l)
 | [],i=>by simp[indexOf]
 | a::l,i=>by
  rw[indexOf];split
  . rename_i h;subst h;simp
  . rename_i h;rw[Pq l (i+1)];simp[h]
theorem Pr {T:List (Nat×Spec)}(l:List (List UInt8))(x:List UInt8)(cap:Option Nat)(hl:l.length<4611686018427387904)(hp:ab)(df:List Nat){Q:Ex->au->Prop}:∀(r i:Nat),i+r=l.length->∀(a2 a3:AV) (lo:List (Nat×AV)) (wr:List Nat),
 (indexOf x (l.drop i) i = -1->∀a3 lo wr,Q (.exit 0) ⟨⟨[.vs (strs l) l.length cap,.str x,a2,a3,.iV l.length,.iV l.length],lo,hp,df⟩,wr⟩) ->
 (∀a3 a5 lo wr,Q .ret ⟨⟨[.vs (strs l) l.length cap,.str x,.iV (indexOf x (l.drop i) i),a3,.iV l.length,a5],lo,hp,df⟩,wr⟩) ->
 W (kQ T inv F) (.loop zJ) ⟨⟨[.vs (strs l) l.length cap,.str x,a2,a3,.iV l.length,.iV i],lo,hp,df⟩,wr⟩ Q
 | 0,i,hi,a2,a3,lo,wr,h1,h2=>by
  obtain rfl:i=l.length:=by omega
  refine W.loop ?_;unfold zJ;repeat' first|apply abx|apply aa|apply abr|apply aaL|apply aef|apply acG|apply aeM|apply adA|apply ba|apply bH|apply bC|apply cn|apply bJ|(apply dT;rfl)|apply cA|apply dr|apply ck|apply eM|(apply acO;rfl)|(apply acM;rfl)|(apply aif;rfl;all_goals intro _)|(apply aep;rfl;rfl)|(apply afe;rfl;rfl)|(apply aeX;rfl;rfl;omega)|(apply ahT;rfl;rfl;omega)|(apply aic;rfl;rfl;omega)|(apply aib;rfl;exact fun _=>rfl;(first|omega|(simp only[bA];omega)|(simp;omega));decide;rfl;case ia=>infer_instance)|(apply aiW;rfl;(first|rfl|assumption|exact cj|(apply cB;assumption)|(apply cQ;first|assumption|(simp only[jM];assumption)));exact fun _=>rfl;(first|omega|(simp only[bA];omega)|(simp;omega));decide;rfl;case ia=>infer_instance)|(apply ahV;rfl;rfl;all_goals first|(intro h;exact absurd h ao)|(intro h;exact absurd rfl h)|(intro h;contradiction)|intro _)|(apply aev;rfl;rfl;rfl)|(apply aes;rfl;rfl;rfl)|(apply ahX;rfl;rfl;rfl)|(apply abA;rfl;rfl)|(apply abC;rfl;rfl)|(intro _;omega)|intro _
  exact h1 (by simp[indexOf]) _ _ _
 | r+1,i,hi,a2,a3,lo,wr,h1,h2=>by
  have e:=afx (x:=x) (l:=l) (i:=(i:Int).toNat) ac;rw[bZ]at e;refine W.loop ?_;unfold zJ;repeat' first|apply abx|apply aa|apply abr|apply aaL|apply aef|apply acG|apply aeM|apply adA|apply ba|apply bH|apply bC|apply cn|apply bJ|(apply dT;rfl)|apply cA|apply dr|apply ck|apply eM|(apply acO;rfl)|(apply acM;rfl)|(apply aif;rfl;all_goals intro _)|(apply aep;rfl;rfl)|(apply afe;rfl;rfl)|(apply aeX;rfl;rfl;omega)|(apply ahT;rfl;rfl;omega)|(apply aic;rfl;rfl;omega)|(apply aib;rfl;exact fun _=>rfl;(first|omega|(simp only[bA];omega)|(simp;omega));decide;rfl;case ia=>infer_instance)|(apply aiW;rfl;(first|rfl|assumption|exact cj|(apply cB;assumption)|(apply cQ;first|assumption|(simp only[jM];assumption)));exact fun _=>rfl;(first|omega|(simp only[bA];omega)|(simp;omega));decide;rfl;case ia=>infer_instance)|(apply ahV;rfl;rfl;all_goals first|(intro h;exact absurd h ao)|(intro h;exact absurd rfl h)|(intro h;contradiction)|intro _)|(apply aev;rfl;rfl;rfl)|(apply aes;rfl;rfl;rfl)|(apply ahX;rfl;rfl;rfl)|(apply abA;rfl;rfl)|(apply abC;rfl;rfl)|(intro _;omega)|intro _
  . rename_i he;rw[bZ]at he;rw[if_pos he]at e;rw[e]at h2;exact h2 _ _ _ _
  . rename_i he;rw[bZ]at he;rw[if_neg he]at e;rw[e]at h1 h2;exact fX (Pr l x cap hl hp df r (i+1) ac _ _ _ _ h1 h2)
theorem afy {T:List (Nat×Spec)}(hft:F=FT)(l:List (List UInt8))(x:List UInt8)(cap:Option Nat)(hl:l.length<4611686018427387904):bm (kQ T inv F) 239 [.vs (strs l) l.length cap,.str x] [] ⟨.iV (indexOf x l 0),[],[]⟩:=by
 refine bX (show F 239=_ from by rw[hft];exact aed) ax ?_;unfold Oi;simp only[enter];repeat' first|apply abx|apply aa|apply abr|apply aaL|apply aef|apply acG|apply aeM|apply adA|apply ba|apply bH|apply bC|apply cn|apply bJ|(apply dT;rfl)|apply cA|apply dr|apply ck|apply eM|(apply acO;rfl)|(apply acM;rfl)|(apply aif;rfl;all_goals intro _)|(apply abA;rfl;rfl)|(apply abC;rfl;rfl)
 refine Pr l x cap hl _ _ l.length 0 ac _ _ _ _ (fun h a2 lo wr=>?_) (fun a2 a5 lo wr=>?_)
 . repeat' first|apply abx|apply aa|apply abr|apply aaL|apply aef|apply acG|apply aeM|apply adA|apply ba|apply bH|apply bC|apply cn|apply bJ|(apply dT;rfl)|apply cA|apply dr|apply ck|apply eM|(apply acO;rfl)|(apply acM;rfl)|(apply aif;rfl;all_goals intro _)|(apply abA;rfl;rfl)|(apply abC;rfl;rfl)
   exact⟨.inr rfl,rfl,_,rfl,by rw[cZ]at h;rw[h];rfl,rfl⟩
 . repeat' first|apply abx|apply aa|apply abr|apply aaL|apply aef|apply acG|apply aeM|apply adA|apply ba|apply bH|apply bC|apply cn|apply bJ|(apply dT;rfl)|apply cA|apply dr|apply ck|apply eM|(apply acO;rfl)|(apply acM;rfl)|(apply aif;rfl;all_goals intro _)|(apply abA;rfl;rfl)|(apply abC;rfl;rfl)
   exact⟨.inr rfl,rfl,_,rfl,rfl,rfl⟩
def uO:Spec:=fun
 | [v,.str x],h=>match qM h v with
   | some l=>if l.length<4611686018427387904 then some ⟨.int .i64 (indexOf x l 0),h,[]⟩ else none
   | none=>none
 | _,_=>none
def Ac:Spec:=fun
 | [v,.str x],h=>match qM h v with
   | some l=>if l.length<4611686018427387904 then some ⟨.bool (decide (x∈l)),h,[]⟩ else none
   | none=>none
 | _,_=>none
theorem afz {h:ab}{l:List (List UInt8)}{cap:Option Nat}:qM h (.vs (strs l) l.length cap)=some l:=by
 simp only[qM,oO,gY,IB,if_true]
theorem afA {T:List (Nat×Spec)}(hft:F=FT)(l:List (List UInt8))(x:List UInt8)(cap:Option Nat)(hl:l.length<4611686018427387904):bm (kQ ((239,uO)::T) inv F) 185 [.vs (strs l) l.length cap,.str x] [] ⟨.bool (decide (x∈l)),[],[]⟩:=by
 have hi:∀h,(kQ ((239,uO)::T) inv F).ext 239 [.vs (strs l) l.length cap,.str x] h=some ⟨.iV (indexOf x l 0),h,[]⟩:=fun h=>by
  show bM _ _ _ _=_;simp only[Vy,uO,afz,if_pos hl]
 refine bX (show F 185=_ from by rw[hft];exact aec) ax ?_;unfold Oh;simp only[enter];have hm:=Pq (x:=x) l 0;repeat' first|apply abx|apply aa|apply abr|apply aaL|apply aef|apply acG|apply aeM|apply adA|apply ba|apply bH|apply bC|apply cn|apply bJ|(apply dT;rfl)|apply cA|apply dr|apply ck|apply eM|(apply acO;rfl)|(apply acM;rfl)|(apply aif;rfl;all_goals intro _)|(apply ahS;rfl;rfl)|(apply adX;rfl;rfl;first|exact hi _)|(apply aim;rfl;rfl;rfl;all_goals first|(intro h;exact absurd h ao)|intro _)|(apply adX;rfl;rfl;rfl)|(apply abA;rfl;rfl)|(apply abC;rfl;rfl)|(intro _;omega)|intro _
 all_goals refine⟨.inr rfl,rfl,_,rfl,?_,rfl⟩
 all_goals rw[←hm]
 . rename_i h;rw[decide_eq_true h];rfl
 . rename_i h;rw[decide_eq_false ac];rfl
abbrev uP:List (List UInt8):=[[68,78,83],[68,78,70],[68,81],[78,77]]
def Gw:Spec:=fun
 | [.str x],h=>some ⟨.bool (decide (x∈uP)),h,[]⟩
 | _,_=>none
theorem afB {T:List (Nat×Spec)}(hft:F=FT)(x:List UInt8):bm (kQ ((185,Ac)::T) inv F) 237 [.str x] [] ⟨.bool (decide (x∈uP)),[],[]⟩:=by
 refine bX (show F 237=_ from by rw[hft];exact aea) ax ?_;unfold Of;simp only[enter];repeat' first|apply abx|apply aa|apply abr|apply aaL|apply aef|apply acG|apply aeM|apply adA|apply ba|apply bH|apply bC|apply cn|apply bJ|(apply dT;rfl)|apply cA|apply dr|apply ck|apply eM|(apply acO;rfl)|(apply acM;rfl)|(apply aif;rfl;all_goals intro _)|(apply aim;rfl;rfl;rfl;all_goals first|(intro h;exact absurd h ao)|intro _)|(apply adX;rfl;rfl;rfl)|(apply aev;rfl;rfl;rfl)|(apply aes;rfl;rfl;rfl)|(apply ahX;rfl;rfl;rfl)|(apply abA;rfl;rfl)|(apply abC;rfl;rfl)
 all_goals (rename_i h;exact⟨.inr rfl,rfl,_,rfl,by rw[h];rfl,rfl⟩)
abbrev afC (N:Nat):AV:=.agg [.iV 1,.iV 863999999,.bool false,.map (N+1),.fn (.func 240) [] []]
abbrev afD (N:Nat):AV:=.agg [.iV 0,.iV 999999,.bool true,.map (N+2),.fn (.func 241) [] []]
abbrev afE (N:Nat):AV:=.agg [.iV 0,.iV 99999,.bool true,.map (N+3),.fn (.func 242) [] []]
abbrev Ps (N:Nat):List bV:=[.map [(.str cF,afC N),(.str pS,afD N),(.str rR,afE N)],
 .map [(.str iz,.iV 1),(.str jW,.iV 100),(.str iK,.iV 1000)],.map [(.str iz,.iV 1),(.str me,.iV 10)],.map [(.str iz,.iV 1)]]
def Ad:Spec:=fun
 | [],h=>some ⟨.map h.length,h++(Ps h.length).map some,[]⟩
 | _,_=>none
theorem afF {T:List (Nat×Spec)}(hft:F=FT):bm (kQ T inv F) 186 [] [] ⟨.map 0,(Ps 0).map some,[]⟩:=by
 refine bX (show F 186=_ from by rw[hft];exact adZ) ax ?_;unfold Oe;simp only[fY,List.map_nil,List.getElem?_nil,Option.getD_none];repeat' first|apply abx|apply aa|apply abr|apply aaL|apply aef|apply acG|apply aeM|apply adA|apply ba|apply bH|apply bC|apply cn|apply bJ|(apply dT;rfl)|apply cA|apply dr|apply ck|apply eM|(apply acO;rfl)|(apply acM;rfl)|(apply aif;rfl;all_goals intro _)|(apply aev;rfl;rfl;rfl)|(apply aes;rfl;rfl;rfl)|(apply ahX;rfl;rfl;rfl)|(apply abA;rfl;rfl)|(apply abC;rfl;rfl)
 exact⟨.inr rfl,rfl,_,rfl,rfl,rfl⟩
def pT (k:List UInt8):Int:=if k=cF then 1 else 0
def fZ (k:List UInt8):Int:=if k=cF then 863999999 else if k=pS then 999999 else 99999
def known (k:List UInt8):Prop:=k=cF\/k=pS\/k=rR
instance (k:List UInt8):Decidable (known k):=by unfold known;infer_instance
def eo (k:List UInt8)(v:Int)(r:List UInt8):Int:=
 if k=nW then (if r∉uP then 1 else if v≠0 then 3 else 0) else if ¬known k then 13 else if r≠[] then 1 else if v<pT k\/fZ k<v then 3 else 0
theorem afG (k:List UInt8):k=nW\/k=cF\/k=pS\/k=rR\/(k≠nW/\¬known k):=by
 unfold known;by_cases h1:k=nW
 . exact .inl h1
 by_cases h2:k=cF
 . exact .inr (.inl h2)
 by_cases h3:k=pS
 . exact .inr (.inr (.inl h3))
 by_cases h4:k=rR
 . exact .inr (.inr (.inr (.inl h4)))
 exact .inr (.inr (.inr (.inr ⟨h1,by simp[h2,h3,h4]⟩)))
def afH:List (Nat×Spec):=[(186,Ad),(237,Gw),(228,jq),(227,iw),(238,fun
 | [.int .i64 x,.int .i64 lo,.int .i64 hi],h=>some ⟨.bool (decide (x<lo) || decide (hi<x)),h,[]⟩
 | _,_=>none)]
theorem afI (hft:F=FT)(k:List UInt8)(v:Int)(r:List UInt8):bm (kQ afH inv F) 184 [mf k v r] [] ⟨.iV (eo k v r),[],[]⟩:=by
 refine bX (show F 184=_ from by rw[hft];exact adY) ax ?_;unfold Od;simp only[enter];rcases afG k with rfl|rfl|rfl|rfl|⟨h1,h2⟩
 . repeat' first|apply abx|apply aa|apply abr|apply aaL|apply aef|apply acG|apply aeM|apply adA|apply ba|apply bH|apply bC|apply cn|apply bJ|(apply dT;rfl)|apply cA|apply dr|apply ck|apply eM|(apply ahZ;rfl)|apply afU|apply agy|(apply ain;rfl)|(apply ail;rfl)|(apply aio;rfl)|(apply aip;rfl)|(apply aix;rfl)|(apply ahl;rfl)|(apply ahb;rfl;rfl;(first|(simp only[nca];rfl)|rfl))|(apply ahY;rfl;(first|(simp only[nca];rfl)|rfl);(first|(simp only[nca];rfl)|rfl))|(apply aij;rfl)|(apply aiv;rfl;rfl)|(apply aiu;rfl;rfl;rfl;rfl;all_goals first|(intro h;exact absurd h ao)|intro _)|(apply ahR;rfl;rfl;rfl;rfl)|(apply ait;rfl;rfl;rfl;rfl)|(apply acO;rfl)|(apply acM;rfl)|(apply aif;rfl;all_goals intro _)|(apply afe;rfl;rfl)|(apply agx;rfl;rfl)|(apply ahV;rfl;rfl;all_goals first|(intro h;exact absurd h ao)|(intro h;exact absurd rfl h)|(intro h;contradiction)|intro _)|(apply aih;rfl;rfl;all_goals first|(intro h;exact absurd h ao)|(intro h;exact absurd rfl h)|(intro h;contradiction)|intro _)|(apply aim;rfl;rfl;rfl;all_goals first|(intro h;exact absurd h ao)|intro _)|(apply adX;rfl;rfl;rfl)|(apply aev;rfl;rfl;rfl)|(apply aes;rfl;rfl;rfl)|(apply ahX;rfl;rfl;rfl)|(apply abA;rfl;rfl)|(apply abC;rfl;rfl)|(intro _;omega)|intro _
   all_goals refine⟨.inr rfl,rfl,_,rfl,congrArg (AV.int .i64) ?_,rfl⟩
   all_goals (by_cases hr:r∈uP <;> simp_all [dM,eo])
 . repeat' first|apply abx|apply aa|apply abr|apply aaL|apply aef|apply acG|apply aeM|apply adA|apply ba|apply bH|apply bC|apply cn|apply bJ|(apply dT;rfl)|apply cA|apply dr|apply ck|apply eM|(apply ahZ;rfl)|apply afU|apply agy|(apply ain;rfl)|(apply ail;rfl)|(apply aio;rfl)|(apply aip;rfl)|(apply aix;rfl)|(apply ahl;rfl)|(apply ahb;rfl;rfl;(first|(simp only[nca];rfl)|rfl))|(apply ahY;rfl;(first|(simp only[nca];rfl)|rfl);(first|(simp only[nca];rfl)|rfl))|(apply aij;rfl)|(apply aiv;rfl;rfl)|(apply aiu;rfl;rfl;rfl;rfl;all_goals first|(intro h;exact absurd h ao)|intro _)|(apply ahR;rfl;rfl;rfl;rfl)|(apply ait;rfl;rfl;rfl;rfl)|(apply acO;rfl)|(apply acM;rfl)|(apply aif;rfl;all_goals intro _)|(apply afe;rfl;rfl)|(apply agx;rfl;rfl)|(apply ahV;rfl;rfl;all_goals first|(intro h;exact absurd h ao)|(intro h;exact absurd rfl h)|(intro h;contradiction)|intro _)|(apply aih;rfl;rfl;all_goals first|(intro h;exact absurd h ao)|(intro h;exact absurd rfl h)|(intro h;contradiction)|intro _)|(apply aim;rfl;rfl;rfl;all_goals first|(intro h;exact absurd h ao)|intro _)|(apply adX;rfl;rfl;rfl)|(apply aev;rfl;rfl;rfl)|(apply aes;rfl;rfl;rfl)|(apply ahX;rfl;rfl;rfl)|(apply abA;rfl;rfl)|(apply abC;rfl;rfl)|(intro _;omega)|intro _
   all_goals refine⟨.inr rfl,rfl,_,rfl,congrArg (AV.int .i64) ?_,rfl⟩
   all_goals (by_cases hv:v<1\/863999999<v <;> simp_all [dM,eo,known,pT,fZ] <;> omega)
 . repeat' first|apply abx|apply aa|apply abr|apply aaL|apply aef|apply acG|apply aeM|apply adA|apply ba|apply bH|apply bC|apply cn|apply bJ|(apply dT;rfl)|apply cA|apply dr|apply ck|apply eM|(apply ahZ;rfl)|apply afU|apply agy|(apply ain;rfl)|(apply ail;rfl)|(apply aio;rfl)|(apply aip;rfl)|(apply aix;rfl)|(apply ahl;rfl)|(apply ahb;rfl;rfl;(first|(simp only[nca];rfl)|rfl))|(apply ahY;rfl;(first|(simp only[nca];rfl)|rfl);(first|(simp only[nca];rfl)|rfl))|(apply aij;rfl)|(apply aiv;rfl;rfl)|(apply aiu;rfl;rfl;rfl;rfl;all_goals first|(intro h;exact absurd h ao)|intro _)|(apply ahR;rfl;rfl;rfl;rfl)|(apply ait;rfl;rfl;rfl;rfl)|(apply acO;rfl)|(apply acM;rfl)|(apply aif;rfl;all_goals intro _)|(apply afe;rfl;rfl)|(apply agx;rfl;rfl)|(apply ahV;rfl;rfl;all_goals first|(intro h;exact absurd h ao)|(intro h;exact absurd rfl h)|(intro h;contradiction)|intro _)|(apply aih;rfl;rfl;all_goals first|(intro h;exact absurd h ao)|(intro h;exact absurd rfl h)|(intro h;contradiction)|intro _)|(apply aim;rfl;rfl;rfl;all_goals first|(intro h;exact absurd h ao)|intro _)|(apply adX;rfl;rfl;rfl)|(apply aev;rfl;rfl;rfl)|(apply aes;rfl;rfl;rfl)|(apply ahX;rfl;rfl;rfl)|(apply abA;rfl;rfl)|(apply abC;rfl;rfl)|(intro _;omega)|intro _
   all_goals refine⟨.inr rfl,rfl,_,rfl,congrArg (AV.int .i64) ?_,rfl⟩
   all_goals (by_cases hv:v<0\/999999<v <;> simp_all [dM,eo,known,pT,fZ] <;> omega)
 . repeat' first|apply abx|apply aa|apply abr|apply aaL|apply aef|apply acG|apply aeM|apply adA|apply ba|apply bH|apply bC|apply cn|apply bJ|(apply dT;rfl)|apply cA|apply dr|apply ck|apply eM|(apply ahZ;rfl)|apply afU|apply agy|(apply ain;rfl)|(apply ail;rfl)|(apply aio;rfl)|(apply aip;rfl)|(apply aix;rfl)|(apply ahl;rfl)|(apply ahb;rfl;rfl;(first|(simp only[nca];rfl)|rfl))|(apply ahY;rfl;(first|(simp only[nca];rfl)|rfl);(first|(simp only[nca];rfl)|rfl))|(apply aij;rfl)|(apply aiv;rfl;rfl)|(apply aiu;rfl;rfl;rfl;rfl;all_goals first|(intro h;exact absurd h ao)|intro _)|(apply ahR;rfl;rfl;rfl;rfl)|(apply ait;rfl;rfl;rfl;rfl)|(apply acO;rfl)|(apply acM;rfl)|(apply aif;rfl;all_goals intro _)|(apply afe;rfl;rfl)|(apply agx;rfl;rfl)|(apply ahV;rfl;rfl;all_goals first|(intro h;exact absurd h ao)|(intro h;exact absurd rfl h)|(intro h;contradiction)|intro _)|(apply aih;rfl;rfl;all_goals first|(intro h;exact absurd h ao)|(intro h;exact absurd rfl h)|(intro h;contradiction)|intro _)|(apply aim;rfl;rfl;rfl;all_goals first|(intro h;exact absurd h ao)|intro _)|(apply adX;rfl;rfl;rfl)|(apply aev;rfl;rfl;rfl)|(apply aes;rfl;rfl;rfl)|(apply ahX;rfl;rfl;rfl)|(apply abA;rfl;rfl)|(apply abC;rfl;rfl)|(intro _;omega)|intro _
   all_goals refine⟨.inr rfl,rfl,_,rfl,congrArg (AV.int .i64) ?_,rfl⟩
   all_goals (by_cases hv:v<0\/99999<v <;> simp_all [dM,eo,known,pT,fZ] <;> omega)
 . simp only[known,not_or]at h2;have b1:(k == cF)=false:=beq_eq_false_iff_ne.2 h2.1;have b2:(k == pS)=false:=beq_eq_false_iff_ne.2 h2.2.1;have b3:(k == rR)=false:=beq_eq_false_iff_ne.2 h2.2.2;repeat' first|apply abx|apply aa|apply abr|apply aaL|apply aef|apply acG|apply aeM|apply adA|apply ba|apply bH|apply bC|apply cn|apply bJ|(apply dT;rfl)|apply cA|apply dr|apply ck|apply eM|(apply ahZ;rfl)|apply afU|apply agy|(apply ain;rfl)|(apply ail;rfl)|(apply aio;rfl)|(apply aip;rfl)|(apply aix;rfl)|(apply ahl;rfl)|(apply ahb;rfl;rfl;(first|(simp only[nca];rfl)|rfl))|(apply ahY;rfl;(first|(simp only[nca];rfl)|rfl);(first|(simp only[nca];rfl)|rfl))|(apply aij;rfl)|(apply aiv;rfl;rfl)|(apply aiu;rfl;rfl;rfl;rfl;all_goals first|(intro h;exact absurd h ao)|intro _)|(apply ahR;rfl;rfl;rfl;rfl)|(apply ait;rfl;rfl;rfl;rfl)|(apply acO;rfl)|(apply acM;rfl)|(apply aif;rfl;all_goals intro _)|(apply afe;rfl;rfl)|(apply agx;rfl;rfl)|(apply aiB;rfl;rfl;rfl;rfl;simp only[jB,mn,b1,b2,b3])|(apply ahV;rfl;rfl;all_goals first|(intro h;exact absurd h ao)|(intro h;exact absurd rfl h)|(intro h;contradiction)|intro _)|(apply aih;rfl;rfl;all_goals first|(intro h;exact absurd h ao)|(intro h;exact absurd rfl h)|(intro h;contradiction)|intro _)|(apply aim;rfl;rfl;rfl;all_goals first|(intro h;exact absurd h ao)|intro _)|(apply adX;rfl;rfl;rfl)|(apply aev;rfl;rfl;rfl)|(apply aes;rfl;rfl;rfl)|(apply ahX;rfl;rfl;rfl)|(apply abA;rfl;rfl)|(apply abC;rfl;rfl)|(intro _;omega)|intro _
   all_goals refine⟨.inr rfl,rfl,_,rfl,congrArg (AV.int .i64) ?_,rfl⟩
   all_goals simp[dM,eo,known,h1,h2]
def Gx:Spec:=fun
 | [.agg [.str k,.int .i64 v,.str r]],h=>some ⟨.int .i64 (eo k v r),h,[]⟩
 | _,_=>none
def stepOf (k c:List UInt8):Int:=
 if k=cF then (if c=iz then 1 else if c=jW then 100 else if c=iK then 1000 else 0)
 else if k=pS then (if c=iz then 1 else if c=me then 10 else 0)
 else if k=rR then (if c=iz then 1 else 0) else 0
def eW (k:List UInt8)(s v:Int):Int:=if k=cF then v+(s-1)-(v+(s-1))%s else v-v%s
def isClass (c:List UInt8):Prop:=c∈[iz,jW,iK,me]
instance (c:List UInt8):Decidable (isClass c):=by unfold isClass;infer_instance
def fD (k:List UInt8)(v:Int)(r c:List UInt8):Int:=
 if eo k v r≠0 then eo k v r else if k=nW then (if isClass c then 0 else 13) else if stepOf k c=0 then 13 else if fZ k<eW k (stepOf k c) v then 4 else 0
def gK (k:List UInt8)(v:Int)(r c:List UInt8):List UInt8:=if fD k v r c≠0 then [] else k
def gM (k:List UInt8)(v:Int)(r c:List UInt8):List UInt8:=if fD k v r c≠0 then [] else r
def gN (k:List UInt8)(v:Int)(r c:List UInt8):Int:=if fD k v r c≠0 then 0 else if k=nW then v else eW k (stepOf k c) v
abbrev pU (k:List UInt8)(v:Int)(r c:List UInt8):AV:=.aw [mf (gK k v r c) (gN k v r c) (gM k v r c),.iV (fD k v r c)]
theorem afJ (c:List UInt8):c=iz\/c=jW\/c=iK\/c=me\/(c≠iz/\c≠jW/\c≠iK/\c≠me):=by
 by_cases h1:c=iz
 . exact .inl h1
 by_cases h2:c=jW
 . exact .inr (.inl h2)
 by_cases h3:c=iK
 . exact .inr (.inr (.inl h3))
 by_cases h4:c=me
 . exact .inr (.inr (.inr (.inl h4)))
 exact .inr (.inr (.inr (.inr ⟨h1,h2,h3,h4⟩)))
theorem EV {k:List UInt8}{v:Int}{r:List UInt8}(h:eo k v r=0):(k=nW/\r∈uP/\v=0)\/(k≠nW/\known k/\r=[]/\pT k<=v/\v<=fZ k):=by
 unfold eo at h;split at h
 . rename_i h1;split at h
   . cases h
   . rename_i h2;split at h
     . cases h
     . rename_i h3;exact .inl ⟨h1,c5.1 h2,c5.1 h3⟩
 . rename_i h1;split at h
   . cases h
   . rename_i h2;split at h
     . cases h
     . rename_i h3;split at h
       . cases h
       . rename_i h4;exact .inr ⟨h1,c5.1 h2,c5.1 h3,ac,ac⟩
def afK:List (Nat×Spec):=[(184,Gx),(185,Ac),(186,Ad)]
theorem afL (hft:F=FT)(k:List UInt8)(v:Int)(r c:List UInt8):bm (kQ afK inv F) 132 [mf k v r,.str c] [] ⟨pU k v r c,[],[]⟩:=by
 refine bX (show F 132=_ from by rw[hft];exact aeb) ax ?_;unfold Og;simp only[enter];by_cases he:eo k v r=0
 . rcases EV he with ⟨rfl,hr,rfl⟩|⟨hk,hk2,rfl,hl,hm⟩
   . repeat' first|apply abx|apply aa|apply abr|apply aaL|apply aef|apply acG|apply aeM|apply adA|apply ba|apply bH|apply bC|apply cn|apply bJ|(apply dT;rfl)|apply cA|apply dr|apply ck|apply eM|(apply ahZ;rfl)|apply afU|apply agy|(apply ain;rfl)|(apply ail;rfl)|(apply aio;rfl)|(apply aip;rfl)|(apply aix;rfl)|(apply ahl;rfl)|(apply ahb;rfl;rfl;(first|(simp only[nca];rfl)|rfl))|(apply ahY;rfl;(first|(simp only[nca];rfl)|rfl);(first|(simp only[nca];rfl)|rfl))|(apply aij;rfl)|(apply aiv;rfl;rfl)|(apply aiu;rfl;rfl;rfl;rfl;all_goals first|(intro h;exact absurd h ao)|intro _)|(apply ahR;rfl;rfl;rfl;rfl)|(apply ait;rfl;rfl;rfl;rfl)|(apply acO;rfl)|(apply acM;rfl)|(apply aif;rfl;all_goals intro _)|(apply aeq;rfl;rfl)|(apply afe;rfl;rfl)|(apply agx;rfl;rfl)|(apply aeX;rfl;rfl;omega)|(apply afS;rfl;rfl;omega)|(apply aiq;rfl;rfl;first|omega|(simp only[be,bj,br];omega)|(simp;omega))|(apply aiy;rfl;rfl;omega;intro _ _)|(apply aiD;rfl;rfl;omega;intro _ _)|(apply ais;rfl;rfl;omega)|(apply ahV;rfl;rfl;all_goals first|(intro h;exact absurd h ao)|(intro h;exact absurd rfl h)|(intro h;contradiction)|intro _)|(apply aih;rfl;rfl;all_goals first|(intro h;exact absurd h ao)|(intro h;exact absurd rfl h)|(intro h;contradiction)|intro _)|(apply aim;rfl;rfl;rfl;all_goals first|(intro h;exact absurd h ao)|intro _)|(apply adX;rfl;rfl;rfl)|(apply aev;rfl;rfl;rfl)|(apply aes;rfl;rfl;rfl)|(apply ahX;rfl;rfl;rfl)|(apply abA;rfl;rfl)|(apply abC;rfl;rfl)|(intro _;omega)|intro _
     all_goals refine⟨.inr rfl,rfl,_,rfl,?_,rfl⟩
     . rename_i h;have h':isClass c:=of_decide_eq_true h;simp[bk,gK,gM,gN,fD,he,h',overwrite]
     . rename_i h;have h':¬isClass c:=of_decide_eq_false h;simp[bk,gK,gM,gN,fD,he,h',overwrite]
   . rcases hk2 with rfl|rfl|rfl;all_goals simp only[pT,fZ]at hl hm
     all_goals simp(decide:=true) at hl hm
     all_goals rcases afJ c with rfl|rfl|rfl|rfl|⟨c1,c2,c3,c4⟩
     . repeat' first|apply abx|apply aa|apply abr|apply aaL|apply aef|apply acG|apply aeM|apply adA|apply ba|apply bH|apply bC|apply cn|apply bJ|(apply dT;rfl)|apply cA|apply dr|apply ck|apply eM|(apply ahZ;rfl)|apply afU|apply agy|(apply ain;rfl)|(apply ail;rfl)|(apply aio;rfl)|(apply aip;rfl)|(apply aix;rfl)|(apply ahl;rfl)|(apply ahb;rfl;rfl;(first|(simp only[nca];rfl)|rfl))|(apply ahY;rfl;(first|(simp only[nca];rfl)|rfl);(first|(simp only[nca];rfl)|rfl))|(apply aij;rfl)|(apply aiv;rfl;rfl)|(apply aiu;rfl;rfl;rfl;rfl;all_goals first|(intro h;exact absurd h ao)|intro _)|(apply ahR;rfl;rfl;rfl;rfl)|(apply ait;rfl;rfl;rfl;rfl)|(apply acO;rfl)|(apply acM;rfl)|(apply aif;rfl;all_goals intro _)|(apply aeq;rfl;rfl)|(apply afe;rfl;rfl)|(apply agx;rfl;rfl)|(apply aeX;rfl;rfl;omega)|(apply afS;rfl;rfl;omega)|(apply aiq;rfl;rfl;first|omega|(simp only[be,bj,br];omega)|(simp;omega))|(apply aiy;rfl;rfl;omega;intro _ _)|(apply aiD;rfl;rfl;omega;intro _ _)|(apply ais;rfl;rfl;omega)|(apply aiB;rfl;rfl;rfl;rfl;rfl)|(apply ahV;rfl;rfl;all_goals first|(intro h;exact absurd h ao)|(intro h;exact absurd rfl h)|(intro h;contradiction)|intro _)|(apply aih;rfl;rfl;all_goals first|(intro h;exact absurd h ao)|(intro h;exact absurd rfl h)|(intro h;contradiction)|intro _)|(apply aim;rfl;rfl;rfl;all_goals first|(intro h;exact absurd h ao)|intro _)|(apply adX;rfl;rfl;rfl)|(apply aev;rfl;rfl;rfl)|(apply aes;rfl;rfl;rfl)|(apply ahX;rfl;rfl;rfl)|(apply abA;rfl;rfl)|(apply abC;rfl;rfl)|(intro _;omega)|intro _
       all_goals refine⟨.inr rfl,rfl,_,rfl,?_,rfl⟩
       all_goals simp_all [bk,gK,gM,gN,fD,stepOf,eW,fZ,overwrite]
     . repeat' first|apply abx|apply aa|apply abr|apply aaL|apply aef|apply acG|apply aeM|apply adA|apply ba|apply bH|apply bC|apply cn|apply bJ|(apply dT;rfl)|apply cA|apply dr|apply ck|apply eM|(apply ahZ;rfl)|apply afU|apply agy|(apply ain;rfl)|(apply ail;rfl)|(apply aio;rfl)|(apply aip;rfl)|(apply aix;rfl)|(apply ahl;rfl)|(apply ahb;rfl;rfl;(first|(simp only[nca];rfl)|rfl))|(apply ahY;rfl;(first|(simp only[nca];rfl)|rfl);(first|(simp only[nca];rfl)|rfl))|(apply aij;rfl)|(apply aiv;rfl;rfl)|(apply aiu;rfl;rfl;rfl;rfl;all_goals first|(intro h;exact absurd h ao)|intro _)|(apply ahR;rfl;rfl;rfl;rfl)|(apply ait;rfl;rfl;rfl;rfl)|(apply acO;rfl)|(apply acM;rfl)|(apply aif;rfl;all_goals intro _)|(apply aeq;rfl;rfl)|(apply afe;rfl;rfl)|(apply agx;rfl;rfl)|(apply aeX;rfl;rfl;omega)|(apply afS;rfl;rfl;omega)|(apply aiq;rfl;rfl;first|omega|(simp only[be,bj,br];omega)|(simp;omega))|(apply aiy;rfl;rfl;omega;intro _ _)|(apply aiD;rfl;rfl;omega;intro _ _)|(apply ais;rfl;rfl;omega)|(apply aiB;rfl;rfl;rfl;rfl;rfl)|(apply ahV;rfl;rfl;all_goals first|(intro h;exact absurd h ao)|(intro h;exact absurd rfl h)|(intro h;contradiction)|intro _)|(apply aih;rfl;rfl;all_goals first|(intro h;exact absurd h ao)|(intro h;exact absurd rfl h)|(intro h;contradiction)|intro _)|(apply aim;rfl;rfl;rfl;all_goals first|(intro h;exact absurd h ao)|intro _)|(apply adX;rfl;rfl;rfl)|(apply aev;rfl;rfl;rfl)|(apply aes;rfl;rfl;rfl)|(apply ahX;rfl;rfl;rfl)|(apply abA;rfl;rfl)|(apply abC;rfl;rfl)|(intro _;omega)|intro _
       all_goals refine⟨.inr rfl,rfl,_,rfl,?_,rfl⟩
       all_goals simp_all [bk,gK,gM,gN,fD,stepOf,eW,fZ,overwrite]
     . repeat' first|apply abx|apply aa|apply abr|apply aaL|apply aef|apply acG|apply aeM|apply adA|apply ba|apply bH|apply bC|apply cn|apply bJ|(apply dT;rfl)|apply cA|apply dr|apply ck|apply eM|(apply ahZ;rfl)|apply afU|apply agy|(apply ain;rfl)|(apply ail;rfl)|(apply aio;rfl)|(apply aip;rfl)|(apply aix;rfl)|(apply ahl;rfl)|(apply ahb;rfl;rfl;(first|(simp only[nca];rfl)|rfl))|(apply ahY;rfl;(first|(simp only[nca];rfl)|rfl);(first|(simp only[nca];rfl)|rfl))|(apply aij;rfl)|(apply aiv;rfl;rfl)|(apply aiu;rfl;rfl;rfl;rfl;all_goals first|(intro h;exact absurd h ao)|intro _)|(apply ahR;rfl;rfl;rfl;rfl)|(apply ait;rfl;rfl;rfl;rfl)|(apply acO;rfl)|(apply acM;rfl)|(apply aif;rfl;all_goals intro _)|(apply aeq;rfl;rfl)|(apply afe;rfl;rfl)|(apply agx;rfl;rfl)|(apply aeX;rfl;rfl;omega)|(apply afS;rfl;rfl;omega)|(apply aiq;rfl;rfl;first|omega|(simp only[be,bj,br];omega)|(simp;omega))|(apply aiy;rfl;rfl;omega;intro _ _)|(apply aiD;rfl;rfl;omega;intro _ _)|(apply ais;rfl;rfl;omega)|(apply aiB;rfl;rfl;rfl;rfl;rfl)|(apply ahV;rfl;rfl;all_goals first|(intro h;exact absurd h ao)|(intro h;exact absurd rfl h)|(intro h;contradiction)|intro _)|(apply aih;rfl;rfl;all_goals first|(intro h;exact absurd h ao)|(intro h;exact absurd rfl h)|(intro h;contradiction)|intro _)|(apply aim;rfl;rfl;rfl;all_goals first|(intro h;exact absurd h ao)|intro _)|(apply adX;rfl;rfl;rfl)|(apply aev;rfl;rfl;rfl)|(apply aes;rfl;rfl;rfl)|(apply ahX;rfl;rfl;rfl)|(apply abA;rfl;rfl)|(apply abC;rfl;rfl)|(intro _;omega)|intro _
       all_goals refine⟨.inr rfl,rfl,_,rfl,?_,rfl⟩
       all_goals simp_all [bk,gK,gM,gN,fD,stepOf,eW,fZ,overwrite]
     . repeat' first|apply abx|apply aa|apply abr|apply aaL|apply aef|apply acG|apply aeM|apply adA|apply ba|apply bH|apply bC|apply cn|apply bJ|(apply dT;rfl)|apply cA|apply dr|apply ck|apply eM|(apply ahZ;rfl)|apply afU|apply agy|(apply ain;rfl)|(apply ail;rfl)|(apply aio;rfl)|(apply aip;rfl)|(apply aix;rfl)|(apply ahl;rfl)|(apply ahb;rfl;rfl;(first|(simp only[nca];rfl)|rfl))|(apply ahY;rfl;(first|(simp only[nca];rfl)|rfl);(first|(simp only[nca];rfl)|rfl))|(apply aij;rfl)|(apply aiv;rfl;rfl)|(apply aiu;rfl;rfl;rfl;rfl;all_goals first|(intro h;exact absurd h ao)|intro _)|(apply ahR;rfl;rfl;rfl;rfl)|(apply ait;rfl;rfl;rfl;rfl)|(apply acO;rfl)|(apply acM;rfl)|(apply aif;rfl;all_goals intro _)|(apply aeq;rfl;rfl)|(apply afe;rfl;rfl)|(apply agx;rfl;rfl)|(apply aeX;rfl;rfl;omega)|(apply afS;rfl;rfl;omega)|(apply aiq;rfl;rfl;first|omega|(simp only[be,bj,br];omega)|(simp;omega))|(apply aiy;rfl;rfl;omega;intro _ _)|(apply aiD;rfl;rfl;omega;intro _ _)|(apply ais;rfl;rfl;omega)|(apply aiB;rfl;rfl;rfl;rfl;rfl)|(apply ahV;rfl;rfl;all_goals first|(intro h;exact absurd h ao)|(intro h;exact absurd rfl h)|(intro h;contradiction)|intro _)|(apply aih;rfl;rfl;all_goals first|(intro h;exact absurd h ao)|(intro h;exact absurd rfl h)|(intro h;contradiction)|intro _)|(apply aim;rfl;rfl;rfl;all_goals first|(intro h;exact absurd h ao)|intro _)|(apply adX;rfl;rfl;rfl)|(apply aev;rfl;rfl;rfl)|(apply aes;rfl;rfl;rfl)|(apply ahX;rfl;rfl;rfl)|(apply abA;rfl;rfl)|(apply abC;rfl;rfl)|(intro _;omega)|intro _
       all_goals refine⟨.inr rfl,rfl,_,rfl,?_,rfl⟩
       all_goals simp_all [bk,gK,gM,gN,fD,stepOf,overwrite]
     . have b1:(c == iz)=false:=beq_eq_false_iff_ne.2 c1;have b2:(c == jW)=false:=beq_eq_false_iff_ne.2 c2;have b3:(c == iK)=false:=beq_eq_false_iff_ne.2 c3;have b4:(c == me)=false:=beq_eq_false_iff_ne.2 c4;repeat' first|apply abx|apply aa|apply abr|apply aaL|apply aef|apply acG|apply aeM|apply adA|apply ba|apply bH|apply bC|apply cn|apply bJ|(apply dT;rfl)|apply cA|apply dr|apply ck|apply eM|(apply ahZ;rfl)|apply afU|apply agy|(apply ain;rfl)|(apply ail;rfl)|(apply aio;rfl)|(apply aip;rfl)|(apply aix;rfl)|(apply ahl;rfl)|(apply ahb;rfl;rfl;(first|(simp only[nca];rfl)|rfl))|(apply ahY;rfl;(first|(simp only[nca];rfl)|rfl);(first|(simp only[nca];rfl)|rfl))|(apply aij;rfl)|(apply aiv;rfl;rfl)|(apply aiu;rfl;rfl;rfl;rfl;all_goals first|(intro h;exact absurd h ao)|intro _)|(apply ahR;rfl;rfl;rfl;rfl)|(apply ait;rfl;rfl;rfl;rfl)|(apply acO;rfl)|(apply acM;rfl)|(apply aif;rfl;all_goals intro _)|(apply aeq;rfl;rfl)|(apply afe;rfl;rfl)|(apply agx;rfl;rfl)|(apply aeX;rfl;rfl;omega)|(apply afS;rfl;rfl;omega)|(apply aiq;rfl;rfl;first|omega|(simp only[be,bj,br];omega)|(simp;omega))|(apply aiy;rfl;rfl;omega;intro _ _)|(apply aiD;rfl;rfl;omega;intro _ _)|(apply ais;rfl;rfl;omega)|(apply aiB (es:=[(.str iz,.iV 1),(.str jW,.iV 100),(.str iK,.iV 1000)]);rfl;rfl;rfl;rfl;simp only[jB,mn,b1,b2,b3])|(apply ahV;rfl;rfl;all_goals first|(intro h;exact absurd h ao)|(intro h;exact absurd rfl h)|(intro h;contradiction)|intro _)|(apply aih;rfl;rfl;all_goals first|(intro h;exact absurd h ao)|(intro h;exact absurd rfl h)|(intro h;contradiction)|intro _)|(apply aim;rfl;rfl;rfl;all_goals first|(intro h;exact absurd h ao)|intro _)|(apply adX;rfl;rfl;rfl)|(apply aev;rfl;rfl;rfl)|(apply aes;rfl;rfl;rfl)|(apply ahX;rfl;rfl;rfl)|(apply abA;rfl;rfl)|(apply abC;rfl;rfl)|(intro _;omega)|intro _
       all_goals refine⟨.inr rfl,rfl,_,rfl,?_,rfl⟩
       all_goals simp_all [bk,gK,gM,gN,fD,stepOf,overwrite]
     . repeat' first|apply abx|apply aa|apply abr|apply aaL|apply aef|apply acG|apply aeM|apply adA|apply ba|apply bH|apply bC|apply cn|apply bJ|(apply dT;rfl)|apply cA|apply dr|apply ck|apply eM|(apply ahZ;rfl)|apply afU|apply agy|(apply ain;rfl)|(apply ail;rfl)|(apply aio;rfl)|(apply aip;rfl)|(apply aix;rfl)|(apply ahl;rfl)|(apply ahb;rfl;rfl;(first|(simp only[nca];rfl)|rfl))|(apply ahY;rfl;(first|(simp only[nca];rfl)|rfl);(first|(simp only[nca];rfl)|rfl))|(apply aij;rfl)|(apply aiv;rfl;rfl)|(apply aiu;rfl;rfl;rfl;rfl;all_goals first|(intro h;exact absurd h ao)|intro _)|(apply ahR;rfl;rfl;rfl;rfl)|(apply ait;rfl;rfl;rfl;rfl)|(apply acO;rfl)|(apply acM;rfl)|(apply aif;rfl;all_goals intro _)|(apply aeq;rfl;rfl)|(apply afe;rfl;rfl)|(apply agx;rfl;rfl)|(apply aeX;rfl;rfl;omega)|(apply afS;rfl;rfl;omega)|(apply aiq;rfl;rfl;first|omega|(simp only[be,bj,br];omega)|(simp;omega))|(apply aiy;rfl;rfl;omega;intro _ _)|(apply aiD;rfl;rfl;omega;intro _ _)|(apply ais;rfl;rfl;omega)|(apply aiB;rfl;rfl;rfl;rfl;rfl)|(apply ahV;rfl;rfl;all_goals first|(intro h;exact absurd h ao)|(intro h;exact absurd rfl h)|(intro h;contradiction)|intro _)|(apply aih;rfl;rfl;all_goals first|(intro h;exact absurd h ao)|(intro h;exact absurd rfl h)|(intro h;contradiction)|intro _)|(apply aim;rfl;rfl;rfl;all_goals first|(intro h;exact absurd h ao)|intro _)|(apply adX;rfl;rfl;rfl)|(apply aev;rfl;rfl;rfl)|(apply aes;rfl;rfl;rfl)|(apply ahX;rfl;rfl;rfl)|(apply abA;rfl;rfl)|(apply abC;rfl;rfl)|(intro _;omega)|intro _
       all_goals refine⟨.inr rfl,rfl,_,rfl,?_,rfl⟩
       all_goals simp_all [bk,gK,gM,gN,fD,stepOf,eW,fZ,overwrite]
     . repeat' first|apply abx|apply aa|apply abr|apply aaL|apply aef|apply acG|apply aeM|apply adA|apply ba|apply bH|apply bC|apply cn|apply bJ|(apply dT;rfl)|apply cA|apply dr|apply ck|apply eM|(apply ahZ;rfl)|apply afU|apply agy|(apply ain;rfl)|(apply ail;rfl)|(apply aio;rfl)|(apply aip;rfl)|(apply aix;rfl)|(apply ahl;rfl)|(apply ahb;rfl;rfl;(first|(simp only[nca];rfl)|rfl))|(apply ahY;rfl;(first|(simp only[nca];rfl)|rfl);(first|(simp only[nca];rfl)|rfl))|(apply aij;rfl)|(apply aiv;rfl;rfl)|(apply aiu;rfl;rfl;rfl;rfl;all_goals first|(intro h;exact absurd h ao)|intro _)|(apply ahR;rfl;rfl;rfl;rfl)|(apply ait;rfl;rfl;rfl;rfl)|(apply acO;rfl)|(apply acM;rfl)|(apply aif;rfl;all_goals intro _)|(apply aeq;rfl;rfl)|(apply afe;rfl;rfl)|(apply agx;rfl;rfl)|(apply aeX;rfl;rfl;omega)|(apply afS;rfl;rfl;omega)|(apply aiq;rfl;rfl;first|omega|(simp only[be,bj,br];omega)|(simp;omega))|(apply aiy;rfl;rfl;omega;intro _ _)|(apply aiD;rfl;rfl;omega;intro _ _)|(apply ais;rfl;rfl;omega)|(apply aiB;rfl;rfl;rfl;rfl;rfl)|(apply ahV;rfl;rfl;all_goals first|(intro h;exact absurd h ao)|(intro h;exact absurd rfl h)|(intro h;contradiction)|intro _)|(apply aih;rfl;rfl;all_goals first|(intro h;exact absurd h ao)|(intro h;exact absurd rfl h)|(intro h;contradiction)|intro _)|(apply aim;rfl;rfl;rfl;all_goals first|(intro h;exact absurd h ao)|intro _)|(apply adX;rfl;rfl;rfl)|(apply aev;rfl;rfl;rfl)|(apply aes;rfl;rfl;rfl)|(apply ahX;rfl;rfl;rfl)|(apply abA;rfl;rfl)|(apply abC;rfl;rfl)|(intro _;omega)|intro _
       all_goals refine⟨.inr rfl,rfl,_,rfl,?_,rfl⟩
       all_goals simp_all [bk,gK,gM,gN,fD,stepOf,overwrite]
     . repeat' first|apply abx|apply aa|apply abr|apply aaL|apply aef|apply acG|apply aeM|apply adA|apply ba|apply bH|apply bC|apply cn|apply bJ|(apply dT;rfl)|apply cA|apply dr|apply ck|apply eM|(apply ahZ;rfl)|apply afU|apply agy|(apply ain;rfl)|(apply ail;rfl)|(apply aio;rfl)|(apply aip;rfl)|(apply aix;rfl)|(apply ahl;rfl)|(apply ahb;rfl;rfl;(first|(simp only[nca];rfl)|rfl))|(apply ahY;rfl;(first|(simp only[nca];rfl)|rfl);(first|(simp only[nca];rfl)|rfl))|(apply aij;rfl)|(apply aiv;rfl;rfl)|(apply aiu;rfl;rfl;rfl;rfl;all_goals first|(intro h;exact absurd h ao)|intro _)|(apply ahR;rfl;rfl;rfl;rfl)|(apply ait;rfl;rfl;rfl;rfl)|(apply acO;rfl)|(apply acM;rfl)|(apply aif;rfl;all_goals intro _)|(apply aeq;rfl;rfl)|(apply afe;rfl;rfl)|(apply agx;rfl;rfl)|(apply aeX;rfl;rfl;omega)|(apply afS;rfl;rfl;omega)|(apply aiq;rfl;rfl;first|omega|(simp only[be,bj,br];omega)|(simp;omega))|(apply aiy;rfl;rfl;omega;intro _ _)|(apply aiD;rfl;rfl;omega;intro _ _)|(apply ais;rfl;rfl;omega)|(apply aiB;rfl;rfl;rfl;rfl;rfl)|(apply ahV;rfl;rfl;all_goals first|(intro h;exact absurd h ao)|(intro h;exact absurd rfl h)|(intro h;contradiction)|intro _)|(apply aih;rfl;rfl;all_goals first|(intro h;exact absurd h ao)|(intro h;exact absurd rfl h)|(intro h;contradiction)|intro _)|(apply aim;rfl;rfl;rfl;all_goals first|(intro h;exact absurd h ao)|intro _)|(apply adX;rfl;rfl;rfl)|(apply aev;rfl;rfl;rfl)|(apply aes;rfl;rfl;rfl)|(apply ahX;rfl;rfl;rfl)|(apply abA;rfl;rfl)|(apply abC;rfl;rfl)|(intro _;omega)|intro _
       all_goals refine⟨.inr rfl,rfl,_,rfl,?_,rfl⟩
       all_goals simp_all [bk,gK,gM,gN,fD,stepOf,overwrite]
     . repeat' first|apply abx|apply aa|apply abr|apply aaL|apply aef|apply acG|apply aeM|apply adA|apply ba|apply bH|apply bC|apply cn|apply bJ|(apply dT;rfl)|apply cA|apply dr|apply ck|apply eM|(apply ahZ;rfl)|apply afU|apply agy|(apply ain;rfl)|(apply ail;rfl)|(apply aio;rfl)|(apply aip;rfl)|(apply aix;rfl)|(apply ahl;rfl)|(apply ahb;rfl;rfl;(first|(simp only[nca];rfl)|rfl))|(apply ahY;rfl;(first|(simp only[nca];rfl)|rfl);(first|(simp only[nca];rfl)|rfl))|(apply aij;rfl)|(apply aiv;rfl;rfl)|(apply aiu;rfl;rfl;rfl;rfl;all_goals first|(intro h;exact absurd h ao)|intro _)|(apply ahR;rfl;rfl;rfl;rfl)|(apply ait;rfl;rfl;rfl;rfl)|(apply acO;rfl)|(apply acM;rfl)|(apply aif;rfl;all_goals intro _)|(apply aeq;rfl;rfl)|(apply afe;rfl;rfl)|(apply agx;rfl;rfl)|(apply aeX;rfl;rfl;omega)|(apply afS;rfl;rfl;omega)|(apply aiq;rfl;rfl;first|omega|(simp only[be,bj,br];omega)|(simp;omega))|(apply aiy;rfl;rfl;omega;intro _ _)|(apply aiD;rfl;rfl;omega;intro _ _)|(apply ais;rfl;rfl;omega)|(apply aiB;rfl;rfl;rfl;rfl;rfl)|(apply ahV;rfl;rfl;all_goals first|(intro h;exact absurd h ao)|(intro h;exact absurd rfl h)|(intro h;contradiction)|intro _)|(apply aih;rfl;rfl;all_goals first|(intro h;exact absurd h ao)|(intro h;exact absurd rfl h)|(intro h;contradiction)|intro _)|(apply aim;rfl;rfl;rfl;all_goals first|(intro h;exact absurd h ao)|intro _)|(apply adX;rfl;rfl;rfl)|(apply aev;rfl;rfl;rfl)|(apply aes;rfl;rfl;rfl)|(apply ahX;rfl;rfl;rfl)|(apply abA;rfl;rfl)|(apply abC;rfl;rfl)|(intro _;omega)|intro _
       all_goals refine⟨.inr rfl,rfl,_,rfl,?_,rfl⟩
       all_goals simp_all [bk,gK,gM,gN,fD,stepOf,eW,fZ,overwrite]
     . have b1:(c == iz)=false:=beq_eq_false_iff_ne.2 c1;have b2:(c == jW)=false:=beq_eq_false_iff_ne.2 c2;have b3:(c == iK)=false:=beq_eq_false_iff_ne.2 c3;have b4:(c == me)=false:=beq_eq_false_iff_ne.2 c4;repeat' first|apply abx|apply aa|apply abr|apply aaL|apply aef|apply acG|apply aeM|apply adA|apply ba|apply bH|apply bC|apply cn|apply bJ|(apply dT;rfl)|apply cA|apply dr|apply ck|apply eM|(apply ahZ;rfl)|apply afU|apply agy|(apply ain;rfl)|(apply ail;rfl)|(apply aio;rfl)|(apply aip;rfl)|(apply aix;rfl)|(apply ahl;rfl)|(apply ahb;rfl;rfl;(first|(simp only[nca];rfl)|rfl))|(apply ahY;rfl;(first|(simp only[nca];rfl)|rfl);(first|(simp only[nca];rfl)|rfl))|(apply aij;rfl)|(apply aiv;rfl;rfl)|(apply aiu;rfl;rfl;rfl;rfl;all_goals first|(intro h;exact absurd h ao)|intro _)|(apply ahR;rfl;rfl;rfl;rfl)|(apply ait;rfl;rfl;rfl;rfl)|(apply acO;rfl)|(apply acM;rfl)|(apply aif;rfl;all_goals intro _)|(apply aeq;rfl;rfl)|(apply afe;rfl;rfl)|(apply agx;rfl;rfl)|(apply aeX;rfl;rfl;omega)|(apply afS;rfl;rfl;omega)|(apply aiq;rfl;rfl;first|omega|(simp only[be,bj,br];omega)|(simp;omega))|(apply aiy;rfl;rfl;omega;intro _ _)|(apply aiD;rfl;rfl;omega;intro _ _)|(apply ais;rfl;rfl;omega)|(apply aiB (es:=[(.str iz,.iV 1),(.str me,.iV 10)]);rfl;rfl;rfl;rfl;simp only[jB,mn,b1,b4])|(apply ahV;rfl;rfl;all_goals first|(intro h;exact absurd h ao)|(intro h;exact absurd rfl h)|(intro h;contradiction)|intro _)|(apply aih;rfl;rfl;all_goals first|(intro h;exact absurd h ao)|(intro h;exact absurd rfl h)|(intro h;contradiction)|intro _)|(apply aim;rfl;rfl;rfl;all_goals first|(intro h;exact absurd h ao)|intro _)|(apply adX;rfl;rfl;rfl)|(apply aev;rfl;rfl;rfl)|(apply aes;rfl;rfl;rfl)|(apply ahX;rfl;rfl;rfl)|(apply abA;rfl;rfl)|(apply abC;rfl;rfl)|(intro _;omega)|intro _
       all_goals refine⟨.inr rfl,rfl,_,rfl,?_,rfl⟩
       all_goals simp_all [bk,gK,gM,gN,fD,stepOf,overwrite]
     . repeat' first|apply abx|apply aa|apply abr|apply aaL|apply aef|apply acG|apply aeM|apply adA|apply ba|apply bH|apply bC|apply cn|apply bJ|(apply dT;rfl)|apply cA|apply dr|apply ck|apply eM|(apply ahZ;rfl)|apply afU|apply agy|(apply ain;rfl)|(apply ail;rfl)|(apply aio;rfl)|(apply aip;rfl)|(apply aix;rfl)|(apply ahl;rfl)|(apply ahb;rfl;rfl;(first|(simp only[nca];rfl)|rfl))|(apply ahY;rfl;(first|(simp only[nca];rfl)|rfl);(first|(simp only[nca];rfl)|rfl))|(apply aij;rfl)|(apply aiv;rfl;rfl)|(apply aiu;rfl;rfl;rfl;rfl;all_goals first|(intro h;exact absurd h ao)|intro _)|(apply ahR;rfl;rfl;rfl;rfl)|(apply ait;rfl;rfl;rfl;rfl)|(apply acO;rfl)|(apply acM;rfl)|(apply aif;rfl;all_goals intro _)|(apply aeq;rfl;rfl)|(apply afe;rfl;rfl)|(apply agx;rfl;rfl)|(apply aeX;rfl;rfl;omega)|(apply afS;rfl;rfl;omega)|(apply aiq;rfl;rfl;first|omega|(simp only[be,bj,br];omega)|(simp;omega))|(apply aiy;rfl;rfl;omega;intro _ _)|(apply aiD;rfl;rfl;omega;intro _ _)|(apply ais;rfl;rfl;omega)|(apply aiB;rfl;rfl;rfl;rfl;rfl)|(apply ahV;rfl;rfl;all_goals first|(intro h;exact absurd h ao)|(intro h;exact absurd rfl h)|(intro h;contradiction)|intro _)|(apply aih;rfl;rfl;all_goals first|(intro h;exact absurd h ao)|(intro h;exact absurd rfl h)|(intro h;contradiction)|intro _)|(apply aim;rfl;rfl;rfl;all_goals first|(intro h;exact absurd h ao)|intro _)|(apply adX;rfl;rfl;rfl)|(apply aev;rfl;rfl;rfl)|(apply aes;rfl;rfl;rfl)|(apply ahX;rfl;rfl;rfl)|(apply abA;rfl;rfl)|(apply abC;rfl;rfl)|(intro _;omega)|intro _
       all_goals refine⟨.inr rfl,rfl,_,rfl,?_,rfl⟩
       all_goals simp_all [bk,gK,gM,gN,fD,stepOf,eW,fZ,overwrite]
     . repeat' first|apply abx|apply aa|apply abr|apply aaL|apply aef|apply acG|apply aeM|apply adA|apply ba|apply bH|apply bC|apply cn|apply bJ|(apply dT;rfl)|apply cA|apply dr|apply ck|apply eM|(apply ahZ;rfl)|apply afU|apply agy|(apply ain;rfl)|(apply ail;rfl)|(apply aio;rfl)|(apply aip;rfl)|(apply aix;rfl)|(apply ahl;rfl)|(apply ahb;rfl;rfl;(first|(simp only[nca];rfl)|rfl))|(apply ahY;rfl;(first|(simp only[nca];rfl)|rfl);(first|(simp only[nca];rfl)|rfl))|(apply aij;rfl)|(apply aiv;rfl;rfl)|(apply aiu;rfl;rfl;rfl;rfl;all_goals first|(intro h;exact absurd h ao)|intro _)|(apply ahR;rfl;rfl;rfl;rfl)|(apply ait;rfl;rfl;rfl;rfl)|(apply acO;rfl)|(apply acM;rfl)|(apply aif;rfl;all_goals intro _)|(apply aeq;rfl;rfl)|(apply afe;rfl;rfl)|(apply agx;rfl;rfl)|(apply aeX;rfl;rfl;omega)|(apply afS;rfl;rfl;omega)|(apply aiq;rfl;rfl;first|omega|(simp only[be,bj,br];omega)|(simp;omega))|(apply aiy;rfl;rfl;omega;intro _ _)|(apply aiD;rfl;rfl;omega;intro _ _)|(apply ais;rfl;rfl;omega)|(apply aiB;rfl;rfl;rfl;rfl;rfl)|(apply ahV;rfl;rfl;all_goals first|(intro h;exact absurd h ao)|(intro h;exact absurd rfl h)|(intro h;contradiction)|intro _)|(apply aih;rfl;rfl;all_goals first|(intro h;exact absurd h ao)|(intro h;exact absurd rfl h)|(intro h;contradiction)|intro _)|(apply aim;rfl;rfl;rfl;all_goals first|(intro h;exact absurd h ao)|intro _)|(apply adX;rfl;rfl;rfl)|(apply aev;rfl;rfl;rfl)|(apply aes;rfl;rfl;rfl)|(apply ahX;rfl;rfl;rfl)|(apply abA;rfl;rfl)|(apply abC;rfl;rfl)|(intro _;omega)|intro _
       all_goals refine⟨.inr rfl,rfl,_,rfl,?_,rfl⟩
       all_goals simp_all [bk,gK,gM,gN,fD,stepOf,overwrite]
     . repeat' first|apply abx|apply aa|apply abr|apply aaL|apply aef|apply acG|apply aeM|apply adA|apply ba|apply bH|apply bC|apply cn|apply bJ|(apply dT;rfl)|apply cA|apply dr|apply ck|apply eM|(apply ahZ;rfl)|apply afU|apply agy|(apply ain;rfl)|(apply ail;rfl)|(apply aio;rfl)|(apply aip;rfl)|(apply aix;rfl)|(apply ahl;rfl)|(apply ahb;rfl;rfl;(first|(simp only[nca];rfl)|rfl))|(apply ahY;rfl;(first|(simp only[nca];rfl)|rfl);(first|(simp only[nca];rfl)|rfl))|(apply aij;rfl)|(apply aiv;rfl;rfl)|(apply aiu;rfl;rfl;rfl;rfl;all_goals first|(intro h;exact absurd h ao)|intro _)|(apply ahR;rfl;rfl;rfl;rfl)|(apply ait;rfl;rfl;rfl;rfl)|(apply acO;rfl)|(apply acM;rfl)|(apply aif;rfl;all_goals intro _)|(apply aeq;rfl;rfl)|(apply afe;rfl;rfl)|(apply agx;rfl;rfl)|(apply aeX;rfl;rfl;omega)|(apply afS;rfl;rfl;omega)|(apply aiq;rfl;rfl;first|omega|(simp only[be,bj,br];omega)|(simp;omega))|(apply aiy;rfl;rfl;omega;intro _ _)|(apply aiD;rfl;rfl;omega;intro _ _)|(apply ais;rfl;rfl;omega)|(apply aiB;rfl;rfl;rfl;rfl;rfl)|(apply ahV;rfl;rfl;all_goals first|(intro h;exact absurd h ao)|(intro h;exact absurd rfl h)|(intro h;contradiction)|intro _)|(apply aih;rfl;rfl;all_goals first|(intro h;exact absurd h ao)|(intro h;exact absurd rfl h)|(intro h;contradiction)|intro _)|(apply aim;rfl;rfl;rfl;all_goals first|(intro h;exact absurd h ao)|intro _)|(apply adX;rfl;rfl;rfl)|(apply aev;rfl;rfl;rfl)|(apply aes;rfl;rfl;rfl)|(apply ahX;rfl;rfl;rfl)|(apply abA;rfl;rfl)|(apply abC;rfl;rfl)|(intro _;omega)|intro _
       all_goals refine⟨.inr rfl,rfl,_,rfl,?_,rfl⟩
       all_goals simp_all [bk,gK,gM,gN,fD,stepOf,overwrite]
     . repeat' first|apply abx|apply aa|apply abr|apply aaL|apply aef|apply acG|apply aeM|apply adA|apply ba|apply bH|apply bC|apply cn|apply bJ|(apply dT;rfl)|apply cA|apply dr|apply ck|apply eM|(apply ahZ;rfl)|apply afU|apply agy|(apply ain;rfl)|(apply ail;rfl)|(apply aio;rfl)|(apply aip;rfl)|(apply aix;rfl)|(apply ahl;rfl)|(apply ahb;rfl;rfl;(first|(simp only[nca];rfl)|rfl))|(apply ahY;rfl;(first|(simp only[nca];rfl)|rfl);(first|(simp only[nca];rfl)|rfl))|(apply aij;rfl)|(apply aiv;rfl;rfl)|(apply aiu;rfl;rfl;rfl;rfl;all_goals first|(intro h;exact absurd h ao)|intro _)|(apply ahR;rfl;rfl;rfl;rfl)|(apply ait;rfl;rfl;rfl;rfl)|(apply acO;rfl)|(apply acM;rfl)|(apply aif;rfl;all_goals intro _)|(apply aeq;rfl;rfl)|(apply afe;rfl;rfl)|(apply agx;rfl;rfl)|(apply aeX;rfl;rfl;omega)|(apply afS;rfl;rfl;omega)|(apply aiq;rfl;rfl;first|omega|(simp only[be,bj,br];omega)|(simp;omega))|(apply aiy;rfl;rfl;omega;intro _ _)|(apply aiD;rfl;rfl;omega;intro _ _)|(apply ais;rfl;rfl;omega)|(apply aiB;rfl;rfl;rfl;rfl;rfl)|(apply ahV;rfl;rfl;all_goals first|(intro h;exact absurd h ao)|(intro h;exact absurd rfl h)|(intro h;contradiction)|intro _)|(apply aih;rfl;rfl;all_goals first|(intro h;exact absurd h ao)|(intro h;exact absurd rfl h)|(intro h;contradiction)|intro _)|(apply aim;rfl;rfl;rfl;all_goals first|(intro h;exact absurd h ao)|intro _)|(apply adX;rfl;rfl;rfl)|(apply aev;rfl;rfl;rfl)|(apply aes;rfl;rfl;rfl)|(apply ahX;rfl;rfl;rfl)|(apply abA;rfl;rfl)|(apply abC;rfl;rfl)|(intro _;omega)|intro _
       all_goals refine⟨.inr rfl,rfl,_,rfl,?_,rfl⟩
       all_goals simp_all [bk,gK,gM,gN,fD,stepOf,overwrite]
     . have b1:(c == iz)=false:=beq_eq_false_iff_ne.2 c1;have b2:(c == jW)=false:=beq_eq_false_iff_ne.2 c2;have b3:(c == iK)=false:=beq_eq_false_iff_ne.2 c3;have b4:(c == me)=false:=beq_eq_false_iff_ne.2 c4;repeat' first|apply abx|apply aa|apply abr|apply aaL|apply aef|apply acG|apply aeM|apply adA|apply ba|apply bH|apply bC|apply cn|apply bJ|(apply dT;rfl)|apply cA|apply dr|apply ck|apply eM|(apply ahZ;rfl)|apply afU|apply agy|(apply ain;rfl)|(apply ail;rfl)|(apply aio;rfl)|(apply aip;rfl)|(apply aix;rfl)|(apply ahl;rfl)|(apply ahb;rfl;rfl;(first|(simp only[nca];rfl)|rfl))|(apply ahY;rfl;(first|(simp only[nca];rfl)|rfl);(first|(simp only[nca];rfl)|rfl))|(apply aij;rfl)|(apply aiv;rfl;rfl)|(apply aiu;rfl;rfl;rfl;rfl;all_goals first|(intro h;exact absurd h ao)|intro _)|(apply ahR;rfl;rfl;rfl;rfl)|(apply ait;rfl;rfl;rfl;rfl)|(apply acO;rfl)|(apply acM;rfl)|(apply aif;rfl;all_goals intro _)|(apply aeq;rfl;rfl)|(apply afe;rfl;rfl)|(apply agx;rfl;rfl)|(apply aeX;rfl;rfl;omega)|(apply afS;rfl;rfl;omega)|(apply aiq;rfl;rfl;first|omega|(simp only[be,bj,br];omega)|(simp;omega))|(apply aiy;rfl;rfl;omega;intro _ _)|(apply aiD;rfl;rfl;omega;intro _ _)|(apply ais;rfl;rfl;omega)|(apply aiB (es:=[(.str iz,.iV 1)]);rfl;rfl;rfl;rfl;simp only[jB,mn,b1])|(apply ahV;rfl;rfl;all_goals first|(intro h;exact absurd h ao)|(intro h;exact absurd rfl h)|(intro h;contradiction)|intro _)|(apply aih;rfl;rfl;all_goals first|(intro h;exact absurd h ao)|(intro h;exact absurd rfl h)|(intro h;contradiction)|intro _)|(apply aim;rfl;rfl;rfl;all_goals first|(intro h;exact absurd h ao)|intro _)|(apply adX;rfl;rfl;rfl)|(apply aev;rfl;rfl;rfl)|(apply aes;rfl;rfl;rfl)|(apply ahX;rfl;rfl;rfl)|(apply abA;rfl;rfl)|(apply abC;rfl;rfl)|(intro _;omega)|intro _
       all_goals refine⟨.inr rfl,rfl,_,rfl,?_,rfl⟩
       all_goals simp_all [bk,gK,gM,gN,fD,stepOf,overwrite]
 . repeat' first|apply abx|apply aa|apply abr|apply aaL|apply aef|apply acG|apply aeM|apply adA|apply ba|apply bH|apply bC|apply cn|apply bJ|(apply dT;rfl)|apply cA|apply dr|apply ck|apply eM|(apply ahZ;rfl)|apply afU|apply agy|(apply ain;rfl)|(apply ail;rfl)|(apply aio;rfl)|(apply aip;rfl)|(apply aix;rfl)|(apply ahl;rfl)|(apply ahb;rfl;rfl;(first|(simp only[nca];rfl)|rfl))|(apply ahY;rfl;(first|(simp only[nca];rfl)|rfl);(first|(simp only[nca];rfl)|rfl))|(apply aij;rfl)|(apply aiv;rfl;rfl)|(apply aiu;rfl;rfl;rfl;rfl;all_goals first|(intro h;exact absurd h ao)|intro _)|(apply ahR;rfl;rfl;rfl;rfl)|(apply ait;rfl;rfl;rfl;rfl)|(apply acO;rfl)|(apply acM;rfl)|(apply aif;rfl;all_goals intro _)|(apply aeq;rfl;rfl)|(apply afe;rfl;rfl)|(apply agx;rfl;rfl)|(apply aeX;rfl;rfl;omega)|(apply afS;rfl;rfl;omega)|(apply aiq;rfl;rfl;first|omega|(simp only[be,bj,br];omega)|(simp;omega))|(apply aiy;rfl;rfl;omega;intro _ _)|(apply aiD;rfl;rfl;omega;intro _ _)|(apply ais;rfl;rfl;omega)|(apply ahV;rfl;rfl;all_goals first|(intro h;exact absurd h ao)|(intro h;exact absurd rfl h)|(intro h;contradiction)|intro _)|(apply aih;rfl;rfl;all_goals first|(intro h;exact absurd h ao)|(intro h;exact absurd rfl h)|(intro h;contradiction)|intro _)|(apply aim;rfl;rfl;rfl;all_goals first|(intro h;exact absurd h ao)|intro _)|(apply adX;rfl;rfl;rfl)|(apply aev;rfl;rfl;rfl)|(apply aes;rfl;rfl;rfl)|(apply ahX;rfl;rfl;rfl)|(apply abA;rfl;rfl)|(apply abC;rfl;rfl)|(intro _;omega)|intro _
   all_goals refine⟨.inr rfl,rfl,_,rfl,?_,rfl⟩
   all_goals simp_all [bk,gK,gM,gN,fD,overwrite]
end Go.Ab.Ch5.N.K

/-
  Own work: spans and official marks: what the program's functions compute.
-/
namespace Go.Ab.Ch5.N
open Go.Ab.bB
variable {M:ay} {cap:Option Nat} {N:Nat}
theorem aV.word {v:AV}{z:Int}(h:aV v z)(hz : -9223372036854775808<z/\z<9223372036854775808):v = .agg [.iV z,.ah]:=by
 cases h with
 | small h=>rfl
 | @gn σ z w hs ok nr hw hz'=>rcases hs with rfl|rfl <;> omega
theorem afM (hft:M.FT=FT)(z:Int):bm M 175 [.agg [.iV z,.ah]] [] ⟨.aw [.iV z,.bool true],[],[]⟩:=by
 refine bX (by rw[hft];exact afw) ax ?_;unfold Pp;simp only[enter];repeat' first|apply abx|apply aa|apply abr|apply aaL|apply acG|(apply ahZ;rfl)|(apply aev;rfl;rfl;rfl)|(apply aes;rfl;rfl;rfl)|(apply abA;rfl;rfl)|(apply abC;rfl;rfl)
 all_goals exact⟨.inr rfl,rfl,_,rfl,rfl,rfl⟩
def dJ (q:Rat):Int:=-((-q).num/((-q).den:Nat))
theorem afN (hft:M.FT=FT){v v1 v2 v3:AV}{q:Rat}(hv:dV v q)(q148:∀h,M.ext 148 [v] h=some ⟨v1,h,[]⟩)(q231:∀h,M.ext 231 [v1] h=some ⟨v2,h,[]⟩)(q201:∀h,M.ext 201 [v2] h=some ⟨v3,h,[]⟩){z:Int}(h3:aV v3 z):dD M 174 [v] v3:=by
 obtain⟨s1,w,s',w',rfl,h1,h2⟩:=hv;obtain⟨s3,w3,rfl,o3,t3,c3⟩:=h3.shape;refine dH (by rw[hft];exact afv) ax ?_;unfold Po;simp only[enter];repeat' first|(apply aia;rfl;rfl;rfl;exact⟨rfl,cD _,by simp[fw,o3]⟩;rfl)|apply abx|apply aa|apply abr|apply aaL|apply acG|(apply adX;rfl;rfl;first|exact q148 _|exact q231 _|exact q201 _)|(apply aev;rfl;rfl;rfl)|(apply aes;rfl;rfl;rfl)
 exact cV rfl rfl (h3.out)
structure Rd (v va vb:AV)(p q:Rat):Prop where
 ha:dV va p
 hb:dV vb q
 eq:∃s w s' w' t x t' x',va = .agg [.iV s,w,.iV s',w']/\vb = .agg [.iV t,x,.iV t',x']/\v = .agg [.iV s,w,.iV s',w',.iV t,x,.iV t',x']
theorem Rd.mk' {va vb:AV}{p q:Rat}(ha:dV va p)(hb:dV vb q):∃v,Rd v va vb p q:=by
 obtain⟨s,w,s',w',h1,_,_⟩:=id ha;obtain⟨t,x,t',x',h2,_,_⟩:=id hb;exact⟨_,ha,hb,s,w,s',w',t,x,t',x',h1,h2,rfl⟩
theorem Rd.shape {v va vb:AV}{p q:Rat}(h:Rd v va vb p q):∃s w s' w' t x t' x',va = .agg [.iV s,w,.iV s',w']/\vb = .agg [.iV t,x,.iV t',x']/\v = .agg [.iV s,w,.iV s',w',.iV t,x,.iV t',x'] /\
 (dx w=true/\dx w'=true/\dx x=true/\dx x'=true)/\(w.top=0/\w'.top=0/\x.top=0/\x'.top=0)/\(bS w=w/\bS w'=w'/\bS x=x/\bS x'=x'):=by
 obtain⟨ha,hb,s,w,s',w',t,x,t',x',rfl,rfl,rfl⟩:=h;obtain⟨_,_,_,_,e1,a1,a2⟩:=ha;obtain⟨_,_,_,_,e2,b1,b2⟩:=hb;simp only[AV.agg.injEq,List.cons.injEq,and_true]at e1 e2;obtain⟨i1,rfl,i2,rfl⟩:=e1;obtain⟨i3,rfl,i4,rfl⟩:=e2;cases i1;cases i2;cases i3;cases i4;obtain⟨o1,t1,c1⟩:=a1.one;obtain⟨o2,t2,c2⟩:=a2.one;obtain⟨o3,t3,c3⟩:=b1.one;obtain⟨o4,t4,c4⟩:=b2.one;exact⟨s,w,s',w',t,x,t',x',rfl,rfl,rfl,⟨o1,o2,o3,o4⟩,⟨t1,t2,t3,t4⟩,⟨c1,c2,c3,c4⟩⟩
theorem afO (hft:M.FT=FT){v va vb vm:AV}{p q:Rat}(hv:Rd v va vb p q){c:Int}(q143:∀h,M.ext 143 [.iV 863999999] h=some ⟨vm,h,[]⟩)(q147:∀h,M.ext 147 [vb,vm] h=some ⟨.iV c,h,[]⟩):bm M 101 [v] [] ⟨.bool (decide (0<c)),[],[]⟩:=by
 obtain⟨s,w,s',w',t,x,t',x',rfl,rfl,rfl,⟨o1,o2,o3,o4⟩,_,_⟩:=hv.shape;refine bX (by rw[hft];exact afq) ax ?_;unfold Ph;simp only[enter];by_cases h:0<c
 . rw[decide_eq_true h];repeat' first|(apply ahR;rfl;rfl;(first|(simp only[nca];rfl)|rfl);first|exact q143 _|exact q147 _)|apply abx|apply aa|apply abr|apply aaL|apply acG|apply afU|apply agy|(apply ahl;rfl)|(apply ahb;rfl;rfl;(first|(simp only[nca];rfl)|rfl))|(apply aeq;rfl;rfl)|(apply aev;rfl;rfl;rfl)|(apply aes;rfl;rfl;rfl)|(apply abA;rfl;rfl)|(apply abC;rfl;rfl)|(intro _;omega)|intro _
   all_goals try omega
   all_goals exact⟨.inr rfl,rfl,_,rfl,rfl,rfl⟩
 . rw[decide_eq_false h];repeat' first|(apply ahR;rfl;rfl;(first|(simp only[nca];rfl)|rfl);first|exact q143 _|exact q147 _)|apply abx|apply aa|apply abr|apply aaL|apply acG|apply afU|apply agy|(apply ahl;rfl)|(apply ahb;rfl;rfl;(first|(simp only[nca];rfl)|rfl))|(apply aeq;rfl;rfl)|(apply aev;rfl;rfl;rfl)|(apply aes;rfl;rfl;rfl)|(apply abA;rfl;rfl)|(apply abC;rfl;rfl)|(intro _;omega)|intro _
   all_goals try omega
   all_goals exact⟨.inr rfl,rfl,_,rfl,rfl,rfl⟩
structure Gy (M:ay):Prop where
 ft:M.FT=FT
 kB:∀v h l,dZ h v=some l->l.length<1000->M.ext 90 [v] h=some ⟨.iV (dM l),h,[]⟩
 kA:∀t (e:Int) h,M.ext 91 [.bool t,.iV e] h=some ⟨.iV (if t then e else 0),h,[]⟩
def mg (c1 s1 s2:Int)(late:Bool):Int:=if 0<c1 then 11 else if s1<0\/s2<=0\/late=true then 3 else 0
theorem afP (C:Gy M){a b:az}{v va vb:AV}{p q:Rat}(hv:Rd v va vb p q){c1 s1 s2:Int}{late:Bool}(q1:∀h,M.ext 172 [.str a] h=some ⟨.iV 0,h,[]⟩)(q2:∀h,M.ext 172 [.str b] h=some ⟨.iV 0,h,[]⟩)(qa:∀h,M.ext 165 [.str a] h=some ⟨va,h,[]⟩)(qb:∀h,M.ext 165 [.str b] h=some ⟨vb,h,[]⟩)
 (q147:∀h,M.ext 147 [va,vb] h=some ⟨.iV c1,h,[]⟩) (uQ:∀h,M.ext 173 [va] h=some ⟨.iV s1,h,[]⟩) (t173:∀h,M.ext 173 [vb] h=some ⟨.iV s2,h,[]⟩) (q101:∀h,M.ext 101 [v] h=some ⟨.bool late,h,[]⟩):dD M 107 [.agg [.str a,.str b]] (.aw [v,.iV (mg c1 s1 s2 late)]):=by
 obtain⟨s,w,s',w',t,x,t',x',rfl,rfl,rfl,⟨o1,o2,o3,o4⟩,⟨t1,t2,t3,t4⟩,⟨k1,k2,k3,k4⟩⟩:=hv.shape;have f00:∀v h,dZ h v=some [0,0]->M.ext 90 [v] h=some ⟨.iV 0,h,[]⟩:=fun v h hi=>C.kB v h _ hi ao
 have f10:∀v h,dZ h v=some [11,0]->M.ext 90 [v] h=some ⟨.iV 11,h,[]⟩:=fun v h hi=>C.kB v h _ hi ao
 have f13:∀v h,dZ h v=some [11,3]->M.ext 90 [v] h=some ⟨.iV 11,h,[]⟩:=fun v h hi=>C.kB v h _ hi ao
 have f03:∀v h,dZ h v=some [0,3]->M.ext 90 [v] h=some ⟨.iV 3,h,[]⟩:=fun v h hi=>C.kB v h _ hi ao
 have tt:∀e h,M.ext 91 [.bool true,.iV e] h=some ⟨.iV e,h,[]⟩:=fun e h=>C.kA true e h
 have tf:∀e h,M.ext 91 [.bool false,.iV e] h=some ⟨.iV 0,h,[]⟩:=fun e h=>C.kA false e h
 have out:∀(e:Int) hh,fG (bk [.agg [.iV s,w,.iV s',w',.iV t,x,.iV t',x'],.iV e]) hh (.aw [.agg [.iV s,w,.iV s',w',.iV t,x,.iV t',x'],.iV e]):=fun e hh=>
  .same (by simp[bk,AV.top,bO,t1,t2,t3,t4]) (by simp[bk,bS,dh,k1,k2,k3,k4])
 refine dH (by rw[C.ft];exact afr) ax ?_;unfold Pj;simp only[enter];have fin:∀e hh,mg c1 s1 s2 late=e->fG (bk [.agg [.iV s,w,.iV s',w',.iV t,x,.iV t',x'],.iV e]) hh (.aw [.agg [.iV s,w,.iV s',w',.iV t,x,.iV t',x'],.iV (mg c1 s1 s2 late)]):=fun e hh he=>by
  rw[he];exact out e _
 by_cases h1:0<c1
 all_goals
 . by_cases h2:s1<0
   all_goals
   . by_cases h3:s2<=0
     all_goals
     . cases late;all_goals
       . repeat' first|(apply ahR;rfl;rfl;(first|(simp only[nca];rfl)|rfl);first|exact q1 _|exact q2 _|exact qa _|exact qb _|exact q147 _|exact uQ _|exact t173 _|exact q101 _|exact tt _ _|exact tf _ _|exact f00 _ _ rfl|exact f10 _ _ rfl|exact f13 _ _ rfl|exact f03 _ _ rfl)|(apply aia;rfl;rfl;rfl;exact⟨rfl,cD _,by simp[overwrite,fw,o1,o2,o3,o4]⟩;rfl)|apply abx|apply aa|apply abr|apply aaL|apply acG|apply adA|apply afU|apply agy|(apply ail;rfl)|(apply aip;rfl)|(apply ahl;rfl)|(apply ahb;rfl;rfl;(first|(simp only[nca];rfl)|rfl))|(apply ahY;rfl;(first|(simp only[nca];rfl)|rfl);(first|(simp only[nca];rfl)|rfl))|(apply aij;rfl)|(apply acM;rfl)|(apply aep;rfl;rfl)|(apply aiw;rfl;rfl)|(apply aeq;rfl;rfl)|(apply agx;rfl;rfl)|(apply aeB;rfl;rfl)|(apply aeC;rfl;rfl)|(apply aev;rfl;rfl;rfl)|(apply aes;rfl;rfl;rfl)|(apply abA;rfl;rfl)|(apply abC;rfl;rfl)|(intro _;omega)|intro _
         all_goals try omega
         all_goals exact cV rfl rfl (fin _ _ (by simp[mg,h1,h2,h3]))
open K in
theorem afQ (hft:M.FT=FT)(c:az)(q132:∀h,M.ext 132 [mf cF 1 [],.str c] h=some ⟨pU cF 1 [] c,h,[]⟩):bm M 108 [.str c] [] ⟨.iV (fD cF 1 [] c),[],[]⟩:=by
 refine bX (by rw[hft];exact afs) ax ?_;unfold Pk;simp only[enter];repeat' first|apply abx|apply aa|apply abr|apply aaL|apply acG|(apply adX;rfl;rfl;first|exact q132 _)|(apply aev;rfl;rfl;rfl)|(apply ahX;rfl;rfl;rfl)|(apply abA;rfl;rfl)|(apply abC;rfl;rfl)
 all_goals exact⟨.inr rfl,rfl,_,rfl,rfl,rfl⟩
open K in
theorem afR (hft:M.FT=FT){v va vb vc:AV}{p q:Rat}(hv:Rd v va vb p q){n:Int}{k r c:az}{m e:Int}(q174:∀h,M.ext 174 [vb] h=some ⟨vc,h,[]⟩)(q175:∀h,M.ext 175 [vc] h=some ⟨.aw [.iV n,.bool true],h,[]⟩)(q132:∀h,M.ext 132 [mf cF n [],.str c] h=some ⟨.aw [mf k m r,.iV e],h,[]⟩):bm M 109 [v,.str c] [] ⟨.aw [mf k m r,.iV e],[],[]⟩:=by
 obtain⟨s,w,s',w',t,x,t',x',rfl,rfl,rfl,_,_,_⟩:=hv.shape;refine bX (by rw[hft];exact aft) ax ?_;unfold Pm;simp only[enter];repeat' first|apply abx|apply aa|apply abr|apply aaL|apply acG|(apply adX;rfl;rfl;first|exact q174 _|exact q175 _|exact q132 _)|(apply aev;rfl;rfl;rfl)|(apply aes;rfl;rfl;rfl)|(apply ahX;rfl;rfl;rfl)|(apply abA;rfl;rfl)|(apply abC;rfl;rfl)
 all_goals exact⟨.inr rfl,rfl,_,rfl,rfl,rfl⟩
open K in
theorem w32 (C:Gy M){a b c k r:az}{v va vb:AV}{p q:Rat}{m e:Int}(hv:Rd v va vb p q)(q107:∀h,M.ext 107 [.agg [.str a,.str b]] h=some ⟨.aw [v,.iV 0],h,[]⟩)(q108:∀h,M.ext 108 [.str c] h=some ⟨.iV 0,h,[]⟩)(q109:∀h,M.ext 109 [v,.str c] h=some ⟨.aw [mf k m r,.iV e],h,[]⟩):bm M 32 [.agg [.str a,.str b],.str c] [] ⟨.aw [mf k m r,.iV e],[],[]⟩:=by
 have f00:∀v h,dZ h v=some [0,0]->M.ext 90 [v] h=some ⟨.iV 0,h,[]⟩:=fun v h hi=>C.kB v h _ hi ao
 obtain⟨s,w,s',w',t,x,t',x',rfl,rfl,rfl,⟨o1,o2,o3,o4⟩,_,_⟩:=hv.shape;refine bX (by rw[C.ft];exact afo) ax ?_;unfold Pf;simp only[enter];repeat' first|(apply aia;rfl;rfl;rfl;exact⟨rfl,cD _,rfl⟩;rfl)|(apply aia;rfl;rfl;rfl;exact⟨rfl,cD _,by simp[fw,o1,o2,o3,o4]⟩;rfl)|apply abx|apply aa|apply abr|apply aaL|apply acG|apply adA|(apply acM;rfl)|(apply agx;rfl;rfl)|(apply adX;rfl;rfl;first|exact q107 _|exact q108 _|exact q109 _|exact f00 _ _ rfl)|(apply aev;rfl;rfl;rfl)|(apply aes;rfl;rfl;rfl)|(apply abA;rfl;rfl)|(apply abC;rfl;rfl)|(intro _;omega)|intro _
 all_goals try omega
 all_goals exact⟨.inr rfl,rfl,_,rfl,rfl,rfl⟩
theorem afT (hft:M.FT=FT)(a b:az){ea eb:Int}(qa:∀h,M.ext 104 [.str a] h=some ⟨.iV ea,h,[]⟩)(qb:∀h,M.ext 104 [.str b] h=some ⟨.iV eb,h,[]⟩):bm M 110 [.vs [.str a,.str b] 2 cap] [] ⟨.iV (if ea≠0 then ea else eb),[],[]⟩:=by
 refine bX (by rw[hft];exact afu) ax ?_;unfold Pn;simp only[enter];by_cases h1:ea=0
 . rw[if_neg (fun h=>h h1)];subst h1;by_cases h2:eb=0
   all_goals
   . repeat' first|apply abx|apply aa|apply abr|apply aaL|apply aef|(apply abC;rfl;rfl)
     refine W.loop ?_;unfold Gv;repeat' first|apply abx|apply aa|apply abr|apply aaL|apply aef|apply adA|apply bC|(apply acO;rfl)|(apply acM;rfl)|(apply aep;rfl;rfl)|(apply agx;rfl;rfl)|(apply aeX;rfl;rfl;omega)|(apply adX;rfl;rfl;first|exact qa _)|(apply ahT;rfl;rfl;omega)|(apply aev;rfl;rfl;rfl)|(apply abA;rfl;rfl)|(apply abC;rfl;rfl)|(intro _;omega)|intro _
     all_goals try omega
     refine fX (W.loop ?_);repeat' first|apply abx|apply aa|apply abr|apply aaL|apply aef|apply acG|apply adA|apply ba|apply bC|apply cn|apply dr|(apply acO;rfl)|(apply acM;rfl)|(apply aep;rfl;rfl)|(apply agx;rfl;rfl)|(apply aeX;rfl;rfl;omega)|(apply adX;rfl;rfl;first|exact qb _)|(apply ahT;rfl;rfl;omega)|(apply aev;rfl;rfl;rfl)|(apply abA;rfl;rfl)|(apply abC;rfl;rfl)|(intro _;omega)|intro _
     all_goals try omega
     all_goals first
      | exact⟨.inr rfl,rfl,_,rfl,rfl,rfl⟩
      | (
         refine fX (W.loop ?_);repeat' first|apply abx|apply aa|apply abr|apply aaL|apply acG|apply aeM|apply bH|apply bJ|apply cA|(apply acM;rfl)|(apply aep;rfl;rfl)|(apply abA;rfl;rfl)|(apply abC;rfl;rfl)|(intro _;omega)|intro _
         all_goals try omega
         all_goals exact⟨.inr rfl,rfl,_,rfl,by rw[h2];rfl,rfl⟩)
 . rw[if_pos h1];repeat' first|apply abx|apply aa|apply abr|apply aaL|apply aef|(apply abC;rfl;rfl)
   refine W.loop ?_;unfold Gv;repeat' first|apply abx|apply aa|apply abr|apply aaL|apply aef|apply acG|apply adA|apply ba|apply cn|apply dr|(apply acO;rfl)|(apply aep;rfl;rfl)|(apply agx;rfl;rfl)|(apply adX;rfl;rfl;first|exact qa _)|(apply ahT;rfl;rfl;omega)|(apply aev;rfl;rfl;rfl)|(apply abA;rfl;rfl)|(apply abC;rfl;rfl)|(intro _;omega)|intro _
   all_goals try omega
   all_goals exact⟨.inr rfl,rfl,_,rfl,rfl,rfl⟩
theorem w33 (hft:M.FT=FT){a b m:az}{c1 c2 s1 s2:Int}(q110:∀v h,dL h v (.vs [.str a,.str b] 2 none)->M.ext 110 [v] h=some ⟨.iV 0,h,[]⟩)(q48:∀h,M.ext 48 [.str a,.str b] h=some ⟨.iV c1,h,[]⟩)(lh:∀h,M.ext 105 [.str a] h=some ⟨.iV s1,h,[]⟩)(t105:∀h,M.ext 105 [.str b] h=some ⟨.iV s2,h,[]⟩)
 (q49:∀h,M.ext 49 [.iV 863999999] h=some ⟨.str m,h,[]⟩) (r48:∀h,M.ext 48 [.str b,.str m] h=some ⟨.iV c2,h,[]⟩):bm M 33 [.agg [.str a,.str b]] [] ⟨.iV (mg c1 s1 s2 (decide (0<c2))),[],[]⟩:=by
 refine bX (by rw[hft];exact afp) ax ?_;unfold Pg;simp only[enter];by_cases h1:0<c1
 . rw[show mg c1 s1 s2 (decide (0<c2))=11 by simp[mg,h1]];repeat' first|apply abx|apply aa|apply abr|apply aaL|apply acG|apply adA|apply ba|(apply acO;rfl)|(apply acM;rfl)|(apply aeq;rfl;rfl)|(apply agx;rfl;rfl)|(apply adX;rfl;rfl;exact q110 _ _ (Mf rfl rfl rfl))|(apply adX;rfl;rfl;first|exact q48 _)|(apply aev;rfl;rfl;rfl)|(apply aes;rfl;rfl;rfl)|(apply abA;rfl;rfl)|(apply abC;rfl;rfl)|(intro _;omega)|intro _
   all_goals try omega
   all_goals exact⟨.inr rfl,rfl,_,rfl,rfl,rfl⟩
 . by_cases h2:s1<0
   all_goals
   . by_cases h3:s2<=0
     all_goals
     . by_cases h4:0<c2
       all_goals
       . simp only[mg,h1,h2,h3,h4,decide_true,decide_false,if_false,or_true,if_true,or_false,cT];repeat' first|(apply ahR;rfl;rfl;(first|(simp only[nca];rfl)|rfl);first|exact lh _|exact t105 _|exact q49 _|exact r48 _)|apply abx|apply aa|apply abr|apply aaL|apply acG|apply adA|apply ba|apply afU|apply agy|(apply ail;rfl)|(apply aip;rfl)|(apply ahl;rfl)|(apply ahb;rfl;rfl;(first|(simp only[nca];rfl)|rfl))|(apply acO;rfl)|(apply acM;rfl)|(apply aep;rfl;rfl)|(apply aiw;rfl;rfl)|(apply aeq;rfl;rfl)|(apply agx;rfl;rfl)|(apply aeB;rfl;rfl)|(apply aeC;rfl;rfl)|(apply adX;rfl;rfl;exact q110 _ _ (Mf rfl rfl rfl))|(apply adX;rfl;rfl;first|exact q48 _)|(apply aev;rfl;rfl;rfl)|(apply aes;rfl;rfl;rfl)|(apply abA;rfl;rfl)|(apply abC;rfl;rfl)|(intro _;omega)|intro _
         all_goals try omega
         all_goals exact⟨.inr rfl,rfl,_,rfl,rfl,rfl⟩
open Go.Proofs
theorem Pt:∀l,Go.Ab.Ch5.dM l=dM l
 | []=>rfl
 | e::r=>by
  show (if e=0 then Go.Ab.Ch5.dM r else e)=(if e=0 then dM r else e);rw[Pt r]
theorem uK:bl Tryz.prog gl 90 iw:=Jt fun l cap h=>by
 rw[←Pt];exact Go.Ab.Ch5.OV (cap:=cap) bN l h
theorem rQ:bl Tryz.prog gl 91 jq:=by
 intro xs h r hq;unfold jq at hq;split at hq
 . cases hq;exact jo iu bP (OT (M:=bD Tryz.prog FT []) bN _ _) (fJ.same rfl) rfl (.inl rfl)
 . cases hq
def Ae:Spec:=Bz [] (.bool true)
theorem afV:bl Tryz.prog gl 15 Ae:=SV Jj rfl rfl Vi
noncomputable def Af:Spec:=sK TF 143
theorem afW:bl Tryz.prog gl 143 Af:=bQ yd
theorem afX {n:Int}(hn : -9223372036854775808<=n/\n<9223372036854775808):∃v0,dV v0 (n:Rat)/\∀h,Af [.iV n] h=some ⟨v0,h,[]⟩:=by
 obtain⟨v0,h1,h2⟩:=XC (eF.c (N:=1) ao ao) hn;exact⟨v0,by unfold dV;rw[ci,cC];exact h1,eE h2 rfl⟩
theorem Gz {n:Int}(hn : -9223372036854775808<=n/\n<9223372036854775808):Dq 20 (n:Rat):=by
 have e:(10:Int)^20=100000000000000000000:=by decide
 unfold Dq;rw[ci,cC,e];exact⟨by unfold ak;split <;> omega,ao⟩
noncomputable def uQ:Spec:=sK TJ 173
theorem afY:bl Tryz.prog gl 173 uQ:=bQ tH
theorem Pu (v:AV)(q:Rat)(hv:dV v q)(h:ab):uQ [v] h=some ⟨.iV (bE q.num),h,[]⟩:=eE (XE (eJ.c (N:=1) ao) hv) (km hv.top) h
noncomputable def Pv:List (Nat×Spec):=[(130,uE),(129,zN)]
noncomputable def Ag:Spec:=sK Pv 49
theorem Pw:bl Tryz.prog gl 49 Ag:=bQ (aX Gk (aX Oy bP))
theorem GA (n:Int)(h:ab)(hn : -9223372036854775808<=n/\n<9223372036854775808):Ag [.iV n] h=some ⟨.str (aT (n:Rat)),h,[]⟩:=by
 obtain⟨v0,k,q⟩:=Gm n hn;exact cS (w49 (M:=bD Tryz.prog FT Pv) bN q fun h=>Gl h k (FY (N:=100) ao hn)) rfl rfl rfl h
end Go.Ab.Ch5.N

/-
  Own work: marks of chapter 1: the reference's rounding, winds, the law's own helpers.
-/
namespace Go.Ab.Ch5.N.K
variable {inv:fy} {F:FuncId->Option dm}
def ahO(h:Int):Int:= -(-h/10)
def ahN:Spec:=fun
 | [.int .i64 n],h=>some ⟨.aw [.int .i64 (if n < -9999\/9999<n then 0 else ahO n),.int .i64 (if n < -9999\/9999<n then 3 else 0)],h,[]⟩
 | _,_=>none
def uJ:Spec:=fun
 | [.int .i64 x,.int .i64 lo,.int .i64 hi],h=>some ⟨.bool (decide (x<lo) || decide (hi<x)),h,[]⟩
 | _,_=>none
def Ae:Spec:=fun
 | [],h=>some ⟨.bool true,h,[]⟩
 | _,_=>none
def ahP:Spec:=fun
 | [.agg [.str k,.int .i64 _,.str r]],h=>some ⟨.bool (decide (k.length<=40/\r.length<=40)),h,[]⟩
 | _,_=>none
def rS:Spec:=fun
 | [.agg [.str k,.int .i64 v,.str r],.str c],h=>some ⟨pU k v r c,h,[]⟩
 | _,_=>none
end Go.Ab.Ch5.N.K

/-
  Own work: the contracts of marks as a table.
-/
namespace Go.Ab
variable {ks:List Nat} {N:Nat}
theorem Rn.GB {l l0:List AV}(h:kM ks N l l0):Rn ks N (.agg l) (.agg l0):=.agg h.1 h.2
end Go.Ab
namespace Go.Ab.Ch5.N.K
open Go.Proofs
theorem afZ:bl Tryz.prog gl 239 uO:=by
 intro xs h r hq;unfold uO at hq;split at hq
 . split at hq
   . rename_i l hl;split at hq
     . rename_i hlen;cases hq;obtain⟨S,cap,hf⟩:=(ID hl).fr (fun _=>rfl);exact jo iu bP (afy (T:=[]) rfl l _ cap hlen) (.cons hf (.cons (.same rfl) .nil)) rfl (.inr rfl)
     . cases hq
   . cases hq
 . cases hq
theorem Px:bl Tryz.prog gl 185 Ac:=by
 intro xs h r hq;unfold Ac at hq;split at hq
 . split at hq
   . rename_i l hl;split at hq
     . rename_i hlen;cases hq;obtain⟨S,cap,hf⟩:=(ID hl).fr (fun _=>rfl);exact jo iu (aX afZ bP) (afA (T:=[]) rfl l _ cap hlen) (.cons hf (.cons (.same rfl) .nil)) rfl (.inr rfl)
     . cases hq
   . cases hq
 . cases hq
theorem aga:bl Tryz.prog gl 237 Gw:=by
 intro xs h r hq;unfold Gw at hq;split at hq
 . cases hq;exact jo iu (aX Px bP) (afB (T:=[]) rfl _) (fJ.same rfl) rfl (.inl rfl)
 . cases hq
theorem Py:bl Tryz.prog gl 186 Ad:=by
 intro xs h r hq;unfold Ad at hq;split at hq
 . cases hq;have hk:∀(i b:Nat),([0,1,2,3]:List Nat)[i]? = some b->Rn [0,1,2,3] h.length (.map b) (.map (h.length+i)):=fun i b hi=>.map hi
   refine Ip iu bP (afF (T:=[]) rfl) (fJ.nil (S:=[])) (ks:=[0,1,2,3]) ao (.map (i:=0) rfl) rfl (fun i b o1 hi ho=>?_) (.inl rfl);match i,hi,ho with
   | 0,hi,ho=>
    cases hi;cases ho;refine⟨_,rfl,.map (.same rfl) ?_,.inl rfl⟩;refine .cons (.GB (.cons (.same rfl) (.cons (.same rfl) (.cons (.same rfl) (.cons (hk 1 1 rfl) (.cons (.same rfl) .nil)))))) (.cons (.GB (.cons (.same rfl) (.cons (.same rfl) (.cons (.same rfl) (.cons (hk 2 2 rfl) (.cons (.same rfl) .nil)))))) (.cons (.GB (.cons (.same rfl) (.cons (.same rfl) (.cons (.same rfl) (.cons (hk 3 3 rfl) (.cons (.same rfl) .nil)))))) .nil))
   | 1,hi,ho=>cases hi;cases ho;exact⟨_,rfl,.map (.same rfl) (.same rfl),.inl rfl⟩
   | 2,hi,ho=>cases hi;cases ho;exact⟨_,rfl,.map (.same rfl) (.same rfl),.inl rfl⟩
   | 3,hi,ho=>cases hi;cases ho;exact⟨_,rfl,.map (.same rfl) (.same rfl),.inl rfl⟩
 . cases hq
theorem agb:bl Tryz.prog gl 238 uJ:=Vv
theorem agc:bl Tryz.prog gl 184 Gx:=by
 intro xs h r hq;unfold Gx at hq;split at hq
 . cases hq;exact jo iu (aX Py (aX aga (aX Js (aX Ju (aX agb bP))))) (afI rfl _ _ _) (fJ.same rfl) rfl (.inl rfl)
 . cases hq
theorem GC:bl Tryz.prog gl 132 rS:=by
 intro xs h r hq;unfold rS at hq;split at hq
 . cases hq;exact jo iu (aX agc (aX Px (aX Py bP))) (afL rfl _ _ _ _) (fJ.same rfl) rfl (.inl rfl)
 . cases hq
end Go.Ab.Ch5.N.K

/-
  Own work: stadionlaw05.FinishOfficials answers true.
-/
namespace Go.Ab.Ch5.N
open Go.Ab.bB K
variable {M:ay} {cap:Option Nat} {N:Nat}
open Go.Proofs
def mi:Int:=863999999
theorem Pz:Dq 20 (mi:Rat):=Gz ao
noncomputable def GD:Spec:=sK [(143,Af),(147,tJ)] 101
theorem agd:bl Tryz.prog gl 101 GD:=bQ (aX afW (aX KX bP))
theorem age {v va vb:AV}{p q:Rat}(hv:Rd v va vb p q)(hq:Dq 200 q)(h:ab):GD [v] h=some ⟨.bool (decide (0<jh q mi)),h,[]⟩:=by
 obtain⟨vm,hm,q143⟩:=afX (n:=mi) ao;have q147:=KY (N:=1000) ao ao vb vm q mi hv.hb hm (hq.bq ao) (Pz.bq ao);have ht:v.top=0:=by
  obtain⟨_,_,_,_,_,_,_,_,_,_,rfl,_,⟨t1,t2,t3,t4⟩,_⟩:=hv.shape;simp[AV.top,bO,t1,t2,t3,t4]
 exact cS (afO (M:=bD Tryz.prog FT [(143,Af),(147,tJ)]) bN hv q143 q147) (km ht) rfl rfl h
noncomputable def GF:List (Nat×Spec):=[(172,EX),(90,iw),(165,EW),(147,tJ),(173,uQ),(91,jq),(101,GD)]
theorem agf:cW Tryz.prog gl (bM GF):=aX abD (aX uK (aX aby (aX KX (aX afY (aX rQ (aX agd bP))))))
noncomputable def GG:Spec:=sK GF 107
theorem agh:bl Tryz.prog gl 107 GG:=bQ agf
theorem PA {v:AV}{h:ab}{l:List Int}(hi:dZ h v=some l)(hl:l.length<1000):iw [v] h=some ⟨.iV (dM l),h,[]⟩:=by
 show (match dZ h v with|some l=>_|none=>_)=_;rw[hi];exact if_pos ac
theorem PB (T:List (Nat×Spec))(h1:∀ar h,bM T 90 ar h=iw ar h)(h2:∀ar h,bM T 91 ar h=jq ar h):Gy (bD Tryz.prog FT T) where
 ft:=bN
 kB:=fun _v _h _l hi hl=>(h1 _ _).trans (PA hi hl)
 kA:=fun _t _e _h=>h2 _ _
def uR (p q:Rat):Int:=mg (jh p q) (bE p.num) (bE q.num) (decide (0<jh q mi))
theorem agi {p q:Rat}(hp:Dq 60 p)(hq:Dq 60 q):∃v va vb,Rd v va vb p q/\∀h,GG [.agg [.str (aT p),.str (aT q)]] h=some ⟨.aw [v,.iV (uR p q)],h,[]⟩:=by
 have lp:=pQ hp ao ao;have lq:=pQ hq ao ao;obtain⟨va,ha,qa⟩:=Ms (N:=1000) ao ao p (hp.lq ao ao);obtain⟨vb,hb,qb⟩:=Ms (N:=1000) ao ao q (hq.lq ao ao);obtain⟨v,hv⟩:=Rd.mk' ha hb;have q147:=KY (N:=1000) ao ao va vb p q ha hb (hp.bq ao) (hq.bq ao);refine⟨v,va,vb,hv,eE (afP (PB GF (fun _ _=>rfl) (fun _ _=>rfl)) hv (fun h=>?_) (fun h=>?_) qa qb q147 (Pu va p ha) (Pu vb q hb) (age hv (hq.mono ao))) rfl⟩
 . exact(Mt _ h lp).trans (by rw[yE (k:=60) ao ao hp])
 . exact(Mt _ h lq).trans (by rw[yE (k:=60) ao ao hq])
theorem agj {n:Int}(h:1<=n/\n<=863999999):K.eo cF n []=0:=by
 simp(decide:=true) [K.eo,pT,fZ];omega
noncomputable def GH:Spec:=sK [(132,rS)] 108
theorem agk:bl Tryz.prog gl 108 GH:=bQ (aX GC bP)
theorem agl (c:az)(h:ab):GH [.str c] h=some ⟨.iV (fD cF 1 [] c),h,[]⟩:=cS (afQ (M:=bD Tryz.prog FT [(132,rS)]) bN c fun _=>rfl) rfl rfl rfl h
noncomputable def PC:List (Nat×Spec):=[(148,El),(231,Eo),(201,tG)]
noncomputable def GI:Spec:=sK PC 174
theorem agm:bl Tryz.prog gl 174 GI:=bQ (aX YP (aX Zm (aX KQ bP)))
theorem agn {v:AV}{q:Rat}(hv:dV v q)(hq:Dq 145 q):∃v0,aV v0 (dJ q)/\∀h,GI [v] h=some ⟨v0,h,[]⟩:=by
 obtain⟨v1,h1,q1⟩:=YS (N:=1000) ao v q hv (hq.bq ao);obtain⟨v2,h2,q2⟩:=Zn (N:=1000) ao ao v1 (-q) h1 (hq.neg.bq ao);have hb:ak ((-q).num/((-q).den:Nat))<wB^1000:=by
  have:=(hq.neg.floor.bq (N:=1000) ao).1;rw[(abh (-q)).1]at this;exact this
 obtain⟨v3,h3,q3⟩:=KR (N:=1000) ao v2 _ h2 hb;exact⟨v3,h3,eE (afN (M:=bD Tryz.prog FT PC) bN hv q1 q2 q3 h3) (km hv.top)⟩
noncomputable def GJ:Spec:=sK [] 175
theorem ago:bl Tryz.prog gl 175 GJ:=bQ bP
theorem agp (z:Int)(h:ab):GJ [.agg [.iV z,.ah]] h=some ⟨.aw [.iV z,.bool true],h,[]⟩:=cS (afM bN z) rfl rfl rfl h
theorem agq {q:Rat}(h5:0<q.num)(h4:¬0<jh q mi):1<=dJ q/\dJ q<=863999999:=by
 have hd:=den_pos (q:=q);have h6:q.num<=mi*(q.den:Nat):=by
  unfold jh bE at h4;rw[ci,cC]at h4;split at h4
  . omega
  . split at h4 <;> omega
 unfold dJ;rw[Rat.neg_num,Rat.neg_den];have e:mi=863999999:=rfl;rw[e]at h6;have a1:(-q.num)/(q.den:Nat)<0:=Int.ediv_neg_of_neg_of_pos ac hd;have a2 : -863999999<=(-q.num)/(q.den:Nat):=(Int.le_ediv_iff_mul_le hd).2 ac;omega
theorem PD {p q:Rat}(h:uR p q=0):1<=dJ q/\dJ q<=863999999:=by
 unfold uR mg at h;split at h
 . cases h
 . split at h
   . cases h
   . rename_i h1 h2;have h3:¬bE q.num<=0:=fun k=>h2 (.inr (.inl k))
     have h4:¬0<jh q mi:=fun k=>h2 (.inr (.inr (decide_eq_true k)))
     have h5:0<q.num:=by
      unfold bE at h3;split at h3
      . omega
      . split at h3 <;> omega
     exact agq h5 h4
noncomputable def PE:List (Nat×Spec):=[(174,GI),(175,GJ),(132,rS)]
noncomputable def GK:Spec:=sK PE 109
theorem agr:bl Tryz.prog gl 109 GK:=bQ (aX agm (aX ago (aX GC bP)))
theorem Rd.top {v va vb:AV}{p q:Rat}(hv:Rd v va vb p q):v.top=0:=by
 obtain⟨_,_,_,_,_,_,_,_,_,_,rfl,_,⟨t1,t2,t3,t4⟩,_⟩:=hv.shape;simp[AV.top,bO,t1,t2,t3,t4]
theorem ags {v va vb:AV}{p q:Rat}(hv:Rd v va vb p q)(hq:Dq 145 q)(hc:1<=dJ q/\dJ q<=863999999)(c:az)(h:ab):GK [v,.str c] h=some ⟨pU cF (dJ q) [] c,h,[]⟩:=by
 obtain⟨v0,h0,q0⟩:=agn hv.hb hq;obtain rfl:=h0.word ac;exact cS (afR (M:=bD Tryz.prog FT PE) bN hv q0 (agp _) fun _=>rfl) (gq hv.top rfl) rfl rfl h
noncomputable def qW:List (Nat×Spec):=[(107,GG),(90,iw),(108,GH),(109,GK),(91,jq)]
noncomputable def GL:Spec:=sK qW 32
theorem agt:bl Tryz.prog gl 32 GL:=bQ (aX agh (aX uK (aX agk (aX agr (aX rQ bP)))))
noncomputable def GM:Spec:=sL [(104,ux)] 110
theorem agu:bl Tryz.prog gl 110 GM:=jS (aX Nq bP)
theorem agv {a b:az}(la:a.length<1000000)(lb:b.length<1000000)(v:AV)(h:ab)(hf:dL h v (.vs [.str a,.str b] 2 none)):GM [v] h=some ⟨.iV (if eo a≠0 then eo a else eo b),h,[]⟩:=
 pj (afT (M:=bD Tryz.prog FT [(104,ux)]) (cap:=none) bN a b (fun h=>FE a h la) (fun h=>FE b h lb)) rfl rfl rfl (.cons hf .nil)
noncomputable def qX:List (Nat×Spec):=[(110,GM),(48,zX),(105,lh),(49,Ag)]
noncomputable def GN:Spec:=sK qX 33
theorem agw:bl Tryz.prog gl 33 GN:=bQ (aX agu (aX OF (aX zY (aX Pw bP))))
theorem k33 {p q:Rat}(hp:Dq 60 p)(hq:Dq 60 q)(h:ab):GN [.agg [.str (aT p),.str (aT q)]] h=some ⟨.iV (uR p q),h,[]⟩:=by
 have lp:=pQ hp ao ao;have lq:=pQ hq ao ao;refine cS (w33 (M:=bD Tryz.prog FT qX) bN (fun v h hf=>?_) (fun h=>zZ p q h (hp.mono ao) (hq.mono ao)) (uF p) (uF q) (fun h=>GA 863999999 h ao) (fun h=>zZ q mi h (hq.mono ao) (Pz.mono ao))) rfl rfl rfl h;refine(agv lp lq v h hf).trans ?_;rw[yE (k:=60) ao ao hp,yE (k:=60) ao ao hq];rfl
set_option maxRecDepth 1000000
def uS:al:=zR [zq 128 .lss 26 3] (.seq (.cond (.l 128) (.skip) (.exit 0)) (.seq (.block 1 (zR [zm 129 26,zw 13 129] (.region [zm 130 12,zn 131 130,zg (zm 132 13) 131 true,⟨.l 133,.dE (some 3) 1 (.p 4) (.l 132),some ((.l 131),true)⟩,zg (zd 134 1 133) 131 true,zg (zc 135 .geq 134 1) 131 true,zp 136 131 135,zn 137 136,zg (zm 138 13) 137 true,⟨.l 139,.dE (some 3) 1 (.p 4) (.l 138),some ((.l 137),true)⟩,zg (zd 140 1 139) 137 true,zg (zc 141 .leq 140 800000000) 137 true,zp 142 137 141,zw 12 142]))) (.region [zq 143 .add 26 1,zw 26 143])))
def uT:al:=zR [zr 222 .lss 28 27] (.seq (.cond (.l 222) (.skip) (.exit 2)) (.seq (.block 3 (zR [zm 223 28,zw 23 223] (.region [zm 224 22,zm 225 2,zm 226 23,za 227 1 225 226,zd 228 1 227,zc 229 .add 228 7,⟨.l 230,.mm false [(kI 999999999),(.l 229)],none⟩,⟨.l 231,.dW 3 1 1 [.iV (0)] [(0,1,(.l 230))],none⟩,⟨.l 232,.append 3 1 8 (.l 224) (.l 231),none⟩,zw 22 232]))) (.region [zq 233 .add 28 1,zw 28 233])))
def Ah:al:=zR [zm 215 2,⟨.l 216,.call (kF 39) [(.l 215),(kI 10),(kI 20)],none⟩,zn 214 216,ze 217 0 214,ze 218 1 214,zw 20 217,zw 21 218] (zR [⟨.p 22,.mv (.c (.ah)),none⟩] (.seq (zR [zm 219 2,⟨.p 27,.len .sl (.l 219),none⟩,zi 28 0] (.block 2 (.loop uT))) (zR [zm 235 22,⟨.l 236,.call (kF 39) [(.l 235),(kI 10),(kI 20)],none⟩,zn 234 236,ze 237 0 234,ze 238 1 234,zw 24 237,zw 25 238] (.seq (zR [zm 239 21,zc 240 .neq 239 0] (.cond (.l 240) (zR [zm 241 21,zc 242 .eql 241 7,zn 243 242,zg (zm 244 25) 243 true,zg (zc 245 .eql 244 0) 243 true,zg (zn 246 245) 243 true,zg (zm 247 25) 246 false,zg (zc 248 .eql 247 7) 246 false,zg (zP 249 246 248) 243 true,zp 250 243 249,zw 5 250] (.ret)) (.skip))) (zR [zm 251 25,zc 252 .eql 251 0,zn 253 252,zg (zm 254 24) 253 true,zg (zm 255 20) 253 true,zg (zb 256 .leq 254 255) 253 true,zp 257 253 256,zw 5 257] (.ret))))))
def Ai:al:=zR [⟨.l 146,.dE (some 3) 1 (.p 4) (kI 0),none⟩,zd 147 1 146,⟨.l 148,.dE (some 3) 1 (.p 4) (kI 1),none⟩,zd 149 1 148,⟨.l 150,.dE (some 3) 1 (.p 4) (kI 2),none⟩,zd 151 1 150,⟨.l 152,.dW 3 3 1 [.iV (0)] [(0,1,(.l 147)),(1,1,(.l 149)),(2,1,(.l 151))],none⟩,z1 153 50 152,zn 145 153,ze 154 0 145,ze 155 1 145,⟨.p 14,.alloc 58 [.str [],.iV (0),.str []],none⟩,zs 3 14 154,zw 15 155] (zR [⟨.l 157,.dE (some 3) 1 (.p 4) (kI 2),none⟩,zd 158 1 157,⟨.l 159,.dE (some 3) 1 (.p 4) (kI 0),none⟩,zd 160 1 159,⟨.l 161,.dE (some 3) 1 (.p 4) (kI 1),none⟩,zd 162 1 161,⟨.l 163,.dW 3 3 1 [.iV (0)] [(0,1,(.l 158)),(1,1,(.l 160)),(2,1,(.l 162))],none⟩,z1 164 50 163,zn 156 164,ze 165 0 156,ze 166 1 156,⟨.p 16,.alloc 58 [.str [],.iV (0),.str []],none⟩,zs 3 16 165,zw 17 166] (.seq (.draw [(⟨.l 167,.dE (some 3) 1 (.p 4) (kI 0),none⟩,[]),(zd 168 1 167,[]),(⟨.l 169,.dE (some 3) 1 (.p 4) (kI 1),none⟩,[0,1]),(zd 170 1 169,[0,1]),(⟨.l 171,.dE (some 3) 1 (.p 4) (kI 2),none⟩,[0,1,2,3]),(zd 172 1 171,[0,1,2,3]),(⟨.l 173,.mm false [(.l 168),(.l 170),(.l 172)],none⟩,[]),(⟨.l 174,.dE (some 3) 1 (.p 4) (kI 0),none⟩,[0,1,2,3,4,5,6]),(zd 175 1 174,[0,1,2,3,4,5,6]),(⟨.l 176,.dE (some 3) 1 (.p 4) (kI 1),none⟩,[0,1,2,3,4,5,6,7,8]),(zd 177 1 176,[0,1,2,3,4,5,6,7,8]),(⟨.l 178,.dE (some 3) 1 (.p 4) (kI 2),none⟩,[0,1,2,3,4,5,6,7,8,9,10]),(zd 179 1 178,[0,1,2,3,4,5,6,7,8,9,10]),(⟨.l 180,.mm true [(.l 175),(.l 177),(.l 179)],none⟩,[0,1,2,3,4,5,6]),(zw 18 173,[7,8,9,10,11,12,13]),(zw 19 180,[])]) (zR [zm 181 15,zm 182 17,zb 183 .add 181 182,zc 184 .neq 183 0,zn 185 184,zg (zt 186 3 14) 185 false,zg (zt 187 3 16) 185 false,⟨.l 188,.eq true (.rW [(0,1,false,.str),(1,1,false,.int),(2,1,false,.str)]) (.l 186) (.l 187),some ((.l 185),false)⟩,zP 189 185 188,zn 190 189,zg (zf 191 0 14) 190 false,zg (zd 192 1 191) 190 false,⟨.l 193,.bin .neq (.l 192) (.c (.str zD4)),some ((.l 190),false)⟩,zP 194 190 193,zn 195 194,zg (zf 196 1 14) 195 false,zg (zd 197 1 196) 195 false,zg (zc 198 .rem 197 1000) 195 false,zg (zc 199 .neq 198 0) 195 false,zP 200 195 199,zn 201 200,zg (zf 202 1 14) 201 false,zg (zd 203 1 202) 201 false,zg (zm 204 18) 201 false,zg (zb 205 .lss 203 204) 201 false,zP 206 201 205,zn 207 206,zg (zf 208 1 14) 207 false,zg (zd 209 1 208) 207 false,zg (zm 210 19) 207 false,zg (zc 211 .add 210 999) 207 false,zg (zb 212 .gtr 209 211) 207 false,zP 213 207 212] (.cond (.l 213) (zR [⟨.p 5,.mv (.c (.bool false)),none⟩] (.ret)) (.skip)))))
def b8:al:=zR [zx 3 44 2 0,zx 4 88 3 1,⟨.p 5,.mv (.c (.bool false)),none⟩] (.seq (zR [⟨.l 27,.call (kF 15) [],none⟩,zu 28 27,zn 29 28,zg (zf 30 0 3) 29 false,zg (zd 31 1 30) 29 false,⟨.l 32,.call (kF 47) [(.l 31),(kI 8)],some ((.l 29),false)⟩,zg (zu 33 32) 29 false,zP 34 29 33,zn 35 34,zg (zf 36 1 3) 35 false,zg (zd 37 1 36) 35 false,⟨.l 38,.call (kF 47) [(.l 37),(kI 8)],some ((.l 35),false)⟩,zg (zu 39 38) 35 false,zP 40 35 39,zn 41 40,zg (zt 42 2 3) 41 false,zg (z1 43 33 42) 41 false,zg (zc 44 .neq 43 0) 41 false,zP 45 41 44,zn 46 45,zg (zm 47 2) 46 false,zg (zl 48 47) 46 false,zg (zc 49 .gtr 48 30) 46 false,zP 50 46 49,zn 51 50,zg (zm 52 2) 51 false,⟨.l 53,.call (kF 40) [(.l 52),(kI 10),(kI 20)],some ((.l 51),false)⟩,zg (zc 54 .neq 53 0) 51 false,zP 55 51 54] (.cond (.l 55) (zR [⟨.l 56,.call (kF 15) [],none⟩,zw 5 56] (.ret)) (.skip))) (zR [zt 58 2 3,⟨.l 59,.call (kF 32) [(.l 58),(.c (.str zD7))],none⟩,zn 57 59,ze 60 0 57,ze 61 1 57,⟨.p 6,.alloc 58 [.str [],.iV (0),.str []],none⟩,zs 3 6 60,zw 7 61] (zR [zt 63 2 3,⟨.l 64,.call (kF 32) [(.l 63),(.c (.str zD3))],none⟩,zn 62 64,ze 65 0 62,ze 66 1 62,⟨.p 8,.alloc 58 [.str [],.iV (0),.str []],none⟩,zs 3 8 65,zw 9 66] (zR [zt 68 2 3,⟨.l 69,.call (kF 32) [(.l 68),(.c (.str zD8))],none⟩,zn 67 69,ze 70 0 67,ze 71 1 67,⟨.p 10,.alloc 58 [.str [],.iV (0),.str []],none⟩,zs 3 10 70,zw 11 71] (.seq (.seq (.draw [(zm 72 7,[]),(zm 73 9,[0]),(zb 74 .add 72 73,[]),(zm 75 11,[0,1,2]),(zb 76 .add 74 75,[]),(zc 77 .neq 76 0,[]),(zn 78 77,[]),(zg (zf 79 1 6) 78 false,[]),(zg (zd 80 1 79) 78 false,[]),(zg (zf 81 1 8) 78 false,[7,8]),(zg (zd 82 1 81) 78 false,[7,8]),(zg (zb 83 .gtr 80 82) 78 false,[]),(zP 84 78 83,[]),(zn 85 84,[]),(zg (zf 86 1 8) 85 false,[]),(zg (zd 87 1 86) 85 false,[]),(zg (zf 88 1 10) 85 false,[14,15]),(zg (zd 89 1 88) 85 false,[14,15]),(zg (zb 90 .gtr 87 89) 85 false,[]),(zP 91 85 90,[]),(zn 92 91,[]),(zg (zf 93 1 10) 92 false,[]),(zg (zd 94 1 93) 92 false,[]),(zg (zf 95 1 6) 92 false,[21,22]),(zg (zd 96 1 95) 92 false,[21,22]),(zg (zb 97 .sub 94 96) 92 false,[]),(zg (zc 98 .geq 97 1000) 92 false,[]),(zP 99 92 98,[]),(zn 100 99,[]),(zg (zf 101 1 8) 100 false,[]),(zg (zd 102 1 101) 100 false,[]),(zg (zf 103 1 6) 100 false,[29,30]),(zg (zd 104 1 103) 100 false,[29,30]),(zg (zb 105 .sub 102 104) 100 false,[]),(zg (zc 106 .geq 105 100) 100 false,[]),(zP 107 100 106,[]),(zn 108 107,[]),(zg (zf 109 1 6) 108 false,[]),(zg (zd 110 1 109) 108 false,[]),(zg (z1 111 49 110) 108 false,[]),(zg (zf 112 1 3) 108 false,[37,38,39]),(zg (zd 113 1 112) 108 false,[37,38,39]),(zg (z2 114 48 111 113) 108 false,[]),(zg (zc 115 .lss 114 0) 108 false,[]),(zP 116 108 115,[]),(zn 117 116,[]),(zg (zf 118 1 6) 117 false,[]),(zg (zd 119 1 118) 117 false,[]),(zg (zc 120 .sub 119 1) 117 false,[]),(zg (z1 121 49 120) 117 false,[]),(zg (zf 122 1 3) 117 false,[46,47,48,49]),(zg (zd 123 1 122) 117 false,[46,47,48,49]),(zg (z2 124 48 121 123) 117 false,[]),(zg (zc 125 .geq 124 0) 117 false,[]),(zP 126 117 125,[])]) (.cond (.l 126) (zR [⟨.p 5,.mv (.c (.bool false)),none⟩] (.ret)) (.skip))) (zR [⟨.p 12,.mv (.c (.bool true)),none⟩] (.seq (zR [zi 26 0] (.block 0 (.loop uS))) (.seq (zR [zm 144 12] (.cond (.l 144)
            Ai (.skip)))
          Ah))))))))
theorem ft8:FT 8=some ⟨258,[0,1,2,3,4,6,7,8,9,10,11,12,13,14,15,16,17,18,19,20,21,22,23,24,25,26,127,220,221],[.var (.p 5)],b8⟩:=by kernel_rfl
def uU:al:=zR [zr 32 .lss 11 10] (.seq (.cond (.l 32) (.skip) (.exit 0)) (.seq (.block 1 (zR [⟨.l 33,.dE none 1 (.p 9) (.p 11),none⟩,zd 34 1 33,zw 6 34] (zR [zm 36 6,⟨.l 37,.build [.str [],.iV (0),.str []] [(0,1,(.c (.str zD4))),(1,1,(.l 36))],none⟩,⟨.l 38,.call (kF 132) [(.l 37),(.c (.str zD8))],none⟩,zn 35 38,ze 39 0 35,ze 40 1 35,⟨.p 7,.alloc 58 [.str [],.iV (0),.str []],none⟩,zs 3 7 39,zw 8 40] (.seq (zR [zm 41 8,zc 42 .neq 41 0] (.cond (.l 42) (zR [⟨.l 43,.build [.str [],.iV (0),.str []] [],none⟩,zm 44 8,zs 3 1 43,zw 2 44] (.ret)) (.skip))) (.region [zm 45 5,zt 46 3 7,⟨.l 47,.dW 58 1 3 [.str [],.iV (0),.str []] [(0,3,(.l 46))],none⟩,⟨.l 48,.append 58 3 40 (.l 45) (.l 47),none⟩,zw 5 48]))))) (.region [zq 49 .add 11 1,zw 11 49])))
def PF:al:=zR [⟨.p 1,.alloc 58 [.str [],.iV (0),.str []],none⟩,zi 2 0] (zR [zm 11 0,⟨.l 12,.call (kF 119) [(.l 11),(kF 131)],none⟩,zw 3 12] (.seq (zR [zm 13 0,zl 14 13,zc 15 .eql 14 0,⟨.l 16,.call (kF 91) [(.l 15),(kI 12)],none⟩,zm 17 0,zl 18 17,zc 19 .gtr 18 3,⟨.l 20,.call (kF 91) [(.l 19),(kI 5)],none⟩,zm 21 3,⟨.l 22,.call (kF 91) [(.l 21),(kI 3)],none⟩,⟨.l 23,.dW 28 3 1 [.iV (0)] [(0,1,(.l 16)),(1,1,(.l 20)),(2,1,(.l 22))],none⟩,z1 24 90 23,zw 4 24] (zR [zm 25 4,zc 26 .neq 25 0] (.cond (.l 26) (zR [⟨.l 27,.build [.str [],.iV (0),.str []] [],none⟩,zm 28 4,zs 3 1 27,zw 2 28] (.ret)) (.skip)))) (zR [⟨.p 5,.mv (.c (.ah)),none⟩] (.seq (zR [⟨.p 9,.mv (.p 0),none⟩,⟨.p 10,.len .sl (.p 9),none⟩,zi 11 0] (.block 0 (.loop uU))) (zR [zm 50 5,⟨.l 51,.call (kF 133) [(.l 50),(kF 134)],none⟩] (zR [zm 52 5,zm 53 5,zl 54 53,zc 55 .quo 54 2,za 56 3 52 55,zT 57 3 56,zs 3 1 57,zi 2 0] (.ret)))))))
theorem agz:FT 50=some ⟨58,[0,2,3,4,5,6,8,9,10,29,30,31],[.cell 3 true (.p 1),.var (.p 2)],PF⟩:=by kernel_rfl
def PG:al:=zR [⟨.p 1,.mv (.c (.bool false)),none⟩] (zR [zm 3 0,zc 4 .lss 3 1,zn 5 4,zg (zm 6 0) 5 false,zg (zc 7 .gtr 6 863999999) 5 false,zP 8 5 7,zw 1 8] (.ret))
theorem agA:FT 131=some ⟨9,[0,2],[.var (.p 1)],PG⟩:=by kernel_rfl
def PH:al:=zR [zx 2 58 3 0,zx 3 58 3 1,zi 4 0] (zR [zf 5 1 2,zd 6 1 5,zf 7 1 3,zd 8 1 7,z2 9 118 6 8,zw 4 9] (.ret))
theorem agB:FT 134=some ⟨10,[0,1,2,3,4],[.var (.p 4)],PH⟩:=by kernel_rfl
open Go.Sort (swp insInner insOuter insertionSort)
variable {h:ab} {b n:Nat} {g:AV}
abbrev nX (k:Nat):AV:=.fn (.func k) [] []
abbrev Mk:=List UInt8×Int×List UInt8
abbrev cm (m:Mk):List AV:=[.str m.1,.iV m.2.1,.str m.2.2]
abbrev am (m:Mk):AV:=.agg [.str m.1,.iV m.2.1,.str m.2.2]
abbrev mh (h:ab)(b:Nat)(l:List Mk):ab:=h.put b (some (.cells (arr cm l) 58))
def uW (M:ay)(g:AV)(c:Mk->Mk->Int):Prop:=∀x y hp,CT M g [am x,am y] hp ⟨.iV (c x y),hp,[]⟩
def iL (c:Mk->Mk->Int)(x y:Mk):Bool:=decide (c x y<0)
theorem agC {c:Mk->Mk->Int}{x y:Mk}(h:c x y<0):iL c x y=true:=decide_eq_true h
theorem agD {c:Mk->Mk->Int}{x y:Mk}(h:¬c x y<0):iL c x y=false:=decide_eq_false h
theorem rT (d:Array Mk)(i:Nat):d.toList[i]! = d[i]! := Array.getElem!_toList
theorem agE (d:Array Mk)(i j:Nat):(swp d i j).toList=(d.toList.set i d.toList[j]!).set j d.toList[i]! := by
 rw[rT,rT,swp,de,de]
theorem PI (d:Array Mk)(i j:Nat):(swp d i j).size=d.size:=by simp[swp]
variable {c:Mk->Mk->Int}
theorem agF (hb:b<h.length)(hn:n<2305843009213693952)(hc:uW M g c)(a:Nat)(a2 a4:AV){Q:Ex->au->Prop}:∀(j:Nat) (d:Array Mk) (lo:List (Nat×AV)) (wr:List Nat),d.size=n->j<n->fK b wr ->
 (∀x lo wr,fK b wr->Q (.exit 2) ⟨⟨[.sl b 0 n 3 cap,.iV a,a2,g,a4,x],lo,mh h b (insInner (iL c) a j d).toList,[]⟩,wr⟩) ->
 W M (.loop rf) ⟨⟨[.sl b 0 n 3 cap,.iV a,a2,g,a4,.iV j],lo,mh h b d.toList,[]⟩,wr⟩ Q:=by
 intro j;induction j with
 | zero=>
  intro d lo wr hl hj hw hQ;refine W.loop ?_;unfold rf;repeat' first|apply abx|apply aa|apply aaL|apply aeM|apply bH|apply cA|apply afU|apply agy|(apply aio;rfl)|(apply ahl;rfl)|(apply acM;rfl)|(apply aeq;rfl;rfl)|(apply aeC;rfl;rfl)|(apply abA;rfl;rfl)|(intro _;omega)|intro _
  exact hQ _ _ _ hw
 | succ j ih=>
  intro d lo wr hl hj hw hQ;have f1:((j+1:Nat):Int).toNat=j+1:=by omega
  have f2:(((j+1:Nat):Int)-1).toNat=j:=by omega
  have hl':d.toList.length=n:=by simp[hl]
  refine W.loop ?_;by_cases h1:j+1 > a
  . have hcc:CT M g [am d.toList[((j+1:Nat):Int).toNat]!,am d.toList[(((j+1:Nat):Int)-1).toNat]!] (mh h b d.toList) ⟨.iV (c d[j+1]! d[j]!),mh h b d.toList,[]⟩:=by
     rw[f1,f2,rT,rT];exact hc _ _ _
    by_cases h2:c d[j+1]! d[j]! < 0
    . have e:insInner (iL c) a (j+1) d=insInner (iL c) a j (swp d (j+1) j):=by rw[insInner,agC h2,decide_eq_true h1];rfl
      rw[e]at hQ;unfold rf;repeat' first|apply abx|apply aa|apply abr|apply aaL|apply aef|apply adA|apply bC|apply afU|apply agy|(apply ain;rfl)|(apply ahl;rfl)|(apply ahb;rfl;rfl;(first|(simp only[nca];rfl)|rfl))|(apply ahY;rfl;(first|(simp only[nca];rfl)|rfl);(first|(simp only[nca];rfl)|rfl))|(apply acO;rfl)|(apply aep;rfl;rfl)|(apply aeq;rfl;rfl)|(apply aeB;rfl;rfl)|(apply afS;rfl;rfl;omega)|(apply ajb;rfl;rfl;rfl;first|exact hcc)|(apply aic;rfl;rfl;omega)|(apply aiW;rfl;(first|rfl|assumption|exact cj|(apply cB;assumption)|(apply cQ;first|assumption|(simp only[jM];assumption)));exact fun _=>rfl;(first|omega|(simp only[bA];omega)|(simp;omega));decide;rfl;case ia=>infer_instance)|(apply ajB;rfl;rfl;(first|rfl|assumption|exact cj|(apply cB;assumption)|(apply cQ;first|assumption|(simp only[jM];assumption)));exact fun _=>rfl;(first|omega|(simp only[bA];omega)|(simp;omega));exact⟨rfl,ao,rfl⟩;rfl;case ia=>infer_instance)|(apply abA;rfl;rfl)|(apply abC;rfl;rfl)|(intro _;omega)|intro _
      refine fX ?_;rw[wF,wF,f1,f2,←agE,show (((j+1:Nat):Int)-1)=((j:Nat):Int) by omega];exact ih _ _ _ (by rw[PI,hl]) ac hw.cons.cons hQ
    . have e:insInner (iL c) a (j+1) d=d:=by rw[insInner,agD h2];simp
      rw[e]at hQ;unfold rf;repeat' first|apply abx|apply aa|apply aaL|apply aeM|apply bH|apply cA|apply afU|apply agy|(apply ain;rfl)|(apply ahl;rfl)|(apply ahb;rfl;rfl;(first|(simp only[nca];rfl)|rfl))|(apply acM;rfl)|(apply aep;rfl;rfl)|(apply aeq;rfl;rfl)|(apply aeB;rfl;rfl)|(apply afS;rfl;rfl;omega)|(apply ajb;rfl;rfl;rfl;first|exact hcc)|(apply aic;rfl;rfl;omega)|(apply aiW;rfl;(first|rfl|assumption|exact cj|(apply cB;assumption)|(apply cQ;first|assumption|(simp only[jM];assumption)));exact fun _=>rfl;(first|omega|(simp only[bA];omega)|(simp;omega));decide;rfl;case ia=>infer_instance)|(apply abA;rfl;rfl)|(intro _;omega)|intro _
      exact hQ _ _ _ hw
  . have e:insInner (iL c) a (j+1) d=d:=by rw[insInner,decide_eq_false h1];simp
    rw[e]at hQ;unfold rf;repeat' first|apply abx|apply aa|apply aaL|apply aeM|apply bH|apply cA|apply afU|apply agy|(apply aio;rfl)|(apply ahl;rfl)|(apply acM;rfl)|(apply aeq;rfl;rfl)|(apply aeC;rfl;rfl)|(apply abA;rfl;rfl)|(intro _;omega)|intro _
    exact hQ _ _ _ hw
theorem PJ (lt:Mk->Mk->Bool)(a:Nat):∀(j:Nat) (d:Array Mk),(insInner lt a j d).size=d.size
 | 0,_=>rfl
 | j+1,d=>by
  rw[insInner];split
  . rw[PJ lt a j,PI]
  . rfl
theorem agG (hb:b<h.length)(hn:n<2305843009213693952)(hc:uW M g c)(a e:Nat)(he:e<=n){Q:Ex->au->Prop}:∀(r i:Nat) (d:Array Mk) (a5:AV) (lo:List (Nat×AV)) (wr:List Nat),e-i=r->d.size=n->i<=n+1->fK b wr ->
 (∀x j lo wr,fK b wr->Q (.exit 0) ⟨⟨[.sl b 0 n 3 cap,.iV a,.iV e,g,x,j],lo,mh h b (insOuter (iL c) a e i d).toList,[]⟩,wr⟩) ->
 W M (.loop xl) ⟨⟨[.sl b 0 n 3 cap,.iV a,.iV e,g,.iV i,a5],lo,mh h b d.toList,[]⟩,wr⟩ Q:=by
 intro r;induction r with
 | zero=>
  intro i d a5 lo wr hr hl hi hw hQ;have e':insOuter (iL c) a e i d=d:=by rw[insOuter,if_neg ac]
  rw[e']at hQ;refine W.loop ?_;unfold xl;repeat' first|apply abx|apply aa|apply abr|apply aaL|apply aeM|apply bH|apply cA|(apply acM;rfl)|(apply aep;rfl;rfl)|(apply abA;rfl;rfl)|(intro _;omega)|intro _
  exact hQ _ _ _ _ hw
 | succ r ih=>
  intro i d a5 lo wr hr hl hi hw hQ;have e':insOuter (iL c) a e i d=insOuter (iL c) a e (i+1) (insInner (iL c) a i d):=by rw[insOuter,if_pos ac]
  rw[e']at hQ;refine W.loop ?_;unfold xl;repeat' first|apply abx|apply aa|apply abr|apply aaL|apply aef|apply adA|(apply acO;rfl)|(apply aep;rfl;rfl)|(apply abA;rfl;rfl)|(apply abC;rfl;rfl)|(intro _;omega)|intro _
  refine agF hb hn hc a _ _ i d _ _ hl ac hw (fun x lo wr hw=>?_);repeat' first|apply aa|apply abr|apply aaL|apply bC|apply bJ|(apply aeX;rfl;rfl;omega)|(apply abA;rfl;rfl)|(apply abC;rfl;rfl)
  refine fX ?_;rw[show ((i:Int)+1)=((i+1:Nat):Int) by omega];exact ih (i+1) _ _ _ _ ac (by rw[PJ,hl]) ac hw hQ
theorem GO {l:List Mk}{f N:Nat}{aY:List Nat}{body:al}{ars:List AV}{l':List Mk}(hft:M.FT f=some ⟨N,aY,[],body⟩)(hN:ars.length<=N)(hx:∀ars h,M.ext f ars h=none)(hb:b<h.length)
 (hW:W M body ⟨⟨aY.map (fun t=>(ars[t]?).getD cM),[],mh h b l,[]⟩,[]⟩ fun e s=>(e = .normal\/e = .ret)/\s.s.cI=[]/\∃lo,s.s.hp=lo/\fK b s.wr/\lo=mh h b l'):∃wr,fK b wr/\CT M (nX f) ars (mh h b l) ⟨.aw [],mh h b l',wr⟩:=by
 obtain⟨l2,wr,hw,rfl,hr⟩:=Tm (M:=M) (l:=l) (e:=58) (f:=cm) (P:=fun x=>x=l') hft hN hb (fun _=>rfl) (hW.mono fun e s ⟨h1,h2,lo,h3,h4,h5⟩=>⟨h1,h2,l',by rw[h3,h5],h4,rfl⟩);exact⟨wr,hw,CT.run (hx _ _) (by simpa using hr)⟩
open Go.Sort (swp insInner insOuter insertionSort PermIn SortedIn SWO)
structure rU (M:ay):Prop where
 ft:M.FT=FT
 PK:∀ars h,M.ext 133 ars h=none
 PL:∀ars h,M.ext 187 ars h=none
 PM:∀ars h,M.ext 188 ars h=none
 PN:∀ars h,M.ext 243 ars h=none
 PO:∀ars h,M.ext 252 ars h=none
theorem agH (C:rU M)(hb:b<h.length)(hn:n<2305843009213693952)(hc:uW M g c)(d:Array Mk)(hd:d.size=n)(a e:Nat)(ha:a<=n)(he:e<=n) :
 ∃wr,fK b wr/\CT M (nX 243) [.sl b 0 n 3 cap,.iV a,.iV e,g] (mh h b d.toList) ⟨.aw [],mh h b (insertionSort (iL c) d a e).toList,wr⟩:=by
 refine GO (by rw[C.ft];exact We) ax C.PN hb ?_;unfold JS;simp only[enter];repeat' first|apply abx|apply aa|apply abr|apply aaL|apply aef|(apply aeX;rfl;rfl;omega)|(apply abA;rfl;rfl)|(apply abC;rfl;rfl)
 rw[show ((a:Int)+1)=((a+1:Nat):Int) by omega];refine agG hb hn hc a e he _ (a+1) d _ _ _ rfl hd ac fK.nil (fun x j lo wr hw=>?_);repeat' first|apply bJ
 exact⟨.inl rfl,rfl,_,rfl,hw,rfl⟩
theorem agI (C:rU M)(m:Nat)(hm:m<256)(hp:ab):∃r:Int,(0<=r/\r<256)/\CT M (nX 252) [.uV m] hp ⟨.iV r,hp,[]⟩:=by
 obtain⟨v,⟨r,rfl,h1⟩,h2⟩:=Tq (M:=M) (h:=hp) (ars:=[.uV m]) (P:=fun v=>∃r:Int,v = .iV r/\0<=r/\r<256) (by rw[C.ft];exact JR) ax (by
  simp only[enter];unfold DD;repeat' first|(intro _;omega)|intro _|(apply ajD;rfl;rfl;exact⟨ac,Int.lt_of_lt_of_le (b:=256) ac (Int.ofNat_le.2 (Nat.le_of_eq rfl))⟩;intro _ _ _)|(apply ajC;rfl;omega)|apply abx|apply aa|apply abr|apply aaL|apply acG|apply adA|(apply acM;rfl)|(apply ahS;rfl;rfl)|(apply aiL;rfl;omega)|(apply aeX;rfl;rfl;omega)|(apply abA;rfl;rfl)|(apply abC;rfl;rfl)
  rename_i r h1 h2;exact⟨.inr rfl,rfl,rfl,rfl,_,rfl,_,rfl,ac⟩)
 exact⟨r,h1,CT.run (C.PO _ _) (by simpa using h2)⟩
theorem agJ (C:rU M)(m:Nat)(hm:m<256)(hp:ab):∃r:Int,(0<=r/\r<256)/\CT M (nX 188) [.uV m] hp ⟨.iV r,hp,[]⟩:=by
 obtain⟨r,hr,hc⟩:=agI C m hm hp;refine⟨r,hr,CT.run (C.PM _ _) ?_⟩;refine kd (by rw[C.ft];exact Wd) ax ?_;unfold JQ;simp only[enter];repeat' first|apply abx|apply aa|apply abr|apply aaL|apply acG|apply adA|(apply acM;rfl)|(apply ahW;rfl;rfl;first|exact hc)|(apply abA;rfl;rfl)|(apply abC;rfl;rfl)
 exact⟨.inr rfl,rfl,rfl,rfl,_,rfl,rfl⟩
def agK (M:ay)(g:AV)(c:Mk->Mk->Int)(m:Nat):Prop:=∀(h:ab) (b:Nat) (cap:Option Nat) (l:List Mk),b<h.length->l.length<=m ->
 ∃l' wr,fK b wr/\l'.Perm l/\(∀i j,i<j->j<l'.length->¬c l'[j]! l'[i]! < 0)/\CT M (nX 133) [.sl b 0 l.length 3 cap,g] (mh h b l) ⟨.aw [],mh h b l',wr⟩
theorem agL {c:Mk->Mk->Int}{key:Mk->Int}(h:∀x y,c x y<0↔key y<key x):SWO (iL c) where
 irrefl x:=decide_eq_false (by rw[h];omega)
 trans x y z h1 h2:=by
  have h1:=of_decide_eq_true h1;have h2:=of_decide_eq_true h2;rw[h]at h1 h2;exact decide_eq_true (by rw[h];omega)
 ntrans x y z h1 h2:=by
  have h1:=of_decide_eq_false h1;have h2:=of_decide_eq_false h2;rw[h]at h1 h2;exact decide_eq_false (by rw[h];omega)
theorem agM {d d':Array Mk}(h:PermIn 0 d.size d d'/\SortedIn (iL c) 0 d.size d'):d'.toList.Perm d.toList/\∀i j,i<j->j<d'.toList.length->¬c d'.toList[j]! d'.toList[i]! < 0:=by
 obtain⟨⟨h1,_,h3⟩,h4⟩:=h;refine⟨?_,fun i j hij hj=>?_⟩
 . have e:(d'.extract 0 d.size)=d':=by rw[←h1];simp
   rw[e]at h3;simpa using h3
 . have:=h4 i j (dg _) hij (by rw[←h1];simpa using hj);rw[rT,rT];exact of_decide_eq_false this
theorem agN (C:rU M)(hb:b<h.length)(hc:uW M g c)(d:Array Mk)(hd:d.size=n)(hn:n<=12)(r:Int) :
 ∃wr,fK b wr/\CT M (nX 187) [.sl b 0 n 3 cap,.iV 0,.iV n,.iV r,g] (mh h b d.toList) ⟨.aw [],mh h b (insertionSort (iL c) d 0 n).toList,wr⟩:=by
 obtain⟨wr,hw,hcc⟩:=agH (cap:=cap) C hb ac hc d hd 0 n ac ac;have hcc':CT M (nX 243) [.sl b 0 n 3 cap,.iV 0,.iV n,g] (mh h b d.toList) ⟨.aw [],mh h b (insertionSort (iL c) d 0 n).toList,wr⟩:=hcc;refine GO (by rw[C.ft];exact Wc) ax C.PL hb ?_;unfold JP;simp only[enter];repeat' first|apply abx|apply aa|apply abr|apply aaL|apply aef|(apply abC;rfl;rfl)
 refine W.loop ?_;unfold JO;repeat' first|apply abx|apply aa|apply abr|apply aaL|apply aef|apply acG|apply ba|apply cn|apply dr|(apply acO;rfl)|(apply aiw;rfl;rfl)|(apply afS;rfl;rfl;omega)|(apply ahW;rfl;rfl;first|exact hcc')|(apply abA;rfl;rfl)|(apply abC;rfl;rfl)|(intro _;omega)|intro _
 exact⟨.inr rfl,rfl,_,rfl,hw.app fK.nil,rfl⟩
theorem agO (C:rU M)(hc:uW M g c){key:Mk->Int}(hk:∀x y,c x y<0↔key y<key x):agK M g c 12:=by
 intro h b cap l hb hl;obtain⟨d,rfl⟩:∃d:Array Mk,d.toList=l:=⟨l.toArray,ax⟩;obtain⟨r,hr,h188⟩:=agJ C d.size (by simp at hl;omega) (mh h b d.toList);obtain⟨wr,hw,h187⟩:=agN (cap:=cap) C hb hc d rfl (by simpa using hl) r;have hs:=Go.Sort.insertionSort_holds (agL hk) d 0 d.size (dg _) (cD _);obtain⟨s1,s2⟩:=agM hs;have e:d.toList.length=d.size:=by simp
 rw[e];have hl':d.size<=12:=by simpa using hl
 obtain⟨wr',hw',h133⟩:=GO (M:=M) (l:=d.toList) (l':=(insertionSort (iL c) d 0 d.size).toList) (b:=b) (h:=h) (f:=133) (ars:=[.sl b 0 d.size 3 cap,g]) (by rw[C.ft];exact Wb) ax C.PK hb (by
  unfold JN;simp only[enter];repeat' first|apply abx|apply aa|apply abr|apply aaL|(apply ajc;rfl;omega)|(apply ahW;rfl;rfl;first|exact h188|exact h187)|(apply abA;rfl;rfl)|(apply abC;rfl;rfl)
  exact⟨.inl rfl,rfl,_,rfl,hw.app fK.nil,rfl⟩)
 exact⟨_,wr',hw',s1,s2,h133⟩
def PQ:al:=zR [zi 2 0] (zR [zm 7 0,z1 8 181 7,zw 3 8] (zR [zm 9 1,z1 10 181 9,zw 4 10] (.seq (zR [zm 11 3] (.cond (.l 11) (.seq (zR [zm 12 4] (.cond (.l 12) (zR [zi 2 0] (.ret)) (.skip))) (zR [zi 2 (-1)] (.ret))) (.skip))) (.seq (zR [zm 13 4] (.cond (.l 13) (zR [zi 2 1] (.ret)) (.skip))) (.seq (zR [zm 14 0,zm 15 1,zb 16 .lss 14 15] (.cond (.l 16) (zR [zi 2 (-1)] (.ret)) (.skip))) (.seq (zR [zm 17 0,zm 18 1,zb 19 .gtr 17 18] (.cond (.l 19) (zR [zi 2 1] (.ret)) (.skip))) (zR [zi 2 0] (.ret))))))))
theorem agP:FT 118=some ⟨20,[0,1,4,5,6],[.var (.p 2)],PQ⟩:=by kernel_rfl
def PR:al:=zR [⟨.p 1,.mv (.c (.bool false)),none⟩] (zR [zm 3 0,zm 4 0,zb 5 .neq 3 4,zw 1 5] (.ret))
theorem agQ:FT 181=some ⟨6,[0,2],[.var (.p 1)],PR⟩:=by kernel_rfl
def jz (x y:Int):Int:=if x<y then -1 else if y<x then 1 else 0
theorem agR (hft:M.FT=FT)(x:Int):bm M 181 [.iV x] [] ⟨.bool false,[],[]⟩:=by
 refine bX (by rw[hft];exact agQ) ax ?_;unfold PR;simp only[enter];repeat' first|apply abx|apply aa|apply abr|apply aaL|apply acG|(apply agx;rfl;rfl)|(apply abA;rfl;rfl)|(apply abC;rfl;rfl)|(intro _;omega)|intro _
 all_goals try omega
 all_goals exact⟨.inr rfl,rfl,_,rfl,rfl,rfl⟩
theorem agS (hft:M.FT=FT)(q:∀x h,M.ext 181 [.iV x] h=some ⟨.bool false,h,[]⟩)(x y:Int):bm M 118 [.iV x,.iV y] [] ⟨.iV (jz x y),[],[]⟩:=by
 refine bX (by rw[hft];exact agP) ax ?_;unfold PQ;simp only[enter];by_cases h1:x<y
 . rw[show jz x y = -1 from if_pos h1];repeat' first|apply abx|apply aa|apply abr|apply aaL|apply acG|apply adA|apply ba|(apply acO;rfl)|(apply acM;rfl)|(apply aep;rfl;rfl)|(apply adX;rfl;rfl;first|exact q _ _)|(apply abA;rfl;rfl)|(apply abC;rfl;rfl)|(intro _;omega)|intro _
   all_goals try omega
   all_goals exact⟨.inr rfl,rfl,_,rfl,rfl,rfl⟩
 . by_cases h2:y<x
   . rw[show jz x y=1 by rw[jz,if_neg h1,if_pos h2]];repeat' first|apply abx|apply aa|apply abr|apply aaL|apply acG|apply adA|apply ba|(apply acO;rfl)|(apply acM;rfl)|(apply aep;rfl;rfl)|(apply aeq;rfl;rfl)|(apply adX;rfl;rfl;first|exact q _ _)|(apply abA;rfl;rfl)|(apply abC;rfl;rfl)|(intro _;omega)|intro _
     all_goals try omega
     all_goals exact⟨.inr rfl,rfl,_,rfl,rfl,rfl⟩
   . rw[show jz x y=0 by rw[jz,if_neg h1,if_neg h2]];repeat' first|apply abx|apply aa|apply abr|apply aaL|apply acG|apply adA|(apply acM;rfl)|(apply aep;rfl;rfl)|(apply aeq;rfl;rfl)|(apply adX;rfl;rfl;first|exact q _ _)|(apply abA;rfl;rfl)|(apply abC;rfl;rfl)|(intro _;omega)|intro _
     all_goals try omega
     all_goals exact⟨.inr rfl,rfl,_,rfl,rfl,rfl⟩
open Go.Ab.Ch5
structure PS (M:ay):Prop extends rU M where
 pR:∀ars h,M.ext 119 ars h=none
 mc:∀ars h,M.ext 122 ars h=none
 kB:∀v h l,dZ h v=some l->l.length<1000->M.ext 90 [v] h=some ⟨.iV (dM l),h,[]⟩
 kA:∀t (e:Int) h,M.ext 91 [.bool t,.iV e] h=some ⟨.iV (if t then e else 0),h,[]⟩
 PT:∀x h,M.ext 131 [.iV x] h=some ⟨.bool (decide (x<1\/863999999<x)),h,[]⟩
 PU:∀x y h,M.ext 134 [am x,am y] h=some ⟨.iV (jz x.2.1 y.2.1),h,[]⟩
theorem agT (hft:M.FT=FT)(x:Int):bm M 131 [.iV x] [] ⟨.bool (decide (x<1\/863999999<x)),[],[]⟩:=by
 refine bX (by rw[hft];exact agA) ax ?_;unfold PG;simp only[enter];by_cases h1:x<1
 . rw[decide_eq_true (.inl h1)];repeat' first|apply abx|apply aa|apply abr|apply aaL|apply acG|(apply aid;rfl)|(apply aep;rfl;rfl)|(apply aeB;rfl;rfl)|(apply abA;rfl;rfl)|(apply abC;rfl;rfl)|(intro _;omega)|intro _
   all_goals try omega
   all_goals exact⟨.inr rfl,rfl,_,rfl,rfl,rfl⟩
 . by_cases h2:863999999<x
   . rw[decide_eq_true (.inr h2)];repeat' first|apply abx|apply aa|apply abr|apply aaL|apply acG|(apply ahQ;rfl)|(apply aep;rfl;rfl)|(apply aeq;rfl;rfl)|(apply aeC;rfl;rfl)|(apply abA;rfl;rfl)|(apply abC;rfl;rfl)|(intro _;omega)|intro _
     all_goals try omega
     all_goals exact⟨.inr rfl,rfl,_,rfl,rfl,rfl⟩
   . rw[decide_eq_false (fun h=>h.elim h1 h2)];repeat' first|apply abx|apply aa|apply abr|apply aaL|apply acG|(apply ahQ;rfl)|(apply aep;rfl;rfl)|(apply aeq;rfl;rfl)|(apply aeC;rfl;rfl)|(apply abA;rfl;rfl)|(apply abC;rfl;rfl)|(intro _;omega)|intro _
     all_goals try omega
     all_goals exact⟨.inr rfl,rfl,_,rfl,rfl,rfl⟩
theorem agU (hft:M.FT=FT)(q:∀x y h,M.ext 118 [.iV x,.iV y] h=some ⟨.iV (jz x y),h,[]⟩)(x y:Mk):bm M 134 [am x,am y] [] ⟨.iV (jz x.2.1 y.2.1),[],[]⟩:=by
 refine bX (by rw[hft];exact agB) ax ?_;unfold PH;simp only[enter];repeat' first|apply abx|apply aa|apply abr|apply aaL|apply acG|(apply adX;rfl;rfl;first|exact q _ _ _)|(apply aev;rfl;rfl;rfl)|(apply aes;rfl;rfl;rfl)|(apply abA;rfl;rfl)|(apply abC;rfl;rfl)
 all_goals try omega
 all_goals exact⟨.inr rfl,rfl,_,rfl,rfl,rfl⟩
def wM (r:Int->Int)(x:Int):Mk:=(cF,r x,[])
theorem agV {r:Int->Int}{l:List Int}(hl:l.length=3)(q132:∀x∈l,∀h,M.ext 132 [.agg [.str cF,.iV x,.str []],.str iK] h=some ⟨.aw [am (wM r x),.iV 0],h,[]⟩)(a0 a2 a3 a4 a6 a7 a8:AV){Q:Ex->au->Prop}(K:ab)(lo:List (Nat×AV))(wr:List Nat)(hK:K.at 0=some (.cells (cm ([],0,[])) 58))
 (hQ:∀o a6 a7 a8 K lo wr,cU cm 3 58 K o (l.map (wM r)) [0]->K.at 0=some (.cells (cm ([],0,[])) 58)->Q (.exit 0) ⟨⟨[a0,.ptr 0 0,a2,a3,a4,o,a6,a7,a8,.vs (ints l) l.length cap,.iV l.length,.iV l.length],lo,K,[]⟩,wr⟩) :
 W M (.loop uU) ⟨⟨[a0,.ptr 0 0,a2,a3,a4,.ah,a6,a7,a8,.vs (ints l) l.length cap,.iV l.length,.iV 0],lo,K,[]⟩,wr⟩ Q:=by
 refine W.jf l.length (fun i s=>∃o a6 a7 a8 K lo wr,s=⟨⟨[a0,.ptr 0 0,a2,a3,a4,o,a6,a7,a8,.vs (ints l) l.length cap,.iV l.length,.iV i],lo,K,[]⟩,wr⟩/\cU cm 3 58 K o ((l.take i).map (wM r)) [0]/\K.at 0=some (.cells (cm ([],0,[])) 58))
  (fun i s hi ⟨o,a6,a7,a8,K,lo,wr,hs,ho,hK⟩=>?_) (fun s ⟨o,a6,a7,a8,K,lo,wr,hs,ho,hK⟩=>?_) (dg _) ⟨.ah,a6,a7,a8,K,lo,wr,rfl,.nu,hK⟩
 . subst hs;have ei:((i:Int)).toNat=i:=by omega
   have hm:l[((i:Int)).toNat]! ∈ l:=by rw[ei,getElem!_pos l i hi];exact c6 hi
   have q:=q132 _ hm;have hk0:=gS hK;have eT:(l.take (i+1)).map (wM r)=(l.take i).map (wM r)++[wM r l[((i:Int)).toNat]!]:=by
    rw[ei,getElem!_pos l i hi,←cP hi,eA];rfl
   have hroom:(((l.take i).map (wM r)).length+1)*40<=fa:=by rw[b9,d7];unfold fa;omega
   unfold uU;repeat' first|apply abx|apply aa|apply abr|apply aaL|apply aef|apply adA|(apply acO;rfl)|(apply acM;rfl)|(apply aep;rfl;rfl)|(apply agx;rfl;rfl)|(apply aik;rfl;rfl;exact⟨rfl,by first|exact cD _|decide|(simp[overwrite]),rfl⟩;rfl)|(apply aie;rfl;(first|(focus((repeat' first|exact cj|assumption|apply cB);done))|exact cQ ax);rfl)|(apply adX;rfl;rfl;first|exact q _)|(apply ahT;rfl;rfl;omega)|(apply aib;rfl;exact fun _=>rfl;(first|omega|(simp only[bA];omega)|(simp;omega));decide;rfl;case ia=>infer_instance)|(apply aev;rfl;rfl;rfl)|(apply aes;rfl;rfl;rfl)|(apply abA;rfl;rfl)|(apply abC;rfl;rfl)|(intro _;omega)|intro _
   all_goals try omega
   generalize l[((i:Int)).toNat]! = x at *
   refine cU.app (f:=cm) (m:=[wM r x]) (S:=[0]) (fun _=>rfl) (fun _=>rfl) ao ((ho.grow [_]).grow [_]) (fun y hy=>by rw[dc.1 hy,be,be];omega) rfl rfl (Sl.ke (f:=cm) (esz:=3) (l:=[wM r x]) (e:=58) (fun _=>rfl) cj rfl) hroom (fun H w' o' ho' hk hlen'=>?_);repeat' first|apply aa|apply abr|apply aaL|apply bC|(apply aeX;rfl;rfl;omega)|(apply abC;rfl;rfl)
   exact dQ ⟨_,_,_,_,_,_,_,rfl,by rw[eT];exact ho',hk 0 _ ax (cB (cB hK))⟩
 . subst hs;rw[d8]at ho;unfold uU;repeat' first|apply abx|apply aa|apply abr|apply aaL|apply aeM|apply bH|apply ck|(apply acM;rfl)|(apply aep;rfl;rfl)|(intro _;omega)|intro _
   all_goals try omega
   all_goals exact hQ _ _ _ _ _ _ _ ho hK
attribute [local irreducible] uU
theorem agW {pe:List AV}{lo:List (Nat×AV)}{K:ab}{df:List _}{a b c x:AV}{e:TypeId}(h2:(St.mk pe lo K df).ae (.p 1)=some (.ptr 0 0))(hv:K.at 0=some (.cells [a,b,c] e))(h3:(St.mk pe lo K df).ae (.p 2)=some x) :
 dK (St.mk pe lo K df) [.cell 3 true (.p 1),.var (.p 2)]=some [.agg [a,b,c],x]:=by
 simp[dK,h2,h3,gr,hv,partOf,cut]
def rV (r:Int->Int)(l:List Int)(m:Int):Prop:=∃l':List Mk,l'.Perm (l.map (wM r))/\(∀i j,i<j->j<l'.length->¬(l'[j]!).2.1<(l'[i]!).2.1)/\l'[1]! = (cF,m,[])
theorem PV (C:PS M){r:Int->Int}{l:List Int}(hl:l.length=3)(hr:∀x∈l,1<=x/\x<=863999999)(q132:∀x∈l,∀h,M.ext 132 [.agg [.str cF,.iV x,.str []],.str iK] h=some ⟨.aw [am (wM r x),.iV 0],h,[]⟩) :
 ∃m,rV r l m/\bm M 50 [.vs (ints l) l.length cap] [] ⟨.aw [.agg [.str cF,.iV m,.str []],.iV 0],[],[]⟩:=by
 have hany:l.any (fun x=>decide (x<1\/863999999<x))=false:=by
  rw[dz];intro x hx;have:=hr x hx;simp;omega
 have q119:=fun H=>OZ (cap:=cap) C.ft C.pR C.mc l (fun x=>decide (x<1\/863999999<x)) (ic 131) H ac (fun x=>CT.ext (C.PT x H))
 rw[hany]at q119;have f:∀v h,dZ h v=some [0,0,0]->M.ext 90 [v] h=some ⟨.iV 0,h,[]⟩:=fun v h hi=>C.kB v h _ hi ao
 have tf:∀e h,M.ext 91 [.bool false,.iV e] h=some ⟨.iV 0,h,[]⟩:=fun e h=>C.kA false e h
 have go:=fun (Q:Ex->au->Prop) a0 a2 a3 a4 a6 a7 a8 K lo wr hK hQ=>agV (M:=M) (cap:=cap) (r:=r) hl q132 a0 a2 a3 a4 a6 a7 a8 (Q:=Q) K lo wr hK hQ
 have r0:∃v hh,(∃m,rV r l m/\v = .aw [.agg [.str cF,.iV m,.str []],.iV 0]/\hh=[])/\bm M 50 [.vs (ints l) l.length cap] [] ⟨v,hh,[]⟩:=by
  refine iR (by rw[C.ft];exact agz) ax ?_;unfold PF;simp only[enter];repeat' first|(refine go _ _ _ _ _ _ _ _ _ _ _ rfl (fun o a6 a7 a8 K lo wr ho hK=>?_))|apply abx|apply aa|apply abr|apply aaL|apply aef|apply adA|apply bJ|(apply acM;rfl)|(apply aeq;rfl;rfl)|(apply afe;rfl;rfl)|(apply agx;rfl;rfl)|(apply ahW;rfl;rfl;first|exact q119 _)|(apply adX;rfl;rfl;first|exact tf _ _|exact f _ _ rfl)|(apply aev;rfl;rfl;rfl)|(apply aes;rfl;rfl;rfl)|(apply abA;rfl;rfl)|(apply abC;rfl;rfl)|(intro _;omega)|intro _
  all_goals try omega
  have hml:(l.map (wM r)).length=3:=by rw[b9];exact hl
  rcases ho with ⟨h1,_⟩|⟨d,cp,hd0,rfl,hd,hcp⟩
  . rw[h1]at hml;exact absurd hml ao
  . have hdl:=gS hd;obtain⟨l',wr',hw',hp,hsd,q133⟩:=agO C.torU (g:=nX 134) (c:=fun x y=>jz x.2.1 y.2.1) (fun x y hp=>CT.ext (C.PU x y hp)) (key:=fun x=>-x.2.1) (fun x y=>by unfold jz;split <;> (try split) <;> omega) K d cp (l.map (wM r)) hdl ac;rw[show mh K d (l.map (wM r))=K from BL (o:=.cells (arr cm (l.map (wM r))) 58) hd]at q133;have hl':l'.length=3:=by rw[hp.length_eq];exact hml
    have h1m:l'[1]! ∈ l.map (wM r):=hp.mem_iff.1 (by rw[getElem!_pos l' 1 ac];exact c6 _);obtain⟨x,hx,ex⟩:=d6.1 h1m;have hd1:(mh K d l').at d=some (.cells (arr cm l') 58):=cQ hdl;have hne:(0:Nat)≠d:=fun h=>hd0 (by rw[←h];simp)
    have hK1:(mh K d l').at 0=some (.cells (cm ([],0,[])) 58):=wC hne hK;rw[hml]at q133 ⊢;repeat' first|(apply aia;rfl;rfl;exact hK1;exact⟨rfl,ao,rfl⟩;rfl)|apply abx|apply aa|apply abr|apply aaL|apply acG|(apply aju;rfl;rfl;omega;omega;intro _ _)|(apply ahW;rfl;rfl;first|exact q133)|(apply aic;rfl;rfl;omega)|(apply aiW;rfl;(first|rfl|assumption|exact cj|(apply cB;assumption)|(apply cQ;first|assumption|(simp only[jM];assumption)));exact fun _=>rfl;(first|omega|(simp only[bA];omega)|(simp;omega));decide;rfl;case ia=>infer_instance)|(apply abA;rfl;rfl)|(apply abC;rfl;rfl)
    all_goals try omega
    have e1:(((3:Nat):Int)/2).toNat=1:=by decide
    have e2:l'[(((3:Nat):Int)/2).toNat]! = (cF,r x,[]):=by rw[e1,←ex];rfl
    have h0l:=gS hK1;refine⟨.inr rfl,rfl,_,agW rfl (cQ h0l) rfl,r x,⟨l',hp,fun i j hij hj hlt=>hsd i j hij hj ?_,by rw[←ex];rfl⟩,?_,?_⟩
    . show jz _ _<0;unfold jz;rw[if_pos hlt];decide
    . rw[e2];rfl
    . rw[e2];rfl
 obtain⟨v,hh,⟨m,h1,rfl,rfl⟩,h3⟩:=r0;exact⟨m,h1,h3⟩
def PW:al:=zR [⟨.p 2,.mv (.c (.bool false)),none⟩] (zR [zm 5 0,zL 6 5,zm 7 1,⟨.l 8,.bin .mul (kI 2) (.l 7),none⟩,zc 9 .add 8 2,zb 10 .leq 6 9,zn 11 10,zg (zm 12 0) 11 true,zg (z1 13 104 12) 11 true,zg (zc 14 .eql 13 0) 11 true,zp 15 11 14,zn 16 15,zg (zm 17 0) 16 true,zg (z1 18 126 17) 16 true,zg (z1 19 125 18) 16 true,zg (zL 20 19) 16 true,zg (zm 21 1) 16 true,zg (zb 22 .leq 20 21) 16 true,zp 23 16 22,zn 24 23,zg (zm 25 0) 24 true,zg (z1 26 127 25) 24 true,zg (zL 27 26) 24 true,zg (zm 28 1) 24 true,zg (zb 29 .leq 27 28) 24 true,zp 30 24 29,zw 2 30] (.ret))
theorem agX:FT 47=some ⟨31,[0,1,4],[.var (.p 2)],PW⟩:=by kernel_rfl
theorem agY {x y:Int}(h:cY x=cY y):x=y:=by
 have h1:=pP (x:Rat);have h2:=pP (y:Rat);have c1:=pH (x:Rat);have c2:=pH (y:Rat);rw[rO,ci,cC,if_pos rfl]at c1 c2;rw[h]at c1;have e1:decide (x<0)=decide (y<0):=c1.1.symm.trans c2.1;have e2:=Ld (c1.2.symm.trans c2.2);rw[decide_eq_decide]at e1;unfold ak at e2;split at e2 <;> split at e2 <;> omega
theorem agZ {p q:Rat}(h:aT p=aT q):p=q:=by
 obtain⟨_,_,_,_,_,e1⟩:=pP p;obtain⟨_,_,_,_,_,e2⟩:=pP q;rw[h,e2,Prod.mk.injEq]at e1;obtain⟨h1,h2⟩:=e1;have hn:=agY h1;have hd:q.den=p.den:=by
  split at h2 <;> split at h2
  . omega
  . cases h2
  . cases h2
  . exact Ld (Option.some.inj h2)
 exact Rat.ext hn.symm hd.symm
noncomputable def fW (s:az):Rat:=Classical.epsilon fun q=>s=aT q
theorem aha (q:Rat):fW (aT q)=q:=
 (agZ (Classical.epsilon_spec (p:=fun p=>aT q=aT p) ⟨q,rfl⟩)).symm
theorem PX {s:az}{k:Nat}(h:eo s=0)(hl:s.length<=k):s=aT (fW s)/\Dq k (fW s):=by
 obtain⟨q,rfl,hq⟩:=EV h hl;rw[aha];exact⟨rfl,hq⟩
noncomputable def jk (k:Nat)(s:az):Bool:=open Classical in decide (s.length<=2*k+2/\eo s=0/\(bw (ak (fW s).num).toNat).length<=k/\(bw (fW s).den).length<=k)
theorem PY {k:Nat}{s:az}(h:jk k s=true):s=aT (fW s)/\Dq k (fW s)/\s.length<=2*k+2/\eo s=0:=by
 obtain⟨h1,h2,h3,h4⟩:=of_decide_eq_true h;refine⟨(PX h2 h1).1,⟨?_,?_⟩,h1,h2⟩
 . have:=dec_lt h3;have h0:=kl (x:=(fW s).num);have e:((10^k:Nat):Int)=(10:Int)^k:=eL _ _;omega
 . have:=dec_lt h4;have e:((10^k:Nat):Int)=(10:Int)^k:=eL _ _;omega
structure PZ (M:ay):Prop where
 ft:M.FT=FT
 Qa:∀(s:az) h,s.length<1000000->M.ext 104 [.str s] h=some ⟨.iV (eo s),h,[]⟩
 Qb:∀q h,(aT q).length<1000000->M.ext 126 [.str (aT q)] h=some ⟨.str (aT (q.num:Rat)),h,[]⟩
 Qc:∀(q:Rat) h,M.ext 125 [.str (aT (q.num:Rat))] h=some ⟨.str (aT (if q.num<0 then -(q.num:Rat) else (q.num:Rat))),h,[]⟩
 Qd:∀q h,(aT q).length<1000000->M.ext 127 [.str (aT q)] h=some ⟨.str (bw q.den),h,[]⟩
theorem w47 (C:PZ M)(s:az)(k:Nat)(hk:k<1000):bm M 47 [.str s,.iV k] [] ⟨.bool (jk k s),[],[]⟩:=by
 refine bX (by rw[C.ft];exact agX) ax ?_;unfold PW;simp only[enter];by_cases h1:s.length<=2*k+2
 . have q104:=fun h=>C.Qa s h ac
   by_cases h2:eo s=0
   . rw[h2]at q104;have eq:=(PX h2 h1).1;have hl:(aT (fW s)).length<1000000:=by rw[←eq];omega
     have q126:=fun h=>C.Qb (fW s) h hl
     have q125:=fun h=>C.Qc (fW s) h
     have q127:=fun h=>C.Qd (fW s) h hl
     have e:aT (if (fW s).num<0 then -((fW s).num:Rat) else ((fW s).num:Rat))=bw (ak (fW s).num).toNat:=by
      unfold ak;split
      . rw[show -((fW s).num:Rat)=((-(fW s).num:Int):Rat) by simp,rO,FU ac]
      . rw[rO,FU ac]
     rw[e]at q125;rw[←eq]at q126 q127;have ef:jk k s=(decide ((bw (ak (fW s).num).toNat).length<=k) && decide ((bw (fW s).den).length<=k)):=by
      unfold jk;rw[Bool.eq_iff_iff];simp[h1,h2]
     rw[ef];generalize bw (ak (fW s).num).toNat=u at *
     generalize bw (fW s).den=v at *
     generalize aT ((fW s).num:Rat)=z at *
     by_cases h3:u.length<=k
     . rw[decide_eq_true h3,f6];by_cases h4:v.length<=k
       . rw[decide_eq_true h4];repeat' first|apply abx|apply aa|apply abr|apply aaL|apply acG|(apply afg;rfl)|(apply aiw;rfl;rfl)|(apply afe;rfl;rfl)|(apply aeB;rfl;rfl)|(apply aeX;rfl;rfl;omega)|(apply aiE;rfl;rfl;omega)|(apply adX;rfl;rfl;first|exact q104 _|exact q126 _|exact q125 _|exact q127 _)|(apply abA;rfl;rfl)|(apply abC;rfl;rfl)|(intro _;omega)|intro _
         all_goals try omega
         all_goals exact⟨.inr rfl,rfl,_,rfl,rfl,rfl⟩
       . rw[decide_eq_false h4];repeat' first|apply abx|apply aa|apply abr|apply aaL|apply acG|(apply afg;rfl)|(apply aiw;rfl;rfl)|(apply afe;rfl;rfl)|(apply aeB;rfl;rfl)|(apply aeX;rfl;rfl;omega)|(apply aiE;rfl;rfl;omega)|(apply adX;rfl;rfl;first|exact q104 _|exact q126 _|exact q125 _|exact q127 _)|(apply abA;rfl;rfl)|(apply abC;rfl;rfl)|(intro _;omega)|intro _
         all_goals try omega
         all_goals exact⟨.inr rfl,rfl,_,rfl,rfl,rfl⟩
     . rw[decide_eq_false h3,fo];repeat' first|apply abx|apply aa|apply abr|apply aaL|apply acG|(apply afg;rfl)|(apply ahU;rfl)|(apply aiw;rfl;rfl)|(apply afe;rfl;rfl)|(apply aeB;rfl;rfl)|(apply aeC;rfl;rfl)|(apply aeX;rfl;rfl;omega)|(apply aiE;rfl;rfl;omega)|(apply adX;rfl;rfl;first|exact q104 _|exact q126 _|exact q125 _|exact q127 _)|(apply abA;rfl;rfl)|(apply abC;rfl;rfl)|(intro _;omega)|intro _
       all_goals try omega
       all_goals exact⟨.inr rfl,rfl,_,rfl,rfl,rfl⟩
   . have ef:jk k s=false:=by unfold jk;exact decide_eq_false (fun h=>h2 h.2.1)
     rw[ef];generalize eo s=x at *
     repeat' first|apply abx|apply aa|apply abr|apply aaL|apply acG|(apply afg;rfl)|(apply ahU;rfl)|(apply aiw;rfl;rfl)|(apply afe;rfl;rfl)|(apply aeB;rfl;rfl)|(apply aeC;rfl;rfl)|(apply aeX;rfl;rfl;omega)|(apply aiE;rfl;rfl;omega)|(apply adX;rfl;rfl;first|exact q104 _)|(apply abA;rfl;rfl)|(apply abC;rfl;rfl)|(intro _;omega)|intro _
     all_goals try omega
     all_goals exact⟨.inr rfl,rfl,_,rfl,rfl,rfl⟩
 . have ef:jk k s=false:=by unfold jk;exact decide_eq_false (fun h=>h1 h.1)
   rw[ef];repeat' first|apply abx|apply aa|apply abr|apply aaL|apply acG|(apply ahU;rfl)|(apply aiw;rfl;rfl)|(apply aeC;rfl;rfl)|(apply aeX;rfl;rfl;omega)|(apply aiE;rfl;rfl;omega)|(apply abA;rfl;rfl)|(apply abC;rfl;rfl)|(intro _;omega)|intro _
   all_goals try omega
   all_goals exact⟨.inr rfl,rfl,_,rfl,rfl,rfl⟩
end Go.Ab.Ch5.N

/-
  Own work: the resolved code of some functions of chapter 5: images.
-/
namespace Go.Ab.Ch5
variable {M:ay} {cap:Option Nat}
abbrev az:=List UInt8
end Go.Ab.Ch5

/-
  Own work: stadionlaw05.FinishRounds answers true.
-/
namespace Go.Ab.Ch5.N
open Go.Ab.bB Go.Ab.Ch5 K
variable {M:ay} {cap:Option Nat}
def nY (x:Int):Bool:=decide (1<=x/\x<=800000000)
def eu (x:Int):Int:=min 999999999 (x+7)
theorem GP {p:Int->Bool}{f:Int->Int}(hf:∀x,p x=true->p (f x)=true):∀(l:List Int) (i:Nat),fM p l i = -1\/(0<=fM p (l.map f) i/\fM p (l.map f) i<=fM p l i)
 | [],_=>.inl rfl
 | a::l,i=>by
  rw[fY,fM,fM];by_cases h:p a=true
  . rw[if_pos h,if_pos (hf a h)];exact .inr ⟨ac,Int.le_refl _⟩
  . rw[if_neg h];by_cases h2:p (f a)=true
    . rw[if_pos h2];rcases GP hf l (i+1) with h3|⟨h3,h4⟩
      . exact .inl h3
      . refine .inr ⟨ac,?_⟩;have:∀(l:List Int) (i:Nat),fM p l i = -1\/(i:Int)<=fM p l i:=by
         intro l;induction l with
         | nil=>intro i;exact .inl rfl
         | cons b l ih=>
          intro i;rw[fM];split
          . exact .inr (Int.le_refl _)
          . rcases ih (i+1) with h|h
            . exact .inl h
            . exact .inr ac
        rcases this l (i+1) with h5|h5
        . omega
        . omega
    . rw[if_neg h2];exact GP hf l (i+1)
def vd (l:List Int)(i:Nat):Bool:=(l.take i).all nY
theorem ahc {l:List Int}{i:Nat}(h:i<l.length):vd l (i+1)=(vd l i && nY l[i]!):=by
 rw[vd,←cP h,List.all_append,getElem!_pos l i h,vd];simp
theorem Qe {l:List Int}(hl:l.length=3)(a0 a1 a2 a3 a5 a6 a7 a8 a9 aA aB aD aE aF aG aH aI aJ aK aL aM aN aO aP aR aS:AV){Q:Ex->au->Prop}(K:ab)(lo:List (Nat×AV))(wr:List Nat)(hK:K.at 1=some (.cells (ints l) 88))
 (hQ:∀aD lo wr,Q (.exit 0) ⟨⟨[a0,a1,a2,a3,.ptr 1 0,a5,a6,a7,a8,a9,aA,aB,.bool (vd l 3),aD,aE,aF,aG,aH,aI,aJ,aK,aL,aM,aN,aO,aP,.iV 3,aR,aS],lo,K,[]⟩,wr⟩) :
 W M (.loop uS) ⟨⟨[a0,a1,a2,a3,.ptr 1 0,a5,a6,a7,a8,a9,aA,aB,.bool true,aD,aE,aF,aG,aH,aI,aJ,aK,aL,aM,aN,aO,aP,.iV 0,aR,aS],lo,K,[]⟩,wr⟩ Q:=by
 refine W.jf 3 (fun i s=>∃aD lo wr,s=⟨⟨[a0,a1,a2,a3,.ptr 1 0,a5,a6,a7,a8,a9,aA,aB,.bool (vd l i),aD,aE,aF,aG,aH,aI,aJ,aK,aL,aM,aN,aO,aP,.iV i,aR,aS],lo,K,[]⟩,wr⟩)
  (fun i s hi ⟨aD,lo,wr,hs⟩=>?_) (fun s ⟨aD,lo,wr,hs⟩=>?_) (dg _) ⟨aD,lo,wr,rfl⟩
 . subst hs;have ei:((i:Int)).toNat=i:=by omega
   have e:=ahc (l:=l) (i:=i) ac;have p1:partOf ((ints l).drop (0+((i:Int)).toNat*1)) 0 1 false=some (.iV l[((i:Int)).toNat]!):=by
    rw[Nat.zero_add];exact(BD (f:=fun x:Int=>[AV.iV x]) (esz:=1) (fun _=>rfl) ac (cD _) Nat.zero_lt_one).trans rfl
   have next:∀b aD lo wr,b=vd l (i+1)->∃aD' lo' wr',(⟨⟨[a0,a1,a2,a3,.ptr 1 0,a5,a6,a7,a8,a9,aA,aB,.bool b,aD,aE,aF,aG,aH,aI,aJ,aK,aL,aM,aN,aO,aP,.iV ((i+1:Nat):Int),aR,aS],lo,K,[]⟩,wr⟩:au)=⟨⟨[a0,a1,a2,a3,.ptr 1 0,a5,a6,a7,a8,a9,aA,aB,.bool (vd l (i+1)),aD',aE,aF,aG,aH,aI,aJ,aK,aL,aM,aN,aO,aP,.iV ((i+1:Nat):Int),aR,aS],lo',K,[]⟩,wr'⟩:=fun b aD lo wr h=>⟨aD,lo,wr,by rw[h]⟩
   rw[show l[i]! = l[((i:Int)).toNat]! by rw[ei]]at e;unfold uS;cases hv:vd l i with
   | false=>
    rw[hv,fo]at e;repeat' first|apply abx|apply aa|apply abr|apply aaL|apply aef|apply adA|apply bC|(apply acO;rfl)|(apply ahU;rfl)|(apply aep;rfl;rfl)|(apply aeC;rfl;rfl)|(apply aeX;rfl;rfl;omega)|(apply abA;rfl;rfl)|(apply abC;rfl;rfl)|(intro _;omega)|intro _
    all_goals try omega
    all_goals exact dQ (next _ _ _ _ e.symm)
   | true=>
    rw[hv,f6]at e;generalize l[((i:Int)).toNat]! = x at *
    by_cases h1:1<=x
    . by_cases h2:x<=800000000
      . rw[nY,decide_eq_true ⟨h1,h2⟩]at e;repeat' first|(apply aiZ;rfl;rfl;omega)|(apply aiN;rfl;exact hK;exact p1)|apply abx|apply aa|apply abr|apply aaL|apply aef|apply adA|apply bC|(apply acO;rfl)|(apply afg;rfl)|(apply aep;rfl;rfl)|(apply aiw;rfl;rfl)|(apply ahS;rfl;rfl)|(apply aeB;rfl;rfl)|(apply aeX;rfl;rfl;omega)|(apply abA;rfl;rfl)|(apply abC;rfl;rfl)|(intro _;omega)|intro _
        all_goals try omega
        all_goals exact dQ (next _ _ _ _ e.symm)
      . rw[nY,decide_eq_false (fun h=>h2 h.2)]at e;repeat' first|(apply aiZ;rfl;rfl;omega)|(apply aiN;rfl;exact hK;exact p1)|apply abx|apply aa|apply abr|apply aaL|apply aef|apply adA|apply bC|(apply acO;rfl)|(apply afg;rfl)|(apply aep;rfl;rfl)|(apply aiw;rfl;rfl)|(apply ahS;rfl;rfl)|(apply aeB;rfl;rfl)|(apply aeX;rfl;rfl;omega)|(apply abA;rfl;rfl)|(apply abC;rfl;rfl)|(intro _;omega)|intro _
        all_goals try omega
        all_goals exact dQ (next _ _ _ _ e.symm)
    . rw[nY,decide_eq_false (fun h=>h1 h.1)]at e;repeat' first|(apply aiZ;rfl;rfl;omega)|(apply aiN;rfl;exact hK;exact p1)|apply abx|apply aa|apply abr|apply aaL|apply aef|apply adA|apply bC|(apply acO;rfl)|(apply afg;rfl)|(apply ahU;rfl)|(apply aep;rfl;rfl)|(apply ahS;rfl;rfl)|(apply aeB;rfl;rfl)|(apply aeC;rfl;rfl)|(apply aeX;rfl;rfl;omega)|(apply abA;rfl;rfl)|(apply abC;rfl;rfl)|(intro _;omega)|intro _
      all_goals try omega
      all_goals exact dQ (next _ _ _ _ e.symm)
 . subst hs;unfold uS;repeat' first|apply abx|apply aa|apply abr|apply aaL|apply aeM|apply bH|apply ck|(apply acM;rfl)|(apply aep;rfl;rfl)|(intro _;omega)|intro _
   all_goals try omega
   all_goals exact hQ _ _ _
theorem ahd (x:Int):jH false (.iV 999999999) [.iV (x+7)]=some (.iV (eu x)):=by
 have e:(if x+7<999999999 then x+7 else 999999999)=eu x:=by unfold eu;omega
 simp[jH,e]
abbrev fI (x:Int):List AV:=[.iV x]
theorem ahe {l:List Int}(hl:l.length<=30)(hx:∀x∈l,0<=x/\x<=999999999)(a0 a1 a3 a4 a5 a6 a7 a8 a9 aA aB aC aD aE aF aG aH aI aJ aK aL aN aO aP aQ:AV){Q:Ex->au->Prop}(K:ab)(lo:List (Nat×AV))(wr:List Nat)
 (hQ:∀o aN K lo wr,cU fI 1 3 K o (l.map eu) []->Q (.exit 2) ⟨⟨[a0,a1,.vs (ints l) l.length cap,a3,a4,a5,a6,a7,a8,a9,aA,aB,aC,aD,aE,aF,aG,aH,aI,aJ,aK,aL,o,aN,aO,aP,aQ,.iV l.length,.iV l.length],lo,K,[]⟩,wr⟩) :
 W M (.loop uT) ⟨⟨[a0,a1,.vs (ints l) l.length cap,a3,a4,a5,a6,a7,a8,a9,aA,aB,aC,aD,aE,aF,aG,aH,aI,aJ,aK,aL,.ah,aN,aO,aP,aQ,.iV l.length,.iV 0],lo,K,[]⟩,wr⟩ Q:=by
 refine W.jf l.length (fun i s=>∃o aN K lo wr,s=⟨⟨[a0,a1,.vs (ints l) l.length cap,a3,a4,a5,a6,a7,a8,a9,aA,aB,aC,aD,aE,aF,aG,aH,aI,aJ,aK,aL,o,aN,aO,aP,aQ,.iV l.length,.iV i],lo,K,[]⟩,wr⟩/\cU fI 1 3 K o ((l.take i).map eu) [])
  (fun i s hi ⟨o,aN,K,lo,wr,hs,ho⟩=>?_) (fun s ⟨o,aN,K,lo,wr,hs,ho⟩=>?_) (dg _) ⟨.ah,aN,K,lo,wr,rfl,.nu⟩
 . subst hs;have ei:((i:Int)).toNat=i:=by omega
   have hm:l[((i:Int)).toNat]! ∈ l:=by rw[ei,getElem!_pos l i hi];exact c6 hi
   have hb:=hx _ hm;have eT:(l.take (i+1)).map eu=(l.take i).map eu++[eu l[((i:Int)).toNat]!]:=by
    rw[ei,getElem!_pos l i hi,←cP hi,eA];rfl
   have hroom:(((l.take i).map eu).length+1)*8<=fa:=by rw[b9,d7];unfold fa;omega
   have hmin:=ahd l[((i:Int)).toNat]!;unfold uT;repeat' first|(apply abA (v:=.iV (eu l[((i:Int)).toNat]!));exact hmin;rfl)|apply abx|apply aa|apply abr|apply aaL|apply aef|apply adA|(apply acO;rfl)|(apply aep;rfl;rfl)|(apply aeX;rfl;rfl;omega)|(apply ahT;rfl;rfl;omega)|(apply aib;rfl;exact fun _=>rfl;(first|omega|(simp only[bA];omega)|(simp;omega));decide;rfl;case ia=>infer_instance)|(apply aev;rfl;rfl;rfl)|(apply abA;rfl;rfl)|(apply abC;rfl;rfl)|(intro _;omega)|intro _
   all_goals try omega
   generalize eu l[((i:Int)).toNat]! = x at *
   refine cU.app (f:=fI) (m:=[x]) (S:=[]) (fun _=>rfl) (fun _=>rfl) ao (ho.grow [_]) ax rfl rfl (Sl.ke (f:=fI) (esz:=1) (l:=[x]) (e:=3) (fun _=>rfl) cj rfl) hroom (fun H w' o' ho' hk hlen'=>?_);repeat' first|apply aa|apply abr|apply aaL|apply bC|(apply aeX;rfl;rfl;omega)|(apply abC;rfl;rfl)
   exact dQ ⟨_,_,_,_,_,rfl,by rw[eT];exact ho'⟩
 . subst hs;rw[d8]at ho;unfold uT;repeat' first|apply abx|apply aa|apply abr|apply aaL|apply aeM|apply bH|apply ck|(apply acM;rfl)|(apply aep;rfl;rfl)|(intro _;omega)|intro _
   all_goals try omega
   all_goals exact hQ _ _ _ _ _ ho
theorem ahf (x y z:Int):jH false (.iV x) [.iV y,.iV z]=some (.iV (min (min x y) z)):=by
 have e1:(if y<x then y else x)=min x y:=by omega
 have e2:(if z<min x y then z else min x y)=min (min x y) z:=by omega
 simp[jH,e1,e2]
theorem ahg (x y z:Int):jH true (.iV x) [.iV y,.iV z]=some (.iV (max (max x y) z)):=by
 have e1:(if y > x then y else x)=max x y:=by omega
 have e2:(if z > max x y then z else max x y)=max (max x y) z:=by omega
 simp[jH,e1,e2]
def Qf (M:ay)(a b:az):Prop:=∃e:Int,(∀h,M.ext 33 [.agg [.str a,.str b]] h=some ⟨.iV e,h,[]⟩)/\(e=0->∃(A B C:Int) (sA sB:az) (c1 c2:Int),(1<=A/\A<=B/\B<=C/\C-A<1000/\B-A<100/\C<1000000000/\0<=c1/\c2<0) /\
 (∀h,M.ext 32 [.agg [.str a,.str b],.str iz] h=some ⟨.aw [.agg [.str cF,.iV A,.str []],.iV 0],h,[]⟩) /\
 (∀h,M.ext 32 [.agg [.str a,.str b],.str jW] h=some ⟨.aw [.agg [.str cF,.iV B,.str []],.iV 0],h,[]⟩) /\
 (∀h,M.ext 32 [.agg [.str a,.str b],.str iK] h=some ⟨.aw [.agg [.str cF,.iV C,.str []],.iV 0],h,[]⟩) /\
 (∀h,M.ext 49 [.iV A] h=some ⟨.str sA,h,[]⟩)/\(∀h,M.ext 49 [.iV (A-1)] h=some ⟨.str sB,h,[]⟩) /\
 (∀h,M.ext 48 [.str sA,.str b] h=some ⟨.iV c1,h,[]⟩)/\∀h,M.ext 48 [.str sB,.str b] h=some ⟨.iV c2,h,[]⟩)
structure C8 (M:ay):Prop where
 ft:M.FT=FT
 Qg:∀h,M.ext 15 [] h=some ⟨.bool true,h,[]⟩
 GQ:∀s h,M.ext 47 [.str s,.iV 8] h=some ⟨.bool (jk 8 s),h,[]⟩
 Qh:∀(l:List Int) h,l.length<1000000->M.ext 40 [.vs (ints l) l.length none,.iV 10,.iV 20] h=some ⟨.iV (fV l 10 20),h,[]⟩
 uL:∀v h (l:List Int),dZ h v=some l->l.length<1000000->M.ext 39 [v,.iV 10,.iV 20] h=some ⟨.aw [.iV (if fV l 10 20≠0 then 0 else if iX l 20<0 then 0 else iX l 20*10),.iV (if fV l 10 20≠0 then fV l 10 20 else if iX l 20<0 then 7 else 0)],h,[]⟩
 wt:∀x y z:Int,(1<=x/\x<=800000000)->(1<=y/\y<=800000000)->(1<=z/\z<=800000000)->∃m,(m%1000=0/\0<=m/\min (min x y) z<=m/\m<=max (max x y) z+999)/\(∀v h,dZ h v=some [x,y,z]->M.ext 50 [v] h=some ⟨.aw [.agg [.str cF,.iV m,.str []],.iV 0],h,[]⟩) /\
  ∀v h,dZ h v=some [z,x,y]->M.ext 50 [v] h=some ⟨.aw [.agg [.str cF,.iV m,.str []],.iV 0],h,[]⟩
 sp:∀a b,jk 8 a=true->jk 8 b=true->Qf M a b
theorem Qi {l:List Int}(hl:l.length<=30):fV l 10 20=0↔∀x∈l,0<=x/\x<=999999999:=by
 have e1:dF 10 1 10000=false:=by decide
 have e2:dF 20 0 999999999=false:=by decide
 unfold fV;rw[if_neg ac,e1,e2];simp only[cT,if_false];cases h:l.any fun x=>dF x 0 999999999
 . rw[dz]at h;simp only[cT,if_false,true_iff];intro x hx;have:=h x hx;unfold dF at this;simp at this;omega
 . rw[List.any_eq_true]at h;obtain⟨x,hx,ho⟩:=h;simp only[if_true];constructor
   . intro h;exact absurd h ao
   . intro h;have:=h x hx;unfold dF at ho;simp at ho;omega
attribute [local irreducible] uS uT
theorem Qj {l:List Int}(hl:l.length<=30)(hx0:∀x∈l,0<=x/\x<=999999999){r1 e6 r2 e7:Int}(hre:(e6=7/\(e7=0\/e7=7))\/(e6=0/\e7=0/\r2<=r1))(k1:∀h,M.ext 39 [.vs (ints l) l.length none,.iV 10,.iV 20] h=some ⟨.aw [.iV r1,.iV e6],h,[]⟩)
 (k2:∀v h,dZ h v=some (l.map eu)->M.ext 39 [v,.iV 10,.iV 20] h=some ⟨.aw [.iV r2,.iV e7],h,[]⟩) (a0 a1 a3 a4 a6 a7 a8 a9 aA aB aC aD aE aF aG aH aI aJ aK aL aM aN aO aP aQ aR aS:AV) {Q:Ex->au->Prop} (K:ab) (lo:List (Nat×AV)) (wr:List Nat)
 (hQ:∀pe lo K wr,pe[5]? = some (AV.bool true)->Q .ret ⟨⟨pe,lo,K,[]⟩,wr⟩) :
 W M Ah ⟨⟨[a0,a1,.vs (ints l) l.length none,a3,a4,.bool false,a6,a7,a8,a9,aA,aB,aC,aD,aE,aF,aG,aH,aI,aJ,aK,aL,aM,aN,aO,aP,aQ,aR,aS],lo,K,[]⟩,wr⟩ Q:=by
 have fin:∀K o,cU fI 1 3 K o (l.map eu) []->dZ K o=some (l.map eu):=fun K o ho=>by
  rcases ho with ⟨h1,rfl⟩|⟨d,cp,_,rfl,hd,_⟩
  . rw[h1];rfl
  . exact ints_at hd rfl
 unfold Ah;repeat' first|apply abx|apply aa|apply abr|apply aaL|apply aef|(apply adX;rfl;rfl;first|exact k1 _)|(apply abA;rfl;rfl)|(apply abC;rfl;rfl)
 refine ahe (cap:=none) hl hx0 _ _ _ _ _ _ _ _ _ _ _ _ _ _ _ _ _ _ _ _ _ _ _ _ _ _ _ _ (fun o aN K lo wr ho=>?_);have q39c:=k2 o K (fin K o ho);repeat' first|apply abx|apply aa|apply abr|apply aaL|apply acG|apply adA|apply ba|apply bJ|(apply acO;rfl)|(apply acM;rfl)|(apply afg;rfl)|(apply ahQ;rfl)|(apply aid;rfl)|(apply aiw;rfl;rfl)|(apply afe;rfl;rfl)|(apply agx;rfl;rfl)|(apply aeB;rfl;rfl)|(apply aeC;rfl;rfl)|(apply adX;rfl;rfl;first|exact q39c)|(apply abA;rfl;rfl)|(apply abC;rfl;rfl)|(intro _;omega)|intro _
 all_goals try omega
 all_goals exact hQ _ _ _ _ rfl
theorem ahh (k w:List UInt8)(v:Int):eZ 100 (.rW [(0,1,false,.str),(1,1,false,.int),(2,1,false,.str)]) (.agg [.str k,.iV v,.str w]) (.agg [.str k,.iV v,.str w])=some true:=by
 simp only[eZ,goEq,partOf,List.getElem?_cons_zero,List.getElem?_cons_succ,cT,if_false,if_true,beq_self_eq_true]
attribute [local irreducible] Ah
theorem ahi {x y z m:Int}(o1:1<=x/\x<=800000000)(o2:1<=y/\y<=800000000)(o3:1<=z/\z<=800000000)(hm:m%1000=0/\0<=m/\min (min x y) z<=m/\m<=max (max x y) z+999)
 (qw:∀v h,dZ h v=some [x,y,z]->M.ext 50 [v] h=some ⟨.aw [.agg [.str cF,.iV m,.str []],.iV 0],h,[]⟩) (qw':∀v h,dZ h v=some [z,x,y]->M.ext 50 [v] h=some ⟨.aw [.agg [.str cF,.iV m,.str []],.iV 0],h,[]⟩)
 (a0 a1 a2 a3 a5 a6 a7 a8 a9 aA aB aC aD aE aF aG aH aI aJ aK aL aM aN aO aP aQ aR aS:AV) {Q:Ex->au->Prop} (K:ab) (lo:List (Nat×AV)) (wr:List Nat) (hK:K.at 1=some (.cells [.iV x,.iV y,.iV z] 88))
 (hQ:∀aE aF aG aH aI aJ lo K wr,Q .normal ⟨⟨[a0,a1,a2,a3,.ptr 1 0,a5,a6,a7,a8,a9,aA,aB,aC,aD,aE,aF,aG,aH,aI,aJ,aK,aL,aM,aN,aO,aP,aQ,aR,aS],lo,K,[]⟩,wr⟩) :
 W M Ai ⟨⟨[a0,a1,a2,a3,.ptr 1 0,a5,a6,a7,a8,a9,aA,aB,aC,aD,aE,aF,aG,aH,aI,aJ,aK,aL,aM,aN,aO,aP,aQ,aR,aS],lo,K,[]⟩,wr⟩ Q:=by
 have ml:=ahf x y z;have mh:=ahg x y z;have mb:max (max x y) z<=800000000:=by omega
 obtain⟨m1,m2,m3,m4⟩:=hm;generalize min (min x y) z=lw at *
 generalize max (max x y) z=hg at *
 unfold Ai;repeat' first|(apply aiZ;rfl;rfl;omega)|(apply aiN;rfl;(first|exact hK|exact cB hK|exact cB (cB hK)|exact cB (cB (cB hK))|exact cB (cB (cB (cB hK))));rfl)|(apply adX;rfl;rfl;(first|exact qw _ _ (ints_at cj rfl)|exact qw' _ _ (ints_at cj rfl)))|(apply abA (v:=.iV lw);exact ml;rfl)|(apply abA (v:=.iV hg);exact mh;rfl)|(apply ajG;rfl;rfl;exact ahh cF [] m)|apply abx|apply aa|apply abr|apply aaL|apply adA|(apply ahZ;rfl)|(apply acM;rfl)|(apply ahQ;rfl)|(apply aep;rfl;rfl)|(apply aeq;rfl;rfl)|(apply agx;rfl;rfl)|(apply aeC;rfl;rfl)|(apply aeX;rfl;rfl;omega)|(apply aiy;rfl;rfl;omega;intro _ _)|(apply aik;rfl;rfl;exact⟨rfl,by first|exact cD _|decide|(simp[overwrite]),rfl⟩;rfl)|(apply aie;rfl;(first|(focus((repeat' first|exact cj|assumption|apply cB);done))|exact cQ ax);rfl)|(apply aih;rfl;rfl;all_goals first|(intro h;exact absurd h ao)|(intro h;exact absurd rfl h)|(intro h;contradiction)|intro _)|(apply aev;rfl;rfl;rfl)|(apply aes;rfl;rfl;rfl)|(apply abA;rfl;rfl)|(apply abC;rfl;rfl)|(intro _;omega)|intro _
 all_goals try omega
 all_goals exact hQ _ _ _ _ _ _ _ _ _
attribute [local irreducible] Ai
theorem w8 (C:C8 M)(a b:az)(x y z:Int)(l:List Int):bm M 8 [.agg [.str a,.str b],.agg [.iV x,.iV y,.iV z],.vs (ints l) l.length none] [] ⟨.bool true,[],[]⟩:=by
 have q15:=C.Qg;have qa:=C.GQ a;have qb:=C.GQ b;refine bX (by rw[C.ft];exact ft8) ax ?_;unfold b8;simp only[enter];cases hfa:jk 8 a
 . rw[hfa]at qa;repeat' first|apply abx|apply aa|apply abr|apply aaL|apply acG|apply ba|(apply acO;rfl)|(apply ahQ;rfl)|(apply aid;rfl)|(apply aeB;rfl;rfl)|(apply aeC;rfl;rfl)|(apply adX;rfl;rfl;first|exact q15 _|exact qa _)|(apply aev;rfl;rfl;rfl)|(apply aes;rfl;rfl;rfl)|(apply abA;rfl;rfl)|(apply abC;rfl;rfl)
   all_goals try omega
   all_goals exact⟨.inr rfl,rfl,_,rfl,rfl,rfl⟩
 . rw[hfa]at qa;cases hfb:jk 8 b
   . rw[hfb]at qb;repeat' first|apply abx|apply aa|apply abr|apply aaL|apply acG|apply ba|(apply acO;rfl)|(apply ahQ;rfl)|(apply aid;rfl)|(apply aeB;rfl;rfl)|(apply aeC;rfl;rfl)|(apply adX;rfl;rfl;first|exact q15 _|exact qa _|exact qb _)|(apply aev;rfl;rfl;rfl)|(apply aes;rfl;rfl;rfl)|(apply abA;rfl;rfl)|(apply abC;rfl;rfl)
     all_goals try omega
     all_goals exact⟨.inr rfl,rfl,_,rfl,rfl,rfl⟩
   . rw[hfb]at qb;obtain⟨e,q33,hsp⟩:=C.sp a b hfa hfb;by_cases he:e=0
     . subst he;by_cases hl:l.length<=30
       . have q40:=fun h=>C.Qh l h ac
         by_cases hs:fV l 10 20=0
         . rw[hs]at q40;obtain⟨A,B,D,sA,sB,c1,c2,⟨b1,b2,b3,b4,b5,b6,b7,b8⟩,qx,qh,qt,qA,qB,q1,q2⟩:=hsp rfl;have hx0:=(Qi hl).1 hs;have hs2:fV (l.map eu) 10 20=0:=(Qi (by rw[b9];exact hl)).2 fun y hy=>by
            obtain⟨u,hu,rfl⟩:=d6.1 hy;have:=hx0 u hu;unfold eu;omega
           have q39:=fun h=>C.uL (.vs (ints l) l.length none) h l IE ac
           have q39b:=fun v h hi=>C.uL v h (l.map eu) hi (by rw[b9];omega)
           simp only[hs,ne_eq,not_true_eq_false,if_false]at q39;simp only[hs2,ne_eq,not_true_eq_false,if_false]at q39b;have hrel:=GP (p:=fun x=>decide (20<x)) (f:=eu) (fun u hu=>by have:=of_decide_eq_true hu;exact decide_eq_true (by unfold eu;omega)) l 0;change iX l 20 = -1\/(0<=iX (l.map eu) 20/\iX (l.map eu) 20<=iX l 20) at hrel
           obtain⟨r1,e6,r2,e7,hre,k1,k2⟩:∃r1 e6 r2 e7:Int,((e6=7/\(e7=0\/e7=7))\/(e6=0/\e7=0/\r2<=r1))/\(∀h,M.ext 39 [.vs (ints l) l.length none,.iV 10,.iV 20] h=some ⟨.aw [.iV r1,.iV e6],h,[]⟩) /\
            ∀v h,dZ h v=some (l.map eu)->M.ext 39 [v,.iV 10,.iV 20] h=some ⟨.aw [.iV r2,.iV e7],h,[]⟩:=by
            refine⟨_,_,_,_,?_,q39,q39b⟩;by_cases h1:iX l 20<0
            . rw[if_pos h1];refine .inl ⟨rfl,?_⟩;by_cases h2:iX (l.map eu) 20<0
              . rw[if_pos h2];exact .inr rfl
              . rw[if_neg h2];exact .inl rfl
            . have h2:¬iX (l.map eu) 20<0:=by omega
              rw[if_neg h1,if_neg h1,if_neg h2,if_neg h2];exact .inr ⟨rfl,rfl,ac⟩
           clear q39 q39b hrel;cases hv:vd [x,y,z] 3
           . repeat' first|(apply ahR;rfl;rfl;(first|(simp only[nca];rfl)|rfl);first|exact qA _|exact qB _|exact q1 _|exact q2 _)|(refine Qe (l:=[x,y,z]) (hl:=rfl) (hK:=rfl) (hQ:=fun aD lo wr=>?_) ..;rw[hv])|(refine Qj hl hx0 hre k1 k2 _ _ _ _ _ _ _ _ _ _ _ _ _ _ _ _ _ _ _ _ _ _ _ _ _ _ _ _ _ _ (fun pe lo K wr h5=>?_))|apply abx|apply aa|apply abr|apply aaL|apply aef|apply adA|apply bJ|apply afU|apply agy|(apply ail;rfl)|(apply ahl;rfl)|(apply ahb;rfl;rfl;(first|(simp only[nca];rfl)|rfl))|(apply acM;rfl)|(apply ahQ;rfl)|(apply aep;rfl;rfl)|(apply aeq;rfl;rfl)|(apply ahS;rfl;rfl)|(apply agx;rfl;rfl)|(apply aeC;rfl;rfl)|(apply aeX;rfl;rfl;omega)|(apply afS;rfl;rfl;omega)|(apply adX;rfl;rfl;first|exact q15 _|exact qa _|exact qb _|exact q33 _|exact q40 _|exact qx _|exact qh _|exact qt _)|(apply aev;rfl;rfl;rfl)|(apply aes;rfl;rfl;rfl)|(apply ahX;rfl;rfl;rfl)|(apply abA;rfl;rfl)|(apply abC;rfl;rfl)|(intro _;omega)|intro _
             all_goals try omega
             all_goals exact⟨.inr rfl,rfl,[.bool true],by simp[dK,St.ae,h5],rfl,rfl⟩
           . have hv3:nY x=true/\nY y=true/\nY z=true:=by simpa[vd] using hv
             have o1:=of_decide_eq_true hv3.1;have o2:=of_decide_eq_true hv3.2.1;have o3:=of_decide_eq_true hv3.2.2;obtain⟨m,hm,qw,qw'⟩:=C.wt x y z o1 o2 o3;repeat' first|(apply ahR;rfl;rfl;(first|(simp only[nca];rfl)|rfl);first|exact qA _|exact qB _|exact q1 _|exact q2 _)|(refine Qe (l:=[x,y,z]) (hl:=rfl) (hK:=rfl) (hQ:=fun aD lo wr=>?_) ..;rw[hv])|(refine ahi o1 o2 o3 hm qw qw' _ _ _ _ _ _ _ _ _ _ _ _ _ _ _ _ _ _ _ _ _ _ _ _ _ _ _ _ _ _ _ rfl (fun aE aF aG aH aI aJ lo K wr=>?_))|(refine Qj hl hx0 hre k1 k2 _ _ _ _ _ _ _ _ _ _ _ _ _ _ _ _ _ _ _ _ _ _ _ _ _ _ _ _ _ _ (fun pe lo K wr h5=>?_))|apply abx|apply aa|apply abr|apply aaL|apply aef|apply adA|apply bJ|apply afU|apply agy|(apply ail;rfl)|(apply ahl;rfl)|(apply ahb;rfl;rfl;(first|(simp only[nca];rfl)|rfl))|(apply acO;rfl)|(apply acM;rfl)|(apply ahQ;rfl)|(apply aep;rfl;rfl)|(apply aeq;rfl;rfl)|(apply ahS;rfl;rfl)|(apply agx;rfl;rfl)|(apply aeC;rfl;rfl)|(apply aeX;rfl;rfl;omega)|(apply afS;rfl;rfl;omega)|(apply adX;rfl;rfl;first|exact q15 _|exact qa _|exact qb _|exact q33 _|exact q40 _|exact qx _|exact qh _|exact qt _)|(apply aev;rfl;rfl;rfl)|(apply aes;rfl;rfl;rfl)|(apply ahX;rfl;rfl;rfl)|(apply abA;rfl;rfl)|(apply abC;rfl;rfl)|(intro _;omega)|intro _
             all_goals try omega
             all_goals exact⟨.inr rfl,rfl,[.bool true],by simp[dK,St.ae,h5],rfl,rfl⟩
         . repeat' first|apply abx|apply aa|apply abr|apply aaL|apply acG|apply ba|(apply acO;rfl)|(apply ahQ;rfl)|(apply aeq;rfl;rfl)|(apply agx;rfl;rfl)|(apply aeC;rfl;rfl)|(apply adX;rfl;rfl;first|exact q15 _|exact qa _|exact qb _|exact q33 _|exact q40 _)|(apply aev;rfl;rfl;rfl)|(apply aes;rfl;rfl;rfl)|(apply abA;rfl;rfl)|(apply abC;rfl;rfl)|(intro _;omega)|intro _
           all_goals try omega
           all_goals exact⟨.inr rfl,rfl,_,rfl,rfl,rfl⟩
       . repeat' first|apply abx|apply aa|apply abr|apply aaL|apply acG|apply ba|(apply acO;rfl)|(apply ahQ;rfl)|(apply aid;rfl)|(apply aeq;rfl;rfl)|(apply agx;rfl;rfl)|(apply aeB;rfl;rfl)|(apply aeC;rfl;rfl)|(apply adX;rfl;rfl;first|exact q15 _|exact qa _|exact qb _|exact q33 _)|(apply aev;rfl;rfl;rfl)|(apply aes;rfl;rfl;rfl)|(apply abA;rfl;rfl)|(apply abC;rfl;rfl)|(intro _;omega)|intro _
         all_goals try omega
         all_goals exact⟨.inr rfl,rfl,_,rfl,rfl,rfl⟩
     . repeat' first|apply abx|apply aa|apply abr|apply aaL|apply acG|apply ba|(apply acO;rfl)|(apply ahQ;rfl)|(apply aid;rfl)|(apply agx;rfl;rfl)|(apply aeB;rfl;rfl)|(apply aeC;rfl;rfl)|(apply adX;rfl;rfl;first|exact q15 _|exact qa _|exact qb _|exact q33 _)|(apply aev;rfl;rfl;rfl)|(apply aes;rfl;rfl;rfl)|(apply abA;rfl;rfl)|(apply abC;rfl;rfl)|(intro _;omega)|intro _
       all_goals try omega
       all_goals exact⟨.inr rfl,rfl,_,rfl,rfl,rfl⟩
open Go.Proofs
noncomputable def Qk:List (Nat×Spec):=[(104,ux),(126,OH),(125,OG),(127,OI)]
theorem ahj:PZ (bD Tryz.prog FT Qk) where
 ft:=bN
 Qa:=fun s h hl=>FE s h hl
 Qb:=fun q h hl=>by
  rw[rO];exact cS (adQ (M:=bD Tryz.prog FT [(152,lZ)]) bN fun h=>rL (aT q) h hl) rfl rfl rfl h
 Qc:=fun q h=>by
  have:=cS (adP (M:=bD Tryz.prog FT [(105,lh)]) bN (q:=(q.num:Rat)) (uF _)) rfl rfl rfl h;rw[ci]at this;exact this
 Qd:=fun q h hl=>cS (adS (M:=bD Tryz.prog FT [(152,lZ)]) bN hl fun h=>rL (aT q) h hl) rfl rfl rfl h
noncomputable def GR:Spec:=sK Qk 47
theorem ahk:bl Tryz.prog gl 47 GR:=bQ (aX Nq (aX aeK (aX aeJ (aX aeL bP))))
theorem k47 (k:Nat)(hk:k<1000)(s:az)(h:ab):GR [.str s,.iV k] h=some ⟨.bool (jk k s),h,[]⟩:=cS (w47 ahj s k hk) rfl rfl rfl h
theorem Aj {v s:Int}{c:az}(hv:1<=v/\v<=863999999)(hs:stepOf cF c=s)(h0:s≠0)(hm:eW cF s v<=863999999):pU cF v [] c = .aw [.agg [.str cF,.iV (eW cF s v),.str []],.iV 0]:=by
 have hE:fD cF v [] c=0:=by
  unfold fD;rw[agj hv,if_neg (fun h=>h rfl),if_neg ao,hs,if_neg h0,if_neg];have:fZ cF=863999999:=rfl;omega
 have hN:gN cF v [] c=eW cF s v:=by unfold gN;rw[hE,if_neg (fun h=>h rfl),if_neg ao,hs]
 have hK:gK cF v [] c=cF:=by unfold gK;rw[hE,if_neg (fun h=>h rfl)]
 have hR:gM cF v [] c=[]:=by unfold gM;rw[hE,if_neg (fun h=>h rfl)]
 show AV.aw [mf (gK cF v [] c) (gN cF v [] c) (gM cF v [] c),.iV (fD cF v [] c)]=_;rw[hE,hN,hK,hR]
theorem uX (s v:Int):eW cF s v=v+(s-1)-(v+(s-1))%s:=by unfold eW;rw[if_pos rfl]
theorem GS {p q:Rat}(hp:Dq 60 p)(hq:Dq 60 q)(hs:uR p q=0)(c:az)(hcl:fD cF 1 [] c=0)(h:ab):GL [.agg [.str (aT p),.str (aT q)],.str c] h=some ⟨pU cF (dJ q) [] c,h,[]⟩:=by
 have C:=PB qW (fun _ _=>rfl) (fun _ _=>rfl);have q108:=agl c;obtain⟨v,va,vb,hv,q107⟩:=agi hp hq;rw[hcl]at q108;rw[hs]at q107;exact cS (w32 C hv q107 q108 (ags hv (hq.mono ao) (PD hs) c)) rfl rfl rfl h
noncomputable def Ak:Spec:=sK [] 181
theorem ahm:bl Tryz.prog gl 181 Ak:=bQ bP
noncomputable def Al:Spec:=sK [(181,Ak)] 118
theorem ahn:bl Tryz.prog gl 118 Al:=bQ (aX ahm bP)
noncomputable def GU:Spec:=sK [(118,Al)] 134
theorem aho:bl Tryz.prog gl 134 GU:=bQ (aX ahn bP)
noncomputable def GV:Spec:=sK [] 131
theorem ahp:bl Tryz.prog gl 131 GV:=bQ bP
theorem ahq (x:Int)(h:ab):Ak [.iV x] h=some ⟨.bool false,h,[]⟩:=cS (agR (M:=bD Tryz.prog FT []) bN x) rfl rfl rfl h
theorem ahr (x y:Int)(h:ab):Al [.iV x,.iV y] h=some ⟨.iV (jz x y),h,[]⟩:=cS (agS (M:=bD Tryz.prog FT [(181,Ak)]) bN (fun x h=>ahq x h) x y) rfl rfl rfl h
theorem ahs (x y:Mk)(h:ab):GU [am x,am y] h=some ⟨.iV (jz x.2.1 y.2.1),h,[]⟩:=cS (agU (M:=bD Tryz.prog FT [(118,Al)]) bN (fun x y h=>ahr x y h) x y) rfl rfl rfl h
theorem aht (x:Int)(h:ab):GV [.iV x] h=some ⟨.bool (decide (x<1\/863999999<x)),h,[]⟩:=cS (agT (M:=bD Tryz.prog FT []) bN x) rfl rfl rfl h
noncomputable def Am:List (Nat×Spec):=[(90,iw),(91,jq),(131,GV),(134,GU),(132,rS)]
theorem ahu:cW Tryz.prog gl (bM Am):=aX uK (aX rQ (aX ahp (aX aho (aX GC bP))))
noncomputable def GW:Spec:=sL Am 50
theorem ahv:bl Tryz.prog gl 50 GW:=jS ahu
theorem Ql:PS (bD Tryz.prog FT Am) where
 ft:=bN
 PK:=fun _ _=>rfl
 PL:=fun _ _=>rfl
 PM:=fun _ _=>rfl
 PN:=fun _ _=>rfl
 PO:=fun _ _=>rfl
 pR:=fun _ _=>rfl
 mc:=fun _ _=>rfl
 kB:=fun _v _h _l hi hl=>PA hi hl
 kA:=fun _t _e _h=>rfl
 PT:=fun x h=>aht x h
 PU:=fun x y h=>ahs x y h
def pW (x:Int):Int:=eW cF 1000 x
theorem Qm (x:Int):pW x%1000=0/\x<=pW x/\pW x<=x+999:=by unfold pW;rw[uX];omega
theorem Qn {r:Int->Int}{l l2:List Int}{m m2:Int}(hl:l.length=3)(hp:l.Perm l2)(h1:rV r l m)(h2:rV r l2 m2):m=m2:=by
 obtain⟨A,pa,sa,ea⟩:=h1;obtain⟨B,pb,sb,eb⟩:=h2;have la:A.length=3:=by rw[pa.length_eq,b9,hl]
 have lb:B.length=3:=by rw[pb.length_eq,b9,←hp.length_eq,hl]
 have srt:∀L:List Mk,(∀i j,i<j->j<L.length->¬(L[j]!).2.1<(L[i]!).2.1)->(L.map fun x:Mk=>x.2.1).Pairwise (· <= ·):=fun L h=>by
  rw[List.pairwise_map,List.pairwise_iff_getElem];intro i j hi hj hij;have:=h i j hij hj;rw[getElem!_pos L i hi,getElem!_pos L j hj]at this;omega
 have hperm:(A.map fun x:Mk=>x.2.1).Perm (B.map fun x:Mk=>x.2.1):=(pa.trans ((hp.map (wM r)).trans pb.symm)).map _;have e:=hperm.eq_of_pairwise (fun a b _ _ h1 h2=>Int.le_antisymm h1 h2) (srt A sa) (srt B sb);have e1:=congrArg (fun L:List Int=>L[1]!) e;change (A.map fun x:Mk=>x.2.1)[1]! = (B.map fun x:Mk=>x.2.1)[1]! at e1
 rw[getElem!_pos _ 1 (by rw[b9];omega),getElem!_pos _ 1 (by rw[b9];omega),d9,d9]at e1;rw[getElem!_pos A 1 ac]at ea;rw[getElem!_pos B 1 ac]at eb;rw[ea,eb]at e1;exact e1
theorem ahw {r:Int->Int}{l:List Int}{m:Int}(hl:l.length=3)(h:rV r l m):∃x∈l,m=r x:=by
 obtain⟨A,pa,_,ea⟩:=h;have la:A.length=3:=by rw[pa.length_eq,b9,hl]
 have hm:A[1]! ∈ l.map (wM r):=pa.mem_iff.1 (by rw[getElem!_pos A 1 ac];exact c6 _);obtain⟨x,hx,e⟩:=d6.1 hm;rw[ea]at e;exact⟨x,hx,(congrArg (fun k:Mk=>k.2.1) e).symm⟩
theorem Qo {l:List Int}(hl:l.length=3)(hr:∀x∈l,1<=x/\x<=800000000):∃m,rV pW l m/\∀v h,dZ h v=some l->GW [v] h=some ⟨.aw [.agg [.str cF,.iV m,.str []],.iV 0],h,[]⟩:=by
 have q:∀x∈l,∀h,(bD Tryz.prog FT Am).ext 132 [.agg [.str cF,.iV x,.str []],.str iK] h=some ⟨.aw [am (wM pW x),.iV 0],h,[]⟩:=fun x hx h=>by
  have hb:=hr x hx;have hu:=Qm x;have e:=Aj (v:=x) (s:=1000) (c:=iK) ac ao ao (by unfold pW at hu;omega);show some (⟨pU cF x [] iK,h,[]⟩:HR)=_;rw[e];rfl
 obtain⟨m,hm,_⟩:=PV (cap:=none) Ql hl (fun x hx=>by have:=hr x hx;omega) q;refine⟨m,hm,fun v h hi=>?_⟩;obtain⟨cap,hf⟩:=dL.TO (f:=fun x:Int=>[AV.iV x]) (fun _=>IU rfl) (sV hi);obtain⟨m',hm',hrun⟩:=PV (cap:=cap) Ql hl (fun x hx=>by have:=hr x hx;omega) q;obtain rfl:=Qn hl (.refl _) hm hm';exact pj hrun rfl rfl rfl (.cons hf .nil)
theorem ahx {q:Rat}(h:Dq 8 q):ak q.num<100000000:=by
 have:=h.1;have e:(10:Int)^8=100000000:=by decide
 rw[e]at this;exact this
theorem ahy (q:Rat):q.num<=dJ q*(q.den:Nat)/\(dJ q-1)*(q.den:Nat)<q.num:=by
 have hd:=den_pos (q:=q);unfold dJ;rw[Rat.neg_num,Rat.neg_den];have h1:=Int.ediv_mul_add_emod (-q.num) (q.den:Nat);have h2:=Int.emod_nonneg (-q.num) (b:=(q.den:Nat)) ac;have h3:=Int.emod_lt_of_pos (-q.num) hd;generalize (-q.num)/(q.den:Nat)=k at *
 generalize (-q.num)%(q.den:Nat)=r at *
 rw[Int.neg_mul,show (-k-1)*((q.den:Nat):Int) = -(k*(q.den:Nat))-(q.den:Nat) by rw[Int.sub_mul,Int.neg_mul,Int.one_mul]];omega
theorem Qp (n:Int)(q:Rat):jh (n:Rat) q=bE (n*(q.den:Nat)-q.num):=by
 unfold jh;rw[ci,cC];simp
noncomputable def An:List (Nat×Spec):=[(15,Ae),(47,GR),(33,GN),(40,uN),(32,GL),(49,Ag),(48,zX),(50,GW),(39,uM)]
theorem ahz (a b:az)(ha:jk 8 a=true)(hb:jk 8 b=true):Qf (bD Tryz.prog FT An) a b:=by
 obtain⟨ea,dp,_,_⟩:=PY ha;obtain⟨eb,dq,_,_⟩:=PY hb;generalize fW a=p at *
 generalize fW b=q at *
 subst ea eb;have hp:=dp.mono (n:=60) ao;have hq:=dq.mono (n:=60) ao;refine⟨_,k33 hp hq,fun hs=>?_⟩;have hc:=PD hs;obtain⟨f1,f2⟩:=ahy q;have hn:=ahx dq;have hd:=den_pos (q:=q);have hup:dJ q<=100000000:=by
  have h0:q.num<=ak q.num:=by unfold ak;split <;> omega
  rcases Int.lt_or_le 100000000 (dJ q) with h|h
  . have:(dJ q-1)*1<=(dJ q-1)*((q.den:Nat):Int):=Int.mul_le_mul_of_nonneg_left ac ac;omega
  . exact h
 have v1:eW cF 1 (dJ q)=dJ q:=by rw[uX];omega
 have v2:dJ q<=eW cF 100 (dJ q)/\eW cF 100 (dJ q)<=dJ q+99:=by rw[uX];omega
 have v3:dJ q<=eW cF 1000 (dJ q)/\eW cF 1000 (dJ q)<=dJ q+999/\eW cF 100 (dJ q)<=eW cF 1000 (dJ q):=by rw[uX,uX];omega
 have g1:=Aj (v:=dJ q) (s:=1) (c:=iz) hc ao ao ac;have g2:=Aj (v:=dJ q) (s:=100) (c:=jW) hc ao ao ac;have g3:=Aj (v:=dJ q) (s:=1000) (c:=iK) hc ao ao ac;rw[v1]at g1;refine⟨dJ q,eW cF 100 (dJ q),eW cF 1000 (dJ q),aT (dJ q:Rat),aT ((dJ q-1:Int):Rat),jh (dJ q:Rat) q,jh ((dJ q-1:Int):Rat) q,⟨hc.1,v2.1,v3.2.2,ac,ac,ac,?_,?_⟩,fun h=>?_,fun h=>?_,fun h=>?_,fun h=>GA _ h ac,fun h=>GA _ h ac,fun h=>zZ _ q h ((Gz (n:=dJ q) ac).mono ao) (dq.mono ao),fun h=>zZ _ q h ((Gz (n:=dJ q-1) ac).mono ao) (dq.mono ao)⟩
 . rw[Qp];unfold bE;split <;> (try split) <;> omega
 . rw[Qp];unfold bE;split <;> (try split) <;> omega
 . rw[←g1];exact GS hp hq hs iz ao h
 . rw[←g2];exact GS hp hq hs jW ao h
 . rw[←g3];exact GS hp hq hs iK ao h
theorem ahA:cW Tryz.prog gl (bM An):=aX afV (aX ahk (aX agw (aX afn (aX agt (aX Pw (aX OF (aX ahv (aX afk bP))))))))
theorem c8:C8 (bD Tryz.prog FT An) where
 ft:=bN
 Qg:=fun h=>by
  show Ae [] h=_;rfl
 GQ:=fun s h=>k47 8 ao s h
 Qh:=fun l h hl=>by
  show uN [.vs (ints l) l.length none,.iV 10,.iV 20] h=_;simp only[uN,IE,if_pos hl]
 uL:=fun v h l hi hl=>by
  show uM [v,.iV 10,.iV 20] h=_;simp only[uM,hi,if_pos hl]
 wt:=fun x y z hx hy hz=>by
  obtain⟨m,hm,q1⟩:=Qo (l:=[x,y,z]) rfl (fun u hu=>by simp at hu;rcases hu with rfl|rfl|rfl <;> assumption);obtain⟨m',hm',q2⟩:=Qo (l:=[z,x,y]) rfl (fun u hu=>by simp at hu;rcases hu with rfl|rfl|rfl <;> assumption);have hp:[x,y,z].Perm [z,x,y]:=((List.perm_append_comm (l₁:=[z]) (l₂:=[x,y])).symm);obtain rfl:=Qn rfl hp hm hm';obtain⟨u,hu,e⟩:=ahw rfl hm;have f:=Qm u;have hb:min (min x y) z<=u/\u<=max (max x y) z/\1<=u:=by simp at hu;rcases hu with rfl|rfl|rfl <;> omega
  exact⟨m,by rw[e];omega,q1,q2⟩
 sp:=fun a b ha hb=>ahz a b ha hb
end Go.Ab.Ch5.N
