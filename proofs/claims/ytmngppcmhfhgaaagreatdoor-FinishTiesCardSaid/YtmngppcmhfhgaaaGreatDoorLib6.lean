/-
  Own work: the contracts of the reference's numbers as tables.
-/
import Derived.Test.YtmngppcmhfhgaaaGreatDoorLib5
import Derived.Test.YtmngppcmhfhgaaaGreatDoorCh5Base
import Derived.Test.YtmngppcmhfhgaaaGreatDoorLib1
import Derived.IntWalk
import Derived.Test.YtmngppcmhfhgaaaGreatDoorLib3
import Derived.Test.YtmngppcmhfhgaaaGreatDoorCh5Row
import Derived.Test.YtmngppcmhfhgaaaGreatDoorLib4
import Derived.Test.YtmngppcmhfhgaaaGreatDoorLib2
open Bool renaming false_eq_true→b5
open Int renaming toNat_natCast→ce
open List renaming length_set→az,getElem?_cons_zero→aZ,getElem?_cons_succ→bc,eq_nil_of_length_eq_zero→be,length_append→bj,append_nil→b8,append_assoc→c5,range_succ→c6,map_append→c7
open Nat renaming le_refl→aW,lt_or_eq_of_le→cd,le_of_lt_succ→ci,zero_le→cK,not_lt_zero→cN,mul_le_mul→cV
open Rat renaming num_intCast→b6,den_intCast→b7
set_option maxHeartbeats 8000000
set_option maxRecDepth 20000
namespace Go.Ab.Ch5.N
open Go.Proofs Go.Ab.aX
theorem cH.top {x:AV}{l:List Int}(h:cH x l):x.top=0:=(sP x h).2.1
theorem bW.top {v:AV}{z:Int}(h:bW v z):v.top=0:=by
 obtain⟨_,x,_,rfl,_,_,ht,_⟩:=h.shape;simp[AV.top,bz,ht]
theorem Mt {x y:AV}{l m:List Int}(h:ae)(hx:cH x l)(hy:cH y m)(o1:okW dB l)(o2:okW dB m)(n1:aR l)(n2:aR m)(l1:l.length<1000000)(l2:m.length<1000000):xO [x,y] h=some ⟨.iV (br (WV dB l-WV dB m)),h,[]⟩:=
 pJ (Lg bF l m o1 o2 n1 n2 ac ac) rfl rfl rfl (.cons hx.gI (.cons hy.gI .nil))
theorem Ev (x:AV)(a b:List Int)(hx:cH x a)(o1:okW dB a)(o2:okW dB b)(n1:aR a)(n2:aR b)(l1:a.length<100000)(l2:b.length<100000)(hb:b≠[]) :
 ∃qv q rv r,cH qv q/\cH rv r/\okW dB q/\aR q/\okW dB r/\aR r/\WV dB q=WV dB a/WV dB b/\WV dB r=WV dB a%WV dB b/\∀h,qu [x,.vs (ak b) b.length none] h=some ⟨.ay [qv,rv],h,[]⟩:=by
 rcases hx with rfl|⟨rfl,rfl⟩
 . obtain⟨q,r,⟨h1,h2,h3⟩,⟨h4,h5,h6⟩,v,hh,⟨v1,x,y,f,t,k,i1,i2⟩,hr⟩:=Lo (c1:=none) (c2:=none) LB a b o1 o2 n1 n2 l1 l2 hb;exact⟨x,q,y,r,i1,i2,h1,h2,h4,h5,h3,h6,fun h=>rD ⟨v,hh,v1,hr,f,fy (fv a) (fv b),t,k⟩⟩
 . have bp:=(je (b:=dB) am o2 n2).2 hb;have e:br (WV dB []-WV dB b) = -1:=if_pos (by show (0:Int)-WV dB b<0;omega);refine⟨.ab,[],.ab,[],.inr ⟨rfl,rfl⟩,.inr ⟨rfl,rfl⟩,o1,n1,o1,n1,(Int.zero_ediv _).symm,(Int.zero_emod _).symm,fun h=>?_⟩;refine cz (aaS (M:=bx Tryz.prog FT xP) (c2:=none) bF b fun h=>?_) (fy rfl (fv b)) rfl rfl h;rw[←e];exact Mt h (.inr ⟨rfl,rfl⟩) (.inl rfl) o1 o2 n1 n2 (by show (0:Nat)<_;omega) ac
theorem cCg:Mi (bx Tryz.prog FT [(224,qu)]) where
 ft:=bF
 ky:=Ev
theorem Mu {x y:AV}(a b:List Int)(hx:cH x a)(hy:cH y b)(oa:okW dB a)(ob:okW dB b)(na:aR a)(nb:aR b)(la:a.length<100000)(lb:b.length<100000):∃gv g,cH gv g/\okW dB g/\aR g/\WV dB g=(Int.gcd (WV dB a) (WV dB b):Nat)/\g.length<100000/\∀h,xQ [x,y] h=some ⟨gv,h,[]⟩:=by
 obtain⟨gv,g,h1,h2,h3,h4,h5,hr⟩:=aaT cCg a b hx hy oa ob na nb la lb;exact⟨gv,g,h1,h2,h3,h4,h5,dM hr (fy hx.top hy.top)⟩
noncomputable def Mv:Spec:=sL [] 300
theorem abm:ba Tryz.prog gl 300 Mv:=jv bP
noncomputable def yd:List (Nat×Spec):=[(300,Mv)]
theorem Mw:cB Tryz.prog gl (bB yd):=aT abm bP
theorem Mx:Eh (bx Tryz.prog FT yd) where
 ft:=bF
 xU:=fun a c i _h hi=>pJ (aaw (M:=bx Tryz.prog FT []) (c1:=c) bF a i hi) rfl rfl rfl (.cons (xN a) (.cons (.atom rfl) .nil))
 dV:=fun _ _=>rfl
noncomputable def My:Spec:=sL yd 233
noncomputable def Mz:Spec:=sL yd 256
noncomputable def ye:Spec:=sK [] 183
theorem abn:ba Tryz.prog gl 233 My:=jv Mw
theorem abo:ba Tryz.prog gl 256 Mz:=jv Mw
theorem MA:ba Tryz.prog gl 183 ye:=bG bP
theorem Ew:∀neg x l,cH x l->okW dB l->l.length<1000000000->∃v0,bW v0 (bQ neg (WV dB l))/\∀h,ye [.bool neg,x] h=some ⟨v0,h,[]⟩:=fun neg x l hx ok hl=>by
 obtain⟨v0,h1,h2⟩:=aaD (M:=bx Tryz.prog FT []) bF (fun _ _=>rfl) neg hx ok hl;exact⟨v0,h1,dM h2 (fy rfl hx.top)⟩
noncomputable def sX:List (Nat×Spec):=[(233,My),(256,Mz),(255,xO),(257,DX),(183,ye)]
theorem Ey:cB Tryz.prog gl (bB sX):=aT abn (aT abo (aT Lz (aT LA (aT MA bP))))
theorem Ez:xV (bx Tryz.prog FT sX) where
 ft:=bF
 Ma:=fun l m k1 k2 o1 o2 l1 l2=>by
  obtain⟨r,⟨h1,h2,h3⟩,v,hh,⟨v1,f,t,k⟩,hr⟩:=aaA (c1:=k1) (c2:=k2) Mx l m o1 o2 l1 l2;exact⟨r,h1,h2,h3,fun x y h hx hy=>ml (.cons hx (.cons hy .nil)) ⟨v,hh,v1,hr,f,t,k⟩⟩
 Ei:=fun l m o1 o2 n1 n2 l1 l2 hle=>by
  have hlen:m.length<=l.length:=gu (b:=dB) am o2 n2 (Int.lt_of_le_of_lt hle (dz am o1));obtain⟨r,⟨h1,h2,h3⟩,v,hh,⟨v1,f,t,k⟩,hr⟩:=aaB (c1:=none) (c2:=none) Mx l m o1 o2 l1 hlen hle;exact⟨r,h1,h2,h3,fun x y h hx hy=>ml (.cons hx.gI (.cons hy.gI .nil)) ⟨v,hh,v1,hr,f,t,k⟩⟩
 sQ:=fun l m x y h o1 o2 n1 n2 l1 l2 hx hy=>Mt h hx hy o1 o2 n1 n2 l1 l2
 qp:=fun l m o1 o2 l1 l2=>by
  by_cases h0:0<l.length+m.length
  . obtain⟨r,⟨h1,h2,h3⟩,v,hh,⟨v1,f,t,k⟩,hr⟩:=Lj (M:=bx Tryz.prog FT []) (c1:=none) (c2:=none) bF (fun _ _=>rfl) l m o1 o2 ac ac h0;exact⟨r,h1,h2,h3,fun x y h hx hy=>ml (.cons hx.gI (.cons hy.gI .nil)) ⟨v,hh,v1,hr,f,t,k⟩⟩
  . obtain⟨rfl,rfl⟩:l=[]/\m=[]:=⟨be ac,be ac⟩;obtain⟨r,⟨h1,h2,h3⟩,v,hh,⟨v1,f,t,k⟩,hr⟩:=abk (M:=bx Tryz.prog FT []) (c1:=none) (c2:=none) bF (fun _ _=>rfl);exact⟨r,h1,h2,h3,fun x y h hx hy=>ml (.cons hx.gI (.cons hy.gI .nil)) ⟨v,hh,v1,hr,f,t,k⟩⟩
 jY:=Ew
noncomputable def EA:Spec:=sK sX 193
noncomputable def EB:Spec:=sK sX 194
noncomputable def EC:Spec:=sK sX 254
theorem abp:ba Tryz.prog gl 193 EA:=bG Ey
theorem abq:ba Tryz.prog gl 194 EB:=bG Ey
theorem abr:ba Tryz.prog gl 254 EC:=bG Ey
theorem MB {a:AV}{z:Int}(ha:bW a z)(l:al z<dB^100):∃v0,bW v0 (-z)/\∀h,EC [a] h=some ⟨v0,h,[]⟩:=by
 obtain⟨v0,h1,h2⟩:=aaE Ez ha l am;exact⟨v0,h1,dM h2 (kV ha.top)⟩
theorem abt {a b:AV}{x y:Int}(ha:bW a x)(hb:bW b y)(la:al x<dB^100)(lb:al y<dB^100):∃v0,bW v0 (x*y)/\∀h,EB [a,b] h=some ⟨v0,h,[]⟩:=by
 obtain⟨v0,h1,h2⟩:=aaF Ez ha hb la lb am;exact⟨v0,h1,dM h2 (fy ha.top hb.top)⟩
theorem abu {a b:AV}{x y:Int}(ha:bW a x)(hb:bW b y)(la:al x<dB^100)(lb:al y<dB^100):∃v0,bW v0 (x+y)/\∀h,EA [a,b] h=some ⟨v0,h,[]⟩:=by
 obtain⟨v0,h1,h2⟩:=aaH Ez ha hb la lb am;exact⟨v0,h1,dM h2 (fy ha.top hb.top)⟩
noncomputable def sY:Spec:=sK [] 182
noncomputable def sZ:Spec:=sK [] 130
noncomputable def MC:Spec:=sK [] 202
noncomputable def yf:Spec:=sK [(182,sY)] 129
theorem MD:ba Tryz.prog gl 182 sY:=bG bP
theorem EE:ba Tryz.prog gl 130 sZ:=bG bP
theorem abv:ba Tryz.prog gl 202 MC:=bG bP
theorem ME:ba Tryz.prog gl 129 yf:=bG (aT MD bP)
theorem MF (n:Nat)(h:ae)(hn:n<9223372036854775808):sY [.iV (n:Nat),.iV 1] h=some ⟨.str (bh n),h,[]⟩:=cz (aaK bF n hn) rfl rfl rfl h
theorem cTx:Mc (bx Tryz.prog FT [(182,sY)]) where
 ft:=bF
 Md:=fun n h hn=>MF n h ac
 Me:=fun n h hn=>cz (aaL bF n hn) rfl rfl rfl h
theorem EH {a:AV}{z:Int}(h:ae)(ha:bW a z)(l:al z<dB^100):yf [a] h=some ⟨.str (cM z),h,[]⟩:=cz (aaM cTx ha l am) (kV ha.top) rfl rfl h
theorem EK (n:Int)(hn : -9223372036854775808<=n/\n<9223372036854775808):∃v0,bW v0 n/\∀h,sZ [.iV n] h=some ⟨v0,h,[]⟩:=by
 obtain⟨v0,h1,h2⟩:=aaR (M:=bx Tryz.prog FT []) ⟨bF,fun _ _=>rfl,fun _ _=>rfl⟩ n hn;exact⟨v0,h1,dM h2 rfl⟩
noncomputable def yg:List (Nat×Spec):=[(254,EC),(171,xQ),(224,qu),(183,ye),(129,yf)]
theorem MG:cB Tryz.prog gl (bB yg):=aT abr (aT LD (aT LC (aT MA (aT ME bP))))
theorem cFn:xW (bx Tryz.prog FT yg) 100 where
 ft:=bF
 xX:=MB
 qs:=Mu
 ky:=Ev
 jY:=Ew
 xY:=EH
noncomputable def yh:Spec:=sK yg 192
theorem MH:ba Tryz.prog gl 192 yh:=bG MG
theorem MI {a b:AV}{x y:Int}(h:ae)(ha:bW a x)(hb:bW b y)(la:al x<dB^100)(lb:al y<dB^100)(h0:y≠0):yh [a,b] h=some ⟨.str (aQ (Rat.divInt x y)),h,[]⟩:=
 cz (aaX cFn am ha hb la lb h0) (fy ha.top hb.top) rfl rfl h
noncomputable def EL:List (Nat×Spec):=(202,MC)::(182,sY)::(130,sZ)::(192,yh)::yg
theorem aby:cB Tryz.prog gl (bB EL):=aT abv (aT MD (aT EE (aT MH MG)))
theorem cOf:El (bx Tryz.prog FT EL) 100 where
 ft:=bF
 xX:=MB
 qs:=Mu
 ky:=Ev
 jY:=Ew
 xY:=EH
 Mk:=fun a b h ha hb=>cz (aaY bF a b ha hb) rfl rfl rfl h
 Em:=MF
 En:=EK
 sV:=MI
noncomputable def EM:Spec:=sK EL 149
theorem abA:ba Tryz.prog gl 149 EM:=bG aby
theorem abB (n d:Int)(h:ae)(hn : -9223372036854775808<=n/\n<9223372036854775808)(hd : -9223372036854775808<=d/\d<9223372036854775808)(h0:d≠0):EM [.iV n,.iV d] h=some ⟨.str (aQ (Rat.divInt n d)),h,[]⟩:=
 cz (aaZ cOf am hn hd h0) rfl rfl rfl h
noncomputable def MJ:List (Nat×Spec):=[(152,qt),(232,xI)]
theorem cQk:Mo (bx Tryz.prog FT MJ) where
 ft:=bF
 sR:=fun s h hl=>xK s h hl
 ou:=fun s h hl hd=>Lt s h hl hd
noncomputable def MK:Spec:=sK MJ 191
theorem abD:ba Tryz.prog gl 191 MK:=bG (aT xJ (aT Ls bP))
noncomputable def EN:List (Nat×Spec):=[(152,qt),(178,xL),(130,sZ)]
noncomputable def EO:Spec:=sK EN 170
theorem abE:ba Tryz.prog gl 170 EO:=bG (aT xJ (aT Lv (aT EE bP)))
theorem abF (z:Int):preB 45 (cM z)=decide (z<0)/\bL 45 (cM z)=bh (al z).toNat:=by
 have h:=oc (z:Rat);rw[Er,b6,b7,if_pos rfl]at h;exact h
theorem abG (q:Rat)(hl:(aQ q).length<1000000):∃v1 v2,bW v1 q.num/\bW v2 (q.den:Nat)/\∀h,EO [.str (aQ q)] h=some ⟨.ay [v1,v2],h,[]⟩:=by
 obtain⟨e1,e2,_,_,e3,e4⟩:=sW q;obtain⟨p1,p2⟩:=abF q.num;obtain⟨d1,d2⟩:=DW (jx q.den);have hk:=DA (aQ q);obtain⟨v1,k1,q1⟩:=xM (cM q.num) (by rw[←e1];omega) (by rw[p2];exact jx _);have k1:=k1.sN;rw[p1,p2,iL]at k1;have en:(if decide (q.num<0)=true then -((al q.num).toNat:Int) else ((al q.num).toNat:Int))=q.num:=by
  unfold al;by_cases h:q.num<0
  . simp only[h,decide_true,if_true];omega
  . simp only[h,decide_false];show ((q.num.toNat:Nat):Int)=_;omega
 rw[en]at k1;have q152:=fun h=>xK (aQ q) h hl
 by_cases hd:q.den=1
 . obtain⟨v2,k2,q2⟩:=EK 1 am;rw[decide_eq_false (fun h=>h hd)]at e3;have es:aQ q=cM q.num:=if_pos hd;refine⟨v1,v2,k1,by rw[hd];exact k2,dM (aaU (M:=bx Tryz.prog FT EN) bF (aQ q) hl e3 q152 k1 k2 (by rw[es];exact q1) q2) rfl⟩
 . rw[if_neg hd]at e4;obtain⟨v2,k2,q2⟩:=xM (bh q.den) (by
    have e:(aQ q).length=(cM q.num).length+1+(bh q.den).length:=by
     unfold aQ;rw[if_neg hd,bj,List.length_cons];omega
    omega) (by rw[d2];exact jx _)
   have k2:=k2.sN;rw[d1,d2,iL,if_neg am]at k2;rw[decide_eq_true hd]at e3;refine⟨v1,v2,k1,k2,dM (Lf (M:=bx Tryz.prog FT EN) bF (aQ q) hl e3 q152 k1 k2 (by rw[e4];exact q1) (by rw[e4];exact q2)) rfl⟩
noncomputable def EP:List (Nat×Spec):=[(191,MK),(170,EO),(194,EB),(193,EA),(192,yh),(149,EM)]
theorem abH:cB Tryz.prog gl (bB EP):=aT abD (aT abE (aT abq (aT abp (aT MH (aT abA bP)))))
theorem cAd:Mp (bx Tryz.prog FT EP) 100 where
 ft:=bF
 Es:=fun q hl=>by
  obtain⟨n,d,b,h1,h2⟩:=abe cQk hl;exact⟨n,d,b,h1,fun h=>cz h2 rfl rfl rfl h⟩
 qq:=abG
 yc:=abt
 Mq:=abu
 sV:=MI
 Mr:=abB
theorem k50:(10:Int)^(2*201+1)<=dB^100:=by rw[show 2*201+1=200+203 from rfl,Int.pow_add];decide
theorem oz {k:Nat}{q:Rat}(h:Dq k q)(h0:0<k)(hk:k<=600):(aQ q).length<1000000:=by
 have:=Ks (h.lq (N:=601) h0 ac);omega
noncomputable def yi:Spec:=sK EP 139
noncomputable def lf:Spec:=sK [] 105
noncomputable def yj:Spec:=sK [(105,lf)] 113
noncomputable def yk:Spec:=sK [(113,yj),(139,yi)] 128
noncomputable def tc:Spec:=sK [(128,yk),(105,lf)] 48
theorem abK:ba Tryz.prog gl 139 yi:=bG abH
theorem ET:ba Tryz.prog gl 105 lf:=bG bP
theorem abL:ba Tryz.prog gl 113 yj:=bG (aT ET bP)
theorem abM:ba Tryz.prog gl 128 yk:=bG (aT abL (aT abK bP))
theorem ML:ba Tryz.prog gl 48 tc:=bG (aT abM (aT ET bP))
theorem abN (p q:Rat)(h:ae)(hp:Dq 201 p)(hq:Dq 201 q):yi [.str (aQ p),.str (aQ q)] h=some ⟨.str (aQ (p+q)),h,[]⟩:=
 cz (abf cAd k50 hp hq (oz hp am am) (oz hq am am)) rfl rfl rfl h
theorem yl (q:Rat)(h:ae):lf [.str (aQ q)] h=some ⟨.iV (br q.num),h,[]⟩:=cz (abb bF q) rfl rfl rfl h
theorem abO {k:Nat}(q:Rat)(h:ae)(hq:Dq k q)(h0:0<k)(hk:k<=600):yj [.str (aQ q)] h=some ⟨.str (aQ (-q)),h,[]⟩:=
 cz (abc (M:=bx Tryz.prog FT [(105,lf)]) bF (oz hq h0 hk) (yl q)) rfl rfl rfl h
theorem abP (p q:Rat)(h:ae)(hp:Dq 201 p)(hq:Dq 201 q):yk [.str (aQ p),.str (aQ q)] h=some ⟨.str (aQ (p-q)),h,[]⟩:=
 cz (abg (M:=bx Tryz.prog FT [(113,yj),(139,yi)]) bF (fun h=>abO q h hq am am) (fun h=>abN p (-q) h hp hq.neg)) rfl rfl rfl h
theorem yn (p q:Rat)(h:ae)(hp:Dq 201 p)(hq:Dq 201 q):tc [.str (aQ p),.str (aQ q)] h=some ⟨.iV (gw p q),h,[]⟩:=by
 have e:br (p-q).num=gw p q:=by rw[←Dr,Ky]
 rw[←e];exact cz (w48 (M:=bx Tryz.prog FT [(128,yk),(105,lf)]) bF (fun h=>abP p q h hp hq) (yl _)) rfl rfl rfl h
noncomputable def MM:Spec:=sK [] 42
theorem abQ:ba Tryz.prog gl 42 MM:=bG bP
set_option maxRecDepth 1000000
variable {M:ax} {cap:Option Nat} {N:Nat}
end Go.Ab.Ch5.N

/-
  Own work: plain facts on stable sorting by blocks that are merged in place.
-/
namespace Go.Ab.Sort
section
variable {key:Int->Int}
end
end Go.Ab.Sort

/-
  Own work: the resolved code of some functions of chapter 1: shares and the stable sort.
-/
namespace Go.Ab.Ch5.N
set_option maxRecDepth 1000000
open Go.Ab.Sort
variable {M:ax} {h:ae} {b n:Nat} {cap:Option Nat} {g:AV}
variable {key:Int->Int} {ok:Int->Prop} {cf:Int->Int->Int}
open Go.Ab.aX
variable {N:Nat}
theorem w49 (hft:M.FT=FT){n:Int}{v:AV}(q130:∀h,M.ext 130 [.iV n] h=some ⟨v,h,[]⟩)(q129:∀h,M.ext 129 [v] h=some ⟨.str (cM n),h,[]⟩):bg M 49 [.iV n] [] ⟨.str (aQ (n:Rat)),[],[]⟩:=by
 rw[Er];refine bY (by rw[hft];exact aap) aq ?_;unfold LS;simp only[enter];repeat' first|apply aaQ|apply aa|apply aaf|apply aad|apply abw|(apply abJ;rfl;rfl;first|exact q130 _|exact q129 _)|(apply abh;rfl;rfl)|(apply abl;rfl;rfl)
 all_goals exact⟨.inr rfl,rfl,_,rfl,rfl,rfl⟩
end Go.Ab.Ch5.N

/-
  Own work: the resolved code of some functions of chapter 5: starts.
-/
namespace Go.Ab.Ch5
def yp:ao:=zR [zr 8 .lss 5 4] (.seq (.cond (.l 8) (.skip) (.exit 0)) (.seq (.block 1 (zR [⟨.l 9,.eL none 1 (.p 3) (.p 5),none⟩,zd 10 1 9,zw 2 10] (zR [zm 11 2,zc 12 .neq 11 0] (.cond (.l 12) (zR [zm 13 2,zw 1 13] (.ret)) (.skip))))) (.region [zq 14 .add 5 1,zw 5 14])))
def MN:ao:=zR [zi 1 0] (.seq (zR [⟨.p 3,.mv (.p 0),none⟩,⟨.p 4,.len .sl (.p 3),none⟩,zi 5 0] (.block 0 (.loop yp))) (zR [zi 1 0] (.ret)))
theorem abS:FT 90=some ⟨15,[0,2,4,5,6,7],[.var (.p 1)],MN⟩:=by kernel_rfl
def MO:ao:=zR [zi 2 0] (.seq (zR [zm 5 0] (.cond (.l 5) (zR [zm 6 1,zw 2 6] (.ret)) (.skip))) (zR [zi 2 0] (.ret)))
theorem abT:FT 91=some ⟨7,[0,1,4],[.var (.p 2)],MO⟩:=by kernel_rfl
variable {M:ax} {cap:Option Nat}
theorem w91 (hft:M.FT=FT)(t:Bool)(e:Int):bg M 91 [.bool t,.iV e] [] ⟨.iV (if t then e else 0),[],[]⟩:=by
 refine bY (by rw[hft];exact abT) aq ?_;unfold MO;simp only[enter];cases t;all_goals
  repeat' first|apply aaQ|apply aa|apply aaf|apply aad|apply abw|apply abC|apply aU|(apply abz;rfl)|(apply abx;rfl)|(apply abh;rfl;rfl)|(apply abl;rfl;rfl)
 all_goals exact⟨.inr rfl,rfl,_,rfl,rfl,rfl⟩
def bK:List Int->Int
 | []=>0
 | e::r=>if e=0 then bK r else e
theorem uP {l:List Int}{i:Nat}(h:i<l.length):bK (l.drop i)=if l[i]! = 0 then bK (l.drop (i+1)) else l[i]! := by
 rw[List.drop_eq_getElem_cons h,getElem!_pos l i h,bK]
theorem MP (l:List Int)(hl:l.length<4611686018427387904){Q:Ex->au->Prop}:∀(r i:Nat) (a2:AV) (lo:List (Nat×AV)) (wr:List Nat),i+r=l.length ->
 (bK (l.drop i)=0->∀a2 lo wr,Q (.exit 0) ⟨⟨[.vs (ints l) l.length cap,.iV 0,a2,.vs (ints l) l.length cap,.iV l.length,.iV l.length],lo,[],[]⟩,wr⟩) ->
 (∀a2 a5 lo wr,Q .ret ⟨⟨[.vs (ints l) l.length cap,.iV (bK (l.drop i)),a2,.vs (ints l) l.length cap,.iV l.length,a5],lo,[],[]⟩,wr⟩) ->
 W M (.loop yp) ⟨⟨[.vs (ints l) l.length cap,.iV 0,a2,.vs (ints l) l.length cap,.iV l.length,.iV i],lo,[],[]⟩,wr⟩ Q
 | 0,i,a2,lo,wr,hi,h1,h2=>by
  obtain rfl:i=l.length:=by omega
  refine W.loop ?_;unfold yp;repeat' first|apply aaQ|apply aa|apply aaf|apply aad|apply acH|apply bN|apply dP|(apply abx;rfl)|(apply abR;rfl;rfl)|(intro _;omega)|intro _
  exact h1 (by simp[bK]) _ _ _
 | r+1,i,a2,lo,wr,hi,h1,h2=>by
  have e:=uP (l:=l) (i:=(i:Int).toNat) ac;rw[ce]at e;refine W.loop ?_;unfold yp;repeat' first|apply aaQ|apply aa|apply aaf|apply aad|apply abI|apply abw|apply abC|apply aU|apply bE|apply cQ|apply jJ|(apply abz;rfl)|(apply abx;rfl)|(apply abR;rfl;rfl)|(apply adf;rfl;rfl)|(apply acS;rfl;rfl;omega)|(apply adp;rfl;rfl;omega)|(apply adL;rfl;exact fun _=>rfl;(first|omega|(simp only[az];omega)|(simp;omega));decide;rfl;case ia=>infer_instance)|(apply abh;rfl;rfl)|(apply abl;rfl;rfl)|(intro _;omega)|intro _
  . rename_i he;rw[ce]at he;rw[if_neg he]at e;rw[e]at h2;exact h2 _ _ _ _
  . rename_i he;rw[ce]at he;rw[if_pos he]at e;rw[e]at h1 h2;exact gk (MP l hl r (i+1) _ _ _ ac h1 h2)
theorem w90 (hft:M.FT=FT)(l:List Int)(hl:l.length<4611686018427387904):bg M 90 [.vs (ints l) l.length cap] [] ⟨.iV (bK l),[],[]⟩:=by
 refine bY (by rw[hft];exact abS) aq ?_;unfold MN;simp only[enter];repeat' first|apply aaQ|apply aa|apply aaf|apply aad|apply abI|(apply abl;rfl;rfl)
 refine MP l hl l.length 0 _ _ _ ac (fun h a2 lo wr=>?_) (fun a2 a5 lo wr=>?_)
 . repeat' first|apply aaQ|apply aa|apply aaf|apply aad|apply abw|apply bJ|(apply abl;rfl;rfl)
   exact⟨.inr rfl,rfl,_,rfl,by rw[List.drop_zero]at h;rw[h];rfl,rfl⟩
 . repeat' first|apply aU|apply cQ
   exact⟨.inr rfl,rfl,_,rfl,rfl,rfl⟩
open Go.Proofs
def jb:Spec:=fun
 | [.bool t,.int .i64 e],h=>some ⟨.int .i64 (if t then e else 0),h,[]⟩
 | _,_=>none
end Go.Ab.Ch5

/-
  Own work: the code of functions: official marks.
-/
namespace Go.Ab.Ch5.N
set_option maxRecDepth 1000000
def MQ:ao:=zR [zx 1 44 2 0,⟨.p 2,.mv (.c (.bool false)),none⟩] (zR [zf 3 0 1,zd 4 1 3,zL 5 4,zc 6 .gtr 5 20,zn 7 6,zg (zf 8 1 1) 7 false,zg (zd 9 1 8) 7 false,zg (zL 10 9) 7 false,zg (zc 11 .gtr 10 20) 7 false,zP 12 7 11,zw 2 12] (.ret))
theorem abW:FT 31=some ⟨13,[0,1,2],[.var (.p 2)],MQ⟩:=by kernel_rfl
def EU:ao:=zR [zx 1 44 2 0,zi 2 0] (zR [zf 4 0 1,zd 5 1 4,zf 6 1 1,zd 7 1 6,⟨.l 8,.dX 40 2 1 [.str []] [(0,1,(.l 5)),(1,1,(.l 7))],none⟩,z1 9 110 8,zw 3 9] (.seq (zR [zm 10 3,zc 11 .neq 10 0] (.cond (.l 11) (zR [zm 12 3,zw 2 12] (.ret)) (.skip))) (.seq (zR [zf 13 0 1,zd 14 1 13,zf 15 1 1,zd 16 1 15,z2 17 48 14 16,zc 18 .gtr 17 0] (.cond (.l 18) (zR [zi 2 11] (.ret)) (.skip))) (.seq (.seq (.draw [(zf 19 0 1,[]),(zd 20 1 19,[]),(z1 21 105 20,[]),(zc 22 .lss 21 0,[]),(zn 23 22,[]),(zg (zf 24 1 1) 23 false,[]),(zg (zd 25 1 24) 23 false,[]),(zg (z1 26 105 25) 23 false,[]),(zg (zc 27 .leq 26 0) 23 false,[]),(zP 28 23 27,[]),(zn 29 28,[]),(zg (zf 30 1 1) 29 false,[]),(zg (zd 31 1 30) 29 false,[]),(⟨.l 32,.call (kF 49) [(kI 863999999)],some ((.l 29),false)⟩,[11,12]),(zg (z2 33 48 31 32) 29 false,[]),(zg (zc 34 .gtr 33 0) 29 false,[]),(zP 35 29 34,[])]) (.cond (.l 35) (zR [zi 2 3] (.ret)) (.skip))) (zR [zi 2 0] (.ret))))))
theorem MR:FT 33=some ⟨36,[0,1,2,3],[.var (.p 2)],EU⟩:=by kernel_rfl
def MS:ao:=zR [zx 1 175 8 0,⟨.p 2,.mv (.c (.bool false)),none⟩] (.seq (.draw [(zf 3 4 1,[]),(zT 4 4 3,[]),(⟨.l 5,.call (kF 143) [(kI 863999999)],none⟩,[0,1]),(z2 6 147 4 5,[]),(zc 7 .gtr 6 0,[]),(zw 2 7,[])]) (.ret))
theorem abX:FT 101=some ⟨8,[0,1,2],[.var (.p 2)],MS⟩:=by kernel_rfl
def EV:ao:=zR [zx 1 44 2 0,⟨.p 2,.alloc 175 [.iV (0),.ab,.iV (0),.ab,.iV (0),.ab,.iV (0),.ab],none⟩,zi 3 0] (.seq (.seq (.draw [(zf 6 0 1,[]),(zd 7 1 6,[]),(z1 8 172 7,[]),(zf 9 1 1,[0,1,2]),(zd 10 1 9,[0,1,2]),(z1 11 172 10,[]),(⟨.l 12,.dX 28 2 1 [.iV (0)] [(0,1,(.l 8)),(1,1,(.l 11))],none⟩,[]),(z1 13 90 12,[]),(zw 4 13,[])]) (zR [zm 14 4,zc 15 .neq 14 0] (.cond (.l 15) (zR [⟨.l 16,.build [.iV (0),.ab,.iV (0),.ab,.iV (0),.ab,.iV (0),.ab] [],none⟩,zm 17 4,zs 8 2 16,zw 3 17] (.ret)) (.skip)))) (.seq (.draw [(zf 18 0 1,[]),(zd 19 1 18,[]),(z1 20 165 19,[]),(zf 21 1 1,[0,1,2]),(zd 22 1 21,[0,1,2]),(z1 23 165 22,[]),(⟨.l 24,.build [.iV (0),.ab,.iV (0),.ab,.iV (0),.ab,.iV (0),.ab] [(0,4,(.l 20)),(4,4,(.l 23))],none⟩,[]),(⟨.p 5,.alloc 175 [.iV (0),.ab,.iV (0),.ab,.iV (0),.ab,.iV (0),.ab],none⟩,[0,1,2,3,4,5,6]),(zs 8 5 24,[])]) (.seq (.draw [(zt 25 8 5,[]),(zf 26 0 5,[0]),(zT 27 4 26,[0]),(zf 28 4 5,[0,1,2]),(zT 29 4 28,[0,1,2]),(z2 30 147 27 29,[0]),(zc 31 .gtr 30 0,[0]),(⟨.l 32,.call (kF 91) [(.l 31),(kI 11)],none⟩,[0]),(zf 33 0 5,[0,1,2,3,4,5,6,7]),(zT 34 4 33,[0,1,2,3,4,5,6,7]),(z1 35 173 34,[0]),(zc 36 .lss 35 0,[0]),(zn 37 36,[0]),(zg (zf 38 4 5) 37 false,[0]),(zg (zT 39 4 38) 37 false,[0]),(zg (z1 40 173 39) 37 false,[0]),(zg (zc 41 .leq 40 0) 37 false,[0]),(zP 42 37 41,[0]),(zn 43 42,[0]),(zg (zt 44 8 5) 43 false,[0]),(zg (z1 45 101 44) 43 false,[0]),(zP 46 43 45,[0]),(⟨.l 47,.call (kF 91) [(.l 46),(kI 3)],none⟩,[0]),(⟨.l 48,.dX 28 2 1 [.iV (0)] [(0,1,(.l 32)),(1,1,(.l 47))],none⟩,[0]),(z1 49 90 48,[0]),(zs 8 2 25,[]),(zw 3 49,[])]) (.ret))))
theorem MT:FT 107=some ⟨50,[0,1,2,3,4,5],[.cell 8 true (.p 2),.var (.p 3)],EV⟩:=by kernel_rfl
def EW:ao:=.seq (zR [zm 5 2,zm 6 0,zl 7 6,zb 8 .lss 5 7] (.cond (.l 8) (.skip) (.exit 0))) (.seq (.block 1 (zR [zm 11 0,zm 12 2,za 13 1 11 12,zd 14 1 13,z1 15 104 14,zw 3 15] (zR [zm 16 3,zc 17 .neq 16 0] (.cond (.l 17) (zR [zm 18 3,zw 1 18] (.ret)) (.skip))))) (.region [zm 9 2,zc 10 .add 9 1,zw 2 10]))
def MU:ao:=zR [zi 1 0] (.seq (zR [zi 2 0] (.block 0 (.loop EW))) (zR [zi 1 0] (.ret)))
theorem abY:FT 110=some ⟨19,[0,2,3,4],[.var (.p 1)],MU⟩:=by kernel_rfl
end Go.Ab.Ch5.N

/-
  Own work: marks of chapter 1: the contracts of the checks, of the order and of rounding.
-/
namespace Go.Ab.Ch5.N.K
variable {inv:eW} {F:FuncId->Option cU}
abbrev abZ:List UInt8:=[116,105,109,101]
abbrev aca:List UInt8:=[108,101,110,103,116,104]
abbrev acb:List UInt8:=[112,111,105,110,116,115]
abbrev acd:List UInt8:=[101,120,97,99,116]
abbrev ace:List UInt8:=[104,117,110,100,114,101,100,116,104,115]
abbrev acf:List UInt8:=[116,101,110,116,104,115]
abbrev acg:List UInt8:=[99,101,110,116,105,109,101,116,114,101,115]
def known (k:List UInt8):Prop:=k=abZ\/k=aca\/k=acb
instance (k:List UInt8):Decidable (known k):=by unfold known;infer_instance
def isClass (c:List UInt8):Prop:=c∈[acd,ace,acf,acg]
instance (c:List UInt8):Decidable (isClass c):=by unfold isClass;infer_instance
end Go.Ab.Ch5.N.K

/-
  Own work: spans and official marks: what the program's functions compute.
-/
namespace Go.Ab.Ch5.N
open Go.Ab.aX
variable {M:ax} {cap:Option Nat} {N:Nat}
structure Rd (v va vb:AV)(p q:Rat):Prop where
 ha:cL va p
 hb:cL vb q
 eq:∃s w s' w' t x t' x',va = .agg [.iV s,w,.iV s',w']/\vb = .agg [.iV t,x,.iV t',x']/\v = .agg [.iV s,w,.iV s',w',.iV t,x,.iV t',x']
theorem Rd.mk' {va vb:AV}{p q:Rat}(ha:cL va p)(hb:cL vb q):∃v,Rd v va vb p q:=by
 obtain⟨s,w,s',w',h1,_,_⟩:=id ha;obtain⟨t,x,t',x',h2,_,_⟩:=id hb;exact⟨_,ha,hb,s,w,s',w',t,x,t',x',h1,h2,rfl⟩
theorem Rd.shape {v va vb:AV}{p q:Rat}(h:Rd v va vb p q):∃s w s' w' t x t' x',va = .agg [.iV s,w,.iV s',w']/\vb = .agg [.iV t,x,.iV t',x']/\v = .agg [.iV s,w,.iV s',w',.iV t,x,.iV t',x'] /\
 (cI w=true/\cI w'=true/\cI x=true/\cI x'=true)/\(w.top=0/\w'.top=0/\x.top=0/\x'.top=0)/\(bD w=w/\bD w'=w'/\bD x=x/\bD x'=x'):=by
 obtain⟨ha,hb,s,w,s',w',t,x,t',x',rfl,rfl,rfl⟩:=h;obtain⟨_,_,_,_,e1,a1,a2⟩:=ha;obtain⟨_,_,_,_,e2,b1,b2⟩:=hb;simp only[AV.agg.injEq,List.cons.injEq,and_true]at e1 e2;obtain⟨i1,rfl,i2,rfl⟩:=e1;obtain⟨i3,rfl,i4,rfl⟩:=e2;cases i1;cases i2;cases i3;cases i4;obtain⟨o1,t1,c1⟩:=a1.one;obtain⟨o2,t2,c2⟩:=a2.one;obtain⟨o3,t3,c3⟩:=b1.one;obtain⟨o4,t4,c4⟩:=b2.one;exact⟨s,w,s',w',t,x,t',x',rfl,rfl,rfl,⟨o1,o2,o3,o4⟩,⟨t1,t2,t3,t4⟩,⟨c1,c2,c3,c4⟩⟩
theorem ach (hft:M.FT=FT){v va vb vm:AV}{p q:Rat}(hv:Rd v va vb p q){c:Int}(q143:∀h,M.ext 143 [.iV 863999999] h=some ⟨vm,h,[]⟩)(q147:∀h,M.ext 147 [vb,vm] h=some ⟨.iV c,h,[]⟩):bg M 101 [v] [] ⟨.bool (decide (0<c)),[],[]⟩:=by
 obtain⟨s,w,s',w',t,x,t',x',rfl,rfl,rfl,⟨o1,o2,o3,o4⟩,_,_⟩:=hv.shape;refine bY (by rw[hft];exact abX) aq ?_;unfold MS;simp only[enter];by_cases h:0<c
 . rw[decide_eq_true h];repeat' first|(apply adN;rfl;rfl;(first|(simp only[nca];rfl)|rfl);first|exact q143 _|exact q147 _)|apply aaQ|apply aa|apply aaf|apply aad|apply abw|apply adr|apply adI|(apply adO;rfl)|(apply adJ;rfl;rfl;(first|(simp only[nca];rfl)|rfl))|(apply abV;rfl;rfl)|(apply acn;rfl;rfl;rfl)|(apply abU;rfl;rfl;rfl)|(apply abh;rfl;rfl)|(apply abl;rfl;rfl)|(intro _;omega)|intro _
   all_goals try omega
   all_goals exact⟨.inr rfl,rfl,_,rfl,rfl,rfl⟩
 . rw[decide_eq_false h];repeat' first|(apply adN;rfl;rfl;(first|(simp only[nca];rfl)|rfl);first|exact q143 _|exact q147 _)|apply aaQ|apply aa|apply aaf|apply aad|apply abw|apply adr|apply adI|(apply adO;rfl)|(apply adJ;rfl;rfl;(first|(simp only[nca];rfl)|rfl))|(apply abV;rfl;rfl)|(apply acn;rfl;rfl;rfl)|(apply abU;rfl;rfl;rfl)|(apply abh;rfl;rfl)|(apply abl;rfl;rfl)|(intro _;omega)|intro _
   all_goals try omega
   all_goals exact⟨.inr rfl,rfl,_,rfl,rfl,rfl⟩
def MV:AV:=.agg [.iV 0,.ab,.iV 0,.ab,.iV 0,.ab,.iV 0,.ab]
structure td (M:ax):Prop where
 ft:M.FT=FT
 mL:∀v h l,gm h v=some l->l.length<1000->M.ext 90 [v] h=some ⟨.iV (bK l),h,[]⟩
 EX:∀t (e:Int) h,M.ext 91 [.bool t,.iV e] h=some ⟨.iV (if t then e else 0),h,[]⟩
theorem aci (C:td M){a b:aj}{e1 e2 e:Int}(q1:∀h,M.ext 172 [.str a] h=some ⟨.iV e1,h,[]⟩)(q2:∀h,M.ext 172 [.str b] h=some ⟨.iV e2,h,[]⟩)(he:bK [e1,e2]=e)(h0:e≠0):bg M 107 [.agg [.str a,.str b]] [] ⟨.ay [MV,.iV e],[],[]⟩:=by
 have f:=fun v h hi=>C.mL v h [e1,e2] hi (by show 2<1000;decide)
 rw[he]at f;refine bY (by rw[C.ft];exact MT) aq ?_;unfold EV;simp only[enter];repeat' first|(apply adN;rfl;rfl;(first|(simp only[nca];rfl)|rfl);first|exact q1 _|exact q2 _|exact f _ _ rfl)|apply aaQ|apply aa|apply aaf|apply aad|apply abw|apply aU|apply adr|apply adI|(apply adO;rfl)|(apply adJ;rfl;rfl;(first|(simp only[nca];rfl)|rfl))|(apply aeu;rfl)|(apply abz;rfl)|(apply adf;rfl;rfl)|(apply acn;rfl;rfl;rfl)|(apply abU;rfl;rfl;rfl)|(apply aea;rfl;rfl;rfl)|(apply abh;rfl;rfl)|(apply abl;rfl;rfl)|(intro _;omega)|intro _
 all_goals try omega
 all_goals exact⟨.inr rfl,rfl,_,rfl,rfl,rfl⟩
def lh (c1 s1 s2:Int)(late:Bool):Int:=if 0<c1 then 11 else if s1<0\/s2<=0\/late=true then 3 else 0
theorem acj (C:td M){a b:aj}{v va vb:AV}{p q:Rat}(hv:Rd v va vb p q){c1 s1 s2:Int}{late:Bool}(q1:∀h,M.ext 172 [.str a] h=some ⟨.iV 0,h,[]⟩)(q2:∀h,M.ext 172 [.str b] h=some ⟨.iV 0,h,[]⟩)(qa:∀h,M.ext 165 [.str a] h=some ⟨va,h,[]⟩)(qb:∀h,M.ext 165 [.str b] h=some ⟨vb,h,[]⟩)
 (q147:∀h,M.ext 147 [va,vb] h=some ⟨.iV c1,h,[]⟩) (tg:∀h,M.ext 173 [va] h=some ⟨.iV s1,h,[]⟩) (t173:∀h,M.ext 173 [vb] h=some ⟨.iV s2,h,[]⟩) (q101:∀h,M.ext 101 [v] h=some ⟨.bool late,h,[]⟩):de M 107 [.agg [.str a,.str b]] (.ay [v,.iV (lh c1 s1 s2 late)]):=by
 obtain⟨s,w,s',w',t,x,t',x',rfl,rfl,rfl,⟨o1,o2,o3,o4⟩,⟨t1,t2,t3,t4⟩,⟨k1,k2,k3,k4⟩⟩:=hv.shape;have f00:∀v h,gm h v=some [0,0]->M.ext 90 [v] h=some ⟨.iV 0,h,[]⟩:=fun v h hi=>C.mL v h _ hi am
 have f10:∀v h,gm h v=some [11,0]->M.ext 90 [v] h=some ⟨.iV 11,h,[]⟩:=fun v h hi=>C.mL v h _ hi am
 have f13:∀v h,gm h v=some [11,3]->M.ext 90 [v] h=some ⟨.iV 11,h,[]⟩:=fun v h hi=>C.mL v h _ hi am
 have f03:∀v h,gm h v=some [0,3]->M.ext 90 [v] h=some ⟨.iV 3,h,[]⟩:=fun v h hi=>C.mL v h _ hi am
 have tt:∀e h,M.ext 91 [.bool true,.iV e] h=some ⟨.iV e,h,[]⟩:=fun e h=>C.EX true e h
 have tf:∀e h,M.ext 91 [.bool false,.iV e] h=some ⟨.iV 0,h,[]⟩:=fun e h=>C.EX false e h
 have out:∀(e:Int) hh,dQ (aV [.agg [.iV s,w,.iV s',w',.iV t,x,.iV t',x'],.iV e]) hh (.ay [.agg [.iV s,w,.iV s',w',.iV t,x,.iV t',x'],.iV e]):=fun e hh=>
  .same (by simp[aV,AV.top,bz,t1,t2,t3,t4]) (by simp[aV,bD,cC,k1,k2,k3,k4])
 refine du (by rw[C.ft];exact MT) aq ?_;unfold EV;simp only[enter];have fin:∀e hh,lh c1 s1 s2 late=e->dQ (aV [.agg [.iV s,w,.iV s',w',.iV t,x,.iV t',x'],.iV e]) hh (.ay [.agg [.iV s,w,.iV s',w',.iV t,x,.iV t',x'],.iV (lh c1 s1 s2 late)]):=fun e hh he=>by
  rw[he];exact out e _
 by_cases h1:0<c1
 all_goals
 . by_cases h2:s1<0
   all_goals
   . by_cases h3:s2<=0
     all_goals
     . cases late;all_goals
       . repeat' first|(apply adN;rfl;rfl;(first|(simp only[nca];rfl)|rfl);first|exact q1 _|exact q2 _|exact qa _|exact qb _|exact q147 _|exact tg _|exact t173 _|exact q101 _|exact tt _ _|exact tf _ _|exact f00 _ _ rfl|exact f10 _ _ rfl|exact f13 _ _ rfl|exact f03 _ _ rfl)|(apply adM;rfl;rfl;rfl;exact⟨rfl,aW _,by simp[overwrite,eE,o1,o2,o3,o4]⟩;rfl)|apply aaQ|apply aa|apply aaf|apply aad|apply abw|apply abC|apply adr|apply adI|(apply aeZ;rfl)|(apply afa;rfl)|(apply adO;rfl)|(apply adJ;rfl;rfl;(first|(simp only[nca];rfl)|rfl))|(apply adW;rfl;(first|(simp only[nca];rfl)|rfl);(first|(simp only[nca];rfl)|rfl))|(apply aeu;rfl)|(apply abx;rfl)|(apply abR;rfl;rfl)|(apply adZ;rfl;rfl)|(apply abV;rfl;rfl)|(apply adf;rfl;rfl)|(apply aco;rfl;rfl)|(apply acw;rfl;rfl)|(apply acn;rfl;rfl;rfl)|(apply abU;rfl;rfl;rfl)|(apply abh;rfl;rfl)|(apply abl;rfl;rfl)|(intro _;omega)|intro _
         all_goals try omega
         all_goals exact cD rfl rfl (fin _ _ (by simp[lh,h1,h2,h3]))
theorem ack (hft:M.FT=FT)(a b:aj){ea eb:Int}(qa:∀h,M.ext 104 [.str a] h=some ⟨.iV ea,h,[]⟩)(qb:∀h,M.ext 104 [.str b] h=some ⟨.iV eb,h,[]⟩):bg M 110 [.vs [.str a,.str b] 2 cap] [] ⟨.iV (if ea≠0 then ea else eb),[],[]⟩:=by
 refine bY (by rw[hft];exact abY) aq ?_;unfold MU;simp only[enter];by_cases h1:ea=0
 . rw[if_neg (fun h=>h h1)];subst h1;by_cases h2:eb=0
   all_goals
   . repeat' first|apply aaQ|apply aa|apply aaf|apply aad|apply abI|(apply abl;rfl;rfl)
     refine W.loop ?_;unfold EW;repeat' first|apply aaQ|apply aa|apply aaf|apply aad|apply abI|apply abC|apply bE|(apply abz;rfl)|(apply abx;rfl)|(apply abR;rfl;rfl)|(apply adf;rfl;rfl)|(apply acS;rfl;rfl;omega)|(apply abJ;rfl;rfl;first|exact qa _)|(apply adp;rfl;rfl;omega)|(apply acn;rfl;rfl;rfl)|(apply abh;rfl;rfl)|(apply abl;rfl;rfl)|(intro _;omega)|intro _
     all_goals try omega
     refine gk (W.loop ?_);repeat' first|apply aaQ|apply aa|apply aaf|apply aad|apply abI|apply abw|apply abC|apply aU|apply bE|apply cQ|apply jJ|(apply abz;rfl)|(apply abx;rfl)|(apply abR;rfl;rfl)|(apply adf;rfl;rfl)|(apply acS;rfl;rfl;omega)|(apply abJ;rfl;rfl;first|exact qb _)|(apply adp;rfl;rfl;omega)|(apply acn;rfl;rfl;rfl)|(apply abh;rfl;rfl)|(apply abl;rfl;rfl)|(intro _;omega)|intro _
     all_goals try omega
     all_goals first
      | exact⟨.inr rfl,rfl,_,rfl,rfl,rfl⟩
      | (
         refine gk (W.loop ?_);repeat' first|apply aaQ|apply aa|apply aaf|apply aad|apply abw|apply acH|apply bN|apply bJ|apply dP|(apply abx;rfl)|(apply abR;rfl;rfl)|(apply abh;rfl;rfl)|(apply abl;rfl;rfl)|(intro _;omega)|intro _
         all_goals try omega
         all_goals exact⟨.inr rfl,rfl,_,rfl,by rw[h2];rfl,rfl⟩)
 . rw[if_pos h1];repeat' first|apply aaQ|apply aa|apply aaf|apply aad|apply abI|(apply abl;rfl;rfl)
   refine W.loop ?_;unfold EW;repeat' first|apply aaQ|apply aa|apply aaf|apply aad|apply abI|apply abw|apply abC|apply aU|apply cQ|apply jJ|(apply abz;rfl)|(apply abR;rfl;rfl)|(apply adf;rfl;rfl)|(apply abJ;rfl;rfl;first|exact qa _)|(apply adp;rfl;rfl;omega)|(apply acn;rfl;rfl;rfl)|(apply abh;rfl;rfl)|(apply abl;rfl;rfl)|(intro _;omega)|intro _
   all_goals try omega
   all_goals exact⟨.inr rfl,rfl,_,rfl,rfl,rfl⟩
theorem acm (hft:M.FT=FT){a b:aj}{e:Int}(q110:∀v h,dv h v (.vs [.str a,.str b] 2 none)->M.ext 110 [v] h=some ⟨.iV e,h,[]⟩)(h0:e≠0):bg M 33 [.agg [.str a,.str b]] [] ⟨.iV e,[],[]⟩:=by
 refine bY (by rw[hft];exact MR) aq ?_;unfold EU;simp only[enter];repeat' first|apply aaQ|apply aa|apply aaf|apply aad|apply abw|apply aU|(apply abz;rfl)|(apply adf;rfl;rfl)|(apply abJ;rfl;rfl;exact q110 _ _ (Dp rfl rfl rfl))|(apply acn;rfl;rfl;rfl)|(apply abU;rfl;rfl;rfl)|(apply abh;rfl;rfl)|(apply abl;rfl;rfl)|(intro _;omega)|intro _
 all_goals try omega
 all_goals exact⟨.inr rfl,rfl,_,rfl,rfl,rfl⟩
theorem w33 (hft:M.FT=FT){a b m:aj}{c1 c2 s1 s2:Int}(q110:∀v h,dv h v (.vs [.str a,.str b] 2 none)->M.ext 110 [v] h=some ⟨.iV 0,h,[]⟩)(q48:∀h,M.ext 48 [.str a,.str b] h=some ⟨.iV c1,h,[]⟩)(lf:∀h,M.ext 105 [.str a] h=some ⟨.iV s1,h,[]⟩)(t105:∀h,M.ext 105 [.str b] h=some ⟨.iV s2,h,[]⟩)
 (q49:∀h,M.ext 49 [.iV 863999999] h=some ⟨.str m,h,[]⟩) (r48:∀h,M.ext 48 [.str b,.str m] h=some ⟨.iV c2,h,[]⟩):bg M 33 [.agg [.str a,.str b]] [] ⟨.iV (lh c1 s1 s2 (decide (0<c2))),[],[]⟩:=by
 refine bY (by rw[hft];exact MR) aq ?_;unfold EU;simp only[enter];by_cases h1:0<c1
 . rw[show lh c1 s1 s2 (decide (0<c2))=11 by simp[lh,h1]];repeat' first|apply aaQ|apply aa|apply aaf|apply aad|apply abw|apply abC|apply aU|(apply abz;rfl)|(apply abx;rfl)|(apply abV;rfl;rfl)|(apply adf;rfl;rfl)|(apply abJ;rfl;rfl;exact q110 _ _ (Dp rfl rfl rfl))|(apply abJ;rfl;rfl;first|exact q48 _)|(apply acn;rfl;rfl;rfl)|(apply abU;rfl;rfl;rfl)|(apply abh;rfl;rfl)|(apply abl;rfl;rfl)|(intro _;omega)|intro _
   all_goals try omega
   all_goals exact⟨.inr rfl,rfl,_,rfl,rfl,rfl⟩
 . by_cases h2:s1<0
   all_goals
   . by_cases h3:s2<=0
     all_goals
     . by_cases h4:0<c2
       all_goals
       . simp only[lh,h1,h2,h3,h4,decide_true,decide_false,if_false,or_true,if_true,or_false,b5];repeat' first|(apply adN;rfl;rfl;(first|(simp only[nca];rfl)|rfl);first|exact lf _|exact t105 _|exact q49 _|exact r48 _)|apply aaQ|apply aa|apply aaf|apply aad|apply abw|apply abC|apply aU|apply adr|apply adI|(apply aeZ;rfl)|(apply afa;rfl)|(apply adO;rfl)|(apply adJ;rfl;rfl;(first|(simp only[nca];rfl)|rfl))|(apply abz;rfl)|(apply abx;rfl)|(apply abR;rfl;rfl)|(apply adZ;rfl;rfl)|(apply abV;rfl;rfl)|(apply adf;rfl;rfl)|(apply aco;rfl;rfl)|(apply acw;rfl;rfl)|(apply abJ;rfl;rfl;exact q110 _ _ (Dp rfl rfl rfl))|(apply abJ;rfl;rfl;first|exact q48 _)|(apply acn;rfl;rfl;rfl)|(apply abU;rfl;rfl;rfl)|(apply abh;rfl;rfl)|(apply abl;rfl;rfl)|(intro _;omega)|intro _
         all_goals try omega
         all_goals exact⟨.inr rfl,rfl,_,rfl,rfl,rfl⟩
theorem w31 (hft:M.FT=FT)(a b:aj):bg M 31 [.agg [.str a,.str b]] [] ⟨.bool (decide (20<a.length\/20<b.length)),[],[]⟩:=by
 refine bY (by rw[hft];exact abW) aq ?_;unfold MQ;simp only[enter];by_cases h:20<a.length
 . rw[decide_eq_true (.inl h)];repeat' first|apply aaQ|apply aa|apply aaf|apply aad|apply abw|(apply adU;rfl)|(apply abV;rfl;rfl)|(apply aco;rfl;rfl)|(apply acn;rfl;rfl;rfl)|(apply abU;rfl;rfl;rfl)|(apply abh;rfl;rfl)|(apply abl;rfl;rfl)|(intro _;omega)|intro _
   all_goals try omega
   all_goals exact⟨.inr rfl,rfl,_,rfl,rfl,rfl⟩
 . by_cases h2:20<b.length
   . rw[decide_eq_true (.inr h2)];repeat' first|apply aaQ|apply aa|apply aaf|apply aad|apply abw|(apply adb;rfl)|(apply abV;rfl;rfl)|(apply acw;rfl;rfl)|(apply acn;rfl;rfl;rfl)|(apply abU;rfl;rfl;rfl)|(apply abh;rfl;rfl)|(apply abl;rfl;rfl)|(intro _;omega)|intro _
     all_goals try omega
     all_goals exact⟨.inr rfl,rfl,_,rfl,rfl,rfl⟩
   . rw[decide_eq_false ac];repeat' first|apply aaQ|apply aa|apply aaf|apply aad|apply abw|(apply adb;rfl)|(apply abV;rfl;rfl)|(apply acw;rfl;rfl)|(apply acn;rfl;rfl;rfl)|(apply abU;rfl;rfl;rfl)|(apply abh;rfl;rfl)|(apply abl;rfl;rfl)|(intro _;omega)|intro _
     all_goals try omega
     all_goals exact⟨.inr rfl,rfl,_,rfl,rfl,rfl⟩
open Go.Proofs
theorem MW:∀l,Go.Ab.Ch5.bK l=bK l
 | []=>rfl
 | e::r=>by
  show (if e=0 then Go.Ab.Ch5.bK r else e)=(if e=0 then bK r else e);rw[MW r]
theorem MX:ba Tryz.prog gl 90 jc:=BK fun l cap h=>by
 rw[←MW];exact Go.Ab.Ch5.w90 (cap:=cap) bF l h
theorem MY:ba Tryz.prog gl 91 jb:=by
 intro xs h r hq;unfold jb at hq;split at hq
 . cases hq;exact uy nH bP (w91 (M:=bx Tryz.prog FT []) bF _ _) (gE.same rfl) rfl (.inl rfl)
 . cases hq
def EY:Spec:=Ai [] (.bool true)
theorem acp:ba Tryz.prog gl 15 EY:=Qv HO rfl rfl SB
noncomputable def yq:Spec:=sK TF 143
theorem acq:ba Tryz.prog gl 143 yq:=bG wD
theorem acr {n:Int}(hn : -9223372036854775808<=n/\n<9223372036854775808):∃v0,cL v0 (n:Rat)/\∀h,yq [.iV n] h=some ⟨v0,h,[]⟩:=by
 obtain⟨v0,h1,h2⟩:=UU (eF.c (N:=1) am am) hn;exact⟨v0,by unfold cL;rw[b6,b7];exact h1,dM h2 rfl⟩
theorem acs {n:Int}(hn : -9223372036854775808<=n/\n<9223372036854775808):Dq 20 (n:Rat):=by
 have e:(10:Int)^20=100000000000000000000:=by decide
 unfold Dq;rw[b6,b7,e];exact⟨by unfold al;split <;> omega,am⟩
noncomputable def tg:Spec:=sK TJ 173
theorem acu:ba Tryz.prog gl 173 tg:=bG wu
theorem MZ (v:AV)(q:Rat)(hv:cL v q)(h:ae):tg [v] h=some ⟨.iV (br q.num),h,[]⟩:=dM (UW (eJ.c (N:=1) am) hv) (kV hv.top) h
noncomputable def Na:List (Nat×Spec):=[(130,sZ),(129,yf)]
noncomputable def EZ:Spec:=sK Na 49
theorem acv:ba Tryz.prog gl 49 EZ:=bG (aT EE (aT ME bP))
theorem k49 (n:Int)(h:ae)(hn : -9223372036854775808<=n/\n<9223372036854775808):EZ [.iV n] h=some ⟨.str (aQ (n:Rat)),h,[]⟩:=by
 obtain⟨v0,k,q⟩:=EK n hn;exact cz (w49 (M:=bx Tryz.prog FT Na) bF q fun h=>EH h k (Eo (N:=100) am hn)) rfl rfl rfl h
end Go.Ab.Ch5.N

/-
  Own work: marks of chapter 1: the reference's rounding, winds, the law's own helpers.
-/
namespace Go.Ab.Ch5.N.K
variable {inv:eW} {F:FuncId->Option cU}
end Go.Ab.Ch5.N.K

/-
  Own work: the contracts of marks as a table.
-/
namespace Go.Ab
variable {ks:List Nat} {N:Nat}
end Go.Ab
namespace Go.Ab.Ch5.N.K
open Go.Proofs
end Go.Ab.Ch5.N.K

/-
  Own work: stadionlaw05.FinishOfficials answers true.
-/
namespace Go.Ab.Ch5.N
open Go.Ab.aX K
variable {M:ax} {cap:Option Nat} {N:Nat}
open Go.Proofs
def qx:Int:=863999999
theorem Nc:Dq 20 (qx:Rat):=acs am
noncomputable def Fa:Spec:=sK [(143,yq),(147,kX)] 101
theorem acx:ba Tryz.prog gl 101 Fa:=bG (aT acq (aT wF bP))
theorem acy {v va vb:AV}{p q:Rat}(hv:Rd v va vb p q)(hq:Dq 200 q)(h:ae):Fa [v] h=some ⟨.bool (decide (0<gw q qx)),h,[]⟩:=by
 obtain⟨vm,hm,q143⟩:=acr (n:=qx) am;have q147:=CO (N:=1000) am am vb vm q qx hv.hb hm (hq.bq am) (Nc.bq am);have ht:v.top=0:=by
  obtain⟨_,_,_,_,_,_,_,_,_,_,rfl,_,⟨t1,t2,t3,t4⟩,_⟩:=hv.shape;simp[AV.top,bz,t1,t2,t3,t4]
 exact cz (ach (M:=bx Tryz.prog FT [(143,yq),(147,kX)]) bF hv q143 q147) (kV ht) rfl rfl h
noncomputable def yr:List (Nat×Spec):=[(172,Dt),(90,jc),(165,Ds),(147,kX),(173,tg),(91,jb),(101,Fa)]
theorem acz:cB Tryz.prog gl (bB yr):=aT YX (aT MX (aT YS (aT wF (aT acu (aT MY (aT acx bP))))))
noncomputable def qy:Spec:=sK yr 107
theorem Nd:ba Tryz.prog gl 107 qy:=bG acz
theorem Nf {v:AV}{h:ae}{l:List Int}(hi:gm h v=some l)(hl:l.length<1000):jc [v] h=some ⟨.iV (bK l),h,[]⟩:=by
 show (match gm h v with|some l=>_|none=>_)=_;rw[hi];exact if_pos ac
theorem Fb (T:List (Nat×Spec))(h1:∀ar h,bB T 90 ar h=jc ar h)(h2:∀ar h,bB T 91 ar h=jb ar h):td (bx Tryz.prog FT T) where
 ft:=bF
 mL:=fun _v h _l hi hl=>(h1 _ _).trans (Nf hi hl)
 EX:=fun _t _e h=>h2 _ _
theorem acA {a b:aj}{e:Int}(la:a.length<1000000)(lb:b.length<1000000)(he:bK [cO a,cO b]=e)(h0:e≠0)(h:ae):qy [.agg [.str a,.str b]] h=some ⟨.ay [MV,.iV e],h,[]⟩:=
 cz (aci (Fb yr (fun _ _=>rfl) (fun _ _=>rfl)) (fun h=>xp a h la) (fun h=>xp b h lb) he h0) rfl rfl rfl h
def yt (p q:Rat):Int:=lh (gw p q) (br p.num) (br q.num) (decide (0<gw q qx))
theorem acB {p q:Rat}(hp:Dq 60 p)(hq:Dq 60 q):∃v va vb,Rd v va vb p q/\∀h,qy [.agg [.str (aQ p),.str (aQ q)]] h=some ⟨.ay [v,.iV (yt p q)],h,[]⟩:=by
 have lp:=oz hp am am;have lq:=oz hq am am;obtain⟨va,ha,qa⟩:=KI (N:=1000) am am p (hp.lq am am);obtain⟨vb,hb,qb⟩:=KI (N:=1000) am am q (hq.lq am am);obtain⟨v,hv⟩:=Rd.mk' ha hb;have q147:=CO (N:=1000) am am va vb p q ha hb (hp.bq am) (hq.bq am);refine⟨v,va,vb,hv,dM (acj (Fb yr (fun _ _=>rfl) (fun _ _=>rfl)) hv (fun h=>?_) (fun h=>?_) qa qb q147 (MZ va p ha) (MZ vb q hb) (acy hv (hq.mono am))) rfl⟩
 . exact(xp _ h lp).trans (by rw[xf (k:=60) am am hp])
 . exact(xp _ h lq).trans (by rw[xf (k:=60) am am hq])
theorem Rd.top {v va vb:AV}{p q:Rat}(hv:Rd v va vb p q):v.top=0:=by
 obtain⟨_,_,_,_,_,_,_,_,_,_,rfl,_,⟨t1,t2,t3,t4⟩,_⟩:=hv.shape;simp[AV.top,bz,t1,t2,t3,t4]
noncomputable def Fc:Spec:=sL [(104,xR)] 110
theorem acC:ba Tryz.prog gl 110 Fc:=jv (aT aag bP)
theorem Ng {a b:aj}(la:a.length<1000000)(lb:b.length<1000000)(v:AV)(h:ae)(hf:dv h v (.vs [.str a,.str b] 2 none)):Fc [v] h=some ⟨.iV (if cO a≠0 then cO a else cO b),h,[]⟩:=
 pJ (ack (M:=bx Tryz.prog FT [(104,xR)]) (cap:=none) bF a b (fun h=>LF a h la) (fun h=>LF b h lb)) rfl rfl rfl (.cons hf .nil)
noncomputable def nF:List (Nat×Spec):=[(110,Fc),(48,tc),(105,lf),(49,EZ)]
noncomputable def th:Spec:=sK nF 33
theorem acD:ba Tryz.prog gl 33 th:=bG (aT acC (aT ML (aT ET (aT acv bP))))
theorem ti {x y:Int}:bK [x,y]=if x≠0 then x else y:=by
 by_cases h:x=0
 . subst h;by_cases h2:y=0
   . subst h2;rfl
   . simp[bK,h2]
 . simp[bK,h]
theorem acE {a b:aj}(la:a.length<1000000)(lb:b.length<1000000){e:Int}(he:bK [cO a,cO b]=e)(h0:e≠0)(h:ae):th [.agg [.str a,.str b]] h=some ⟨.iV e,h,[]⟩:=by
 rw[ti]at he;refine cz (acm (M:=bx Tryz.prog FT nF) bF (fun v h hf=>?_) h0) rfl rfl rfl h;rw[←he];exact Ng la lb v h hf
theorem k33 {p q:Rat}(hp:Dq 60 p)(hq:Dq 60 q)(h:ae):th [.agg [.str (aQ p),.str (aQ q)]] h=some ⟨.iV (yt p q),h,[]⟩:=by
 have lp:=oz hp am am;have lq:=oz hq am am;refine cz (w33 (M:=bx Tryz.prog FT nF) bF (fun v h hf=>?_) (fun h=>yn p q h (hp.mono am) (hq.mono am)) (yl p) (yl q) (fun h=>k49 863999999 h am) (fun h=>yn q qx h (hq.mono am) (Nc.mono am))) rfl rfl rfl h;refine(Ng lp lq v h hf).trans ?_;rw[xf (k:=60) am am hp,xf (k:=60) am am hq];rfl
noncomputable def Nh:Spec:=sK [] 31
theorem acG:ba Tryz.prog gl 31 Nh:=bG bP
set_option maxRecDepth 1000000
def t9:ao:=.seq (zR [zm 94 0,zl 95 94,zc 96 .lss 95 2] (.cond (.l 96) (zR [⟨.p 1,.mv (.c (.bool true)),none⟩] (.ret)) (.skip))) (.seq (.draw [(zm 97 0,[]),(⟨.l 98,.eL none 2 (.l 97) (kI 0),none⟩,[]),(zT 99 2 98,[]),(zm 100 0,[0,1,2]),(zm 101 0,[0,1,2,3]),(zl 102 101,[0,1,2,3]),(zc 103 .sub 102 1,[0,1,2,3]),(za 104 2 100 103,[0,1,2]),(zT 105 2 104,[0,1,2]),(⟨.p 8,.alloc 44 [.str [],.str []],none⟩,[0,1,2,3,4,5,6,7,8]),(⟨.p 9,.alloc 44 [.str [],.str []],none⟩,[0,1,2,3,4,5,6,7,8,9]),(zs 2 8 99,[3,4,5,6,7,8]),(zs 2 9 105,[])]) (zR [zt 107 2 8,zt 108 2 9,z2 109 53 107 108,zn 106 109,ze 110 0 106,ze 111 1 106,zw 10 110,zw 11 111] (.seq (.draw [(zt 112 2 8,[]),(z1 113 33 112,[]),(zt 114 2 9,[0,1]),(z1 115 33 114,[]),(⟨.l 116,.dX 3 2 1 [.iV (0)] [(0,1,(.l 113)),(1,1,(.l 115))],none⟩,[]),(z1 117 25 116,[]),(zw 2 117,[])]) (.seq (zR [zm 118 2,zc 119 .neq 118 0] (.cond (.l 119) (zR [zm 120 10,zm 121 11,zm 122 2,⟨.l 123,.call (kF 42) [(.l 120),(.l 121),(.l 122),(kI 0)],none⟩,zw 1 123] (.ret)) (.skip))) (zR [zm 124 10,zm 125 11,zt 126 2 8,zt 127 2 9,z2 128 54 126 127,⟨.l 129,.call (kF 42) [(.l 124),(.l 125),(kI 0),(.l 128)],none⟩,zw 1 129] (.ret))))))
def oC:ao:=.seq (zR [zm 35 3,zm 36 0,zl 37 36,zb 38 .lss 35 37] (.cond (.l 38) (.skip) (.exit 0))) (.seq (.block 1 (.seq (zR [zm 41 0,zm 42 3,za 43 2 41 42,zT 44 2 43,z1 45 31 44] (.cond (.l 45) (zR [⟨.p 1,.mv (.c (.bool true)),none⟩] (.ret)) (.skip))) (zR [zm 46 2,zc 47 .eql 46 0] (.cond (.l 47) (.region [zm 48 0,zm 49 3,za 50 2 48 49,zT 51 2 50,z1 52 33 51,zw 2 52]) (.skip))))) (.region [zm 39 3,zc 40 .add 39 1,zw 3 40]))
def oE:ao:=.seq (zR [zm 79 7,zm 80 4,zl 81 80,zb 82 .lss 79 81] (.cond (.l 82) (.skip) (.exit 2))) (.seq (.block 3 (.seq (.draw [(zm 85 4,[]),(zm 86 7,[0]),(za 87 2 85 86,[]),(zT 88 2 87,[]),(zm 89 6,[0,1,2,3]),(zm 90 7,[0,1,2,3,4]),(za 91 2 89 90,[0,1,2,3]),(zT 92 2 91,[0,1,2,3]),(⟨.l 93,.eq true (.lv [(0,1,false,.int),(1,1,false,.int)]) (.l 88) (.l 92),none⟩,[])]) (.cond (.l 93) (zR [⟨.p 1,.mv (.c (.bool false)),none⟩] (.ret)) (.skip)))) (.region [zm 83 7,zc 84 .add 83 1,zw 7 84]))
def b9:ao:=zR [⟨.p 1,.mv (.c (.bool false)),none⟩] (.seq (zR [⟨.l 13,.call (kF 15) [],none⟩,zu 14 13,zn 15 14,zg (zm 16 0) 15 false,zg (zl 17 16) 15 false,zg (zc 18 .gtr 17 12) 15 false,zg (zn 19 18) 15 false,zg (zm 20 0) 19 true,zg (zl 21 20) 19 true,zg (zc 22 .leq 21 256) 19 true,zg (zp 23 19 22) 15 false,zP 24 15 23,zn 25 24,zg (zm 26 0) 25 false,zg (zl 27 26) 25 false,zg (zc 28 .gtr 27 260) 25 false,zP 29 25 28] (.cond (.l 29) (zR [⟨.l 30,.call (kF 15) [],none⟩,zw 1 30] (.ret)) (.skip))) (zR [zm 31 0,zl 32 31,zc 33 .gtr 32 256,⟨.l 34,.call (kF 20) [(.l 33),(kI 5)],none⟩,zw 2 34] (.seq (zR [zi 3 0] (.block 0 (.loop oC))) (zR [zm 54 0,z1 55 51 54,zn 53 55,ze 56 0 53,ze 57 1 53,zw 4 56,zw 5 57] (.seq (zR [zm 58 2,zc 59 .neq 58 0] (.cond (.l 59) (zR [zm 60 4,zl 61 60,zc 62 .neq 61 0,zn 63 62,zg (zm 64 5) 63 false,zg (zm 65 2) 63 false,zg (zb 66 .neq 64 65) 63 false,zP 67 63 66] (.cond (.l 67) (zR [⟨.p 1,.mv (.c (.bool false)),none⟩] (.ret)) (.skip))) (zR [zm 68 0,z1 69 52 68,zw 6 69] (.seq (zR [zm 70 5,zc 71 .neq 70 0,zn 72 71,zg (zm 73 4) 72 false,zg (zl 74 73) 72 false,zg (zm 75 6) 72 false,zg (zl 76 75) 72 false,zg (zb 77 .neq 74 76) 72 false,zP 78 72 77] (.cond (.l 78) (zR [⟨.p 1,.mv (.c (.bool false)),none⟩] (.ret)) (.skip))) (zR [zi 7 0] (.block 2 (.loop oE)))))))
       t9)))))
theorem ft9:FT 9=some ⟨130,[0,2,3,4,5,6,7,8,9,10,11,12],[.var (.p 1)],b9⟩:=by kernel_rfl
def qz:ao:=zR [zr 18 .lss 12 11] (.seq (.cond (.l 18) (.skip) (.exit 0)) (.seq (.block 1 (zR [⟨.l 19,.eL none 2 (.p 10) (.p 12),none⟩,zT 20 2 19,⟨.p 4,.alloc 44 [.str [],.str []],none⟩,zs 2 4 20] (zR [zt 22 2 4,z1 23 107 22,zn 21 23,ze 24 0 21,ze 25 1 21,⟨.p 5,.alloc 175 [.iV (0),.ab,.iV (0),.ab,.iV (0),.ab,.iV (0),.ab],none⟩,zs 8 5 24,zw 6 25] (.seq (zR [zm 26 6,zc 27 .neq 26 0] (.cond (.l 27) (zR [zm 28 6,⟨.p 1,.mv (.c (.ab)),none⟩,zw 2 28] (.ret)) (.skip))) (.region [zm 29 3,zt 30 8 5,⟨.l 31,.dX 175 1 8 [.iV (0),.ab,.iV (0),.ab,.iV (0),.ab,.iV (0),.ab] [(0,8,(.l 30))],none⟩,⟨.l 32,.append 175 8 128 (.l 29) (.l 31),none⟩,zw 3 32]))))) (.region [zq 33 .add 12 1,zw 12 33])))
def qA:ao:=.seq (zR [zm 41 9,zm 42 3,zl 43 42,zb 44 .lss 41 43] (.cond (.l 44) (.skip) (.exit 4))) (.seq (.block 5 (.seq (.draw [(zm 47 3,[]),(zm 48 8,[0]),(za 49 8 47 48,[]),(zT 50 8 49,[]),(zm 51 3,[0,1,2,3]),(zm 52 9,[0,1,2,3,4]),(za 53 8 51 52,[0,1,2,3]),(zT 54 8 53,[0,1,2,3]),(z2 55 135 50 54,[]),(zc 56 .eql 55 0,[])]) (.cond (.l 56) (.region [zm 57 7,zm 58 8,zm 59 9,⟨.l 60,.build [.iV (0),.iV (0)] [(0,1,(.l 58)),(1,1,(.l 59))],none⟩,⟨.l 61,.dX 77 1 2 [.iV (0),.iV (0)] [(0,2,(.l 60))],none⟩,⟨.l 62,.append 77 2 16 (.l 57) (.l 61),none⟩,zw 7 62]) (.skip)))) (.region [zm 45 9,zc 46 .add 45 1,zw 9 46]))
def tj:ao:=zR [zr 37 .lss 14 13] (.seq (.cond (.l 37) (.skip) (.exit 2)) (.seq (.block 3 (zR [zm 38 14,zw 8 38] (zR [zm 39 8,zc 40 .add 39 1,zw 9 40] (.block 4 (.loop qA))))) (.region [zq 63 .add 14 1,zw 14 63])))
def Fe:ao:=zR [⟨.p 1,.mv (.c (.ab)),none⟩,zi 2 0] (.seq (zR [zm 12 0,zl 13 12,zc 14 .gtr 13 256] (.cond (.l 14) (zR [⟨.p 1,.mv (.c (.ab)),none⟩,zi 2 5] (.ret)) (.skip))) (zR [⟨.p 3,.mv (.c (.ab)),none⟩] (.seq (zR [⟨.p 10,.mv (.p 0),none⟩,⟨.p 11,.len .sl (.p 10),none⟩,zi 12 0] (.block 0 (.loop qz))) (zR [⟨.p 7,.mv (.c (.ab)),none⟩] (.seq (zR [zm 34 3,⟨.p 13,.len .sl (.l 34),none⟩,zi 14 0] (.block 2 (.loop tj))) (zR [zm 64 7,zw 1 64,zi 2 0] (.ret)))))))
theorem Ni:FT 51=some ⟨65,[0,2,3,4,6,7,8,9,10,11,15,16,17,35,36],[.var (.p 1),.var (.p 2)],Fe⟩:=by kernel_rfl
def qB:ao:=.seq (zR [zm 14 4,zm 15 0,zl 16 15,zb 17 .lss 14 16] (.cond (.l 17) (.skip) (.exit 2))) (.seq (.block 3 (.seq (.draw [(zm 20 0,[]),(zm 21 3,[0]),(za 22 2 20 21,[]),(zT 23 2 22,[]),(zm 24 0,[0,1,2,3]),(zm 25 4,[0,1,2,3,4]),(za 26 2 24 25,[0,1,2,3]),(zT 27 2 26,[0,1,2,3]),(z2 28 54 23 27,[]),(zc 29 .eql 28 0,[])]) (.cond (.l 29) (.region [zm 30 2,zm 31 3,zm 32 4,⟨.l 33,.build [.iV (0),.iV (0)] [(0,1,(.l 31)),(1,1,(.l 32))],none⟩,⟨.l 34,.dX 77 1 2 [.iV (0),.iV (0)] [(0,2,(.l 33))],none⟩,⟨.l 35,.append 77 2 16 (.l 30) (.l 34),none⟩,zw 2 35]) (.skip)))) (.region [zm 18 4,zc 19 .add 18 1,zw 4 19]))
def Ff:ao:=.seq (zR [zm 6 3,zm 7 0,zl 8 7,zb 9 .lss 6 8] (.cond (.l 9) (.skip) (.exit 0))) (.seq (.block 1 (zR [zm 12 3,zc 13 .add 12 1,zw 4 13] (.block 2 (.loop qB)))) (.region [zm 10 3,zc 11 .add 10 1,zw 3 11]))
def Nj:ao:=zR [⟨.p 1,.mv (.c (.ab)),none⟩] (zR [⟨.p 2,.mv (.c (.ab)),none⟩] (.seq (zR [zi 3 0] (.block 0 (.loop Ff))) (zR [zm 36 2,zw 1 36] (.ret))))
theorem acI:FT 52=some ⟨37,[0,2,3,4,5],[.var (.p 1)],Nj⟩:=by kernel_rfl
def Fg:ao:=zR [zx 2 44 2 0,zx 3 44 2 1,zi 4 0,zi 5 0] (zR [zt 12 2 2,z1 13 107 12,zn 11 13,ze 14 0 11,ze 15 1 11,⟨.p 6,.alloc 175 [.iV (0),.ab,.iV (0),.ab,.iV (0),.ab,.iV (0),.ab],none⟩,zs 8 6 14,zw 7 15] (zR [zt 17 2 3,z1 18 107 17,zn 16 18,ze 19 0 16,ze 20 1 16,⟨.p 8,.alloc 175 [.iV (0),.ab,.iV (0),.ab,.iV (0),.ab,.iV (0),.ab],none⟩,zs 8 8 19,zw 9 20] (.seq (zR [zm 21 7,zm 22 9,⟨.l 23,.dX 28 2 1 [.iV (0)] [(0,1,(.l 21)),(1,1,(.l 22))],none⟩,z1 24 90 23,zw 10 24] (zR [zm 25 10,zc 26 .neq 25 0,zn 27 26,zg (zt 28 2 2) 27 false,zg (zt 29 2 3) 27 false,⟨.l 30,.eq false (.lv [(0,1,false,.str),(1,1,false,.str)]) (.l 28) (.l 29),some ((.l 27),false)⟩,zP 31 27 30] (.cond (.l 31) (zR [zm 32 10,zi 4 0,zw 5 32] (.ret)) (.skip)))) (zR [zt 33 8 6,zt 34 8 8,z2 35 135 33 34,zw 4 35,zi 5 0] (.ret)))))
theorem Nk:FT 53=some ⟨36,[0,1,2,3,4,5,6,7,8,9,10],[.var (.p 4),.var (.p 5)],Fg⟩:=by kernel_rfl
def Nl:ao:=zR [zx 2 44 2 0,zx 3 44 2 1,zi 4 0] (.seq (zR [zt 5 2 2,zt 6 2 3,⟨.l 7,.eq false (.lv [(0,1,false,.str),(1,1,false,.str)]) (.l 5) (.l 6),none⟩] (.cond (.l 7) (zR [zi 4 0] (.ret)) (.skip))) (.seq (zR [zf 8 1 2,zd 9 1 8,zf 10 0 3,zd 11 1 10,z2 12 48 9 11,zc 13 .leq 12 0] (.cond (.l 13) (zR [zi 4 (-1)] (.ret)) (.skip))) (.seq (zR [zf 14 1 3,zd 15 1 14,zf 16 0 2,zd 17 1 16,z2 18 48 15 17,zc 19 .leq 18 0] (.cond (.l 19) (zR [zi 4 1] (.ret)) (.skip))) (zR [zi 4 0] (.ret)))))
theorem acJ:FT 54=some ⟨20,[0,1,2,3,4],[.var (.p 4)],Nl⟩:=by kernel_rfl
def Nm:ao:=zR [zx 2 175 8 0,zx 3 175 8 1,zi 4 0] (.seq (.block 0 (zR [zf 6 0 2,zT 7 4 6,zf 8 0 3,zT 9 4 8,z2 10 189 7 9,zn 11 10,zg (zf 12 4 2) 11 true,zg (zT 13 4 12) 11 true,zg (zf 14 4 3) 11 true,zg (zT 15 4 14) 11 true,zg (z2 16 189 13 15) 11 true,zp 17 11 16,zn 5 17] (.cond (.l 5) (zR [zi 4 0] (.ret)) (zR [zf 19 4 2,zT 20 4 19,zf 21 0 3,zT 22 4 21,z2 23 147 20 22,zc 24 .leq 23 0,zn 18 24] (.cond (.l 18) (zR [zi 4 (-1)] (.ret)) (zR [zf 26 4 3,zT 27 4 26,zf 28 0 2,zT 29 4 28,z2 30 147 27 29,zc 31 .leq 30 0,zn 25 31] (.cond (.l 25) (zR [zi 4 1] (.ret)) (.skip)))))))) (zR [zi 4 0] (.ret)))
theorem acK:FT 135=some ⟨32,[0,1,2,3,4],[.var (.p 4)],Nm⟩:=by kernel_rfl
def Nn:ao:=zR [zx 2 173 4 0,zx 3 173 4 1,⟨.p 4,.mv (.c (.bool false)),none⟩] (zR [zt 5 4 2,zt 6 4 3,z2 7 147 5 6,zc 8 .eql 7 0,zw 4 8] (.ret))
theorem acL:FT 189=some ⟨9,[0,1,2,3,4],[.var (.p 4)],Nn⟩:=by kernel_rfl
def fP (p:aj×aj):List AV:=[.str p.1,.str p.2]
theorem acM {x y:Int}(h:cM x=cM y):x=y:=by
 have h1:=sW (x:Rat);have h2:=sW (y:Rat);have c1:=oc (x:Rat);have c2:=oc (y:Rat);rw[Er,b6,b7,if_pos rfl]at c1 c2;rw[h]at c1;have e1:decide (x<0)=decide (y<0):=c1.1.symm.trans c2.1;have e2:=JA (c1.2.symm.trans c2.2);rw[decide_eq_decide]at e1;unfold al at e2;split at e2 <;> split at e2 <;> omega
theorem acN {p q:Rat}(h:aQ p=aQ q):p=q:=by
 obtain⟨_,_,_,_,_,e1⟩:=sW p;obtain⟨_,_,_,_,_,e2⟩:=sW q;rw[h,e2,Prod.mk.injEq]at e1;obtain⟨h1,h2⟩:=e1;have hn:=acM h1;have hd:q.den=p.den:=by
  split at h2 <;> split at h2
  . omega
  . cases h2
  . cases h2
  . exact JA (Option.some.inj h2)
 exact Rat.ext hn.symm hd.symm
noncomputable def dW (s:aj):Rat:=Classical.epsilon fun q=>s=aQ q
theorem acO (q:Rat):dW (aQ q)=q:=
 (acN (Classical.epsilon_spec (p:=fun p=>aQ q=aQ p) ⟨q,rfl⟩)).symm
theorem No {s:aj}{k:Nat}(h:cO s=0)(hl:s.length<=k):s=aQ (dW s)/\Dq k (dW s):=by
 obtain⟨q,rfl,hq⟩:=YC h hl;rw[acO];exact⟨rfl,hq⟩
def lj (c0 c1 c2 c3:Int):Int:=if c0=0/\c1=0 then 0 else if c2<=0 then -1 else if c3<=0 then 1 else 0
noncomputable def tk (x y:aj×aj):Int:=lj (gw (dW x.1) (dW y.1)) (gw (dW x.2) (dW y.2)) (gw (dW x.2) (dW y.1)) (gw (dW y.2) (dW x.1))
noncomputable def oF (t:List (aj×aj))(i k:Nat):Bool:=decide (tk t[i]! t[k]! = 0)
noncomputable def eH (t:List (aj×aj))(i k:Nat):List (Nat×Nat):=((List.range k).filter fun j=>decide (i<j) && oF t i j).map fun j=>(i,j)
noncomputable def dx (t:List (aj×aj))(i:Nat):List (Nat×Nat):=(List.range i).flatMap fun j=>eH t j t.length
theorem yu {t:List (aj×aj)}{i k:Nat}(h:i<k):eH t i (k+1)=eH t i k++if oF t i k then [(i,k)] else []:=by
 unfold eH;rw[c6,List.filter_append,c7];congr 1;cases hs:oF t i k <;> simp[hs,h]
theorem Np {t:List (aj×aj)}{i k:Nat}(h:k<=i+1):eH t i k=[]:=by
 unfold eH;rw[List.map_eq_nil_iff,List.filter_eq_nil_iff];intro j hj;have:=List.mem_range.1 hj;simp;intro h;omega
theorem Fh {t:List (aj×aj)}{i:Nat}:dx t (i+1)=dx t i++eH t i t.length:=by
 unfold dx;rw[c6,List.flatMap_append];simp
theorem Fi {t:List (aj×aj)}{i k:Nat}:(eH t i k).length<=k:=by
 unfold eH;rw[List.length_map];exact Nat.le_trans (List.length_filter_le _ _) aq
theorem yw {t:List (aj×aj)}:∀{i:Nat},(dx t i).length<=i*t.length
 | 0=>by simp[dx]
 | i+1=>by
  rw[Fh,bj,Nat.succ_mul];exact Nat.add_le_add yw Fi
theorem Fj {f:aj×aj->Int}:∀{t:List (aj×aj)} {i:Nat},i<t.length->(∀k,k<i->f t[k]! = 0)->f t[i]! ≠ 0->bK (t.map f)=f t[i]!
 | x::t,0,_,_,h=>by
  have:f x≠0:=h;show (if f x=0 then _ else _)=_;rw[if_neg this];rfl
 | x::t,i+1,hi,ha,h=>by
  have h0:f x=0:=ha 0 ac;show (if f x=0 then _ else _)=_;rw[if_pos h0];have:=Fj (f:=f) (t:=t) (i:=i) (by simpa using hi) (fun k hk=>by simpa using ha (k+1) ac) (by simpa using h);rw[this];simp
theorem Nq {f:aj×aj->Int}:∀{t:List (aj×aj)},(∀k,k<t.length->f t[k]! = 0)->bK (t.map f)=0
 | [],_=>rfl
 | x::t,ha=>by
  have h0:f x=0:=ha 0 aq;show (if f x=0 then _ else _)=_;rw[if_pos h0];exact Nq fun k hk=>by simpa using ha (k+1) (by simpa using hk)
theorem Fk (a b c d:aj):dG 100 (.lv [(0,1,false,.str),(1,1,false,.str)]) (.agg [.str a,.str b]) (.agg [.str c,.str d])=some (decide (a=c/\b=d)):=by
 by_cases h:a=c
 . subst h;by_cases h2:b=d
   . subst h2;simp only[dG,goEq,partOf,aZ,bc,b5,if_false,beq_self_eq_true,and_self,decide_true]
   . have e:(b == d)=false:=beq_eq_false_iff_ne.2 h2;simp only[dG,goEq,partOf,aZ,bc,b5,if_false,beq_self_eq_true,e,h2,and_false,decide_false]
 . have e:(a == c)=false:=beq_eq_false_iff_ne.2 h;simp only[dG,goEq,partOf,aZ,b5,if_false,e,h,false_and,decide_false]
theorem acP (hft:M.FT=FT){va vb:AV}{p q:Rat}(ha:cL va p)(hb:cL vb q){c:Int}(q147:∀h,M.ext 147 [va,vb] h=some ⟨.iV c,h,[]⟩):bg M 189 [va,vb] [] ⟨.bool (decide (c=0)),[],[]⟩:=by
 obtain⟨_,_,_,_,rfl,_,_⟩:=ha;obtain⟨_,_,_,_,rfl,_,_⟩:=hb;refine bY (by rw[hft];exact acL) aq ?_;unfold Nn;simp only[enter];by_cases h:c=0
 . rw[decide_eq_true h];repeat' first|apply aaQ|apply aa|apply aaf|apply aad|apply abw|(apply acR;rfl;rfl)|(apply abJ;rfl;rfl;first|exact q147 _)|(apply acn;rfl;rfl;rfl)|(apply abU;rfl;rfl;rfl)|(apply abl;rfl;rfl)|(intro _;omega)|intro _
   all_goals try omega
   all_goals exact⟨.inr rfl,rfl,_,rfl,rfl,rfl⟩
 . rw[decide_eq_false h];repeat' first|apply aaQ|apply aa|apply aaf|apply aad|apply abw|(apply acR;rfl;rfl)|(apply abJ;rfl;rfl;first|exact q147 _)|(apply acn;rfl;rfl;rfl)|(apply abU;rfl;rfl;rfl)|(apply abl;rfl;rfl)|(intro _;omega)|intro _
   all_goals try omega
   all_goals exact⟨.inr rfl,rfl,_,rfl,rfl,rfl⟩
theorem acQ (hft:M.FT=FT){v va vb w wa wb:AV}{p q p' q':Rat}(hv:Rd v va vb p q)(hw:Rd w wa wb p' q'){c0 c1 c2 c3:Int}(s0:∀h,M.ext 189 [va,wa] h=some ⟨.bool (decide (c0=0)),h,[]⟩)(s1:∀h,M.ext 189 [vb,wb] h=some ⟨.bool (decide (c1=0)),h,[]⟩)(s2:∀h,M.ext 147 [vb,wa] h=some ⟨.iV c2,h,[]⟩)
 (s3:∀h,M.ext 147 [wb,va] h=some ⟨.iV c3,h,[]⟩):bg M 135 [v,w] [] ⟨.iV (lj c0 c1 c2 c3),[],[]⟩:=by
 obtain⟨_,_,_,_,_,_,_,_,rfl,rfl,rfl,_,_,_⟩:=hv.shape;obtain⟨_,_,_,_,_,_,_,_,rfl,rfl,rfl,_,_,_⟩:=hw.shape;refine bY (by rw[hft];exact acK) aq ?_;unfold Nm;simp only[enter];by_cases h0:c0=0
 . rw[decide_eq_true h0]at s0;by_cases h1:c1=0
   . rw[decide_eq_true h1]at s1;rw[show lj c0 c1 c2 c3=0 from if_pos ⟨h0,h1⟩];repeat' first|apply aaQ|apply aa|apply aaf|apply aad|apply abI|apply abw|apply aU|apply cQ|(apply abz;rfl)|(apply acF;rfl)|(apply aco;rfl;rfl)|(apply abJ;rfl;rfl;first|exact s0 _|exact s1 _)|(apply acn;rfl;rfl;rfl)|(apply abU;rfl;rfl;rfl)|(apply abh;rfl;rfl)|(apply abl;rfl;rfl)
     all_goals try omega
     all_goals exact⟨.inr rfl,rfl,_,rfl,rfl,rfl⟩
   . rw[decide_eq_false h1]at s1;rw[show lj c0 c1 c2 c3=if c2<=0 then -1 else if c3<=0 then 1 else 0 from if_neg (fun h=>h1 h.2)];by_cases h2:c2<=0
     . rw[if_pos h2];repeat' first|apply aaQ|apply aa|apply aaf|apply aad|apply abI|apply abw|apply aU|apply cQ|(apply abz;rfl)|(apply abx;rfl)|(apply acF;rfl)|(apply adZ;rfl;rfl)|(apply aco;rfl;rfl)|(apply abJ;rfl;rfl;first|exact s0 _|exact s1 _|exact s2 _|exact s3 _)|(apply acn;rfl;rfl;rfl)|(apply abU;rfl;rfl;rfl)|(apply abh;rfl;rfl)|(apply abl;rfl;rfl)|(intro _;omega)|intro _
       all_goals try omega
       all_goals exact⟨.inr rfl,rfl,_,rfl,rfl,rfl⟩
     . rw[if_neg h2];by_cases h3:c3<=0
       all_goals
       . simp only[h3,if_true,if_false];repeat' first|apply aaQ|apply aa|apply aaf|apply aad|apply abI|apply abw|apply abC|apply aU|apply bE|apply cQ|(apply abz;rfl)|(apply abx;rfl)|(apply acF;rfl)|(apply adZ;rfl;rfl)|(apply aco;rfl;rfl)|(apply abJ;rfl;rfl;first|exact s0 _|exact s1 _|exact s2 _|exact s3 _)|(apply acn;rfl;rfl;rfl)|(apply abU;rfl;rfl;rfl)|(apply abh;rfl;rfl)|(apply abl;rfl;rfl)|(intro _;omega)|intro _
         all_goals try omega
         all_goals exact⟨.inr rfl,rfl,_,rfl,rfl,rfl⟩
 . rw[decide_eq_false h0]at s0;rw[show lj c0 c1 c2 c3=if c2<=0 then -1 else if c3<=0 then 1 else 0 from if_neg (fun h=>h0 h.1)];by_cases h2:c2<=0
   . rw[if_pos h2];repeat' first|apply aaQ|apply aa|apply aaf|apply aad|apply abI|apply abw|apply aU|apply cQ|(apply abz;rfl)|(apply abx;rfl)|(apply adu;rfl)|(apply adZ;rfl;rfl)|(apply acw;rfl;rfl)|(apply abJ;rfl;rfl;first|exact s0 _|exact s2 _|exact s3 _)|(apply acn;rfl;rfl;rfl)|(apply abU;rfl;rfl;rfl)|(apply abh;rfl;rfl)|(apply abl;rfl;rfl)|(intro _;omega)|intro _
     all_goals try omega
     all_goals exact⟨.inr rfl,rfl,_,rfl,rfl,rfl⟩
   . rw[if_neg h2];by_cases h3:c3<=0
     all_goals
     . simp only[h3,if_true,if_false];repeat' first|apply aaQ|apply aa|apply aaf|apply aad|apply abI|apply abw|apply abC|apply aU|apply bE|apply cQ|(apply abz;rfl)|(apply abx;rfl)|(apply adu;rfl)|(apply adZ;rfl;rfl)|(apply acw;rfl;rfl)|(apply abJ;rfl;rfl;first|exact s0 _|exact s2 _|exact s3 _)|(apply acn;rfl;rfl;rfl)|(apply abU;rfl;rfl;rfl)|(apply abh;rfl;rfl)|(apply abl;rfl;rfl)|(intro _;omega)|intro _
       all_goals try omega
       all_goals exact⟨.inr rfl,rfl,_,rfl,rfl,rfl⟩
def tn (v:AV):Prop:=∃s w s' w' t x t' x',v = .agg [.iV s,w,.iV s',w',.iV t,x,.iV t',x']/\(cI w=true/\cI w'=true/\cI x=true/\cI x'=true)
theorem Nr (C:td M){a b c d:aj}{v w:AV}(hv:tn v)(hw:tn w){e1 e2 e:Int}(q1:∀h,M.ext 107 [.agg [.str a,.str b]] h=some ⟨.ay [v,.iV e1],h,[]⟩)(q2:∀h,M.ext 107 [.agg [.str c,.str d]] h=some ⟨.ay [w,.iV e2],h,[]⟩)(he:bK [e1,e2]=e)(h0:e≠0\/(a=c/\b=d)) :
 bg M 53 [.agg [.str a,.str b],.agg [.str c,.str d]] [] ⟨.ay [.iV 0,.iV e],[],[]⟩:=by
 have f:=fun v h hi=>C.mL v h [e1,e2] hi (by show 2<1000;decide)
 rw[he]at f;obtain⟨_,_,_,_,_,_,_,_,rfl,o1,o2,o3,o4⟩:=hv;obtain⟨_,_,_,_,_,_,_,_,rfl,p1,p2,p3,p4⟩:=hw;refine bY (by rw[C.ft];exact Nk) aq ?_;unfold Fg;simp only[enter];by_cases h1:e=0
 . obtain⟨rfl,rfl⟩:a=c/\b=d:=h0.resolve_left fun h=>h h1
   obtain⟨rfl,rfl⟩:e1=0/\e2=0:=by
    rw[h1]at he;simp only[bK]at he;split at he
    . split at he <;> constructor <;> omega
    . constructor <;> omega
   rw[h1]at f ⊢;have es:=Fk a b a b;rw[decide_eq_true ⟨rfl,rfl⟩]at es;repeat' first|(apply adM;rfl;rfl;rfl;exact⟨rfl,aW _,by simp[eE,o1,o2,o3,o4]⟩;rfl)|(apply aev;rfl;rfl;exact es)|apply aaQ|apply aa|apply aaf|apply aad|apply abw|apply aU|(apply abz;rfl)|(apply adb;rfl)|(apply adf;rfl;rfl)|(apply acw;rfl;rfl)|(apply abJ;rfl;rfl;first|exact q1 _|exact q2 _|exact f _ _ rfl)|(apply acn;rfl;rfl;rfl)|(apply abU;rfl;rfl;rfl)|(apply abh;rfl;rfl)|(apply abl;rfl;rfl)|(intro _;omega)|intro _
   all_goals try omega
   all_goals exact⟨.inr rfl,rfl,_,rfl,rfl,rfl⟩
 . repeat' first|(apply adM;rfl;rfl;rfl;exact⟨rfl,aW _,by simp[eE,o1,o2,o3,o4,p1,p2,p3,p4]⟩;rfl)|apply aaQ|apply aa|apply aaf|apply aad|apply abw|apply aU|(apply abz;rfl)|(apply adU;rfl)|(apply adf;rfl;rfl)|(apply aco;rfl;rfl)|(apply abJ;rfl;rfl;first|exact q1 _|exact q2 _|exact f _ _ rfl)|(apply acn;rfl;rfl;rfl)|(apply abU;rfl;rfl;rfl)|(apply abh;rfl;rfl)|(apply abl;rfl;rfl)|(intro _;omega)|intro _
   all_goals try omega
   all_goals exact⟨.inr rfl,rfl,_,rfl,rfl,rfl⟩
theorem w53 (C:td M){a b c d:aj}{v w:AV}(hv:tn v)(hw:tn w){z:Int}(q1:∀h,M.ext 107 [.agg [.str a,.str b]] h=some ⟨.ay [v,.iV 0],h,[]⟩)(q2:∀h,M.ext 107 [.agg [.str c,.str d]] h=some ⟨.ay [w,.iV 0],h,[]⟩)(hne:¬(a=c/\b=d))(q3:∀h,M.ext 135 [v,w] h=some ⟨.iV z,h,[]⟩) :
 bg M 53 [.agg [.str a,.str b],.agg [.str c,.str d]] [] ⟨.ay [.iV z,.iV 0],[],[]⟩:=by
 have f:∀v h,gm h v=some [0,0]->M.ext 90 [v] h=some ⟨.iV 0,h,[]⟩:=fun v h hi=>C.mL v h _ hi am
 obtain⟨_,_,_,_,_,_,_,_,rfl,o1,o2,o3,o4⟩:=hv;obtain⟨_,_,_,_,_,_,_,_,rfl,p1,p2,p3,p4⟩:=hw;have e:=Fk a b c d;rw[decide_eq_false hne]at e;refine bY (by rw[C.ft];exact Nk) aq ?_;unfold Fg;simp only[enter];repeat' first|(apply adM;rfl;rfl;rfl;exact⟨rfl,aW _,by simp[eE,o1,o2,o3,o4,p1,p2,p3,p4]⟩;rfl)|(apply aev;rfl;rfl;exact e)|apply aaQ|apply aa|apply aaf|apply aad|apply abw|apply abC|(apply abx;rfl)|(apply adb;rfl)|(apply adf;rfl;rfl)|(apply acw;rfl;rfl)|(apply abJ;rfl;rfl;first|exact q1 _|exact q2 _|exact f _ _ rfl|exact q3 _)|(apply acn;rfl;rfl;rfl)|(apply abU;rfl;rfl;rfl)|(apply abh;rfl;rfl)|(apply abl;rfl;rfl)|(intro _;omega)|intro _
 all_goals try omega
 all_goals exact⟨.inr rfl,rfl,_,rfl,rfl,rfl⟩
theorem w54 (hft:M.FT=FT){a b c d:aj}{c0 c1 c2 c3:Int}(h0:(a=c/\b=d)↔(c0=0/\c1=0))(q1:∀h,M.ext 48 [.str b,.str c] h=some ⟨.iV c2,h,[]⟩)(q2:∀h,M.ext 48 [.str d,.str a] h=some ⟨.iV c3,h,[]⟩):bg M 54 [.agg [.str a,.str b],.agg [.str c,.str d]] [] ⟨.iV (lj c0 c1 c2 c3),[],[]⟩:=by
 have e:=Fk a b c d;refine bY (by rw[hft];exact acJ) aq ?_;unfold Nl;simp only[enter];by_cases hE:a=c/\b=d
 . rw[decide_eq_true hE]at e;rw[show lj c0 c1 c2 c3=0 from if_pos (h0.1 hE)];repeat' first|(apply aev;rfl;rfl;exact e)|apply aaQ|apply aa|apply aaf|apply aad|apply abw|apply aU|(apply abz;rfl)|(apply acn;rfl;rfl;rfl)|(apply abU;rfl;rfl;rfl)|(apply abl;rfl;rfl)
   all_goals exact⟨.inr rfl,rfl,_,rfl,rfl,rfl⟩
 . rw[decide_eq_false hE]at e;rw[show lj c0 c1 c2 c3=if c2<=0 then -1 else if c3<=0 then 1 else 0 from if_neg (fun h=>hE (h0.2 h))];by_cases h2:c2<=0
   . rw[if_pos h2];repeat' first|(apply aev;rfl;rfl;exact e)|apply aaQ|apply aa|apply aaf|apply aad|apply abw|apply abC|apply aU|(apply abz;rfl)|(apply abx;rfl)|(apply adZ;rfl;rfl)|(apply abJ;rfl;rfl;first|exact q1 _|exact q2 _)|(apply acn;rfl;rfl;rfl)|(apply abU;rfl;rfl;rfl)|(apply abh;rfl;rfl)|(apply abl;rfl;rfl)|(intro _;omega)|intro _
     all_goals try omega
     all_goals exact⟨.inr rfl,rfl,_,rfl,rfl,rfl⟩
   . rw[if_neg h2];by_cases h3:c3<=0
     all_goals
     . simp only[h3,if_true,if_false];repeat' first|(apply aev;rfl;rfl;exact e)|apply aaQ|apply aa|apply aaf|apply aad|apply abw|apply abC|apply aU|(apply abz;rfl)|(apply abx;rfl)|(apply adZ;rfl;rfl)|(apply abJ;rfl;rfl;first|exact q1 _|exact q2 _)|(apply acn;rfl;rfl;rfl)|(apply abU;rfl;rfl;rfl)|(apply abh;rfl;rfl)|(apply abl;rfl;rfl)|(intro _;omega)|intro _
       all_goals try omega
       all_goals exact⟨.inr rfl,rfl,_,rfl,rfl,rfl⟩
abbrev IC:=Int×Option (List Int)
def wv:Option (List Int)->AV
 | none=>.ab
 | some l=>.vs (an l) l.length none
abbrev FC:=IC×IC
def cF (c:FC):List AV:=[.iV c.1.1,wv c.1.2,.iV c.2.1,wv c.2.2]
def fB (p:FC×FC):List AV:=[.iV p.1.1.1,wv p.1.1.2,.iV p.1.2.1,wv p.1.2.2,.iV p.2.1.1,wv p.2.1.2,.iV p.2.2.1,wv p.2.2.2]
theorem tp (w:Option (List Int)):cI (wv w)=true:=by cases w <;> rfl
theorem Fl (p:FC×FC):(fB p).all cI=true:=by simp[fB,List.all_cons,tp,eE]
theorem aN.ic {v:AV}{z:Int}(h:aN v z):∃c:IC,v = .agg [.iV c.1,wv c.2]:=by
 cases h with
 | small=>exact⟨(_,none),rfl⟩
 | @fG σ z w=>exact⟨(σ,some w),rfl⟩
theorem cL.fc {v:AV}{q:Rat}(h:cL v q):∃c:FC,v = .agg (cF c):=by
 obtain⟨s,w,s',w',rfl,h1,h2⟩:=h;obtain⟨c,e1⟩:=h1.ic;obtain⟨d,e2⟩:=h2.ic;cases e1;cases e2;exact⟨(c,d),rfl⟩
def mM (t:List (aj×aj))(acc:List (FC×FC)):Prop:=∀k,k<acc.length->cL (.agg (cF acc[k]!.1)) (dW t[k]!.1)/\cL (.agg (cF acc[k]!.2)) (dW t[k]!.2)
theorem mM.snoc {t:List (aj×aj)}{acc:List (FC×FC)}{c:FC×FC}(h:mM t acc)(h1:cL (.agg (cF c.1)) (dW t[acc.length]!.1))(h2:cL (.agg (cF c.2)) (dW t[acc.length]!.2)):mM t (acc++[c]):=fun k hk=>by
 rw[bj,List.length_singleton]at hk;rcases cd (ci hk) with h3|h3
 . rw[getElem!_pos _ k (by simp;omega),List.getElem_append_left h3,←getElem!_pos acc k h3];exact h k h3
 . subst h3;rw[getElem!_pos _ acc.length aq,List.getElem_append_right (aW _)];simp only[Nat.sub_self,List.getElem_cons_zero];exact⟨h1,h2⟩
def cP (p:Nat×Nat):List AV:=[.iV (p.1:Nat),.iV (p.2:Nat)]
theorem Ns (p:Nat×Nat):(cP p).all cI=true:=rfl
structure Nt (M:ax)(t:List (aj×aj))(f:aj×aj->Int):Prop where
 ft:M.FT=FT
 acT:∀i,i<t.length->∃A:FC×FC,(∀h,M.ext 107 [.agg (fP t[i]!)] h=some ⟨.ay [.agg (fB A),.iV (f t[i]!)],h,[]⟩)/\(f t[i]! = 0->cL (.agg (cF A.1)) (dW t[i]!.1)/\cL (.agg (cF A.2)) (dW t[i]!.2))
theorem acU {t:List (aj×aj)}{f:aj×aj->Int}(C:Nt M t f)(h64:t.length<=256)(a4 a5 a6 a7 a8 a9 aD aE:AV)(K:ae)(lo:List (Nat×AV))(wr:List Nat){Q:Ex->au->Prop}
 (hR:∀e,e≠0->bK (t.map f)=e->∀a3 a4 a5 a6 a7 a8 a9 aC aD aE lo K wr,Q .ret ⟨⟨[.vs (arr fP t) t.length cap,.ab,.iV e,a3,a4,a5,a6,a7,a8,a9,.vs (arr fP t) t.length cap,.iV t.length,aC,aD,aE],lo,K,[]⟩,wr⟩)
 (hN:bK (t.map f)=0->∀A o K a4 a5 a6 lo wr,A.length=t.length->mM t A->bC fB 8 175 K o A []->Q (.exit 0) ⟨⟨[.vs (arr fP t) t.length cap,.ab,.iV 0,o,a4,a5,a6,a7,a8,a9,.vs (arr fP t) t.length cap,.iV t.length,.iV t.length,aD,aE],lo,K,[]⟩,wr⟩) :
 W M (.loop qz) ⟨⟨[.vs (arr fP t) t.length cap,.ab,.iV 0,.ab,a4,a5,a6,a7,a8,a9,.vs (arr fP t) t.length cap,.iV t.length,.iV 0,aD,aE],lo,K,[]⟩,wr⟩ Q:=by
 refine W.gn t.length (fun i s=>∃A o K a4 a5 a6 lo wr,A.length=i/\mM t A/\bC fB 8 175 K o A []/\(∀k,k<i->f t[k]! = 0)/\s=⟨⟨[.vs (arr fP t) t.length cap,.ab,.iV 0,o,a4,a5,a6,a7,a8,a9,.vs (arr fP t) t.length cap,.iV t.length,.iV i,aD,aE],lo,K,[]⟩,wr⟩)
  (fun i s hi ⟨A,o,K,a4,a5,a6,lo,wr,hl,hH,hO,ha,hs⟩=>?_) (fun s ⟨A,o,K,a4,a5,a6,lo,wr,hl,hH,hO,ha,hs⟩=>?_) (cK _) ⟨[],.ab,K,a4,a5,a6,lo,wr,rfl,fun k hk=>absurd hk (cN k),.kj,fun k hk=>absurd hk (cN k),rfl⟩
 . subst hs;have ei:((i:Int)).toNat=i:=by omega
   obtain⟨B,q107,hB⟩:=C.acT i hi;have hroom:(A.length+1)*128<=dO:=by unfold dO;omega
   by_cases he:f t[i]! = 0
   . obtain⟨k1,k2⟩:=hB he;have hH':mM t (A++[B]):=hH.snoc (by rw[hl];exact k1) (by rw[hl];exact k2);rw[he]at q107;have next:∀H o' a4 a5 a6 lo wr,bC fB 8 175 H o' (A++[B]) []->∃A o K a4' a5' a6' lo' wr',A.length=i+1/\mM t A/\bC fB 8 175 K o A []/\(∀k,k<i+1->f t[k]! = 0)/\(⟨⟨[.vs (arr fP t) t.length cap,.ab,.iV 0,o',a4,a5,a6,a7,a8,a9,.vs (arr fP t) t.length cap,.iV t.length,.iV ((i+1:Nat):Int),aD,aE],lo,H,[]⟩,wr⟩:au)=⟨⟨[.vs (arr fP t) t.length cap,.ab,.iV 0,o,a4',a5',a6',a7,a8,a9,.vs (arr fP t) t.length cap,.iV t.length,.iV ((i+1:Nat):Int),aD,aE],lo',K,[]⟩,wr'⟩:=
      fun H o' a4 a5 a6 lo wr h=>⟨A++[B],o',H,a4,a5,a6,lo,wr,by simp[hl],hH',h,fun k hk=>by
       rcases cd (ci hk) with h|h
       . exact ha k h
       . rw[h];exact he,rfl⟩
     rw[←ei]at q107;unfold qz;repeat' first|(refine bC.app (f:=fB) (m:=[B]) (S:=[]) (fun _=>rfl) Fl am (((hO.grow [_]).grow [_]).grow [_]) aq rfl rfl (Sl.iZ (f:=fB) (esz:=8) (l:=[B]) (e:=175) (fun _=>rfl) bS rfl) hroom (fun H w' o' ho' hk hlen=>?_))|(apply adS;rfl;rfl;exact⟨rfl,aW _,Fl _⟩;rfl)|(apply adS;rfl;rfl;exact⟨rfl,by first|exact aW _|decide|(simp[overwrite]),rfl⟩;rfl)|(apply adR;rfl;(first|(focus((repeat' first|exact bS|assumption|apply cm);done))|exact cJ aq);rfl)|apply aaQ|apply aa|apply aaf|apply aad|apply abI|apply abC|apply bE|(apply abz;rfl)|(apply abx;rfl)|(apply abR;rfl;rfl)|(apply adf;rfl;rfl)|(apply acS;rfl;rfl;omega)|(apply abJ;rfl;rfl;first|exact q107 _)|(apply adp;rfl;rfl;omega)|(apply adL;rfl;exact fun _=>rfl;(first|omega|(simp only[az];omega)|(simp;omega));decide;rfl;case ia=>infer_instance)|(apply acn;rfl;rfl;rfl)|(apply abU;rfl;rfl;rfl)|(apply abh;rfl;rfl)|(apply abl;rfl;rfl)|(intro _;omega)|intro _
     all_goals try omega
     all_goals exact cW (next _ _ _ _ _ _ _ ho')
   . have hR:=hR (f t[i]!) he (Fj (t:=t) hi ha he);generalize f t[i]! = e at *
     rw[←ei]at q107;unfold qz;repeat' first|(apply adS;rfl;rfl;exact⟨rfl,aW _,Fl _⟩;rfl)|(apply adS;rfl;rfl;exact⟨rfl,by first|exact aW _|decide|(simp[overwrite]),rfl⟩;rfl)|(apply adR;rfl;(first|(focus((repeat' first|exact bS|assumption|apply cm);done))|exact cJ aq);rfl)|apply aaQ|apply aa|apply aaf|apply aad|apply abI|apply abw|apply abC|apply aU|apply cQ|apply uH|(apply abz;rfl)|(apply abR;rfl;rfl)|(apply adf;rfl;rfl)|(apply abJ;rfl;rfl;first|exact q107 _)|(apply adp;rfl;rfl;omega)|(apply adL;rfl;exact fun _=>rfl;(first|omega|(simp only[az];omega)|(simp;omega));decide;rfl;case ia=>infer_instance)|(apply abU;rfl;rfl;rfl)|(apply abh;rfl;rfl)|(apply abl;rfl;rfl)|(intro _;omega)|intro _
     all_goals try omega
     all_goals exact hR _ _ _ _ _ _ _ _ _ _ _ _ _
 . subst hs;have hN:=hN (Nq ha) A o K;unfold qz;repeat' first|apply aaQ|apply aa|apply aaf|apply aad|apply acH|apply bN|apply cX|(apply abx;rfl)|(apply abR;rfl;rfl)|(intro _;omega)|intro _
   all_goals try omega
   all_goals exact hN _ _ _ _ _ hl hH hO
def Fm (M:ax)(t:List (aj×aj))(A:List (FC×FC)):Prop:=∀i k,i<t.length->k<t.length->∃z:Int,(z=0↔oF t i k=true)/\∀h,M.ext 135 [.agg (fB A[i]!),.agg (fB A[k]!)] h=some ⟨.iV z,h,[]⟩
theorem acV {t:List (aj×aj)}{A:List (FC×FC)}(C:Fm M t A)(hA:A.length=t.length)(h64:t.length<=256){i:Nat}(hi:i<t.length)(o3:AV)(a4 a5 a6 aA aB aC:AV){Q:Ex->au->Prop}(K:ae)(o7:AV)(lo:List (Nat×AV))(wr:List Nat)
 (h3:bC fB 8 175 K o3 A []) (h7:bC cP 2 77 K o7 (dx t i) (iA o3))
 (hQ:∀K o7 lo wr,bC fB 8 175 K o3 A []->bC cP 2 77 K o7 (dx t (i+1)) (iA o3)->Q (.exit 4) ⟨⟨[.vs (arr fP t) t.length cap,.ab,.iV 0,o3,a4,a5,a6,o7,.iV i,.iV t.length,aA,aB,aC,.iV t.length,.iV i],lo,K,[]⟩,wr⟩) :
 W M (.loop qA) ⟨⟨[.vs (arr fP t) t.length cap,.ab,.iV 0,o3,a4,a5,a6,o7,.iV i,.iV ((i:Int)+1),aA,aB,aC,.iV t.length,.iV i],lo,K,[]⟩,wr⟩ Q:=by
 have hlen:dx t i=dx t i++eH t i (i+1):=by rw[Np (aW _),b8]
 rw[hlen]at h7;refine W.gn t.length (fun k s=>∃K o7 lo wr,i<k/\bC fB 8 175 K o3 A []/\bC cP 2 77 K o7 (dx t i++eH t i k) (iA o3)/\s=⟨⟨[.vs (arr fP t) t.length cap,.ab,.iV 0,o3,a4,a5,a6,o7,.iV i,.iV k,aA,aB,aC,.iV t.length,.iV i],lo,K,[]⟩,wr⟩)
  (fun k s hk ⟨K,o7,lo,wr,hik,h3,h7,hs⟩=>?_) (fun s ⟨K,o7,lo,wr,hik,h3,h7,hs⟩=>?_) (i:=i+1) ac ⟨K,o7,lo,wr,ac,h3,h7,rfl⟩
 . subst hs;have ei:((i:Int)).toNat=i:=by omega
   have ek:((k:Int)).toNat=k:=by omega
   have hacc:(dx t i++eH t i k).length<=100000:=by
    rw[bj];have:=yw (t:=t) (i:=i);have:=Fi (t:=t) (i:=i) (k:=k);have:=cV (show i<=256 by omega) h64;omega
   have hroom:((dx t i++eH t i k).length+1)*16<=dO:=by unfold dO;omega
   obtain⟨z,hz,q135⟩:=C i k hi hk;have next:∀H o' lo wr,bC fB 8 175 H o3 A []->bC cP 2 77 H o' (dx t i++eH t i (k+1)) (iA o3)->∃K o7 lo' wr',i<k+1/\bC fB 8 175 K o3 A []/\bC cP 2 77 K o7 (dx t i++eH t i (k+1)) (iA o3)/\(⟨⟨[.vs (arr fP t) t.length cap,.ab,.iV 0,o3,a4,a5,a6,o',.iV i,.iV ((k+1:Nat):Int),aA,aB,aC,.iV t.length,.iV i],lo,H,[]⟩,wr⟩:au)=⟨⟨[.vs (arr fP t) t.length cap,.ab,.iV 0,o3,a4,a5,a6,o7,.iV i,.iV ((k+1:Nat):Int),aA,aB,aC,.iV t.length,.iV i],lo',K,[]⟩,wr'⟩:=
    fun H o' lo wr g3 g7=>⟨H,o',lo,wr,ac,g3,g7,rfl⟩
   have lt3:=h3.lt;rcases h3 with ⟨h,_⟩|⟨d,cp,hd0,rfl,hd,hcp⟩
   . rw[h]at hA;exact absurd hi (by simp at hA;omega)
   . have h3:bC fB 8 175 K (.sl d 0 A.length 8 cp) A []:=.inr ⟨d,cp,hd0,rfl,hd,hcp⟩;by_cases hs:oF t i k=true
     . obtain rfl:=hz.2 hs;have e1:eH t i (k+1)=eH t i k++[(i,k)]:=by rw[yu hik,if_pos hs]
       rw[←ei,←ek]at q135;unfold qA;repeat' first|(refine bC.app (f:=cP) (m:=[(i,k)]) (S:=iA (.sl d 0 A.length 8 cp)) (fun _=>rfl) Ns am (h7.grow [_]) (fun x hx=>by have:=lt3 x hx;simp;omega) rfl rfl (Sl.iZ (f:=cP) (esz:=2) (l:=[(i,k)]) (e:=77) (fun _=>rfl) bS rfl) hroom (fun H w' o' ho' hk hlen=>?_))|(apply adN;rfl;rfl;(first|(simp only[nca];rfl)|rfl);first|exact q135 _)|apply aaQ|apply aa|apply aaf|apply aad|apply abI|apply abC|apply bE|apply adr|apply adI|(apply adO;rfl)|(apply adJ;rfl;rfl;(first|(simp only[nca];rfl)|rfl))|(apply abz;rfl)|(apply abR;rfl;rfl)|(apply acR;rfl;rfl)|(apply acS;rfl;rfl;omega)|(apply adP;rfl;rfl;omega)|(apply aeY;rfl;(first|rfl|assumption|exact bS|(apply cm;assumption)|(apply cJ;first|assumption|(simp only[ny];assumption)));exact fun _=>rfl;(first|omega|(simp only[az];omega)|(simp;omega));decide;rfl;case ia=>infer_instance)|(apply acn;rfl;rfl;rfl)|(apply abh;rfl;rfl)|(apply abl;rfl;rfl)|(intro _;omega)|intro _
       all_goals try omega
       all_goals exact cW (next _ _ _ _ (h3.eu (fun b x hb hx=>hk b x hb (cm hx)) (fun _ _ h=>h)) (by rw[e1,←c5];exact ho'))
     . have hz0:z≠0:=fun h=>hs (hz.1 h)
       have e1:eH t i (k+1)=eH t i k:=by rw[yu hik,if_neg hs,b8]
       rw[←ei,←ek]at q135;unfold qA;repeat' first|(apply adN;rfl;rfl;(first|(simp only[nca];rfl)|rfl);first|exact q135 _)|apply aaQ|apply aa|apply aaf|apply aad|apply abI|apply abC|apply bE|apply adr|apply adI|(apply adO;rfl)|(apply adJ;rfl;rfl;(first|(simp only[nca];rfl)|rfl))|(apply abz;rfl)|(apply abx;rfl)|(apply abR;rfl;rfl)|(apply acR;rfl;rfl)|(apply acS;rfl;rfl;omega)|(apply adP;rfl;rfl;omega)|(apply aeY;rfl;(first|rfl|assumption|exact bS|(apply cm;assumption)|(apply cJ;first|assumption|(simp only[ny];assumption)));exact fun _=>rfl;(first|omega|(simp only[az];omega)|(simp;omega));decide;rfl;case ia=>infer_instance)|(apply abh;rfl;rfl)|(apply abl;rfl;rfl)|(intro _;omega)|intro _
       all_goals try omega
       all_goals exact cW (next _ _ _ _ h3 (by rw[e1];exact h7))
 . subst hs;rw[←Fh]at h7;have hQ:=hQ K o7;rcases h3 with ⟨h,_⟩|⟨d,cp,hd0,rfl,hd,hcp⟩
   . rw[h]at hA;exact absurd hi (by simp at hA;omega)
   . have h3:bC fB 8 175 K (.sl d 0 A.length 8 cp) A []:=.inr ⟨d,cp,hd0,rfl,hd,hcp⟩;unfold qA;repeat' first|apply aaQ|apply aa|apply aaf|apply aad|apply acH|apply bN|apply cX|(apply abx;rfl)|(apply abR;rfl;rfl)|(apply abh;rfl;rfl)|(intro _;omega)|intro _
     all_goals try omega
     all_goals exact hQ _ _ h3 h7
attribute [local irreducible] qA
theorem acW {t:List (aj×aj)}{A:List (FC×FC)}(C:Fm M t A)(hA:A.length=t.length)(h64:t.length<=256)(o3:AV)(a4 a5 a6 a8 a9 aA aB aC:AV){Q:Ex->au->Prop}(K:ae)(lo:List (Nat×AV))(wr:List Nat)
 (h3:bC fB 8 175 K o3 A []) (hQ:∀K o7 a8 a9 lo wr,bC cP 2 77 K o7 (dx t t.length) []->Q (.exit 2) ⟨⟨[.vs (arr fP t) t.length cap,.ab,.iV 0,o3,a4,a5,a6,o7,a8,a9,aA,aB,aC,.iV t.length,.iV t.length],lo,K,[]⟩,wr⟩) :
 W M (.loop tj) ⟨⟨[.vs (arr fP t) t.length cap,.ab,.iV 0,o3,a4,a5,a6,.ab,a8,a9,aA,aB,aC,.iV t.length,.iV 0],lo,K,[]⟩,wr⟩ Q:=by
 refine W.gn t.length (fun i s=>∃K o7 a8 a9 lo wr,bC fB 8 175 K o3 A []/\bC cP 2 77 K o7 (dx t i) (iA o3)/\s=⟨⟨[.vs (arr fP t) t.length cap,.ab,.iV 0,o3,a4,a5,a6,o7,a8,a9,aA,aB,aC,.iV t.length,.iV i],lo,K,[]⟩,wr⟩)
  (fun i s hi ⟨K,o7,a8,a9,lo,wr,h3,h7,hs⟩=>?_) (fun s ⟨K,o7,a8,a9,lo,wr,h3,h7,hs⟩=>?_) (cK _) ⟨K,.ab,a8,a9,lo,wr,h3,.kj,rfl⟩
 . subst hs;have next:∀H o' a8 a9 lo wr,bC fB 8 175 H o3 A []->bC cP 2 77 H o' (dx t (i+1)) (iA o3)->∃K o7 a8' a9' lo' wr',bC fB 8 175 K o3 A []/\bC cP 2 77 K o7 (dx t (i+1)) (iA o3)/\(⟨⟨[.vs (arr fP t) t.length cap,.ab,.iV 0,o3,a4,a5,a6,o',a8,a9,aA,aB,aC,.iV t.length,.iV ((i+1:Nat):Int)],lo,H,[]⟩,wr⟩:au)=⟨⟨[.vs (arr fP t) t.length cap,.ab,.iV 0,o3,a4,a5,a6,o7,a8',a9',aA,aB,aC,.iV t.length,.iV ((i+1:Nat):Int)],lo',K,[]⟩,wr'⟩:=
    fun H o' a8 a9 lo wr g3 g7=>⟨H,o',a8,a9,lo,wr,g3,g7,rfl⟩
   unfold tj;repeat' first|(refine acV C hA h64 hi o3 _ _ _ _ _ _ _ _ _ _ h3 h7 (fun K o7 lo wr g3 g7=>?_))|apply aaQ|apply aa|apply aaf|apply aad|apply abI|apply abC|apply bE|apply bJ|(apply abz;rfl)|(apply abR;rfl;rfl)|(apply acS;rfl;rfl;omega)|(apply abh;rfl;rfl)|(apply abl;rfl;rfl)|(intro _;omega)|intro _
   all_goals try omega
   all_goals exact cW (next _ _ _ _ _ _ g3 g7)
 . subst hs;have hQ:=hQ K o7;unfold tj;repeat' first|apply aaQ|apply aa|apply aaf|apply aad|apply acH|apply bN|apply cX|(apply abx;rfl)|(apply abR;rfl;rfl)|(intro _;omega)|intro _
   all_goals try omega
   all_goals exact hQ _ _ _ _ (h7.eu (fun _ _ _ hx=>hx) (fun _ _ _=>by simp))
attribute [local irreducible] qz tj
theorem Fo (p:Nat×Nat):bz (cP p)=0:=rfl
theorem acX (p:Nat×Nat):cC (cP p)=cP p:=rfl
def jC (x:AV)(l:List (Nat×Nat)):Prop:=x = .vs (arr cP l) l.length none\/(x = .ab/\l=[])
theorem Nu {K:ae}{o:AV}{l:List (Nat×Nat)}(h:bC cP 2 77 K o l []):∃x,jC x l/\((o = .ab/\x = .ab)\/∃d c cp n,o = .sl d 0 n 2 cp/\eC K o (.vs (arr cP l) l.length c)/\x = .vs (arr cP l) l.length none):=by
 have hs:=bC.sl (f:=cP) (fun _=>rfl) h;rcases h with ⟨h1,h2⟩|⟨d,cp,_,rfl,hd,_⟩
 . exact⟨.ab,.inr ⟨rfl,h1⟩,.inl ⟨h2,rfl⟩⟩
 . rcases eC.Rm Fo hs with ⟨h,_⟩|⟨c,h⟩
   . cases h
   . exact⟨_,.inl rfl,.inr ⟨_,c,_,_,rfl,h,rfl⟩⟩
theorem Nv {l:List (Nat×Nat)}{c:Option Nat}:bD (.vs (arr cP l) l.length c) = .vs (arr cP l) l.length none:=by
 simp[bD,uK acX l]
theorem acY {K:ae}{o:AV}{l:List (Nat×Nat)}(h:bC cP 2 77 K o l []):∃x,jC x l/\dQ (aV [o,.iV 0]) (if (aV [o,.iV 0]).top<=0 then [] else K) (.ay [x,.iV 0]):=by
 obtain⟨x,hx,⟨rfl,rfl⟩|⟨d,c,cp,n,rfl,hc,rfl⟩⟩:=Nu h
 . exact⟨_,hx,.same (by simp[aV,AV.top,bz]) (by simp[aV,bD,cC])⟩
 . refine⟨_,hx,?_⟩;rw[if_neg (by simp[aV,AV.top,bz])];refine⟨.ay [.vs (arr cP l) l.length c,.iV 0],.ay rfl fun i x y hx hy=>?_,?_,?_⟩
   . match i,hx,hy with
     | 0,hx,hy=>cases hx;cases hy;exact hc
     | 1,hx,hy=>cases hx;cases hy;exact .same rfl
   . simp[AV.top,bz,jL Fo l]
   . rw[bD,cC,Nv];rfl
theorem acZ {K:ae}{o:AV}{l:List (Nat×Nat)}(h:bC cP 2 77 K o l []):∃x,jC x l/\dQ (aV [o]) (if (aV [o]).top<=0 then [] else K) x:=by
 obtain⟨x,hx,⟨rfl,rfl⟩|⟨d,c,cp,n,rfl,hc,rfl⟩⟩:=Nu h
 . exact⟨_,hx,.same rfl rfl⟩
 . refine⟨_,hx,?_⟩;rw[if_neg (by simp[aV,AV.top])];exact⟨_,hc,by simp[AV.top,jL Fo l],Nv⟩
theorem ada (hft:M.FT=FT){t:List (aj×aj)}(h:256<t.length)(hl:t.length<1000000):de M 51 [.vs (arr fP t) t.length cap] (.ay [.ab,.iV 5]):=by
 refine du (by rw[hft];exact Ni) aq ?_;unfold Fe;simp only[enter];repeat' first|apply aaQ|apply aa|apply aaf|apply aad|apply abw|apply aU|(apply abz;rfl)|(apply abV;rfl;rfl)|(apply abh;rfl;rfl)|(apply abl;rfl;rfl)|(intro _;omega)|intro _
 all_goals try omega
 all_goals exact cD rfl rfl (.same rfl rfl)
def tq (t:List (aj×aj))(f:aj×aj->Int)(r:AV):Prop:=(bK (t.map f)=0/\∃x,jC x (dx t t.length)/\r = .ay [x,.iV 0])\/(bK (t.map f)≠0/\r = .ay [.ab,.iV (bK (t.map f))])
theorem w51 {t:List (aj×aj)}{f:aj×aj->Int}(C:Nt M t f)(S:∀A,bK (t.map f)=0->A.length=t.length->mM t A->Fm M t A)(h64:t.length<=256) :
 ∃r,tq t f r/\de M 51 [.vs (arr fP t) t.length cap] r:=by
 have r:∃v hh,(∃r,tq t f r/\dQ v hh r)/\bg M 51 [.vs (arr fP t) t.length cap] [] ⟨v,hh,[]⟩:=by
  refine gS (by rw[C.ft];exact Ni) aq ?_;unfold Fe;simp only[enter];repeat' first|(refine acU C h64 _ _ _ _ _ _ _ _ _ _ _ (fun e he hE a3 a4 a5 a6 a7 a8 a9 aC aD aE lo K wr=>?_) (fun hE A o K a4 a5 a6 lo wr hA hH hO=>?_))|apply aaQ|apply aa|apply aaf|apply aad|apply abI|apply abC|apply aU|apply cQ|apply bJ|(apply abx;rfl)|(apply abV;rfl;rfl)|(apply abh;rfl;rfl)|(apply abl;rfl;rfl)|(intro _;omega)|intro _
  all_goals try omega
  . skip;all_goals exact⟨.inr rfl,rfl,_,rfl,_,.inr ⟨ac,by rw[hE]⟩,.same rfl (by simp[aV,bD,cC])⟩
  . have C2:=S A hE hA hH;have fin:∀K o,bC cP 2 77 K o (dx t t.length) []->∃r,tq t f r/\dQ (aV [o,.iV 0]) (if (aV [o,.iV 0]).top<=0 then [] else K) r:=fun K o h=>by
     obtain⟨x,h1,h2⟩:=acY h;exact⟨_,.inl ⟨hE,x,h1,rfl⟩,h2⟩
    have go:=fun o a4 a5 a6 a8 a9 aA aB aC K lo wr (h3:bC fB 8 175 K o A []) Q hQ=>acW (cap:=cap) C2 hA h64 o a4 a5 a6 a8 a9 aA aB aC (Q:=Q) K lo wr h3 hQ
    rcases hO with ⟨h1,h2⟩|⟨d,cp,h0,rfl,hd,hcp⟩
    . subst h1 h2;obtain rfl:t=[]:=be (by simpa using hA.symm);have go:=go .ab;repeat' first|(refine go _ _ _ _ _ _ _ _ _ _ _ (.kj) _ (fun K o7 a8 a9 lo wr h7=>?_))|apply aaQ|apply aa|apply aaf|apply aad|apply abI|apply abw|apply bJ|(apply abh;rfl;rfl)|(apply abl;rfl;rfl)
      all_goals try omega
      all_goals exact⟨.inr rfl,rfl,_,rfl,fin _ _ h7⟩
    . have hO:bC fB 8 175 K (.sl d 0 A.length 8 cp) A []:=.inr ⟨d,cp,h0,rfl,hd,hcp⟩;have go:=go (.sl d 0 A.length 8 cp) a4 a5 a6;have hA':((A.length:Nat):Int)=(t.length:Nat):=by rw[hA]
      repeat' first|(rw[hA'];refine go _ _ _ _ _ _ _ _ hO _ (fun K o7 a8 a9 lo wr h7=>?_))|apply aaQ|apply aa|apply aaf|apply aad|apply abI|apply abw|apply bJ|(apply abh;rfl;rfl)|(apply abl;rfl;rfl)
      all_goals try omega
      all_goals exact⟨.inr rfl,rfl,_,rfl,fin _ _ h7⟩
 obtain⟨v,hh,⟨r,h1,h2⟩,h3⟩:=r;exact⟨r,h1,v,hh,h2,h3⟩
def Nw (M:ax)(t:List (aj×aj)):Prop:=∀i k,i<t.length->k<t.length->∃z:Int,(z=0↔oF t i k=true)/\∀h,M.ext 54 [.agg (fP t[i]!),.agg (fP t[k]!)] h=some ⟨.iV z,h,[]⟩
theorem ade {t:List (aj×aj)}(C:Nw M t)(h64:t.length<=256){i:Nat}(hi:i<t.length)(a1:AV){Q:Ex->au->Prop}(K:ae)(o:AV)(lo:List (Nat×AV))(wr:List Nat)(h7:bC cP 2 77 K o (dx t i) [])
 (hQ:∀K o lo wr,bC cP 2 77 K o (dx t (i+1)) []->Q (.exit 2) ⟨⟨[.vs (arr fP t) t.length cap,a1,o,.iV i,.iV t.length],lo,K,[]⟩,wr⟩) :
 W M (.loop qB) ⟨⟨[.vs (arr fP t) t.length cap,a1,o,.iV i,.iV ((i:Int)+1)],lo,K,[]⟩,wr⟩ Q:=by
 have hlen:dx t i=dx t i++eH t i (i+1):=by rw[Np (aW _),b8]
 rw[hlen]at h7;refine W.gn t.length (fun k s=>∃K o lo wr,i<k/\bC cP 2 77 K o (dx t i++eH t i k) []/\s=⟨⟨[.vs (arr fP t) t.length cap,a1,o,.iV i,.iV k],lo,K,[]⟩,wr⟩)
  (fun k s hk ⟨K,o,lo,wr,hik,h7,hs⟩=>?_) (fun s ⟨K,o,lo,wr,hik,h7,hs⟩=>?_) (i:=i+1) ac ⟨K,o,lo,wr,ac,h7,rfl⟩
 . subst hs;have ei:((i:Int)).toNat=i:=by omega
   have ek:((k:Int)).toNat=k:=by omega
   have hacc:(dx t i++eH t i k).length<=100000:=by
    rw[bj];have:=yw (t:=t) (i:=i);have:=Fi (t:=t) (i:=i) (k:=k);have:=cV (show i<=256 by omega) h64;omega
   have hroom:((dx t i++eH t i k).length+1)*16<=dO:=by unfold dO;omega
   obtain⟨z,hz,q54⟩:=C i k hi hk;have next:∀H o' lo wr,bC cP 2 77 H o' (dx t i++eH t i (k+1)) []->∃K o lo' wr',i<k+1/\bC cP 2 77 K o (dx t i++eH t i (k+1)) []/\(⟨⟨[.vs (arr fP t) t.length cap,a1,o',.iV i,.iV ((k+1:Nat):Int)],lo,H,[]⟩,wr⟩:au)=⟨⟨[.vs (arr fP t) t.length cap,a1,o,.iV i,.iV ((k+1:Nat):Int)],lo',K,[]⟩,wr'⟩:=
    fun H o' lo wr g7=>⟨H,o',lo,wr,ac,g7,rfl⟩
   rw[←ei,←ek]at q54;by_cases hs:oF t i k=true
   . obtain rfl:=hz.2 hs;have e1:eH t i (k+1)=eH t i k++[(i,k)]:=by rw[yu hik,if_pos hs]
     unfold qB;repeat' first|(refine bC.app (f:=cP) (m:=[(i,k)]) (S:=[]) (fun _=>rfl) Ns am (h7.grow [_]) aq rfl rfl (Sl.iZ (f:=cP) (esz:=2) (l:=[(i,k)]) (e:=77) (fun _=>rfl) bS rfl) hroom (fun H w' o' ho' hk hlen=>?_))|(apply adN;rfl;rfl;(first|(simp only[nca];rfl)|rfl);first|exact q54 _)|apply aaQ|apply aa|apply aaf|apply aad|apply abI|apply abC|apply bE|apply adr|apply adI|(apply adO;rfl)|(apply adJ;rfl;rfl;(first|(simp only[nca];rfl)|rfl))|(apply abz;rfl)|(apply abR;rfl;rfl)|(apply acR;rfl;rfl)|(apply acS;rfl;rfl;omega)|(apply adp;rfl;rfl;omega)|(apply adL;rfl;exact fun _=>rfl;(first|omega|(simp only[az];omega)|(simp;omega));decide;rfl;case ia=>infer_instance)|(apply acn;rfl;rfl;rfl)|(apply abh;rfl;rfl)|(apply abl;rfl;rfl)|(intro _;omega)|intro _
     all_goals try omega
     all_goals exact cW (next _ _ _ _ (by rw[e1,←c5];exact ho'))
   . have hz0:z≠0:=fun h=>hs (hz.1 h)
     have e1:eH t i (k+1)=eH t i k:=by rw[yu hik,if_neg hs,b8]
     unfold qB;repeat' first|(apply adN;rfl;rfl;(first|(simp only[nca];rfl)|rfl);first|exact q54 _)|apply aaQ|apply aa|apply aaf|apply aad|apply abI|apply abC|apply bE|apply adr|apply adI|(apply adO;rfl)|(apply adJ;rfl;rfl;(first|(simp only[nca];rfl)|rfl))|(apply abz;rfl)|(apply abx;rfl)|(apply abR;rfl;rfl)|(apply acR;rfl;rfl)|(apply acS;rfl;rfl;omega)|(apply adp;rfl;rfl;omega)|(apply adL;rfl;exact fun _=>rfl;(first|omega|(simp only[az];omega)|(simp;omega));decide;rfl;case ia=>infer_instance)|(apply abh;rfl;rfl)|(apply abl;rfl;rfl)|(intro _;omega)|intro _
     all_goals try omega
     all_goals exact cW (next _ _ _ _ (by rw[e1];exact h7))
 . subst hs;rw[←Fh]at h7;have hQ:=hQ K o;unfold qB;repeat' first|apply aaQ|apply aa|apply aaf|apply aad|apply acH|apply bN|apply cX|(apply abx;rfl)|(apply abR;rfl;rfl)|(apply abh;rfl;rfl)|(intro _;omega)|intro _
   all_goals try omega
   all_goals exact hQ _ _ h7
attribute [local irreducible] qB
theorem w52 (hft:M.FT=FT){t:List (aj×aj)}(C:Nw M t)(h64:t.length<=256):∃x,jC x (dx t t.length)/\de M 52 [.vs (arr fP t) t.length cap] x:=by
 have r:∃v hh,(∃r,jC r (dx t t.length)/\dQ v hh r)/\bg M 52 [.vs (arr fP t) t.length cap] [] ⟨v,hh,[]⟩:=by
  refine gS (by rw[hft];exact acI) aq ?_;unfold Nj;simp only[enter];repeat' first|apply aaQ|apply aa|apply aaf|apply aad|apply abI|(apply abl;rfl;rfl)
  refine W.gn t.length (fun i s=>∃K o a4 lo wr,bC cP 2 77 K o (dx t i) []/\s=⟨⟨[.vs (arr fP t) t.length cap,.ab,o,.iV i,a4],lo,K,[]⟩,wr⟩)
   (fun i s hi ⟨K,o,a4,lo,wr,h7,hs⟩=>?_) (fun s ⟨K,o,a4,lo,wr,h7,hs⟩=>?_) (cK _) ⟨_,.ab,_,_,_,.kj,rfl⟩
  . subst hs;have next:∀H o' a4 lo wr,bC cP 2 77 H o' (dx t (i+1)) []->∃K o a4' lo' wr',bC cP 2 77 K o (dx t (i+1)) []/\(⟨⟨[.vs (arr fP t) t.length cap,.ab,o',.iV ((i+1:Nat):Int),a4],lo,H,[]⟩,wr⟩:au)=⟨⟨[.vs (arr fP t) t.length cap,.ab,o,.iV ((i+1:Nat):Int),a4'],lo',K,[]⟩,wr'⟩:=
     fun H o' a4 lo wr g7=>⟨H,o',a4,lo,wr,g7,rfl⟩
    unfold Ff;repeat' first|(refine ade C h64 hi _ _ _ _ _ h7 (fun K o lo wr g7=>?_))|apply aaQ|apply aa|apply aaf|apply aad|apply abI|apply abC|apply bE|apply bJ|(apply abz;rfl)|(apply abR;rfl;rfl)|(apply acS;rfl;rfl;omega)|(apply abh;rfl;rfl)|(apply abl;rfl;rfl)|(intro _;omega)|intro _
    all_goals try omega
    all_goals exact cW (next _ _ _ _ _ g7)
  . subst hs;unfold Ff;repeat' first|apply aaQ|apply aa|apply aaf|apply aad|apply abw|apply acH|apply bN|apply bJ|apply cX|(apply abx;rfl)|(apply abR;rfl;rfl)|(apply abh;rfl;rfl)|(apply abl;rfl;rfl)|(intro _;omega)|intro _
    all_goals try omega
    all_goals exact⟨.inr rfl,rfl,_,rfl,acZ h7⟩
 obtain⟨v,hh,⟨r,h1,h2⟩,h3⟩:=r;exact⟨r,h1,v,hh,h2,h3⟩
theorem Nx {x:Int}:∀{l:List Int},bK (l++[x])=if bK l=0 then x else bK l
 | []=>by
  show (if x=0 then 0 else x)=x;split <;> omega
 | e::r=>by
  show (if e=0 then bK (r++[x]) else e)=if (if e=0 then bK r else e)=0 then x else (if e=0 then bK r else e)
  by_cases h:e=0
  . rw[if_pos h,if_pos h,Nx]
  . rw[if_neg h,if_neg h,if_neg h]
def iO (b0:Int)(t:List (aj×aj))(f:aj×aj->Int)(i:Nat):Int:=if b0≠0 then b0 else bK ((t.take i).map f)
theorem adg {b0:Int}{t:List (aj×aj)}{f:aj×aj->Int}{i:Nat}(h:i<t.length):iO b0 t f (i+1)=if iO b0 t f i=0 then f t[i]! else iO b0 t f i:=by
 by_cases h0:b0=0
 . have e:∀j,iO b0 t f j=bK ((t.take j).map f):=fun j=>if_neg (fun k=>k h0)
   rw[e,e,List.take_succ_eq_append_getElem h,c7,List.map_singleton,Nx,getElem!_pos t i h]
 . have e:∀j,iO b0 t f j=b0:=fun j=>if_pos h0
   rw[e,e,if_neg h0]
def fz (x:aj×aj):Bool:=decide (20<x.1.length\/20<x.2.length)
structure C9 (M:ax)(f:aj×aj->Int)(sep:aj×aj->aj×aj->Int):Prop where
 ft:M.FT=FT
 Ny:∀h,M.ext 15 [] h=some ⟨.bool true,h,[]⟩
 Fp:∀t (e:Int) h,M.ext 20 [.bool t,.iV e] h=some ⟨.iV (if t then e else 0),h,[]⟩
 Nz:∀v h l,gm h v=some l->l.length<1000->M.ext 25 [v] h=some ⟨.iV (bK l),h,[]⟩
 NA:∀x h,M.ext 31 [.agg (fP x)] h=some ⟨.bool (fz x),h,[]⟩
 yx:∀x h,fz x=false->M.ext 33 [.agg (fP x)] h=some ⟨.iV (f x),h,[]⟩
 NB:∀e h,e≠0->M.ext 42 [.iV 0,.iV e,.iV e,.iV 0] h=some ⟨.bool true,h,[]⟩
 NC:∀c h,M.ext 42 [.iV c,.iV 0,.iV 0,.iV c] h=some ⟨.bool true,h,[]⟩
 ND:∀(t:List (aj×aj)) h,256<t.length->t.length<1000000->M.ext 51 [.vs (arr fP t) t.length none] h=some ⟨.ay [.ab,.iV 5],h,[]⟩
 NF:∀(t:List (aj×aj)),t.length<=12->(∀i,i<t.length->fz t[i]! = false)->∃r,tq t f r/\∀h,M.ext 51 [.vs (arr fP t) t.length none] h=some ⟨r,h,[]⟩
 NG:∀(t:List (aj×aj)),t.length<=12->(∀i,i<t.length->fz t[i]! = false)->bK (t.map f)=0->∃x,jC x (dx t t.length)/\∀h,M.ext 52 [.vs (arr fP t) t.length none] h=some ⟨x,h,[]⟩
 NH:∀x y h,fz x=false->fz y=false->M.ext 53 [.agg (fP x),.agg (fP y)] h=some ⟨.ay [.iV (if bK [f x,f y]=0 then sep x y else 0),.iV (bK [f x,f y])],h,[]⟩
 NI:∀x y h,fz x=false->fz y=false->bK [f x,f y]=0->M.ext 54 [.agg (fP x),.agg (fP y)] h=some ⟨.iV (sep x y),h,[]⟩
variable {f:aj×aj->Int} {sep:aj×aj->aj×aj->Int}
theorem NJ (C:C9 M f sep){t:List (aj×aj)}(hl:t.length<1000000)(b0:Int)(a4 a5 a6 a7 a8 a9 aA aB:AV)(K:ae)(lo:List (Nat×AV))(wr:List Nat){Q:Ex->au->Prop}
 (hR:∀a2 a3 lo wr,Q .ret ⟨⟨[.vs (arr fP t) t.length none,.bool true,a2,a3,a4,a5,a6,a7,a8,a9,aA,aB],lo,K,[]⟩,wr⟩)
 (hN:(∀i,i<t.length->fz t[i]! = false)->∀lo wr,Q (.exit 0) ⟨⟨[.vs (arr fP t) t.length none,.bool false,.iV (iO b0 t f t.length),.iV t.length,a4,a5,a6,a7,a8,a9,aA,aB],lo,K,[]⟩,wr⟩) :
 W M (.loop oC) ⟨⟨[.vs (arr fP t) t.length none,.bool false,.iV b0,.iV 0,a4,a5,a6,a7,a8,a9,aA,aB],lo,K,[]⟩,wr⟩ Q:=by
 refine W.gn t.length (fun i s=>∃lo wr,(∀k,k<i->fz t[k]! = false)/\s=⟨⟨[.vs (arr fP t) t.length none,.bool false,.iV (iO b0 t f i),.iV i,a4,a5,a6,a7,a8,a9,aA,aB],lo,K,[]⟩,wr⟩)
  (fun i s hi ⟨lo,wr,ha,hs⟩=>?_) (fun s ⟨lo,wr,ha,hs⟩=>?_) (cK _) ⟨lo,wr,fun k hk=>absurd hk (cN k),by
   have:iO b0 t f 0=b0:=by
    unfold iO;split
    . rfl
    . rename_i h;show (0:Int)=b0;omega
   rw[this];rfl⟩
 . subst hs;have ei:((i:Int)).toNat=i:=by omega
   have q31:=C.NA t[i]!;cases hL:fz t[i]!
   . have q33:=fun h=>C.yx t[i]! h hL
     rw[hL]at q31;have hS:=adg (b0:=b0) (f:=f) hi;have next:∀lo wr,∃lo' wr',(∀k,k<i+1->fz t[k]! = false)/\(⟨⟨[.vs (arr fP t) t.length none,.bool false,.iV (iO b0 t f (i+1)),.iV ((i+1:Nat):Int),a4,a5,a6,a7,a8,a9,aA,aB],lo,K,[]⟩,wr⟩:au)=⟨⟨[.vs (arr fP t) t.length none,.bool false,.iV (iO b0 t f (i+1)),.iV ((i+1:Nat):Int),a4,a5,a6,a7,a8,a9,aA,aB],lo',K,[]⟩,wr'⟩:=
      fun lo wr=>⟨lo,wr,fun k hk=>by
       rcases cd (ci hk) with h|h
       . exact ha k h
       . rw[h];exact hL,rfl⟩
     rw[hS]at next ⊢
     generalize iO b0 t f i=b at *
     rw[←ei]at q31 q33;by_cases hb:b=0
     . rw[if_pos hb]at next ⊢
       rw[←ei]at next ⊢
       unfold oC;repeat' first|apply aaQ|apply aa|apply aaf|apply aad|apply abI|apply abC|apply bE|(apply abz;rfl)|(apply abx;rfl)|(apply abR;rfl;rfl)|(apply acR;rfl;rfl)|(apply acS;rfl;rfl;omega)|(apply abJ;rfl;rfl;first|exact q31 _|exact q33 _)|(apply adp;rfl;rfl;omega)|(apply adL;rfl;exact fun _=>rfl;(first|omega|(simp only[az];omega)|(simp;omega));decide;rfl;case ia=>infer_instance)|(apply abh;rfl;rfl)|(apply abl;rfl;rfl)|(intro _;omega)|intro _
       all_goals try omega
       all_goals exact cW (next _ _)
     . rw[if_neg hb]at next ⊢
       unfold oC;repeat' first|apply aaQ|apply aa|apply aaf|apply aad|apply abI|apply abC|apply bE|(apply abz;rfl)|(apply abx;rfl)|(apply abR;rfl;rfl)|(apply acR;rfl;rfl)|(apply acS;rfl;rfl;omega)|(apply abJ;rfl;rfl;first|exact q31 _)|(apply adp;rfl;rfl;omega)|(apply adL;rfl;exact fun _=>rfl;(first|omega|(simp only[az];omega)|(simp;omega));decide;rfl;case ia=>infer_instance)|(apply abh;rfl;rfl)|(apply abl;rfl;rfl)|(intro _;omega)|intro _
       all_goals try omega
       all_goals exact cW (next _ _)
   . rw[hL]at q31;rw[←ei]at q31;unfold oC;repeat' first|apply aaQ|apply aa|apply aaf|apply aad|apply abI|apply abw|apply abC|apply aU|apply cQ|apply uH|(apply abz;rfl)|(apply abR;rfl;rfl)|(apply abJ;rfl;rfl;first|exact q31 _)|(apply adp;rfl;rfl;omega)|(apply adL;rfl;exact fun _=>rfl;(first|omega|(simp only[az];omega)|(simp;omega));decide;rfl;case ia=>infer_instance)|(apply abh;rfl;rfl)|(apply abl;rfl;rfl)|(intro _;omega)|intro _
     all_goals try omega
     all_goals exact hR _ _ _ _
 . subst hs;have hN:=hN ha;unfold oC;repeat' first|apply aaQ|apply aa|apply aaf|apply aad|apply acH|apply bN|apply cX|(apply abx;rfl)|(apply abR;rfl;rfl)|(apply abh;rfl;rfl)|(intro _;omega)|intro _
   all_goals try omega
   all_goals exact hN _ _
attribute [local irreducible] oC
theorem adh (p:Nat×Nat):dG 100 (.lv [(0,1,false,.int),(1,1,false,.int)]) (.agg (cP p)) (.agg (cP p))=some true:=by
 simp only[cP,dG,goEq,partOf,aZ,bc,b5,if_false,if_true,beq_self_eq_true]
theorem adi {l:List (Nat×Nat)}(hl:l.length<1000000){x1 x2:AV}(h1:jC x1 l)(h2:jC x2 l)(a0 a2 a3 a5 a8 a9 aA aB:AV)(K:ae)(lo:List (Nat×AV))(wr:List Nat){Q:Ex->au->Prop}
 (hN:∀lo wr,Q (.exit 2) ⟨⟨[a0,.bool false,a2,a3,x1,a5,x2,.iV l.length,a8,a9,aA,aB],lo,K,[]⟩,wr⟩) :
 W M (.loop oE) ⟨⟨[a0,.bool false,a2,a3,x1,a5,x2,.iV 0,a8,a9,aA,aB],lo,K,[]⟩,wr⟩ Q:=by
 rcases h1 with rfl|⟨rfl,rfl⟩
 . rcases h2 with rfl|⟨rfl,rfl⟩
   . refine W.gn l.length (fun i s=>∃lo wr,s=⟨⟨[a0,.bool false,a2,a3,.vs (arr cP l) l.length none,a5,.vs (arr cP l) l.length none,.iV i,a8,a9,aA,aB],lo,K,[]⟩,wr⟩)
      (fun i s hi ⟨lo,wr,hs⟩=>?_) (fun s ⟨lo,wr,hs⟩=>?_) (cK _) ⟨lo,wr,rfl⟩
     . subst hs;have next:∀lo wr,∃lo' wr',(⟨⟨[a0,.bool false,a2,a3,.vs (arr cP l) l.length none,a5,.vs (arr cP l) l.length none,.iV ((i+1:Nat):Int),a8,a9,aA,aB],lo,K,[]⟩,wr⟩:au)=⟨⟨[a0,.bool false,a2,a3,.vs (arr cP l) l.length none,a5,.vs (arr cP l) l.length none,.iV ((i+1:Nat):Int),a8,a9,aA,aB],lo',K,[]⟩,wr'⟩:=fun lo wr=>⟨lo,wr,rfl⟩
       unfold oE;repeat' first|(apply aev;rfl;rfl;exact adh _)|apply aaQ|apply aa|apply aaf|apply aad|apply abI|apply abC|apply bE|(apply adX;rfl)|(apply abz;rfl)|(apply abx;rfl)|(apply abR;rfl;rfl)|(apply acS;rfl;rfl;omega)|(apply adp;rfl;rfl;omega)|(apply adL;rfl;exact fun _=>rfl;(first|omega|(simp only[az];omega)|(simp;omega));decide;rfl;case ia=>infer_instance)|(apply abh;rfl;rfl)|(apply abl;rfl;rfl)|(intro _;omega)|intro _
       all_goals try omega
       all_goals exact cW (next _ _)
     . subst hs;unfold oE;repeat' first|apply aaQ|apply aa|apply aaf|apply aad|apply acH|apply bN|apply cX|(apply abx;rfl)|(apply abR;rfl;rfl)|(apply abh;rfl;rfl)|(intro _;omega)|intro _
       all_goals try omega
       all_goals exact hN _ _
   . have l0:([]:List (Nat×Nat)).length=0:=rfl;refine W.loop ?_;unfold oE;repeat' first|apply aaQ|apply aa|apply aaf|apply aad|apply acH|apply bN|apply dP|(apply abx;rfl)|(apply abR;rfl;rfl)|(apply abh;rfl;rfl)|(intro _;omega)|intro _
     all_goals try omega
     all_goals exact hN _ _
 . have l0:([]:List (Nat×Nat)).length=0:=rfl;refine W.loop ?_;unfold oE;repeat' first|apply aaQ|apply aa|apply aaf|apply aad|apply acH|apply bN|apply dP|(apply abx;rfl)|(apply abR;rfl;rfl)|(apply abh;rfl;rfl)|(intro _;omega)|intro _
   all_goals try omega
   all_goals exact hN _ _
section
variable {t n m:Nat} {x:aO} {l:List aY} {pe:List AV} {lo:List (Nat×AV)} {H:ae} {df wr:List Nat} {c:List AV} {e:TypeId} {a b:Option bR} {Q:au->Prop}
theorem afw {ag:Bool}{v:AV}(hx:(St.mk pe lo (H++[a]++[some (.cells c e)]++[b]) df).ah x=some (.ptr m 0))(hm:m=H.length+1)(hv:partOf (c.drop 0) 0 n ag=some v)
 (h:WO M l ⟨⟨pe,(t,v)::lo,H++[a]++[some (.cells c e)]++[b],df⟩,wr⟩ Q):WO M (⟨.l t,.load n ag x,none⟩::l) ⟨⟨pe,lo,H++[a]++[some (.cells c e)]++[b],df⟩,wr⟩ Q:=by
 subst hm;have hl:H.length+1=(H++[a]).length:=by simp
 rw[hl]at hx;exact aeA hx (cm bS) hv h
end
theorem adk {h:ae}{b:Nat}{cap:Option Nat}{x y:Int}{e:TypeId}(hb:h.at b=some (.cells [.iV x,.iV y] e)):gm h (.sl b 0 2 1 cap)=some [x,y]:=by
 have:rq h (.sl b 0 2 1 cap)=some ([.iV x,.iV y],2):=by simp[rq,hb,cut]
 simp[gm,this,ru]
theorem qC (C:C9 M f sep){t:List (aj×aj)}(hl:t.length<1000000)(ha:∀i,i<t.length->fz t[i]! = false)(a1 a2 a3 a4 a5 a6 a7 a8 a9 aA aB:AV)(K:ae)(lo:List (Nat×AV))(wr:List Nat){Q:Ex->au->Prop}
 (hR:∀a2 a8 a9 aA aB lo K wr,Q .ret ⟨⟨[.vs (arr fP t) t.length none,.bool true,a2,a3,a4,a5,a6,a7,a8,a9,aA,aB],lo,K,[]⟩,wr⟩) :
 W M t9 ⟨⟨[.vs (arr fP t) t.length none,a1,a2,a3,a4,a5,a6,a7,a8,a9,aA,aB],lo,K,[]⟩,wr⟩ Q:=by
 by_cases h2:t.length<2
 . unfold t9;repeat' first|apply aaQ|apply aa|apply aaf|apply aad|apply abw|apply aU|(apply abz;rfl)|(apply abR;rfl;rfl)|(apply abh;rfl;rfl)|(apply abl;rfl;rfl)|(intro _;omega)|intro _
   all_goals try omega
   all_goals exact hR _ _ _ _ _ _ _ _
 . have e0:(0:Int).toNat=0:=rfl;have e1:((t.length:Int)-1).toNat=t.length-1:=by omega
   have l0:=ha 0 ac;have l1:=ha (t.length-1) ac;rw[←e0]at l0;rw[←e1]at l1;have p33:=fun h=>C.yx _ h l0
   have q33:=fun h=>C.yx _ h l1
   have q53:=fun h=>C.NH _ _ h l0 l1
   have f25:=fun (b:Nat) (e:TypeId) cap h (hb:h.at b=some (.cells [.iV (f t[(0:Int).toNat]!),.iV (f t[((t.length:Int)-1).toNat]!)] e))=>C.Nz (.sl b 0 2 1 cap) h [f t[(0:Int).toNat]!,f t[((t.length:Int)-1).toNat]!] (adk hb) (by show 2<1000;decide)
   by_cases he:bK [f t[(0:Int).toNat]!,f t[((t.length:Int)-1).toNat]!]=0
   . have q54:=fun h=>C.NI _ _ h l0 l1 he
     rw[he]at f25;simp only[he,if_true]at q53;have q42:=C.NC (sep t[(0:Int).toNat]! t[((t.length:Int)-1).toNat]!);unfold t9;repeat' first|(apply aeN;rfl;rfl;exact⟨rfl,aW _,rfl⟩;rfl)|(apply aeO;rfl;rfl;simp;exact⟨rfl,aW _,rfl⟩;rfl)|(apply aeP;rfl;simp;rfl)|(apply afw;rfl;simp;rfl)|(apply adR;rfl;(first|(focus((repeat' first|exact bS|assumption|apply cm);done))|exact cJ aq);rfl)|(apply adN;rfl;rfl;(first|(simp only[nca];rfl)|rfl);first|exact p33 _|exact q33 _|exact f25 _ _ _ _ bS)|apply aaQ|apply aa|apply aaf|apply aad|apply abw|apply abC|apply adr|apply adI|(apply adO;rfl)|(apply adJ;rfl;rfl;(first|(simp only[nca];rfl)|rfl))|(apply adW;rfl;(first|(simp only[nca];rfl)|rfl);(first|(simp only[nca];rfl)|rfl))|(apply aeu;rfl)|(apply abx;rfl)|(apply abR;rfl;rfl)|(apply adf;rfl;rfl)|(apply adj;rfl;rfl;omega)|(apply abJ;rfl;rfl;first|exact q53 _|exact q54 _|exact q42 _)|(apply adp;rfl;rfl;omega)|(apply adL;rfl;exact fun _=>rfl;(first|omega|(simp only[az];omega)|(simp;omega));decide;rfl;case ia=>infer_instance)|(apply acn;rfl;rfl;rfl)|(apply abU;rfl;rfl;rfl)|(apply abh;rfl;rfl)|(apply abl;rfl;rfl)|(intro _;omega)|intro _
     all_goals try omega
     all_goals exact hR _ _ _ _ _ _ _ _
   . have q42:=fun h=>C.NB _ h he
     simp only[if_neg he]at q53;generalize bK [f t[(0:Int).toNat]!,f t[((t.length:Int)-1).toNat]!]=e at *
     unfold t9;repeat' first|(apply aeN;rfl;rfl;exact⟨rfl,aW _,rfl⟩;rfl)|(apply aeO;rfl;rfl;simp;exact⟨rfl,aW _,rfl⟩;rfl)|(apply aeP;rfl;simp;rfl)|(apply adR;rfl;(first|(focus((repeat' first|exact bS|assumption|apply cm);done))|exact cJ aq);rfl)|(apply adN;rfl;rfl;(first|(simp only[nca];rfl)|rfl);first|exact p33 _|exact q33 _|exact f25 _ _ _ _ bS)|apply aaQ|apply aa|apply aaf|apply aad|apply abw|apply abC|apply aU|apply adr|apply adI|(apply adO;rfl)|(apply adJ;rfl;rfl;(first|(simp only[nca];rfl)|rfl))|(apply adW;rfl;(first|(simp only[nca];rfl)|rfl);(first|(simp only[nca];rfl)|rfl))|(apply aeu;rfl)|(apply abz;rfl)|(apply abx;rfl)|(apply abR;rfl;rfl)|(apply adf;rfl;rfl)|(apply adj;rfl;rfl;omega)|(apply abJ;rfl;rfl;first|exact q53 _|exact q42 _)|(apply adp;rfl;rfl;omega)|(apply adL;rfl;exact fun _=>rfl;(first|omega|(simp only[az];omega)|(simp;omega));decide;rfl;case ia=>infer_instance)|(apply acn;rfl;rfl;rfl)|(apply abU;rfl;rfl;rfl)|(apply abh;rfl;rfl)|(apply abl;rfl;rfl)|(intro _;omega)|intro _
     all_goals try omega
     all_goals exact hR _ _ _ _ _ _ _ _
attribute [local irreducible] t9 oE
theorem jC.shape {x:AV}{l:List (Nat×Nat)}(h:jC x l):x = .vs (arr cP l) l.length none\/(x = .ab/\l=[]):=h
theorem w9 (C:C9 M f sep)(t:List (aj×aj)):bg M 9 [.vs (arr fP t) t.length none] [] ⟨.bool true,[],[]⟩:=by
 refine bY (by rw[C.ft];exact ft9) aq ?_;have q15:=C.Ny;have tt:∀e h,M.ext 20 [.bool true,.iV e] h=some ⟨.iV e,h,[]⟩:=fun e h=>C.Fp true e h
 have tf:∀e h,M.ext 20 [.bool false,.iV e] h=some ⟨.iV 0,h,[]⟩:=fun e h=>C.Fp false e h
 unfold b9;simp only[enter];by_cases hA:(12<t.length/\t.length<=256)\/260<t.length
 . by_cases h1:t.length<=256
   all_goals
   . repeat' first|apply aaQ|apply aa|apply aaf|apply aad|apply abw|apply aU|(apply abz;rfl)|(apply acF;rfl)|(apply adb;rfl)|(apply adU;rfl)|(apply adZ;rfl;rfl)|(apply abV;rfl;rfl)|(apply aco;rfl;rfl)|(apply acw;rfl;rfl)|(apply abJ;rfl;rfl;first|exact q15 _)|(apply abh;rfl;rfl)|(apply abl;rfl;rfl)|(intro _;omega)|intro _
     all_goals try omega
     all_goals exact⟨.inr rfl,rfl,_,rfl,rfl,rfl⟩
 . by_cases hB:256<t.length
   . repeat' first|(refine NJ C ac _ _ _ _ _ _ _ _ _ _ _ _ (fun a2 a3 lo wr=>?_) (fun hS lo wr=>?_))|apply aaQ|apply aa|apply aaf|apply aad|apply abI|apply abC|apply aU|apply cQ|apply bJ|(apply abx;rfl)|(apply acF;rfl)|(apply adb;rfl)|(apply adZ;rfl;rfl)|(apply abV;rfl;rfl)|(apply aco;rfl;rfl)|(apply acw;rfl;rfl)|(apply abJ;rfl;rfl;first|exact q15 _|exact tt _ _|exact tf _ _)|(apply abh;rfl;rfl)|(apply abl;rfl;rfl)|(intro _;omega)|intro _
     all_goals try omega
     . skip;all_goals exact⟨.inr rfl,rfl,_,rfl,rfl,rfl⟩
     . have e5:iO 5 t f t.length=5:=if_pos am;rw[e5];have q51:=fun h=>C.ND t h hB ac
       repeat' first|(refine qC C ac hS _ _ _ _ _ _ _ _ _ _ _ _ _ _ (fun a2 a8 a9 aA aB lo K wr=>?_))|apply aaQ|apply aa|apply aaf|apply aad|apply abC|(apply abz;rfl)|(apply abx;rfl)|(apply adb;rfl)|(apply adf;rfl;rfl)|(apply acw;rfl;rfl)|(apply abJ;rfl;rfl;first|exact q51 _)|(apply abh;rfl;rfl)|(apply abl;rfl;rfl)|(intro _;omega)|intro _
       all_goals try omega
       all_goals
        skip
       all_goals exact⟨.inr rfl,rfl,_,rfl,rfl,rfl⟩
   . repeat' first|(refine NJ C ac _ _ _ _ _ _ _ _ _ _ _ _ (fun a2 a3 lo wr=>?_) (fun hS lo wr=>?_))|apply aaQ|apply aa|apply aaf|apply aad|apply abI|apply abC|apply aU|apply cQ|apply bJ|(apply abx;rfl)|(apply adb;rfl)|(apply adu;rfl)|(apply abV;rfl;rfl)|(apply acw;rfl;rfl)|(apply abJ;rfl;rfl;first|exact q15 _|exact tt _ _|exact tf _ _)|(apply abh;rfl;rfl)|(apply abl;rfl;rfl)|(intro _;omega)|intro _
     all_goals try omega
     . skip;all_goals exact⟨.inr rfl,rfl,_,rfl,rfl,rfl⟩
     . have e5:iO 0 t f t.length=bK (t.map f):=by
        unfold iO;rw[if_neg am,List.take_length]
       rw[e5];obtain⟨r,hr,q51⟩:=C.NF t ac hS;rcases hr with ⟨h0,x,hx,rfl⟩|⟨h0,rfl⟩
       . obtain⟨y,hy,q52⟩:=C.NG t ac hS h0;have hlen:(dx t t.length).length<1000000:=by
          have:=yw (t:=t) (i:=t.length);have:=cV (show t.length<=12 by omega) (show t.length<=12 by omega);omega
         have n0:([]:List (Nat×Nat)).length=0:=rfl;rw[h0];have lp:=fun a0 a2 a3 a5 a8 a9 aA aB K lo wr Q hN=>adi (M:=M) hlen hx hy a0 a2 a3 a5 a8 a9 aA aB K lo wr (Q:=Q) hN
         generalize dx t t.length=L at *
         rcases hx.shape with rfl|⟨rfl,hx0⟩
         . rcases hy.shape with rfl|⟨rfl,hy0⟩
           . repeat' first|(refine lp _ _ _ _ _ _ _ _ _ _ _ _ (fun lo wr=>?_))|(refine qC C ac hS _ _ _ _ _ _ _ _ _ _ _ _ _ _ (fun a2 a8 a9 aA aB lo K wr=>?_))|apply aaQ|apply aa|apply aaf|apply aad|apply abI|apply abC|apply bJ|(apply abx;rfl)|(apply adb;rfl)|(apply adf;rfl;rfl)|(apply acw;rfl;rfl)|(apply abJ;rfl;rfl;first|exact q51 _|exact q52 _)|(apply abh;rfl;rfl)|(apply abl;rfl;rfl)|(intro _;omega)|intro _
             all_goals try omega
             all_goals exact⟨.inr rfl,rfl,_,rfl,rfl,rfl⟩
           . have zl:L.length=0:=by rw[hy0];rfl
             repeat' first|(refine lp _ _ _ _ _ _ _ _ _ _ _ _ (fun lo wr=>?_))|(refine qC C ac hS _ _ _ _ _ _ _ _ _ _ _ _ _ _ (fun a2 a8 a9 aA aB lo K wr=>?_))|apply aaQ|apply aa|apply aaf|apply aad|apply abI|apply abC|apply bJ|(apply abx;rfl)|(apply adb;rfl)|(apply adf;rfl;rfl)|(apply acw;rfl;rfl)|(apply abJ;rfl;rfl;first|exact q51 _|exact q52 _)|(apply abh;rfl;rfl)|(apply abl;rfl;rfl)|(intro _;omega)|intro _
             all_goals try omega
             all_goals exact⟨.inr rfl,rfl,_,rfl,rfl,rfl⟩
         . have zl:L.length=0:=by rw[hx0];rfl
           rcases hy.shape with rfl|⟨rfl,hy0⟩
           . repeat' first|(refine lp _ _ _ _ _ _ _ _ _ _ _ _ (fun lo wr=>?_))|(refine qC C ac hS _ _ _ _ _ _ _ _ _ _ _ _ _ _ (fun a2 a8 a9 aA aB lo K wr=>?_))|apply aaQ|apply aa|apply aaf|apply aad|apply abI|apply abC|apply bJ|(apply abx;rfl)|(apply adb;rfl)|(apply adf;rfl;rfl)|(apply acw;rfl;rfl)|(apply abJ;rfl;rfl;first|exact q51 _|exact q52 _)|(apply abh;rfl;rfl)|(apply abl;rfl;rfl)|(intro _;omega)|intro _
             all_goals try omega
             all_goals exact⟨.inr rfl,rfl,_,rfl,rfl,rfl⟩
           . repeat' first|(refine lp _ _ _ _ _ _ _ _ _ _ _ _ (fun lo wr=>?_))|(refine qC C ac hS _ _ _ _ _ _ _ _ _ _ _ _ _ _ (fun a2 a8 a9 aA aB lo K wr=>?_))|apply aaQ|apply aa|apply aaf|apply aad|apply abI|apply abC|apply bJ|(apply abx;rfl)|(apply adb;rfl)|(apply adf;rfl;rfl)|(apply acw;rfl;rfl)|(apply abJ;rfl;rfl;first|exact q51 _|exact q52 _)|(apply abh;rfl;rfl)|(apply abl;rfl;rfl)|(intro _;omega)|intro _
             all_goals try omega
             all_goals exact⟨.inr rfl,rfl,_,rfl,rfl,rfl⟩
       . generalize bK (t.map f)=e at *
         repeat' first|(refine qC C ac hS _ _ _ _ _ _ _ _ _ _ _ _ _ _ (fun a2 a8 a9 aA aB lo K wr=>?_))|apply aaQ|apply aa|apply aaf|apply aad|apply abC|(apply abz;rfl)|(apply abx;rfl)|(apply adb;rfl)|(apply adf;rfl;rfl)|(apply acw;rfl;rfl)|(apply abJ;rfl;rfl;first|exact q51 _)|(apply abh;rfl;rfl)|(apply abl;rfl;rfl)|(intro _;omega)|intro _
         all_goals try omega
         all_goals
         skip;all_goals exact⟨.inr rfl,rfl,_,rfl,rfl,rfl⟩
theorem cmp_eq {p q:Rat}:gw p q=0↔p=q:=by
 have h1:=Ky p q;rw[←h1,Dr];constructor
 . intro h;have hn:(p-q).num=0:=by
    unfold br at h;split at h
    . omega
    . split at h <;> omega
   have:p-q=0:=Rat.num_eq_zero.1 hn;grind
 . rintro rfl;rw[Rat.sub_self];rfl
noncomputable def fU (x:aj×aj):Int:=if cO x.1≠0 then cO x.1 else if cO x.2≠0 then cO x.2 else yt (dW x.1) (dW x.2)
theorem Fq {x:aj×aj}(h:fz x=false):x.1.length<=20/\x.2.length<=20:=by
 have:=of_decide_eq_false h;omega
theorem mN {x:aj×aj}(h:fz x=false)(h1:cO x.1=0)(h2:cO x.2=0):(x.1=aQ (dW x.1)/\Dq 60 (dW x.1))/\(x.2=aQ (dW x.2)/\Dq 60 (dW x.2))/\fU x=yt (dW x.1) (dW x.2):=by
 obtain⟨l1,l2⟩:=Fq h;obtain⟨a1,d1⟩:=No h1 l1;obtain⟨a2,d2⟩:=No h2 l2;exact⟨⟨a1,d1.mono am⟩,⟨a2,d2.mono am⟩,by unfold fU;rw[if_neg (fun k=>k h1),if_neg (fun k=>k h2)]⟩
theorem Fs {x:aj×aj}(h:bK [cO x.1,cO x.2]≠0):fU x=bK [cO x.1,cO x.2]:=by
 rw[ti]at h ⊢;unfold fU;by_cases h1:cO x.1=0
 . rw[if_neg (fun k=>k h1)]at h;have e1:(if cO x.1≠0 then cO x.1 else cO x.2)=cO x.2:=if_neg (fun k=>k h1);rw[if_neg (fun k=>k h1),if_pos h,e1]
 . rw[if_pos h1,if_pos h1]
theorem Ft (x:aj×aj):bK [cO x.1,cO x.2]≠0\/cO x.1=0/\cO x.2=0:=by
 rw[ti];by_cases h1:cO x.1=0
 . rw[if_neg (fun k=>k h1)];by_cases h2:cO x.2=0
   . exact .inr ⟨h1,h2⟩
   . exact .inl h2
 . rw[if_pos h1];exact .inl h1
theorem adl {x:aj×aj}(h:fz x=false)(hp:ae):th [.agg (fP x)] hp=some ⟨.iV (fU x),hp,[]⟩:=by
 obtain⟨l1,l2⟩:=Fq h;rcases Ft x with h0|⟨h1,h2⟩
 . rw[Fs h0];exact acE ac ac rfl h0 hp
 . obtain⟨⟨a1,d1⟩,⟨a2,d2⟩,e⟩:=mN h h1 h2;have:=k33 d1 d2 hp;rw[←a1,←a2]at this;rw[e];exact this
theorem Fu {x:aj×aj}(h:fz x=false):∃A:FC×FC,(∀hp,qy [.agg (fP x)] hp=some ⟨.ay [.agg (fB A),.iV (fU x)],hp,[]⟩)/\(fU x=0->cL (.agg (cF A.1)) (dW x.1)/\cL (.agg (cF A.2)) (dW x.2)):=by
 obtain⟨l1,l2⟩:=Fq h;rcases Ft x with h0|⟨h1,h2⟩
 . rw[Fs h0];exact⟨(((0,none),(0,none)),((0,none),(0,none))),fun hp=>acA ac ac rfl h0 hp,fun k=>absurd k h0⟩
 . obtain⟨⟨a1,d1⟩,⟨a2,d2⟩,e⟩:=mN h h1 h2;obtain⟨v,va,vb,hv,q⟩:=acB d1 d2;rw[←a1,←a2]at q;obtain⟨c1,e1⟩:=hv.ha.fc;obtain⟨c2,e2⟩:=hv.hb.fc;have hv':v = .agg (fB (c1,c2)):=by
    obtain⟨s,w,s',w',t,y,t',y',i1,i2,i3⟩:=hv.eq;rw[i1]at e1;rw[i2]at e2;simp only[cF,AV.agg.injEq,List.cons.injEq,and_true]at e1 e2;obtain⟨j1,j2,j3,j4⟩:=e1;obtain⟨j5,j6,j7,j8⟩:=e2;rw[i3];show AV.agg _=AV.agg [_,_,_,_,_,_,_,_];rw[j1,j2,j3,j4,j5,j6,j7,j8]
   refine⟨(c1,c2),fun hp=>?_,fun _=>⟨by rw[←e1];exact hv.ha,by rw[←e2];exact hv.hb⟩⟩;rw[e,←hv'];exact q hp
noncomputable def Fv:Spec:=sK [(147,kX)] 189
theorem adm:ba Tryz.prog gl 189 Fv:=bG (aT wF bP)
noncomputable def NK:List (Nat×Spec):=[(189,Fv),(147,kX)]
noncomputable def yy:Spec:=sK NK 135
theorem NL:ba Tryz.prog gl 135 yy:=bG (aT adm (aT wF bP))
theorem Fw {va vb:AV}{p q:Rat}(ha:cL va p)(hb:cL vb q)(hp:Dq 60 p)(hq:Dq 60 q)(h:ae):kX [va,vb] h=some ⟨.iV (gw p q),h,[]⟩:=CO (N:=1000) am am va vb p q ha hb (hp.bq am) (hq.bq am) h
theorem NM {v va vb w wa wb:AV}{p q p' q':Rat}(hv:Rd v va vb p q)(hw:Rd w wa wb p' q')(hp:Dq 60 p)(hq:Dq 60 q)(hp':Dq 60 p')(hq':Dq 60 q')(h:ae):yy [v,w] h=some ⟨.iV (lj (gw p p') (gw q q') (gw q p') (gw q' p)),h,[]⟩:=by
 have same:∀{va vb:AV} {p q:Rat},cL va p->cL vb q->Dq 60 p->Dq 60 q->∀h,Fv [va,vb] h=some ⟨.bool (decide (gw p q=0)),h,[]⟩:=fun ha hb hp hq h=>
  cz (acP (M:=bx Tryz.prog FT [(147,kX)]) bF ha hb (Fw ha hb hp hq)) (fy ha.top hb.top) rfl rfl h
 exact cz (acQ (M:=bx Tryz.prog FT NK) bF hv hw (same hv.ha hw.ha hp hp') (same hv.hb hw.hb hq hq') (Fw hv.hb hw.ha hq hp') (Fw hw.hb hv.ha hq' hp)) (fy hv.top hw.top) rfl rfl h
theorem yz (A:FC×FC){p q:Rat}(h1:cL (.agg (cF A.1)) p)(h2:cL (.agg (cF A.2)) q):Rd (.agg (fB A)) (.agg (cF A.1)) (.agg (cF A.2)) p q:=⟨h1,h2,_,_,_,_,_,_,_,_,rfl,rfl,rfl⟩
noncomputable def yA:List (Nat×Spec):=[(107,qy),(135,yy)]
theorem adn:cB Tryz.prog gl (bB yA):=aT Nd (aT NL bP)
noncomputable def Fx:Spec:=sK yA 51
theorem ado:ba Tryz.prog gl 51 Fx:=bG adn
theorem Fy (t:List (aj×aj)):bz [.vs (arr fP t) t.length none]=0:=by
 simp[bz,AV.top,jL (f:=fP) (fun _=>rfl) t]
theorem yB {t:List (aj×aj)}{f:aj×aj->Int}(h:bK (t.map f)=0):∀i,i<t.length->f t[i]! = 0:=by
 intro i;induction i using Nat.strongRecOn with
 | ind i ih=>
  intro hi;refine Decidable.byContradiction fun h0=>?_
  rw[Fj hi (fun k hk=>ih k hk ac) h0]at h;exact h0 h
theorem mO {x:aj×aj}(_h:fz x=false)(h0:fU x=0):cO x.1=0/\cO x.2=0:=by
 rcases Ft x with h1|h1
 . rw[Fs h1]at h0;exact absurd h0 h1
 . exact h1
theorem k51 {t:List (aj×aj)}(hl:t.length<=12)(hS:∀i,i<t.length->fz t[i]! = false):∃r,tq t fU r/\∀h,Fx [.vs (arr fP t) t.length none] h=some ⟨r,h,[]⟩:=by
 obtain⟨r,hr,hk⟩:=w51 (M:=bx Tryz.prog FT yA) (cap:=none) (t:=t) (f:=fU) ⟨bF,fun i hi=>Fu (hS i hi)⟩ (fun A hE hA hH i k hi hk=>by
  obtain⟨i1,i2⟩:=mO (hS i hi) (yB hE i hi);obtain⟨k1,k2⟩:=mO (hS k hk) (yB hE k hk);obtain⟨⟨_,d1⟩,⟨_,d2⟩,_⟩:=mN (hS i hi) i1 i2;obtain⟨⟨_,d3⟩,⟨_,d4⟩,_⟩:=mN (hS k hk) k1 k2;obtain⟨a1,a2⟩:=hH i ac;obtain⟨b1,b2⟩:=hH k ac;exact⟨_,decide_eq_true_iff.symm,NM (yz _ a1 a2) (yz _ b1 b2) d1 d2 d3 d4⟩) ac
 exact⟨r,hr,dM hk (Fy t)⟩
noncomputable def tr:Spec:=sK [(48,tc)] 54
theorem NN:ba Tryz.prog gl 54 tr:=bG (aT ML bP)
theorem NO {x y:aj×aj}(hx:fz x=false)(hy:fz y=false)(x0:cO x.1=0/\cO x.2=0)(y0:cO y.1=0/\cO y.2=0)(h:ae):tr [.agg (fP x),.agg (fP y)] h=some ⟨.iV (tk x y),h,[]⟩:=by
 obtain⟨⟨a1,d1⟩,⟨a2,d2⟩,_⟩:=mN hx x0.1 x0.2;obtain⟨⟨b1,d3⟩,⟨b2,d4⟩,_⟩:=mN hy y0.1 y0.2;have q1:=fun h=>yn (dW x.2) (dW y.1) h (d2.mono am) (d3.mono am)
 have q2:=fun h=>yn (dW y.2) (dW x.1) h (d4.mono am) (d1.mono am)
 rw[←a2,←b1]at q1;rw[←b2,←a1]at q2;refine cz (w54 (M:=bx Tryz.prog FT [(48,tc)]) bF ?_ q1 q2) rfl rfl rfl h;constructor
 . rintro⟨h1,h2⟩;rw[h1,h2];exact⟨cmp_eq.2 rfl,cmp_eq.2 rfl⟩
 . rintro⟨h1,h2⟩;have:=cmp_eq.1 h1;have:=cmp_eq.1 h2;exact⟨by rw[a1,b1];congr,by rw[a2,b2];congr⟩
noncomputable def Fz:Spec:=sK [(54,tr)] 52
theorem adq:ba Tryz.prog gl 52 Fz:=bG (aT NN bP)
theorem k52 {t:List (aj×aj)}(hl:t.length<=12)(hS:∀i,i<t.length->fz t[i]! = false)(hE:bK (t.map fU)=0):∃x,jC x (dx t t.length)/\∀h,Fz [.vs (arr fP t) t.length none] h=some ⟨x,h,[]⟩:=by
 obtain⟨x,hx,hk⟩:=w52 (M:=bx Tryz.prog FT [(54,tr)]) (cap:=none) bF (t:=t) (fun i k hi hk=>⟨_,decide_eq_true_iff.symm,NO (hS i hi) (hS k hk) (mO (hS i hi) (yB hE i hi)) (mO (hS k hk) (yB hE k hk))⟩) ac;exact⟨x,hx,dM hk (Fy t)⟩
noncomputable def FA:List (Nat×Spec):=[(107,qy),(90,jc),(91,jb),(135,yy)]
theorem ads:cB Tryz.prog gl (bB FA):=aT Nd (aT MX (aT MY (aT NL bP)))
noncomputable def FB:Spec:=sK FA 53
theorem adt:ba Tryz.prog gl 53 FB:=bG ads
theorem qE (A:FC×FC):tn (.agg (fB A)):=⟨_,_,_,_,_,_,_,_,rfl,tp _,tp _,tp _,tp _⟩
theorem k53 {x y:aj×aj}(hx:fz x=false)(hy:fz y=false)(h:ae):FB [.agg (fP x),.agg (fP y)] h=some ⟨.ay [.iV (if bK [fU x,fU y]=0 then tk x y else 0),.iV (bK [fU x,fU y])],h,[]⟩:=by
 have C:=Fb FA (fun _ _=>rfl) (fun _ _=>rfl);obtain⟨A,qa,ha⟩:=Fu hx;obtain⟨B,qb,hb⟩:=Fu hy;by_cases h0:bK [fU x,fU y]=0
 . obtain⟨ex,ey⟩:fU x=0/\fU y=0:=by
    rw[ti]at h0;split at h0
    . omega
    . constructor <;> omega
   rw[if_pos h0];obtain⟨a1,a2⟩:=ha ex;obtain⟨b1,b2⟩:=hb ey;have x0:=mO hx ex;have y0:=mO hy ey;obtain⟨⟨i1,d1⟩,⟨i2,d2⟩,_⟩:=mN hx x0.1 x0.2;obtain⟨⟨j1,d3⟩,⟨j2,d4⟩,_⟩:=mN hy y0.1 y0.2;by_cases hE:x.1=y.1/\x.2=y.2
   . have hs:tk x y=0:=if_pos ⟨cmp_eq.2 (by rw[hE.1]),cmp_eq.2 (by rw[hE.2])⟩;rw[hs,h0];exact cz (Nr C (qE A) (qE B) qa qb h0 (.inr hE)) rfl rfl rfl h
   . rw[h0];rw[ex]at qa;rw[ey]at qb;exact cz (w53 C (qE A) (qE B) qa qb hE (NM (yz A a1 a2) (yz B b1 b2) d1 d2 d3 d4)) rfl rfl rfl h
 . rw[if_neg h0];exact cz (Nr C (qE A) (qE B) qa qb rfl (.inl h0)) rfl rfl rfl h
theorem adv:ba Tryz.prog gl 20 jb:=SW
noncomputable def FD:List (Nat×Spec):=[(15,EY),(20,jb),(25,jc),(31,Nh),(33,th),(42,MM),(51,Fx),(52,Fz),(53,FB),(54,tr)]
theorem adw:cB Tryz.prog gl (bB FD):=aT acp (aT adv (aT SY (aT acG (aT acD (aT abQ (aT ado (aT adq (aT adt (aT NN bP)))))))))
theorem c9:C9 (bx Tryz.prog FT FD) fU tk where
 ft:=bF
 Ny:=fun h=>by
  show EY [] h=_;rfl
 Fp:=fun t e h=>rfl
 Nz:=fun v h l hi hl=>Nf hi hl
 NA:=fun x h=>cz (w31 bF x.1 x.2) rfl rfl rfl h
 yx:=fun x h hx=>adl hx h
 NB:=fun e h he=>cz (abi bF he) rfl rfl rfl h
 NC:=fun c h=>cz (abj bF c) rfl rfl rfl h
 ND:=fun t h h1 h2=>dM (ada (M:=bx Tryz.prog FT yA) (cap:=none) bF h1 h2) (Fy t) h
 NF:=fun t hl hS=>k51 hl hS
 NG:=fun t hl hS hE=>k52 hl hS hE
 NH:=fun x y h hx hy=>k53 hx hy h
 NI:=fun x y h hx hy h0=>by
  obtain⟨ex,ey⟩:fU x=0/\fU y=0:=by
   rw[ti]at h0;split at h0
   . omega
   . constructor <;> omega
  exact NO hx hy (mO hx ex) (mO hy ey) h
end Go.Ab.Ch5.N
