/-
  Own work: the reference's integers: no digits times no digits.
-/
import Derived.Test.YtcjphdmkgmkabaaGreatDoorLib10
import Derived.Test.YtcjphdmkgmkabaaGreatDoorCh1Base
import Derived.IntWalk
import Derived.Test.YtcjphdmkgmkabaaGreatDoorLib4
set_option maxHeartbeats 8000000
set_option maxRecDepth 20000
namespace Go.Ab.Ch1
open Go.Ab.aR
variable {M:ao} {cap c1 c2:Option Nat}
theorem fD.zero {b:Nat}{e:TypeId}{hp:ab}(hb:hp.at b=some (.cells (aj []) e)):fD (aQ [.sl b 0 0 1 cap]) (if (aQ [.sl b 0 0 1 cap]).top<=0 then [] else hp) []:=by
 rw[if_neg (by simp[aQ,AV.top])];refine⟨.vs [] 0 none,⟨[b],.sl (m:=[]) (List.mem_singleton.2 rfl) hb rfl rfl (fun i x y hx=>by simp at hx) (.inr rfl),rfl,fun c l' e' hc hl'=>?_⟩,rfl,rfl⟩;rw[List.mem_singleton.1 hc,hb]at hl';cases hl';exact lT (fun _=>rfl) []
theorem Yr (hft:M.FT=FT)(dr:∀ars h,M.ext 242 ars h=none):vk M 197 [.vs (aj []) ([]:List Int).length c1,.vs (aj []) ([]:List Int).length c2] (WV dB []*WV dB []):=by
 refine BD (by rw[hft];exact IG) (by simp) ?_;have q:=CT.run (fi:=[]) (ca:=[]) (ars:=[.sl 0 0 0 1 (some 0)]) (dr _ _) (BH hft (b:=0) (L:=[]) (e:=3) (hp:=[some (.cells (aj []) 3)]) (cap:=some 0) rfl);have hl:([]:List Int).length=0:=rfl;unfold BB;simp only[enter];rw[hl];repeat' first|refine gc ?_|fail
 refine W.loop ?_;unfold vi;exact gg1
open Go.Proofs
theorem bX.top {x:AV}{l:List Int}(h:bX x l):x.top=0:=(ra x h).2.1
theorem bD.top {v:AV}{z:Int}(h:bD v z):v.top=0:=by
 obtain⟨_,x,_,rfl,_,_,ht,_⟩:=h.shape;simp[AV.top,aY,ht]
theorem JV {x y:AV}{l m:List Int}(h:ab)(hx:bX x l)(hy:bX y m)(o1:okW dB l)(o2:okW dB m)(n1:aN l)(n2:aN m)(l1:l.length<1000000)(l2:m.length<1000000):vv [x,y] h=some ⟨.iV (aW (WV dB l-WV dB m)),h,[]⟩:=
 ql (IV bE l m o1 o2 n1 n2 (by omega) (by omega)) rfl rfl rfl (.cons hx.fJ (.cons hy.fJ .nil))
theorem Co (x:AV)(a b:List Int)(hx:bX x a)(o1:okW dB a)(o2:okW dB b)(n1:aN a)(n2:aN b)(l1:a.length<100000)(l2:b.length<100000)(hb:b≠[]) :
 ∃qv q rv r,bX qv q/\bX rv r/\okW dB q/\aN q/\okW dB r/\aN r/\WV dB q=WV dB a/WV dB b/\WV dB r=WV dB a%WV dB b/\∀h,ri [x,.vs (aj b) b.length none] h=some ⟨.aq [qv,rv],h,[]⟩:=by
 rcases hx with rfl|⟨rfl,rfl⟩
 . obtain⟨q,r,⟨h1,h2,h3⟩,⟨h4,h5,h6⟩,v,hh,⟨v1,x,y,f,t,k,i1,i2⟩,hr⟩:=WX (c1:=none) (c2:=none) Xf a b o1 o2 n1 n2 l1 l2 hb;exact⟨x,q,y,r,i1,i2,h1,h2,h4,h5,h3,h6,fun h=>tK ⟨v,hh,v1,hr,f,fo (fz a) (fz b),t,k⟩⟩
 . have bp:=(iS (b:=dB) (by decide) o2 n2).2 hb;have e:aW (WV dB []-WV dB b) = -1:=if_pos (by show (0:Int)-WV dB b<0;omega);refine⟨.ae,[],.ae,[],.inr ⟨rfl,rfl⟩,.inr ⟨rfl,rfl⟩,o1,n1,o1,n1,(Int.zero_ediv _).symm,(Int.zero_emod _).symm,fun h=>?_⟩;refine da (XV (M:=aZ Tryz.prog FT vw) (c2:=none) bE b fun h=>?_) (fo rfl (fz b)) rfl rfl h;rw[←e];exact JV h (.inr ⟨rfl,rfl⟩) (.inl rfl) o1 o2 n1 n2 (by show (0:Nat)<_;omega) (by omega)
theorem Ys:JN (aZ Tryz.prog FT [(195,ri)]) where
 ft:=bE
 mF:=Co
theorem JW {x y:AV}(a b:List Int)(hx:bX x a)(hy:bX y b)(oa:okW dB a)(ob:okW dB b)(na:aN a)(nb:aN b)(la:a.length<100000)(lb:b.length<100000):∃gv g,bX gv g/\okW dB g/\aN g/\WV dB g=(Int.gcd (WV dB a) (WV dB b):Nat)/\g.length<100000/\∀h,BP [x,y] h=some ⟨gv,h,[]⟩:=by
 obtain⟨gv,g,h1,h2,h3,h4,h5,hr⟩:=XW Ys a b hx hy oa ob na nb la lb;exact⟨gv,g,h1,h2,h3,h4,h5,dD hr (fo hx.top hy.top)⟩
noncomputable def JX:Spec:=sL [] 254
theorem Yt:bQ Tryz.prog gl 254 JX:=my cQ
noncomputable def vJ:List (Nat×Spec):=[(254,JX)]
theorem JY:dg Tryz.prog gl (bj vJ):=bF Yt cQ
theorem JZ:Cc (aZ Tryz.prog FT vJ) where
 ft:=bE
 vB:=fun a c i _h hi=>ql (Xz (M:=aZ Tryz.prog FT []) (c1:=c) bE a i hi) rfl rfl rfl (.cons (vu a) (.cons (.atom rfl) .nil))
 dr:=fun _ _=>rfl
noncomputable def Ka:Spec:=sL vJ 206
noncomputable def Kb:Spec:=sL vJ 219
noncomputable def vK:Spec:=sK [] 196
theorem Yu:bQ Tryz.prog gl 206 Ka:=my JY
theorem Yv:bQ Tryz.prog gl 219 Kb:=my JY
theorem Kc:bQ Tryz.prog gl 196 vK:=dJ cQ
theorem Cp:∀neg x l,bX x l->okW dB l->l.length<1000000000->∃v0,bD v0 (bm neg (WV dB l))/\∀h,vK [.bool neg,x] h=some ⟨v0,h,[]⟩:=fun neg x l hx ok hl=>by
 obtain⟨v0,h1,h2⟩:=XE (M:=aZ Tryz.prog FT []) bE (fun _ _=>rfl) neg hx ok hl;exact⟨v0,h1,dD h2 (fo rfl hx.top)⟩
noncomputable def rp:List (Nat×Spec):=[(206,Ka),(219,Kb),(218,vv),(197,BO),(196,vK)]
theorem Cq:dg Tryz.prog gl (bj rp):=bF Yu (bF Yv (bF Jl (bF Jm (bF Kc cQ))))
theorem Cr:vC (aZ Tryz.prog FT rp) where
 ft:=bE
 JG:=fun l m k1 k2 o1 o2 l1 l2=>by
  obtain⟨r,⟨h1,h2,h3⟩,v,hh,⟨v1,f,t,k⟩,hr⟩:=XB (c1:=k1) (c2:=k2) JZ l m o1 o2 l1 l2;exact⟨r,h1,h2,h3,fun x y h hx hy=>kH (.cons hx (.cons hy .nil)) ⟨v,hh,v1,hr,f,t,k⟩⟩
 Cd:=fun l m o1 o2 n1 n2 l1 l2 hle=>by
  have hlen:m.length<=l.length:=fQ (b:=dB) (by decide) o2 n2 (Int.lt_of_le_of_lt hle (cR (by decide) o1));obtain⟨r,⟨h1,h2,h3⟩,v,hh,⟨v1,f,t,k⟩,hr⟩:=XC (c1:=none) (c2:=none) JZ l m o1 o2 l1 hlen hle;exact⟨r,h1,h2,h3,fun x y h hx hy=>kH (.cons hx.fJ (.cons hy.fJ .nil)) ⟨v,hh,v1,hr,f,t,k⟩⟩
 rf:=fun l m x y h o1 o2 n1 n2 l1 l2 hx hy=>JV h hx hy o1 o2 n1 n2 l1 l2
 oI:=fun l m o1 o2 l1 l2=>by
  by_cases h0:0<l.length+m.length
  . obtain⟨r,⟨h1,h2,h3⟩,v,hh,⟨v1,f,t,k⟩,hr⟩:=IY (M:=aZ Tryz.prog FT []) (c1:=none) (c2:=none) bE (fun _ _=>rfl) l m o1 o2 (by omega) (by omega) h0;exact⟨r,h1,h2,h3,fun x y h hx hy=>kH (.cons hx.fJ (.cons hy.fJ .nil)) ⟨v,hh,v1,hr,f,t,k⟩⟩
  . obtain⟨rfl,rfl⟩:l=[]/\m=[]:=⟨List.eq_nil_of_length_eq_zero (by omega),List.eq_nil_of_length_eq_zero (by omega)⟩;obtain⟨r,⟨h1,h2,h3⟩,v,hh,⟨v1,f,t,k⟩,hr⟩:=Yr (M:=aZ Tryz.prog FT []) (c1:=none) (c2:=none) bE (fun _ _=>rfl);exact⟨r,h1,h2,h3,fun x y h hx hy=>kH (.cons hx.fJ (.cons hy.fJ .nil)) ⟨v,hh,v1,hr,f,t,k⟩⟩
 jc:=Cp
noncomputable def Cs:Spec:=sK rp 170
noncomputable def Ct:Spec:=sK rp 137
noncomputable def Cu:Spec:=sK rp 194
theorem Yw:bQ Tryz.prog gl 170 Cs:=dJ Cq
theorem Yx:bQ Tryz.prog gl 137 Ct:=dJ Cq
theorem Yy:bQ Tryz.prog gl 194 Cu:=dJ Cq
theorem Kd {a:AV}{z:Int}(ha:bD a z)(l:ah z<dB^100):∃v0,bD v0 (-z)/\∀h,Cu [a] h=some ⟨v0,h,[]⟩:=by
 obtain⟨v0,h1,h2⟩:=XF Cr ha l (by decide);exact⟨v0,h1,dD h2 (jA ha.top)⟩
theorem Yz {a b:AV}{x y:Int}(ha:bD a x)(hb:bD b y)(la:ah x<dB^100)(lb:ah y<dB^100):∃v0,bD v0 (x*y)/\∀h,Ct [a,b] h=some ⟨v0,h,[]⟩:=by
 obtain⟨v0,h1,h2⟩:=XG Cr ha hb la lb (by decide);exact⟨v0,h1,dD h2 (fo ha.top hb.top)⟩
theorem YA {a b:AV}{x y:Int}(ha:bD a x)(hb:bD b y)(la:ah x<dB^100)(lb:ah y<dB^100):∃v0,bD v0 (x+y)/\∀h,Cs [a,b] h=some ⟨v0,h,[]⟩:=by
 obtain⟨v0,h1,h2⟩:=XI Cr ha hb la lb (by decide);exact⟨v0,h1,dD h2 (fo ha.top hb.top)⟩
noncomputable def rq:Spec:=sK [] 117
noncomputable def ru:Spec:=sK [] 139
noncomputable def Ke:Spec:=sK [] 158
noncomputable def vM:Spec:=sK [(117,rq)] 138
theorem Kf:bQ Tryz.prog gl 117 rq:=dJ cQ
theorem Cv:bQ Tryz.prog gl 139 ru:=dJ cQ
theorem YB:bQ Tryz.prog gl 158 Ke:=dJ cQ
theorem Kg:bQ Tryz.prog gl 138 vM:=dJ (bF Kf cQ)
theorem Kh (n:Nat)(h:ab)(hn:n<9223372036854775808):rq [.iV (n:Nat),.iV 1] h=some ⟨.str (aX n),h,[]⟩:=da (XM bE n hn) rfl rfl rfl h
theorem YC:JI (aZ Tryz.prog FT [(117,rq)]) where
 ft:=bE
 JJ:=fun n h hn=>Kh n h (by omega)
 JK:=fun n h hn=>da (XO bE n hn) rfl rfl rfl h
theorem Cw {a:AV}{z:Int}(h:ab)(ha:bD a z)(l:ah z<dB^100):vM [a] h=some ⟨.str (cT z),h,[]⟩:=da (XP YC ha l (by decide)) (jA ha.top) rfl rfl h
theorem Cy (n:Int)(hn : -9223372036854775808<=n/\n<9223372036854775808):∃v0,bD v0 n/\∀h,ru [.iV n] h=some ⟨v0,h,[]⟩:=by
 obtain⟨v0,h1,h2⟩:=XU (M:=aZ Tryz.prog FT []) ⟨bE,fun _ _=>rfl,fun _ _=>rfl⟩ n hn;exact⟨v0,h1,dD h2 rfl⟩
noncomputable def vN:List (Nat×Spec):=[(194,Cu),(155,BP),(195,ri),(196,vK),(138,vM)]
theorem Ki:dg Tryz.prog gl (bj vN):=bF Yy (bF Xg (bF Jn (bF Kc (bF Kg cQ))))
theorem YD:vD (aZ Tryz.prog FT vN) 100 where
 ft:=bE
 vE:=Kd
 Cf:=JW
 mF:=Co
 jc:=Cp
 vF:=Cw
noncomputable def vO:Spec:=sK vN 136
theorem Kj:bQ Tryz.prog gl 136 vO:=dJ Ki
theorem Kk {a b:AV}{x y:Int}(h:ab)(ha:bD a x)(hb:bD b y)(la:ah x<dB^100)(lb:ah y<dB^100)(h0:y≠0):vO [a,b] h=some ⟨.str (aw (Rat.divInt x y)),h,[]⟩:=
 da (Ya YD (by decide) ha hb la lb h0) (fo ha.top hb.top) rfl rfl h
noncomputable def Cz:List (Nat×Spec):=(158,Ke)::(117,rq)::(139,ru)::(136,vO)::vN
theorem YE:dg Tryz.prog gl (bj Cz):=bF YB (bF Kf (bF Cv (bF Kj Ki)))
theorem YF:Ci (aZ Tryz.prog FT Cz) 100 where
 ft:=bE
 vE:=Kd
 Cf:=JW
 mF:=Co
 jc:=Cp
 vF:=Cw
 JO:=fun a b h ha hb=>da (Yb bE a b ha hb) rfl rfl rfl h
 Cj:=Kh
 Ck:=Cy
 mG:=Kk
noncomputable def CA:Spec:=sK Cz 78
theorem YG:bQ Tryz.prog gl 78 CA:=dJ YE
theorem YH (n d:Int)(h:ab)(hn : -9223372036854775808<=n/\n<9223372036854775808)(hd : -9223372036854775808<=d/\d<9223372036854775808)(h0:d≠0):CA [.iV n,.iV d] h=some ⟨.str (aw (Rat.divInt n d)),h,[]⟩:=
 da (Yc YF (by decide) hn hd h0) rfl rfl rfl h
noncomputable def Kl:List (Nat×Spec):=[(153,vo),(192,vt)]
theorem YI:JS (aZ Tryz.prog FT Kl) where
 ft:=bE
 JT:=fun s h hl=>Jf s h hl
 mE:=fun s h hl hd=>Jg s h hl hd
noncomputable def Km:Spec:=sK Kl 134
theorem YJ:bQ Tryz.prog gl 134 Km:=dJ (bF Jd (bF Je cQ))
noncomputable def CB:List (Nat×Spec):=[(153,vo),(193,BN),(139,ru)]
noncomputable def CC:Spec:=sK CB 135
theorem YK:bQ Tryz.prog gl 135 CC:=dJ (bF Jd (bF Xa (bF Cv cQ)))
theorem YL (z:Int):preB 45 (cT z)=decide (z<0)/\bV 45 (cT z)=aX (ah z).toNat:=by
 have h:=uT (z:Rat);rw[JR,Rat.num_intCast,Rat.den_intCast,if_pos rfl]at h;exact h
theorem YM (q:Rat)(hl:(aw q).length<1000000):∃v1 v2,bD v1 q.num/\bD v2 (q.den:Nat)/\∀h,CC [.str (aw q)] h=some ⟨.aq [v1,v2],h,[]⟩:=by
 obtain⟨e1,e2,_,_,e3,e4⟩:=Yi q;obtain⟨p1,p2⟩:=YL q.num;obtain⟨d1,d2⟩:=Xb (jB q.den);have hk:=IK (aw q);obtain⟨v1,k1,q1⟩:=Ji (cT q.num) (by rw[←e1];omega) (by rw[p2];exact jB _);have k1:=k1.BF;rw[p1,p2,oz]at k1;have en:(if decide (q.num<0)=true then -((ah q.num).toNat:Int) else ((ah q.num).toNat:Int))=q.num:=by
  unfold ah;by_cases h:q.num<0
  . simp only[h,decide_true,if_true];omega
  . simp only[h,decide_false];show ((q.num.toNat:Nat):Int)=_;omega
 rw[en]at k1;have q153:=fun h=>Jf (aw q) h hl
 by_cases hd:q.den=1
 . obtain⟨v2,k2,q2⟩:=Cy 1 (by decide);rw[decide_eq_false (fun h=>h hd)]at e3;have es:aw q=cT q.num:=if_pos hd;refine⟨v1,v2,k1,by rw[hd];exact k2,dD (XX (M:=aZ Tryz.prog FT CB) bE (aw q) hl e3 q153 k1 k2 (by rw[es];exact q1) q2) rfl⟩
 . rw[if_neg hd]at e4;obtain⟨v2,k2,q2⟩:=Ji (aX q.den) (by
    have e:(aw q).length=(cT q.num).length+1+(aX q.den).length:=by
     unfold aw;rw[if_neg hd,List.length_append,List.length_cons];omega
    omega) (by rw[d2];exact jB _)
   have k2:=k2.BF;rw[d1,d2,oz,if_neg (by decide)]at k2;rw[decide_eq_true hd]at e3;refine⟨v1,v2,k1,k2,dD (Wu (M:=aZ Tryz.prog FT CB) bE (aw q) hl e3 q153 k1 k2 (by rw[e4];exact q1) (by rw[e4];exact q2)) rfl⟩
noncomputable def ry:List (Nat×Spec):=[(134,Km),(135,CC),(137,Ct),(170,Cs),(136,vO),(78,CA)]
theorem CE:dg Tryz.prog gl (bj ry):=bF YJ (bF YK (bF Yx (bF Yw (bF Kj (bF YG cQ)))))
theorem CH:vI (aZ Tryz.prog FT ry) 100 where
 ft:=bE
 rm:=fun q hl=>by
  obtain⟨n,d,b,h1,h2⟩:=Yk YI hl;exact⟨n,d,b,h1,fun h=>da h2 rfl rfl rfl h⟩
 oK:=YM
 oM:=Yz
 JU:=YA
 mG:=Kk
 Cn:=YH
theorem CK:(10:Int)^(2*201+1)<=dB^100:=by rw[show 2*201+1=200+203 from rfl,Int.pow_add];decide
theorem oO {k:Nat}{q:Rat}(h:Dq k q)(h0:0<k)(hk:k<=600):(aw q).length<1000000:=by
 have:=Vv (h.lq (N:=601) h0 (by omega));omega
noncomputable def vP:Spec:=sK ry 90
noncomputable def rz:Spec:=sK ry 53
noncomputable def vW:Spec:=sK ry 133
noncomputable def kT:Spec:=sK [] 140
noncomputable def vY:Spec:=sK [(140,kT)] 141
noncomputable def rA:Spec:=sK [(141,vY),(90,vP)] 57
noncomputable def CL:Spec:=sK [(57,rA),(140,kT)] 55
noncomputable def CM:Spec:=sK [(133,vW),(53,rz)] 52
theorem YN:bQ Tryz.prog gl 90 vP:=dJ CE
theorem Kn:bQ Tryz.prog gl 53 rz:=dJ CE
theorem YO:bQ Tryz.prog gl 133 vW:=dJ CE
theorem CN:bQ Tryz.prog gl 140 kT:=dJ cQ
theorem YP:bQ Tryz.prog gl 141 vY:=dJ (bF CN cQ)
theorem Ko:bQ Tryz.prog gl 57 rA:=dJ (bF YP (bF YN cQ))
theorem YQ:bQ Tryz.prog gl 55 CL:=dJ (bF Ko (bF CN cQ))
theorem YR:bQ Tryz.prog gl 52 CM:=dJ (bF YO (bF Kn cQ))
theorem YS (p q:Rat)(h:ab)(hp:Dq 201 p)(hq:Dq 201 q):vP [.str (aw p),.str (aw q)] h=some ⟨.str (aw (p+q)),h,[]⟩:=
 da (Yl CH CK hp hq (oO hp (by decide) (by decide)) (oO hq (by decide) (by decide))) rfl rfl rfl h
theorem Kp (p q:Rat)(h:ab)(hp:Dq 201 p)(hq:Dq 201 q):rz [.str (aw p),.str (aw q)] h=some ⟨.str (aw (p*q)),h,[]⟩:=
 da (Ym CH CK hp hq (oO hp (by decide) (by decide)) (oO hq (by decide) (by decide))) rfl rfl rfl h
theorem YT (q:Rat)(h:ab)(hq:Dq 201 q)(h0:q≠0):vW [.str (aw q)] h=some ⟨.str (aw q⁻¹),h,[]⟩:=
 da (Yn CH CK hq (oO hq (by decide) (by decide)) h0) rfl rfl rfl h
theorem CO (q:Rat)(h:ab):kT [.str (aw q)] h=some ⟨.iV (aW q.num),h,[]⟩:=da (Yf bE q) rfl rfl rfl h
theorem YU {k:Nat}(q:Rat)(h:ab)(hq:Dq k q)(h0:0<k)(hk:k<=600):vY [.str (aw q)] h=some ⟨.str (aw (-q)),h,[]⟩:=
 da (Yg (M:=aZ Tryz.prog FT [(140,kT)]) bE (oO hq h0 hk) (CO q)) rfl rfl rfl h
theorem Kq (p q:Rat)(h:ab)(hp:Dq 201 p)(hq:Dq 201 q):rA [.str (aw p),.str (aw q)] h=some ⟨.str (aw (p-q)),h,[]⟩:=
 da (Yp (M:=aZ Tryz.prog FT [(141,vY),(90,vP)]) bE (fun h=>YU q h hq (by decide) (by decide)) (fun h=>YS p (-q) h hp hq.neg)) rfl rfl rfl h
theorem YV (p q:Rat)(h:ab)(hp:Dq 201 p)(hq:Dq 201 q):CL [.str (aw p),.str (aw q)] h=some ⟨.iV (jC p q),h,[]⟩:=by
 have e:aW (p-q).num=jC p q:=by rw[←Iv,VG]
 rw[←e];exact da (Yq (M:=aZ Tryz.prog FT [(57,rA),(140,kT)]) bE (fun h=>Kq p q h hp hq) (CO _)) rfl rfl rfl h
theorem YW (p q:Rat)(h:ab)(hp:Dq 201 p)(hq:Dq 201 q)(h0:q≠0):CM [.str (aw p),.str (aw q)] h=some ⟨.str (aw (p*q⁻¹)),h,[]⟩:=
 da (Yo (M:=aZ Tryz.prog FT [(133,vW),(53,rz)]) bE (fun h=>YT q h hq h0) (fun h=>Kp p q⁻¹ h hp (hq.inv h0))) rfl rfl rfl h
noncomputable def Kr:Spec:=sK [(140,kT)] 56
theorem YX:bQ Tryz.prog gl 56 Kr:=dJ (bF CN cQ)
set_option maxRecDepth 1000000
def vZ:an:=zR [zr 30 .lss 17 16] (.seq (.cond (.l 30) (.skip) (.exit 0)) (.seq (.block 1 (zR [⟨.l 31,.dX none 1 (.p 15) (.p 17),none⟩,zd 32 1 31,zw 8 32] (.region [⟨.l 33,.load 1 false (.p 7),none⟩,zm 34 8,zb 35 .add 33 34,zs 1 7 35]))) (.region [zq 36 .add 17 1,zw 17 36])))
def rB:an:=zR [zr 43 .lss 20 19] (.seq (.cond (.l 43) (.skip) (.exit 2)) (.seq (.block 3 (zR [zm 44 20,⟨.l 45,.dX none 1 (.p 18) (.p 20),none⟩,zd 46 1 45,zw 12 44,zw 13 46] (zR [zm 47 9,⟨.l 48,.load 1 false (.p 2),none⟩,zm 49 13,zb 50 .mul 48 49,⟨.l 51,.load 1 false (.p 7),none⟩,zb 52 .quo 50 51,⟨.l 53,.dT 3 1 1 [.iV (0)] [(0,1,(.l 52))],none⟩,⟨.l 54,.append 3 1 8 (.l 47) (.l 53),none⟩,zm 55 10,zm 56 12,⟨.l 57,.dT 3 1 1 [.iV (0)] [(0,1,(.l 56))],none⟩,⟨.l 58,.append 3 1 8 (.l 55) (.l 57),none⟩,zw 9 54,zw 10 58] (.region [zm 59 11,zm 60 9,zm 61 12,za 62 1 60 61,zd 63 1 62,zb 64 .sub 59 63,zw 11 64])))) (.region [zq 65 .add 20 1,zw 20 65])))
def rC:an:=zR [zr 74 .lss 23 22] (.seq (.cond (.l 74) (.skip) (.exit 4)) (.seq (.block 5 (zR [⟨.l 75,.dX none 1 (.p 21) (.p 23),none⟩,zd 76 1 75,zw 14 76] (.region [zm 77 9,zm 78 14,za 79 1 77 78,zd 80 1 79,zc 81 .add 80 1,za 82 1 77 78,zS 1 82 81]))) (.region [zq 83 .add 23 1,zw 23 83])))
def wc:an:=zR [zx 2 3 1 0,zx 3 22 1 1,⟨.p 4,.mv (.c (.ae)),none⟩,zi 5 0] (.seq (.seq (.draw [(⟨.l 17,.load 1 false (.p 2),none⟩,[]),(⟨.l 18,.call (kF 95) [(.l 17),(kI 0),(kI 999999999)],none⟩,[]),(⟨.l 19,.call (kF 97) [(.l 18),(kI 3)],none⟩,[]),(⟨.l 20,.load 1 false (.p 3),none⟩,[0,1,2]),(z1 21 98 20,[]),(⟨.l 22,.dT 25 2 1 [.iV (0)] [(0,1,(.l 19)),(1,1,(.l 21))],none⟩,[]),(z1 23 96 22,[]),(zw 6 23,[])]) (zR [zm 24 6,zc 25 .neq 24 0] (.cond (.l 25) (zR [zm 26 6,⟨.p 4,.mv (.c (.ae)),none⟩,zw 5 26] (.ret)) (.skip)))) (zR [⟨.p 7,.alloc 3 [.iV (0)],none⟩,⟨.no,.store 1 (.p 7) (kI 0),none⟩] (.seq (zR [⟨.p 15,.load 1 false (.p 3),none⟩,⟨.p 16,.len .sl (.p 15),none⟩,zi 17 0] (.block 0 (.loop vZ))) (.seq (.draw [(⟨.l 37,.dT 3 0 1 [.iV (0)] [],none⟩,[]),(⟨.l 38,.dT 3 0 1 [.iV (0)] [],none⟩,[0]),(⟨.l 39,.load 1 false (.p 2),none⟩,[0,1]),(zw 9 37,[1,2]),(zw 10 38,[2]),(zw 11 39,[])]) (.seq (zR [⟨.p 18,.load 1 false (.p 3),none⟩,⟨.p 19,.len .sl (.p 18),none⟩,zi 20 0] (.block 2 (.loop rB))) (zR [zm 66 10,⟨.l 67,.pk (.func 100) [] [(.p 2),(.p 3),(.p 7)],none⟩,z2 68 99 66 67] (.seq (zR [zm 69 10,zm 70 11,⟨.p 21,.slice .sl 1 (.l 69) none (some (.l 70)) none,none⟩,⟨.p 22,.len .sl (.p 21),none⟩,zi 23 0] (.block 4 (.loop rC))) (zR [zm 84 9,zw 4 84,zi 5 0] (.ret)))))))))
theorem Ks:FT 23=some ⟨85,[0,1,2,3,4,5,6,7,9,10,11,12,13,14,16,27,28,29,40,41,42,71,72,73],[.var (.p 4),.var (.p 5)],wc⟩:=by kernel_rfl
def we:an:=.seq (zR [zm 11 3,zm 12 0,zl 13 12,zb 14 .lss 11 13] (.cond (.l 14) (.skip) (.exit 0))) (.seq (.block 1 (.seq (zR [zm 17 0,zm 18 3,za 19 1 17 18,zd 20 1 19,zc 21 .lss 20 0,zn 22 21,zg (zm 23 0) 22 false,zg (zm 24 3) 22 false,zg (za 25 1 23 24) 22 false,zg (zd 26 1 25) 22 false,zg (zc 27 .gtr 26 999999999) 22 false,zP 28 22 27] (.cond (.l 28) (zR [zi 1 3] (.ret)) (.skip))) (.region [zm 29 2,zm 30 0,zm 31 3,za 32 1 30 31,zd 33 1 32,zb 34 .add 29 33,zw 2 34]))) (.region [zm 15 3,zc 16 .add 15 1,zw 3 16]))
def wh:an:=zR [zi 1 0] (.seq (zR [zm 5 0,zl 6 5,zc 7 .eql 6 0] (.cond (.l 7) (zR [zi 1 12] (.ret)) (.skip))) (.seq (zR [zm 8 0,zl 9 8,zc 10 .gtr 9 256] (.cond (.l 10) (zR [zi 1 5] (.ret)) (.skip))) (zR [zi 2 0] (.seq (zR [zi 3 0] (.block 0 (.loop we))) (.seq (zR [zm 35 2,zc 36 .eql 35 0] (.cond (.l 36) (zR [zi 1 6] (.ret)) (.skip))) (zR [zi 1 0] (.ret)))))))
theorem CP:FT 26=some ⟨37,[0,2,3,4],[.var (.p 1)],wh⟩:=by kernel_rfl
def wi:an:=zR [zi 1 0] (zR [zm 5 0,⟨.l 6,.call (kF 171) [(.l 5),(kF 172)],none⟩,zw 2 6] (zR [zm 7 0,⟨.l 8,.call (kF 171) [(.l 7),(kF 173)],none⟩,zw 3 8] (zR [zm 9 0,zl 10 9,zc 11 .eql 10 0,⟨.l 12,.call (kF 97) [(.l 11),(kI 12)],none⟩,zm 13 0,zl 14 13,zc 15 .gtr 14 256,⟨.l 16,.call (kF 97) [(.l 15),(kI 5)],none⟩,zm 17 2,⟨.l 18,.call (kF 97) [(.l 17),(kI 3)],none⟩,zm 19 3,zu 20 19,⟨.l 21,.call (kF 97) [(.l 20),(kI 6)],none⟩,⟨.l 22,.dT 25 4 1 [.iV (0)] [(0,1,(.l 12)),(1,1,(.l 16)),(2,1,(.l 18)),(3,1,(.l 21))],none⟩,z1 23 96 22,zw 1 23] (.ret))))
theorem CV:FT 98=some ⟨24,[0,2,3,4],[.var (.p 1)],wi⟩:=by kernel_rfl
def Kt:an:=.region [zm 4 0,zm 5 0,zl 6 5,zm 7 1,⟨.l 8,.call (kF 174) [(.l 4),(.l 6),(.l 7)],none⟩]
theorem YY:FT 99=some ⟨9,[0,1],[],Kt⟩:=by kernel_rfl
def Ku:an:=zR [zi 5 0] (.seq (.draw [(⟨.l 8,.load 1 false (.p 2),none⟩,[]),(⟨.l 9,.load 1 false (.p 3),none⟩,[0]),(zm 10 1,[0,1]),(za 11 1 9 10,[0]),(zd 12 1 11,[0]),(zb 13 .mul 8 12,[]),(⟨.l 14,.load 1 false (.p 4),none⟩,[0,1,2,3,4,5]),(zb 15 .rem 13 14,[]),(⟨.l 16,.load 1 false (.p 2),none⟩,[0,1,2,3,4,5,6,7]),(⟨.l 17,.load 1 false (.p 3),none⟩,[0,1,2,3,4,5,6,7,8]),(zm 18 0,[0,1,2,3,4,5,6,7,8,9]),(za 19 1 17 18,[0,1,2,3,4,5,6,7,8]),(zd 20 1 19,[0,1,2,3,4,5,6,7,8]),(zb 21 .mul 16 20,[0,1,2,3,4,5,6,7]),(⟨.l 22,.load 1 false (.p 4),none⟩,[0,1,2,3,4,5,6,7,8,9,10,11,12,13]),(zb 23 .rem 21 22,[0,1,2,3,4,5,6,7]),(zb 24 .sub 15 23,[]),(zw 5 24,[])]) (.ret))
theorem YZ:FT 100=some ⟨25,[0,1,2,3,4,7],[.var (.p 5)],Ku⟩:=by kernel_rfl
def Kv:an:=zR [⟨.p 2,.mv (.c (.bool false)),none⟩] (zR [zm 5 0,zm 6 1,z2 7 220 5 6,zc 8 .geq 7 0,zw 2 8] (.ret))
theorem Za:FT 171=some ⟨9,[0,1,4],[.var (.p 2)],Kv⟩:=by kernel_rfl
def Kw:an:=zR [⟨.p 1,.mv (.c (.bool false)),none⟩] (zR [zm 3 0,⟨.l 4,.call (kF 95) [(.l 3),(kI 0),(kI 999999999)],none⟩,zw 1 4] (.ret))
theorem Zb:FT 172=some ⟨5,[0,2],[.var (.p 1)],Kw⟩:=by kernel_rfl
def Kx:an:=zR [⟨.p 1,.mv (.c (.bool false)),none⟩] (zR [zm 3 0,zc 4 .neq 3 0,zw 1 4] (.ret))
theorem Zc:FT 173=some ⟨5,[0,2],[.var (.p 1)],Kx⟩:=by kernel_rfl
def rD:an:=.seq (zR [zm 11 5,zm 12 1,zb 13 .leq 11 12] (.cond (.l 13) (.skip) (.exit 0))) (.block 1 (zR [zm 14 0,zm 15 4,zm 16 5,zm 17 2,⟨.l 18,.call (kF 221) [(.l 14),(.l 15),(.l 16),(.l 17)],none⟩] (zR [zm 19 5,zw 4 19] (.region [zm 20 5,zm 21 3,zb 22 .add 20 21,zw 5 22]))))
def rE:an:=.seq (zR [zm 33 5,zm 34 1,zb 35 .leq 33 34] (.cond (.l 35) (.skip) (.exit 4))) (.block 5 (zR [zm 36 0,zm 37 4,zm 38 4,zm 39 3,zb 40 .add 38 39,zm 41 5,zm 42 2,⟨.l 43,.call (kF 222) [(.l 36),(.l 37),(.l 40),(.l 41),(.l 42)],none⟩] (zR [zm 44 5,zw 4 44] (.region [zm 45 5,zm 46 3,⟨.l 47,.bin .mul (kI 2) (.l 46),none⟩,zb 48 .add 45 47,zw 5 48]))))
def rF:an:=.seq (zR [zm 28 3,zm 29 1,zb 30 .lss 28 29] (.cond (.l 30) (.skip) (.exit 2))) (.block 3 (zR [zm 31 3,⟨.l 32,.bin .mul (kI 2) (.l 31),none⟩,zi 4 0,zw 5 32] (.seq (.block 4 (.loop rE)) (.seq (zR [zm 49 4,zm 50 3,zb 51 .add 49 50,zw 6 51] (zR [zm 52 6,zm 53 1,zb 54 .lss 52 53] (.cond (.l 54) (.region [zm 55 0,zm 56 4,zm 57 6,zm 58 1,zm 59 2,⟨.l 60,.call (kF 222) [(.l 55),(.l 56),(.l 57),(.l 58),(.l 59)],none⟩]) (.skip)))) (.region [zm 61 3,zc 62 .mul 61 2,zw 3 62])))))
def Ky:an:=zR [zi 3 20] (zR [zm 10 3,zi 4 0,zw 5 10] (.seq (.block 0 (.loop rD)) (zR [zm 23 0,zm 24 4,zm 25 1,zm 26 2,⟨.l 27,.call (kF 221) [(.l 23),(.l 24),(.l 25),(.l 26)],none⟩] (.block 2 (.loop rF)))))
theorem Zd:FT 174=some ⟨63,[0,1,2,6,7,8,9],[],Ky⟩:=by kernel_rfl
def rG:an:=.seq (.seq (.draw [(zm 18 5,[]),(zm 19 1,[0]),(zb 20 .gtr 18 19,[]),(zn 21 20,[]),(zg (zm 22 3) 21 true,[]),(zg (zm 23 0) 21 true,[4]),(zg (zm 24 5) 21 true,[4,5]),(zg (za 25 1 23 24) 21 true,[4]),(zg (zd 26 1 25) 21 true,[4]),(zg (zm 27 0) 21 true,[4,5,6,7,8]),(zg (zm 28 5) 21 true,[4,5,6,7,8,9]),(zg (zc 29 .sub 28 1) 21 true,[4,5,6,7,8,9]),(zg (za 30 1 27 29) 21 true,[4,5,6,7,8]),(zg (zd 31 1 30) 21 true,[4,5,6,7,8]),(⟨.l 32,.call (.l 22) [(.l 26),(.l 31)],some ((.l 21),true)⟩,[]),(zg (zc 33 .lss 32 0) 21 true,[]),(zp 34 21 33,[])]) (.cond (.l 34) (.skip) (.exit 2))) (.seq (.block 3 (.draw [(zm 37 0,[]),(zm 38 5,[0]),(zm 39 0,[0,1]),(zm 40 5,[0,1,2]),(zc 41 .sub 40 1,[0,1,2]),(zm 42 0,[0,1,2,3,4]),(zm 43 5,[0,1,2,3,4,5]),(zc 44 .sub 43 1,[0,1,2,3,4,5]),(za 45 1 42 44,[0,1,2,3,4]),(zd 46 1 45,[0,1,2,3,4]),(zm 47 0,[0,1,2,3,4,5,6,7,8,9]),(zm 48 5,[0,1,2,3,4,5,6,7,8,9,10]),(za 49 1 47 48,[0,1,2,3,4,5,6,7,8,9]),(zd 50 1 49,[0,1,2,3,4,5,6,7,8,9]),(za 51 1 37 38,[2,3,4]),(zS 1 51 46,[2,3,4]),(za 52 1 39 41,[]),(zS 1 52 50,[])])) (.region [zm 35 5,zc 36 .sub 35 1,zw 5 36]))
def rH:an:=.seq (zR [zm 12 4,zm 13 2,zb 14 .lss 12 13] (.cond (.l 14) (.skip) (.exit 0))) (.seq (.block 1 (zR [zm 17 4,zw 5 17] (.block 2 (.loop rG)))) (.region [zm 15 4,zc 16 .add 15 1,zw 4 16]))
def Kz:an:=zR [zm 10 1,zc 11 .add 10 1,zw 4 11] (.block 0 (.loop rH))
theorem Ze:FT 221=some ⟨53,[0,1,2,3,8,9],[],Kz⟩:=by kernel_rfl
def oT:an:=.seq (zR [zm 31 5,zm 32 6,zb 33 .lss 31 32] (.cond (.l 33) (.skip) (.exit 0))) (.block 1 (zR [zm 34 5,zm 35 6,zb 36 .add 34 35,⟨.l 37,.dM .u64 (.l 36),none⟩,⟨.l 38,.bin .shr (.l 37) (kU 1),none⟩,⟨.l 39,.dM .i64 (.l 38),none⟩,zw 7 39] (.seq (.draw [(zm 40 4,[]),(zm 41 0,[0]),(zm 42 7,[0,1]),(za 43 1 41 42,[0]),(zd 44 1 43,[0]),(zm 45 0,[0,1,2,3,4]),(zm 46 1,[0,1,2,3,4,5]),(za 47 1 45 46,[0,1,2,3,4]),(zd 48 1 47,[0,1,2,3,4]),(⟨.l 49,.call (.l 40) [(.l 44),(.l 48)],none⟩,[]),(zc 50 .lss 49 0,[])]) (.cond (.l 50) (.region [zm 51 7,zc 52 .add 51 1,zw 5 52]) (.region [zm 53 7,zw 6 53])))))
def wj:an:=.seq (zR [zm 55 8,zm 56 5,zc 57 .sub 56 1,zb 58 .lss 55 57] (.cond (.l 58) (.skip) (.exit 2))) (.seq (.block 3 (.draw [(zm 61 0,[]),(zm 62 8,[0]),(zm 63 0,[0,1]),(zm 64 8,[0,1,2]),(zc 65 .add 64 1,[0,1,2]),(zm 66 0,[0,1,2,3,4]),(zm 67 8,[0,1,2,3,4,5]),(zc 68 .add 67 1,[0,1,2,3,4,5]),(za 69 1 66 68,[0,1,2,3,4]),(zd 70 1 69,[0,1,2,3,4]),(zm 71 0,[0,1,2,3,4,5,6,7,8,9]),(zm 72 8,[0,1,2,3,4,5,6,7,8,9,10]),(za 73 1 71 72,[0,1,2,3,4,5,6,7,8,9]),(zd 74 1 73,[0,1,2,3,4,5,6,7,8,9]),(za 75 1 61 62,[2,3,4]),(zS 1 75 70,[2,3,4]),(za 76 1 63 65,[]),(zS 1 76 74,[])])) (.region [zm 59 8,zc 60 .add 59 1,zw 8 60]))
def oW:an:=.seq (zR [zm 83 9,zm 84 10,zb 85 .lss 83 84] (.cond (.l 85) (.skip) (.exit 4))) (.block 5 (zR [zm 86 9,zm 87 10,zb 88 .add 86 87,⟨.l 89,.dM .u64 (.l 88),none⟩,⟨.l 90,.bin .shr (.l 89) (kU 1),none⟩,⟨.l 91,.dM .i64 (.l 90),none⟩,zw 11 91] (.seq (.draw [(zm 92 4,[]),(zm 93 0,[0]),(zm 94 2,[0,1]),(za 95 1 93 94,[0]),(zd 96 1 95,[0]),(zm 97 0,[0,1,2,3,4]),(zm 98 11,[0,1,2,3,4,5]),(za 99 1 97 98,[0,1,2,3,4]),(zd 100 1 99,[0,1,2,3,4]),(⟨.l 101,.call (.l 92) [(.l 96),(.l 100)],none⟩,[]),(zc 102 .lss 101 0,[]),(zu 103 102,[])]) (.cond (.l 103) (.region [zm 104 11,zc 105 .add 104 1,zw 9 105]) (.region [zm 106 11,zw 10 106])))))
def wk:an:=.seq (zR [zm 108 12,zm 109 9,zb 110 .gtr 108 109] (.cond (.l 110) (.skip) (.exit 6))) (.seq (.block 7 (.draw [(zm 113 0,[]),(zm 114 12,[0]),(zm 115 0,[0,1]),(zm 116 12,[0,1,2]),(zc 117 .sub 116 1,[0,1,2]),(zm 118 0,[0,1,2,3,4]),(zm 119 12,[0,1,2,3,4,5]),(zc 120 .sub 119 1,[0,1,2,3,4,5]),(za 121 1 118 120,[0,1,2,3,4]),(zd 122 1 121,[0,1,2,3,4]),(zm 123 0,[0,1,2,3,4,5,6,7,8,9]),(zm 124 12,[0,1,2,3,4,5,6,7,8,9,10]),(za 125 1 123 124,[0,1,2,3,4,5,6,7,8,9]),(zd 126 1 125,[0,1,2,3,4,5,6,7,8,9]),(za 127 1 113 114,[2,3,4]),(zS 1 127 122,[2,3,4]),(za 128 1 115 117,[]),(zS 1 128 126,[])])) (.region [zm 111 12,zc 112 .sub 111 1,zw 12 112]))
def oZ:an:=.seq (zR [zm 149 15,zm 150 16,zb 151 .lss 149 150] (.cond (.l 151) (.skip) (.exit 8))) (.block 9 (zR [zm 152 15,zm 153 16,zb 154 .add 152 153,⟨.l 155,.dM .u64 (.l 154),none⟩,⟨.l 156,.bin .shr (.l 155) (kU 1),none⟩,⟨.l 157,.dM .i64 (.l 156),none⟩,zw 18 157] (.seq (.draw [(zm 158 4,[]),(zm 159 0,[0]),(zm 160 17,[0,1]),(zm 161 18,[0,1,2]),(zb 162 .sub 160 161,[0,1]),(za 163 1 159 162,[0]),(zd 164 1 163,[0]),(zm 165 0,[0,1,2,3,4,5,6]),(zm 166 18,[0,1,2,3,4,5,6,7]),(za 167 1 165 166,[0,1,2,3,4,5,6]),(zd 168 1 167,[0,1,2,3,4,5,6]),(⟨.l 169,.call (.l 158) [(.l 164),(.l 168)],none⟩,[]),(zc 170 .lss 169 0,[]),(zu 171 170,[])]) (.cond (.l 171) (.region [zm 172 18,zc 173 .add 172 1,zw 15 173]) (.region [zm 174 18,zw 16 174])))))
def wq:an:=.seq (zR [zm 25 2,zm 26 1,zb 27 .sub 25 26,zc 28 .eql 27 1] (.cond (.l 28) (zR [zm 29 2,zw 5 29] (zR [zm 30 3,zw 6 30] (.seq (.block 0 (.loop oT)) (.seq (zR [zm 54 1,zw 8 54] (.block 2 (.loop wj))) (.ret))))) (.skip))) (.seq (zR [zm 77 3,zm 78 2,zb 79 .sub 77 78,zc 80 .eql 79 1] (.cond (.l 80) (zR [zm 81 1,zw 9 81] (zR [zm 82 2,zw 10 82] (.seq (.block 4 (.loop oW)) (.seq (zR [zm 107 2,zw 12 107] (.block 6 (.loop wk))) (.ret))))) (.skip))) (zR [zm 129 1,zm 130 3,zb 131 .add 129 130,⟨.l 132,.dM .u64 (.l 131),none⟩,⟨.l 133,.bin .shr (.l 132) (kU 1),none⟩,⟨.l 134,.dM .i64 (.l 133),none⟩,zw 13 134] (zR [zm 135 13,zm 136 2,zb 137 .add 135 136,zw 14 137] (zR [zi 15 0,zi 16 0] (.seq (zR [zm 138 2,zm 139 13,zb 140 .gtr 138 139] (.cond (.l 140) (zR [zm 141 14,zm 142 3,zb 143 .sub 141 142,zw 15 143] (.region [zm 144 13,zw 16 144])) (zR [zm 145 1,zw 15 145] (.region [zm 146 2,zw 16 146])))) (zR [zm 147 14,zc 148 .sub 147 1,zw 17 148] (.seq (.block 8 (.loop oZ)) (zR [zm 175 14,zm 176 15,zb 177 .sub 175 176,zw 19 177] (.seq (zR [zm 178 15,zm 179 2,zb 180 .lss 178 179,zn 181 180,zg (zm 182 2) 181 true,zg (zm 183 19) 181 true,zg (zb 184 .lss 182 183) 181 true,zp 185 181 184] (.cond (.l 185) (.region [zm 186 0,zm 187 15,zm 188 2,zm 189 19,zm 190 4,⟨.l 191,.call (kF 261) [(.l 186),(.l 187),(.l 188),(.l 189),(.l 190)],none⟩]) (.skip))) (.seq (zR [zm 192 1,zm 193 15,zb 194 .lss 192 193,zn 195 194,zg (zm 196 15) 195 true,zg (zm 197 13) 195 true,zg (zb 198 .lss 196 197) 195 true,zp 199 195 198] (.cond (.l 199) (.region [zm 200 0,zm 201 1,zm 202 15,zm 203 13,zm 204 4,⟨.l 205,.call (kF 222) [(.l 200),(.l 201),(.l 202),(.l 203),(.l 204)],none⟩]) (.skip))) (zR [zm 206 13,zm 207 19,zb 208 .lss 206 207,zn 209 208,zg (zm 210 19) 209 true,zg (zm 211 3) 209 true,zg (zb 212 .lss 210 211) 209 true,zp 213 209 212] (.cond (.l 213) (.region [zm 214 0,zm 215 13,zm 216 19,zm 217 3,zm 218 4,⟨.l 219,.call (kF 222) [(.l 214),(.l 215),(.l 216),(.l 217),(.l 218)],none⟩]) (.skip)))))))))))))
theorem CW:FT 222=some ⟨220,[0,1,2,3,4,10,11,12,13,14,15,16,17,18,19,20,21,22,23,24],[],wq⟩:=by kernel_rfl
def rI:an:=.seq (zR [zm 18 5,zm 19 6,zb 20 .neq 18 19] (.cond (.l 20) (.skip) (.exit 0))) (.block 1 (zR [zm 21 5,zm 22 6,zb 23 .gtr 21 22] (.cond (.l 23) (zR [zm 24 0,zm 25 2,zm 26 5,zb 27 .sub 25 26,zm 28 2,zm 29 6,zm 30 4,⟨.l 31,.call (kF 298) [(.l 24),(.l 27),(.l 28),(.l 29),(.l 30)],none⟩] (.region [zm 32 5,zm 33 6,zb 34 .sub 32 33,zw 5 34])) (zR [zm 35 0,zm 36 2,zm 37 5,zb 38 .sub 36 37,zm 39 2,zm 40 6,zb 41 .add 39 40,zm 42 5,zb 43 .sub 41 42,zm 44 5,zm 45 4,⟨.l 46,.call (kF 298) [(.l 35),(.l 38),(.l 43),(.l 44),(.l 45)],none⟩] (.region [zm 47 6,zm 48 5,zb 49 .sub 47 48,zw 6 49])))))
def KA:an:=zR [zm 12 2,zm 13 1,zb 14 .sub 12 13,zw 5 14] (zR [zm 15 3,zm 16 2,zb 17 .sub 15 16,zw 6 17] (.seq (.block 0 (.loop rI)) (.region [zm 50 0,zm 51 2,zm 52 5,zb 53 .sub 51 52,zm 54 2,zm 55 5,zm 56 4,⟨.l 57,.call (kF 298) [(.l 50),(.l 53),(.l 54),(.l 55),(.l 56)],none⟩])))
theorem Zf:FT 261=some ⟨58,[0,1,2,3,4,10,11],[],KA⟩:=by kernel_rfl
def wu:an:=.seq (zR [zm 11 5,zm 12 3,zb 13 .lss 11 12] (.cond (.l 13) (.skip) (.exit 0))) (.seq (.block 1 (.draw [(zm 16 0,[]),(zm 17 1,[0]),(zm 18 5,[0,1]),(zb 19 .add 17 18,[0]),(zm 20 0,[0,1,2,3]),(zm 21 2,[0,1,2,3,4]),(zm 22 5,[0,1,2,3,4,5]),(zb 23 .add 21 22,[0,1,2,3,4]),(zm 24 0,[0,1,2,3,4,5,6,7]),(zm 25 2,[0,1,2,3,4,5,6,7,8]),(zm 26 5,[0,1,2,3,4,5,6,7,8,9]),(zb 27 .add 25 26,[0,1,2,3,4,5,6,7,8]),(za 28 1 24 27,[0,1,2,3,4,5,6,7]),(zd 29 1 28,[0,1,2,3,4,5,6,7]),(zm 30 0,[0,1,2,3,4,5,6,7,8,9,10,11,12,13]),(zm 31 1,[0,1,2,3,4,5,6,7,8,9,10,11,12,13,14]),(zm 32 5,[0,1,2,3,4,5,6,7,8,9,10,11,12,13,14,15]),(zb 33 .add 31 32,[0,1,2,3,4,5,6,7,8,9,10,11,12,13,14]),(za 34 1 30 33,[0,1,2,3,4,5,6,7,8,9,10,11,12,13]),(zd 35 1 34,[0,1,2,3,4,5,6,7,8,9,10,11,12,13]),(za 36 1 16 19,[4,5,6,7]),(zS 1 36 29,[4,5,6,7]),(za 37 1 20 23,[]),(zS 1 37 35,[])])) (.region [zm 14 5,zc 15 .add 14 1,zw 5 15]))
def KB:an:=zR [zi 5 0] (.block 0 (.loop wu))
theorem Zg:FT 298=some ⟨38,[0,1,2,3,4,10],[],KB⟩:=by kernel_rfl
def rJ:an:=zR [zr 9 .lss 5 4] (.seq (.cond (.l 9) (.skip) (.exit 0)) (.seq (.block 1 (zR [zm 10 5,zw 3 10] (zR [zm 11 1,zm 12 0,zm 13 3,za 14 1 12 13,zd 15 1 14,⟨.l 16,.call (.l 11) [(.l 15)],none⟩] (.cond (.l 16) (zR [zm 17 3,zw 2 17] (.ret)) (.skip))))) (.region [zq 18 .add 5 1,zw 5 18])))
def wv:an:=zR [zi 2 0] (.seq (zR [zm 6 0,⟨.p 4,.len .sl (.l 6),none⟩,zi 5 0] (.block 0 (.loop rJ))) (zR [zi 2 (-1)] (.ret)))
theorem KC:FT 220=some ⟨19,[0,1,4,5,7,8],[.var (.p 2)],wv⟩:=by kernel_rfl
end Go.Ab.Ch1

/-
  Own work: plain facts on stable sorting by blocks that are merged in place.
-/
namespace Go.Ab.Sort
def Lt (key:Int->Int)(x y:Int):Prop:=key y<key x\/key x=key y/\x<y
section
variable {key:Int->Int}
theorem Lt.trans {x y z:Int}(h1:Lt key x y)(h2:Lt key y z):Lt key x z:=by unfold Lt at *;omega
theorem Lt.wx {x y:Int}(h:x<y)(hn:¬Lt key y x):Lt key x y:=by unfold Lt at *;omega
theorem Lt.iff {x y:Int}(h:x<y):Lt key y x↔key x<key y:=by unfold Lt;omega
def Sd (key:Int->Int)(l:List Int):Prop:=l.Pairwise (Lt key)
theorem Sd.nil:Sd key []:=List.Pairwise.nil
theorem Sd.one (x:Int):Sd key [x]:=List.pairwise_singleton _ _
theorem Sd.app {l m:List Int}(h1:Sd key l)(h2:Sd key m)(h:∀x∈l,∀y∈m,Lt key x y):Sd key (l++m):=
 List.pairwise_append.2 ⟨h1,h2,h⟩
theorem Sd.left {l m:List Int}(h:Sd key (l++m)):Sd key l:=(List.pairwise_append.1 h).1
theorem Sd.right {l m:List Int}(h:Sd key (l++m)):Sd key m:=(List.pairwise_append.1 h).2.1
theorem Sd.split {L:List Int}{i:Nat}(h:Sd key L):Sd key (L.take i)∧Sd key (L.drop i):=by
 have h':Sd key (L.take i++L.drop i):=by rw[List.take_append_drop];exact h
 exact⟨h'.left,h'.right⟩
theorem Sd.ja {l m:List Int}(h:Sd key (l++m)):∀x∈l,∀y∈m,Lt key x y:=(List.pairwise_append.1 h).2.2
theorem Sd.get {l:List Int}(h:Sd key l){i j:Nat}{x y:Int}(hi:l[i]? = some x)(hj:l[j]? = some y)(hij:i<j):Lt key x y:=by
 obtain⟨h1,rfl⟩:=List.getElem?_eq_some_iff.1 hi;obtain⟨h2,rfl⟩:=List.getElem?_eq_some_iff.1 hj;exact List.pairwise_iff_getElem.1 h i j h1 h2 hij
theorem DA {S1 S2:List Int}{x:Int}(hs:Sd key (S1++S2))(h2:∀y∈S2,Lt key x y)(h1:∀y,S1.getLast? = some y->Lt key y x):Sd key (S1++x::S2):=by
 have h1':∀y∈S1,Lt key y x:=by
  intro y hy;obtain⟨L,z,rfl⟩:∃L z,S1=L++[z]:=by
   rcases List.eq_nil_or_concat S1 with rfl|⟨L,z,rfl⟩
   . cases hy
   . exact⟨L,z,by simp⟩
  have hz:=h1 z (by simp);rcases List.mem_append.1 hy with h|h
  . exact(hs.left.ja y h z (by simp)).trans hz
  . simp only[List.mem_singleton]at h;subst h;exact hz
 refine hs.left.app (List.pairwise_cons.2 ⟨h2,hs.right⟩) fun y hy z hz=>?_
 rcases List.mem_cons.1 hz with rfl|h
 . exact h1' y hy
 . exact hs.ja y hy z h
theorem KD {x:Int}{R:List Int}{i:Nat}(hs:Sd key R)(h1:∀k y,k<i->R[k]? = some y->Lt key y x)(h2:∀k y,i<=k->R[k]? = some y->Lt key x y):Sd key (R.take i++x::R.drop i):=by
 have hs':Sd key (R.take i++R.drop i):=by rw[List.take_append_drop];exact hs
 refine hs'.left.app (List.pairwise_cons.2 ⟨fun y hy=>?_,hs'.right⟩) fun y hy z hz=>?_
 . obtain⟨k,hk⟩:=List.mem_iff_getElem?.1 hy;rw[List.getElem?_drop]at hk;exact h2 _ y (by omega) hk
 . have hyx:Lt key y x:=by
    obtain⟨k,hk⟩:=List.mem_iff_getElem?.1 hy;rw[List.getElem?_take]at hk;split at hk
    . exact h1 k y (by assumption) hk
    . cases hk
   rcases List.mem_cons.1 hz with rfl|h
   . exact hyx
   . exact hs'.ja y hy z h
theorem Zh {L1 L2 R1 R2:List Int}(hL:Sd key (L1++L2))(hR:Sd key (R1++R2))(h1:∀x y,L1.getLast? = some x->R2.head? = some y->Lt key x y)(h2:∀x y,L2.head? = some x->R1.getLast? = some y->Lt key y x) :
 ∀x∈L1++R1,∀y∈L2++R2,Lt key x y:=by
 have le_last:∀{A B:List Int},Sd key (A++B)->∀x∈A,∃z,A.getLast? = some z/\(x=z\/Lt key x z):=by
  intro A B h x hx;rcases List.eq_nil_or_concat A with rfl|⟨M,z,rfl⟩
  . cases hx
  . refine⟨z,by simp,?_⟩;simp only[List.concat_eq_append]at hx h;rcases List.mem_append.1 hx with h'|h'
    . exact .inr (h.left.ja x h' z (by simp))
    . simp only[List.mem_singleton]at h';exact .inl h'
 have ge_head:∀{A B:List Int},Sd key (A++B)->∀x∈B,∃z,B.head? = some z/\(z=x\/Lt key z x):=by
  intro A B h x hx;cases B with
  | nil=>cases hx
  | cons z M=>
   refine⟨z,rfl,?_⟩;rcases List.mem_cons.1 hx with rfl|h'
   . exact .inl rfl
   . exact .inr ((List.pairwise_cons.1 h.right).1 x h')
 intro x hx y hy;rcases List.mem_append.1 hx with hx|hx <;> rcases List.mem_append.1 hy with hy|hy
 . exact hL.ja x hx y hy
 . obtain⟨a,ha,hxa⟩:=le_last hL x hx;obtain⟨b,hb,hby⟩:=ge_head hR y hy;have:=h1 a b ha hb;rcases hxa with rfl|h <;> rcases hby with rfl|h'
   . exact this
   . exact this.trans h'
   . exact h.trans this
   . exact(h.trans this).trans h'
 . obtain⟨a,ha,hxa⟩:=le_last hR x hx;obtain⟨b,hb,hby⟩:=ge_head hL y hy;have:=h2 b a hb ha;rcases hxa with rfl|h <;> rcases hby with rfl|h'
   . exact this
   . exact this.trans h'
   . exact h.trans this
   . exact(h.trans this).trans h'
 . exact hR.ja x hx y hy
inductive Ch (key:Int->Int) (bs:Nat):List Int->List Int->Prop
 | last {S S0:List Int}:S.length<=bs->Sd key S->S.Perm S0->Ch key bs S S0
 | more {S S0 l l0:List Int}:S.length=bs->Sd key S->S.Perm S0->Ch key bs l l0->Ch key bs (S++l) (S0++l0)
theorem Ch.perm {bs:Nat}{l l0:List Int}(h:Ch key bs l l0):l.Perm l0:=by
 induction h with
 | last _ _ h=>exact h
 | more _ _ h _ ih=>exact h.append ih
theorem Ch.done {bs:Nat}{l l0:List Int}(h:Ch key bs l l0)(hl:l.length<=bs):Sd key l:=by
 cases h with
 | last _ h _=>exact h
 | @more S S0 m m0 h1 h2 _ _=>
  have:m.length=0:=by simp at hl;omega
  obtain rfl:=List.length_eq_zero_iff.1 this;simpa using h2
theorem Ch.full {bs:Nat}{l l0:List Int}(h:Ch key bs l l0)(hl:bs<=l.length):∃S S0 m m0,l=S++m/\l0=S0++m0/\S.length=bs/\Sd key S/\S.Perm S0/\Ch key bs m m0:=by
 cases h with
 | last h h2 h3=>exact⟨l,l0,[],[],by simp,by simp,by omega,h2,h3,.last (by simp) Sd.nil (.refl _)⟩
 | more h1 h2 h3 h4=>exact⟨_,_,_,_,rfl,rfl,h1,h2,h3,h4⟩
def dW (key:Int->Int)(l:List Int)(x:Int):Nat:=l.countP fun y=>decide (key x<key y\/key y=key x/\y<x)
theorem KE {l m:List Int}(h:l.Perm m)(x:Int):dW key l x=dW key m x:=h.countP_eq _
theorem KF {l:List Int}(h:Sd key l){k:Nat}{x:Int}(hk:l[k]? = some x):dW key l x=k:=by
 obtain⟨h1,rfl⟩:=List.getElem?_eq_some_iff.1 hk;have e:l=l.take k++l[k]::l.drop (k+1):=by rw[←List.drop_eq_getElem_cons h1,List.take_append_drop]
 have hs:=h;rw[e]at hs;unfold dW;conv=>lhs;arg 2;rw[e]
 rw[List.countP_append,List.countP_cons];have c1:(l.take k).countP (fun y=>decide (key l[k]<key y\/key y=key l[k]/\y<l[k]))=k:=by
  rw[List.countP_eq_length.2,List.length_take]
  . omega
  . intro y hy;have:=hs.ja y hy l[k] (List.mem_cons_self);unfold Lt at this;exact decide_eq_true this
 have c2:(l.drop (k+1)).countP (fun y=>decide (key l[k]<key y\/key y=key l[k]/\y<l[k]))=0:=by
  rw[List.countP_eq_zero];intro y hy;have:=(List.pairwise_cons.1 hs.right).1 y hy;unfold Lt at this;simp only[decide_eq_true_eq];omega
 rw[c1,c2];simp
theorem KG (x:Int):∀{m:List Int},Sd key m->x∉m->∃m',Sd key m'/\m'.Perm (x::m)
 | [],_,_=>⟨[x],Sd.one x,.refl _⟩
 | y::m,h,hn=>by
  have hxy:x≠y:=fun e=>hn (by simp[e])
  obtain⟨hy,hm⟩:=List.pairwise_cons.1 h;by_cases hl:Lt key x y
  . refine⟨x::y::m,List.pairwise_cons.2 ⟨fun z hz=>?_,h⟩,.refl _⟩;rcases List.mem_cons.1 hz with rfl|hz
    . exact hl
    . exact hl.trans (hy z hz)
  . have hyx:Lt key y x:=by unfold Lt at *;omega
    obtain⟨m',h1,h2⟩:=KG x hm (fun h=>hn (List.mem_cons_of_mem _ h));refine⟨y::m',List.pairwise_cons.2 ⟨fun z hz=>?_,h1⟩,(h2.cons y).trans (.swap _ _ _)⟩;rcases List.mem_cons.1 (h2.mem_iff.1 hz) with rfl|hz
    . exact hyx
    . exact hy z hz
theorem KH:∀{l:List Int},l.Nodup->∃m,Sd key m/\m.Perm l
 | [],_=>⟨[],Sd.nil,.refl _⟩
 | x::l,h=>by
  obtain⟨h1,h2⟩:=List.nodup_cons.1 h;obtain⟨m,hm,hp⟩:=KH h2;obtain⟨m',hm',hp'⟩:=KG x hm (fun h=>h1 (hp.mem_iff.1 h));exact⟨m',hm',hp'.trans (hp.cons x)⟩
theorem Zi {l:List Int}{t:Nat}(hl:l.Nodup)(ht:t<l.length):∃x∈l,dW key l x=t:=by
 obtain⟨m,hm,hp⟩:=KH (key:=key) hl;have ht':t<m.length:=by rw[hp.length_eq];exact ht
 refine⟨m[t],hp.mem_iff.1 (List.getElem_mem _),?_⟩;rw[←KE hp];exact KF hm (List.getElem?_eq_getElem ht')
theorem CX {l:List Int}{x y:Int}(hx:x∈l)(h:Lt key x y):dW key l x<dW key l y:=by
 unfold dW;obtain⟨A,B,rfl⟩:=List.append_of_mem hx;have hle:∀L:List Int,L.countP (fun z=>decide (key x<key z\/key z=key x/\z<x))<=L.countP (fun z=>decide (key y<key z\/key z=key y/\z<y)):=by
  intro L;refine List.countP_mono_left fun z _ hz=>?_
  simp only[decide_eq_true_eq]at hz ⊢;unfold Lt at h;omega
 rw[List.countP_append,List.countP_append,List.countP_cons,List.countP_cons];have h1:=hle A;have h2:=hle B;have h3:decide (key x<key x\/key x=key x/\x<x)=false:=by simp
 have h4:decide (key y<key x\/key x=key y/\x<y)=true:=decide_eq_true h;rw[h3,h4];simp only[Bool.false_eq_true,if_false,if_true];omega
theorem Zj {l:List Int}{x y:Int}(hx:x∈l)(hy:y∈l)(h:dW key l x=dW key l y):x=y:=by
 refine Decidable.byContradiction fun hn=>?_
 have:Lt key x y\/Lt key y x:=by unfold Lt;omega
 rcases this with h'|h'
 . have:=CX hx h';omega
 . have:=CX hy h';omega
end
def bU (n:Nat):List Int:=(List.range n).map Int.ofNat
theorem mH {n:Nat}:(bU n).length=n:=by simp[bU]
theorem Zk {n i:Nat}:(bU n)[i]? = if i<n then some (i:Int) else none:=by
 unfold bU;rw[List.getElem?_map];split
 . rw[List.getElem?_range (by assumption)];rfl
 . rw[List.getElem?_eq_none (by simp;omega)];rfl
theorem Zl {n:Nat}:bU (n+1)=bU n++[(n:Int)]:=by simp[bU,List.range_succ]
theorem mI {n:Nat}{x:Int}:x∈bU n↔0<=x/\x<n:=by
 unfold bU;simp only[List.mem_map,List.mem_range];constructor
 . rintro⟨a,h,rfl⟩;constructor <;> simp <;> omega
 . rintro⟨h1,h2⟩;exact⟨x.toNat,by omega,by simp;omega⟩
theorem Zm {n:Nat}:(bU n).Nodup:=by
 unfold bU;rw[List.nodup_iff_pairwise_ne,List.pairwise_map];exact List.nodup_range.imp fun h e=>h (by exact Int.ofNat.inj e)
theorem Zn {n:Nat}:(bU n).Pairwise (· < ·):=by
 unfold bU;rw[List.pairwise_map];exact List.pairwise_lt_range.imp fun h=>by simpa using h
def sum (l:List Int):Int:=l.foldl (· + ·) 0
theorem foldl_add (l:List Int)(a:Int):l.foldl (· + ·) a=a+sum l:=by
 unfold sum;induction l generalizing a with
 | nil=>simp
 | cons x l ih=>rw[List.foldl_cons,List.foldl_cons,ih,ih (0+x)];omega
theorem sum_cons (x:Int)(l:List Int):sum (x::l)=x+sum l:=by
 show (x::l).foldl (· + ·) 0=_;rw[List.foldl_cons,foldl_add];omega
theorem sum_append (l m:List Int):sum (l++m)=sum l+sum m:=by
 unfold sum;rw[List.foldl_append,foldl_add];rfl
theorem mJ {l:List Int}(h:∀x∈l,0<=x):0<=sum l:=by
 induction l with
 | nil=>simp[sum]
 | cons x l ih=>rw[sum_cons];have:=ih fun y hy=>h y (by simp[hy]);have:=h x (by simp);omega
theorem rK {l:List Int}{m:Int}(h:∀x∈l,x<=m):sum l<=l.length*m:=by
 induction l with
 | nil=>simp[sum]
 | cons x l ih=>
  rw[sum_cons];have:=ih fun y hy=>h y (by simp[hy])
  have:=h x (by simp);simp only[List.length_cons,Int.natCast_add,Int.add_mul];omega
theorem KI {l:List Int}(h:∀x∈l,0<=x)(hs:sum l=0):∀x∈l,x=0:=by
 induction l with
 | nil=>simp
 | cons x l ih=>
  rw[sum_cons]at hs;have h0:=mJ fun y hy=>h y (List.mem_cons_of_mem _ hy)
  have h1:=h x (by simp);intro y hy;rcases List.mem_cons.1 hy with rfl|hy
  . omega
  . exact ih (fun y hy=>h y (by simp[hy])) (by omega) y hy
def base (total:Int)(w:List Int):List Int:=w.map fun x=>total*x/sum w
def cD (total:Int)(w:List Int)(i:Int):Int:=total*w.getD i.toNat 0%sum w
def dK (total:Int)(w:List Int):Int:=total-sum (base total w)
def share (total:Int)(w:List Int):List Int:=
 (bU w.length).map fun i=>total*w.getD i.toNat 0/sum w+if (dW (cD total w) (bU w.length) i:Int)<dK total w then 1 else 0
theorem CY (total s:Int)(hs:0<s):∀w:List Int,total*sum w=s*sum (w.map fun x=>total*x/s)+sum (w.map fun x=>total*x%s)
 | []=>by simp[sum]
 | x::w=>by
  have ih:=CY total s hs w;simp only[List.map_cons,sum_cons,Int.mul_add];have:=Int.mul_ediv_add_emod (total*x) s;omega
theorem CZ {total:Int}{w:List Int}(hs:0<sum w):0<=dK total w/\dK total w<w.length:=by
 have h:=CY total (sum w) hs w;have hm:∀x∈w.map (fun x=>total*x%sum w),0<=x/\x<=sum w-1:=by
  intro x hx;obtain⟨y,_,rfl⟩:=List.mem_map.1 hx;have:=Int.emod_nonneg (total*y) (Int.ne_of_gt hs);have:=Int.emod_lt_of_pos (total*y) hs;omega
 have h0:=mJ fun x hx=>(hm x hx).1
 have h1:=rK fun x hx=>(hm x hx).2
 rw[List.length_map]at h1;have e:sum w*dK total w=sum (w.map fun x=>total*x%sum w):=by
  unfold dK base;rw[Int.mul_sub,Int.mul_comm (sum w) total];omega
 constructor
 . refine Decidable.byContradiction fun hn=>?_
   have:sum w*dK total w<0:=Int.mul_neg_of_pos_of_neg hs (by omega);omega
 . refine Decidable.byContradiction fun hn=>?_
   have h2:sum w*(w.length:Int)<=sum w*dK total w:=Int.mul_le_mul_of_nonneg_left (by omega) (Int.le_of_lt hs);have hl:w≠[]:=fun e=>by rw[e]at hs;simp[sum]at hs
   have hl':0<w.length:=List.length_pos_iff.2 hl;rw[Int.mul_sub,Int.mul_one,Int.mul_comm (w.length:Int) (sum w)]at h1;omega
theorem rL {n i:Nat}{f:Int->Int}:((bU n).map f)[i]? = if i<n then some (f i) else none:=by
 rw[List.getElem?_map,Zk];split <;> rfl
theorem Zo {n b:Nat}{f g:Int->Int}{v:Int}(hv:g b=v)(h:∀i:Nat,i<n->i≠b->g i=f i):((bU n).map f).set b v=(bU n).map g:=by
 apply List.ext_getElem?;intro i;rw[List.getElem?_set,rL,rL];simp only[List.length_map,mH];split
 . rename_i e;subst e;split
   . rw[hv]
   . rfl
 . rename_i e;split
   . rw[h i (by assumption) (fun h=>e h.symm)]
   . rfl
def fu (total:Int)(w:List Int)(t:Nat):List Int:=
 (bU w.length).map fun i=>total*w.getD i.toNat 0/sum w+if dW (cD total w) (bU w.length) i<t then 1 else 0
theorem KJ {total:Int}{w:List Int}{t:Nat}:(fu total w t).length=w.length:=by simp[fu,mH]
theorem wY {total:Int}{w:List Int}(h:0<=dK total w):fu total w (dK total w).toNat=share total w:=by
 unfold fu share;refine List.map_congr_left fun i _=>?_
 have:(dW (cD total w) (bU w.length) i<(dK total w).toNat)=((dW (cD total w) (bU w.length) i:Int)<dK total w):=by
  apply propext;omega
 simp only[this]
theorem getD_map (w:List Int)(f:Int->Int):(bU w.length).map (fun i=>f (w.getD i.toNat 0))=w.map f:=by
 apply List.ext_getElem?;intro i;rw[rL,List.getElem?_map];split
 . rename_i h;rw[List.getElem?_eq_getElem h];simp[List.getD_eq_getElem?_getD,List.getElem?_eq_getElem h]
 . rw[List.getElem?_eq_none (by omega)];rfl
theorem KK {total:Int}{w:List Int}:fu total w 0=base total w:=by
 unfold fu base;simp only[Nat.not_lt_zero,if_false,Int.add_zero];exact getD_map w fun x=>total*x/sum w
theorem KL {total:Int}{w:List Int}{t b:Nat}{x:Int}(hb:b<w.length)(hx:(fu total w t)[b]? = some x)(hr:dW (cD total w) (bU w.length) b=t):(fu total w t).set b (x+1)=fu total w (t+1):=by
 unfold fu at hx ⊢;rw[rL,if_pos hb]at hx;cases hx;refine Zo ?_ fun i hi hne=>?_
 . simp only[hr,Nat.lt_irrefl,if_false,Nat.lt_succ_self,if_true,Int.add_zero]
 . have:dW (cD total w) (bU w.length) i≠t:=fun h=>hne (by
    have:=Zj (key:=cD total w) (mI.2 ⟨by omega,by omega⟩) (mI.2 ⟨by omega,by omega⟩) (h.trans hr.symm);omega)
   have e:(dW (cD total w) (bU w.length) i<t+1)=(dW (cD total w) (bU w.length) i<t):=by apply propext;omega
   simp only[e]
theorem Zp {key:Int->Int}{n k:Nat}{o:List Int}{i:Int}(h:Sd key o)(hp:o.Perm (bU n))(hi:o[k]? = some i):dW key (bU n) i=k/\0<=i/\i<n:=by
 refine⟨by rw[←KE hp];exact KF h hi,mI.1 (hp.mem_iff.1 (List.mem_iff_getElem?.2 ⟨k,hi⟩))⟩
end Go.Ab.Sort

/-
  Own work: slices.SortStableFunc over ints: what it computes, at a comparison that reads nothing of the row.
-/
namespace Go.Ab.Ch1
open Go.Ab.Sort
variable {M:ao} {h:ab} {b n:Nat} {cap:Option Nat} {g:AV}
def rM:Nat->Nat->Nat->List Int->List Int
 | 0,_,_,l=>l
 | r+1,a,c,l=>rM r (a+1) (c+1) ((l.set a l[c]!).set c l[a]!)
theorem KM:∀(X A Mid Y B:List Int),X.length=Y.length->rM X.length A.length (A.length+X.length+Mid.length) (A++X++Mid++Y++B)=A++Y++Mid++X++B
 | [],A,Mid,Y,B,h=>by
  obtain rfl:Y=[]:=List.length_eq_zero_iff.1 h.symm;simp[rM]
 | x::X,A,Mid,[],B,h=>by simp at h
 | x::X,A,Mid,y::Y,B,h=>by
  have ih:=KM X (A++[y]) (Mid++[x]) Y B (by simpa using h);have e1:(A++(x::X)++Mid++(y::Y)++B)[A.length+(x::X).length+Mid.length]! = y:=by
   rw[show A++(x::X)++Mid++(y::Y)++B=(A++(x::X)++Mid)++y::(Y++B) by simp];rw[List.getElem!_eq_getElem?_getD,List.getElem?_append_right (by simp;omega)];rw[show A.length+(x::X).length+Mid.length-(A++(x::X)++Mid).length=0 by simp;omega];rfl
  have e2:(A++(x::X)++Mid++(y::Y)++B)[A.length]! = x:=by
   rw[show A++(x::X)++Mid++(y::Y)++B=A++x::(X++Mid++(y::Y)++B) by simp];rw[List.getElem!_eq_getElem?_getD,List.getElem?_append_right (Nat.le_refl _),Nat.sub_self];rfl
  have e3:((A++(x::X)++Mid++(y::Y)++B).set A.length y).set (A.length+(x::X).length+Mid.length) x=A++[y]++X++(Mid++[x])++Y++B:=by
   rw[show A++(x::X)++Mid++(y::Y)++B=A++x::(X++Mid++(y::Y)++B) by simp];rw[List.set_append_right _ _ (Nat.le_refl _),Nat.sub_self,List.set_cons_zero];rw[show A++y::(X++Mid++(y::Y)++B)=(A++y::(X++Mid))++y::(Y++B) by simp];rw[List.set_append_right _ _ (by simp;omega),show A.length+(x::X).length+Mid.length-(A++y::(X++Mid)).length=0 by simp;omega,List.set_cons_zero];simp
  rw[List.length_cons,rM,←(@List.length_cons _ x X),e1,e2,e3];rw[show A.length+1=(A++[y]).length by simp,show A.length+(x::X).length+Mid.length+1=(A++[y]).length+X.length+(Mid++[x]).length by simp;omega,ih];simp
theorem KN (hb:b<h.length)(hn:n<2305843009213693952)(a c k:Nat)(hac:a+k<=n)(hc:c+k<=n){Q:Ex->al->Prop}:∀(r i:Nat),i+r=k->∀(l:List Int) (lo:List (Nat×AV)) (wr:List Nat),l.length=n->bG b wr ->
 (∀lo wr,bG b wr->Q (.exit 0) ⟨⟨[.sl b 0 n 1 cap,.iV a,.iV c,.iV k,g,.iV k],lo,h.put b (some (.cells (ints (rM r (a+i) (c+i) l)) 3)),[]⟩,wr⟩) ->
 W M (.loop wu) ⟨⟨[.sl b 0 n 1 cap,.iV a,.iV c,.iV k,g,.iV i],lo,h.put b (some (.cells (ints l) 3)),[]⟩,wr⟩ Q
 | 0,i,hi,l,lo,wr,hl,hw,hQ=>by
  obtain rfl:i=k:=by omega
  refine W.loop ?_;unfold wu;repeat' first|(apply aab;rfl;rfl)|refine gc ?_|(intro _;omega)|intro _
  . exact hQ _ _ hw
 | r+1,i,hi,l,lo,wr,hl,hw,hQ=>by
  have f1:((a:Int)+(i:Int)).toNat=a+i:=by omega
  have f2:((c:Int)+(i:Int)).toNat=c+i:=by omega
  have hli:a+i<l.length:=by omega
  have hlc:c+i<l.length:=by omega
  refine W.loop ?_;unfold wu;repeat' first|(apply aab;rfl;rfl)|refine gc ?_|(intro _;omega)|intro _
  . refine cW ?_;rw[jt,jt,f1,f2];refine KN hb hn a c k hac hc r (i+1) (by omega) _ _ _ (by simp[hl]) hw.cons.cons hQ
structure ie (M:ao):Prop where
 ft:M.FT=FT
 KO:∀ars h,M.ext 99 ars h=none
 KP:∀ars h,M.ext 174 ars h=none
 KQ:∀ars h,M.ext 221 ars h=none
 wy:∀ars h,M.ext 222 ars h=none
 KR:∀ars h,M.ext 261 ars h=none
 KS:∀ars h,M.ext 298 ars h=none
abbrev fn (k:Nat):AV:=.fn (.func k) [] []
theorem jd {k:Nat}{ars:List AV}{hp:ab}{r:HR}(he:∀ars h,M.ext k ars h=none)(hr:aU M k ars hp r):CT M (fn k) ars hp r:=CT.run (he _ _) (by simpa using hr)
theorem Da (C:ie M)(hb:b<h.length)(hn:n<2305843009213693952){A X Mid Y B:List Int}(hX:X.length=Y.length)(hl:(A++X++Mid++Y++B).length=n) :
 ∃wr,bG b wr/\CT M (fn 298) [.sl b 0 n 1 cap,.iV A.length,.iV (A.length+X.length+Mid.length:Nat),.iV X.length,g] (h.put b (some (.cells (ints (A++X++Mid++Y++B)) 3))) ⟨.aq [],h.put b (some (.cells (ints (A++Y++Mid++X++B)) 3)),wr⟩:=by
 have hl':A.length+X.length+Mid.length+Y.length+B.length=n:=by simp at hl;omega
 obtain⟨l',wr,hw,rfl,hr⟩:=kC (M:=M) (l:=A++X++Mid++Y++B) (e:=3) (f:=fun x=>[.iV x]) (P:=fun l'=>l'=A++Y++Mid++X++B)
  (ars:=[.sl b 0 n 1 cap,.iV A.length,.iV (A.length+X.length+Mid.length:Nat),.iV X.length,g]) (by rw[C.ft];exact Zg) (by simp) hb (fun _=>rfl) (by
   unfold KB;simp only[enter];repeat' first|refine gc ?_|fail
   refine KN hb hn A.length (A.length+X.length+Mid.length) X.length (by omega) (by omega) X.length 0 (by omega) _ _ _ hl bG.nil (fun lo wr hw=>?_);repeat' first|refine gc ?_|fail
   exact⟨.inl rfl,rfl,_,rfl,hw,by rw[Nat.add_zero,Nat.add_zero,KM X A Mid Y B hX]⟩)
 exact⟨wr,hw,jd C.KS hr⟩
theorem Db (C:ie M)(hb:b<h.length)(hn:n<2305843009213693952)(a1 a3:AV)(m:Nat){Q:Ex->al->Prop}:∀(k:Nat) (A U V B:List Int) (lo:List (Nat×AV)) (wr:List Nat),U.length+V.length<=k->U≠[]->V≠[]->A.length+U.length=m->(A++U++V++B).length=n->bG b wr ->
 (∀A2 U2 V2 B2 lo wr,bG b wr->U2.length=V2.length->A2.length+U2.length=m->(A2++U2++V2++B2).length=n->A2++V2++U2++B2=A++V++U++B ->
   Q (.exit 0) ⟨⟨[.sl b 0 n 1 cap,a1,.iV m,a3,g,.iV U2.length,.iV V2.length],lo,h.put b (some (.cells (ints (A2++U2++V2++B2)) 3)),[]⟩,wr⟩) ->
 W M (.loop rI) ⟨⟨[.sl b 0 n 1 cap,a1,.iV m,a3,g,.iV U.length,.iV V.length],lo,h.put b (some (.cells (ints (A++U++V++B)) 3)),[]⟩,wr⟩ Q
 | 0,A,U,V,B,lo,wr,hk,hU,hV,hm,hl,hw,hQ=>absurd (List.length_eq_zero_iff.1 (by omega)) hU
 | k+1,A,U,V,B,lo,wr,hk,hU,hV,hm,hl,hw,hQ=>by
  have hu:0<U.length:=List.length_pos_iff.2 hU;have hv:0<V.length:=List.length_pos_iff.2 hV;have hl':A.length+U.length+V.length+B.length=n:=by simp at hl;omega
  refine W.loop ?_;rcases Nat.lt_trichotomy U.length V.length with hlt|heq|hgt
  . obtain⟨V1,V2,rfl,hV2⟩:∃V1 V2,V=V1++V2/\V2.length=U.length:=⟨V.take (V.length-U.length),V.drop (V.length-U.length),by simp,by simp;omega⟩;have hV1:0<V1.length:=by simp at hlt;omega
    obtain⟨wr',hw',hc⟩:=Da (g:=g) (cap:=cap) C hb hn (A:=A) (X:=U) (Mid:=V1) (Y:=V2) (B:=B) hV2.symm (by simp at hl ⊢;omega);have hc':CT M (fn 298) [.sl b 0 n 1 cap,.iV ((m:Int)-(U.length:Int)),.iV ((m:Int)+((V1++V2).length:Int)-(U.length:Int)),.iV U.length,g] (h.put b (some (.cells (ints (A++U++(V1++V2)++B)) 3))) ⟨.aq [],h.put b (some (.cells (ints (A++V2++V1++U++B)) 3)),wr'⟩:=by
     rw[show (m:Int)-(U.length:Int)=(A.length:Int) by omega,show (m:Int)+((V1++V2).length:Int)-(U.length:Int)=((A.length+U.length+V1.length:Nat):Int) by simp;omega];simpa only[List.append_assoc] using hc
    unfold rI;refine gg13 ?_;refine cW ?_;rw[show (((V1++V2).length:Int)-(U.length:Int))=(V1.length:Int) by simp;omega,show (U.length:Int)=(V2.length:Int) by omega];rw[show A++V2++V1++U++B=A++V2++V1++(U++B) by simp];refine Db C hb hn a1 a3 m k A V2 V1 (U++B) _ _ (by simp at hk;omega) (List.length_pos_iff.1 (by omega)) (List.length_pos_iff.1 hV1) (by omega) (by simp at hl ⊢;omega) (hw'.app hw) (fun A2 U2 W2 B2 lo wr g1 g2 g3 g4 g5=>?_);exact hQ A2 U2 W2 B2 lo wr g1 g2 g3 g4 (by rw[g5];simp)
  . unfold rI;exact gg15
  . obtain⟨U1,U2,rfl,hU1⟩:∃U1 U2,U=U1++U2/\U1.length=V.length:=⟨U.take V.length,U.drop V.length,by simp,by simp;omega⟩;have hU2:0<U2.length:=by simp at hgt;omega
    obtain⟨wr',hw',hc⟩:=Da (g:=g) (cap:=cap) C hb hn (A:=A) (X:=U1) (Mid:=U2) (Y:=V) (B:=B) hU1 (by simp at hl ⊢;omega);have hc':CT M (fn 298) [.sl b 0 n 1 cap,.iV ((m:Int)-((U1++U2).length:Int)),.iV m,.iV V.length,g] (h.put b (some (.cells (ints (A++(U1++U2)++V++B)) 3))) ⟨.aq [],h.put b (some (.cells (ints (A++V++U2++U1++B)) 3)),wr'⟩:=by
     rw[show (m:Int)-((U1++U2).length:Int)=(A.length:Int) by omega,show (m:Int)=((A.length+U1.length+U2.length:Nat):Int) by simp at hm ⊢;omega,←hU1];simpa only[List.append_assoc] using hc
    unfold rI;refine gg13 ?_;refine cW ?_;rw[show (((U1++U2).length:Int)-(V.length:Int))=(U2.length:Int) by simp;omega,show (V.length:Int)=(U1.length:Int) by omega];rw[show A++V++U2++U1++B=(A++V)++U2++U1++B by simp];refine Db C hb hn a1 a3 m k (A++V) U2 U1 B _ _ (by simp at hk;omega) (List.length_pos_iff.1 hU2) (List.length_pos_iff.1 (by omega)) (by simp at hm ⊢;omega) (by simp at hl ⊢;omega) (hw'.app hw) (fun A2 X2 W2 B2 lo wr g1 g2 g3 g4 g5=>?_);exact hQ A2 X2 W2 B2 lo wr g1 g2 g3 g4 (by rw[g5];simp)
theorem Zq (C:ie M)(hb:b<h.length)(hn:n<2305843009213693952){A U V B:List Int}(hU:U≠[])(hV:V≠[])(hl:(A++U++V++B).length=n) :
 ∃wr,bG b wr/\CT M (fn 261) [.sl b 0 n 1 cap,.iV A.length,.iV (A.length+U.length:Nat),.iV (A.length+U.length+V.length:Nat),g] (h.put b (some (.cells (ints (A++U++V++B)) 3))) ⟨.aq [],h.put b (some (.cells (ints (A++V++U++B)) 3)),wr⟩:=by
 have hl':A.length+U.length+V.length+B.length=n:=by simp at hl;omega
 obtain⟨l',wr,hw,rfl,hr⟩:=kC (M:=M) (l:=A++U++V++B) (e:=3) (f:=fun x=>[.iV x]) (P:=fun l'=>l'=A++V++U++B)
  (ars:=[.sl b 0 n 1 cap,.iV A.length,.iV (A.length+U.length:Nat),.iV (A.length+U.length+V.length:Nat),g]) (by rw[C.ft];exact Zf) (by simp) hb (fun _=>rfl) (by
   unfold KA;simp only[enter];repeat' first|refine gc ?_|fail
   rw[show (((A.length+U.length:Nat):Int)-(A.length:Int))=(U.length:Int) by omega,show (((A.length+U.length+V.length:Nat):Int)-((A.length+U.length:Nat):Int))=(V.length:Int) by omega];refine Db C hb hn _ _ (A.length+U.length) (U.length+V.length) A U V B _ _ (Nat.le_refl _) hU hV rfl hl bG.nil (fun A2 U2 V2 B2 lo wr g1 g2 g3 g4 g5=>?_);obtain⟨wr',hw',hc⟩:=Da (g:=g) (cap:=cap) C hb hn (A:=A2) (X:=U2) (Mid:=[]) (Y:=V2) (B:=B2) g2 (by simpa using g4);have hc':CT M (fn 298) [.sl b 0 n 1 cap,.iV (((A.length+U.length:Nat):Int)-(U2.length:Int)),.iV (A.length+U.length:Nat),.iV U2.length,g] (h.put b (some (.cells (ints (A2++U2++V2++B2)) 3))) ⟨.aq [],h.put b (some (.cells (ints (A2++V2++U2++B2)) 3)),wr'⟩:=by
    rw[show ((A.length+U.length:Nat):Int)-(U2.length:Int)=(A2.length:Int) by omega,←g3];simpa using hc
   refine gg13 ?_;exact⟨.inl rfl,rfl,_,rfl,hw'.app g1,g5⟩)
 exact⟨wr,hw,jd C.KR hr⟩
def ij (M:ao)(h:ab)(b:Nat)(g:AV)(ok:Int->Prop)(cf:Int->Int->Int):Prop:=
 ∀x y l,ok x->ok y->CT M g [.iV x,.iV y] (h.put b (some (.cells (ints l) 3))) ⟨.iV (cf x y),h.put b (some (.cells (ints l) 3)),[]⟩
theorem get_at {A B:List Int}{x:Int}{i:Nat}(hi:i=A.length):(A++x::B)[i]! = x:=by
 subst hi;rw[List.getElem!_eq_getElem?_getD,List.getElem?_append_right (Nat.le_refl _),Nat.sub_self];rfl
theorem KT {A B:List Int}{x y:Int}{j:Nat}(hj:j=A.length):((A++y::x::B).set (j+1) y).set j x=A++x::y::B:=by
 subst hj;rw[show A++y::x::B=(A++[y])++x::B by simp,List.set_append_right _ _ (by simp),show A.length+1-(A++[y]).length=0 by simp,List.set_cons_zero];rw[show (A++[y])++y::B=A++y::y::B by simp,List.set_append_right _ _ (Nat.le_refl _),Nat.sub_self,List.set_cons_zero]
theorem Zr {A B:List Int}{x y:Int}{j:Nat}(hj:j=A.length):((A++x::y::B).set j y).set (j+1) x=A++y::x::B:=by
 subst hj;rw[List.set_append_right _ _ (Nat.le_refl _),Nat.sub_self,List.set_cons_zero];rw[show A++y::y::B=(A++[y])++y::B by simp,List.set_append_right _ _ (by simp),show A.length+1-(A++[y]).length=0 by simp,List.set_cons_zero];simp
variable {key:Int->Int} {ok:Int->Prop} {cf:Int->Int->Int}
theorem KU (hb:b<h.length)(hn:n<2305843009213693952)(hc:ij M h b g ok cf)(hcf:∀x y,ok x->ok y->(cf x y<0↔key y<key x))(a2 a4:AV)(A T:List Int)(x:Int)(hx:ok x){Q:Ex->al->Prop}:∀(k:Nat) (S1 S2:List Int) (lo:List (Nat×AV)) (wr:List Nat),S1.length=k->(A++S1++x::S2++T).length=n->bG b wr->(∀y∈S1++S2,y<x/\ok y)->Sd key (S1++S2)->(∀y∈S2,Lt key x y) ->
 (∀S a5 lo wr L,bG b wr->Sd key S->S.Perm (x::(S1++S2))->L=A++S++T->Q (.exit 2) ⟨⟨[.sl b 0 n 1 cap,.iV A.length,a2,g,a4,a5],lo,h.put b (some (.cells (ints L) 3)),[]⟩,wr⟩) ->
 W M (.loop rG) ⟨⟨[.sl b 0 n 1 cap,.iV A.length,a2,g,a4,.iV (A.length+S1.length:Nat)],lo,h.put b (some (.cells (ints (A++S1++x::S2++T)) 3)),[]⟩,wr⟩ Q
 | 0,S1,S2,lo,wr,hk,hl,hw,ho,hs,h2,hQ=>by
  obtain rfl:=List.length_eq_zero_iff.1 hk;refine W.loop ?_;unfold rG;repeat' first|(apply ada;rfl)|(apply aah;rfl;rfl)|refine gc ?_|(intro _;omega)|intro _
  . exact hQ (x::S2) _ _ _ _ hw (by simpa using DA (S1:=[]) (x:=x) (by simpa using hs) h2 (by simp)) (by simp) (by simp)
 | k+1,S1,S2,lo,wr,hk,hl,hw,ho,hs,h2,hQ=>by
  obtain⟨R,y,rfl⟩:∃R y,S1=R++[y]:=by
   rcases List.eq_nil_or_concat S1 with rfl|⟨R,y,rfl⟩
   . simp at hk
   . exact⟨R,y,by simp⟩
  have hy:=ho y (by simp);have hl':(A++(R++[y])++x::S2++T).length=n:=hl;have hln:A.length+R.length+S2.length+T.length+2=n:=by simp at hl;omega
  have eL:A++(R++[y])++x::S2++T=(A++R)++y::x::(S2++T):=by simp
  have eJ:(((A.length+(R++[y]).length:Nat):Int)).toNat=(A++R).length+1:=by simp;omega
  have eI:(((A.length+(R++[y]).length:Nat):Int)-1).toNat=(A++R).length:=by simp;omega
  have gx:(A++(R++[y])++x::S2++T)[(((A.length+(R++[y]).length:Nat):Int)).toNat]! = x:=by
   rw[eL,eJ,show (A++R)++y::x::(S2++T)=(A++R++[y])++x::(S2++T) by simp];exact get_at (by simp <;> omega)
  have gy:(A++(R++[y])++x::S2++T)[(((A.length+(R++[y]).length:Nat):Int)-1).toNat]! = y:=by
   rw[eL,eI];exact get_at rfl
  have hcc:CT M g [.iV (A++(R++[y])++x::S2++T)[(((A.length+(R++[y]).length:Nat):Int)).toNat]!,.iV (A++(R++[y])++x::S2++T)[(((A.length+(R++[y]).length:Nat):Int)-1).toNat]!] (h.put b (some (.cells (ints (A++(R++[y])++x::S2++T)) 3))) ⟨.iV (cf x y),h.put b (some (.cells (ints (A++(R++[y])++x::S2++T)) 3)),[]⟩:=by
   rw[gx,gy];exact hc x y _ hx hy.2
  have hiff:=hcf x y hx hy.2;have b1:(((A.length+(R++[y]).length:Nat):Int)).toNat<(A++(R++[y])++x::S2++T).length:=by rw[hl'];simp;omega
  have b2:(((A.length+(R++[y]).length:Nat):Int)-1).toNat<(A++(R++[y])++x::S2++T).length:=by rw[hl'];simp;omega
  have c1:(A.length:Int)<((A.length+(R++[y]).length:Nat):Int):=by simp;omega
  have c2:((A.length+(R++[y]).length:Nat):Int)<n:=by simp;omega
  refine W.loop ?_;by_cases hlt:cf x y<0
  . have hxy:Lt key x y:=(Lt.iff hy.1).2 (hiff.1 hlt);unfold rG;refine gg10 ?_;refine cW ?_;rw[jt,jt,gx,gy,eJ,eI,eL,KT rfl];rw[show A++R++x::y::(S2++T)=A++R++x::(y::S2)++T by simp];rw[show ((A.length+(R++[y]).length:Nat):Int)-1=((A.length+R.length:Nat):Int) by simp;omega];refine KU hb hn hc hcf a2 a4 A T x hx k R (y::S2) _ _ (by simpa using hk) (by simp;omega) hw.cons.cons (fun z hz=>ho z (by simpa using hz)) (by simpa using hs) (fun z hz=>?_) (fun S a5 lo wr L g1 g2 g3 g4=>?_)
    . rcases List.mem_cons.1 hz with rfl|hz
      . exact hxy
      . exact h2 z hz
    . exact hQ S a5 lo wr L g1 g2 (by simpa using g3) g4
  . have hyx:Lt key y x:=Lt.wx hy.1 (fun h=>hlt (hiff.2 ((Lt.iff hy.1).1 h)));unfold rG;exact gg2
theorem KV (hb:b<h.length)(hn:n<2305843009213693952)(hc:ij M h b g ok cf)(hcf:∀x y,ok x->ok y->(cf x y<0↔key y<key x))(A B:List Int)(e:Nat){Q:Ex->al->Prop}:∀(X S0 S:List Int) (a5:AV) (lo:List (Nat×AV)) (wr:List Nat),(A++S++X++B).length=n->A.length+S.length+X.length=e->bG b wr->(S0++X).Pairwise (· < ·)->(∀y∈S0++X,ok y)->Sd key S->S.Perm S0 ->
 (∀S a4 a5 lo wr L,bG b wr->Sd key S->S.Perm (S0++X)->L=A++S++B->Q (.exit 0) ⟨⟨[.sl b 0 n 1 cap,.iV A.length,.iV e,g,a4,a5],lo,h.put b (some (.cells (ints L) 3)),[]⟩,wr⟩) ->
 W M (.loop rH) ⟨⟨[.sl b 0 n 1 cap,.iV A.length,.iV e,g,.iV (A.length+S.length:Nat),a5],lo,h.put b (some (.cells (ints (A++S++X++B)) 3)),[]⟩,wr⟩ Q
 | [],S0,S,a5,lo,wr,hl,he,hw,hlt,ho,hs,hp,hQ=>by
  have he':A.length+S.length=e:=by simpa using he
  refine W.loop ?_;unfold rH;repeat' first|(apply aab;rfl;rfl)|refine gc ?_|(intro _;omega)|intro _
  . exact hQ S _ _ _ _ _ hw hs (by simpa using hp) (by simp)
 | x::X,S0,S,a5,lo,wr,hl,he,hw,hlt,ho,hs,hp,hQ=>by
  have he':A.length+S.length<e:=by simp at he;omega
  have hen:e<=n:=by simp at hl he;omega
  have hpw:=List.pairwise_append.1 hlt;refine W.loop ?_;unfold rH;refine gg5 ?_;rw[show A++S++x::X++B=A++S++x::[]++(X++B) by simp];refine KU hb hn hc hcf _ _ A (X++B) x (ho x (by simp)) S.length S [] _ _ rfl (by simp at hl ⊢;omega) hw (fun y hy=>?_) (by simpa using hs) (by simp) (fun S' a5 lo wr L g1 g2 g3 g4=>?_)
  . have hy0:y∈S0:=hp.mem_iff.1 (by simpa using hy);exact⟨hpw.2.2 y hy0 x (by simp),ho y (by simp[hy0])⟩
  . subst g4;have hS':S'.length=S.length+1:=by rw[g3.length_eq];simp
    repeat' first|refine gc ?_|fail
    refine cW ?_;rw[show ((A.length+S.length:Nat):Int)+1=((A.length+S'.length:Nat):Int) by omega];rw[show A++S'++(X++B)=A++S'++X++B by simp];refine KV hb hn hc hcf A B e X (S0++[x]) S' _ _ _ (by simp at hl ⊢;omega) (by simp at he;omega) g1 (by simpa using hlt) (by simpa using ho) g2 ?_ (fun S a4 a5 lo wr L k1 k2 k3 k4=>?_)
    . rw[List.append_nil]at g3;exact(g3.trans (hp.cons x)).trans (List.perm_append_comm (l₁:=[x]) (l₂:=S0))
    . exact hQ S a4 a5 lo wr L k1 k2 (by simpa using k3) k4
theorem KW (C:ie M)(hb:b<h.length)(hn:n<2305843009213693952)(hc:ij M h b g ok cf)(hcf:∀x y,ok x->ok y->(cf x y<0↔key y<key x)){A X B:List Int}(hl:(A++X++B).length=n)(hlt:X.Pairwise (· < ·))(ho:∀y∈X,ok y) :
 ∃S wr,bG b wr/\(Sd key S/\S.Perm X)/\CT M (fn 221) [.sl b 0 n 1 cap,.iV A.length,.iV (A.length+X.length:Nat),g] (h.put b (some (.cells (ints (A++X++B)) 3))) ⟨.aq [],h.put b (some (.cells (ints (A++S++B)) 3)),wr⟩:=by
 have hl':A.length+X.length+B.length=n:=by simp at hl;omega
 obtain⟨l',wr,hw,⟨S,rfl,g2,g3⟩,hr⟩:=kC (M:=M) (l:=A++X++B) (e:=3) (f:=fun x=>[.iV x]) (P:=fun l'=>∃S,l'=A++S++B/\Sd key S/\S.Perm X)
  (ars:=[.sl b 0 n 1 cap,.iV A.length,.iV (A.length+X.length:Nat),g]) (by rw[C.ft];exact Ze) (by simp) hb (fun _=>rfl) (by
   unfold Kz;simp only[enter];repeat' first|refine gc ?_|fail
   cases X with
   | nil=>
    have h0:([]:List Int).length=0:=rfl;refine W.loop ?_;unfold rH;repeat' first|(apply aab;rfl;rfl)|refine gc ?_|(intro _;omega)|intro _
    . exact⟨.inl rfl,rfl,_,rfl,bG.nil,[],by simp,Sd.nil,.refl _⟩
   | cons x X=>
    rw[show ((A.length:Nat):Int)+1=((A.length+[x].length:Nat):Int) by simp,show A++x::X++B=A++[x]++X++B by simp];refine KV hb hn hc hcf A B (A.length+(x::X).length) X [x] [x] _ _ _ (by simp;simp at hl';omega) (by simp;omega) bG.nil (by simpa using hlt) (by simpa using ho) (Sd.one x) (.refl _) (fun S a4 a5 lo wr L k1 k2 k3 k4=>?_);repeat' first|refine gc ?_|fail
    exact⟨.inl rfl,rfl,L,rfl,k1,S,k4,k2,by simpa using k3⟩)
 exact⟨S,wr,hw,⟨g2,g3⟩,jd C.KQ hr⟩
theorem fl {l:List Int}{i:Nat}(h:i<l.length):l[i]! ∈ l:=by
 rw[getElem!_pos l i h];exact List.getElem_mem h
theorem Dc {A L R B:List Int}{i:Nat}(h:i<L.length):(A++L++R++B)[A.length+i]! = L[i]! := by
 rw[List.getElem!_eq_getElem?_getD,List.getElem!_eq_getElem?_getD,List.append_assoc,List.append_assoc,List.getElem?_append_right (by omega),Nat.add_sub_cancel_left,List.getElem?_append_left h]
theorem atR {A L R B:List Int}{i:Nat}(h:i<R.length):(A++L++R++B)[A.length+L.length+i]! = R[i]! := by
 rw[List.getElem!_eq_getElem?_getD,List.getElem!_eq_getElem?_getD,List.append_assoc,List.getElem?_append_right (by simp),List.length_append,Nat.add_sub_cancel_left,List.getElem?_append_left h]
theorem wz {l:List Int}(h:Sd key l){i j:Nat}(hij:i<j)(hj:j<l.length):Lt key l[i]! l[j]! := by
 rw[getElem!_pos l i (by omega),getElem!_pos l j hj];exact h.get (List.getElem?_eq_getElem (by omega)) (List.getElem?_eq_getElem hj) hij
theorem Zs (hn:n<2305843009213693952)(hb:b<h.length)(hc:ij M h b g ok cf)(l:List Int)(hl:l.length=n)(a m e:Nat)(ha:a<n)(he:e<=n)(ba:∀k,m<=k->k<e->ok l[k]!)(hoa:ok l[a]!)(a2 a3 a8 a9 a10 a11 a12 a13 a14 a15 a16 a17 a18 a19:AV)(wr:List Nat)
 (hm:∀k k',m<=k->k<k'->k'<e->cf l[k']! l[a]! < 0->cf l[k]! l[a]! < 0) {Q:Ex->al->Prop}:∀(r i j:Nat) (a7:AV) (lo:List (Nat×AV)),j-i<=r->m<=i->i<=j->j<=e->(∀k,m<=k->k<i->cf l[k]! l[a]! < 0)->(∀k,j<=k->k<e->¬cf l[k]! l[a]! < 0) ->
 (∀(i:Nat) a7 lo,m<=i->i<=e->(∀k,m<=k->k<i->cf l[k]! l[a]! < 0)->(∀k,i<=k->k<e->¬cf l[k]! l[a]! < 0)->Q (.exit 0) ⟨⟨[.sl b 0 n 1 cap,.iV a,a2,a3,g,.iV i,.iV i,a7,a8,a9,a10,a11,a12,a13,a14,a15,a16,a17,a18,a19],lo,h.put b (some (.cells (ints l) 3)),[]⟩,wr⟩) ->
 W M (.loop oT) ⟨⟨[.sl b 0 n 1 cap,.iV a,a2,a3,g,.iV i,.iV j,a7,a8,a9,a10,a11,a12,a13,a14,a15,a16,a17,a18,a19],lo,h.put b (some (.cells (ints l) 3)),[]⟩,wr⟩ Q:=by
 intro r;induction r with
 | zero=>
  intro i j a7 lo hr h1 h2 h3 h4 h5 hQ;obtain rfl:i=j:=by omega
  refine W.loop ?_;unfold oT;repeat' first|(apply aab;rfl;rfl)|refine gc ?_|(intro _;omega)|intro _
  . exact hQ i _ _ h1 h3 h4 h5
 | succ r ih=>
  intro i j a7 lo hr h1 h2 h3 h4 h5 hQ;refine W.loop ?_;rcases Nat.eq_or_lt_of_le h2 with rfl|hlt
  . unfold oT;repeat' first|(apply aab;rfl;rfl)|refine gc ?_|(intro _;omega)|intro _
    . exact hQ i _ _ h1 h3 h4 h5
  . obtain⟨H,hH⟩:∃H,H=(i+j)/2:=⟨_,rfl⟩;have eH:((i:Int)+(j:Int))/2=(H:Int):=by omega
    have eH':(((i:Int)+(j:Int))/2).toNat=H:=by omega
    have ea:((a:Int)).toNat=a:=by omega
    have hHl:(((i:Int)+(j:Int))/2).toNat<l.length:=by omega
    have hal:((a:Int)).toNat<l.length:=by omega
    have hcc:CT M g [.iV l[(((i:Int)+(j:Int))/2).toNat]!,.iV l[((a:Int)).toNat]!] (h.put b (some (.cells (ints l) 3))) ⟨.iV (cf l[H]! l[a]!),h.put b (some (.cells (ints l) 3)),[]⟩:=by
     rw[eH',ea];exact hc _ _ _ (ba H (by omega) (by omega)) hoa
    by_cases hd:cf l[H]! l[a]! < 0
    . unfold oT;refine gg10 ?_;refine cW ?_;rw[eH];exact ih (H+1) j _ _ (by omega) (by omega) (by omega) h3 (fun k hk1 hk2=>by
       rcases Nat.lt_or_eq_of_le (Nat.le_of_lt_succ hk2) with hk|rfl
       . exact hm k H hk1 hk (by omega) hd
       . exact hd) h5 hQ
    . unfold oT;refine gg10 ?_;refine cW ?_;rw[eH];exact ih i H _ _ (by omega) h1 (by omega) (by omega) h4 (fun k hk1 hk2=>by
       rcases Nat.lt_or_eq_of_le hk1 with hk|rfl
       . exact fun hd'=>hd (hm H k (by omega) hk hk2 hd')
       . exact hd) hQ
theorem Zt (hn:n<2305843009213693952)(hb:b<h.length)(hc:ij M h b g ok cf)(l:List Int)(hl:l.length=n)(a m e:Nat)(ha:a<n)(he:e<=n)(ba:∀k,m<=k->k<e->ok l[k]!)(hoa:ok l[a]!)(a1 a3 a5 a6 a7 a8 a12 a13 a14 a15 a16 a17 a18 a19:AV)(wr:List Nat)
 (hm:∀k k',m<=k->k<k'->k'<e->¬cf l[a]! l[k']! < 0->¬cf l[a]! l[k]! < 0) {Q:Ex->al->Prop}:∀(r i j:Nat) (a11:AV) (lo:List (Nat×AV)),j-i<=r->m<=i->i<=j->j<=e->(∀k,m<=k->k<i->¬cf l[a]! l[k]! < 0)->(∀k,j<=k->k<e->cf l[a]! l[k]! < 0) ->
 (∀(i:Nat) a11 lo,m<=i->i<=e->(∀k,m<=k->k<i->¬cf l[a]! l[k]! < 0)->(∀k,i<=k->k<e->cf l[a]! l[k]! < 0)->Q (.exit 4) ⟨⟨[.sl b 0 n 1 cap,a1,.iV a,a3,g,a5,a6,a7,a8,.iV i,.iV i,a11,a12,a13,a14,a15,a16,a17,a18,a19],lo,h.put b (some (.cells (ints l) 3)),[]⟩,wr⟩) ->
 W M (.loop oW) ⟨⟨[.sl b 0 n 1 cap,a1,.iV a,a3,g,a5,a6,a7,a8,.iV i,.iV j,a11,a12,a13,a14,a15,a16,a17,a18,a19],lo,h.put b (some (.cells (ints l) 3)),[]⟩,wr⟩ Q:=by
 intro r;induction r with
 | zero=>
  intro i j a11 lo hr h1 h2 h3 h4 h5 hQ;obtain rfl:i=j:=by omega
  refine W.loop ?_;unfold oW;repeat' first|(apply aab;rfl;rfl)|refine gc ?_|(intro _;omega)|intro _
  . exact hQ i _ _ h1 h3 h4 h5
 | succ r ih=>
  intro i j a11 lo hr h1 h2 h3 h4 h5 hQ;refine W.loop ?_;rcases Nat.eq_or_lt_of_le h2 with rfl|hlt
  . unfold oW;repeat' first|(apply aab;rfl;rfl)|refine gc ?_|(intro _;omega)|intro _
    . exact hQ i _ _ h1 h3 h4 h5
  . obtain⟨H,hH⟩:∃H,H=(i+j)/2:=⟨_,rfl⟩;have eH:((i:Int)+(j:Int))/2=(H:Int):=by omega
    have eH':(((i:Int)+(j:Int))/2).toNat=H:=by omega
    have ea:((a:Int)).toNat=a:=by omega
    have hHl:(((i:Int)+(j:Int))/2).toNat<l.length:=by omega
    have hal:((a:Int)).toNat<l.length:=by omega
    have hcc:CT M g [.iV l[((a:Int)).toNat]!,.iV l[(((i:Int)+(j:Int))/2).toNat]!] (h.put b (some (.cells (ints l) 3))) ⟨.iV (cf l[a]! l[H]!),h.put b (some (.cells (ints l) 3)),[]⟩:=by
     rw[eH',ea];exact hc _ _ _ hoa (ba H (by omega) (by omega))
    by_cases hd:¬cf l[a]! l[H]! < 0
    . unfold oW;refine gg10 ?_;refine cW ?_;rw[eH];exact ih (H+1) j _ _ (by omega) (by omega) (by omega) h3 (fun k hk1 hk2=>by
       rcases Nat.lt_or_eq_of_le (Nat.le_of_lt_succ hk2) with hk|rfl
       . exact hm k H hk1 hk (by omega) hd
       . exact hd) h5 hQ
    . unfold oW;refine gg10 ?_;refine cW ?_;rw[eH];exact ih i H _ _ (by omega) h1 (by omega) (by omega) h4 (fun k hk1 hk2=>by
       rcases Nat.lt_or_eq_of_le hk1 with hk|rfl
       . exact Decidable.byContradiction fun hd'=>hd (hm H k (by omega) hk hk2 hd')
       . exact Decidable.byContradiction hd) hQ
theorem KX (hn:n<2305843009213693952)(hb:b<h.length)(hc:ij M h b g ok cf)(l:List Int)(hl:l.length=n)(p m e:Nat)(he:e<=n)(hp:p<n+m)(hep:e<=p+1)(ba:∀k,m<=k->k<e->ok l[k]! /\ ok l[p-k]!)(a1 a2 a3 a5 a6 a7 a8 a9 a10 a11 a12 a13 a14 a19:AV)(wr:List Nat)
 (hm:∀k k',m<=k->k<k'->k'<e->¬cf l[p-k']! l[k']! < 0->¬cf l[p-k]! l[k]! < 0) {Q:Ex->al->Prop}:∀(r i j:Nat) (a18:AV) (lo:List (Nat×AV)),j-i<=r->m<=i->i<=j->j<=e->(∀k,m<=k->k<i->¬cf l[p-k]! l[k]! < 0)->(∀k,j<=k->k<e->cf l[p-k]! l[k]! < 0) ->
 (∀(i:Nat) a18 lo,m<=i->i<=e->(∀k,m<=k->k<i->¬cf l[p-k]! l[k]! < 0)->(∀k,i<=k->k<e->cf l[p-k]! l[k]! < 0)->Q (.exit 8) ⟨⟨[.sl b 0 n 1 cap,a1,a2,a3,g,a5,a6,a7,a8,a9,a10,a11,a12,a13,a14,.iV i,.iV i,.iV p,a18,a19],lo,h.put b (some (.cells (ints l) 3)),[]⟩,wr⟩) ->
 W M (.loop oZ) ⟨⟨[.sl b 0 n 1 cap,a1,a2,a3,g,a5,a6,a7,a8,a9,a10,a11,a12,a13,a14,.iV i,.iV j,.iV p,a18,a19],lo,h.put b (some (.cells (ints l) 3)),[]⟩,wr⟩ Q:=by
 intro r;induction r with
 | zero=>
  intro i j a18 lo hr h1 h2 h3 h4 h5 hQ;obtain rfl:i=j:=by omega
  refine W.loop ?_;unfold oZ;repeat' first|(apply aab;rfl;rfl)|refine gc ?_|(intro _;omega)|intro _
  . exact hQ i _ _ h1 h3 h4 h5
 | succ r ih=>
  intro i j a18 lo hr h1 h2 h3 h4 h5 hQ;refine W.loop ?_;rcases Nat.eq_or_lt_of_le h2 with rfl|hlt
  . unfold oZ;repeat' first|(apply aab;rfl;rfl)|refine gc ?_|(intro _;omega)|intro _
    . exact hQ i _ _ h1 h3 h4 h5
  . obtain⟨H,hH⟩:∃H,H=(i+j)/2:=⟨_,rfl⟩;have eH:((i:Int)+(j:Int))/2=(H:Int):=by omega
    have eH':(((i:Int)+(j:Int))/2).toNat=H:=by omega
    have ep:((p:Int)-(((i:Int)+(j:Int))/2)).toNat=p-H:=by omega
    have hHl:(((i:Int)+(j:Int))/2).toNat<l.length:=by omega
    have hal:((p:Int)-(((i:Int)+(j:Int))/2)).toNat<l.length:=by omega
    have hcc:CT M g [.iV l[((p:Int)-(((i:Int)+(j:Int))/2)).toNat]!,.iV l[(((i:Int)+(j:Int))/2).toNat]!] (h.put b (some (.cells (ints l) 3))) ⟨.iV (cf l[p-H]! l[H]!),h.put b (some (.cells (ints l) 3)),[]⟩:=by
     rw[eH',ep];exact hc _ _ _ (ba H (by omega) (by omega)).2 (ba H (by omega) (by omega)).1
    by_cases hd:¬cf l[p-H]! l[H]! < 0
    . unfold oZ;refine gg10 ?_;refine cW ?_;rw[eH];exact ih (H+1) j _ _ (by omega) (by omega) (by omega) h3 (fun k hk1 hk2=>by
       rcases Nat.lt_or_eq_of_le (Nat.le_of_lt_succ hk2) with hk|rfl
       . exact hm k H hk1 hk (by omega) hd
       . exact hd) h5 hQ
    . unfold oZ;refine gg10 ?_;refine cW ?_;rw[eH];exact ih i H _ _ (by omega) h1 (by omega) (by omega) h4 (fun k hk1 hk2=>by
       rcases Nat.lt_or_eq_of_le hk1 with hk|rfl
       . exact Decidable.byContradiction fun hd'=>hd (hm H k (by omega) hk hk2 hd')
       . exact Decidable.byContradiction hd) hQ
theorem KY (hn:n<2305843009213693952)(hb:b<h.length)(x:Int)(T:List Int)(i:Nat)(a1 a2 a3 a6 a7 a9 a10 a11 a12 a13 a14 a15 a16 a17 a18 a19:AV){Q:Ex->al->Prop}:∀(R A:List Int) (lo:List (Nat×AV)) (wr:List Nat),A.length+R.length+1=i->(A++x::(R++T)).length=n->bG b wr ->
 (∀a8 lo wr L,bG b wr->L=A++R++x::T->Q (.exit 2) ⟨⟨[.sl b 0 n 1 cap,a1,a2,a3,g,.iV i,a6,a7,a8,a9,a10,a11,a12,a13,a14,a15,a16,a17,a18,a19],lo,h.put b (some (.cells (ints L) 3)),[]⟩,wr⟩) ->
 W M (.loop wj) ⟨⟨[.sl b 0 n 1 cap,a1,a2,a3,g,.iV i,a6,a7,.iV A.length,a9,a10,a11,a12,a13,a14,a15,a16,a17,a18,a19],lo,h.put b (some (.cells (ints (A++x::(R++T))) 3)),[]⟩,wr⟩ Q
 | [],A,lo,wr,hi,hl,hw,hQ=>by
  have h0:([]:List Int).length=0:=rfl;have hn':A.length<n:=by simp at hl;omega
  refine W.loop ?_;unfold wj;repeat' first|(apply aab;rfl;rfl)|refine gc ?_|(intro _;omega)|intro _
  . exact hQ _ _ _ _ hw (by simp)
 | y::R,A,lo,wr,hi,hl,hw,hQ=>by
  have hi':A.length+R.length+2=i:=by simp at hi;omega
  have hl':A.length+R.length+T.length+2=n:=by simp at hl;omega
  have hli:i<=n:=by omega
  have e1:((A.length:Int)).toNat=A.length:=by omega
  have e2:((A.length:Int)+1).toNat=A.length+1:=by omega
  have b1:((A.length:Int)).toNat<(A++x::(y::R++T)).length:=by omega
  have b2:((A.length:Int)+1).toNat<(A++x::(y::R++T)).length:=by omega
  have g1:(A++x::(y::R++T))[A.length]! = x:=get_at rfl;have g2:(A++x::(y::R++T))[A.length+1]! = y:=by
   rw[show A++x::(y::R++T)=(A++[x])++y::(R++T) by simp];exact get_at (by simp)
  refine W.loop ?_;unfold wj;refine gg5 ?_;refine cW ?_;rw[jt,jt,e1,e2,g1,g2,show A++x::(y::R++T)=A++x::y::(R++T) by simp,Zr rfl];rw[show (A.length:Int)+1=((A++[y]).length:Int) by simp,show A++y::x::(R++T)=(A++[y])++x::(R++T) by simp];refine KY hn hb x T i a1 a2 a3 a6 a7 a9 a10 a11 a12 a13 a14 a15 a16 a17 a18 a19 R (A++[y]) _ _ (by simp;omega) (by simp;omega) hw.cons.cons (fun a8 lo wr L k1 k2=>?_);exact hQ a8 lo wr L k1 (by rw[k2];simp)
theorem KZ (hn:n<2305843009213693952)(hb:b<h.length)(y:Int)(A:List Int)(a1 a2 a3 a5 a6 a7 a8 a10 a11 a13 a14 a15 a16 a17 a18 a19:AV){Q:Ex->al->Prop}:∀(k:Nat) (L T:List Int) (lo:List (Nat×AV)) (wr:List Nat),L.length=k->(A++L++y::T).length=n->bG b wr ->
 (∀a12 lo wr L',bG b wr->L'=A++y::L++T->Q (.exit 6) ⟨⟨[.sl b 0 n 1 cap,a1,a2,a3,g,a5,a6,a7,a8,.iV A.length,a10,a11,a12,a13,a14,a15,a16,a17,a18,a19],lo,h.put b (some (.cells (ints L') 3)),[]⟩,wr⟩) ->
 W M (.loop wk) ⟨⟨[.sl b 0 n 1 cap,a1,a2,a3,g,a5,a6,a7,a8,.iV A.length,a10,a11,.iV (A.length+L.length:Nat),a13,a14,a15,a16,a17,a18,a19],lo,h.put b (some (.cells (ints (A++L++y::T)) 3)),[]⟩,wr⟩ Q
 | 0,L,T,lo,wr,hk,hl,hw,hQ=>by
  obtain rfl:=List.length_eq_zero_iff.1 hk;have h0:([]:List Int).length=0:=rfl;have hn':A.length<n:=by simp at hl;omega
  refine W.loop ?_;unfold wk;repeat' first|(apply aah;rfl;rfl)|refine gc ?_|(intro _;omega)|intro _
  . exact hQ _ _ _ _ hw (by simp)
 | k+1,L,T,lo,wr,hk,hl,hw,hQ=>by
  obtain⟨R,z,rfl⟩:∃R z,L=R++[z]:=by
   rcases List.eq_nil_or_concat L with rfl|⟨R,z,rfl⟩
   . simp at hk
   . exact⟨R,z,by simp⟩
  have hl':A.length+R.length+T.length+2=n:=by simp at hl;omega
  have hR:(R++[z]).length=R.length+1:=by simp
  have hAR:(A++R).length=A.length+R.length:=by simp
  have e1:((A.length+(R++[z]).length:Nat):Int).toNat=(A++R).length+1:=by omega
  have e2:(((A.length+(R++[z]).length:Nat):Int)-1).toNat=(A++R).length:=by omega
  have eL:A++(R++[z])++y::T=(A++R)++z::y::T:=by simp
  have b1:((A.length+(R++[z]).length:Nat):Int).toNat<(A++(R++[z])++y::T).length:=by omega
  have b2:(((A.length+(R++[z]).length:Nat):Int)-1).toNat<(A++(R++[z])++y::T).length:=by omega
  have g1:((A++R)++z::y::T)[(A++R).length]! = z:=get_at rfl;have g2:((A++R)++z::y::T)[(A++R).length+1]! = y:=by
   rw[show (A++R)++z::y::T=(A++R++[z])++y::T by simp];exact get_at (by simp <;> omega)
  refine W.loop ?_;unfold wk;refine gg13 ?_;refine cW ?_;rw[jt,jt,e1,e2,eL,g1,g2,KT rfl];rw[show ((A.length+(R++[z]).length:Nat):Int)-1=((A.length+R.length:Nat):Int) by omega,show A++R++y::z::T=A++R++y::(z::T) from rfl];refine KZ hn hb y A a1 a2 a3 a5 a6 a7 a8 a10 a11 a13 a14 a15 a16 a17 a18 a19 k R (z::T) _ _ (by omega) (by simp;omega) hw.cons.cons (fun a12 lo wr L k1 k2=>?_);exact hQ a12 lo wr L k1 (by rw[k2];simp)
def wA:an:=
 zR [zm 178 15,
    zm 179 2,
    zb 180 .lss 178 179,
    zn 181 180,
    zg (zm 182 2) 181 true,
    zg (zm 183 19) 181 true,
    zg (zb 184 .lss 182 183) 181 true,
    zp 185 181 184]
  (
   .cond (.l 185)
   (.region [zm 186 0,
     zm 187 15,
     zm 188 2,
     zm 189 19,
     zm 190 4,
     ⟨(.l 191),.call (kF 261) [(.l 186),(.l 187),(.l 188),(.l 189),(.l 190)],none⟩])
   (.skip))
def rN:an:=
 zR [zm 192 1,
    zm 193 15,
    zb 194 .lss 192 193,
    zn 195 194,
    zg (zm 196 15) 195 true,
    zg (zm 197 13) 195 true,
    zg (zb 198 .lss 196 197) 195 true,
    zp 199 195 198]
  (
   .cond (.l 199)
   (.region [zm 200 0,
     zm 201 1,
     zm 202 15,
     zm 203 13,
     zm 204 4,
     ⟨(.l 205),.call (kF 222) [(.l 200),(.l 201),(.l 202),(.l 203),(.l 204)],none⟩])
   (.skip))
def rO:an:=
 zR [zm 206 13,
    zm 207 19,
    zb 208 .lss 206 207,
    zn 209 208,
    zg (zm 210 19) 209 true,
    zg (zm 211 3) 209 true,
    zg (zb 212 .lss 210 211) 209 true,
    zp 213 209 212]
  (
   .cond (.l 213)
   (.region [zm 214 0,
     zm 215 13,
     zm 216 19,
     zm 217 3,
     zm 218 4,
     ⟨(.l 219),.call (kF 222) [(.l 214),(.l 215),(.l 216),(.l 217),(.l 218)],none⟩])
   (.skip))
theorem Mj (C:ie M)(hb:b<h.length)(hn:n<2305843009213693952)(A L R B:List Int){l0:List Int}{st m en:Int}(h0:l0=A++L++R++B)(hl:(A++L++R++B).length=n)(h1:st=(A.length:Int))(h2:m=((A.length+L.length:Nat):Int))(h3:en=((A.length+L.length+R.length:Nat):Int))
 {a1 a3 a5 a6 a7 a8 a9 a10 a11 a12 a13 a14 a16 a17 a18:AV} {lo:List (Nat×AV)} {wr:List Nat} (hw:bG b wr) {Q:Ex->al->Prop}
 (hQ:∀lo wr l',bG b wr->l'=A++R++L++B->Q .normal ⟨⟨[.sl b 0 n 1 cap,a1,.iV m,a3,g,a5,a6,a7,a8,a9,a10,a11,a12,a13,a14,.iV st,a16,a17,a18,.iV en],lo,h.put b (some (.cells (ints l') 3)),[]⟩,wr⟩) :
 W M wA ⟨⟨[.sl b 0 n 1 cap,a1,.iV m,a3,g,a5,a6,a7,a8,a9,a10,a11,a12,a13,a14,.iV st,a16,a17,a18,.iV en],lo,h.put b (some (.cells (ints l0) 3)),[]⟩,wr⟩ Q:=by
 by_cases e:L≠[]/\R≠[]
 . obtain⟨e1,e2⟩:=e;have p1:0<L.length:=List.length_pos_iff.2 e1;have p2:0<R.length:=List.length_pos_iff.2 e2;obtain⟨wr',hw',hc⟩:=Zq (g:=g) (cap:=cap) C hb hn e1 e2 hl;subst h0;subst h1;subst h2;subst h3;unfold wA;exact gg1
 . have el:A++L++R++B=A++R++L++B:=by
    by_cases e1:L=[]
    . subst e1;simp
    . by_cases e2:R=[]
      . subst e2;simp
      . exact absurd ⟨e1,e2⟩ e
   have p:¬(st<m/\m<en):=fun ⟨q1,q2⟩=>e ⟨List.length_pos_iff.1 (by omega),List.length_pos_iff.1 (by omega)⟩
   unfold wA;repeat' first|(apply aab;rfl;rfl)|refine gc ?_|(intro _;omega)|intro _
   all_goals first|exact hQ _ _ _ hw (h0.trans el)|(omega)
def mK (M:ao)(h:ab)(b n:Nat)(cap:Option Nat)(g:AV)(key:Int->Int)(A L R B:List Int):Prop:=
 ∃S wr,bG b wr/\(Sd key S/\S.Perm (L++R))/\CT M (fn 222) [.sl b 0 n 1 cap,.iV A.length,.iV (A.length+L.length:Nat),.iV (A.length+L.length+R.length:Nat),g] (h.put b (some (.cells (ints (A++L++R++B)) 3))) ⟨.aq [],h.put b (some (.cells (ints (A++S++B)) 3)),wr⟩
theorem Zu (A L R B:List Int)(hM:L≠[]->R≠[]->mK M h b n cap g key A L R B)(hL:Sd key L)(hR:Sd key R){l0:List Int}{a st mid:Int}(h0:l0=A++L++R++B)(h1:a=(A.length:Int))(h2:st=((A.length+L.length:Nat):Int))(h3:mid=((A.length+L.length+R.length:Nat):Int))
 {a2 a3 a5 a6 a7 a8 a9 a10 a11 a12 a14 a16 a17 a18 a19:AV} {lo:List (Nat×AV)} {wr:List Nat} (hw:bG b wr) {Q:Ex->al->Prop}
 (hQ:∀S lo wr l',bG b wr->Sd key S->S.Perm (L++R)->l'=A++S++B->Q .normal ⟨⟨[.sl b 0 n 1 cap,.iV a,a2,a3,g,a5,a6,a7,a8,a9,a10,a11,a12,.iV mid,a14,.iV st,a16,a17,a18,a19],lo,h.put b (some (.cells (ints l') 3)),[]⟩,wr⟩) :
 W M rN ⟨⟨[.sl b 0 n 1 cap,.iV a,a2,a3,g,a5,a6,a7,a8,a9,a10,a11,a12,.iV mid,a14,.iV st,a16,a17,a18,a19],lo,h.put b (some (.cells (ints l0) 3)),[]⟩,wr⟩ Q:=by
 by_cases e:L≠[]/\R≠[]
 . obtain⟨e1,e2⟩:=e;have p1:0<L.length:=List.length_pos_iff.2 e1;have p2:0<R.length:=List.length_pos_iff.2 e2;obtain⟨S,wr',hw',⟨g1,g2⟩,hc⟩:=hM e1 e2;subst h0;subst h1;subst h2;subst h3;unfold rN;exact gg1
 . have es:Sd key (L++R):=by
    by_cases e1:L=[]
    . subst e1;exact hR
    . by_cases e2:R=[]
      . subst e2;rw[List.append_nil];exact hL
      . exact absurd ⟨e1,e2⟩ e
   have p:¬(a<st/\st<mid):=fun ⟨q1,q2⟩=>e ⟨List.length_pos_iff.1 (by omega),List.length_pos_iff.1 (by omega)⟩
   unfold rN;repeat' first|(apply aab;rfl;rfl)|refine gc ?_|(intro _;omega)|intro _
   all_goals first|exact hQ _ _ _ _ hw es (.refl _) (by rw[h0];simp)|(omega)
theorem Zv (A L R B:List Int)(hM:L≠[]->R≠[]->mK M h b n cap g key A L R B)(hL:Sd key L)(hR:Sd key R){l0:List Int}{mid en e':Int}(h0:l0=A++L++R++B)(h1:mid=(A.length:Int))(h2:en=((A.length+L.length:Nat):Int))(h3:e'=((A.length+L.length+R.length:Nat):Int))
 {a1 a2 a5 a6 a7 a8 a9 a10 a11 a12 a14 a15 a16 a17 a18:AV} {lo:List (Nat×AV)} {wr:List Nat} (hw:bG b wr) {Q:Ex->al->Prop}
 (hQ:∀S lo wr l',bG b wr->Sd key S->S.Perm (L++R)->l'=A++S++B->Q .normal ⟨⟨[.sl b 0 n 1 cap,a1,a2,.iV e',g,a5,a6,a7,a8,a9,a10,a11,a12,.iV mid,a14,a15,a16,a17,a18,.iV en],lo,h.put b (some (.cells (ints l') 3)),[]⟩,wr⟩) :
 W M rO ⟨⟨[.sl b 0 n 1 cap,a1,a2,.iV e',g,a5,a6,a7,a8,a9,a10,a11,a12,.iV mid,a14,a15,a16,a17,a18,.iV en],lo,h.put b (some (.cells (ints l0) 3)),[]⟩,wr⟩ Q:=by
 by_cases e:L≠[]/\R≠[]
 . obtain⟨e1,e2⟩:=e;have p1:0<L.length:=List.length_pos_iff.2 e1;have p2:0<R.length:=List.length_pos_iff.2 e2;obtain⟨S,wr',hw',⟨g1,g2⟩,hc⟩:=hM e1 e2;subst h0;subst h1;subst h2;subst h3;unfold rO;exact gg1
 . have es:Sd key (L++R):=by
    by_cases e1:L=[]
    . subst e1;exact hR
    . by_cases e2:R=[]
      . subst e2;rw[List.append_nil];exact hL
      . exact absurd ⟨e1,e2⟩ e
   have p:¬(mid<en/\en<e'):=fun ⟨q1,q2⟩=>e ⟨List.length_pos_iff.1 (by omega),List.length_pos_iff.1 (by omega)⟩
   unfold rO;repeat' first|(apply aab;rfl;rfl)|refine gc ?_|(intro _;omega)|intro _
   all_goals first|exact hQ _ _ _ _ hw es (.refl _) (by rw[h0];simp)|(omega)
theorem kV {R:List Int}{k:Nat}{y:Int}(h:R[k]? = some y):R[k]! = y:=by
 rw[List.getElem!_eq_getElem?_getD,h];rfl
theorem Zw (C:ie M)(hb:b<h.length)(hn:n<2305843009213693952)(hc:ij M h b g ok cf)(hcf:∀x y,ok x->ok y->(cf x y<0↔key y<key x))(A:List Int)(x:Int)(R B:List Int)(hR0:R≠[])(hl:(A++[x]++R++B).length=n)(hR:Sd key R)(hlt:∀y∈R,x<y)(hx:ok x)(ho:∀y∈R,ok y) :
 mK M h b n cap g key A [x] R B:=by
 have hl':A.length+1+R.length+B.length=n:=by simp at hl;omega
 have h0:([x]:List Int).length=1:=rfl;have hRl:0<R.length:=List.length_pos_iff.2 hR0;have gR:∀i,i<R.length->(A++[x]++R++B)[A.length+[x].length+i]! = R[i]! := fun i hi=>atR hi
 have ga:(A++[x]++R++B)[A.length]! = x:=Dc (i:=0) (by simp);have D:∀i,i<R.length->(cf R[i]! x<0↔Lt key R[i]! x):=fun i hi=>(hcf _ _ (ho _ (fl hi)) hx).trans (Lt.iff (hlt _ (fl hi))).symm
 have split:∀k,A.length+[x].length<=k->k<A.length+[x].length+R.length->∃i,i<R.length/\k=A.length+[x].length+i:=fun k h1 h2=>⟨k-(A.length+[x].length),by omega,by omega⟩
 obtain⟨l',wr,hw,⟨S,rfl,g2,g3⟩,hr⟩:=kC (M:=M) (l:=A++[x]++R++B) (e:=3) (f:=fun x=>[.iV x]) (P:=fun l'=>∃S,l'=A++S++B/\Sd key S/\S.Perm ([x]++R))
  (ars:=[.sl b 0 n 1 cap,.iV A.length,.iV (A.length+[x].length:Nat),.iV (A.length+[x].length+R.length:Nat),g]) (by rw[C.ft];exact CW) (by simp) hb (fun _=>rfl) (by
   unfold wq;simp only[enter];refine gg19 ?_;refine Zs hn hb hc (A++[x]++R++B) hl A.length (A.length+[x].length) (A.length+[x].length+R.length) (by omega) (by omega) (fun k h1 h2=>?_) (by rw[ga];exact hx) _ _ _ _ _ _ _ _ _ _ _ _ _ _ _ (fun k k' h1 h2 h3 h4=>?_) R.length (A.length+[x].length) (A.length+[x].length+R.length) _ _ (by omega) (Nat.le_refl _) (by omega) (Nat.le_refl _) (fun k h1 h2=>by omega) (fun k h1 h2=>by omega) (fun i a7 lo h1 h2 h3 h4=>?_)
   . obtain⟨i,hi,rfl⟩:=split k h1 h2;rw[gR i hi];exact ho _ (fl hi)
   . obtain⟨i,hi,rfl⟩:=split k h1 (by omega);obtain⟨j,hj,rfl⟩:=split k' (by omega) h3;rw[gR j hj,ga]at h4;rw[gR i hi,ga];exact(D i hi).2 ((wz hR (by omega) hj).trans ((D j hj).1 h4))
   . obtain⟨i,hi,rfl⟩:∃j,j<=R.length/\i=A.length+[x].length+j:=⟨i-(A.length+[x].length),by omega,by omega⟩;have hs:Sd key (R.take i++x::R.drop i):=by
      refine KD hR (fun k y hk hy=>?_) (fun k y hk hy=>?_)
      . have hkl:=(List.getElem?_eq_some_iff.1 hy).1;have:=h3 (A.length+[x].length+k) (by omega) (by omega);rw[gR k hkl,ga]at this;rw[←kV hy];exact(D k hkl).1 this
      . have hkl:=(List.getElem?_eq_some_iff.1 hy).1;have:=h4 (A.length+[x].length+k) (by omega) (by omega);rw[gR k hkl,ga,D k hkl]at this;rw[←kV hy];exact Lt.wx (hlt _ (fl hkl)) this
     have hti:(R.take i).length=i:=by rw[List.length_take];omega
     repeat' first|refine gc ?_|fail
     rw[show A++[x]++R++B=A++x::(R.take i++(R.drop i++B)) by rw[←List.append_assoc (R.take i),List.take_append_drop];simp];refine KY hn hb x (R.drop i++B) (A.length+[x].length+i) _ _ _ _ _ _ _ _ _ _ _ _ _ _ _ _ (R.take i) A _ _ (by omega) (by simp;omega) bG.nil (fun a8 lo wr L k1 k2=>?_);repeat' first|refine gc ?_|fail
     exact⟨.inr rfl,rfl,L,rfl,k1,R.take i++x::R.drop i,by rw[k2];simp,hs,by
      have:=List.perm_middle (a:=x) (l₁:=R.take i) (l₂:=R.drop i);rwa [List.take_append_drop]at this⟩)
 exact⟨S,wr,hw,⟨g2,g3⟩,jd C.wy hr⟩
theorem Zx (C:ie M)(hb:b<h.length)(hn:n<2305843009213693952)(hc:ij M h b g ok cf)(hcf:∀x y,ok x->ok y->(cf x y<0↔key y<key x))(A L:List Int)(y:Int)(B:List Int)(hL0:1<L.length)(hl:(A++L++[y]++B).length=n)(hL:Sd key L)(hlt:∀x∈L,x<y)(hy:ok y)(ho:∀x∈L,ok x) :
 mK M h b n cap g key A L [y] B:=by
 have hl':A.length+L.length+1+B.length=n:=by simp at hl;omega
 have h0:([y]:List Int).length=1:=rfl;have gL:∀i,i<L.length->(A++L++[y]++B)[A.length+i]! = L[i]! := fun i hi=>Dc hi
 have gm:(A++L++[y]++B)[A.length+L.length]! = y:=atR (i:=0) (by simp);have D:∀i,i<L.length->(cf y L[i]! < 0↔Lt key y L[i]!):=fun i hi=>(hcf _ _ hy (ho _ (fl hi))).trans (Lt.iff (hlt _ (fl hi))).symm
 have split:∀k,A.length<=k->k<A.length+L.length->∃i,i<L.length/\k=A.length+i:=fun k h1 h2=>⟨k-A.length,by omega,by omega⟩
 obtain⟨l',wr,hw,⟨S,rfl,g2,g3⟩,hr⟩:=kC (M:=M) (l:=A++L++[y]++B) (e:=3) (f:=fun x=>[.iV x]) (P:=fun l'=>∃S,l'=A++S++B/\Sd key S/\S.Perm (L++[y]))
  (ars:=[.sl b 0 n 1 cap,.iV A.length,.iV (A.length+L.length:Nat),.iV (A.length+L.length+[y].length:Nat),g]) (by rw[C.ft];exact CW) (by simp) hb (fun _=>rfl) (by
   unfold wq;simp only[enter];refine gg19 ?_;refine Zt hn hb hc (A++L++[y]++B) hl (A.length+L.length) A.length (A.length+L.length) (by omega) (by omega) (fun k h1 h2=>?_) (by rw[gm];exact hy) _ _ _ _ _ _ _ _ _ _ _ _ _ _ _ (fun k k' h1 h2 h3 h4=>?_) L.length A.length (A.length+L.length) _ _ (by omega) (Nat.le_refl _) (by omega) (Nat.le_refl _) (fun k h1 h2=>by omega) (fun k h1 h2=>by omega) (fun i a11 lo h1 h2 h3 h4=>?_)
   . obtain⟨i,hi,rfl⟩:=split k h1 h2;rw[gL i hi];exact ho _ (fl hi)
   . obtain⟨i,hi,rfl⟩:=split k h1 (by omega);obtain⟨j,hj,rfl⟩:=split k' (by omega) h3;rw[gL j hj,gm]at h4;rw[gL i hi,gm];exact fun h=>h4 ((D j hj).2 (((D i hi).1 h).trans (wz hL (by omega) hj)))
   . obtain⟨i,hi,rfl⟩:∃j,j<=L.length/\i=A.length+j:=⟨i-A.length,by omega,by omega⟩;have hs:Sd key (L.take i++y::L.drop i):=by
      refine KD hL (fun k z hk hz=>?_) (fun k z hk hz=>?_)
      . have hkl:=(List.getElem?_eq_some_iff.1 hz).1;have:=h3 (A.length+k) (by omega) (by omega);rw[gL k hkl,gm,D k hkl]at this;rw[←kV hz];exact Lt.wx (hlt _ (fl hkl)) this
      . have hkl:=(List.getElem?_eq_some_iff.1 hz).1;have:=h4 (A.length+k) (by omega) (by omega);rw[gL k hkl,gm]at this;rw[←kV hz];exact(D k hkl).1 this
     have hti:(L.take i).length=i:=by rw[List.length_take];omega
     have htd:(L.drop i).length=L.length-i:=List.length_drop;repeat' first|refine gc ?_|fail
     rw[show A++L++[y]++B=(A++L.take i)++L.drop i++y::B by rw[List.append_assoc A (L.take i),List.take_append_drop];simp];rw[show ((A.length+i:Nat):Int)=((A++L.take i).length:Int) by rw[List.length_append,hti],show ((A.length+L.length:Nat):Int)=(((A++L.take i).length+(L.drop i).length:Nat):Int) by rw[List.length_append,hti,htd];omega];refine KZ hn hb y (A++L.take i) _ _ _ _ _ _ _ _ _ _ _ _ _ _ _ _ (L.drop i).length (L.drop i) B _ _ rfl (by simp;omega) bG.nil (fun a12 lo wr L' k1 k2=>?_);repeat' first|refine gc ?_|fail
     exact⟨.inr rfl,rfl,L',rfl,k1,L.take i++y::L.drop i,by rw[k2];simp,hs,by
      have:=List.perm_middle (a:=y) (l₁:=L.take i) (l₂:=L.drop i);rw[List.take_append_drop]at this;exact this.trans (List.perm_append_comm (l₁:=[y]) (l₂:=L))⟩)
 exact⟨S,wr,hw,⟨g2,g3⟩,jd C.wy hr⟩
def La:an:=
 zR [zm 175 14,
    zm 176 15,
    zb 177 .sub 175 176,
    zw 19 177]
  (.seq wA (.seq rN rO))
theorem wC (C:ie M)(hb:b<h.length)(hn:n<2305843009213693952)(hc:ij M h b g ok cf)(hcf:∀x y,ok x->ok y->(cf x y<0↔key y<key x)):∀(k:Nat) (A L R B:List Int),L.length+R.length<=k->L≠[]->R≠[]->(A++L++R++B).length=n->Sd key L->Sd key R->(∀x∈L,∀y∈R,x<y)->(∀x∈L,ok x)->(∀y∈R,ok y)->mK M h b n cap g key A L R B
 | 0,A,L,R,B,hk,hL0,hR0,hl,hL,hR,hlt,ho,ho'=>absurd (List.length_eq_zero_iff.1 (by omega)) hL0
 | k+1,A,L,R,B,hk,hL0,hR0,hl,hL,hR,hlt,ho,ho'=>by
  have hLl:0<L.length:=List.length_pos_iff.2 hL0;have hRl:0<R.length:=List.length_pos_iff.2 hR0;have hl':A.length+L.length+R.length+B.length=n:=by simp at hl;omega
  by_cases c1:L.length=1
  . obtain⟨x,rfl⟩:=List.length_eq_one_iff.1 c1;exact Zw C hb hn hc hcf A x R B hR0 hl hR (hlt x (by simp)) (ho x (by simp)) ho'
  by_cases c2:R.length=1
  . obtain⟨y,rfl⟩:=List.length_eq_one_iff.1 c2;exact Zx C hb hn hc hcf A L y B (by omega) hl hL (fun x hx=>hlt x hx y (by simp)) (ho' y (by simp)) ho
  have gL:∀i,i<L.length->(A++L++R++B)[A.length+i]! = L[i]! := fun i hi=>Dc hi
  have gR:∀i,i<R.length->(A++L++R++B)[A.length+L.length+i]! = R[i]! := fun i hi=>atR hi
  obtain⟨a,ea⟩:∃a,a=A.length:=⟨_,rfl⟩;obtain⟨m,em⟩:∃m,m=A.length+L.length:=⟨_,rfl⟩;obtain⟨e,ee⟩:∃e,e=A.length+L.length+R.length:=⟨_,rfl⟩;obtain⟨mid,emid⟩:∃mid,mid=(a+e)/2:=⟨_,rfl⟩;have D:∀c,a<=c->c<m->m<=mid+m-1-c->mid+m-1-c<e->ok (A++L++R++B)[c]! /\ ok (A++L++R++B)[mid+m-1-c]! /\ (cf (A++L++R++B)[mid+m-1-c]! (A++L++R++B)[c]! < 0↔Lt key (A++L++R++B)[mid+m-1-c]! (A++L++R++B)[c]!)/\(A++L++R++B)[c]! < (A++L++R++B)[mid+m-1-c]! := by
   intro c h1 h2 h3 h4;obtain⟨i,hi,rfl⟩:∃i,i<L.length/\c=A.length+i:=⟨c-A.length,by omega,by omega⟩;obtain⟨j,hj,ej⟩:∃j,j<R.length/\mid+m-1-(A.length+i)=A.length+L.length+j:=⟨mid+m-1-(A.length+i)-(A.length+L.length),by omega,by omega⟩;rw[ej,gL i hi,gR j hj];have hxy:=hlt _ (fl hi) _ (fl hj);exact⟨ho _ (fl hi),ho' _ (fl hj),(hcf _ _ (ho' _ (fl hj)) (ho _ (fl hi))).trans (Lt.iff hxy).symm,hxy⟩
  have sL:∀c c',a<=c->c<c'->c'<m->Lt key (A++L++R++B)[c]! (A++L++R++B)[c']! := by
   intro c c' h1 h2 h3;obtain⟨i,hi,rfl⟩:∃i,i<L.length/\c=A.length+i:=⟨c-A.length,by omega,by omega⟩;obtain⟨j,hj,rfl⟩:∃j,j<L.length/\c'=A.length+j:=⟨c'-A.length,by omega,by omega⟩;rw[gL i hi,gL j hj];exact wz hL (by omega) hj
  have sR:∀c c',m<=c->c<c'->c'<e->Lt key (A++L++R++B)[c]! (A++L++R++B)[c']! := by
   intro c c' h1 h2 h3;obtain⟨i,hi,rfl⟩:∃i,i<R.length/\c=A.length+L.length+i:=⟨c-(A.length+L.length),by omega,by omega⟩;obtain⟨j,hj,rfl⟩:∃j,j<R.length/\c'=A.length+L.length+j:=⟨c'-(A.length+L.length),by omega,by omega⟩;rw[gR i hi,gR j hj];exact wz hR (by omega) hj
  have key1:∀(s0 r0 st:Nat),(m<=mid/\s0=a/\r0=m\/mid<m/\s0=mid+m-e/\r0=mid)->s0<=st->st<=r0->(∀c,s0<=c->c<st->¬cf (A++L++R++B)[mid+m-1-c]! (A++L++R++B)[c]! < 0)->(∀c,st<=c->c<r0->cf (A++L++R++B)[mid+m-1-c]! (A++L++R++B)[c]! < 0) ->
   a<=st/\st<=m/\m<=mid+m-st/\mid+m-st<=e/\∀x∈L.take (st-a)++R.take (mid-st),∀y∈L.drop (st-a)++R.drop (mid-st),Lt key x y:=by
   intro s0 r0 st hs h1 h2 h3 h4;have hb':a<=st/\st<=m/\m<=mid+m-st/\mid+m-st<=e:=by omega
   refine⟨hb'.1,hb'.2.1,hb'.2.2.1,hb'.2.2.2,Zh (by rw[List.take_append_drop];exact hL) (by rw[List.take_append_drop];exact hR) (fun x y hx hy=>?_) (fun x y hx hy=>?_)⟩
   . have hlen:0<(L.take (st-a)).length:=by
      cases hz:L.take (st-a) with
      | nil=>rw[hz]at hx;cases hx
      | cons _ _=>simp
     rw[List.length_take]at hlen;rw[List.getLast?_eq_getElem?,List.length_take,List.getElem?_take,if_pos (by omega)]at hx;rw[List.head?_eq_getElem?,List.getElem?_drop]at hy;have hyl:=(List.getElem?_eq_some_iff.1 hy).1;have q:=h3 (st-1) (by omega) (by omega);obtain⟨_,_,q2,q3⟩:=D (st-1) (by omega) (by omega) (by omega) (by omega);rw[q2]at q;have q4:=Lt.wx q3 q;rw[show st-1=A.length+(min (st-a) L.length-1) by omega,gL _ (by omega),show mid+m-1-(A.length+(min (st-a) L.length-1))=A.length+L.length+(mid-st+0) by omega,gR _ (by omega),kV hx,kV hy]at q4;exact q4
   . have hlen:0<(R.take (mid-st)).length:=by
      cases hz:R.take (mid-st) with
      | nil=>rw[hz]at hy;cases hy
      | cons _ _=>simp
     rw[List.length_take]at hlen;rw[List.getLast?_eq_getElem?,List.length_take,List.getElem?_take,if_pos (by omega)]at hy;rw[List.head?_eq_getElem?,List.getElem?_drop]at hx;have hxl:=(List.getElem?_eq_some_iff.1 hx).1;have q:=h4 st (by omega) (by omega);obtain⟨_,_,q2,q3⟩:=D st (by omega) (by omega) (by omega) (by omega);rw[q2]at q;rw[show st=A.length+(st-a+0) by omega,gL _ (by omega),show mid+m-1-(A.length+(st-a+0))=A.length+L.length+(min (mid-st) R.length-1) by omega,gR _ (by omega),kV hx,kV hy]at q;exact q
  have mono:∀(s0 r0:Nat),(m<=mid/\s0=a/\r0=m\/mid<m/\s0=mid+m-e/\r0=mid)->∀c c',s0<=c->c<c'->c'<r0->¬cf (A++L++R++B)[mid+m-1-c']! (A++L++R++B)[c']! < 0->¬cf (A++L++R++B)[mid+m-1-c]! (A++L++R++B)[c]! < 0:=by
   intro s0 r0 hs c c' h1 h2 h3 h4 h5;obtain⟨_,_,q2,_⟩:=D c (by omega) (by omega) (by omega) (by omega);obtain⟨_,_,q2',_⟩:=D c' (by omega) (by omega) (by omega) (by omega);rw[q2']at h4;rw[q2]at h5;exact h4 (((sR _ _ (by omega) (by omega) (by omega)).trans h5).trans (sL c c' (by omega) h2 (by omega)))
  have E1:((A.length:Int)+((A.length+L.length+R.length:Nat):Int))/2=(mid:Int):=by omega
  have E2:(mid:Int)+((A.length+L.length:Nat):Int)=((mid+m:Nat):Int):=by omega
  have E3:((mid+m:Nat):Int)-1=((mid+m-1:Nat):Int):=by omega
  obtain⟨l',wr,hw,⟨S,rfl,g2,g3⟩,hr⟩:=kC (M:=M) (l:=A++L++R++B) (e:=3) (f:=fun x=>[.iV x]) (P:=fun l'=>∃S,l'=A++S++B/\Sd key S/\S.Perm (L++R))
   (ars:=[.sl b 0 n 1 cap,.iV A.length,.iV (A.length+L.length:Nat),.iV (A.length+L.length+R.length:Nat),g]) (by rw[C.ft];exact CW) (by simp) hb (fun _=>rfl) (by
    have finish:∀(s0 r0 st:Nat),(m<=mid/\s0=a/\r0=m\/mid<m/\s0=mid+m-e/\r0=mid)->s0<=st->st<=r0->(∀c,s0<=c->c<st->¬cf (A++L++R++B)[mid+m-1-c]! (A++L++R++B)[c]! < 0)->(∀c,st<=c->c<r0->cf (A++L++R++B)[mid+m-1-c]! (A++L++R++B)[c]! < 0) ->
     ∀(a5 a6 a7 a8 a9 a10 a11 a12 a16 a17 a18 a19:AV) (lo:List (Nat×AV)),W M La ⟨⟨[.sl b 0 n 1 cap,.iV A.length,.iV (A.length+L.length:Nat),.iV (A.length+L.length+R.length:Nat),g,a5,a6,a7,a8,a9,a10,a11,a12,.iV mid,.iV (mid+m:Nat),.iV st,a16,a17,a18,a19],lo,h.put b (some (.cells (ints (A++L++R++B)) 3)),[]⟩,[]⟩
      fun x s=>(x = .normal\/x = .ret)/\s.s.bA=[]/\∃l',s.s.hp=h.put b (some (.cells (arr (fun x=>[.iV x]) l') 3))/\bG b s.wr/\∃S,l'=A++S++B/\Sd key S/\S.Perm (L++R):=by
     intro s0 r0 st hs h1 h2 h3 h4 a5 a6 a7 a8 a9 a10 a11 a12 a16 a17 a18 a19 lo;obtain⟨k1,k2,k3,k4,k5⟩:=key1 s0 r0 st hs h1 h2 h3 h4;obtain⟨L1,hL1⟩:∃x,x=L.take (st-a):=⟨_,rfl⟩;obtain⟨L2,hL2⟩:∃x,x=L.drop (st-a):=⟨_,rfl⟩;obtain⟨R1,hR1⟩:∃x,x=R.take (mid-st):=⟨_,rfl⟩;obtain⟨R2,hR2⟩:∃x,x=R.drop (mid-st):=⟨_,rfl⟩;have eL:L=L1++L2:=by rw[hL1,hL2,List.take_append_drop]
     have eR:R=R1++R2:=by rw[hR1,hR2,List.take_append_drop]
     have nL1:L1.length=st-a:=by rw[hL1,List.length_take];omega
     have nL2:L2.length=m-st:=by rw[hL2,List.length_drop];omega
     have nR1:R1.length=mid-st:=by rw[hR1,List.length_take];omega
     have nR2:R2.length=e-(mid+m-st):=by rw[hR2,List.length_drop];omega
     rw[←hL1,←hL2,←hR1,←hR2]at k5;have sL1:Sd key L1:=by rw[hL1];exact hL.split.1
     have sL2:Sd key L2:=by rw[hL2];exact hL.split.2
     have sR1:Sd key R1:=by rw[hR1];exact hR.split.1
     have sR2:Sd key R2:=by rw[hR2];exact hR.split.2
     have hM1:L1≠[]->R1≠[]->mK M h b n cap g key A L1 R1 (L2++R2++B):=fun e1 e2=>wC C hb hn hc hcf k A L1 R1 (L2++R2++B) (by omega) e1 e2 (by simp;omega) sL1 sR1 (fun x hx y hy=>hlt x (by rw[eL];simp[hx]) y (by rw[eR];simp[hy])) (fun x hx=>ho x (by rw[eL];simp[hx])) (fun y hy=>ho' y (by rw[eR];simp[hy]))
     have fin2:∀lo wr l',bG b wr->l'=(A++L1)++R1++L2++(R2++B)->W M (.seq rN rO) ⟨⟨[.sl b 0 n 1 cap,.iV A.length,.iV (A.length+L.length:Nat),.iV (A.length+L.length+R.length:Nat),g,a5,a6,a7,a8,a9,a10,a11,a12,.iV mid,.iV (mid+m:Nat),.iV st,a16,a17,a18,.iV (((mid+m:Nat):Int)-(st:Int))],lo,h.put b (some (.cells (ints l') 3)),[]⟩,wr⟩
      fun x s=>(x = .normal\/x = .ret)/\s.s.bA=[]/\∃l',s.s.hp=h.put b (some (.cells (arr (fun x=>[.iV x]) l') 3))/\bG b s.wr/\∃S,l'=A++S++B/\Sd key S/\S.Perm (L++R):=by
      intro lo wr l' w1 w2;apply aaK;refine Zu A L1 R1 (L2++R2++B) hM1 sL1 sR1 (by rw[w2];simp) (by omega) (by omega) (by omega) w1 (fun S1 lo wr l' v1 v2 v3 v4=>?_);apply iI;have nS1:S1.length=mid-a:=by rw[v3.length_eq,List.length_append];omega
      have hM2:L2≠[]->R2≠[]->mK M h b n cap g key (A++S1) L2 R2 B:=fun e1 e2=>wC C hb hn hc hcf k (A++S1) L2 R2 B (by omega) e1 e2 (by simp;omega) sL2 sR2 (fun x hx y hy=>hlt x (by rw[eL];simp[hx]) y (by rw[eR];simp[hy])) (fun x hx=>ho x (by rw[eL];simp[hx])) (fun y hy=>ho' y (by rw[eR];simp[hy]))
      refine Zv (A++S1) L2 R2 B hM2 sL2 sR2 (by rw[v4];simp) (by simp;omega) (by simp;omega) (by simp;omega) v1 (fun S2 lo wr l' u1 u2 u3 u4=>?_);refine⟨.inl rfl,rfl,l',rfl,u1,S1++S2,by rw[u4];simp,v2.app u2 (fun x hx y hy=>k5 x (v3.mem_iff.1 hx) y (u3.mem_iff.1 hy)),?_⟩;have p1:(S1++S2).Perm ((L1++R1)++(L2++R2)):=v3.append u3;have p2:((L1++R1)++(L2++R2)).Perm ((L1++L2)++(R1++R2)):=by
       have:(R1++L2).Perm (L2++R1):=List.perm_append_comm;have:=(this.append_right R2).append_left L1;simpa using this
      rw[eL,eR];exact p1.trans p2
     unfold La;exact gg0
    unfold wq;simp only[enter];by_cases cm:m<=mid
    . have hs:m<=mid/\A.length=a/\A.length+L.length=m\/mid<m/\A.length=mid+m-e/\A.length+L.length=mid:=.inl ⟨cm,ea.symm,em.symm⟩;refine gg10 ?_;rw[E1,E2,E3];refine KX hn hb hc (A++L++R++B) hl (mid+m-1) A.length (A.length+L.length) (by omega) (by omega) (by omega) (fun c q1 q2=>⟨(D c (by omega) (by omega) (by omega) (by omega)).1,(D c (by omega) (by omega) (by omega) (by omega)).2.1⟩) _ _ _ _ _ _ _ _ _ _ _ _ _ _ _ (mono _ _ hs) L.length A.length (A.length+L.length) _ _ (by omega) (Nat.le_refl _) (by omega) (Nat.le_refl _) (fun k h1 h2=>by omega) (fun k h1 h2=>by omega) (fun st a18 lo k1 k2 k3 k4=>?_);exact gg6
    . have hs:m<=mid/\mid+m-e=a/\mid=m\/mid<m/\mid+m-e=mid+m-e/\mid=mid:=.inr ⟨by omega,rfl,rfl⟩;have E4:((mid+m:Nat):Int)-((A.length+L.length+R.length:Nat):Int)=((mid+m-e:Nat):Int):=by omega
      refine gg10 ?_;rw[E1,E2,E3,E4];refine KX hn hb hc (A++L++R++B) hl (mid+m-1) (mid+m-e) mid (by omega) (by omega) (by omega) (fun c q1 q2=>⟨(D c (by omega) (by omega) (by omega) (by omega)).1,(D c (by omega) (by omega) (by omega) (by omega)).2.1⟩) _ _ _ _ _ _ _ _ _ _ _ _ _ _ _ (mono _ _ hs) L.length (mid+m-e) mid _ _ (by omega) (Nat.le_refl _) (by omega) (Nat.le_refl _) (fun k h1 h2=>by omega) (fun k h1 h2=>by omega) (fun st a18 lo k1 k2 k3 k4=>?_);exact gg6
    )
  exact⟨S,wr,hw,⟨g2,g3⟩,jd C.wy hr⟩
end Go.Ab.Ch1
