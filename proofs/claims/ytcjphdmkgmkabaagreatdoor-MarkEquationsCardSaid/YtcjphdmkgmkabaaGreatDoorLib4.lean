import Derived.Test.YtcjphdmkgmkabaaGreatDoorLib3
open Int renaming mul_le_mul_of_nonneg_left→b5,le_of_lt→b6,mul_lt_mul_of_pos_right→b7,pow_pos→b8,gcd→ci,pow_add→c7,mul_le_mul_of_nonneg_right→c8,emod_lt_of_pos→dN,lt_of_mul_lt_mul_left→d6,mul_assoc→d8,emod_nonneg→fm,gcd_pos_of_ne_zero_right→fG,ediv_eq_of_eq_mul_right→fT,tmod_eq_emod_of_nonneg→f6,mul_ediv_cancel_left→f7,lt_or_le→f8,lt_of_lt_of_le→gF,mul_zero→gT,add_zero→g9,mul_comm→hZ,gcd_comm→ii,gcd_dvd_right→ip,ediv_le_self→it,add_mul→iz,mul_add→i3
open List renaming take_of_length_le→ce,mem_singleton→c9,length_take→dO,eq_nil_of_length_eq_zero→d9
open Nat renaming le_refl→b9,le_trans→dY,min_eq_left→f9,mod_eq_of_lt→iy,mul_assoc→i6
open Option renaming map→i7
open Rat renaming divInt→c3,num_divInt_den→d7,num_divInt→i4,den_divInt→i5
set_option maxHeartbeats 8000000
set_option maxRecDepth 20000
namespace Go.Ab.Ch1
open Go.Ab.aU
variable {M:aw} {cap c1 c2 cv:Option Nat}
theorem amQ {t n b r:Nat}{k:IntKind}{x y:ay}{l:List aX}{pe:List AV}{lo:List (Nat×AV)}{hp:aa}{df wr:List Nat}{Q:aq->Prop}(hx:(St.mk pe lo hp df).ae x=some (.sl b 0 n 1 cap))(hy:(St.mk pe lo hp df).ae y=some (.int k r))(h0:0<r)(hr:r<=n)(hc:∀c,cap=some c->n<=c)
 (h:WO M l ⟨⟨pe,(t,.sl b 0 r 1 cap)::lo,hp,df⟩,wr⟩ Q):WO M (⟨.l t,.slice .sl 1 x none (some y) none,none⟩::l) ⟨⟨pe,lo,hp,df⟩,wr⟩ Q:=
 amj hx hy hr hc (by rw[show bE b r cap = .sl b 0 r 1 cap from if_pos h0];exact h)
theorem rC {L:List Int}{n:Nat}:L.take (aQ (L.take n))=(L.take n).take (aQ (L.take n)):=by
 have:=iW (l:=L.take n);grind
theorem Za {b rb:List Int}{k s:Nat}(hb:b.length=k+2)(ob:okW wB b)(nb:aN b)(hs:s=64-cj b[k+1]!)(lr:rb.length=k+3)(oR:okW wB rb)(vr:WV wB rb=WV wB b*2^s) :
 s<=63/\aQ (rb.take (k+3))=k+2/\∃V Y,rb=V++Y/\V.length=k+2/\okW wB V/\WV wB V=WV wB b*2^s/\9223372036854775808<=V[k+1]! := by
 have t0:=mD nb ac;rw[hb,show k+2-1=k+1 by omega]at t0;have gt:=cg ob (i:=k+1) ac;have gt:0<=b[k+1]! /\ b[k+1]! < 18446744073709551616:=gt;obtain⟨s1,s2,s3⟩:=pM (x:=b[k+1]!) ac;have s4:=pO (x:=b[k+1]!) (n:=64) ac gt.1;have hs63:s<=63:=by omega
 have e0:=jQ (b:=wB) (l:=b) (n:=k+1) ac;obtain⟨t,ht⟩:∃t,t=b[k+1]! := ⟨_,rfl⟩;rw[←ht]at t0 gt s1 s2 s3 s4 e0 hs;obtain⟨n,hn⟩:∃n,cj t=n+1:=⟨cj t-1,ac⟩;rw[hn]at s2 s3 hs;rw[show n+1-1=n by omega]at s2;have p1:(2:Int)^n*2^s=9223372036854775808:=by rw[←c7,show n+s=63 by omega];decide
 have p2:(2:Int)^(n+1)*2^s=18446744073709551616:=by rw[←c7,show n+1+s=64 by omega];decide
 have hp2:=b8 (n:=2) (m:=s) am;have m1:=c8 s2 (b6 hp2);have m2:=c8 (show t+1<=2^(n+1) by omega) (b6 hp2);rw[p1]at m1;rw[p2,iz,Int.one_mul]at m2;have hP:0<wB^(k+1):=b8 am;have l0:=cB (b:=wB) am (dF ob (k+1));have l1:=dg (b:=wB) am (dF ob (k+1));rw[dO,f9 ac]at l1;have m3:wB^(k+1)*9223372036854775808<=WV wB rb:=by
  have h1:=b5 m1 (b6 hP);have h2:=Int.mul_nonneg l0 (b6 hp2);rw[vr,e0,iz,d8];omega
 have m4:WV wB rb<wB^(k+1)*18446744073709551616:=by
  have h1:=b5 m2 (b6 hP);have h2:=b7 l1 hp2;rw[i3]at h1;rw[vr,e0,iz,d8];omega
 have e1:=jQ (b:=wB) (l:=rb) (n:=k+2) ac;have e2:WV wB (rb.take (k+2))=WV wB (rb.take (k+1))+wB^(k+1)*rb[k+1]! := fE ac;have g2:=cg oR (i:=k+2) ac;have g1:=cg oR (i:=k+1) ac;have n2:=cB (b:=wB) am (dF oR (k+2));have n1:=dg (b:=wB) am (dF oR (k+1));rw[dO,f9 ac]at n1;have hPs:wB^(k+2)=wB^(k+1)*18446744073709551616:=(by rfl);have z2:rb[k+2]! = 0:=by
  rcases f8 0 rb[k+2]! with h|h
  . have:=b5 (show 1<=rb[k+2]! by omega) (show 0<=wB^(k+2) by rw[hPs];omega);rw[hPs]at this e1;omega
  . omega
 rw[z2,gT,g9]at e1;have z1:9223372036854775808<=rb[k+1]! := by
  have:wB^(k+1)*9223372036854775808<wB^(k+1)*(rb[k+1]! + 1):=by rw[i3,Int.mul_one];omega
  have:=d6 this ac;omega
 refine⟨hs63,?_,rb.take (k+2),rb.drop (k+2),(List.take_append_drop _ _).symm,bS,dF oR _,ac,?_⟩
 . rw[pI ac,if_pos z2,pI ac,if_neg ac]
 grind
theorem Zb {a b U:List Int}{k s:Nat}(ha:k+2<=a.length)(oa:okW wB a)(hb:b.length=k+2)(ob:okW wB b)(nb:aN b)(hU:U.length=a.length+1)(oU:okW wB U)(vU:WV wB U=WV wB a*2^s) :
 WV wB (U.drop (a.length+1-(k+2)))<WV wB b*2^s:=by
 have hp2:=b8 (n:=2) (m:=s) am;have e1:=mC (b:=wB) (l:=U) (i:=a.length+1-(k+2)) ac;have l0:=cB (b:=wB) am (dF oU (a.length+1-(k+2)));have l1:=dg (b:=wB) am oa;have hg:=ru (b:=wB) am ob nb ac;rw[hb,show k+2-1=k+1 by omega]at hg;have hP:0<wB^(a.length+1-(k+2)):=b8 am;have ep:wB^a.length=wB^(a.length+1-(k+2))*wB^(k+1):=by rw[←c7,show a.length+1-(k+2)+(k+1)=a.length by omega]
 have m1:=b7 l1 hp2;have m2:=c8 hg (b6 hp2);rw[ep,d8]at m1;have:wB^(a.length+1-(k+2))*WV wB (U.drop (a.length+1-(k+2)))<wB^(a.length+1-(k+2))*(wB^(k+1)*2^s):=by omega
 have:=d6 this (b6 hP);omega
theorem Zc {U D:List Int}{k s:Nat}{r:Int}(hU:k+3<=U.length)(oU:okW wB U)(hlt:WV wB U<wB^(k+2))(hr:WV wB U=(2:Int)^s*r)(hs:s<=63)
 (h:(2:Int)^s*WV wB (D.take (k+2))=WV wB (U.take (k+2))-U[0]! % 2^s+wB^(k+2)*(U[k+2]! % 2^s)):WV wB (D.take (k+2))=r:=by
 have hp2:=b8 (n:=2) (m:=s) am;have hps:=xZ (s:=s) ac;have e1:=mC (b:=wB) (l:=U) (i:=k+2) ac;have l0:=cB (b:=wB) am (dF oU (k+2));have l1:=cB (b:=wB) am (jM oU (k+2));have hP:0<wB^(k+2):=b8 am;have z:WV wB (U.drop (k+2))=0:=by
  rcases f8 0 (WV wB (U.drop (k+2))) with h|h
  . have:=b5 (show 1<=WV wB (U.drop (k+2)) by omega) (b6 hP);omega
  . omega
 rw[z,gT,g9]at e1;have z2:U[k+2]! = 0:=by
  have d:=pH (b:=wB) (l:=U) (i:=k+2) ac;have g:=cg oU (i:=k+2) ac;have l2:=cB (b:=wB) am (jM oU (k+2+1));have g:=g.1;rw[z]at d;have d:0=U[k+2]! + 18446744073709551616*WV wB (U.drop (k+2+1)):=d;omega
 have z0:U[0]! % 2^s=0:=by
  have d:=pH (b:=wB) (l:=U) (i:=0) ac;rw[List.drop_zero,hr]at d;refine Int.emod_eq_zero_of_dvd ⟨r-2^(64-s)*WV wB (U.drop (0+1)),?_⟩;rw[Int.mul_sub,←d8,hps];have d:(2:Int)^s*r=U[0]! + 18446744073709551616*WV wB (U.drop (0+1)):=d;omega
 rw[z0,z2,Int.zero_emod,gT,g9,Int.sub_zero,←e1,hr]at h;grind
theorem LA {x y q u p:Int}(hp:0<p)(h:x*p=y*p*q+u)(h0:0<=u)(h1:u<y*p):q=x/y/\u=p*(x%y):=by
 have e:u=p*(x-y*q):=by
  rw[Int.mul_sub,←d8,hZ p x,hZ p y];omega
 have r0:0<=x-y*q:=by
  rcases f8 (x-y*q) 0 with h'|h'
  . have:=Int.mul_lt_mul_of_pos_left h' hp;omega
  . exact h'
 have r1:x-y*q<y:=by
  have h2:p*(x-y*q)<p*y:=by rw[←e,hZ p y];exact h1
  exact d6 h2 ac
 obtain⟨g1,g2⟩:=nS (x:=x) (y:=y) (q:=q) (r:=x-y*q) ac r0 r1;grind
theorem Zd (C:Es M)(a b:List Int)(oa:okW wB a)(ob:okW wB b)(na:aN a)(nb:aN b)(la:a.length<1000000)(lb:b.length<1000000)(hb:b≠[]):tM M 253 [.vs (al a) a.length c1,.vs (al b) b.length c2] (WV wB a) (WV wB b):=by
 have a0:=cB (b:=wB) am oa;have b0:=(jN (b:=wB) am ob nb).2 hb;have q250:=fun h=>C.rB a b c1 c2 h oa ob na nb ac ac
 refine Lx (by rw[C.ft];exact xN) be ?_;unfold tC;simp only[enter];by_cases hlt:WV wB a<WV wB b
 . have e:bz (WV wB a-WV wB b) = -1:=if_pos ac;rw[e]at q250;exact gg0
 have hg:∃g,g=bz (WV wB a-WV wB b):=⟨_,rfl⟩;obtain⟨g,hg⟩:=hg;have g0:0<=g:=by
  rw[hg];unfold bz;split
  . omega
  . omega
 rw[←hg]at q250;have lb0:b.length≠0:=bS;by_cases hl1:b.length=1
 . have t0:=mD nb ac;rw[hl1,show 1-1=0 by omega]at t0;have gb:=cg ob (i:=0) ac;have vb:WV wB b=b[0]! := by
    have:=jQ (b:=wB) (l:=b) (n:=0) ac;simpa[WV] using this
   refine gg8 ?_;refine Ly (c1:=c1) (c2:=c2) C.toEo a b oa ob ac hl1 ac _ _ _ _ _ _ _ _ _ _ _ _ (fun L re lo wr hL oL hre hv=>?_);have q1:CT M (.fn (.func 276) [] []) [.sl 0 0 a.length 1 (some a.length)] [some (.cells (al L) 246)] ⟨bE 0 (aQ (L.take a.length)) (some a.length),[some (.cells (al L) 246)],[]⟩:=C.kM (cap:=some a.length) rfl ac ac be;have q2:CT M (.fn (.func 276) [] []) [.sl 1 0 1 1 (some 1)] [some (.cells (al L) 246),some (.cells (al [re]) 246)] ⟨bE 1 (aQ ([re].take 1)) (some 1),[some (.cells (al L) 246),some (.cells (al [re]) 246)],[]⟩:=C.kM (cap:=some 1) rfl be ac be;refine gg8 ?_;have hout:=lv.trim (d1:=some a.length) (d2:=some 1) (b1:=0) (b2:=1) (L1:=L) (L2:=[re]) (e1:=246) (e2:=246) (hp:=[some (.cells (al L) 246),some (.cells (al [re]) 246)]) (n1:=a.length) (n2:=1) rfl ac rfl be;have vb':WV wB a=WV wB b*WV wB L+re:=by rw[vb];exact hv
   obtain⟨d1,d2⟩:=nS vb' hre.1 ac;refine⟨.inr rfl,rfl,_,rfl,_,_,?_,?_,hout⟩
   . rw[rC,ce (show L.length<=a.length by omega)];obtain⟨h1,h2,h3⟩:=lM oL;exact⟨h1,h2,by rw[h3,d1]⟩
   . rw[rC,ce (show [re].length<=1 by simp)];have gy:b[0]! < 18446744073709551616:=gb.2;obtain⟨h1,h2,h3⟩:=lM (L:=[re]) (fun x hx=>by grind);exact⟨h1,h2,by rw[h3,←d2];simp[WV]⟩
 obtain⟨k,hk⟩:∃k,b.length=k+2:=⟨b.length-2,ac⟩;have ha:k+2<=a.length:=by
  rcases Nat.lt_or_ge a.length (k+2) with h|h
  . exact absurd (pJ (b:=wB) am oa ob nb ac) hlt
  . exact h
 obtain⟨s,hs⟩:∃s,s=64-cj b[((b.length:Int)-1).toNat]! := ⟨_,rfl⟩;have gt:=cg ob (i:=((b.length:Int)-1).toNat) ac;have q279:=fun h=>C.yb b[((b.length:Int)-1).toNat]! h gt
 rw[←hs]at q279;rw[show ((b.length:Int)-1).toNat=k+1 by omega]at hs;have s63:s<=63:=by
  have t0:=mD nb ac;rw[show b.length-1=k+1 by omega]at t0;have gt:=cg ob (i:=k+1) ac;have:=(pM (x:=b[k+1]!) ac).1;omega
 obtain⟨rb,⟨lrb,orb,vrb⟩,h280b⟩:=Ls (c1:=c2) C.ft b ob ac s s63 [];obtain⟨_,htop,V,Y,eV,lV,oV,vV,tV⟩:=Za hk ob nb hs ac orb vrb;obtain⟨U0,⟨lU0,oU0,vU0⟩,h280a⟩:=Ls (c1:=c1) C.ft a oa ac s s63 [some (.cells (al (V++Y)) 246)];have q280b:CT M (.fn (.func 280) [] []) [.vs (al b) b.length c2,.iV s] [] ⟨.sl 0 0 (b.length+1) 1 (some (b.length+1)),[some (.cells (al (V++Y)) 246)],[]⟩:=by
  rw[←eV];exact CT.run (fi:=[]) (ca:=[]) (C.tL _ _) h280b
 have q276b:CT M (.fn (.func 276) [] []) [.sl 0 0 (b.length+1) 1 (some (b.length+1))] [some (.cells (al (V++Y)) 246)] ⟨.sl 0 0 (k+2) 1 (some (b.length+1)),[some (.cells (al (V++Y)) 246)],[]⟩:=by
  have:=C.kM (cap:=some (b.length+1)) (b:=0) (n:=b.length+1) (L:=V++Y) (e:=246) (hp:=[some (.cells (al (V++Y)) 246)]) rfl bS ac be;rw[←eV,show b.length+1=k+3 by omega,htop,←show b.length+1=k+3 by omega,eV]at this;exact this
 have q280a:CT M (.fn (.func 280) [] []) [.vs (al a) a.length c1,.iV s] [some (.cells (al (V++Y)) 246)] ⟨.sl 1 0 (a.length+1) 1 (some (a.length+1)),[some (.cells (al (V++Y)) 246),some (.cells (al U0) 246)],[]⟩:=CT.run (fi:=[]) (ca:=[]) (C.tL _ _) h280a;refine gg14 ?_;rw[show ((a.length:Int)-((k+2:Nat):Int)+1).toNat=a.length+1-(k+2) by omega];have hup:=Zb ha oa hk ob nb lU0 oU0 vU0;rw[←vV]at hup;refine YX (cv:=some (b.length+1)) (cap:=some (a.length+1-(k+2))) C.toEr (k:=k) (N:=a.length+1) (V:=V) (Y:=Y) (U0:=U0) ac ac lV oV tV lU0 oU0 hup _ _ _ _ _ _ _ _ _ _ _ _ _ (fun U L lo wr lU oU lL oL hv hlU=>?_) _ ac;repeat' first|refine gc ?_|fail
 refine YZ (k:=k) (N:=a.length+1) (s:=s) s63 ac ac lU oU _ _ _ _ _ _ _ _ _ _ _ _ _ (fun D aD lo wr lD oD hD=>?_);have q1:CT M (.fn (.func 276) [] []) [.sl 2 0 (a.length+1-(k+2)) 1 (some (a.length+1-(k+2)))] [some (.cells (al (V++Y)) 246),some (.cells (al D) 246),some (.cells (al L) 246)] ⟨bE 2 (aQ (L.take (a.length+1-(k+2)))) (some (a.length+1-(k+2))),[some (.cells (al (V++Y)) 246),some (.cells (al D) 246),some (.cells (al L) 246)],[]⟩:=C.kM (cap:=some (a.length+1-(k+2))) rfl ac ac bS;have q2:CT M (.fn (.func 276) [] []) [.sl 1 0 (k+2) 1 (some (a.length+1))] [some (.cells (al (V++Y)) 246),some (.cells (al D) 246),some (.cells (al L) 246)] ⟨bE 1 (aQ (D.take (k+2))) (some (a.length+1)),[some (.cells (al (V++Y)) 246),some (.cells (al D) 246),some (.cells (al L) 246)],[]⟩:=C.kM (cap:=some (a.length+1)) rfl ac ac bS;repeat' first|(apply amQ (r:=k+2) (k:=.i64);rfl;rfl;omega;omega;(intro c hc;cases hc;exact b9 _))|(apply amK;rfl;rfl;rfl;first|exact q1|exact q2)|refine gc ?_|fail
 have hout:=lv.trim (d1:=some (a.length+1-(k+2))) (d2:=some (a.length+1)) (b1:=2) (b2:=1) (L1:=L) (L2:=D) (e1:=246) (e2:=246) (hp:=[some (.cells (al (V++Y)) 246),some (.cells (al D) 246),some (.cells (al L) 246)]) (n1:=a.length+1-(k+2)) (n2:=k+2) rfl ac rfl ac;have hp2:=b8 (n:=2) (m:=s) am;rw[vU0,vV]at hv;rw[vV]at hlU;obtain⟨d1,d2⟩:=LA hp2 hv (cB am oU) hlU;have lt:=dg (b:=wB) am oV;rw[lV,vV]at lt;have hr:=Zc ac oU ac d2 s63 hD;refine⟨.inr rfl,rfl,_,rfl,_,_,?_,?_,hout⟩
 . rw[rC,ce (show L.length<=a.length+1-(k+2) by omega)];obtain⟨h1,h2,h3⟩:=lM oL;exact⟨h1,h2,by rw[h3,d1]⟩
 . rw[rC];obtain⟨h1,h2,h3⟩:=lM (dF oD (k+2));grind
theorem Ze (hft:M.FT=FT)(b:List Int)(_ob:okW wB b)(_nb:aN b)(_hb:b≠[])(q250:∀h,M.ext 250 [.ab,.vs (al b) b.length c2] h=some ⟨.iV (-1),h,[]⟩):tM M 253 [.ab,.vs (al b) b.length c2] 0 (WV wB b):=by
 refine Lx (by rw[hft];exact xN) be ?_;unfold tC;simp only[enter];refine gg8 ?_;refine⟨.inr rfl,rfl,_,rfl,[],[],⟨jf,kA,by simp[WV]⟩,⟨jf,kA,by simp[WV]⟩,aW [.ab,.ab],.ab,.ab,.same rfl,rfl,rfl,.inr ⟨rfl,rfl⟩,.inr ⟨rfl,rfl⟩⟩
theorem Zf (hft:M.FT=FT)(l:List Int)(y:AV)(hp:aa)(q250:M.ext 250 [.vs (al l) l.length none,y] hp=some ⟨.iV (-1),hp,[]⟩):aV M 253 [.vs (al l) l.length none,y] hp ⟨.au [.ab,.vs (al l) l.length none],hp,[]⟩:=by
 refine mA (by rw[hft];exact xN) be (by simp[AV.top,bc,ib]) ?_;unfold tC;simp only[enter];exact gg10
def rD (v:AV)(hh:aa)(q r:List Int):Prop:=∃v1,fD hh v v1/\v1.top=0/\cf v1 = .au [.vs (al q) q.length none,.vs (al r) r.length none]
theorem LB {b:Nat}{L:List Int}{e:TypeId}{hp:aa}{n:Nat}(hb:hp.at b=some (.cells (al L) e))(hn:n<=L.length)(hh:aa)(he:(bE b (aQ (L.take n)) cap).top≠0->hh=hp) :
 ∃v1,fD hh (bE b (aQ (L.take n)) cap) v1/\v1.top=0/\cf v1 = .vs (al (L.take (aQ (L.take n)))) (L.take (aQ (L.take n))).length none:=by
 have hle:=iW (l:=L.take n);rw[dO]at hle;obtain⟨k,hk⟩:∃k,k=aQ (L.take n):=⟨_,rfl⟩;rw[←hk]at hle he ⊢;by_cases h0:0<k
 . have e1:bE b k cap = .sl b 0 k 1 cap:=if_pos h0;rw[e1]at he ⊢;obtain rfl:=he (by simp[AV.top]);have hl:(L.take k).length=k:=by rw[dO];omega
   have hF:Fr hh [b] (.sl b 0 k 1 cap) (.vs (al (L.take k)) k none):=by
    refine .sl (m:=al (L.take k)) (c9.2 rfl) hb ?_ rfl (fun i x y hx hy=>?_) (.inr rfl)
    . have:=ji (f:=uC) (esz:=1) (fun _=>rfl) (l:=L) (i:=0) (n:=k) ac;simpa using this
    . rw[hx]at hy;cases hy;exact .same (cO (ib _) hx)
   rw[hl];refine⟨_,⟨[b],hF,rfl,fun c l' e' hc hl'=>?_⟩,ib _,by rw[cf,Lj]⟩;rw[c9.1 hc,hb]at hl';cases hl';exact kH (fun _=>rfl) _
 . obtain rfl:k=0:=by omega
   exact⟨.vs [] 0 cap,.same rfl rfl,rfl,rfl⟩
theorem rD.trim {d1 d2:Option Nat}{b1 b2:Nat}{L1 L2:List Int}{e1 e2:TypeId}{hp:aa}{n1 n2:Nat}(h1:hp.at b1=some (.cells (al L1) e1))(hn1:n1<=L1.length)(h2:hp.at b2=some (.cells (al L2) e2))(hn2:n2<=L2.length) :
 rD (aW [bE b1 (aQ (L1.take n1)) d1,bE b2 (aQ (L2.take n2)) d2]) (if (aW [bE b1 (aQ (L1.take n1)) d1,bE b2 (aQ (L2.take n2)) d2]).top<=0 then [] else hp) (L1.take (aQ (L1.take n1))) (L2.take (aQ (L2.take n2))):=by
 obtain⟨x,hx⟩:∃x,x=bE b1 (aQ (L1.take n1)) d1:=⟨_,rfl⟩;obtain⟨y,hy⟩:∃y,y=bE b2 (aQ (L2.take n2)) d2:=⟨_,rfl⟩;obtain⟨hh,hhh⟩:∃hh,hh=(if (aW [x,y]).top<=0 then [] else hp):=⟨_,rfl⟩;have et:(aW [x,y]).top=max x.top (max y.top 0):=rfl;obtain⟨v1,f1,t1,k1⟩:=LB (cap:=d1) h1 hn1 hh (fun h=>by rw[hhh,if_neg];rw[←hx]at h;omega);obtain⟨v2,f2,t2,k2⟩:=LB (cap:=d2) h2 hn2 hh (fun h=>by rw[hhh,if_neg];rw[←hy]at h;omega);rw[←hx,←hy,←hhh];rw[←hx]at f1;rw[←hy]at f2;refine⟨.au [v1,v2],f1.two f2,?_,?_⟩
 . simp[AV.top,bc,t1,t2]
 . simp only[cf,dE,k1,k2]
def LC (M:aw)(g:Nat)(ars:List AV)(x y:Int):Prop:=∃q r:List Int,(okW wB q/\aN q/\WV wB q=x/y)/\(okW wB r/\aN r/\WV wB r=x%y)/\∃v hh,rD v hh q r/\aV M g ars [] ⟨v,hh,[]⟩
theorem Zg {f N:Nat}{aR:List Nat}{res:List fA}{body:ak}{ars:List AV}{x y:Int}(hft:M.FT f=some ⟨N,aR,res,body⟩)(hN:ars.length<=N)
 (h:W M body ⟨⟨aR.map (fun t=>(ars[t]?).getD bD),[],[],[]⟩,[]⟩ fun e s=>(e = .normal\/e = .ret)/\s.s.bV=[]/\∃vs,dx s.s res=some vs/\∃q r:List Int,(okW wB q/\aN q/\WV wB q=x/y)/\(okW wB r/\aN r/\WV wB r=x%y)/\rD (aW vs) (if (aW vs).top<=0 then [] else s.s.hp) q r):LC M f ars x y:=by
 obtain⟨v,hh,⟨q,r,hq,hr,ho⟩,h2⟩:=gO (P:=fun v hh=>∃q r:List Int,(okW wB q/\aN q/\WV wB q=x/y)/\(okW wB r/\aN r/\WV wB r=x%y)/\rD v hh q r) hft hN h;exact⟨q,r,hq,hr,v,hh,ho,h2⟩
theorem Zh (C:Es M)(a b:List Int)(oa:okW wB a)(ob:okW wB b)(na:aN a)(nb:aN b)(la:a.length<1000000)(hl1:b.length=1)(hlt:¬WV wB a<WV wB b):LC M 253 [.vs (al a) a.length c1,.vs (al b) b.length c2] (WV wB a) (WV wB b):=by
 have q250:=fun h=>C.rB a b c1 c2 h oa ob na nb ac ac
 refine Zg (by rw[C.ft];exact xN) be ?_;unfold tC;simp only[enter];have hg:∃g,g=bz (WV wB a-WV wB b):=⟨_,rfl⟩;obtain⟨g,hg⟩:=hg;have g0:0<=g:=by
  rw[hg];unfold bz;split
  . omega
  . split <;> omega
 rw[←hg]at q250;have t0:=mD nb ac;rw[hl1,show 1-1=0 by omega]at t0;have gb:=cg ob (i:=0) ac;have vb:WV wB b=b[0]! := by
  have:=jQ (b:=wB) (l:=b) (n:=0) ac;simpa[WV] using this
 refine gg8 ?_;refine Ly (c1:=c1) (c2:=c2) C.toEo a b oa ob ac hl1 ac _ _ _ _ _ _ _ _ _ _ _ _ (fun L re lo wr hL oL hre hv=>?_);have q1:CT M (.fn (.func 276) [] []) [.sl 0 0 a.length 1 (some a.length)] [some (.cells (al L) 246)] ⟨bE 0 (aQ (L.take a.length)) (some a.length),[some (.cells (al L) 246)],[]⟩:=C.kM (cap:=some a.length) rfl ac ac (fun c hc=>by cases hc;exact b9 _);have q2:CT M (.fn (.func 276) [] []) [.sl 1 0 1 1 (some 1)] [some (.cells (al L) 246),some (.cells (al [re]) 246)] ⟨bE 1 (aQ ([re].take 1)) (some 1),[some (.cells (al L) 246),some (.cells (al [re]) 246)],[]⟩:=C.kM (cap:=some 1) rfl be ac (fun c hc=>by cases hc;exact b9 _);refine gg8 ?_;have hout:=rD.trim (d1:=some a.length) (d2:=some 1) (b1:=0) (b2:=1) (L1:=L) (L2:=[re]) (e1:=246) (e2:=246) (hp:=[some (.cells (al L) 246),some (.cells (al [re]) 246)]) (n1:=a.length) (n2:=1) rfl ac rfl be;have vb':WV wB a=WV wB b*WV wB L+re:=by rw[vb];exact hv
 obtain⟨d1,d2⟩:=nS vb' hre.1 (by rw[vb];exact hre.2);refine⟨.inr rfl,rfl,_,rfl,_,_,?_,?_,hout⟩
 . rw[rC,ce (show L.length<=a.length by omega)];obtain⟨h1,h2,h3⟩:=lM oL;exact⟨h1,h2,by rw[h3,d1]⟩
 . rw[rC,ce (show [re].length<=1 by simp)];have gy:b[0]! < 18446744073709551616:=gb.2;obtain⟨h1,h2,h3⟩:=lM (L:=[re]) (fun x hx=>by rw[c9.1 hx];exact⟨hre.1,by show _<(18446744073709551616:Int);omega⟩);exact⟨h1,h2,by rw[h3,←d2];simp[WV]⟩
theorem tN {h:aa}(l:List Int):tv h (al l):=xC (fun _=>.cons (.atom rfl) .nil) l
theorem dj.fL {h:aa}{x:AV}{l:List Int}(hx:dj x l):cK h x (.vs (al l) l.length none):=by
 rcases hx with rfl|⟨rfl,rfl⟩
 . exact cK.nK (tN l)
 . exact .nil
def aj (x:Int):Int:=if x<0 then -x else x
inductive ax:AV->Int->Prop
 | small {s:Int} (h : -9223372036854775808<=s/\s<9223372036854775808):ax (.agg [.int .i64 s,.ab]) s
 | fo {σ z:Int} {w:List Int} (hs:σ=1\/σ = -1) (ok:okW wB w) (nr:aN w) (hw:9223372036854775808<=WV wB w) (hz:z=σ*WV wB w):ax (.agg [.int .i64 σ,.vs (al w) w.length none]) z
def dZ (v:AV)(hh:aa)(v0:AV):Prop:=∃v1,eH hh v v1/\v1.top=0/\bL v1=v0
def cQ (M:aw)(g:Nat)(ars:List AV)(v0:AV):Prop:=∃v hh,dZ v hh v0/\aV M g ars [] ⟨v,hh,[]⟩
theorem kN {f N:Nat}{aR:List Nat}{res:List fA}{body:ak}{ars:List AV}{v0:AV}(hft:M.FT f=some ⟨N,aR,res,body⟩)(hN:ars.length<=N)
 (h:W M body ⟨⟨aR.map (fun t=>(ars[t]?).getD bD),[],[],[]⟩,[]⟩ fun e s=>(e = .normal\/e = .ret)/\s.s.bV=[]/\∃vs,dx s.s res=some vs/\dZ (aW vs) (if (aW vs).top<=0 then [] else s.s.hp) v0):cQ M f ars v0:=by
 obtain⟨v,hh,ho,h2⟩:=gO (P:=fun v hh=>dZ v hh v0) hft hN h;exact⟨v,hh,ho,h2⟩
theorem dZ.same {v v0:AV}{hh:aa}(ht:v.top=0)(hc:bL v=v0):dZ v hh v0:=⟨v,.same ht,ht,hc⟩
theorem Zi (hft:M.FT=FT)(s:Int)(hs : -9223372036854775808<=s/\s<9223372036854775808):aV M 245 [.iV s] [] ⟨.uV (aj s),[],[]⟩:=by
 refine bH (by rw[hft];exact Yn) be ?_;unfold Lb;simp only[enter];by_cases h:s<0
 . have e:aj s = -s:=if_pos h;rw[e];by_cases h2:s = -9223372036854775808
   . subst h2;exact gg0
   . exact gg0
 . have e:aj s=s:=if_neg h;rw[e];exact gg0
theorem LD {x:Int}{b:Nat}{e:TypeId}{hh:aa}{c:Option Nat}(hb:hh.at b=some (.cells (al [x]) e)):eH hh (.sl b 0 1 1 c) (.vs (al [x]) 1 none):=
 .sl (m:=al [x]) hb rfl rfl fun i y z hy hz=>by
  rw[hy]at hz;cases hz;exact .same (cO (ib _) hy)
theorem Zj (hft:M.FT=FT)(tO:∀s h,(-9223372036854775808<=s/\s<9223372036854775808)->M.ext 245 [.iV s] h=some ⟨.uV (aj s),h,[]⟩){v:AV}{z:Int}(hv:ax v z) :
 ∃x l,dj x l/\okW wB l/\aN l/\WV wB l=aj z/\cQ M 246 [v] (.au [.bool (decide (z<0)),x]):=by
 cases hv with
 | small h=>
  by_cases h0:z=0
  . subst h0;refine⟨.ab,[],.inr ⟨rfl,rfl⟩,jf,kA,rfl,?_⟩;refine kN (by rw[hft];exact Ek) be ?_;unfold xQ;simp only[enter];exact gg0
  . have gz:0<aj z/\aj z<18446744073709551616:=by unfold aj;split <;> omega
    have ok:okW wB [aj z]:=fun x hx=>by rw[c9.1 hx];exact⟨ac,gz.2⟩
    refine⟨.vs (al [aj z]) 1 none,[aj z],.inl rfl,ok,(tH be).2 (by show aj z≠0;omega),by simp[WV],?_⟩;refine kN (by rw[hft];exact Ek) be ?_;have q245:=fun h'=>tO z h' h
    unfold xQ;simp only[enter];by_cases hn:z<0
    . rw[decide_eq_true hn];repeat' first|(apply ajU;rfl;rfl;(first|(simp only[nca];rfl)|rfl);first|exact q245 _)|apply afc|apply cV|apply afl|apply afm|apply ain|apply agR|apply agH|apply oI|apply ajJ|apply ajN|(apply ajP;rfl)|(apply akp;rfl;rfl;(first|(simp only[nca];rfl)|rfl))|(apply alY;rfl)|(apply ahB;rfl)|(apply abd;rfl;rfl)|(apply aeJ;rfl;rfl)|(apply afC;rfl;rfl;rfl)|(apply aiq;rfl;rfl;rfl)|(apply abL;rfl;rfl)|(apply afx;rfl;rfl)|(intro _;omega)|intro _
      all_goals try omega
      refine⟨.inr rfl,rfl,_,rfl,.au [.bool true,.vs (al [aj z]) 1 none],.au rfl (fun i a b ha hb=>?_),by simp[AV.top,bc,ib],by simp[bL,cG,mY]⟩;match i with
      | 0=>cases ha;cases hb;exact .same rfl
      | 1=>cases ha;cases hb;exact LD rfl
      | i+2=>cases ha
    . rw[decide_eq_false hn];repeat' first|(apply ajU;rfl;rfl;(first|(simp only[nca];rfl)|rfl);first|exact q245 _)|apply afc|apply cV|apply afl|apply afm|apply ain|apply agR|apply agH|apply oI|apply ajJ|apply ajN|(apply ajP;rfl)|(apply akp;rfl;rfl;(first|(simp only[nca];rfl)|rfl))|(apply alY;rfl)|(apply ahB;rfl)|(apply abd;rfl;rfl)|(apply aeJ;rfl;rfl)|(apply afC;rfl;rfl;rfl)|(apply aiq;rfl;rfl;rfl)|(apply abL;rfl;rfl)|(apply afx;rfl;rfl)|(intro _;omega)|intro _
      all_goals try omega
      refine⟨.inr rfl,rfl,_,rfl,.au [.bool false,.vs (al [aj z]) 1 none],.au rfl (fun i a b ha hb=>?_),by simp[AV.top,bc,ib],by simp[bL,cG,mY]⟩;match i with
      | 0=>cases ha;cases hb;exact .same rfl
      | 1=>cases ha;cases hb;exact LD rfl
      | i+2=>cases ha
 | @fo σ z w hs ok nr hw hz=>
  refine⟨.vs (al w) w.length none,w,.inl rfl,ok,nr,?_,?_⟩
  . subst hz;unfold aj;rcases hs with rfl|rfl
    . rw[if_neg ac];omega
    . rw[if_pos ac];omega
  cases w with
  | nil=>simp[WV]at hw
  | cons y w=>
  refine kN (by rw[hft];exact Ek) be ?_;unfold xQ;simp only[enter];rcases hs with rfl|rfl
  . have e:¬z<0:=by omega
    rw[decide_eq_false e];exact gg0
  . have e:z<0:=by omega
    rw[decide_eq_true e];exact gg0
def gH (neg:Bool)(n:Int):Int:=if neg then -n else n
theorem Et {σ:Int}{l:List Int}{hh:aa}:dZ (aW [.agg [.iV σ,.vs (al l) l.length none]]) hh (.agg [.iV σ,.vs (al l) l.length none]):=.same (by simp[aW,AV.top,bc,ib]) (by simp[aW,bL,cG,mY])
theorem Zk (hft:M.FT=FT)(neg:Bool){x:AV}{l:List Int}(hx:dj x l)(ok:okW wB l)(nr:aN l)(hl:l.length<1000000000):∃v0,ax v0 (gH neg (WV wB l))/\cQ M 247 [.bool neg,x] v0:=by
 rcases hx with rfl|⟨rfl,rfl⟩
 . by_cases h0:l.length=0
   . refine⟨.agg [.iV 0,.ab],?_,?_⟩
     . have:gH neg (WV wB l)=0:=by rw[d9 h0];cases neg <;> rfl
       rw[this];exact .small am
     refine kN (by rw[hft];exact tF) be ?_;unfold rq;simp only[enter];repeat' first|(apply aeJ;rfl;rfl)|refine gd3 ?_|refine gc ?_|(intro _;omega)|intro _
     all_goals try omega
     exact⟨.inr rfl,rfl,_,rfl,.same rfl rfl⟩
   by_cases h1:l.length=1
   . obtain⟨y,hy⟩:∃y,y=l[(0:Int).toNat]! := ⟨_,rfl⟩;have gy:=cg ok (i:=0) ac;rw[show l[0]! = y from hy.symm]at gy;have gy:0<=y/\y<18446744073709551616:=gy;have ev:WV wB l=y:=by
      have:=jQ (b:=wB) (l:=l) (n:=0) ac;rw[show l[0]! = y from hy.symm]at this;simpa[WV] using this
     by_cases h:y<=9223372036854775807
     . refine⟨.agg [.iV (gH neg y),.ab],by rw[ev];exact .small (by unfold gH;split <;> omega),?_⟩;refine kN (by rw[hft];exact tF) be ?_;unfold rq;simp only[enter];rw[hy]at h gy ⊢;cases neg
       . repeat' first|(apply aiZ;rfl;rfl)|(apply aeJ;rfl;rfl)|refine gd3 ?_|refine gc ?_|(intro _;omega)|intro _
         all_goals try omega
         exact⟨.inr rfl,rfl,_,rfl,.same rfl rfl⟩
       . repeat' first|(apply aiZ;rfl;rfl)|(apply aeJ;rfl;rfl)|refine gd3 ?_|refine gc ?_|(intro _;omega)|intro _
         all_goals try omega
         exact⟨.inr rfl,rfl,_,rfl,.same rfl rfl⟩
     . refine⟨.agg [.iV (gH neg 1),.vs (al l) l.length none],.fo (w:=l) (by cases neg;exact .inl rfl;exact .inr rfl) ok nr (by rw[ev];omega) (by cases neg <;> simp[gH]),?_⟩;refine kN (by rw[hft];exact tF) be ?_;unfold rq;simp only[enter];rw[hy]at h gy;cases neg;all_goals
       . repeat' first|(apply aiZ;rfl;rfl)|(apply aeJ;rfl;rfl)|refine gd3 ?_|refine gc ?_|(intro _;omega)|intro _
         all_goals try omega
         exact⟨.inr rfl,rfl,_,rfl,Et⟩
   have h2:9223372036854775808<=WV wB l:=by
    have h:=ru (b:=wB) am ok nr ac;have h2:=gS (b:=wB) am (m:=1) (n:=l.length-1) ac;have h3:wB^1=18446744073709551616:=rfl;omega
   refine⟨.agg [.iV (gH neg 1),.vs (al l) l.length none],.fo (w:=l) (by cases neg;exact .inl rfl;exact .inr rfl) ok nr h2 (by cases neg <;> simp[gH]),?_⟩;refine kN (by rw[hft];exact tF) be ?_;unfold rq;simp only[enter];cases neg;all_goals
   . repeat' first|(apply aeJ;rfl;rfl)|refine gd3 ?_|refine gc ?_|(intro _;omega)|intro _
     all_goals try omega
     exact⟨.inr rfl,rfl,_,rfl,Et⟩
 . refine⟨.agg [.iV 0,.ab],?_,?_⟩
   . have:gH neg (WV wB [])=0:=by cases neg <;> rfl
     rw[this];exact .small am
   refine kN (by rw[hft];exact tF) be ?_;unfold rq;simp only[enter];cases neg;all_goals
   . repeat' first|(apply aeJ;rfl;rfl)|refine gd3 ?_|refine gc ?_|(intro _;omega)|intro _
     all_goals try omega
     exact⟨.inr rfl,rfl,_,rfl,.same rfl rfl⟩
set_option maxRecDepth 1000000
def ye:ak:=zR [zx 1 131 2 0,⟨.p 2,.alloc 131 [.iV (0),.ab],none⟩] (.seq (zR [zf 5 1 1,zd 6 1 5,⟨.l 7,.eq false (.ref .slice) (.l 6) (.c (.ab)),none⟩,zn 8 7,zg (zf 9 0 1) 8 true,zg (zd 10 1 9) 8 true,zg (zc 11 .neq 10 (-9223372036854775808)) 8 true,zp 12 8 11] (.cond (.l 12) (zR [zf 13 0 1,zd 14 1 13,⟨.l 15,.un .neg (.l 14),none⟩,⟨.l 16,.build [.iV (0),.ab] [(0,1,(.l 15))],none⟩,zs 2 2 16] (.ret)) (.skip))) (zR [zt 18 2 1,z1 19 246 18,zn 17 19,ze 20 0 17,ze 21 1 17,zw 3 20,zw 4 21] (zR [zm 22 3,zu 23 22,zm 24 4,z2 25 247 23 24,zs 2 2 25] (.ret))))
theorem LF:FT 216=some ⟨26,[0,1,2,3,4],[.cell 2 true (.p 2)],ye⟩:=by kernel_rfl
def Eu:ak:=zR [zx 1 131 2 0,⟨.p 2,.alloc 131 [.iV (0),.ab],none⟩] (.seq (zR [zf 3 0 1,zd 4 1 3,zc 5 .lss 4 0] (.cond (.l 5) (zR [zt 6 2 1,z1 7 216 6,zs 2 2 7] (.ret)) (.skip))) (zR [zt 8 2 1,zs 2 2 8] (.ret)))
theorem LG:FT 210=some ⟨9,[0,1,2],[.cell 2 true (.p 2)],Eu⟩:=by kernel_rfl
def Ev:ak:=zR [zx 1 131 2 0,zi 2 0] (zR [zf 3 0 1,zd 4 1 3,⟨.l 5,.mm false [(kI 1),(.l 4)],none⟩,⟨.l 6,.mm true [(kI (-1)),(.l 5)],none⟩,zw 2 6] (.ret))
theorem Zl:FT 211=some ⟨7,[0,1,2],[.var (.p 2)],Ev⟩:=by kernel_rfl
def rE:ak:=zR [zx 2 131 2 0,zx 3 131 2 1,⟨.p 4,.alloc 131 [.iV (0),.ab],none⟩] (.seq (zR [zf 10 1 2,zd 11 1 10,⟨.l 12,.eq false (.ref .slice) (.l 11) (.c (.ab)),none⟩,zn 13 12,zg (zf 14 1 3) 13 true,zg (zd 15 1 14) 13 true,⟨.l 16,.eq false (.ref .slice) (.l 15) (.c (.ab)),some ((.l 13),true)⟩,zp 17 13 16] (.cond (.l 17) (zR [zf 18 0 2,zd 19 1 18,zf 20 0 3,zd 21 1 20,zb 22 .add 19 21,zw 5 22] (zR [zm 23 5,zf 24 0 2,zd 25 1 24,zb 26 .gtr 23 25,zf 27 0 3,zd 28 1 27,zc 29 .gtr 28 0,⟨.l 30,.eq false .bool (.l 26) (.l 29),none⟩] (.cond (.l 30) (zR [zm 31 5,⟨.l 32,.build [.iV (0),.ab] [(0,1,(.l 31))],none⟩,zs 2 4 32] (.ret)) (.skip)))) (.skip))) (zR [zt 34 2 2,z1 35 246 34,zn 33 35,ze 36 0 33,ze 37 1 33,zw 6 36,zw 7 37] (zR [zt 39 2 3,z1 40 246 39,zn 38 40,ze 41 0 38,ze 42 1 38,zw 8 41,zw 9 42] (.seq (.block 0 (zR [zm 44 6,zm 45 8,⟨.l 46,.eq false .bool (.l 44) (.l 45),none⟩,zn 43 46] (.cond (.l 43) (zR [zm 47 6,zm 48 7,zm 49 9,z2 50 249 48 49,z2 51 247 47 50,zs 2 4 51] (.ret)) (zR [zm 53 7,zm 54 9,z2 55 250 53 54,zc 56 .geq 55 0,zn 52 56] (.cond (.l 52) (zR [zm 57 6,zm 58 7,zm 59 9,z2 60 251 58 59,z2 61 247 57 60,zs 2 4 61] (.ret)) (.skip)))))) (zR [zm 62 8,zm 63 9,zm 64 7,z2 65 251 63 64,z2 66 247 62 65,zs 2 4 66] (.ret))))))
theorem tP:FT 202=some ⟨67,[0,1,2,3,4,5,6,7,8,9],[.cell 2 true (.p 4)],rE⟩:=by kernel_rfl
def LH:ak:=zR [zx 2 131 2 0,zx 3 131 2 1,⟨.p 4,.alloc 131 [.iV (0),.ab],none⟩] (.seq (.draw [(zt 5 2 2,[]),(zt 6 2 3,[0]),(z1 7 216 6,[0]),(z2 8 202 5 7,[]),(zs 2 4 8,[])]) (.ret))
theorem Zm:FT 217=some ⟨9,[0,1,2,3,4],[.cell 2 true (.p 4)],LH⟩:=by kernel_rfl
def LJ:ak:=zR [zx 2 131 2 0,zx 3 131 2 1,zi 4 0] (.seq (zR [zf 5 1 2,zd 6 1 5,⟨.l 7,.eq false (.ref .slice) (.l 6) (.c (.ab)),none⟩,zn 8 7,zg (zf 9 1 3) 8 true,zg (zd 10 1 9) 8 true,⟨.l 11,.eq false (.ref .slice) (.l 10) (.c (.ab)),some ((.l 8),true)⟩,zp 12 8 11] (.cond (.l 12) (.seq (.block 0 (zR [zf 14 0 2,zd 15 1 14,zf 16 0 3,zd 17 1 16,zb 18 .lss 15 17,zn 13 18] (.cond (.l 13) (zR [zi 4 (-1)] (.ret)) (zR [zf 20 0 2,zd 21 1 20,zf 22 0 3,zd 23 1 22,zb 24 .gtr 21 23,zn 19 24] (.cond (.l 19) (zR [zi 4 1] (.ret)) (.skip)))))) (zR [zi 4 0] (.ret))) (.skip))) (zR [zt 25 2 2,zt 26 2 3,z2 27 217 25 26,z1 28 211 27,zw 4 28] (.ret)))
theorem Zn:FT 167=some ⟨29,[0,1,2,3,4],[.var (.p 4)],LJ⟩:=by kernel_rfl
def rF:ak:=zR [zx 2 131 2 0,zx 3 131 2 1,⟨.p 4,.alloc 131 [.iV (0),.ab],none⟩] (.seq (zR [zf 11 1 2,zd 12 1 11,⟨.l 13,.eq false (.ref .slice) (.l 12) (.c (.ab)),none⟩,zn 14 13,zg (zf 15 1 3) 14 true,zg (zd 16 1 15) 14 true,⟨.l 17,.eq false (.ref .slice) (.l 16) (.c (.ab)),some ((.l 14),true)⟩,zp 18 14 17] (.cond (.l 18) (.seq (.draw [(zf 20 0 2,[]),(zd 21 1 20,[]),(z1 22 245 21,[]),(zf 23 0 3,[0,1,2]),(zd 24 1 23,[0,1,2]),(z1 25 245 24,[]),(z2 26 244 22 25,[]),(zn 19 26,[]),(ze 27 0 19,[]),(ze 28 1 19,[8]),(zw 5 27,[9]),(zw 6 28,[])]) (zR [zm 29 5,⟨.l 30,.bin .eql (.l 29) (kU 0),none⟩,zn 31 30,zg (zm 32 6) 31 true,⟨.l 33,.bin .leq (.l 32) (kU 9223372036854775807),some ((.l 31),true)⟩,zp 34 31 33] (.cond (.l 34) (.seq (zR [zf 35 0 2,zd 36 1 35,zc 37 .lss 36 0,zf 38 0 3,zd 39 1 38,zc 40 .lss 39 0,⟨.l 41,.eq true .bool (.l 37) (.l 40),none⟩] (.cond (.l 41) (zR [zm 42 6,⟨.l 43,.dM .i64 (.l 42),none⟩,⟨.l 44,.un .neg (.l 43),none⟩,⟨.l 45,.build [.iV (0),.ab] [(0,1,(.l 44))],none⟩,zs 2 4 45] (.ret)) (.skip))) (zR [zm 46 6,⟨.l 47,.dM .i64 (.l 46),none⟩,⟨.l 48,.build [.iV (0),.ab] [(0,1,(.l 47))],none⟩,zs 2 4 48] (.ret))) (.skip)))) (.skip))) (zR [zt 50 2 2,z1 51 246 50,zn 49 51,ze 52 0 49,ze 53 1 49,zw 7 52,zw 8 53] (zR [zt 55 2 3,z1 56 246 55,zn 54 56,ze 57 0 54,ze 58 1 54,zw 9 57,zw 10 58] (zR [zm 59 7,zm 60 9,⟨.l 61,.eq true .bool (.l 59) (.l 60),none⟩,zm 62 8,zm 63 10,z2 64 248 62 63,z2 65 247 61 64,zs 2 4 65] (.ret)))))
theorem tQ:FT 198=some ⟨66,[0,1,2,3,4,5,6,7,8,9,10],[.cell 2 true (.p 4)],rF⟩:=by kernel_rfl
def LK:ak:=zR [⟨.p 1,.alloc 131 [.iV (0),.ab],none⟩] (zR [zm 3 0,⟨.l 4,.build [.iV (0),.ab] [(0,1,(.l 3))],none⟩,zs 2 1 4] (.ret))
theorem Zo:FT 168=some ⟨5,[0,2],[.cell 2 true (.p 1)],LK⟩:=by kernel_rfl
def rG:ak:=zR [zx 2 131 2 0,zx 3 131 2 1,⟨.p 4,.alloc 131 [.iV (0),.ab],none⟩,⟨.p 5,.alloc 131 [.iV (0),.ab],none⟩] (.seq (zR [zf 16 1 2,zd 17 1 16,⟨.l 18,.eq false (.ref .slice) (.l 17) (.c (.ab)),none⟩,zn 19 18,zg (zf 20 1 3) 19 true,zg (zd 21 1 20) 19 true,⟨.l 22,.eq false (.ref .slice) (.l 21) (.c (.ab)),some ((.l 19),true)⟩,zp 23 19 22,zn 24 23,zg (zf 25 0 2) 24 true,zg (zd 26 1 25) 24 true,zg (zc 27 .neq 26 (-9223372036854775808)) 24 true,zp 28 24 27] (.cond (.l 28) (.seq (.draw [(zf 29 0 2,[]),(zd 30 1 29,[]),(zf 31 0 3,[0,1]),(zd 32 1 31,[0,1]),(zb 33 .quo 30 32,[]),(zf 34 0 2,[0,1,2,3,4]),(zd 35 1 34,[0,1,2,3,4]),(zf 36 0 3,[0,1,2,3,4,5,6]),(zd 37 1 36,[0,1,2,3,4,5,6]),(zb 38 .rem 35 37,[0,1,2,3,4]),(zw 6 33,[5,6,7,8,9]),(zw 7 38,[])]) (.seq (zR [zm 39 7,zc 40 .lss 39 0] (.cond (.l 40) (.draw [(zm 41 6,[]),(zc 42 .sub 41 1,[]),(zm 43 7,[0,1]),(zf 44 0 3,[0,1,2]),(zd 45 1 44,[0,1,2]),(zb 46 .add 43 45,[0,1]),(zw 6 42,[2,3,4,5]),(zw 7 46,[])]) (.skip))) (zR [zm 47 6,⟨.l 48,.build [.iV (0),.ab] [(0,1,(.l 47))],none⟩,zm 49 7,⟨.l 50,.build [.iV (0),.ab] [(0,1,(.l 49))],none⟩,zs 2 4 48,zs 2 5 50] (.ret)))) (.skip))) (zR [zt 52 2 2,z1 53 246 52,zn 51 53,ze 54 0 51,ze 55 1 51,zw 8 54,zw 9 55] (zR [zt 57 2 3,z1 58 246 57,zn 56 58,ze 59 0 56,ze 60 1 56,zn 10 59,zw 10 60] (zR [zm 62 9,zm 63 10,z2 64 253 62 63,zn 61 64,ze 65 0 61,ze 66 1 61,zw 11 65,zw 12 66] (zR [zm 67 8,zm 68 11,z2 69 247 67 68,zm 70 8,zm 71 12,z2 72 247 70 71,⟨.p 13,.alloc 131 [.iV (0),.ab],none⟩,⟨.p 14,.alloc 131 [.iV (0),.ab],none⟩,zs 2 13 69,zs 2 14 72] (.seq (zR [zt 73 2 14,z1 74 211 73,zc 75 .lss 74 0] (.cond (.l 75) (.draw [(zt 76 2 13,[]),(⟨.l 77,.call (kF 168) [(kI 1)],none⟩,[0]),(z2 78 217 76 77,[]),(zt 79 2 14,[0,1,2]),(zt 80 2 3,[0,1,2,3]),(z2 81 202 79 80,[]),(zs 2 13 78,[]),(zs 2 14 81,[])]) (.skip))) (.seq (.draw [(zt 82 2 13,[]),(zt 83 2 14,[0]),(zs 2 4 82,[1]),(zs 2 5 83,[])]) (.ret))))))))
theorem tS:FT 205=some ⟨84,[0,1,2,3,4,5,6,7,8,9,11,12,13,14,15],[.cell 2 true (.p 4),.cell 2 true (.p 5)],rG⟩:=by kernel_rfl
def Ew:ak:=zR [zx 2 131 2 0,zx 3 131 2 1,⟨.p 4,.alloc 131 [.iV (0),.ab],none⟩] (.seq (zR [zt 7 2 3,z1 8 211 7,zc 9 .lss 8 0] (.cond (.l 9) (.draw [(zt 10 2 2,[]),(z1 11 216 10,[]),(zt 12 2 3,[0,1]),(z1 13 216 12,[]),(zs 2 2 11,[]),(zs 2 3 13,[])]) (.skip))) (zR [zt 15 2 2,zt 16 2 3,z2 17 205 15 16,zn 14 17,ze 18 0 14,ze 19 1 14,⟨.p 5,.alloc 131 [.iV (0),.ab],none⟩,⟨.l 6,.alloc 131 [.iV (0),.ab],none⟩,zs 2 5 18,zS 2 6 19] (zR [zt 20 2 5,zs 2 4 20] (.ret))))
theorem LL:FT 252=some ⟨21,[0,1,2,3,4,5],[.cell 2 true (.p 4)],Ew⟩:=by kernel_rfl
def yf:ak:=.seq (zR [zt 11 2 3,z1 12 211 11,zc 13 .neq 12 0] (.cond (.l 13) (.skip) (.exit 0))) (.block 1 (zR [zt 15 2 2,zt 16 2 3,z2 17 205 15 16,zn 14 17,ze 18 0 14,ze 19 1 14,⟨.l 5,.alloc 131 [.iV (0),.ab],none⟩,⟨.p 5,.alloc 131 [.iV (0),.ab],none⟩,zS 2 5 18,zs 2 5 19] (.draw [(zt 20 2 3,[]),(zt 21 2 5,[0]),(zs 2 2 20,[1]),(zs 2 3 21,[])])))
def LM:ak:=zR [zx 2 131 2 0,zx 3 131 2 1,⟨.p 4,.alloc 131 [.iV (0),.ab],none⟩] (.seq (.draw [(zt 7 2 2,[]),(z1 8 210 7,[]),(zt 9 2 3,[0,1]),(z1 10 210 9,[]),(zs 2 2 8,[]),(zs 2 3 10,[])]) (.seq (.block 0 (.loop yf)) (zR [zt 22 2 2,zs 2 4 22] (.ret))))
theorem Zp:FT 165=some ⟨23,[0,1,2,3,4,6],[.cell 2 true (.p 4)],LM⟩:=by kernel_rfl
structure CI (M:aw)(N:Nat):Prop where
 ft:M.FT=FT
 lN:N<=500000
 tO:∀s h,(-9223372036854775808<=s/\s<9223372036854775808)->M.ext 245 [.iV s] h=some ⟨.uV (aj s),h,[]⟩
 pK:∀(x y:Int) h,(0<=x/\x<18446744073709551616)->(0<=y/\y<18446744073709551616)->M.ext 244 [.uV x,.uV y] h=some ⟨.au [.uV (x*y/18446744073709551616),.uV (x*y%18446744073709551616)],h,[]⟩
 lO:∀v z,ax v z->∃x l,dj x l/\okW wB l/\aN l/\WV wB l=aj z/\∀h,M.ext 246 [v] h=some ⟨.au [.bool (decide (z<0)),x],h,[]⟩
 kO:∀neg x l,dj x l->okW wB l->aN l->l.length<=1000001->∃v0,ax v0 (gH neg (WV wB l))/\∀h,M.ext 247 [.bool neg,x] h=some ⟨v0,h,[]⟩
 LN:∀x l y m,dj x l->dj y m->okW wB l->okW wB m->l.length<=500000->m.length<=500000->∃r,okW wB r/\aN r/\WV wB r=WV wB l+WV wB m/\∀h,M.ext 249 [x,y] h=some ⟨.vs (al r) r.length none,h,[]⟩
 Ey:∀x l y m,dj x l->dj y m->okW wB l->okW wB m->aN l->aN m->l.length<=500000->m.length<=500000->WV wB m<=WV wB l->∃r,okW wB r/\aN r/\WV wB r=WV wB l-WV wB m/\∀h,M.ext 251 [x,y] h=some ⟨.vs (al r) r.length none,h,[]⟩
 LO:∀x l y m,dj x l->dj y m->okW wB l->okW wB m->l.length<=500000->m.length<=500000->∃r,okW wB r/\aN r/\WV wB r=WV wB l*WV wB m/\∀h,M.ext 248 [x,y] h=some ⟨.vs (al r) r.length none,h,[]⟩
 rB:∀x l y m,dj x l->dj y m->okW wB l->okW wB m->aN l->aN m->l.length<=500000->m.length<=500000->∀h,M.ext 250 [x,y] h=some ⟨.iV (bz (WV wB l-WV wB m)),h,[]⟩
theorem ax.out {v:AV}{z:Int}{hh:aa}(h:ax v z):dZ (aW [v]) hh v:=by
 cases h with
 | small=>exact .same rfl rfl
 | fo=>exact Et
variable {N:Nat}
theorem CI.len (C:CI M N){z:Int}{l:List Int}(ok:okW wB l)(nr:aN l)(hv:WV wB l=aj z)(hz:aj z<wB^N):l.length<=500000:=
 dY (gk (b:=wB) am ok nr (by rw[hv];exact hz)) C.lN
theorem Zq (C:CI M N){v:AV}{z:Int}(hv:ax v z)(hz:aj z<wB^N):∃v0,ax v0 (-z)/\cQ M 216 [v] v0:=by
 obtain⟨x,l,hx,ok,nr,hl,q246⟩:=C.lO v z hv;have len:=C.len ok nr hl hz;obtain⟨v0,h0,q247⟩:=C.kO (!(decide (z<0))) x l hx ok nr ac;have ev:gH (!(decide (z<0))) (WV wB l) = -z:=by
  rw[hl];unfold gH aj;by_cases h:z<0
  . simp[h]
  . simp[h]
 rw[ev]at h0;by_cases hsm:(∃s,v = .agg [.iV s,.ab])/\z ≠ -9223372036854775808
 . obtain⟨⟨s,rfl⟩,hne⟩:=hsm;cases hv with
   | small h=>
   refine⟨.agg [.iV (-z),.ab],.small ac,?_⟩;refine kN (by rw[C.ft];exact LF) be ?_;unfold ye;simp only[enter];repeat' first|(apply acr;rfl;rfl)|refine gd3 ?_|refine gd2 ?_|refine gc ?_|(intro _;omega)|intro _
   all_goals try omega
   exact⟨.inr rfl,rfl,_,rfl,.same rfl rfl⟩
 . refine⟨v0,h0,kN (by rw[C.ft];exact LF) be ?_⟩;have out:=fun hh=>h0.out (hh:=hh)
   cases hv with
   | small h=>
    have hz:z = -9223372036854775808:=Decidable.byContradiction fun h'=>hsm ⟨⟨z,rfl⟩,h'⟩
    subst hz;unfold ye;simp only[enter];cases h0;all_goals
    . repeat' first|(apply acr;rfl;rfl)|refine gd0 ?_|refine gd3 ?_|refine gd2 ?_|refine gc ?_|(intro _;omega)|intro _
      all_goals try omega
      all_goals exact⟨.inr rfl,rfl,_,rfl,out _⟩
   | @fo σ z w hs ok' nr' hw hz'=>
    cases w with
    | nil=>simp[WV]at hw
    | cons y w=>
    unfold ye;simp only[enter];by_cases hn:z<0
    all_goals
    . simp only[hn,decide_true,decide_false,Bool.not_true,Bool.not_false]at q246 q247;cases h0;all_goals
      . repeat' first|refine gd0 ?_|refine gd3 ?_|refine gd2 ?_|refine gc ?_|fail
        all_goals try omega
        all_goals exact⟨.inr rfl,rfl,_,rfl,out _⟩
theorem Zr (hft:M.FT=FT){v:AV}{z:Int}(hv:ax v z):aV M 211 [v] [] ⟨.iV (bz z),[],[]⟩:=by
 refine bH (by rw[hft];exact Zl) be ?_;have key:∀s:Int,(AV.iV (if (if s<1 then s else 1) > -1 then (if s<1 then s else 1) else -1)) = .iV (bz s):=fun s=>by
  congr 1;unfold bz;omega
 cases hv with
 | small h=>
  unfold Ev;simp only[enter];exact gg2
 | @fo σ z w hs ok nr hw hz=>
  have e:bz z=σ:=by
   unfold bz;rcases hs with rfl|rfl
   . omega
   . omega
  have k:=key σ;rw[show bz σ=bz z by grind]at k;unfold Ev;simp only[enter];exact gg2
def t202:ak:=
 zR [zt 34 2 2,
      z1 35 246 34,
      zn 33 35,
      ze 36 0 33,
      ze 37 1 33,
      zw 6 36,
      zw 7 37]
    (
     zR [zt 39 2 3,
       z1 40 246 39,
       zn 38 40,
       ze 41 0 38,
       ze 42 1 38,
       zw 8 41,
       zw 9 42]
     (
      .seq (.block 0
       (
        zR [zm 44 6,
          zm 45 8,
          ⟨(.l 46),.eq false .bool (.l 44) (.l 45),none⟩,
          zn 43 46]
        (
         .cond (.l 43)
         (
          zR [zm 47 6,
            zm 48 7,
            zm 49 9,
            z2 50 249 48 49,
            z2 51 247 47 50,
            zs 2 4 51]
          (.ret))
         (
          zR [zm 53 7,
            zm 54 9,
            z2 55 250 53 54,
            zc 56 .geq 55 0,
            zn 52 56]
          (
           .cond (.l 52)
           (
            zR [zm 57 6,
              zm 58 7,
              zm 59 9,
              z2 60 251 58 59,
              z2 61 247 57 60,
              zs 2 4 61]
            (.ret))
           (.skip))))))
      (
       zR [zm 62 8,
         zm 63 9,
         zm 64 7,
         z2 65 251 63 64,
         z2 66 247 62 65,
         zs 2 4 66]
       (.ret))))
theorem Zs {l m r:List Int}(C:CI M N)(ok:okW wB r)(nr:aN r)(hr:WV wB r=WV wB l+WV wB m)(hl:WV wB l<wB^N)(hm:WV wB m<wB^N):r.length<=1000001:=by
 have hN:=C.lN;have hp:wB^(N+1)=wB^N*18446744073709551616:=(by rfl);have hp0:0<wB^N:=b8 am;exact dY (gk (b:=wB) am ok nr (n:=N+1) ac) ac
def mG (v0:AV)(res:List fA)(e:Ex)(s:aq):Prop:=(e = .normal\/e = .ret)/\s.s.bV=[]/\∃vs,dx s.s res=some vs/\dZ (aW vs) (if (aW vs).top<=0 then [] else s.s.hp) v0
theorem cN {v0:AV}{res:List fA}{s:aq}{vs:List AV}(hd:s.s.bV=[])(h:dx s.s res=some vs)(ho:dZ (aW vs) (if (aW vs).top<=0 then [] else s.s.hp) v0):mG v0 res .ret s:=⟨.inr rfl,hd,vs,h,ho⟩
theorem Zt (C:CI M N){s s' za zb:Int}{wa wb:AV}(ha:ax (.agg [.iV s,wa]) za)(hb:ax (.agg [.iV s',wb]) zb)(lza:aj za<wB^N)(lzb:aj zb<wB^N) :
 ∃v0,ax v0 (za+zb)/\∀a0 a1 a5 a6 a7 a8 a9 lo wr,W M t202 ⟨⟨[a0,a1,.ptr 0 0,.ptr 1 0,.ptr 2 0,a5,a6,a7,a8,a9],lo,[some (.cells [.iV s,wa] 131),some (.cells [.iV s',wb] 131),some (.cells [.iV 0,.ab] 131)],[]⟩,wr⟩ (mG v0 [.cell 2 true (.p 4)]):=by
 obtain⟨x,l,hx,okl,nrl,vl,q246a⟩:=C.lO _ za ha;obtain⟨y,m,hy,okm,nrm',vm,q246b⟩:=C.lO _ zb hb;have ll:=C.len okl nrl vl lza;have lm:=C.len okm nrm' vm lzb;have l0:=cB (b:=wB) am okl;have m0:=cB (b:=wB) am okm;have lN:=C.lN;by_cases hs:decide (za<0)=decide (zb<0)
 . obtain⟨r,okr,nrr,vr,q249⟩:=C.LN x l y m hx hy okl okm ll lm;obtain⟨v0,h0,q247⟩:=C.kO (decide (za<0)) (.vs (al r) r.length none) r (.inl rfl) okr nrr (Zs C okr nrr vr ac ac);have ev:gH (decide (za<0)) (WV wB r)=za+zb:=by
    rw[vr,vl,vm];unfold gH aj;by_cases h:za<0 <;> by_cases h':zb<0 <;> simp[h,h']at hs ⊢ <;> omega
   rw[ev]at h0;refine⟨v0,h0,fun a0 a1 a5 a6 a7 a8 a9 lo wr=>?_⟩;have out:=fun hh=>h0.out (hh:=hh)
   unfold t202;by_cases h:za<0 <;> by_cases h':zb<0 <;> simp only[h,h',decide_true,decide_false]at hs q246a q246b q247
   all_goals first|(exfalso;revert hs;decide)|skip
   all_goals
   . cases h0;all_goals
     . repeat' first|refine gd0 ?_|refine gc ?_|fail
       all_goals try omega
       all_goals exact cN rfl rfl (out _)
 have q250:=C.rB x l y m hx hy okl okm nrl nrm' ll lm;by_cases hc:WV wB m<=WV wB l
 . obtain⟨g,hg⟩:∃g,g=bz (WV wB l-WV wB m):=⟨_,rfl⟩;have g0:0<=g:=by rw[hg];unfold bz;split <;> omega
   rw[←hg]at q250;obtain⟨r,okr,nrr,vr,q251⟩:=C.Ey x l y m hx hy okl okm nrl nrm' ll lm hc;obtain⟨v0,h0,q247⟩:=C.kO (decide (za<0)) (.vs (al r) r.length none) r (.inl rfl) okr nrr (dY (gk (b:=wB) am okr nrr (n:=N) ac) ac);have ev:gH (decide (za<0)) (WV wB r)=za+zb:=by
    rw[vr,vl,vm];unfold gH aj;by_cases h:za<0 <;> by_cases h':zb<0 <;> simp[h,h']at hs ⊢ <;> omega
   rw[ev]at h0;refine⟨v0,h0,fun a0 a1 a5 a6 a7 a8 a9 lo wr=>?_⟩;have out:=fun hh=>h0.out (hh:=hh)
   unfold t202;by_cases h:za<0 <;> by_cases h':zb<0 <;> simp only[h,h',decide_true,decide_false]at hs q246a q246b q247
   all_goals first|(exfalso;revert hs;decide)|skip
   all_goals
   . cases h0;all_goals
     . repeat' first|(apply agV;rfl;rfl)|refine gd0 ?_|refine gc ?_|(intro _;omega)|intro _
       all_goals try omega
       all_goals exact cN rfl rfl (out _)
 . obtain⟨g,hg⟩:∃g,g=bz (WV wB l-WV wB m):=⟨_,rfl⟩;have g0:g<0:=by rw[hg];unfold bz;split <;> omega
   rw[←hg]at q250;obtain⟨r,okr,nrr,vr,q251⟩:=C.Ey y m x l hy hx okm okl nrm' nrl lm ll ac;obtain⟨v0,h0,q247⟩:=C.kO (decide (zb<0)) (.vs (al r) r.length none) r (.inl rfl) okr nrr (dY (gk (b:=wB) am okr nrr (n:=N) ac) ac);have ev:gH (decide (zb<0)) (WV wB r)=za+zb:=by
    rw[vr,vl,vm];unfold gH aj;by_cases h:za<0 <;> by_cases h':zb<0 <;> simp[h,h']at hs ⊢ <;> omega
   rw[ev]at h0;refine⟨v0,h0,fun a0 a1 a5 a6 a7 a8 a9 lo wr=>?_⟩;have out:=fun hh=>h0.out (hh:=hh)
   unfold t202;by_cases h:za<0 <;> by_cases h':zb<0 <;> simp only[h,h',decide_true,decide_false]at hs q246a q246b q247
   all_goals first|(exfalso;revert hs;decide)|skip
   all_goals
   . cases h0;all_goals
     . repeat' first|(apply agV;rfl;rfl)|refine gd0 ?_|refine gc ?_|(intro _;omega)|intro _
       all_goals try omega
       all_goals exact cN rfl rfl (out _)
theorem Zu {x:Int}(h:9223372036854775808<=x/\x<18446744073709551616):IntKind.i64.wrap x=x-18446744073709551616:=by
 simp only[IntKind.wrap,IntKind.bits,IntKind.signed];simp;omega
theorem Zv {x:Int}(h : -18446744073709551616<=x/\x < -9223372036854775808):IntKind.i64.wrap x=x+18446744073709551616:=by
 simp only[IntKind.wrap,IntKind.bits,IntKind.signed];simp;omega
theorem ana {t:Nat}{x y:ay}{l:List aX}{pe:List AV}{lo:List (Nat×AV)}{hp:aa}{df wr:List Nat}{a b v:Int}{Q:aq->Prop}(hx:(St.mk pe lo hp df).ae x=some (.iV a))(hy:(St.mk pe lo hp df).ae y=some (.iV b))(hv:IntKind.i64.wrap (a+b)=v)
 (h:WO M l ⟨⟨pe,(t,.iV v)::lo,hp,df⟩,wr⟩ Q):WO M (⟨.l t,.bin .add x y,none⟩::l) ⟨⟨pe,lo,hp,df⟩,wr⟩ Q:=
 abL (v:=.iV v) (by simp[aY,hx,hy,cU,hv]) rfl h
theorem cR {f n:Nat}{aR:List Nat}{res:List fA}{body:ak}{ars:List AV}{v0:AV}(hft:M.FT f=some ⟨n,aR,res,body⟩)(hN:ars.length<=n)
 (h:W M body ⟨⟨aR.map (fun t=>(ars[t]?).getD bD),[],[],[]⟩,[]⟩ (mG v0 res)):cQ M f ars v0:=kN hft hN h
theorem Zw (C:CI M N){a b:AV}{za zb:Int}(ha:ax a za)(hb:ax b zb)(lza:aj za<wB^N)(lzb:aj zb<wB^N):∃v0,ax v0 (za+zb)/\cQ M 202 [a,b] v0:=by
 by_cases hsm:(∃s s',a = .agg [.iV s,.ab]/\b = .agg [.iV s',.ab])/\(-9223372036854775808<=za+zb/\za+zb<9223372036854775808)
 . obtain⟨⟨s,s',rfl,rfl⟩,hr⟩:=hsm;cases ha with
   | small h=>
   cases hb with
   | small h'=>
   refine⟨.agg [.iV (za+zb),.ab],.small hr,?_⟩;refine cR (by rw[C.ft];exact tP) be ?_;unfold rE;simp only[enter];exact gg3
 . have main:∀{s s':Int} {wa wb:AV},a = .agg [.iV s,wa]->b = .agg [.iV s',wb]->∃v0,ax v0 (za+zb)/\∀a0 a1 a5 a6 a7 a8 a9 lo wr,W M t202 ⟨⟨[a0,a1,.ptr 0 0,.ptr 1 0,.ptr 2 0,a5,a6,a7,a8,a9],lo,[some (.cells [.iV s,wa] 131),some (.cells [.iV s',wb] 131),some (.cells [.iV 0,.ab] 131)],[]⟩,wr⟩ (mG v0 [.cell 2 true (.p 4)]):=
    fun e1 e2=>Zt C (e1 ▸ ha) (e2 ▸ hb) lza lzb
   cases ha with
   | small h=>
    cases hb with
    | small h'=>
     have hne:¬(-9223372036854775808<=za+zb/\za+zb<9223372036854775808):=fun hr=>hsm ⟨⟨_,_,rfl,rfl⟩,hr⟩
     obtain⟨v0,h0,tl⟩:=main rfl rfl;refine⟨v0,h0,cR (by rw[C.ft];exact tP) be ?_⟩;obtain⟨c,hc,hc2⟩:∃c,IntKind.i64.wrap (za+zb)=c/\(c=za+zb-18446744073709551616/\9223372036854775808<=za+zb\/c=za+zb+18446744073709551616/\za+zb < -9223372036854775808):=by
      rcases f8 (za+zb) 0 with h1|h1
      . exact⟨_,Zv ac,.inr ⟨rfl,ac⟩⟩
      . exact⟨_,Zu ac,.inl ⟨rfl,ac⟩⟩
     unfold rE;simp only[enter];exact gg7
    | @fo σ z w hs ok nr hw hz=>
     cases w with
     | nil=>simp[WV]at hw
     | cons y w=>
     obtain⟨v0,h0,tl⟩:=main rfl rfl;refine⟨v0,h0,cR (by rw[C.ft];exact tP) be ?_⟩;unfold rE;simp only[enter];exact gg7
   | @fo σ z w hs ok nr hw hz=>
    cases w with
    | nil=>simp[WV]at hw
    | cons y w=>
    cases hb with
    | small h'=>
     obtain⟨v0,h0,tl⟩:=main rfl rfl;refine⟨v0,h0,cR (by rw[C.ft];exact tP) be ?_⟩;unfold rE;simp only[enter];exact gg7
    | @fo σ' z' w' hs' ok' nr' hw' hz'=>
     cases w' with
     | nil=>simp[WV]at hw'
     | cons y' w'=>
     obtain⟨v0,h0,tl⟩:=main rfl rfl;refine⟨v0,h0,cR (by rw[C.ft];exact tP) be ?_⟩;unfold rE;simp only[enter];exact gg7
def Op1 (M:aw)(N g:Nat)(f:Int->Int):Prop:=∀v z,ax v z->aj z<wB^N->∃v0,ax v0 (f z)/\∀h,M.ext g [v] h=some ⟨v0,h,[]⟩
def yg (M:aw)(N g:Nat)(f:Int->Int->Int):Prop:=∀a b x y,ax a x->ax b y->aj x<wB^N->aj y<wB^N->∃v0,ax v0 (f x y)/\∀h,M.ext g [a,b] h=some ⟨v0,h,[]⟩
structure Ez (M:aw)(N:Nat):Prop extends CI M N where
 mH:Op1 M N 216 (fun z=>-z)
 rH:yg M N 202 (· + ·)
structure CJ (M:aw)(N:Nat):Prop extends Ez M N where
 EA:yg M N 217 (· - ·)
 nT:∀v z,ax v z->∀h,M.ext 211 [v] h=some ⟨.iV (bz z),h,[]⟩
theorem jR {z:Int}:aj (-z)=aj z:=by unfold aj;split <;> split <;> omega
theorem Zx (C:Ez M N){a b:AV}{x y:Int}(ha:ax a x)(hb:ax b y)(lx:aj x<wB^N)(ly:aj y<wB^N):∃v0,ax v0 (x-y)/\cQ M 217 [a,b] v0:=by
 obtain⟨v1,h1,q216⟩:=C.mH b y hb ly;obtain⟨v0,h0,q202⟩:=C.rH a v1 x (-y) ha h1 lx (by rw[jR];exact ly);have h0:ax v0 (x-y):=by rw[Int.sub_eq_add_neg];exact h0
 refine⟨v0,h0,cR (by rw[C.ft];exact Zm) be ?_⟩;have out:=fun hh=>h0.out (hh:=hh)
 unfold LH;simp only[enter];cases ha;all_goals
 . cases hb;all_goals
   . cases h0;all_goals
     . repeat' first|refine gd1 ?_|refine gd3 ?_|refine gd2 ?_|refine gc ?_|fail
       all_goals exact cN rfl rfl (out _)
theorem Zy (C:CJ M N){v:AV}{z:Int}(hv:ax v z)(lz:aj z<wB^N):∃v0,ax v0 (aj z)/\cQ M 210 [v] v0:=by
 by_cases hn:z<0
 . obtain⟨v0,h0,q216⟩:=C.mH v z hv lz;have h0:ax v0 (aj z):=by rw[show aj z = -z from if_pos hn];exact h0
   refine⟨v0,h0,cR (by rw[C.ft];exact LG) be ?_⟩;have out:=fun hh=>h0.out (hh:=hh)
   unfold Eu;simp only[enter];cases hv with
   | small h=>
    cases h0;all_goals
    . exact gg3
   | @fo σ z w hs ok nr hw hz=>
    have e:σ<0:=by rcases hs with rfl|rfl <;> omega
    cases h0;all_goals
    . exact gg3
 . have e:aj z=z:=if_neg hn;rw[e];refine⟨v,hv,cR (by rw[C.ft];exact LG) be ?_⟩;have out:=fun hh=>hv.out (hh:=hh)
   unfold Eu;simp only[enter];cases hv with
   | small h=>
    exact gg18
   | @fo σ z w hs ok nr hw hz=>
    have e:¬σ<0:=by rcases hs with rfl|rfl <;> omega
    exact gg18
theorem LP {x y:Int}:bz (x-y)=if x<y then -1 else if y<x then 1 else 0:=by
 unfold bz;by_cases h:x<y
 . rw[if_pos h,if_pos ac]
 . rw[if_neg h,if_neg ac];by_cases h':y<x
   . rw[if_pos h',if_pos ac]
   . rw[if_neg h',if_neg ac]
theorem Zz (C:CJ M N){a b:AV}{x y:Int}(ha:ax a x)(hb:ax b y)(lx:aj x<wB^N)(ly:aj y<wB^N):cQ M 167 [a,b] (.iV (bz (x-y))):=by
 obtain⟨v0,h0,q217⟩:=C.EA a b x y ha hb lx ly;have q211:=C.nT v0 (x-y) h0;refine cR (by rw[C.ft];exact Zn) be ?_;unfold LJ;simp only[enter];cases ha with
 | small h=>
  cases hb with
  | small h'=>
   by_cases h1:x<y
   . rw[LP,if_pos h1];exact gg9
   . rw[LP,if_neg h1];by_cases h2:y<x
     . rw[if_pos h2];exact gg3
     . rw[if_neg h2];exact gg3
  | @fo σ z w hs ok nr hw hz=>
   cases w with
   | nil=>simp[WV]at hw
   | cons u w=>
   exact gg7
 | @fo σ z w hs ok nr hw hz=>
  cases w with
  | nil=>simp[WV]at hw
  | cons u w=>
  cases hb;all_goals
  . exact gg7
theorem ZA (hft:M.FT=FT)(s:Int):cQ M 168 [.iV s] (.agg [.iV s,.ab]):=by
 refine cR (by rw[hft];exact Zo) be ?_;unfold LK;simp only[enter];exact gg3
def t198:ak:=
 zR [zt 50 2 2,
      z1 51 246 50,
      zn 49 51,
      ze 52 0 49,
      ze 53 1 49,
      zw 7 52,
      zw 8 53]
    (
     zR [zt 55 2 3,
       z1 56 246 55,
       zn 54 56,
       ze 57 0 54,
       ze 58 1 54,
       zw 9 57,
       zw 10 58]
     (
      zR [zm 59 7,
        zm 60 9,
        ⟨(.l 61),.eq true .bool (.l 59) (.l 60),none⟩,
        zm 62 8,
        zm 63 10,
        z2 64 248 62 63,
        z2 65 247 61 64,
        zs 2 4 65]
      (.ret)))
theorem ju {x:Int}:0<=aj x:=by unfold aj;split <;> omega
theorem LR {x y:Int}(h:x<0↔y<0):aj x*aj y=x*y:=by
 unfold aj;by_cases h1:x<0
 . rw[if_pos h1,if_pos (h.1 h1),Int.neg_mul_neg]
 . rw[if_neg h1,if_neg (fun h2=>h1 (h.2 h2))]
theorem LS {x y:Int}(h:¬(x<0↔y<0)) : -(aj x*aj y)=x*y:=by
 unfold aj;by_cases h1:x<0
 . rw[if_pos h1,if_neg (fun h2=>h ⟨fun _=>h2,fun _=>h1⟩),Int.neg_mul,Int.neg_neg]
 . rw[if_neg h1,if_pos (Decidable.byContradiction fun h2=>h ⟨fun h3=>absurd h3 h1,fun h3=>absurd h3 h2⟩),Int.mul_neg,Int.neg_neg]
theorem ZB {l m r:List Int}(C:CI M N)(ok:okW wB r)(nr:aN r)(okl:okW wB l)(okm:okW wB m)(hr:WV wB r=WV wB l*WV wB m)(hl:WV wB l<wB^N)(hm:WV wB m<wB^N):r.length<=1000001:=by
 have hN:=C.lN;have hp:wB^(N+N)=wB^N*wB^N:=c7 _ _ _;have l0:=cB (b:=wB) am okl;have m0:=cB (b:=wB) am okm;have hp0:0<wB^N:=b8 am;have h1:WV wB l*WV wB m<wB^N*wB^N:=by
  have a1:=b5 (b6 hm) l0;have a2:=b7 hl hp0;omega
 exact dY (gk (b:=wB) am ok nr (n:=N+N) (by rw[hr,hp];exact h1)) ac
theorem ZC (C:CI M N){s s' za zb:Int}{wa wb:AV}(ha:ax (.agg [.iV s,wa]) za)(hb:ax (.agg [.iV s',wb]) zb)(lza:aj za<wB^N)(lzb:aj zb<wB^N) :
 ∃v0,ax v0 (za*zb)/\∀a0 a1 a5 a6 a7 a8 a9 aA lo wr,W M t198 ⟨⟨[a0,a1,.ptr 0 0,.ptr 1 0,.ptr 2 0,a5,a6,a7,a8,a9,aA],lo,[some (.cells [.iV s,wa] 131),some (.cells [.iV s',wb] 131),some (.cells [.iV 0,.ab] 131)],[]⟩,wr⟩ (mG v0 [.cell 2 true (.p 4)]):=by
 obtain⟨x,l,hx,okl,nrl,vl,q246a⟩:=C.lO _ za ha;obtain⟨y,m,hy,okm,nrm',vm,q246b⟩:=C.lO _ zb hb;have ll:=C.len okl nrl vl lza;have lm:=C.len okm nrm' vm lzb;obtain⟨r,okr,nrr,vr,q248⟩:=C.LO x l y m hx hy okl okm ll lm;have lr:=ZB C okr nrr okl okm vr (by rw[vl];exact lza) (by rw[vm];exact lzb);rw[vl,vm]at vr;by_cases hs:za<0↔zb<0
 . obtain⟨v0,h0,q247⟩:=C.kO false (.vs (al r) r.length none) r (.inl rfl) okr nrr lr;have h0:ax v0 (za*zb):=by rw[←LR hs,←vr];exact h0
   refine⟨v0,h0,fun a0 a1 a5 a6 a7 a8 a9 aA lo wr=>?_⟩;have out:=fun hh=>h0.out (hh:=hh)
   unfold t198;by_cases h:za<0 <;> by_cases h':zb<0 <;> simp only[h,h',decide_true,decide_false]at hs q246a q246b
   all_goals first|(exfalso;revert hs;decide)|skip
   all_goals
   . cases h0;all_goals
     . repeat' first|refine gd0 ?_|refine gc ?_|fail
       all_goals exact cN rfl rfl (out _)
 . obtain⟨v0,h0,q247⟩:=C.kO true (.vs (al r) r.length none) r (.inl rfl) okr nrr lr;have h0:ax v0 (za*zb):=by rw[←LS hs,←vr];exact h0
   refine⟨v0,h0,fun a0 a1 a5 a6 a7 a8 a9 aA lo wr=>?_⟩;have out:=fun hh=>h0.out (hh:=hh)
   unfold t198;by_cases h:za<0 <;> by_cases h':zb<0 <;> simp only[h,h',decide_true,decide_false]at hs q246a q246b
   all_goals first|(exfalso;revert hs;decide)|skip
   all_goals
   . cases h0;all_goals
     . repeat' first|refine gd0 ?_|refine gc ?_|fail
       all_goals exact cN rfl rfl (out _)
theorem ZD (C:CI M N){a b:AV}{za zb:Int}(ha:ax a za)(hb:ax b zb)(lza:aj za<wB^N)(lzb:aj zb<wB^N):∃v0,ax v0 (za*zb)/\cQ M 198 [a,b] v0:=by
 have main:∀{s s':Int} {wa wb:AV},a = .agg [.iV s,wa]->b = .agg [.iV s',wb]->∃v0,ax v0 (za*zb)/\∀a0 a1 a5 a6 a7 a8 a9 aA lo wr,W M t198 ⟨⟨[a0,a1,.ptr 0 0,.ptr 1 0,.ptr 2 0,a5,a6,a7,a8,a9,aA],lo,[some (.cells [.iV s,wa] 131),some (.cells [.iV s',wb] 131),some (.cells [.iV 0,.ab] 131)],[]⟩,wr⟩ (mG v0 [.cell 2 true (.p 4)]):=
  fun e1 e2=>ZC C (e1 ▸ ha) (e2 ▸ hb) lza lzb
 cases ha with
 | small h=>
  cases hb with
  | small h'=>
   have q245a:=fun k=>C.tO za k h
   have q245b:=fun k=>C.tO zb k h'
   have ga:0<=aj za/\aj za<18446744073709551616:=by unfold aj;split <;> omega
   have gb:0<=aj zb/\aj zb<18446744073709551616:=by unfold aj;split <;> omega
   have q244:=fun k=>C.pK (aj za) (aj zb) k ga gb
   have hm:=xX ga gb;have ms:=@LR za zb;have md:=@LS za zb;obtain⟨m,hmm⟩:∃m,m=aj za*aj zb:=⟨_,rfl⟩;rw[←hmm]at q244 hm ms md;by_cases hbig:m<=9223372036854775807
   . by_cases hs:za<0↔zb<0
     . refine⟨.agg [.iV m,.ab],by rw[←ms hs];exact .small ac,?_⟩;refine cR (by rw[C.ft];exact tQ) be ?_;have e:m%18446744073709551616=m:=by omega
       have e2:m/18446744073709551616=0:=by omega
       rw[e,e2]at q244;unfold rF;simp only[enter];by_cases h1:za<0 <;> by_cases h2:zb<0
       all_goals try omega
       all_goals
       . repeat' first|refine gd1 ?_|(apply abd;rfl;rfl)|(apply aiZ;rfl;rfl)|(apply aeJ;rfl;rfl)|refine gd3 ?_|refine gd2 ?_|refine gc ?_|(intro _;omega)|intro _
         all_goals try omega
         all_goals exact cN rfl rfl (.same rfl rfl)
     . refine⟨.agg [.iV (-m),.ab],by rw[←md hs];exact .small ac,?_⟩;refine cR (by rw[C.ft];exact tQ) be ?_;have e:m%18446744073709551616=m:=by omega
       have e2:m/18446744073709551616=0:=by omega
       rw[e,e2]at q244;unfold rF;simp only[enter];by_cases h1:za<0 <;> by_cases h2:zb<0
       all_goals try omega
       all_goals
       . repeat' first|refine gd1 ?_|(apply abd;rfl;rfl)|(apply aiZ;rfl;rfl)|(apply aeJ;rfl;rfl)|refine gd3 ?_|refine gd2 ?_|refine gc ?_|(intro _;omega)|intro _
         all_goals try omega
         all_goals exact cN rfl rfl (.same rfl rfl)
   . obtain⟨v0,h0,tl⟩:=main rfl rfl;refine⟨v0,h0,cR (by rw[C.ft];exact tQ) be ?_⟩;unfold rF;simp only[enter];exact gg9
  | @fo σ z w hs ok nr hw hz=>
   cases w with
   | nil=>simp[WV]at hw
   | cons y w=>
   obtain⟨v0,h0,tl⟩:=main rfl rfl;refine⟨v0,h0,cR (by rw[C.ft];exact tQ) be ?_⟩;unfold rF;simp only[enter];exact gg9
 | @fo σ z w hs ok nr hw hz=>
  cases w with
  | nil=>simp[WV]at hw
  | cons y w=>
  cases hb;all_goals
  . obtain⟨v0,h0,tl⟩:=main rfl rfl;refine⟨v0,h0,cR (by rw[C.ft];exact tQ) be ?_⟩;unfold rF;simp only[enter];exact gg9
structure CD (M:aw)(N:Nat):Prop extends CJ M N where
 n1:1<=N
 pP:∀s h,M.ext 168 [.iV s] h=some ⟨.agg [.iV s,.ab],h,[]⟩
 LU:∀x l y m,dj x l->dj y m->okW wB l->okW wB m->aN l->aN m->l.length<=500000->m.length<=500000->m≠[]->∃qv q rv r,dj qv q/\dj rv r/\okW wB q/\aN q/\okW wB r/\aN r/\WV wB q=WV wB l/WV wB m/\WV wB r=WV wB l%WV wB m/\∀h,M.ext 253 [x,y] h=some ⟨.au [qv,rv],h,[]⟩
def t205:ak:=
 zR [zt 52 2 2,
      z1 53 246 52,
      zn 51 53,
      ze 54 0 51,
      ze 55 1 51,
      zw 8 54,
      zw 9 55]
    (
     zR [zt 57 2 3,
       z1 58 246 57,
       zn 56 58,
       ze 59 0 56,
       ze 60 1 56,
       zn 10 59,
       zw 10 60]
     (
      zR [zm 62 9,
        zm 63 10,
        z2 64 253 62 63,
        zn 61 64,
        ze 65 0 61,
        ze 66 1 61,
        zw 11 65,
        zw 12 66]
      (
       zR [zm 67 8,
         zm 68 11,
         z2 69 247 67 68,
         zm 70 8,
         zm 71 12,
         z2 72 247 70 71,
         ⟨(.p 13),.alloc 131 [.iV (0),.ab],none⟩,
         ⟨(.p 14),.alloc 131 [.iV (0),.ab],none⟩,
         zs 2 13 69,
         zs 2 14 72]
       (
        .seq (zR [zt 73 2 14,
           z1 74 211 73,
           zc 75 .lss 74 0]
         (
          .cond (.l 75)
          (.draw [(zt 76 2 13,[]),
            (⟨(.l 77),.call (kF 168) [(kI 1)],none⟩,[0]),
            (z2 78 217 76 77,[]),
            (zt 79 2 14,[0,1,2]),
            (zt 80 2 3,[0,1,2,3]),
            (z2 81 202 79 80,[]),
            (zs 2 13 78,[]),
            (zs 2 14 81,[])])
          (.skip)))
        (
         .seq (.draw [(zt 82 2 13,[]),
           (zt 83 2 14,[0]),
           (zs 2 4 82,[1]),
           (zs 2 5 83,[])])
         (.ret))))))
theorem ZE {x y:Int}(hy:0<y):(x.tmod y<0->x/y=x.tdiv y-1/\x%y=x.tmod y+y)/\(0<=x.tmod y->x/y=x.tdiv y/\x%y=x.tmod y)/\(-y<x.tmod y/\x.tmod y<y):=by
 have e:=Int.mul_tdiv_add_tmod x y;have hb : -y<x.tmod y/\x.tmod y<y:=by
  rcases Int.le_total 0 x with h|h
  . rw[f6 h];have:=fm x (show y≠0 by omega);have:=dN x hy;omega
  . have e:x.tmod y = -(-x%y):=by
     rw[←f6 ac,Int.neg_tmod];omega
    have:=fm (-x) (show y≠0 by omega);have:=dN (-x) hy;omega
 refine⟨fun h=>?_,fun h=>?_,hb⟩
 . obtain⟨h1,h2⟩:=nS (x:=x) (y:=y) (q:=x.tdiv y-1) (r:=x.tmod y+y) bS ac ac;omega
 . obtain⟨h1,h2⟩:=nS (x:=x) (y:=y) (q:=x.tdiv y) (r:=x.tmod y) ac h hb.2;omega
theorem ZF {x y q r:Int}(hy:0<y)(hx:x<0)(hq:q = -x/y)(hr:r = -x%y):(r=0->x/y = -q/\x%y=0)/\(r≠0->x/y = -q-1/\x%y=y-r)/\(0<=r/\r<y)/\0<=q/\q <= -x:=by
 have e:=Int.mul_ediv_add_emod (-x) y;have r0:=fm (-x) (show y≠0 by omega);have r1:=dN (-x) hy;have q0:0 <= -x/y:=Int.ediv_nonneg ac ac;have q1 : -x/y <= -x:=it _ ac;rw[←hq,←hr]at e;rw[←hr]at r0 r1;rw[←hq]at q0 q1;refine⟨fun h=>?_,fun h=>?_,⟨r0,r1⟩,q0,q1⟩
 . obtain⟨h1,h2⟩:=nS (x:=x) (y:=y) (q:=-q) (r:=0) bS ac hy;omega
 . obtain⟨h1,h2⟩:=nS (x:=x) (y:=y) (q:=-q-1) (r:=y-r) bS ac ac;omega
theorem EB {a b:AV}{x y:Int}{hh:aa}(ha:ax a x)(hb:ax b y):dZ (aW [a,b]) hh (.au [a,b]):=by
 cases ha;all_goals
 . cases hb;all_goals exact .same (by simp[aW,AV.top,bc,ib]) (by simp[aW,bL,cG,mY])
theorem cH {x:Int}(h:0<=x):aj x=x:=if_neg ac
theorem ZG (C:CD M N):(1:Int)<wB^N:=by
 have h:=gS (b:=wB) am (m:=1) (n:=N) C.n1;grind
theorem ZH (C:CD M N){s s' za zb:Int}{wa wb:AV}(ha:ax (.agg [.iV s,wa]) za)(hb:ax (.agg [.iV s',wb]) zb)(lza:aj za<wB^N)(lzb:aj zb<wB^N)(hpos:0<zb) :
 ∃q r,ax q (za/zb)/\ax r (za%zb)/\∀a0 a1 a6 a7 a8 a9 aA aB aC aD aE lo wr,W M t205 ⟨⟨[a0,a1,.ptr 0 0,.ptr 1 0,.ptr 2 0,.ptr 3 0,a6,a7,a8,a9,aA,aB,aC,aD,aE],lo,[some (.cells [.iV s,wa] 131),some (.cells [.iV s',wb] 131),some (.cells [.iV 0,.ab] 131),some (.cells [.iV 0,.ab] 131)],[]⟩,wr⟩ (mG (.au [q,r]) [.cell 2 true (.p 4),.cell 2 true (.p 5)]):=by
 obtain⟨x,l,hx,okl,nrl,vl,q246a⟩:=C.lO _ za ha;obtain⟨y,m,hy,okm,nrm',vm,q246b⟩:=C.lO _ zb hb;have ll:=C.len okl nrl vl lza;have lm:=C.len okm nrm' vm lzb;have hb0:¬zb<0:=by omega
 rw[cH ac]at vm lzb;have mne:m≠[]:=fun e=>by rw[e]at vm;simp[WV]at vm;omega
 obtain⟨qv,q,rv,r,hq,hr,okq,nrq,okr,nrr,vq,vr,q253⟩:=C.LU x l y m hx hy okl okm nrl nrm' ll lm mne;rw[vl,vm]at vq vr;have q0:=cB (b:=wB) am okq;have r0:=cB (b:=wB) am okr;have a0:=ju (x:=za);have q1:WV wB q<=aj za:=by rw[vq];exact it _ a0
 have r1:WV wB r<zb:=by rw[vr];exact dN _ hpos
 have lN:=C.lN;have lq:q.length<=1000001:=dY (gk (b:=wB) am okq nrq (n:=N) ac) ac;have lr:r.length<=1000001:=dY (gk (b:=wB) am okr nrr (n:=N) ac) ac;simp only[hb0,decide_false]at q246b;by_cases hn:za<0
 . simp only[hn,decide_true]at q246a;rw[show aj za = -za from if_pos hn]at vq vr q1 lza;obtain⟨d1,d2,d3,d4,d5⟩:=ZF hpos hn vq vr;obtain⟨vQ,hQ,q247q⟩:=C.kO true qv q hq okq nrq lq;obtain⟨vR,hR,q247r⟩:=C.kO true rv r hr okr nrr lr;have hQ:ax vQ (-WV wB q):=hQ;have hR:ax vR (-WV wB r):=hR;have q211:=C.nT vR _ hR;by_cases hz:WV wB r=0
   . obtain⟨e1,e2⟩:=d1 hz;rw[show bz (-WV wB r)=0 by rw[hz];rfl]at q211;refine⟨vQ,vR,bS,bS,fun a0 a1 a6 a7 a8 a9 aA aB aC aD aE lo wr=>?_⟩;have out:=fun hh=>EB (hh:=hh) hQ hR
     unfold t205;cases hQ;all_goals
     . cases hR;all_goals
       . repeat' first|(apply abd;rfl;rfl)|refine gd0 ?_|refine gc ?_|(intro _;omega)|intro _
         all_goals try omega
         all_goals exact cN rfl rfl (out _)
   . obtain⟨e1,e2⟩:=d2 hz;rw[show bz (-WV wB r) = -1 from if_pos ac]at q211;have q168:=C.pP 1;have h1:=ZG C;obtain⟨vS,hS,q217⟩:=C.EA vQ _ _ 1 hQ (.small am) (by rw[jR,cH q0];omega) h1;obtain⟨vT,hT,q202⟩:=C.rH vR _ _ zb hR hb (by rw[jR,cH r0];omega) (by rw[cH ac];exact lzb);have hS:ax vS (za/zb):=by rw[e1];exact hS
     have hT:ax vT (za%zb):=by rw[e2,show zb-WV wB r = -WV wB r+zb by omega];exact hT
     refine⟨vS,vT,hS,hT,fun a0 a1 a6 a7 a8 a9 aA aB aC aD aE lo wr=>?_⟩;have out:=fun hh=>EB (hh:=hh) hS hT
     unfold t205;cases hQ;all_goals
     . cases hR;all_goals
       . cases hS;all_goals
         . cases hT;all_goals
           . repeat' first|refine gd1 ?_|(apply abd;rfl;rfl)|refine gd0 ?_|refine gc ?_|(intro _;omega)|intro _
             all_goals try omega
             all_goals exact cN rfl rfl (out _)
 . simp only[hn,decide_false]at q246a;rw[show aj za=za from if_neg hn]at vq vr;obtain⟨vQ,hQ,q247q⟩:=C.kO false qv q hq okq nrq lq;obtain⟨vR,hR,q247r⟩:=C.kO false rv r hr okr nrr lr;have hQ:ax vQ (za/zb):=by rw[←vq];exact hQ
   have q211:=C.nT vR _ hR;have hR:ax vR (za%zb):=by rw[←vr];exact hR
   obtain⟨g,hg⟩:∃g,g=bz (gH false (WV wB r)):=⟨_,rfl⟩;have g0:0<=g:=by rw[hg];unfold bz gH;simp;split <;> omega
   rw[←hg]at q211;refine⟨vQ,vR,hQ,hR,fun a0 a1 a6 a7 a8 a9 aA aB aC aD aE lo wr=>?_⟩;have out:=fun hh=>EB (hh:=hh) hQ hR
   unfold t205;cases hQ;all_goals
   . cases hR;all_goals
     . repeat' first|(apply abd;rfl;rfl)|refine gd0 ?_|refine gc ?_|(intro _;omega)|intro _
       all_goals try omega
       all_goals exact cN rfl rfl (out _)
theorem ZI (C:CD M N){a b:AV}{za zb:Int}(ha:ax a za)(hb:ax b zb)(lza:aj za<wB^N)(lzb:aj zb<wB^N)(hpos:0<zb):∃q r,ax q (za/zb)/\ax r (za%zb)/\cQ M 205 [a,b] (.au [q,r]):=by
 have main:∀{s s':Int} {wa wb:AV},a = .agg [.iV s,wa]->b = .agg [.iV s',wb]->∃q r,ax q (za/zb)/\ax r (za%zb)/\∀a0 a1 a6 a7 a8 a9 aA aB aC aD aE lo wr,W M t205 ⟨⟨[a0,a1,.ptr 0 0,.ptr 1 0,.ptr 2 0,.ptr 3 0,a6,a7,a8,a9,aA,aB,aC,aD,aE],lo,[some (.cells [.iV s,wa] 131),some (.cells [.iV s',wb] 131),some (.cells [.iV 0,.ab] 131),some (.cells [.iV 0,.ab] 131)],[]⟩,wr⟩ (mG (.au [q,r]) [.cell 2 true (.p 4),.cell 2 true (.p 5)]):=
  fun e1 e2=>ZH C (e1 ▸ ha) (e2 ▸ hb) lza lzb hpos
 cases ha with
 | small h=>
  cases hb with
  | small h'=>
   by_cases hmin:za = -9223372036854775808
   . obtain⟨q,r,hq,hr,tl⟩:=main rfl rfl;refine⟨q,r,hq,hr,cR (by rw[C.ft];exact tS) be ?_⟩;unfold rG;simp only[enter];exact gg16
   . obtain⟨d1,d2,d3⟩:=ZE (x:=za) hpos;have hq : -9223372036854775807<=za.tdiv zb/\za.tdiv zb<=9223372036854775807:=by
      have h1:(za.tdiv zb).natAbs<=za.natAbs:=by rw[Int.natAbs_tdiv];exact Nat.div_le_self _ _
      omega
     by_cases hr:za.tmod zb<0
     . obtain⟨e1,e2⟩:=d1 hr;refine⟨_,_,by rw[e1];exact .small ac,by rw[e2];exact .small ac,cR (by rw[C.ft];exact tS) be ?_⟩;unfold rG;simp only[enter];repeat' first|(apply abd;rfl;rfl)|(apply acr;rfl;rfl)|(apply alJ;rfl;rfl;omega)|(apply alI;rfl;rfl;omega;omega)|refine gc ?_|(intro _;omega)|intro _
       all_goals try omega
       all_goals exact cN rfl rfl (.same rfl rfl)
     . obtain⟨e1,e2⟩:=d2 ac;refine⟨_,_,by rw[e1];exact .small ac,by rw[e2];exact .small ac,cR (by rw[C.ft];exact tS) be ?_⟩;unfold rG;simp only[enter];repeat' first|(apply abd;rfl;rfl)|(apply acr;rfl;rfl)|(apply alJ;rfl;rfl;omega)|(apply alI;rfl;rfl;omega;omega)|refine gc ?_|(intro _;omega)|intro _
       all_goals try omega
       all_goals exact cN rfl rfl (.same rfl rfl)
  | @fo σ z w hs ok nr hw hz=>
   cases w with
   | nil=>simp[WV]at hw
   | cons y w=>
   obtain⟨q,r,hq,hr,tl⟩:=main rfl rfl;refine⟨q,r,hq,hr,cR (by rw[C.ft];exact tS) be ?_⟩;unfold rG;simp only[enter];exact gg16
 | @fo σ z w hs ok nr hw hz=>
  cases w with
  | nil=>simp[WV]at hw
  | cons y w=>
  cases hb;all_goals
  . obtain⟨q,r,hq,hr,tl⟩:=main rfl rfl;refine⟨q,r,hq,hr,cR (by rw[C.ft];exact tS) be ?_⟩;unfold rG;simp only[enter];exact gg16
structure CQ (M:aw)(N:Nat):Prop extends CD M N where
 yh:∀a b x y,ax a x->ax b y->aj x<wB^N->aj y<wB^N->0<y->∃q r,ax q (x/y)/\ax r (x%y)/\∀h,M.ext 205 [a,b] h=some ⟨.au [q,r],h,[]⟩
theorem gM {k:IntKind}{n:Int}:cI (.int k n)=true:=rfl
theorem jC:cI .ab=true:=rfl
theorem ax.shape {v:AV}{z:Int}(h:ax v z):∃s w,v = .agg [.iV s,w]/\cI w=true/\w.top=0/\bL w=w:=by
 cases h with
 | small=>exact⟨_,_,rfl,rfl,rfl,rfl⟩
 | @fo σ z w=>exact⟨_,_,rfl,rfl,ib _,by rw[bL,mY]⟩
theorem ax.one {s:Int}{w:AV}{z:Int}(h:ax (.agg [.iV s,w]) z):cI w=true/\w.top=0/\bL w=w:=by
 obtain⟨s',w',e,h⟩:=h.shape;cases e;exact h
theorem ZJ (C:CQ M N){a b:AV}{x y k:Int}(ha:ax a x)(hb:ax b y)(lx:aj x<wB^N)(ly:aj y<wB^N)(hy:y≠0)(hk:x=y*k):∃v0,ax v0 k/\cQ M 252 [a,b] v0:=by
 have q211:=C.nT b y hb;by_cases hn:y<0
 . rw[show bz y = -1 from if_pos hn]at q211;obtain⟨va,h1,q216a⟩:=C.mH a x ha lx;obtain⟨vb,h2,q216b⟩:=C.mH b y hb ly;have h1:ax va (-x):=h1;have h2:ax vb (-y):=h2;obtain⟨q,r,hq,hr,q205⟩:=C.yh va vb _ _ h1 h2 (by rw[jR];exact lx) (by rw[jR];exact ly) ac;have hq:ax q k:=by
    have : -x / -y=k:=by rw[hk,←Int.neg_mul,f7 _ ac]
    rw[←this];exact hq
   refine⟨q,hq,cR (by rw[C.ft];exact LL) be ?_⟩;have out:=fun hh=>hq.out (hh:=hh)
   obtain⟨_,_,rfl,o1,_⟩:=ha.shape;obtain⟨_,_,rfl,o2,_⟩:=hb.shape;obtain⟨_,_,rfl,o3,_⟩:=hq.shape;obtain⟨_,_,rfl,o4,_⟩:=hr.shape;obtain⟨_,_,rfl,o5,_⟩:=h1.shape;obtain⟨_,_,rfl,o6,_⟩:=h2.shape;unfold Ew;simp only[enter];exact gg15
 . obtain⟨g,hg⟩:∃g,g=bz y:=⟨_,rfl⟩;have g0:0<=g:=by rw[hg];unfold bz;split <;> (first|omega|(split <;> omega))
   rw[←hg]at q211;obtain⟨q,r,hq,hr,q205⟩:=C.yh a b _ _ ha hb lx ly ac;have hq:ax q k:=by
    have:x/y=k:=by rw[hk,f7 _ ac]
    rw[←this];exact hq
   refine⟨q,hq,cR (by rw[C.ft];exact LL) be ?_⟩;have out:=fun hh=>hq.out (hh:=hh)
   obtain⟨_,_,rfl,o1,_⟩:=ha.shape;obtain⟨_,_,rfl,o2,_⟩:=hb.shape;obtain⟨_,_,rfl,o3,_⟩:=hq.shape;obtain⟨_,_,rfl,o4,_⟩:=hr.shape;unfold Ew;simp only[enter];repeat' first|refine gd0 ?_|(apply afG;rfl;rfl;rfl;exact⟨rfl,b9 _,by simp[overwrite,gM,o3,o4]⟩;rfl)|(apply abd;rfl;rfl)|refine gc ?_|(intro _;omega)|intro _
   all_goals try omega
   all_goals exact cN rfl rfl (out _)
def LV:ak:=zR [zx 1 131 2 0,zi 2 0] (zR [zt 6 2 1,z1 7 246 6,zn 5 7,ze 8 0 5,ze 9 1 5,zn 3 8,zw 3 9] (.seq (zR [zm 10 3,zl 11 10,zc 12 .eql 11 0] (.cond (.l 12) (zR [zi 2 0] (.ret)) (.skip))) (zR [zm 13 3,zl 14 13,zc 15 .sub 14 1,⟨.l 16,.bin .mul (kI 64) (.l 15),none⟩,zm 17 3,zm 18 3,zl 19 18,zc 20 .sub 19 1,za 21 1 17 20,zd 22 1 21,z1 23 240 22,zb 24 .add 16 23,zw 2 24] (.ret))))
theorem ZK:FT 262=some ⟨25,[0,1,2,4],[.var (.p 2)],LV⟩:=by kernel_rfl
def rI:ak:=.seq (zR [zm 7 1,zc 8 .gtr 7 0] (.cond (.l 8) (.skip) (.exit 0))) (.seq (.block 1 (.seq (zR [zm 11 1,zc 12 .and 11 1,zc 13 .eql 12 1] (.cond (.l 13) (.region [zt 14 2 4,zt 15 2 2,z2 16 198 14 15,zs 2 4 16]) (.skip))) (zR [zm 17 1,zc 18 .gtr 17 1] (.cond (.l 18) (.region [zt 19 2 2,zt 20 2 2,z2 21 198 19 20,zs 2 2 21]) (.skip))))) (.region [zm 9 1,⟨.l 10,.bin .shr (.l 9) (kU 1),none⟩,zw 1 10]))
def LW:ak:=zR [zx 2 131 2 0,⟨.p 3,.alloc 131 [.iV (0),.ab],none⟩] (zR [⟨.l 6,.call (kF 168) [(kI 1)],none⟩,⟨.p 4,.alloc 131 [.iV (0),.ab],none⟩,zs 2 4 6] (.seq (.block 0 (.loop rI)) (zR [zt 22 2 4,zs 2 3 22] (.ret))))
theorem ZL:FT 215=some ⟨23,[0,1,2,4,5],[.cell 2 true (.p 3)],LW⟩:=by kernel_rfl
def LX:ak:=zR [zx 1 131 2 0,⟨.p 2,.alloc 133 [.iV (0),.ab,.iV (0),.ab],none⟩] (.seq (.draw [(zt 3 2 1,[]),(⟨.l 4,.call (kF 168) [(kI 1)],none⟩,[0]),(⟨.l 5,.build [.iV (0),.ab,.iV (0),.ab] [(0,2,(.l 3)),(2,2,(.l 4))],none⟩,[]),(zs 4 2 5,[])]) (.ret))
theorem ZM:FT 159=some ⟨6,[0,1,2],[.cell 4 true (.p 2)],LX⟩:=by kernel_rfl
def EC:ak:=zR [zx 2 131 2 0,zx 3 131 2 1,⟨.p 4,.alloc 133 [.iV (0),.ab,.iV (0),.ab],none⟩] (.seq (zR [zt 6 2 3,z1 7 211 6,zc 8 .lss 7 0] (.cond (.l 8) (.draw [(zt 9 2 2,[]),(z1 10 216 9,[]),(zt 11 2 3,[0,1]),(z1 12 216 11,[]),(zs 2 2 10,[]),(zs 2 3 12,[])]) (.skip))) (.seq (zR [zf 13 1 3,zd 14 1 13,⟨.l 15,.eq false (.ref .slice) (.l 14) (.c (.ab)),none⟩,zn 16 15,zg (zf 17 0 3) 16 true,zg (zd 18 1 17) 16 true,zg (zc 19 .eql 18 1) 16 true,zp 20 16 19] (.cond (.l 20) (zR [zt 21 2 2,zt 22 2 3,⟨.l 23,.build [.iV (0),.ab,.iV (0),.ab] [(0,2,(.l 21)),(2,2,(.l 22))],none⟩,zs 4 4 23] (.ret)) (.skip))) (zR [zt 24 2 2,zt 25 2 3,z2 26 165 24 25,⟨.p 5,.alloc 131 [.iV (0),.ab],none⟩,zs 2 5 26] (.seq (.draw [(zt 27 2 2,[]),(zt 28 2 5,[0]),(z2 29 252 27 28,[]),(zt 30 2 3,[0,1,2]),(zt 31 2 5,[0,1,2,3]),(z2 32 252 30 31,[]),(⟨.l 33,.build [.iV (0),.ab,.iV (0),.ab] [(0,2,(.l 29)),(2,2,(.l 32))],none⟩,[]),(zs 4 4 33,[])]) (.ret)))))
theorem LY:FT 203=some ⟨34,[0,1,2,3,4,5],[.cell 4 true (.p 4)],EC⟩:=by kernel_rfl
def LZ:ak:=zR [zx 1 133 4 0,⟨.p 2,.alloc 133 [.iV (0),.ab,.iV (0),.ab],none⟩] (.seq (.draw [(zf 3 0 1,[]),(zT 4 2 3,[]),(z1 5 216 4,[]),(zf 6 2 1,[0,1,2]),(zT 7 2 6,[0,1,2]),(⟨.l 8,.build [.iV (0),.ab,.iV (0),.ab] [(0,2,(.l 5)),(2,2,(.l 7))],none⟩,[]),(zs 4 2 8,[])]) (.ret))
theorem ZN:FT 199=some ⟨9,[0,1,2],[.cell 4 true (.p 2)],LZ⟩:=by kernel_rfl
def Ma:ak:=zR [zx 1 133 4 0,⟨.p 2,.alloc 133 [.iV (0),.ab,.iV (0),.ab],none⟩] (zR [zf 3 2 1,zT 4 2 3,zf 5 0 1,zT 6 2 5,z2 7 203 4 6,zs 4 2 7] (.ret))
theorem ZO:FT 200=some ⟨8,[0,1,2],[.cell 4 true (.p 2)],Ma⟩:=by kernel_rfl
def Mb:ak:=zR [zx 1 133 4 0,⟨.p 2,.mv (.c (.bool false)),none⟩] (zR [zf 3 2 1,⟨.l 4,.jA 1 (.l 3),none⟩,zd 5 1 4,⟨.l 6,.eq false (.ref .slice) (.l 5) (.c (.ab)),none⟩,zn 7 6,zg (zf 8 2 1) 7 true,⟨.l 9,.jA 0 (.l 8),some ((.l 7),true)⟩,zg (zd 10 1 9) 7 true,zg (zc 11 .eql 10 1) 7 true,zp 12 7 11,zw 2 12] (.ret))
theorem ZP:FT 201=some ⟨13,[0,1,2],[.var (.p 2)],Mb⟩:=by kernel_rfl
def EE:ak:=zR [zx 2 133 4 0,zx 3 133 4 1,⟨.p 4,.alloc 133 [.iV (0),.ab,.iV (0),.ab],none⟩] (.seq (zR [zt 5 4 2,z1 6 201 5,zn 7 6,zg (zt 8 4 3) 7 true,zg (z1 9 201 8) 7 true,zp 10 7 9] (.cond (.l 10) (zR [zf 11 0 2,zT 12 2 11,zf 13 0 3,zT 14 2 13,z2 15 202 12 14,z1 16 159 15,zs 4 4 16] (.ret)) (.skip))) (.seq (.draw [(zf 17 0 2,[]),(zT 18 2 17,[]),(zf 19 2 3,[0,1]),(zT 20 2 19,[0,1]),(z2 21 198 18 20,[]),(zf 22 0 3,[0,1,2,3,4]),(zT 23 2 22,[0,1,2,3,4]),(zf 24 2 2,[0,1,2,3,4,5,6]),(zT 25 2 24,[0,1,2,3,4,5,6]),(z2 26 198 23 25,[]),(z2 27 202 21 26,[]),(zf 28 2 2,[0,1,2,3,4,5,6,7,8,9,10]),(zT 29 2 28,[0,1,2,3,4,5,6,7,8,9,10]),(zf 30 2 3,[0,1,2,3,4,5,6,7,8,9,10,11,12]),(zT 31 2 30,[0,1,2,3,4,5,6,7,8,9,10,11,12]),(z2 32 198 29 31,[]),(z2 33 203 27 32,[]),(zs 4 4 33,[])]) (.ret)))
theorem Mc:FT 151=some ⟨34,[0,1,2,3,4],[.cell 4 true (.p 4)],EE⟩:=by kernel_rfl
def Md:ak:=zR [zx 2 133 4 0,zx 3 133 4 1,⟨.p 4,.alloc 133 [.iV (0),.ab,.iV (0),.ab],none⟩] (.seq (.draw [(zt 5 4 2,[]),(zt 6 4 3,[0]),(z1 7 199 6,[0]),(z2 8 151 5 7,[]),(zs 4 4 8,[])]) (.ret))
theorem ZQ:FT 149=some ⟨9,[0,1,2,3,4],[.cell 4 true (.p 4)],Md⟩:=by kernel_rfl
def Me:ak:=zR [zx 2 133 4 0,zx 3 133 4 1,⟨.p 4,.alloc 133 [.iV (0),.ab,.iV (0),.ab],none⟩] (.seq (.draw [(zf 5 0 2,[]),(zT 6 2 5,[]),(zf 7 0 3,[0,1]),(zT 8 2 7,[0,1]),(z2 9 198 6 8,[]),(zf 10 2 2,[0,1,2,3,4]),(zT 11 2 10,[0,1,2,3,4]),(zf 12 2 3,[0,1,2,3,4,5,6]),(zT 13 2 12,[0,1,2,3,4,5,6]),(z2 14 198 11 13,[]),(z2 15 203 9 14,[]),(zs 4 4 15,[])]) (.ret))
theorem ZR:FT 152=some ⟨16,[0,1,2,3,4],[.cell 4 true (.p 4)],Me⟩:=by kernel_rfl
def Mf:ak:=zR [zx 2 133 4 0,zx 3 133 4 1,⟨.p 4,.alloc 133 [.iV (0),.ab,.iV (0),.ab],none⟩] (.seq (.draw [(zt 5 4 2,[]),(zt 6 4 3,[0]),(z1 7 200 6,[0]),(z2 8 152 5 7,[]),(zs 4 4 8,[])]) (.ret))
theorem ZS:FT 150=some ⟨9,[0,1,2,3,4],[.cell 4 true (.p 4)],Mf⟩:=by kernel_rfl
def Mg:ak:=zR [zx 1 133 4 0,zi 2 0] (zR [zf 3 0 1,zT 4 2 3,z1 5 211 4,zw 2 5] (.ret))
theorem ZT:FT 355=some ⟨6,[0,1,2],[.var (.p 2)],Mg⟩:=by kernel_rfl
def jv (v:AV)(n d:Int):Prop:=∃s w s' w',v = .agg [.iV s,w,.iV s',w']/\ax (.agg [.iV s,w]) n/\ax (.agg [.iV s',w']) d
theorem jv.out {v:AV}{n d:Int}{hh:aa}(h:jv v n d):dZ (aW [v]) hh v:=by
 obtain⟨s,w,s',w',rfl,h1,h2⟩:=h;obtain⟨_,t1,c1⟩:=h1.one;obtain⟨_,t2,c2⟩:=h2.one;exact .same (by simp[aW,AV.top,bc,t1,t2]) (by simp[aW,bL,cG,c1,c2])
structure CF (M:aw)(N:Nat):Prop extends CQ M N where
 EH:∀v z,ax v z->∃v0,jv v0 z 1/\∀h,M.ext 159 [v] h=some ⟨v0,h,[]⟩
 Mi:∀a b x y,ax a x->ax b y->aj x<wB^N->aj y<wB^N->∀h,M.ext 167 [a,b] h=some ⟨.iV (bz (x-y)),h,[]⟩
 mI:yg M N 198 (· * ·)
theorem ZU (C:CD M N){v:AV}{z:Int}(hv:ax v z):∃v0,jv v0 z 1/\cQ M 159 [v] v0:=by
 obtain⟨s,w,rfl,o1,_⟩:=hv.shape;have q168:=C.pP 1;have hf:jv (.agg [.iV s,w,.iV 1,.ab]) z 1:=⟨_,_,_,_,rfl,hv,.small am⟩;refine⟨_,hf,cR (by rw[C.ft];exact ZM) be ?_⟩;have out:=fun hh=>hf.out (hh:=hh)
 unfold LX;simp only[enter];repeat' first|refine gd1 ?_|refine gd26 ?_|refine gc ?_|fail
 exact cN rfl rfl (out _)
theorem ZV (C:CJ M N){v:AV}{n d:Int}(hv:jv v n d)(ln:aj n<wB^N):∃v0,jv v0 (-n) d/\cQ M 199 [v] v0:=by
 obtain⟨s1,w,s',w',rfl,h1,h2⟩:=hv;obtain⟨v1,h3,q216⟩:=C.mH _ n h1 ln;obtain⟨s3,w3,rfl,o3,_⟩:=h3.shape;obtain⟨o1,_⟩:=h1.one;obtain⟨o2,_⟩:=h2.one;have hf:jv (.agg [.iV s3,w3,.iV s',w']) (-n) d:=⟨_,_,_,_,rfl,h3,h2⟩;refine⟨_,hf,cR (by rw[C.ft];exact ZN) be ?_⟩;have out:=fun hh=>hf.out (hh:=hh)
 unfold LZ;simp only[enter];repeat' first|refine gd1 ?_|(apply afG;rfl;rfl;rfl;exact⟨rfl,b9 _,by simp[overwrite,gM,o2,o3]⟩;rfl)|refine gc ?_|fail
 exact cN rfl rfl (out _)
theorem ZW (C:CJ M N){v:AV}{n d:Int}(hv:jv v n d):cQ M 355 [v] (.iV (bz n)):=by
 obtain⟨s1,w,s',w',rfl,h1,h2⟩:=hv;have q211:=C.nT _ n h1;refine cR (by rw[C.ft];exact ZT) be ?_;unfold Mg;simp only[enter];exact gg0
section
variable {t n m:Nat} {x y:ay} {l:List aX} {pe:List AV} {lo:List (Nat×AV)} {H:aa} {df wr:List Nat} {c c' new:List AV} {e:TypeId} {a:Option ba} {Q:aq->Prop}
theorem anh (hx:(St.mk pe lo (H++[some (.cells c e)]++[a]) df).ae x=some (.ptr H.length 0))(hy:((St.mk pe lo (H++[some (.cells c e)]++[a]) df).ae y).bind AV.cells=some new)(hn:new.length=n/\0+n<=c.length/\new.all cI=true)(hc:overwrite c 0 new=c')
 (h:WO M l ⟨⟨pe,lo,H++[some (.cells c' e)]++[a],df⟩,H.length::wr⟩ Q):WO M (⟨.no,.store n x y,none⟩::l) ⟨⟨pe,lo,H++[some (.cells c e)]++[a],df⟩,wr⟩ Q:=by
 refine afG hx hy (cE cC) hn hc ?_;have:aa.put (H++[some (.cells c e)]++[a]) H.length (some (.cells c' e))=H++[some (.cells c' e)]++[a]:=by
  simp[aa.put]
 rw[this];exact h
theorem ani (hx:(St.mk pe lo (H++[a]++[some (.cells c e)]) df).ae x=some (.ptr m 0))(hy:((St.mk pe lo (H++[a]++[some (.cells c e)]) df).ae y).bind AV.cells=some new)(hm:m=H.length+1)(hn:new.length=n/\0+n<=c.length/\new.all cI=true)(hc:overwrite c 0 new=c')
 (h:WO M l ⟨⟨pe,lo,H++[a]++[some (.cells c' e)],df⟩,m::wr⟩ Q):WO M (⟨.no,.store n x y,none⟩::l) ⟨⟨pe,lo,H++[a]++[some (.cells c e)],df⟩,wr⟩ Q:=by
 subst hm;have hl:H.length+1=(H++[a]).length:=by simp
 rw[hl]at hx h;refine afG hx hy cC hn hc ?_;have:aa.put (H++[a]++[some (.cells c e)]) (H++[a]).length (some (.cells c' e))=H++[a]++[some (.cells c' e)]:=Lr;rw[this];exact h
theorem anj {ag:Bool}{v:AV}(hx:(St.mk pe lo (H++[a]++[some (.cells c e)]) df).ae x=some (.ptr m 0))(hm:m=H.length+1)(hv:partOf (c.drop 0) 0 n ag=some v)
 (h:WO M l ⟨⟨pe,(t,v)::lo,H++[a]++[some (.cells c e)],df⟩,wr⟩ Q):WO M (⟨.l t,.load n ag x,none⟩::l) ⟨⟨pe,lo,H++[a]++[some (.cells c e)],df⟩,wr⟩ Q:=by
 subst hm;have hl:H.length+1=(H++[a]).length:=by simp
 rw[hl]at hx;exact alQ hx cC hv h
end
theorem EK {x y:Int}:ci y (x%y)=ci x y:=by
 have h:=Int.gcd_add_mul_left_right y (x%y) (x/y);rw[Int.emod_add_mul_ediv]at h;rw[←h,ii]
def tT (s s':Int)(w w':AV)(J:aa):aa:=[some (.cells [.iV s,w] 131),some (.cells [.iV s',w'] 131),some (.cells [.iV 0,.ab] 131)]++J
theorem ZX (C:CQ M N){G:Nat}{Q:Ex->aq->Prop}(a0 a1:AV)
 (hQ:∀s s' w w' J p5 lo wr (x:Int),ax (.agg [.iV s,w]) x->x=G->Q (.exit 0) ⟨⟨[a0,a1,.ptr 0 0,.ptr 1 0,.ptr 2 0,p5],lo,tT s s' w w' J,[]⟩,wr⟩)
 (s s':Int) (w w':AV) (J:aa) (p5:AV) (lo:List (Nat×AV)) (wr:List Nat) (x y:Int) (hx:ax (.agg [.iV s,w]) x) (hy:ax (.agg [.iV s',w']) y) (x0:0<=x/\x<wB^N) (y0:0<=y/\y<wB^N) (hG:ci x y=G) :
 W M (.loop yf) ⟨⟨[a0,a1,.ptr 0 0,.ptr 1 0,.ptr 2 0,p5],lo,tT s s' w w' J,[]⟩,wr⟩ Q:=by
 refine W.gP (fun m st=>∃s s' w w' J p5 lo wr x y,st=⟨⟨[a0,a1,.ptr 0 0,.ptr 1 0,.ptr 2 0,p5],lo,tT s s' w w' J,[]⟩,wr⟩/\m=y.toNat/\ax (.agg [.iV s,w]) x/\ax (.agg [.iV s',w']) y/\(0<=x/\x<wB^N)/\(0<=y/\y<wB^N)/\ci x y=G)
  (fun m st ⟨s,s',w,w',J,p5,lo,wr,x,y,hst,hm,hx,hy,x0,y0,hG⟩=>?_) (m:=y.toNat) ⟨s,s',w,w',J,p5,lo,wr,x,y,rfl,rfl,hx,hy,x0,y0,hG⟩
 subst hst;subst hm;have q211:=C.nT _ y hy;by_cases h0:y=0
 . subst h0;have e:x=G:=by rw[←hG,Int.gcd_zero];omega
   rw[show bz 0=0 from rfl]at q211;unfold yf;exact gg0
 . rw[show bz y=1 by unfold bz;rw[if_neg ac,if_pos ac]]at q211;obtain⟨q,r,hq,hr,q205⟩:=C.yh _ _ x y hx hy (by rw[cH x0.1];exact x0.2) (by rw[cH y0.1];exact y0.2) ac;obtain⟨o1,_⟩:=hx.one;obtain⟨o2,_⟩:=hy.one;obtain⟨s1,w1,rfl,o3,_⟩:=hq.shape;obtain⟨s2,w2,rfl,o4,_⟩:=hr.shape;have r0:=fm x (show y≠0 by omega);have r1:=dN x (show 0<y by omega);have next:∀J p5 lo wr,LI (fun st=>∃m',m'<y.toNat/\∃s s' w w' J p5 lo wr x y,st=⟨⟨[a0,a1,.ptr 0 0,.ptr 1 0,.ptr 2 0,p5],lo,tT s s' w w' J,[]⟩,wr⟩/\m'=y.toNat/\ax (.agg [.iV s,w]) x/\ax (.agg [.iV s',w']) y/\(0<=x/\x<wB^N)/\(0<=y/\y<wB^N)/\ci x y=G) Q .normal ⟨⟨[a0,a1,.ptr 0 0,.ptr 1 0,.ptr 2 0,p5],lo,tT s' s2 w' w2 J,[]⟩,wr⟩:=fun J p5 lo wr=>
    bW ⟨(x%y).toNat,ac,_,_,_,_,J,p5,lo,wr,y,x%y,rfl,rfl,hy,hr,y0,⟨r0,ac⟩,by rw[EK,hG]⟩
   unfold yf;exact gg16
structure CG (M:aw)(N:Nat):Prop extends CQ M N where
 EL:Op1 M N 210 aj
theorem ZY {x y:Int}:ci (aj x) (aj y)=ci x y:=by
 have h:∀z:Int,(aj z).natAbs=z.natAbs:=fun z=>by unfold aj;split <;> omega
 show Nat.gcd _ _=Nat.gcd _ _;rw[h,h]
theorem ZZ (C:CG M N){a b:AV}{x y:Int}(ha:ax a x)(hb:ax b y)(lx:aj x<wB^N)(ly:aj y<wB^N):∃v0,ax v0 (ci x y:Nat)/\cQ M 165 [a,b] v0:=by
 obtain⟨va,h1,q210a⟩:=C.EL a x ha lx;obtain⟨vb,h2,q210b⟩:=C.EL b y hb ly;obtain⟨sa,wa,rfl,o1,_⟩:=ha.shape;obtain⟨sb,wb,rfl,o2,_⟩:=hb.shape;obtain⟨s1,w1,rfl,o3,_⟩:=h1.shape;obtain⟨s2,w2,rfl,o4,_⟩:=h2.shape;obtain⟨v,hh,⟨v0,h0,ho⟩,hr⟩:=gO (M:=M) (f:=165) (ars:=[.agg [.iV sa,wa],.agg [.iV sb,wb]]) (P:=fun v hh=>∃v0,ax v0 (ci x y:Nat)/\dZ v hh v0) (by rw[C.ft];exact Zp) be (by
  unfold LM;simp only[enter];repeat' first|refine gd1 ?_|(apply afG;rfl;rfl;rfl;exact⟨rfl,b9 _,by simp[gM,o3,o4]⟩;rfl)|refine gc ?_|fail
  refine ZX C.toCQ (G:=ci x y) _ _ (fun s s' w w' J p5 lo wr g hg eg=>?_) s1 s2 w1 w2 [] _ _ _ (aj x) (aj y) h1 h2 ⟨ju,lx⟩ ⟨ju,ly⟩ ZY;obtain⟨o5,t5,k5⟩:=hg.one;repeat' first|(apply afG;rfl;rfl;rfl;exact⟨rfl,b9 _,by simp[gM,o5]⟩;rfl)|refine gc ?_|fail
  rw[eg]at hg;exact⟨.inr rfl,rfl,_,rfl,_,hg,hg.out⟩)
 exact⟨v0,h0,v,hh,ho,hr⟩
def br (v:AV)(q:Rat):Prop:=jv v q.num q.den
structure CR (M:aw)(N:Nat):Prop extends CG M N where
 tW:∀a b x y,ax a x->ax b y->aj x<wB^N->aj y<wB^N->∃v0,ax v0 (ci x y:Nat)/\∀h,M.ext 165 [a,b] h=some ⟨v0,h,[]⟩
 EM:∀a b x y k,ax a x->ax b y->aj x<wB^N->aj y<wB^N->y≠0->x=y*k->∃v0,ax v0 k/\∀h,M.ext 252 [a,b] h=some ⟨v0,h,[]⟩
def t203:ak:=
 .seq (zR [zf 13 1 3,
       zd 14 1 13,
       ⟨(.l 15),.eq false (.ref .slice) (.l 14) (.c (.ab)),none⟩,
       zn 16 15,
       zg (zf 17 0 3) 16 true,
       zg (zd 18 1 17) 16 true,
       zg (zc 19 .eql 18 1) 16 true,
       zp 20 16 19]
     (
      .cond (.l 20)
      (
       zR [zt 21 2 2,
         zt 22 2 3,
         ⟨(.l 23),.build [.iV (0),.ab,.iV (0),.ab] [(0,2,(.l 21)),(2,2,(.l 22))],none⟩,
         zs 4 4 23]
       (.ret))
      (.skip)))
    (
     zR [zt 24 2 2,
       zt 25 2 3,
       z2 26 165 24 25,
       ⟨(.p 5),.alloc 131 [.iV (0),.ab],none⟩,
       zs 2 5 26]
     (
      .seq (.draw [(zt 27 2 2,[]),
        (zt 28 2 5,[0]),
        (z2 29 252 27 28,[]),
        (zt 30 2 3,[0,1,2]),
        (zt 31 2 5,[0,1,2,3]),
        (z2 32 252 30 31,[]),
        (⟨(.l 33),.build [.iV (0),.ab,.iV (0),.ab] [(0,2,(.l 29)),(2,2,(.l 32))],none⟩,[]),
        (zs 4 4 33,[])])
      (.ret)))
theorem nU {n:Int}:(c3 n 1).num=n/\(c3 n 1).den=1:=by
 refine⟨?_,?_⟩
 . rw[i4];simp
 . rw[i5];simp
theorem yi {n d:Int}(h:0<d):∃k1 k2:Int,n=(ci n d:Nat)*k1/\d=(ci n d:Nat)*k2/\(c3 n d).num=k1/\((c3 n d).den:Int)=k2:=by
 have g0:(ci n d:Int)≠0:=by
  have:=fG n (show d≠0 by omega);omega
 obtain⟨k1,h1⟩:=Int.gcd_dvd_left n d;obtain⟨k2,h2⟩:=ip n d;refine⟨k1,k2,h1,h2,?_,?_⟩
 . rw[i4,Int.sign_eq_one_of_pos h,Int.one_mul,ii d n];exact fT g0 h1
 . rw[i5,if_neg ac,ii d n];have e:((d.natAbs/ci n d:Nat):Int)=d/(ci n d:Int):=by
    rw[Int.natCast_ediv,Int.natAbs_of_nonneg ac]
   rw[e];exact fT g0 h2
theorem aaa {x y:Int}(h:0<y):aj (ci x y:Nat)<=aj y:=by
 have:=Int.le_of_dvd h (ip x y);rw[cH ac,cH ac];exact this
theorem Mj (C:CR M N){s s' n d:Int}{w w':AV}(hn:ax (.agg [.iV s,w]) n)(hd:ax (.agg [.iV s',w']) d)(ln:aj n<wB^N)(ld:aj d<wB^N)(d0:0<d) :
 ∃v0,br v0 (c3 n d)/\∀a0 a1 p5 lo wr,W M t203 ⟨⟨[a0,a1,.ptr 0 0,.ptr 1 0,.ptr 2 0,p5],lo,[some (.cells [.iV s,w] 131),some (.cells [.iV s',w'] 131),some (.cells [.iV 0,.ab,.iV 0,.ab] 133)],[]⟩,wr⟩ (mG v0 [.cell 4 true (.p 4)]):=by
 obtain⟨o1,_⟩:=hn.one;by_cases h1:d=1/\w' = .ab
 . obtain⟨rfl,rfl⟩:=h1;have hs:s'=1:=by cases hd;rfl
   subst hs;have hf:br (.agg [.iV s,w,.iV 1,.ab]) (c3 n 1):=by
    unfold br;rw[nU.1,nU.2];exact⟨_,_,_,_,rfl,hn,hd⟩
   refine⟨_,hf,fun a0 a1 p5 lo wr=>?_⟩;have out:=fun hh=>hf.out (hh:=hh)
   unfold t203;repeat' first|refine gd26 ?_|(apply aeJ;rfl;rfl)|refine gc ?_|(intro _;omega)|intro _
   all_goals try omega
   all_goals exact cN rfl rfl (out _)
 . obtain⟨k1,k2,e1,e2,e3,e4⟩:=yi (n:=n) d0;obtain⟨vg,hg,q165⟩:=C.tW _ _ n d hn hd ln ld;have lg:aj (ci n d:Nat)<wB^N:=Int.lt_of_le_of_lt (aaa d0) ld;have g0:(ci n d:Int)≠0:=by
    have:=fG n (show d≠0 by omega);omega
   obtain⟨v1,hv1,q252a⟩:=C.EM _ vg n _ k1 hn hg ln lg g0 e1;obtain⟨v2,hv2,q252b⟩:=C.EM _ vg d _ k2 hd hg ld lg g0 e2;obtain⟨sg,wg,rfl,og,_⟩:=hg.shape;obtain⟨s1,w1,rfl,o3,_⟩:=hv1.shape;obtain⟨s2,w2,rfl,o4,_⟩:=hv2.shape;have hf:br (.agg [.iV s1,w1,.iV s2,w2]) (c3 n d):=by
    unfold br;rw[e3,e4];exact⟨_,_,_,_,rfl,hv1,hv2⟩
   refine⟨_,hf,fun a0 a1 p5 lo wr=>?_⟩;have out:=fun hh=>hf.out (hh:=hh)
   unfold t203;cases hd with
   | small h=>
    have h2:s'≠1:=fun e=>h1 ⟨e,rfl⟩
    exact gg11
   | @fo σ z ww hs ok nr hw hz=>
    cases ww with
    | nil=>simp[WV]at hw
    | cons y ww=>
    exact gg11
theorem aab (C:CR M N){a b:AV}{n d:Int}(ha:ax a n)(hb:ax b d)(ln:aj n<wB^N)(ld:aj d<wB^N)(d0:d≠0):∃v0,br v0 (c3 n d)/\cQ M 203 [a,b] v0:=by
 have q211:=C.nT b d hb;by_cases hn:d<0
 . rw[show bz d = -1 from if_pos hn]at q211;obtain⟨va,h1,q216a⟩:=C.mH a n ha ln;obtain⟨vb,h2,q216b⟩:=C.mH b d hb ld;have h1:ax va (-n):=h1;have h2:ax vb (-d):=h2;obtain⟨_,_,rfl,o1,_⟩:=ha.shape;obtain⟨_,_,rfl,o2,_⟩:=hb.shape;obtain⟨_,_,rfl,o3,_⟩:=h1.shape;obtain⟨_,_,rfl,o4,_⟩:=h2.shape;obtain⟨v0,hf,tl⟩:=Mj C h1 h2 (by rw[jR];exact ln) (by rw[jR];exact ld) ac;rw[Rat.neg_divInt_neg]at hf;refine⟨v0,hf,cR (by rw[C.ft];exact LY) be ?_⟩;unfold EC;simp only[enter];repeat' first|(exact tl _ _ _ _ _)|refine gd0 ?_|refine gd1 ?_|(apply afG;rfl;rfl;rfl;exact⟨rfl,b9 _,by simp[gM,o3,o4]⟩;rfl)|(apply abd;rfl;rfl)|refine gc ?_|(intro _;omega)|intro _
   all_goals try omega
 . obtain⟨g,hg⟩:∃g,g=bz d:=⟨_,rfl⟩;have g0:0<=g:=by rw[hg];unfold bz;split <;> (first|omega|(split <;> omega))
   rw[←hg]at q211;obtain⟨_,_,rfl,o1,_⟩:=ha.shape;obtain⟨_,_,rfl,o2,_⟩:=hb.shape;obtain⟨v0,hf,tl⟩:=Mj C ha hb ln ld ac;refine⟨v0,hf,cR (by rw[C.ft];exact LY) be ?_⟩;unfold EC;simp only[enter];exact gg15
def Bq (N:Nat)(q:Rat):Prop:=aj q.num<wB^N/\(q.den:Int)<wB^N
structure CS (M:aw)(N N2:Nat):Prop extends CF M N where
 fo:CF M N2
 hN:2*N+1<=N2
 yj:∀a b n d,ax a n->ax b d->aj n<wB^N2->aj d<wB^N2->d≠0->∃v0,br v0 (c3 n d)/\∀h,M.ext 203 [a,b] h=some ⟨v0,h,[]⟩
theorem den_pos {q:Rat}:0<(q.den:Int):=by have:=q.den_pos;omega
theorem tX {x y:Int}:aj (x*y)=aj x*aj y:=by
 have h:∀z:Int,aj z=(z.natAbs:Int):=fun z=>by unfold aj;split <;> omega
 rw[h,h,h,Int.natAbs_mul,Int.natCast_mul]
variable {N2:Nat}
theorem CS.tY (C:CS M N N2){x y:Int}(hx:aj x<wB^N)(hy:aj y<wB^N):aj (x*y)<wB^N2:=by
 rw[tX];have h1:=b5 (b6 hy) (ju (x:=x));have hp:(0:Int)<wB^N:=b8 am;have h2:=b7 hx hp;have h3:=gS (b:=wB) am (m:=N+N) (n:=N2) (by have:=C.hN;omega);rw[c7]at h3;omega
theorem aac (C:CS M N N2){a b:AV}{p q:Rat}(ha:br a p)(hb:br b q)(lp:Bq N p)(lq:Bq N q):∃v0,br v0 (p*q)/\cQ M 152 [a,b] v0:=by
 obtain⟨s1,w1,s2,w2,rfl,h1,h2⟩:=ha;obtain⟨s3,w3,s4,w4,rfl,h3,h4⟩:=hb;have dp:=den_pos (q:=p);have dq:=den_pos (q:=q);obtain⟨v1,k1,q198a⟩:=C.mI _ _ _ _ h1 h3 lp.1 lq.1;obtain⟨v2,k2,q198b⟩:=C.mI _ _ _ _ h2 h4 (by rw[cH ac];exact lp.2) (by rw[cH ac];exact lq.2);obtain⟨v0,k0,q203⟩:=C.yj v1 v2 _ _ k1 k2 (C.tY lp.1 lq.1) (C.tY (by rw[cH ac];exact lp.2) (by rw[cH ac];exact lq.2)) (Int.ne_of_gt (Int.mul_pos dp dq));have k0:br v0 (p*q):=by
  have e:=Rat.divInt_mul_divInt p.num q.num (d₁:=p.den) (d₂:=q.den);rw[d7,d7]at e;rw[e];exact k0
 refine⟨v0,k0,cR (by rw[C.ft];exact ZR) be ?_⟩;have out:=fun hh=>k0.out (hh:=hh)
 obtain⟨s5,w5,s6,w6,rfl,h5,h6⟩:=k0;obtain⟨o5,_⟩:=h5.one;obtain⟨o6,_⟩:=h6.one;unfold Me;simp only[enter];repeat' first|refine gd1 ?_|refine gd7 ?_|refine gc ?_|fail
 all_goals exact cN rfl rfl (out _)
theorem aad (hft:M.FT=FT){v:AV}{q:Rat}(hv:br v q):cQ M 201 [v] (.bool (decide (q.den=1))):=by
 obtain⟨s1,w1,s2,w2,rfl,h1,h2⟩:=hv;generalize hd:(q.den:Int)=d at h2;refine cR (by rw[hft];exact ZP) be ?_;unfold Mb;simp only[enter];cases h2 with
 | small h=>
  by_cases h1:q.den=1
  . rw[decide_eq_true h1];exact gg0
  . rw[decide_eq_false h1];exact gg0
 | @fo σ z w hs ok nr hw hz=>
  have hz:=hz;have h1:q.den≠1:=by
   have:=den_pos (q:=q);rcases hs with rfl|rfl <;> omega
  rw[decide_eq_false h1];cases w with
  | nil=>simp[WV]at hw
  | cons y w=>
  exact gg2
structure EN (M:aw)(N N2:Nat):Prop extends CS M N N2 where
 nW:∀v q,br v q->∀h,M.ext 201 [v] h=some ⟨.bool (decide (q.den=1)),h,[]⟩
theorem br.one {v:AV}{n:Int}(h:jv v n 1):br v (c3 n 1):=by
 unfold br;rw[nU.1,nU.2];exact h
theorem tZ (p q:Rat):p+q=c3 (p.num*q.den+q.num*p.den) (p.den*q.den):=by
 have dp:=den_pos (q:=p);have dq:=den_pos (q:=q);have e:=Rat.divInt_add_divInt p.num q.num (d₁:=p.den) (d₂:=q.den) ac ac;rwa [d7,d7]at e
theorem CS.aae (C:CS M N N2){x y x' y':Int}(hx:aj x<wB^N)(hy:aj y<wB^N)(hx':aj x'<wB^N)(hy':aj y'<wB^N):aj (x*y+x'*y')<wB^N2:=by
 have hp:(0:Int)<wB^N:=b8 am;have key:∀{x y:Int},aj x<wB^N->aj y<wB^N->aj (x*y)<wB^(N+N):=fun {x y} hx hy=>by
  rw[tX,c7];have h1:=b5 (b6 hy) (ju (x:=x));have h2:=b7 hx hp;omega
 have k1:=key hx hy;have k2:=key hx' hy';have k3:aj (x*y+x'*y')<=aj (x*y)+aj (x'*y'):=by unfold aj;split <;> split <;> split <;> omega
 have h3:=gS (b:=wB) am (m:=N+N+1) (n:=N2) (by have:=C.hN;omega);have hq:(0:Int)<wB^(N+N):=b8 am;have e:wB^(N+N+1)=wB^(N+N)*18446744073709551616:=Int.pow_succ _ _;omega
theorem aaf (C:EN M N N2){a b:AV}{p q:Rat}(ha:br a p)(hb:br b q)(lp:Bq N p)(lq:Bq N q):∃v0,br v0 (p+q)/\cQ M 151 [a,b] v0:=by
 have q201a:=C.nW a p ha;have q201b:=C.nW b q hb;obtain⟨s1,w1,s2,w2,rfl,h1,h2⟩:=ha;obtain⟨s3,w3,s4,w4,rfl,h3,h4⟩:=hb;have dp:=den_pos (q:=p);have dq:=den_pos (q:=q);have hdp:aj (p.den:Int)<wB^N:=by rw[cH ac];exact lp.2
 have hdq:aj (q.den:Int)<wB^N:=by rw[cH ac];exact lq.2
 by_cases hw:p.den=1/\q.den=1
 . obtain⟨v1,k1,q202⟩:=C.rH _ _ _ _ h1 h3 lp.1 lq.1;obtain⟨v0,k0,q159⟩:=C.EH _ _ k1;have k0:br v0 (p+q):=by
    have:=br.one k0;rw[tZ,hw.1,hw.2];simpa using this
   refine⟨v0,k0,cR (by rw[C.ft];exact Mc) be ?_⟩;have out:=fun hh=>k0.out (hh:=hh)
   obtain⟨s5,w5,s6,w6,rfl,h5,h6⟩:=k0;obtain⟨o5,_⟩:=h5.one;obtain⟨o6,_⟩:=h6.one;rw[decide_eq_true hw.1]at q201a;rw[decide_eq_true hw.2]at q201b;unfold EE;simp only[enter];repeat' first|refine gd0 ?_|refine gd7 ?_|refine gc ?_|fail
   all_goals exact cN rfl rfl (out _)
 . obtain⟨v1,k1,q198a⟩:=C.mI _ _ _ _ h1 h4 lp.1 hdq;obtain⟨v2,k2,q198b⟩:=C.mI _ _ _ _ h3 h2 lq.1 hdp;obtain⟨v3,k3,q202⟩:=C.fo.rH v1 v2 _ _ k1 k2 (C.tY lp.1 hdq) (C.tY lq.1 hdp);obtain⟨v4,k4,q198c⟩:=C.mI _ _ _ _ h2 h4 hdp hdq;obtain⟨v0,k0,q203⟩:=C.yj v3 v4 _ _ k3 k4 (C.aae lp.1 hdq lq.1 hdp) (C.tY hdp hdq) (Int.ne_of_gt (Int.mul_pos dp dq));have k0:br v0 (p+q):=by rw[tZ];exact k0
   refine⟨v0,k0,cR (by rw[C.ft];exact Mc) be ?_⟩;have out:=fun hh=>k0.out (hh:=hh)
   obtain⟨s5,w5,s6,w6,rfl,h5,h6⟩:=k0;obtain⟨o5,_⟩:=h5.one;obtain⟨o6,_⟩:=h6.one;unfold EE;simp only[enter];by_cases hp1:p.den=1
   . have hq1:q.den≠1:=fun e=>hw ⟨hp1,e⟩
     rw[decide_eq_true hp1]at q201a;rw[decide_eq_false hq1]at q201b;repeat' first|refine gd0 ?_|refine gd1 ?_|refine gd7 ?_|refine gc ?_|fail
     all_goals exact cN rfl rfl (out _)
   . rw[decide_eq_false hp1]at q201a;repeat' first|refine gd0 ?_|refine gd1 ?_|refine gd7 ?_|refine gc ?_|fail
     all_goals exact cN rfl rfl (out _)
theorem aag (C:CJ M N){v:AV}{q:Rat}(hv:br v q)(lq:Bq N q):∃v0,br v0 (-q)/\cQ M 199 [v] v0:=by
 obtain⟨v0,h0,hr⟩:=ZV C hv lq.1;exact⟨v0,h0,hr⟩
structure CU (M:aw)(N N2:Nat):Prop extends EN M N N2 where
 Mk:∀v q,br v q->Bq N q->∃v0,br v0 (-q)/\∀h,M.ext 199 [v] h=some ⟨v0,h,[]⟩
 Ml:∀v q,br v q->Bq N q->q≠0->∃v0,br v0 q⁻¹/\∀h,M.ext 200 [v] h=some ⟨v0,h,[]⟩
 Mm:∀a b p q,br a p->br b q->Bq N p->Bq N q->∃v0,br v0 (p+q)/\∀h,M.ext 151 [a,b] h=some ⟨v0,h,[]⟩
 ua:∀a b p q,br a p->br b q->Bq N p->Bq N q->∃v0,br v0 (p*q)/\∀h,M.ext 152 [a,b] h=some ⟨v0,h,[]⟩
theorem Bq.neg {q:Rat}(h:Bq N q):Bq N (-q):=⟨by rw[Rat.neg_num,jR];exact h.1,h.2⟩
theorem aah (C:CS M N N2){v:AV}{q:Rat}(hv:br v q)(lq:Bq N q)(h0:q≠0):∃v0,br v0 q⁻¹/\cQ M 200 [v] v0:=by
 obtain⟨s1,w1,s2,w2,rfl,h1,h2⟩:=hv;have dq:=den_pos (q:=q);have hN:=C.hN;have hle:=gS (b:=wB) am (m:=N) (n:=N2) ac;obtain⟨v0,k0,q203⟩:=C.yj _ _ _ _ h2 h1 (by rw[cH ac];exact gF lq.2 hle) (gF lq.1 hle) (fun e=>h0 (Rat.num_eq_zero.1 e));rw[←Rat.inv_def]at k0;refine⟨v0,k0,cR (by rw[C.ft];exact ZO) be ?_⟩;have out:=fun hh=>k0.out (hh:=hh)
 obtain⟨s5,w5,s6,w6,rfl,h5,h6⟩:=k0;obtain⟨o5,_⟩:=h5.one;obtain⟨o6,_⟩:=h6.one;unfold Ma;simp only[enter];repeat' first|refine gd0 ?_|refine gd7 ?_|refine gc ?_|fail
 all_goals exact cN rfl rfl (out _)
theorem aai (C:CU M N N2){a b:AV}{p q:Rat}(ha:br a p)(hb:br b q)(lp:Bq N p)(lq:Bq N q):∃v0,br v0 (p-q)/\cQ M 149 [a,b] v0:=by
 obtain⟨v1,k1,q199⟩:=C.Mk b q hb lq;obtain⟨v0,k0,q151⟩:=C.Mm a v1 p _ ha k1 lp lq.neg;rw[←Rat.sub_eq_add_neg]at k0;refine⟨v0,k0,cR (by rw[C.ft];exact ZQ) be ?_⟩;have out:=fun hh=>k0.out (hh:=hh)
 obtain⟨s1,w1,s2,w2,rfl,h1,h2⟩:=ha;obtain⟨s3,w3,s4,w4,rfl,h3,h4⟩:=hb;obtain⟨s5,w5,s6,w6,rfl,h5,h6⟩:=k0;obtain⟨o5,_⟩:=h5.one;obtain⟨o6,_⟩:=h6.one;unfold Md;simp only[enter];repeat' first|refine gd1 ?_|refine gd7 ?_|refine gc ?_|fail
 all_goals exact cN rfl rfl (out _)
theorem aaj (C:CU M N N2){a b:AV}{p q:Rat}(ha:br a p)(hb:br b q)(lp:Bq N p)(lq:Bq N q)(li:Bq N q⁻¹)(h0:q≠0):∃v0,br v0 (p*q⁻¹)/\cQ M 150 [a,b] v0:=by
 obtain⟨v1,k1,q200⟩:=C.Ml b q hb lq h0;obtain⟨v0,k0,q152⟩:=C.ua a v1 p _ ha k1 lp li;refine⟨v0,k0,cR (by rw[C.ft];exact ZS) be ?_⟩;have out:=fun hh=>k0.out (hh:=hh)
 obtain⟨s1,w1,s2,w2,rfl,h1,h2⟩:=ha;obtain⟨s3,w3,s4,w4,rfl,h3,h4⟩:=hb;obtain⟨s5,w5,s6,w6,rfl,h5,h6⟩:=k0;obtain⟨o5,_⟩:=h5.one;obtain⟨o6,_⟩:=h6.one;unfold Mf;simp only[enter];repeat' first|refine gd1 ?_|refine gd7 ?_|refine gc ?_|fail
 all_goals exact cN rfl rfl (out _)
theorem aak {l:List Int}(ok:okW wB l)(nr:aN l)(h0:l≠[]):cj (WV wB l)=64*(l.length-1)+cj l[l.length-1]! := by
 have hl:0<l.length:=List.length_pos_iff.2 h0;obtain⟨n,hn⟩:∃n,l.length=n+1:=⟨l.length-1,ac⟩;have t0:=mD nr hl;rw[hn,show n+1-1=n by omega]at t0 ⊢;have gt:=cg ok (i:=n) ac;have gt:0<=l[n]! /\ l[n]! < 18446744073709551616:=gt;obtain⟨s1,s2,s3⟩:=pM (x:=l[n]!) ac;obtain⟨t,ht⟩:∃t,t=l[n]! := ⟨_,rfl⟩;have e0:=jQ (b:=wB) (l:=l) (n:=n) ac;rw[←ht]at t0 gt s1 s2 s3 e0 ⊢;obtain⟨k,hk⟩:∃k,cj t=k+1:=⟨cj t-1,ac⟩;rw[hk]at s2 s3 ⊢;rw[show k+1-1=k by omega]at s2;have l0:=cB (b:=wB) am (dF ok n);have l1:=dg (b:=wB) am (dF ok n);rw[dO,f9 ac]at l1;have hP:0<wB^n:=b8 am;have eP:wB^n=2^(64*n):=by rw[Int.pow_mul];rfl
 have m1:=b5 s2 (b6 hP);have m2:=b5 (show t+1<=2^(k+1) by omega) (b6 hP);rw[i3,Int.mul_one]at m2;refine Lo (n:=64*n+k) ⟨?_,?_⟩
 . rw[c7,←eP,e0];omega
 . rw[show 64*n+k+1=64*n+(k+1) by omega,c7,←eP,e0];omega
theorem aal (C:CI M N)(tJ:∀(x:Int) h,(0<=x/\x<18446744073709551616)->M.ext 240 [.uV x] h=some ⟨.iV (cj x),h,[]⟩){v:AV}{z:Int}(hv:ax v z)(lz:aj z<wB^N):cQ M 262 [v] (.iV (cj (aj z))):=by
 obtain⟨x,l,hx,ok,nr,hl,q246⟩:=C.lO v z hv;have len:=C.len ok nr hl lz;obtain⟨s,w,rfl,o,_⟩:=hv.shape;refine cR (by rw[C.ft];exact ZK) be ?_;rw[←hl];unfold LV;simp only[enter];rcases hx with rfl|⟨rfl,rfl⟩
 . by_cases h0:l.length=0
   . have e:cj (WV wB l)=0:=by rw[d9 h0];rfl
     rw[e];exact gg0
   . have hne:l≠[]:=fun e=>h0 (by rw[e];rfl)
     have gt:=cg ok (i:=((l.length:Int)-1).toNat) ac;have q240:=fun h=>tJ l[((l.length:Int)-1).toNat]! h gt
     have e:=aak ok nr hne;have hb:=pO (x:=l[((l.length:Int)-1).toNat]!) (n:=64) (by have:=gt.2;exact this) gt.1;rw[show l.length-1=((l.length:Int)-1).toNat by omega]at e;obtain⟨t,ht⟩:∃t,t=cj l[((l.length:Int)-1).toNat]! := ⟨_,rfl⟩;rw[←ht]at q240 e hb;have e2:(64*((l.length:Int)-1)+(t:Int))=((cj (WV wB l):Nat):Int):=by rw[e];omega
     rw[←e2];repeat' first|apply afc|apply cV|apply afl|apply afm|apply agR|apply agH|(apply ahB;rfl)|(apply aeJ;rfl;rfl)|(apply ajM;rfl;rfl;omega)|(apply aku;rfl;rfl;omega)|(apply ams;rfl;rfl;omega)|(apply acq;rfl;rfl;first|exact q246 _|exact q240 _)|(apply ajQ;rfl;rfl;omega)|(apply agT;rfl;exact fun _=>rfl;(first|omega|(simp only[List.length_set];omega)|(simp;omega));decide;rfl;case ia=>infer_instance)|(apply afC;rfl;rfl;rfl)|(apply aiq;rfl;rfl;rfl)|(apply abL;rfl;rfl)|(apply afx;rfl;rfl)|(intro _;omega)|intro _
     all_goals try omega
     all_goals exact cN rfl rfl (.same rfl rfl)
 . have e:cj (WV wB [])=0:=rfl;rw[e];exact gg0
section
variable {t:Nat} {x y:ay} {l:List aX} {pe:List AV} {lo:List (Nat×AV)} {hp:aa} {df wr:List Nat} {a:Int} {k:IntKind} {Q:aq->Prop}
theorem ame (hx:(St.mk pe lo hp df).ae x=some (.iV a))
 (h:WO M l ⟨⟨pe,(t,.iV (a/2))::lo,hp,df⟩,wr⟩ Q):WO M (⟨.l t,.bin .shr x (.c (.int k 1)),none⟩::l) ⟨⟨pe,lo,hp,df⟩,wr⟩ Q:=by
 refine WO.op (WP.pure (v:=.iV (a/2)) rfl ?_ h);have:a.fdiv (2^min (Int.toNat 1) IntKind.i64.bits)=a/2:=by
  show a.fdiv 2=a/2;rw[Int.fdiv_eq_ediv_of_nonneg _ ac]
 have e:(St.mk pe lo hp df).ae (.c (.int k 1))=some (.int k 1):=rfl;simp only[aY,hx,e,cU,this];rfl
theorem amd (hx:(St.mk pe lo hp df).ae x=some (.iV a))(hy:(St.mk pe lo hp df).ae y=some (.iV 1))(ha:0<=a/\a<9223372036854775808)
 (h:WO M l ⟨⟨pe,(t,.iV (a%2))::lo,hp,df⟩,wr⟩ Q):WO M (⟨.l t,.bin .and x y,none⟩::l) ⟨⟨pe,lo,hp,df⟩,wr⟩ Q:=by
 refine abL (v:=.iV (a%2)) ?_ rfl h;obtain⟨n,rfl⟩:=Int.eq_ofNat_of_zero_le ha.1;have e:(BitVec.ofInt 64 (n:Int) &&& BitVec.ofInt 64 1).toNat=n%2:=by
  rw[rn,show (1:Int)=((1:Nat):Int) from rfl,rn,BitVec.toNat_and,BitVec.toNat_ofNat,BitVec.toNat_ofNat,iy (show n<2^64 by omega),iy (show 1<2^64 by decide)];exact Nat.and_two_pow_sub_one_eq_mod n 1
 simp only[aY,hx,hy,cU,if_true];show some (AV.iV (IntKind.i64.wrap ((BitVec.ofInt 64 (n:Int) &&& BitVec.ofInt 64 1).toNat:Int)))=_;rw[e,pq ac];rfl
end
def ub (s so:Int)(w wo:AV):aa:=[some (.cells [.iV s,w] 131),some (.cells [.iV 0,.ab] 131),some (.cells [.iV so,wo] 131)]
theorem aam (C:CF M N){A:Int}{K:Nat}(hK:K<1000000)(hB:∀i,i<=K->aj (A^i)<wB^N){Q:Ex->aq->Prop}(a0:AV)
 (hQ:∀s so w wo p1 lo wr,ax (.agg [.iV so,wo]) (A^K)->Q (.exit 0) ⟨⟨[a0,p1,.ptr 0 0,.ptr 1 0,.ptr 2 0],lo,ub s so w wo,[]⟩,wr⟩)
 (s so:Int) (w wo:AV) (lo:List (Nat×AV)) (wr:List Nat) (hs:ax (.agg [.iV s,w]) A) (ho:ax (.agg [.iV so,wo]) 1) :
 W M (.loop rI) ⟨⟨[a0,.iV K,.ptr 0 0,.ptr 1 0,.ptr 2 0],lo,ub s so w wo,[]⟩,wr⟩ Q:=by
 refine W.gP (fun m st=>∃s so w wo kv lo wr i j,st=⟨⟨[a0,.iV kv,.ptr 0 0,.ptr 1 0,.ptr 2 0],lo,ub s so w wo,[]⟩,wr⟩/\kv=(m:Int)/\ax (.agg [.iV s,w]) (A^i)/\ax (.agg [.iV so,wo]) (A^j)/\j+i*m=K/\m<=K)
  (fun m st ⟨s,so,w,wo,kv,lo,wr,i,j,hst,hkv,hs,ho,hj,hmK⟩=>?_) (m:=K) ⟨s,so,w,wo,_,lo,wr,1,0,rfl,rfl,by rw[Int.pow_one];exact hs,by rw[Int.pow_zero];exact ho,ac,b9 _⟩
 subst hst;subst hkv;by_cases h0:m=0
 . subst h0;have ej:j=K:=by omega
   subst ej;unfold rI;exact gg1
 . obtain⟨q,b,hqb,hb⟩:∃q b:Nat,m=2*q+b/\b<2:=⟨m/2,m%2,ac,ac⟩;have him:i*m=2*(i*q)+i*b:=by rw[hqb,Nat.mul_add,←i6,Nat.mul_comm i 2,i6]
   have hdiv:(m:Int)/2=(q:Int):=by omega
   have hmod:(m:Int)%2=(b:Int):=by omega
   have hi:i<=K:=by
    have:i*1<=i*m:=Nat.mul_le_mul_left i ac;omega
   have hjK:j<=K:=by omega
   obtain⟨o1,_⟩:=hs.one;obtain⟨o2,_⟩:=ho.one;have fin:∀s so w wo lo wr i' j',ax (.agg [.iV s,w]) (A^i')->ax (.agg [.iV so,wo]) (A^j')->j'+i'*q=K->LI (fun st=>∃m',m'<m/\∃s so w wo kv lo wr i j,st=⟨⟨[a0,.iV kv,.ptr 0 0,.ptr 1 0,.ptr 2 0],lo,ub s so w wo,[]⟩,wr⟩/\kv=(m':Int)/\ax (.agg [.iV s,w]) (A^i)/\ax (.agg [.iV so,wo]) (A^j)/\j+i*m'=K/\m'<=K) Q .normal ⟨⟨[a0,.iV ((m:Int)/2),.ptr 0 0,.ptr 1 0,.ptr 2 0],lo,ub s so w wo,[]⟩,wr⟩:=fun s so w wo lo wr i' j' h1 h2 h3=>
    bW ⟨q,ac,s,so,w,wo,_,lo,wr,i',j',rfl,hdiv,h1,h2,h3,ac⟩
   have sq:q≠0->∃v,ax v (A^(i+i))/\∀h,M.ext 198 [.agg [.iV s,w],.agg [.iV s,w]] h=some ⟨v,h,[]⟩:=fun hq=>by
    obtain⟨v,h1,h2⟩:=C.mI _ _ _ _ hs hs (hB i hi) (hB i hi);exact⟨v,by rw[c7];exact h1,h2⟩
   by_cases hodd:b=1
   . subst hodd;obtain⟨v1,h1,q1⟩:=C.mI _ _ _ _ ho hs (hB j hjK) (hB i hi);have h1:ax v1 (A^(j+i)):=by rw[c7];exact h1
     obtain⟨s1,w1,rfl,o3,_⟩:=h1.shape;by_cases hq:q=0
     . subst hq;unfold rI;repeat' first|(apply amd;rfl;rfl;omega)|(apply ame;rfl)|(apply afG;rfl;rfl;rfl;exact⟨rfl,b9 _,by simp[gM,o3]⟩;rfl)|(apply aev;rfl;rfl)|(apply aeJ;rfl;rfl)|refine gd0 ?_|refine gc ?_|(intro _;omega)|intro _
       all_goals try omega
       all_goals exact fin s s1 w w1 _ _ i (j+i) hs h1 ac
     . obtain⟨v2,h2,q2⟩:=sq hq;obtain⟨s2,w2,rfl,o4,_⟩:=h2.shape;unfold rI;repeat' first|(apply amd;rfl;rfl;omega)|(apply ame;rfl)|(apply afG;rfl;rfl;rfl;exact⟨rfl,b9 _,by simp[gM,o3,o4]⟩;rfl)|(apply aev;rfl;rfl)|(apply aeJ;rfl;rfl)|refine gd0 ?_|refine gc ?_|(intro _;omega)|intro _
       all_goals try omega
       all_goals exact fin s2 s1 w2 w1 _ _ (i+i) (j+i) h2 h1 (by rw[Nat.add_mul];omega)
   . obtain⟨v2,h2,q2⟩:=sq ac;obtain⟨s2,w2,rfl,o4,_⟩:=h2.shape;have hb0:b=0:=by omega
     subst hb0;unfold rI;exact gg5
theorem aan (C:CF M N){v:AV}{A:Int}{K:Nat}(hv:ax v A)(hK:K<1000000)(hB:∀i,i<=K->aj (A^i)<wB^N):∃v0,ax v0 (A^K)/\cQ M 215 [v,.iV K] v0:=by
 have q168:=C.pP 1;obtain⟨s,w,rfl,o1,_⟩:=hv.shape;obtain⟨v',hh,⟨v0,h0,ho⟩,hr⟩:=gO (M:=M) (f:=215) (ars:=[.agg [.iV s,w],.iV K]) (P:=fun v hh=>∃v0,ax v0 (A^K)/\dZ v hh v0) (by rw[C.ft];exact ZL) be (by
  unfold LW;simp only[enter];repeat' first|refine gd0 ?_|refine gc ?_|fail
  refine aam C hK hB _ (fun s so w wo p1 lo wr hg=>?_) s 1 w .ab _ _ hv (.small am);obtain⟨o5,_⟩:=hg.one;repeat' first|(apply afG;rfl;rfl;rfl;exact⟨rfl,b9 _,by simp[gM,o5]⟩;rfl)|refine gc ?_|fail
  exact⟨.inr rfl,rfl,_,rfl,_,hg,hg.out⟩)
 exact⟨v0,h0,v',hh,ho,hr⟩
variable {P:Program} {T:List (Nat×Spec)} {g:Nat}
theorem cQ.runK {ars:List AV}{v0:AV}(h:cQ (aZ P FT T) g ars v0)(ht:bc ars=0):DC P FT T g ars v0:=by
 obtain⟨v,hh,⟨v1,h1,h2,h3⟩,hr⟩:=h;exact⟨v,hh,v1,hr,h1,ht,h2,h3⟩
theorem cQ.eq {ars:List AV}{v0:AV}{hp:aa}(h:cQ (aZ P FT T) g ars v0)(ht:bc ars=0):rk P FT T g ars hp=some ⟨v0,hp,[]⟩:=tx (h.runK ht)
theorem ry.eq {ars as0:List AV}{z:Int}(h:ry (aZ P FT T) g as0 z):∃r,okW wB r/\aN r/\WV wB r=z/\∀hp,gE hp ars as0->tw P FT T g ars hp=some ⟨.vs (al r) r.length none,hp,[]⟩:=by
 obtain⟨r,⟨h1,h2,h3⟩,v,hh,⟨v1,f,t,c⟩,hr⟩:=h;exact⟨r,h1,h2,h3,fun hp hf=>kL hf ⟨v,hh,v1,hr,f,t,c⟩⟩
theorem tM.eq {ars:List AV}{x y:Int}(h:tM (aZ P FT T) g ars x y)(ht:bc ars=0):∃qv q rv r,dj qv q/\dj rv r/\okW wB q/\aN q/\okW wB r/\aN r/\WV wB q=x/y/\WV wB r=x%y/\∀hp,rk P FT T g ars hp=some ⟨.au [qv,rv],hp,[]⟩:=by
 obtain⟨q,r,⟨h1,h2,h3⟩,⟨h4,h5,h6⟩,v,hh,⟨v1,qv,rv,f,t,c,k1,k2⟩,hr⟩:=h;exact⟨qv,q,rv,r,k1,k2,h1,h2,h4,h5,h3,h6,fun hp=>tx ⟨v,hh,v1,hr,f,ht,t,c⟩⟩
theorem dj.top {x:AV}{l:List Int}(h:dj x l):x.top=0:=by
 rcases h with rfl|⟨rfl,rfl⟩
 . exact ib l
 . rfl
theorem ax.top {v:AV}{z:Int}(h:ax v z):v.top=0:=by
 obtain⟨s,w,rfl,_,t,_⟩:=h.shape;simp[AV.top,bc,t]
theorem br.top {v:AV}{q:Rat}(h:br v q):v.top=0:=by
 obtain⟨s,w,s',w',rfl,h1,h2⟩:=h;have t1:=h1.one.2.1;have t2:=h2.one.2.1;simp[AV.top,bc,t1,t2]
open Go.Proofs
noncomputable abbrev sK (T:List (Nat×Spec))(g:Nat):Spec:=rk Tryz.prog FT T g
noncomputable abbrev sL (T:List (Nat×Spec))(g:Nat):Spec:=tw Tryz.prog FT T g
theorem bh {g:Nat}(hT:cD Tryz.prog gl (bk T)):aT Tryz.prog gl g (sK T g):=Xa pE hT
theorem jj {g:Nat}(hT:cD Tryz.prog gl (bk T)):aT Tryz.prog gl g (sL T g):=WY pE hT
theorem fH {v:AV}(h:v.top=0):bc [v]=0:=by simp[bc,h]
theorem eK {v w:AV}(h:v.top=0)(k:w.top=0):bc [v,w]=0:=by simp[bc,h,k]
theorem dm {ars:List AV}{v0:AV}{g:Nat}(h:cQ (aZ Tryz.prog FT T) g ars v0)(ht:bc ars=0):∀hp,sK T g ars hp=some ⟨v0,hp,[]⟩:=fun _=>h.eq ht
def Mn:List (Nat×Spec):=[(275,nH .qS),(277,nH .qT)]
theorem aao:cD Tryz.prog gl (bk Mn):=aO (xk KI) (aO (xk KJ) bA)
structure EO (T:List (Nat×Spec)):Prop where
 aap:∀ar h,bk T 275 ar h=nH .qS ar h
 aaq:∀ar h,bk T 277 ar h=nH .qT ar h
 xV:∀ar h,bk T 276 ar h=none
theorem EO.c (E:EO T):nM (aZ Tryz.prog FT T) where
 ft:=bm
 xV:=E.xV
 nN x y c h hx hy h0 h1:=by
  refine(E.aap _ _).trans ?_;show i7 _ (if _ then _ else _)=_;grind
 xW x y c h hx hx1 hy hy1 h0 h1:=by
  refine(E.aaq _ _).trans ?_;show i7 _ (if _ then _ else _)=_;grind
noncomputable def nX:Spec:=sK [] 244
theorem EP:aT Tryz.prog gl 244 nX:=bh bA
theorem ET:∀(x y:Int) h,(0<=x/\x<18446744073709551616)->(0<=y/\y<18446744073709551616)->nX [.uV x,.uV y] h=some ⟨.au [.uV (x*y/18446744073709551616),.uV (x*y%18446744073709551616)],h,[]⟩:=fun x y h hx hy=>bO (Ys bm x y hx hy) rfl rfl rfl h
noncomputable def rJ:List (Nat×Spec):=(244,nX)::Mn
theorem yk:cD Tryz.prog gl (bk rJ):=aO EP aao
structure yl (T:List (Nat×Spec)):Prop extends EO T where
 EV:∀ar h,bk T 244 ar h=nX ar h
theorem yl.c (E:yl T):nO (aZ Tryz.prog FT T):={ E.toEO.c with pK:=fun x y h hx hy=>(E.EV _ _).trans (ET x y h hx hy) }
theorem EW:yl rJ:=by repeat' first|exact fun _ _=>rfl|constructor
noncomputable def uc:Spec:=sK [] 240
theorem EX:aT Tryz.prog gl 240 uc:=bh bA
theorem EY:∀(x:Int) h,(0<=x/\x<18446744073709551616)->uc [.uV x] h=some ⟨.iV (cj x),h,[]⟩:=fun x h hx=>bO (YG bm x hx) rfl rfl rfl h
noncomputable def Mo:List (Nat×Spec):=[(240,uc)]
noncomputable def ud:Spec:=sK Mo 279
theorem Mp:aT Tryz.prog gl 279 ud:=bh (aO EX bA)
theorem Mq:∀(y:Int) h,(0<=y/\y<18446744073709551616)->ud [.uV y] h=some ⟨.iV (64-cj y:Nat),h,[]⟩:=fun x h hx=>bO (YH (M:=aZ Tryz.prog FT Mo) bm x hx fun h=>EY x h hx) rfl rfl rfl h
noncomputable def Mr:List (Nat×Spec):=[(279,ud)]
noncomputable def yn:Spec:=sK Mr 278
theorem aar:aT Tryz.prog gl 278 yn:=bh (aO Mp bA)
theorem aas:∀(hi lo y:Int) h,(0<y/\y<18446744073709551616)->(0<=hi/\hi<y)->(0<=lo/\lo<18446744073709551616)->yn [.uV hi,.uV lo,.uV y] h=some ⟨.au [.uV ((hi*18446744073709551616+lo)/y),.uV ((hi*18446744073709551616+lo)%y)],h,[]⟩:=fun hi lo y h hy hh hl=>
 bO (YL (M:=aZ Tryz.prog FT Mr) bm hi lo y hy hh hl fun h=>Mq y h ⟨ac,hy.2⟩) rfl rfl rfl h
noncomputable def yp:Spec:=sL rJ 249
noncomputable def yq:Spec:=sL rJ 251
noncomputable def yr:Spec:=sL rJ 248
noncomputable def pQ:Spec:=sL [] 250
theorem aat:aT Tryz.prog gl 249 yp:=jj yk
theorem aau:aT Tryz.prog gl 251 yq:=jj yk
theorem aav:aT Tryz.prog gl 248 yr:=jj yk
theorem Ms:aT Tryz.prog gl 250 pQ:=jj bA
theorem aaw:∀x l y m,dj x l->dj y m->okW wB l->okW wB m->l.length<=500000->m.length<=500000->∃r,okW wB r/\aN r/\WV wB r=WV wB l+WV wB m/\∀h,yp [x,y] h=some ⟨.vs (al r) r.length none,h,[]⟩:=fun x l y m hx hy o1 o2 l1 l2=>by
 obtain⟨r,h1,h2,h3,h4⟩:=(Yx (c1:=none) (c2:=none) EW.c.tonM l m o1 o2 ac ac).eq;exact⟨r,h1,h2,h3,fun h=>h4 h (.cons hx.fL (.cons hy.fL .nil))⟩
theorem aax:∀x l y m,dj x l->dj y m->okW wB l->okW wB m->aN l->aN m->l.length<=500000->m.length<=500000->WV wB m<=WV wB l->∃r,okW wB r/\aN r/\WV wB r=WV wB l-WV wB m/\∀h,yq [x,y] h=some ⟨.vs (al r) r.length none,h,[]⟩:=fun x l y m hx hy o1 o2 n1 n2 l1 l2 hle=>by
 have hlen:m.length<=l.length:=by
  rcases Nat.lt_or_ge l.length m.length with h|h
  . have:=pJ (b:=wB) am o1 o2 n2 h;omega
  . exact h
 obtain⟨r,h1,h2,h3,h4⟩:=(Yz (c1:=none) (c2:=none) EW.c.tonM l m o1 o2 ac hlen hle).eq;exact⟨r,h1,h2,h3,fun h=>h4 h (.cons hx.fL (.cons hy.fL .nil))⟩
theorem aay:∀x l y m,dj x l->dj y m->okW wB l->okW wB m->l.length<=500000->m.length<=500000->∃r,okW wB r/\aN r/\WV wB r=WV wB l*WV wB m/\∀h,yr [x,y] h=some ⟨.vs (al r) r.length none,h,[]⟩:=fun x l y m hx hy o1 o2 l1 l2=>by
 obtain⟨r,h1,h2,h3,h4⟩:=(YB (c1:=none) (c2:=none) EW.c l m o1 o2 ac ac).eq;exact⟨r,h1,h2,h3,fun h=>h4 h (.cons hx.fL (.cons hy.fL .nil))⟩
theorem EZ {x y:AV}{l m:List Int}{c1 c2:Option Nat}{h:aa}(hx:cK h x (.vs (al l) l.length c1))(hy:cK h y (.vs (al m) m.length c2))(o1:okW wB l)(o2:okW wB m)(n1:aN l)(n2:aN m)(l1:l.length<1000000000)(l2:m.length<1000000000):pQ [x,y] h=some ⟨.iV (bz (WV wB l-WV wB m)),h,[]⟩:=
 rl (Yw bm l m o1 o2 n1 n2 l1 l2) rfl rfl rfl (.cons hx (.cons hy .nil))
theorem Mt:∀x l y m,dj x l->dj y m->okW wB l->okW wB m->aN l->aN m->l.length<=500000->m.length<=500000->∀h,pQ [x,y] h=some ⟨.iV (bz (WV wB l-WV wB m)),h,[]⟩:=fun x l y m hx hy o1 o2 n1 n2 l1 l2 h=>
 EZ hx.fL hy.fL o1 o2 n1 n2 ac ac
noncomputable def rK:List (Nat×Spec):=(278,yn)::(250,pQ)::(279,ud)::rJ
theorem Fa:cD Tryz.prog gl (bk rK):=aO aar (aO Ms (aO Mp yk))
structure Fb (T:List (Nat×Spec)):Prop extends yl T where
 aaz:∀ar h,bk T 278 ar h=yn ar h
 Fc:∀ar h,bk T 250 ar h=pQ ar h
 aaA:∀ar h,bk T 279 ar h=ud ar h
 tL:∀ar h,bk T 280 ar h=none
 yd:∀ar h,bk T 281 ar h=none
theorem Fb.c (E:Fb T):Es (aZ Tryz.prog FT T):={ E.toyl.c with
 Ep:=fun hi lo y h h1 h2 h3=>(E.aaz _ _).trans (aas hi lo y h h1 h2 h3)
 rB:=fun a b _c1 _c2 h o1 o2 n1 n2 l1 l2=>(E.Fc _ _).trans (EZ (.nK (tN a)) (.nK (tN b)) o1 o2 n1 n2 l1 l2)
 yb:=fun y h hy=>(E.aaA _ _).trans (Mq y h hy)
 tL:=E.tL
 yd:=E.yd }
theorem Mu:Fb rK:=by repeat' first|exact fun _ _=>rfl|constructor
noncomputable def yt:Spec:=sK rK 253
theorem aaB:aT Tryz.prog gl 253 yt:=bh Fa
theorem aaC:∀x l y m,dj x l->dj y m->okW wB l->okW wB m->aN l->aN m->l.length<=500000->m.length<=500000->m≠[]->∃qv q rv r,dj qv q/\dj rv r/\okW wB q/\aN q/\okW wB r/\aN r/\WV wB q=WV wB l/WV wB m/\WV wB r=WV wB l%WV wB m/\∀h,yt [x,y] h=some ⟨.au [qv,rv],h,[]⟩:=fun x l y m hx hy o1 o2 n1 n2 l1 l2 hm=>by
 have hy':y = .vs (al m) m.length none:=by
  rcases hy with h|⟨_,h⟩
  . exact h
  . grind
 subst hy';rcases hx with rfl|⟨rfl,rfl⟩
 . exact(Zd Mu.c l m o1 o2 n1 n2 ac ac hm).eq (eK (ib l) (ib m))
 . have hv:=(jN (b:=wB) am o2 n2).2 hm;have q250:∀h,(aZ Tryz.prog FT rK).ext 250 [.ab,.vs (al m) m.length none] h=some ⟨.iV (-1),h,[]⟩:=fun h=>by
    have:=Mt .ab [] _ m (.inr ⟨rfl,rfl⟩) (.inl rfl) o1 o2 n1 n2 l1 l2 h;rw[show bz (WV wB []-WV wB m) = -1 from if_pos (by simp[WV];omega)]at this;exact this
   exact(Ze bm m o2 n2 hm q250).eq (eK rfl (ib m))
def aaD (ar:List AV):Prop:=∃l c y,ar=[.vs (al l) l.length c,y]/\WV wB l<1000000000000000000
noncomputable def rL:Spec:=tz aaD (DD Tryz.prog FT rK 253) (sL rK 253)
theorem aaE:aT Tryz.prog gl 253 rL:=Xf (Xd pE Fa) (jj Fa)
theorem Mv {h:aa}{b:Nat}{a:AV}{e:TypeId}{cp:Option Nat}(ha:xB a=true)(hb:h.at b=some (.cells [a] e)):cK h (.sl b 0 1 1 cp) (.vs [a] 1 none):=
 .sl (m:=[a]) hb rfl rfl fun i x y hx hy=>by
  match i,hx,hy with
  | 0,hx,hy=>cases hx;cases hy;exact .atom ha
def eW:List Int:=[1000000000000000000]
theorem pR:okW wB eW/\aN eW/\WV wB eW=1000000000000000000:=⟨by intro x hx;rw[c9.1 hx];decide,(tH (l:=eW) (by simp[eW])).2 (by simp[eW]),am⟩
theorem aaF:∀(l:List Int) (b:Nat) c h,okW wB l->aN l->l.length<=500000->WV wB l<1000000000000000000->h.at b=some (.cells (al [1000000000000000000]) 246)->rL [.vs (al l) l.length none,.sl b 0 1 1 c] h=some ⟨.au [.ab,.vs (al l) l.length none],h,[]⟩:=fun l b c h ok nr hl hv hb=>by
 unfold rL;rw[Xg ⟨l,none,_,rfl,hv⟩];refine Xe (Zf bm l _ h ?_);have:=EZ (x:=.vs (al l) l.length none) (y:=.sl b 0 1 1 c) (l:=l) (m:=eW) (c1:=none) (c2:=none) (h:=h) (.nK (tN l)) (Mv rfl hb) ok pR.1 nr pR.2.1 ac am;rw[pR.2.2,show bz (WV wB l-1000000000000000000) = -1 from if_pos ac]at this;exact this
theorem aaG:∀(l:List Int) (b:Nat) c h,okW wB l->aN l->l.length<=500000->¬WV wB l<1000000000000000000->h.at b=some (.cells (al [1000000000000000000]) 246)->∃q r,okW wB q/\aN q/\okW wB r/\aN r/\WV wB q=WV wB l/1000000000000000000/\WV wB r=WV wB l%1000000000000000000/\rL [.vs (al l) l.length none,.sl b 0 1 1 c] h=some ⟨.au [.vs (al q) q.length none,.vs (al r) r.length none],h,[]⟩:=fun l b c h ok nr hl hv hb=>by
 obtain⟨q,r,⟨h1,h2,h3⟩,⟨h4,h5,h6⟩,v,hh,⟨v1,f,t,k⟩,hr⟩:=Zh (c1:=none) (c2:=none) Mu.c l eW ok pR.1 nr pR.2.1 ac rfl (by rw[pR.2.2];exact hv);rw[pR.2.2]at h3 h6;refine⟨q,r,h1,h2,h4,h5,h3,h6,?_⟩;unfold rL;rw[Xh]
 . exact kL (.cons (.nK (tN l)) (.cons (Mv rfl hb) .nil)) ⟨v,hh,v1,hr,f,t,k⟩
 . rintro⟨l',c',y,e,hlt⟩;simp only[List.cons.injEq,AV.vs.injEq]at e;have:=Kp (f:=uC) (esz:=1) (fun _=>rfl) be e.1.2.1 e.1.1;grind
noncomputable def ue:Spec:=sK [] 245
theorem Mw:aT Tryz.prog gl 245 ue:=bh bA
theorem Mx:∀s h,(-9223372036854775808<=s/\s<9223372036854775808)->ue [.iV s] h=some ⟨.uV (aj s),h,[]⟩:=fun s h hs=>bO (Zi bm s hs) rfl rfl rfl h
noncomputable def My:List (Nat×Spec):=[(245,ue)]
noncomputable def yu:Spec:=sK My 246
theorem aaH:aT Tryz.prog gl 246 yu:=bh (aO Mw bA)
theorem aaI:∀v z,ax v z->∃x l,dj x l/\okW wB l/\aN l/\WV wB l=aj z/\∀h,yu [v] h=some ⟨.au [.bool (decide (z<0)),x],h,[]⟩:=fun v z hv=>by
 obtain⟨x,l,h1,h2,h3,h4,h5⟩:=Zj (M:=aZ Tryz.prog FT My) bm (fun s h hs=>Mx s h hs) hv;exact⟨x,l,h1,h2,h3,h4,dm h5 (fH hv.top)⟩
noncomputable def yw:Spec:=sK [] 247
theorem aaJ:aT Tryz.prog gl 247 yw:=bh bA
theorem aaK:∀neg x l,dj x l->okW wB l->aN l->l.length<=1000001->∃v0,ax v0 (gH neg (WV wB l))/\∀h,yw [.bool neg,x] h=some ⟨v0,h,[]⟩:=fun neg x l hx ok nr hl=>by
 obtain⟨v0,h1,h2⟩:=Zk (M:=aZ Tryz.prog FT []) bm neg hx ok nr ac;exact⟨v0,h1,dm h2 (eK rfl hx.top)⟩
noncomputable def TI:List (Nat×Spec):=[(245,ue),(244,nX),(246,yu),(247,yw),(249,yp),(251,yq),(248,yr),(250,pQ)]
theorem rM:cD Tryz.prog gl (bk TI):=aO Mw (aO EP (aO aaH (aO aaJ (aO aat (aO aau (aO aav (aO Ms bA)))))))
structure EI (T:List (Nat×Spec)):Prop where
 aaL:∀ar h,bk T 245 ar h=ue ar h
 EV:∀ar h,bk T 244 ar h=nX ar h
 aaM:∀ar h,bk T 246 ar h=yu ar h
 aaN:∀ar h,bk T 247 ar h=yw ar h
 aaO:∀ar h,bk T 249 ar h=yp ar h
 aaP:∀ar h,bk T 251 ar h=yq ar h
 aaQ:∀ar h,bk T 248 ar h=yr ar h
 Fc:∀ar h,bk T 250 ar h=pQ ar h
theorem EI.c (E:EI T){N:Nat}(hN:N<=500000):CI (aZ Tryz.prog FT T) N where
 ft:=bm
 lN:=hN
 tO:=by simp only[E.aaL];exact Mx
 pK:=by simp only[E.EV];exact ET
 lO:=by simp only[E.aaM];exact aaI
 kO:=by simp only[E.aaN];exact aaK
 LN:=by simp only[E.aaO];exact aaw
 Ey:=by simp only[E.aaP];exact aax
 LO:=by simp only[E.aaQ];exact aay
 rB:=by simp only[E.Fc];exact Mt
theorem eI:EI TI:=by repeat' first|exact fun _ _=>rfl|constructor
noncomputable def yx:Spec:=sK TI 216
noncomputable def yy:Spec:=sK TI 202
noncomputable def yz:Spec:=sK TI 198
noncomputable def yA:Spec:=sK [] 211
noncomputable def yB:Spec:=sK [] 168
theorem aaR:aT Tryz.prog gl 216 yx:=bh rM
theorem aaS:aT Tryz.prog gl 202 yy:=bh rM
theorem aaT:aT Tryz.prog gl 198 yz:=bh rM
theorem aaU:aT Tryz.prog gl 211 yA:=bh bA
theorem aaV:aT Tryz.prog gl 168 yB:=bh bA
def P1 (sp:Spec)(N:Nat)(f:Int->Int):Prop:=∀v z,ax v z->aj z<wB^N->∃v0,ax v0 (f z)/\∀h,sp [v] h=some ⟨v0,h,[]⟩
def P2 (sp:Spec)(N:Nat)(f:Int->Int->Int):Prop:=∀a b x y,ax a x->ax b y->aj x<wB^N->aj y<wB^N->∃v0,ax v0 (f x y)/\∀h,sp [a,b] h=some ⟨v0,h,[]⟩
theorem P1.op {sp:Spec}{N g:Nat}{f:Int->Int}(p:P1 sp N f)(e:∀ar h,bk T g ar h=sp ar h):Op1 (aZ Tryz.prog FT T) N g f:=fun v z hv hz=>by
 obtain⟨v0,h1,h2⟩:=p v z hv hz;grind
theorem P2.op {sp:Spec}{N g:Nat}{f:Int->Int->Int}(p:P2 sp N f)(e:∀ar h,bk T g ar h=sp ar h):yg (aZ Tryz.prog FT T) N g f:=fun a b x y ha hb hx hy=>by
 obtain⟨v0,h1,h2⟩:=p a b x y ha hb hx hy;grind
theorem aaW {N:Nat}(hN:N<=500000):P1 yx N (fun z=>-z):=fun v z hv hz=>by
 obtain⟨v0,h1,h2⟩:=Zq (eI.c hN) hv hz;exact⟨v0,h1,dm h2 (fH hv.top)⟩
theorem aaX {N:Nat}(hN:N<=500000):P2 yy N (· + ·):=fun a b x y ha hb hx hy=>by
 obtain⟨v0,h1,h2⟩:=Zw (eI.c hN) ha hb hx hy;exact⟨v0,h1,dm h2 (eK ha.top hb.top)⟩
theorem aaY {N:Nat}(hN:N<=500000):P2 yz N (· * ·):=fun a b x y ha hb hx hy=>by
 obtain⟨v0,h1,h2⟩:=ZD (eI.c hN) ha hb hx hy;exact⟨v0,h1,dm h2 (eK ha.top hb.top)⟩
theorem aaZ:∀v z,ax v z->∀h,yA [v] h=some ⟨.iV (bz z),h,[]⟩:=fun v z hv h=>bO (Zr bm hv) (fH hv.top) rfl rfl h
theorem aba:∀s h,yB [.iV s] h=some ⟨.agg [.iV s,.ab],h,[]⟩:=fun s h=>(ZA bm s).eq rfl
noncomputable def yC:List (Nat×Spec):=(216,yx)::(202,yy)::TI
theorem Mz:cD Tryz.prog gl (bk yC):=aO aaR (aO aaS rM)
structure yD (T:List (Nat×Spec)):Prop extends EI T where
 abb:∀ar h,bk T 216 ar h=yx ar h
 abc:∀ar h,bk T 202 ar h=yy ar h
theorem yD.c (E:yD T){N:Nat}(hN:N<=500000):Ez (aZ Tryz.prog FT T) N:={ E.toEI.c hN with mH:=(aaW hN).op E.abb,rH:=(aaX hN).op E.abc }
theorem eJ0:yD yC:=by repeat' first|exact fun _ _=>rfl|constructor
noncomputable def yE:Spec:=sK yC 217
theorem abe:aT Tryz.prog gl 217 yE:=bh Mz
theorem abf {N:Nat}(hN:N<=500000):P2 yE N (· - ·):=fun a b x y ha hb hx hy=>by
 obtain⟨v0,h1,h2⟩:=Zx (eJ0.c hN) ha hb hx hy;exact⟨v0,h1,dm h2 (eK ha.top hb.top)⟩
noncomputable def TJ:List (Nat×Spec):=(217,yE)::(211,yA)::yC
theorem uf:cD Tryz.prog gl (bk TJ):=aO abe (aO aaU Mz)
structure EJ (T:List (Nat×Spec)):Prop extends yD T where
 abg:∀ar h,bk T 217 ar h=yE ar h
 abh:∀ar h,bk T 211 ar h=yA ar h
theorem EJ.c (E:EJ T){N:Nat}(hN:N<=500000):CJ (aZ Tryz.prog FT T) N:={ E.toyD.c hN with EA:=(abf hN).op E.abg,nT:=fun v z hv h=>(E.abh _ _).trans (aaZ v z hv h) }
theorem eJ:EJ TJ:=by repeat' first|exact fun _ _=>rfl|constructor
noncomputable def yF:Spec:=sK TJ 210
noncomputable def yG:Spec:=sK TJ 167
noncomputable def yH:Spec:=sK TJ 199
theorem abi:aT Tryz.prog gl 210 yF:=bh uf
theorem abj:aT Tryz.prog gl 167 yG:=bh uf
theorem abk:aT Tryz.prog gl 199 yH:=bh uf
theorem abl {N:Nat}(hN:N<=500000):P1 yF N aj:=fun v z hv hz=>by
 obtain⟨v0,h1,h2⟩:=Zy (eJ.c hN) hv hz;exact⟨v0,h1,dm h2 (fH hv.top)⟩
theorem abm {N:Nat}(hN:N<=500000):∀a b x y,ax a x->ax b y->aj x<wB^N->aj y<wB^N->∀h,yG [a,b] h=some ⟨.iV (bz (x-y)),h,[]⟩:=fun a b x y ha hb hx hy=>
 dm (Zz (eJ.c hN) ha hb hx hy) (eK ha.top hb.top)
theorem abn {N:Nat}(hN:N<=500000):∀v q,br v q->Bq N q->∃v0,br v0 (-q)/\∀h,yH [v] h=some ⟨v0,h,[]⟩:=fun v q hv lq=>by
 obtain⟨v0,h1,h2⟩:=aag (eJ.c hN) hv lq;exact⟨v0,h1,dm h2 (fH hv.top)⟩
noncomputable def TD:List (Nat×Spec):=(168,yB)::(253,yt)::TJ
theorem Fe:cD Tryz.prog gl (bk TD):=aO aaV (aO aaB uf)
structure ED (T:List (Nat×Spec)):Prop extends EJ T where
 abo:∀ar h,bk T 168 ar h=yB ar h
 abp:∀ar h,bk T 253 ar h=yt ar h
theorem ED.c (E:ED T){N:Nat}(h1:1<=N)(hN:N<=500000):CD (aZ Tryz.prog FT T) N:={ E.toEJ.c hN with
 n1:=h1
 pP:=fun s h=>(E.abo _ _).trans (aba s h)
 LU:=by simp only[E.abp];exact aaC }
theorem eD:ED TD:=by repeat' first|exact fun _ _=>rfl|constructor
noncomputable def yI:Spec:=sK TD 205
noncomputable def yJ:Spec:=sK TD 159
theorem abq:aT Tryz.prog gl 205 yI:=bh Fe
theorem abr:aT Tryz.prog gl 159 yJ:=bh Fe
theorem abt {N:Nat}(h1:1<=N)(hN:N<=500000):∀a b x y,ax a x->ax b y->aj x<wB^N->aj y<wB^N->0<y->∃q r,ax q (x/y)/\ax r (x%y)/\∀h,yI [a,b] h=some ⟨.au [q,r],h,[]⟩:=fun a b x y ha hb hx hy h0=>by
 obtain⟨q,r,k1,k2,k3⟩:=ZI (eD.c h1 hN) ha hb hx hy h0;exact⟨q,r,k1,k2,dm k3 (eK ha.top hb.top)⟩
theorem jv.top {v:AV}{n d:Int}(h:jv v n d):v.top=0:=by
 obtain⟨s,w,s',w',rfl,h1,h2⟩:=h;have t1:=h1.one.2.1;have t2:=h2.one.2.1;simp[AV.top,bc,t1,t2]
theorem abu:∀v z,ax v z->∃v0,jv v0 z 1/\∀h,yJ [v] h=some ⟨v0,h,[]⟩:=fun v z hv=>by
 obtain⟨v0,h1,h2⟩:=ZU (eD.c (N:=1) am am) hv;exact⟨v0,h1,dm h2 (fH hv.top)⟩
noncomputable def TQ:List (Nat×Spec):=(205,yI)::TD
theorem Ff:cD Tryz.prog gl (bk TQ):=aO abq Fe
structure EQ (T:List (Nat×Spec)):Prop extends ED T where
 abv:∀ar h,bk T 205 ar h=yI ar h
theorem EQ.c (E:EQ T){N:Nat}(h1:1<=N)(hN:N<=500000):CQ (aZ Tryz.prog FT T) N:={ E.toED.c h1 hN with yh:=by simp only[E.abv];exact abt h1 hN }
theorem eQ:EQ TQ:=by repeat' first|exact fun _ _=>rfl|constructor
noncomputable def yK:Spec:=sK TQ 252
theorem abw:aT Tryz.prog gl 252 yK:=bh Ff
theorem abx {N:Nat}(h1:1<=N)(hN:N<=500000):∀a b x y k,ax a x->ax b y->aj x<wB^N->aj y<wB^N->y≠0->x=y*k->∃v0,ax v0 k/\∀h,yK [a,b] h=some ⟨v0,h,[]⟩:=fun a b x y k ha hb hx hy h0 hk=>by
 obtain⟨v0,k1,k2⟩:=ZJ (eQ.c h1 hN) ha hb hx hy h0 hk;exact⟨v0,k1,dm k2 (eK ha.top hb.top)⟩
noncomputable def TF:List (Nat×Spec):=(159,yJ)::(167,yG)::(198,yz)::TQ
theorem Fg:cD Tryz.prog gl (bk TF):=aO abr (aO abj (aO aaT Ff))
structure EF (T:List (Nat×Spec)):Prop extends EQ T where
 aby:∀ar h,bk T 159 ar h=yJ ar h
 abz:∀ar h,bk T 167 ar h=yG ar h
 abA:∀ar h,bk T 198 ar h=yz ar h
theorem EF.c (E:EF T){N:Nat}(h1:1<=N)(hN:N<=500000):CF (aZ Tryz.prog FT T) N:={ E.toEQ.c h1 hN with
 EH:=by simp only[E.aby];exact abu
 Mi:=by simp only[E.abz];exact abm hN
 mI:=(aaY hN).op E.abA }
theorem eF:EF TF:=by repeat' first|exact fun _ _=>rfl|constructor
noncomputable def TG:List (Nat×Spec):=(210,yF)::TQ
theorem MA:cD Tryz.prog gl (bk TG):=aO abi Ff
structure EG (T:List (Nat×Spec)):Prop extends EQ T where
 abB:∀ar h,bk T 210 ar h=yF ar h
theorem EG.c (E:EG T){N:Nat}(h1:1<=N)(hN:N<=500000):CG (aZ Tryz.prog FT T) N:={ E.toEQ.c h1 hN with EL:=(abl hN).op E.abB }
theorem eG:EG TG:=by repeat' first|exact fun _ _=>rfl|constructor
noncomputable def ug:Spec:=sK TG 165
theorem MB:aT Tryz.prog gl 165 ug:=bh MA
theorem MC {N:Nat}(h1:1<=N)(hN:N<=500000):∀a b x y,ax a x->ax b y->aj x<wB^N->aj y<wB^N->∃v0,ax v0 (ci x y:Nat)/\∀h,ug [a,b] h=some ⟨v0,h,[]⟩:=fun a b x y ha hb hx hy=>by
 obtain⟨v0,k1,k2⟩:=ZZ (eG.c h1 hN) ha hb hx hy;exact⟨v0,k1,dm k2 (eK ha.top hb.top)⟩
noncomputable def TR:List (Nat×Spec):=(165,ug)::(252,yK)::TG
theorem abC:cD Tryz.prog gl (bk TR):=aO MB (aO abw MA)
structure ER (T:List (Nat×Spec)):Prop extends EG T where
 abD:∀ar h,bk T 165 ar h=ug ar h
 abE:∀ar h,bk T 252 ar h=yK ar h
theorem ER.c (E:ER T){N:Nat}(h1:1<=N)(hN:N<=500000):CR (aZ Tryz.prog FT T) N:={ E.toEG.c h1 hN with
 tW:=by simp only[E.abD];exact MC h1 hN
 EM:=by simp only[E.abE];exact abx h1 hN }
theorem eR:ER TR:=by repeat' first|exact fun _ _=>rfl|constructor
noncomputable def yL:Spec:=sK TR 203
theorem abF:aT Tryz.prog gl 203 yL:=bh abC
theorem abG {N:Nat}(h1:1<=N)(hN:N<=500000):∀a b n d,ax a n->ax b d->aj n<wB^N->aj d<wB^N->d≠0->∃v0,br v0 (c3 n d)/\∀h,yL [a,b] h=some ⟨v0,h,[]⟩:=fun a b n d ha hb hn hd h0=>by
 obtain⟨v0,k1,k2⟩:=aab (eR.c h1 hN) ha hb hn hd h0;exact⟨v0,k1,dm k2 (eK ha.top hb.top)⟩
noncomputable def TS:List (Nat×Spec):=(203,yL)::TF
theorem Fh:cD Tryz.prog gl (bk TS):=aO abF Fg
structure ES (T:List (Nat×Spec)):Prop extends EF T where
 abH:∀ar h,bk T 203 ar h=yL ar h
theorem ES.c (E:ES T){N:Nat}(h1:1<=N)(hN:N<=200000):CS (aZ Tryz.prog FT T) N (2*N+1):={ E.toEF.c h1 ac with
  fo:=E.toEF.c ac ac
  hN:=b9 _
  yj:=by simp only[E.abH];exact abG ac ac }
theorem eS:ES TS:=by repeat' first|exact fun _ _=>rfl|constructor
noncomputable def uh:Spec:=sK TS 152
noncomputable def yM:Spec:=sK TS 200
noncomputable def ui:Spec:=sK [] 201
theorem MD:aT Tryz.prog gl 152 uh:=bh Fh
theorem abI:aT Tryz.prog gl 200 yM:=bh Fh
theorem ME:aT Tryz.prog gl 201 ui:=bh bA
theorem MF {N:Nat}(h1:1<=N)(hN:N<=200000):∀a b p q,br a p->br b q->Bq N p->Bq N q->∃v0,br v0 (p*q)/\∀h,uh [a,b] h=some ⟨v0,h,[]⟩:=fun a b p q ha hb lp lq=>by
 obtain⟨v0,k1,k2⟩:=aac (eS.c h1 hN) ha hb lp lq;exact⟨v0,k1,dm k2 (eK ha.top hb.top)⟩
theorem abJ {N:Nat}(h1:1<=N)(hN:N<=200000):∀v q,br v q->Bq N q->q≠0->∃v0,br v0 q⁻¹/\∀h,yM [v] h=some ⟨v0,h,[]⟩:=fun v q hv lq h0=>by
 obtain⟨v0,k1,k2⟩:=aah (eS.c h1 hN) hv lq h0;exact⟨v0,k1,dm k2 (fH hv.top)⟩
theorem MG:∀v q,br v q->∀h,ui [v] h=some ⟨.bool (decide (q.den=1)),h,[]⟩:=fun v q hv=>dm (aad bm hv) (fH hv.top)
noncomputable def yN:List (Nat×Spec):=(201,ui)::TS
theorem MH:cD Tryz.prog gl (bk yN):=aO ME Fh
structure yO (T:List (Nat×Spec)):Prop extends ES T where
 abK:∀ar h,bk T 201 ar h=ui ar h
theorem yO.c (E:yO T){N:Nat}(h1:1<=N)(hN:N<=200000):EN (aZ Tryz.prog FT T) N (2*N+1):={ E.toES.c h1 hN with nW:=by simp only[E.abK];exact MG }
theorem eT2:yO yN:=by repeat' first|exact fun _ _=>rfl|constructor
noncomputable def yP:Spec:=sK yN 151
theorem abM:aT Tryz.prog gl 151 yP:=bh MH
theorem abN {N:Nat}(h1:1<=N)(hN:N<=200000):∀a b p q,br a p->br b q->Bq N p->Bq N q->∃v0,br v0 (p+q)/\∀h,yP [a,b] h=some ⟨v0,h,[]⟩:=fun a b p q ha hb lp lq=>by
 obtain⟨v0,k1,k2⟩:=aaf (eT2.c h1 hN) ha hb lp lq;exact⟨v0,k1,dm k2 (eK ha.top hb.top)⟩
noncomputable def TU:List (Nat×Spec):=(199,yH)::(200,yM)::(151,yP)::(152,uh)::yN
theorem MI:cD Tryz.prog gl (bk TU):=aO abk (aO abI (aO abM (aO MD MH)))
structure EU (T:List (Nat×Spec)):Prop extends yO T where
 abO:∀ar h,bk T 199 ar h=yH ar h
 abP:∀ar h,bk T 200 ar h=yM ar h
 abQ:∀ar h,bk T 151 ar h=yP ar h
 abR:∀ar h,bk T 152 ar h=uh ar h
theorem EU.c (E:EU T){N:Nat}(h1:1<=N)(hN:N<=200000):CU (aZ Tryz.prog FT T) N (2*N+1):={ E.toyO.c h1 hN with
 Mk:=by simp only[E.abO];exact abn ac
 Ml:=by simp only[E.abP];exact abJ h1 hN
 Mm:=by simp only[E.abQ];exact abN h1 hN
 ua:=by simp only[E.abR];exact MF h1 hN }
theorem eU:EU TU:=by repeat' first|exact fun _ _=>rfl|constructor
noncomputable def Fi:Spec:=sK TU 149
noncomputable def Fj:Spec:=sK TU 150
theorem abS:aT Tryz.prog gl 149 Fi:=bh MI
theorem abT:aT Tryz.prog gl 150 Fj:=bh MI
theorem abU {N:Nat}(h1:1<=N)(hN:N<=200000):∀a b p q,br a p->br b q->Bq N p->Bq N q->∃v0,br v0 (p-q)/\∀h,Fi [a,b] h=some ⟨v0,h,[]⟩:=fun a b p q ha hb lp lq=>by
 obtain⟨v0,k1,k2⟩:=aai (eU.c h1 hN) ha hb lp lq;exact⟨v0,k1,dm k2 (eK ha.top hb.top)⟩
theorem abV {N:Nat}(h1:1<=N)(hN:N<=200000):∀a b p q,br a p->br b q->Bq N p->Bq N q->Bq N q⁻¹->q≠0->∃v0,br v0 (p*q⁻¹)/\∀h,Fj [a,b] h=some ⟨v0,h,[]⟩:=fun a b p q ha hb lp lq li h0=>by
 obtain⟨v0,k1,k2⟩:=aaj (eU.c h1 hN) ha hb lp lq li h0;exact⟨v0,k1,dm k2 (eK ha.top hb.top)⟩
def MJ:ak:=zR [⟨.p 1,.mv (.c (.str [])),none⟩] (zR [zm 3 0,z1 4 226 3,zw 1 4] (.ret))
theorem abW:FT 183=some ⟨5,[0,2],[.var (.p 1)],MJ⟩:=by kernel_rfl
def MK:ak:=zR [⟨.p 1,.mv (.c (.str [])),none⟩] (zR [zm 3 0,⟨.l 4,.call (kF 267) [(.l 3),(kI 10)],none⟩,zw 1 4] (.ret))
theorem abX:FT 226=some ⟨5,[0,2],[.var (.p 1)],MK⟩:=by kernel_rfl
def ML:ak:=zR [⟨.p 1,.mv (.c (.str [])),none⟩] (.seq (zR [zm 3 0,zc 4 .lss 3 10] (.cond (.l 4) (zR [zm 5 0,zm 6 0,zc 7 .add 6 1,⟨.l 8,.slice .str 1 (.c (.str zD2)) (some (.l 5)) (some (.l 7)) none,none⟩,zw 1 8] (.ret)) (.skip))) (zR [zm 9 0,zc 10 .mul 9 2,zm 11 0,zc 12 .mul 11 2,zc 13 .add 12 2,⟨.l 14,.slice .str 1 (.c (.str zD1)) (some (.l 10)) (some (.l 13)) none,none⟩,zw 1 14] (.ret)))
theorem abY:FT 304=some ⟨15,[0,2],[.var (.p 1)],ML⟩:=by kernel_rfl
def MM:ak:=zR [⟨.p 2,.mv (.c (.str [])),none⟩] (.seq (zR [zm 10 1,zc 11 .eql 10 10] (.cond (.l 11) (.seq (zR [zm 12 0,⟨.l 13,.bin .leq (kI 0) (.l 12),none⟩,zn 14 13,zg (zm 15 0) 14 true,zg (zc 16 .lss 15 100) 14 true,zp 17 14 16] (.cond (.l 17) (zR [zm 18 0,z1 19 304 18,zw 2 19] (.ret)) (.skip))) (zR [⟨.p 3,.alloc 301 [.int .u8 (0),.int .u8 (0),.int .u8 (0),.int .u8 (0),.int .u8 (0),.int .u8 (0),.int .u8 (0),.int .u8 (0),.int .u8 (0),.int .u8 (0),.int .u8 (0),.int .u8 (0),.int .u8 (0),.int .u8 (0),.int .u8 (0),.int .u8 (0),.int .u8 (0),.int .u8 (0),.int .u8 (0),.int .u8 (0),.int .u8 (0),.int .u8 (0),.int .u8 (0),.int .u8 (0)],none⟩] (zR [zm 20 0,⟨.l 21,.dM .u64 (.l 20),none⟩,zw 4 21] (.seq (zR [zm 22 0,zc 23 .lss 22 0] (.cond (.l 23) (.region [zm 24 4,⟨.l 25,.un .neg (.l 24),none⟩,zw 4 25]) (.skip))) (zR [zm 26 4,z1 27 305 26,zw 5 27] (zR [zm 28 5,⟨.l 29,.bin .add (kI 1) (.l 28),none⟩,⟨.l 30,.jn 24 1 (.p 3) (some (kI 1)) (some (.l 29)),none⟩,zm 31 4,z2 32 306 30 31] (.seq (zR [zm 33 0,zc 34 .lss 33 0] (.cond (.l 34) (zR [⟨.l 35,.dw (some 24) 1 (.p 3) (kI 0),none⟩,⟨.no,.store 1 (.l 35) (.c (.int .u8 (45))),none⟩] (zR [zm 36 5,⟨.l 37,.bin .add (kI 1) (.l 36),none⟩,⟨.l 38,.jn 24 1 (.p 3) none (some (.l 37)),none⟩,⟨.l 39,.mg (.l 38),none⟩,zw 2 39] (.ret))) (.skip))) (zR [zm 40 5,⟨.l 41,.bin .add (kI 1) (.l 40),none⟩,⟨.l 42,.jn 24 1 (.p 3) (some (kI 1)) (some (.l 41)),none⟩,⟨.l 43,.mg (.l 42),none⟩,zw 2 43] (.ret))))))))) (.skip))) (zR [zm 45 0,⟨.l 46,.dM .u64 (.l 45),none⟩,zm 47 1,zm 48 0,zc 49 .lss 48 0,⟨.l 50,.call (kF 307) [(.c (.ab)),(.l 46),(.l 47),(.l 49),(.c (.bool false))],none⟩,zn 44 50,ze 51 0 44,ze 52 1 44,zn 8 51,zw 6 52] (zR [zm 53 6,zw 2 53] (.ret))))
theorem abZ:FT 267=some ⟨54,[0,1,4,5,6,7,9],[.var (.p 2)],MM⟩:=by kernel_rfl
def MN:ak:=zR [zi 1 0] (zR [zm 4 0,z1 5 240 4,z1 6 324 5,zw 2 6] (zR [zm 7 2,zm 8 0,zm 9 2,⟨.l 10,.dw (some 20) 1 (.c (.vp [.uV (1),.uV (10),.uV (100),.uV (1000),.uV (10000),.uV (100000),.uV (1000000),.uV (10000000),.uV (100000000),.uV (1000000000),.uV (10000000000),.uV (100000000000),.uV (1000000000000),.uV (10000000000000),.uV (100000000000000),.uV (1000000000000000),.uV (10000000000000000),.uV (100000000000000000),.uV (1000000000000000000),.uV (10000000000000000000)])) (.l 9),none⟩,zd 11 1 10,zb 12 .geq 8 11,z1 13 325 12,zb 14 .add 7 13,zw 1 14] (.ret)))
theorem aca:FT 305=some ⟨15,[0,2,3],[.var (.p 1)],MN⟩:=by kernel_rfl
def yQ:ak:=.seq (zR [zm 19 2,zc 20 .geq 19 8] (.cond (.l 20) (.skip) (.exit 0))) (.block 1 (zR [zm 21 1,⟨.l 22,.bin .rem (.l 21) (kU 100000000),none⟩,⟨.l 23,.dM .u32 (.l 22),none⟩,zw 3 23] (zR [zm 24 1,⟨.l 25,.bin .quo (.l 24) (kU 100000000),none⟩,zw 1 25] (zR [zm 26 3,⟨.l 27,.bin .quo (.l 26) (kW 10000),none⟩,zm 28 3,⟨.l 29,.bin .rem (.l 28) (kW 10000),none⟩,zw 4 27,zw 5 29] (zR [zm 30 5,⟨.l 31,.bin .quo (.l 30) (kW 100),none⟩,⟨.l 32,.bin .mul (.l 31) (kW 2),none⟩,zm 33 5,⟨.l 34,.bin .rem (.l 33) (kW 100),none⟩,⟨.l 35,.bin .mul (.l 34) (kW 2),none⟩,zw 6 32,zw 7 35] (zR [zm 36 4,⟨.l 37,.bin .quo (.l 36) (kW 100),none⟩,⟨.l 38,.bin .mul (.l 37) (kW 2),none⟩,zm 39 4,⟨.l 40,.bin .rem (.l 39) (kW 100),none⟩,⟨.l 41,.bin .mul (.l 40) (kW 2),none⟩,zw 8 38,zw 9 41] (.seq (.draw [(zm 42 0,[]),(zm 43 2,[0]),(zc 44 .sub 43 1,[0]),(zm 45 0,[0,1,2]),(zm 46 2,[0,1,2,3]),(zc 47 .sub 46 2,[0,1,2,3]),(zm 48 7,[0,1,2,3,4,5]),(⟨.l 49,.bin .add (.l 48) (kW 1),none⟩,[0,1,2,3,4,5]),(⟨.l 50,.index (.c (.str zD1)) (.l 49),none⟩,[0,1,2,3,4,5]),(zm 51 7,[0,1,2,3,4,5,6,7,8]),(⟨.l 52,.index (.c (.str zD1)) (.l 51),none⟩,[0,1,2,3,4,5,6,7,8]),(za 53 1 42 44,[3,4,5,9,10]),(zS 1 53 50,[3,4,5,9,10]),(za 54 1 45 47,[]),(zS 1 54 52,[])]) (.seq (.draw [(zm 55 0,[]),(zm 56 2,[0]),(zc 57 .sub 56 3,[0]),(zm 58 0,[0,1,2]),(zm 59 2,[0,1,2,3]),(zc 60 .sub 59 4,[0,1,2,3]),(zm 61 6,[0,1,2,3,4,5]),(⟨.l 62,.bin .add (.l 61) (kW 1),none⟩,[0,1,2,3,4,5]),(⟨.l 63,.index (.c (.str zD1)) (.l 62),none⟩,[0,1,2,3,4,5]),(zm 64 6,[0,1,2,3,4,5,6,7,8]),(⟨.l 65,.index (.c (.str zD1)) (.l 64),none⟩,[0,1,2,3,4,5,6,7,8]),(za 66 1 55 57,[3,4,5,9,10]),(zS 1 66 63,[3,4,5,9,10]),(za 67 1 58 60,[]),(zS 1 67 65,[])]) (.seq (.draw [(zm 68 0,[]),(zm 69 2,[0]),(zc 70 .sub 69 5,[0]),(zm 71 0,[0,1,2]),(zm 72 2,[0,1,2,3]),(zc 73 .sub 72 6,[0,1,2,3]),(zm 74 9,[0,1,2,3,4,5]),(⟨.l 75,.bin .add (.l 74) (kW 1),none⟩,[0,1,2,3,4,5]),(⟨.l 76,.index (.c (.str zD1)) (.l 75),none⟩,[0,1,2,3,4,5]),(zm 77 9,[0,1,2,3,4,5,6,7,8]),(⟨.l 78,.index (.c (.str zD1)) (.l 77),none⟩,[0,1,2,3,4,5,6,7,8]),(za 79 1 68 70,[3,4,5,9,10]),(zS 1 79 76,[3,4,5,9,10]),(za 80 1 71 73,[]),(zS 1 80 78,[])]) (.seq (.draw [(zm 81 0,[]),(zm 82 2,[0]),(zc 83 .sub 82 7,[0]),(zm 84 0,[0,1,2]),(zm 85 2,[0,1,2,3]),(zc 86 .sub 85 8,[0,1,2,3]),(zm 87 8,[0,1,2,3,4,5]),(⟨.l 88,.bin .add (.l 87) (kW 1),none⟩,[0,1,2,3,4,5]),(⟨.l 89,.index (.c (.str zD1)) (.l 88),none⟩,[0,1,2,3,4,5]),(zm 90 8,[0,1,2,3,4,5,6,7,8]),(⟨.l 91,.index (.c (.str zD1)) (.l 90),none⟩,[0,1,2,3,4,5,6,7,8]),(za 92 1 81 83,[3,4,5,9,10]),(zS 1 92 89,[3,4,5,9,10]),(za 93 1 84 86,[]),(zS 1 93 91,[])]) (.region [zm 94 2,zc 95 .sub 94 8,zw 2 95])))))))))))
def MO:ak:=zR [zm 17 0,zl 18 17,zw 2 18] (.seq (.block 0 (.loop yQ)) (zR [zm 96 1,⟨.l 97,.dM .u32 (.l 96),none⟩,zw 10 97] (.seq (zR [zm 98 2,zc 99 .geq 98 4] (.cond (.l 99) (zR [zm 100 10,⟨.l 101,.bin .rem (.l 100) (kW 10000),none⟩,zw 11 101] (zR [zm 102 10,⟨.l 103,.bin .quo (.l 102) (kW 10000),none⟩,zw 10 103] (zR [zm 104 11,⟨.l 105,.bin .quo (.l 104) (kW 100),none⟩,⟨.l 106,.bin .mul (.l 105) (kW 2),none⟩,zm 107 11,⟨.l 108,.bin .rem (.l 107) (kW 100),none⟩,⟨.l 109,.bin .mul (.l 108) (kW 2),none⟩,zw 12 106,zw 13 109] (.seq (.draw [(zm 110 0,[]),(zm 111 2,[0]),(zc 112 .sub 111 1,[0]),(zm 113 0,[0,1,2]),(zm 114 2,[0,1,2,3]),(zc 115 .sub 114 2,[0,1,2,3]),(zm 116 13,[0,1,2,3,4,5]),(⟨.l 117,.bin .add (.l 116) (kW 1),none⟩,[0,1,2,3,4,5]),(⟨.l 118,.index (.c (.str zD1)) (.l 117),none⟩,[0,1,2,3,4,5]),(zm 119 13,[0,1,2,3,4,5,6,7,8]),(⟨.l 120,.index (.c (.str zD1)) (.l 119),none⟩,[0,1,2,3,4,5,6,7,8]),(za 121 1 110 112,[3,4,5,9,10]),(zS 1 121 118,[3,4,5,9,10]),(za 122 1 113 115,[]),(zS 1 122 120,[])]) (.seq (.draw [(zm 123 0,[]),(zm 124 2,[0]),(zc 125 .sub 124 3,[0]),(zm 126 0,[0,1,2]),(zm 127 2,[0,1,2,3]),(zc 128 .sub 127 4,[0,1,2,3]),(zm 129 12,[0,1,2,3,4,5]),(⟨.l 130,.bin .add (.l 129) (kW 1),none⟩,[0,1,2,3,4,5]),(⟨.l 131,.index (.c (.str zD1)) (.l 130),none⟩,[0,1,2,3,4,5]),(zm 132 12,[0,1,2,3,4,5,6,7,8]),(⟨.l 133,.index (.c (.str zD1)) (.l 132),none⟩,[0,1,2,3,4,5,6,7,8]),(za 134 1 123 125,[3,4,5,9,10]),(zS 1 134 131,[3,4,5,9,10]),(za 135 1 126 128,[]),(zS 1 135 133,[])]) (.region [zm 136 2,zc 137 .sub 136 4,zw 2 137])))))) (.skip))) (.seq (zR [zm 138 2,zc 139 .geq 138 2] (.cond (.l 139) (zR [zm 140 10,⟨.l 141,.bin .rem (.l 140) (kW 100),none⟩,⟨.l 142,.bin .mul (.l 141) (kW 2),none⟩,zw 14 142] (zR [zm 143 10,⟨.l 144,.bin .quo (.l 143) (kW 100),none⟩,zw 10 144] (.seq (.draw [(zm 145 0,[]),(zm 146 2,[0]),(zc 147 .sub 146 1,[0]),(zm 148 0,[0,1,2]),(zm 149 2,[0,1,2,3]),(zc 150 .sub 149 2,[0,1,2,3]),(zm 151 14,[0,1,2,3,4,5]),(⟨.l 152,.bin .add (.l 151) (kW 1),none⟩,[0,1,2,3,4,5]),(⟨.l 153,.index (.c (.str zD1)) (.l 152),none⟩,[0,1,2,3,4,5]),(zm 154 14,[0,1,2,3,4,5,6,7,8]),(⟨.l 155,.index (.c (.str zD1)) (.l 154),none⟩,[0,1,2,3,4,5,6,7,8]),(za 156 1 145 147,[3,4,5,9,10]),(zS 1 156 153,[3,4,5,9,10]),(za 157 1 148 150,[]),(zS 1 157 155,[])]) (.region [zm 158 2,zc 159 .sub 158 2,zw 2 159])))) (.skip))) (zR [zm 160 2,zc 161 .gtr 160 0] (.cond (.l 161) (.region [zm 162 0,zm 163 10,⟨.l 164,.bin .add (kW 48) (.l 163),none⟩,⟨.l 165,.dM .u8 (.l 164),none⟩,⟨.l 166,.dw none 1 (.l 162) (kI 0),none⟩,zS 1 166 165]) (.skip)))))))
theorem acb:FT 306=some ⟨167,[0,1,4,5,6,7,8,9,10,11,12,13,14,15,16],[],MO⟩:=by kernel_rfl
def MP:ak:=zR [⟨.p 2,.mv (.c (.str [])),none⟩] (zR [zm 5 0,zm 6 1,z2 7 299 5 6,zw 2 7] (.ret))
theorem acd:FT 263=some ⟨8,[0,1,4],[.var (.p 2)],MP⟩:=by kernel_rfl
def MQ:ak:=zR [⟨.p 2,.mv (.c (.str [])),none⟩] (.seq (zR [zm 9 1,zc 10 .eql 9 10] (.cond (.l 10) (.seq (zR [zm 11 0,⟨.l 12,.bin .lss (.l 11) (kU 100),none⟩] (.cond (.l 12) (zR [zm 13 0,⟨.l 14,.dM .i64 (.l 13),none⟩,z1 15 304 14,zw 2 15] (.ret)) (.skip))) (zR [⟨.p 3,.alloc 301 [.int .u8 (0),.int .u8 (0),.int .u8 (0),.int .u8 (0),.int .u8 (0),.int .u8 (0),.int .u8 (0),.int .u8 (0),.int .u8 (0),.int .u8 (0),.int .u8 (0),.int .u8 (0),.int .u8 (0),.int .u8 (0),.int .u8 (0),.int .u8 (0),.int .u8 (0),.int .u8 (0),.int .u8 (0),.int .u8 (0),.int .u8 (0),.int .u8 (0),.int .u8 (0),.int .u8 (0)],none⟩] (zR [zm 16 0,z1 17 305 16,zw 4 17] (zR [zm 18 4,⟨.l 19,.jn 24 1 (.p 3) none (some (.l 18)),none⟩,zm 20 0,z2 21 306 19 20] (zR [zm 22 4,⟨.l 23,.jn 24 1 (.p 3) none (some (.l 22)),none⟩,⟨.l 24,.mg (.l 23),none⟩,zw 2 24] (.ret)))))) (.skip))) (zR [zm 26 0,zm 27 1,⟨.l 28,.call (kF 307) [(.c (.ab)),(.l 26),(.l 27),(.c (.bool false)),(.c (.bool false))],none⟩,zn 25 28,ze 29 0 25,ze 30 1 25,zn 7 29,zw 5 30] (zR [zm 31 5,zw 2 31] (.ret))))
theorem ace:FT 299=some ⟨32,[0,1,4,5,6,8],[.var (.p 2)],MQ⟩:=by kernel_rfl
def MR:ak:=zR [zi 1 0] (zR [zm 3 0,zc 4 .mul 3 78913,⟨.l 5,.bin .shr (.l 4) (kU 18),none⟩,zw 1 5] (.ret))
theorem acf:FT 324=some ⟨6,[0,2],[.var (.p 1)],MR⟩:=by kernel_rfl
def MS:ak:=zR [zi 1 0] (.seq (zR [zm 3 0] (.cond (.l 3) (zR [zi 1 1] (.ret)) (.skip))) (zR [zi 1 0] (.ret)))
theorem acg:FT 325=some ⟨4,[0,2],[.var (.p 1)],MS⟩:=by kernel_rfl
end Go.Ab.Ch1
