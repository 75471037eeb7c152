/-
  Own work: the reference's integers: long division: all steps.
-/
import Derived.Test.YtcjphdmkgmkabaaGreatDoorLib5
import Derived.Test.YtcjphdmkgmkabaaGreatDoorLib3
import Derived.Test.YtcjphdmkgmkabaaGreatDoorLib4
import Derived.Test.YtcjphdmkgmkabaaGreatDoorCh1Base
set_option maxHeartbeats 8000000
namespace Go.Ab.Ch1
open Go.Ab.bz
variable {M:aO} {cap c1 c2 cu cq:Option Nat}
theorem aaA (C:Lv M){k N bu bq bf:Nat}{V U0:List Int}{fb:bA}(hbq:bu≠bq)(hbf:bu≠bf/\bq≠bf)(lN:N<100000000)(hN:k+3<=N)(hV:V.length=k+2)(oV:okW dB V)(hv:500000000<=V[k+1]!)(hU0:U0.length=N)(oU0:okW dB U0)(hup:WV dB (U0.drop (N-(k+2)))<WV dB V){Q:Ex->aq->Prop}(a0 a1 a2 a3 a4 a5 a6:AV)
 (hQ:∀U L K aC aD aE aF aG aH aI aJ aK lo wr,U.length=N->okW dB U->L.length=N-(k+2)->okW dB L->WV dB U0=WV dB V*WV dB L+WV dB U->WV dB U<WV dB V->ae.at K bu=some (.cells (au U) 3)->ae.at K bq=some (.cells (au L) 3)->ae.at K bf=some fb ->
   Q (.exit 2) ⟨⟨[a0,a1,a2,a3,a4,a5,a6,.vs (au V) V.length c2,.iV V.length,.sl bu 0 N 1 cu,.sl bq 0 (N-(k+2)) 1 cq,.iV (-1),aC,aD,aE,aF,aG,aH,aI,aJ,aK],lo,K,[]⟩,wr⟩)
 (aC aD aE aF aG aH aI aJ aK:AV) (K:ae) (lo:List (Nat×AV)) (wr:List Nat) (hKu:K.at bu=some (.cells (au U0) 3)) (hKq:K.at bq=some (.cells (au (List.replicate (N-(k+2)) 0)) 3)) (hKf:K.at bf=some fb) (j:Int) (hj:j=(N:Int)-(k+3)) :
 W M (.loop xy) ⟨⟨[a0,a1,a2,a3,a4,a5,a6,.vs (au V) V.length c2,.iV V.length,.sl bu 0 N 1 cu,.sl bq 0 (N-(k+2)) 1 cq,.iV j,aC,aD,aE,aF,aG,aH,aI,aJ,aK],lo,K,[]⟩,wr⟩ Q:=by
 refine W.ij (fun t s=>∃U L K iv aC aD aE aF aG aH aI aJ aK lo wr,s=⟨⟨[a0,a1,a2,a3,a4,a5,a6,.vs (au V) V.length c2,.iV V.length,.sl bu 0 N 1 cu,.sl bq 0 (N-(k+2)) 1 cq,.iV iv,aC,aD,aE,aF,aG,aH,aI,aJ,aK],lo,K,[]⟩,wr⟩ /\
  iv=(t:Int)-1/\t<=N-(k+2)/\U.length=N/\okW dB U/\L.length=N-(k+2)/\okW dB L/\(∀k,k<t->L[k]! = 0)/\WV dB U0=WV dB V*WV dB L+WV dB U/\WV dB (U.drop t)<WV dB V/\ae.at K bu=some (.cells (au U) 3)/\ae.at K bq=some (.cells (au L) 3)/\ae.at K bf=some fb) (fun t s ⟨U,L,K,iv,aC,aD,aE,aF,aG,aH,aI,aJ,aK,lo,wr,hs,hiv,ht,hU,oU,hL,oL,hz,hv1,hv2,hKu,hKq,hKf⟩=>?_) (m:=N-(k+2))
  ⟨_,_,_,_,_,_,_,_,_,_,_,_,_,_,_,rfl,by omega,Nat.le_refl _,hU0,oU0,by simp,jN (by decide),fun k _=>jQ,by rw[jO,Int.mul_zero,Int.zero_add],hup,hKu,hKq,hKf⟩
 subst hs
 cases t with
 | zero=>
  obtain rfl:iv = -1:=by omega
  unfold xy
  repeat' first|apply W.seq|apply ab|apply W.region|apply WO.nil|apply W.exit|apply cj|apply eA|(apply W.aw;rfl)|(apply WO.geq;rfl;rfl)|(apply WO.pl;rfl;rfl)|(intro _;omega)|intro _
  all_goals try omega
  exact hQ U L K _ _ _ _ _ _ _ _ _ _ _ hU oU hL oL hv1 hv2 hKu hKq hKf
 | succ i=>
  obtain rfl:iv=(i:Int):=by omega
  obtain⟨P,Y,S,eU,lP,lY,oP,oY,oS,gt,hS0,hXD,hT⟩:=aav (i:=i) (by omega) oU hV oV hv2
  obtain⟨t2,ht2⟩:∃t2,t2=U[i+k+2]! := ⟨_,rfl⟩
  rw[←ht2]at eU gt hXD hT
  have oX:okW dB (Y++[t2]):=kA oY (fun x hx=>by rw[List.mem_singleton.1 hx];exact gt)
  have lX:(Y++[t2]).length=k+3:=by simp[lY]
  have K3:=gP.of lX hV oX oV hv hT
  have gX:∀m,m<k+3->(Y++[t2])[m]! = U[i+m]! := fun m hm=>by
   have:=AB (P:=P) (X:=Y++[t2]) (S:=S) (i:=m) (by omega)
   rw[←eU,lP]at this
   exact this.symm
  rw[gX _ (by omega),gX _ (by omega),gX _ (by omega),←Nat.add_assoc,←Nat.add_assoc]at K3
  obtain⟨q,q0,hge,hle,q243⟩:=C.Lw U V bu i k cu c2 3 K _ _ _ hKu hV (by omega) (by omega) K3
  rw[hU]at q243
  have hT0:0<=WV dB (Y++[t2]):=cO (by decide) oX
  have hkl:=fa hKu
  have hkq:=fa hKq
  have hself:cD K bu 3 P (t2::S) Y=K:=aay hKu (by rw[eU];simp)
  have vX:WV dB (Y++[t2])=WV dB Y+dB^V.length*t2:=by rw[fT,lY,hV];simp[WV]
  have lYV:Y.length=V.length:=by omega
  have hPN:P.length+V.length<N:=by omega
  have eI:0+((i:Int)).toNat*1=i:=by omega
  have hiP:(i:Int)=(P.length:Int):=by omega
  have fin:∀(q' d:Int) L2 K' aC aD aE aF aG aH aI aJ aK lo wr,(0<=q'/\q'<1000000000)->L2.length=V.length->okW dB L2->d=0->WV dB L2=WV dB (Y++[t2])-q'*WV dB V->WV dB L2<WV dB V->K'=(cD K bu 3 (P++L2) S [d]).put bq (some (.cells (au (L.set i q')) 3)) ->
   LI (fun s=>∃m',m'<i+1/\∃U L K iv aC aD aE aF aG aH aI aJ aK lo wr,s=⟨⟨[a0,a1,a2,a3,a4,a5,a6,.vs (au V) V.length c2,.iV V.length,.sl bu 0 N 1 cu,.sl bq 0 (N-(k+2)) 1 cq,.iV iv,aC,aD,aE,aF,aG,aH,aI,aJ,aK],lo,K,[]⟩,wr⟩ /\
    iv=(m':Int)-1/\m'<=N-(k+2)/\U.length=N/\okW dB U/\L.length=N-(k+2)/\okW dB L/\(∀k,k<m'->L[k]! = 0)/\WV dB U0=WV dB V*WV dB L+WV dB U/\WV dB (U.drop m')<WV dB V/\ae.at K bu=some (.cells (au U) 3)/\ae.at K bq=some (.cells (au L) 3)/\ae.at K bf=some fb) Q .normal ⟨⟨[a0,a1,a2,a3,a4,a5,a6,.vs (au V) V.length c2,.iV V.length,.sl bu 0 N 1 cu,.sl bq 0 (N-(k+2)) 1 cq,.iV ((P.length:Int)-1),aC,aD,aE,aF,aG,aH,aI,aJ,aK],lo,K',[]⟩,wr⟩:=fun q' d L2 K' aC aD aE aF aG aH aI aJ aK lo wr hq' hL2 oL2 hd vL2 hlt hK'=>by
   subst hd
   subst hK'
   have hl1:bu<(cD K bu 3 (P++L2) S [0]).length:=by rw[Li];exact hkl
   have hl2:bq<(cD K bu 3 (P++L2) S [0]).length:=by rw[Li];exact hkq
   have e0:WV dB ([0]++S)=0:=by rw[List.singleton_append,WV,hS0];rfl
   have vU':WV dB (P++L2++[0]++S)=WV dB P+dB^i*WV dB L2:=by
    rw[List.append_assoc,fT,e0,Int.mul_zero,Int.add_zero,fT,lP]
   have vU:WV dB U=WV dB P+dB^i*WV dB (Y++[t2]):=by
    rw[eU,fT,hS0,Int.mul_zero,Int.add_zero,fT,lP]
   have lU':(P++L2++[0]++S).length=N:=by
    have h1:=congrArg List.length eU
    simp only[List.length_append,List.length_cons,List.length_nil]at h1 ⊢
    omega
   refine ek ⟨i,Nat.lt_succ_self i,P++L2++[0]++S,L.set i q',_,_,aC,aD,aE,aF,aG,aH,aI,aJ,aK,lo,wr,rfl,by omega,by omega,lU',kA (kA (kA oP oL2) (fun x hx=>by rw[List.mem_singleton.1 hx];exact⟨by decide,by decide⟩)) oS,by rw[List.length_set];exact hL,fL oL hq',fun k hk=>by rw[gm (by omega)];exact hz k (by omega),?_,?_,?_,?_,?_⟩
   . rw[fM (by omega),hz i (by omega),Int.sub_zero,vU',hv1,vU,vL2,Int.mul_add,Int.mul_sub]
     have e3:WV dB V*(dB^i*q')=dB^i*(q'*WV dB V):=by rw[←Int.mul_assoc,Int.mul_comm (WV dB V),Int.mul_assoc,Int.mul_comm (WV dB V)]
     rw[e3]
     omega
   . rw[←lP,List.append_assoc,List.append_assoc,List.drop_left,fT,e0,Int.mul_zero,Int.add_zero]
     exact hlt
   . rw[uW (Ne.symm hbq)]
     rw[aaz hkl]
   . exact cI hl2
   . rw[uW hbf.2,Dj hbf.1]
     exact hKf
  rw[hiP]at q243
  have hQK:=hself
  unfold xy
  rw[hiP]
  repeat' first|apply W.seq|apply ab|apply W.region|apply WO.nil|apply W.block|apply W.skip|(apply W.ax;rfl)|(apply WO.geq;rfl;rfl)|(apply WO.ay;rfl;rfl;first|exact q243)|(apply WO.pl;rfl;rfl)|(apply WO.pp;rfl;rfl)|(intro _;omega)|intro _
  all_goals try omega
  rw[←hself]
  refine aat (c2:=c2) (cu:=cu) hkl lN hPN lYV oY oV q q0 _ _ _ _ _ _ _ _ _ _ _ _ _ _ _ _ (fun L1 bo aF aG lo wr hL1 oL1 hbo hv3=>?_)
  have hmv:=Dk (hp:=K) (b:=bu) (e:=3) (P:=P) (S:=S) (X:=L1) (t:=t2)
  rw[hmv]
  have eq1:WV dB L1+dB^V.length*(t2-bo)=WV dB (Y++[t2])-q*WV dB V:=by
   rw[hv3,vX,Int.mul_sub];omega
  have lPL:(P++L1).length=P.length+V.length:=by rw[List.length_append,hL1]
  by_cases hd:t2-bo<0
  . repeat' first|(apply WO.Dl;rfl;exact hkl;omega)|(apply WO.Dm;rfl;rfl;exact hkl;omega)|apply W.seq|apply ab|apply W.region|apply WO.nil|apply W.block|apply cg|(apply W.ax;rfl)|(apply WO.lss;rfl;rfl)|(apply WO.add;rfl;rfl;omega)|(apply WO.sub;rfl;rfl;omega)|(apply WO.bY;rfl;rfl;omega)|(apply WO.pl;rfl;rfl)|(apply WO.pp;rfl;rfl)|(intro _;omega)|intro _
    all_goals try omega
    have hmv2:=Dk (hp:=K) (b:=bu) (e:=3) (P:=P) (S:=S) (X:=L1) (t:=t2-bo)
    rw[←hmv2]
    refine aau (c2:=c2) (cu:=cu) hkl lN hPN hL1 oL1 oV _ _ _ _ _ _ _ _ _ _ _ _ _ _ _ _ _ (fun L2 ca aJ lo wr hL2 oL2 hca hv4=>?_)
    have hmv3:=Dk (hp:=K) (b:=bu) (e:=3) (P:=P) (S:=S) (X:=L2) (t:=t2-bo)
    rw[hmv3]
    have lPL2:(P++L2).length=P.length+V.length:=by rw[List.length_append,hL2]
    obtain⟨q1,hz0,vL2,hlt⟩:=aax rfl oL1 hL1 oL2 hL2 oV rfl eq1 hle hT0 hd q0.1 hv4
    have hq2:(cD K bu 3 (P++L2) S [t2-bo+ca]).at bq=some (.cells (au L) 3):=by rw[Dj hbq];exact hKq
    have eP:0+((P.length:Int)).toNat*1=i:=by omega
    repeat' first|(apply WO.Dl;rfl;exact hkl;omega)|(apply WO.Dm;rfl;rfl;exact hkl;omega)|(apply WO.qi;exact congrArg (fun z=>some (AV.ptr bq z)) eP;rfl;exact hq2;omega)|apply ab|apply W.region|apply WO.nil|apply bK|apply cg|(apply WO.add;rfl;rfl;omega)|(apply WO.sub;rfl;rfl;omega)|(apply WO.bY;rfl;rfl;omega)|(apply WO.pl;rfl;rfl)|(apply WO.pp;rfl;rfl)
    all_goals try omega
    all_goals exact fin (q-1) _ L2 _ _ _ _ _ _ _ _ _ _ _ _ ⟨by omega,by omega⟩ hL2 oL2 hz0 vL2 hlt rfl
  . obtain⟨hz0,vL1,hlt⟩:=aaw rfl oL1 hL1 oV rfl eq1 hge hd
    have hq2:(cD K bu 3 (P++L1) S [t2-bo]).at bq=some (.cells (au L) 3):=by rw[Dj hbq];exact hKq
    have eP:0+((P.length:Int)).toNat*1=i:=by omega
    repeat' first|(apply WO.Dl;rfl;exact hkl;omega)|(apply WO.Dm;rfl;rfl;exact hkl;omega)|(apply WO.qi;exact congrArg (fun z=>some (AV.ptr bq z)) eP;rfl;exact hq2;omega)|apply W.seq|apply ab|apply W.region|apply WO.nil|apply W.skip|apply bK|apply cg|(apply W.aw;rfl)|(apply WO.lss;rfl;rfl)|(apply WO.add;rfl;rfl;omega)|(apply WO.sub;rfl;rfl;omega)|(apply WO.bY;rfl;rfl;omega)|(apply WO.pl;rfl;rfl)|(apply WO.pp;rfl;rfl)|(intro _;omega)|intro _
    all_goals try omega
    all_goals exact fin q _ L1 _ _ _ _ _ _ _ _ _ _ _ _ q0 hL1 oL1 hz0 vL1 hlt rfl
end Go.Ab.Ch1

/-
  Own work: the reference's integers: quotient and rest.
-/
namespace Go.Ab.Ch1
open Go.Ab.bz
variable {M:aO} {cap c1 c2 cu cq:Option Nat}
theorem Dn {h:ae}(l:List Int):rq h (au l):=zF (fun _=>.cons (.atom rfl) .nil) l
theorem xD {h:ae}{l:List Int}{n:Nat}:dr h (.vs (au l) n cap) (.vs (au l) n cap):=dr.nc (Dn l)
theorem Dp {h:ae}{b n:Nat}{L:List Int}{e:TypeId}(hb:h.at b=some (.cells (au L) e))(hn:n<=L.length):dr h (.sl b 0 n 1 cap) (.vs (au (L.take n)) (L.take n).length none):=by
 have hl:(L.take n).length=n:=by rw[List.length_take];omega
 rw[hl]
 refine .sl (m:=au (L.take n)) hb ?_ rfl fun i x y hx hy=>?_
 . have:=kp (f:=iC) (esz:=1) (fun _=>rfl) (l:=L) (i:=0) (n:=n) (by omega)
   simpa using this
 . rw[hx]at hy;cases hy
   obtain⟨z,hz⟩:∃z,x = .iV z:=by
    have hm:=List.mem_of_getElem? hx
    have:∀l:List Int,∀x∈au l,∃z,x = .iV z:=by
     intro l
     induction l with
     | nil=>intro x hx;cases hx
     | cons a l ih=>
      intro x hx
      have:au (a::l) = .iV a::au l:=rfl
      rw[this]at hx
      rcases List.mem_cons.1 hx with rfl|hx
      . exact⟨a,rfl⟩
      . exact ih x hx
    exact this _ _ hm
   subst hz
   exact .atom rfl
structure Lx (M:aO):Prop extends Lv M where
 Ly:∀(a b:List Int) c1 c2 h,okW dB a->okW dB b->aR a->aR b->a.length<1000000000->b.length<1000000000->M.ext 218 [.vs (au a) a.length c1,.vs (au b) b.length c2] h=some ⟨.iV (bD (WV dB a-WV dB b)),h,[]⟩
 Dr:∀(x y:AV) (a b:List Int) c1 c2 h,dr h x (.vs (au a) a.length c1)->dr h y (.vs (au b) b.length c2)->okW dB a->okW dB b->a.length<10000000->b.length<10000000->0<a.length+b.length->∃r,okW dB r/\aR r/\WV dB r=WV dB a*WV dB b/\M.ext 197 [x,y] h=some ⟨.vs (au r) r.length none,h,[]⟩
 Ds:∀(x:AV) (a:List Int) c h (d:Int),dr h x (.vs (au a) a.length c)->okW dB a->a.length<10000000->(0<d/\d<=1000000000)->∃q,okW dB q/\aR q/\WV dB q=WV dB a/d/\M.ext 241 [x,.iV d] h=some ⟨.ao [.vs (au q) q.length none,.iV (WV dB a%d)],h,[]⟩
theorem aaB {t f r:Int}(ht:1<=t/\t<1000000000)(hf:(t+1)*f+r=1000000000)(hr:0<=r/\r<t+1):1<=f/\f<=500000000/\500000000<=t*f:=by
 have e:(t+1)*f=t*f+f:=by rw[Int.add_mul,Int.one_mul]
 have f0:1<=f:=by
  rcases Int.lt_or_le f 1 with h|h
  . have:=Int.mul_le_mul_of_nonneg_left (show f<=0 by omega) (show 0<=t+1 by omega)
    rw[Int.mul_zero]at this
    omega
  . exact h
 have h2:2*f<=(t+1)*f:=Int.mul_le_mul_of_nonneg_right (by omega) (by omega)
 refine⟨f0,by omega,?_⟩
 by_cases hbig:500000000<=t
 . have:=Int.mul_le_mul_of_nonneg_left f0 (show 0<=t by omega)
   omega
 . have f2:2<=f:=by
    rcases Int.lt_or_le f 2 with h|h
    . obtain rfl:f=1:=by omega
      omega
    . exact h
   have h3:=Int.mul_nonneg (show 0<=t-1 by omega) (show 0<=f-2 by omega)
   have e3:(t-1)*(f-2)=t*f-2*t-f+2:=by grind
   rw[e3]at h3
   by_cases r2:2<=r
   . omega
   . by_cases r0:r=0
     . subst r0;omega
     . have r1:r=1:=by omega
       subst r1
       by_cases t1:t=1
       . subst t1;omega
       . have h4:3*f<=(t+1)*f:=Int.mul_le_mul_of_nonneg_right (by omega) (by omega)
         omega
theorem aaC {b V:List Int}{k:Nat}{f:Int}(hb:b.length=k+2)(ob:okW dB b)(hf:1<=f)(hth:500000000<=b[k+1]! * f)(htf:(b[k+1]! + 1)*f<=1000000000)(oV:okW dB V)(nV:aR V)(vV:WV dB V=WV dB b*f):V.length=k+2/\500000000<=V[k+1]! := by
 have e0:=iK (b:=dB) (l:=b) (n:=k+1) (by omega)
 have l0:=cO (b:=dB) (by decide) (de ob (k+1))
 have l1:=dN (b:=dB) (by decide) (de ob (k+1))
 rw[List.length_take,Nat.min_eq_left (by omega)]at l1
 have hP:0<dB^(k+1):=Int.pow_pos (by decide)
 obtain⟨t,ht⟩:∃t,t=b[k+1]! := ⟨_,rfl⟩
 rw[←ht]at e0 hth htf
 have m1:dB^(k+1)*500000000<=WV dB V:=by
  have h1:=Int.mul_le_mul_of_nonneg_left hth (Int.le_of_lt hP)
  have h2:=Int.mul_nonneg l0 (show 0<=f by omega)
  rw[vV,e0,Int.add_mul,Int.mul_assoc]
  omega
 have m2:WV dB V<dB^(k+1)*1000000000:=by
  have h1:=Int.mul_le_mul_of_nonneg_left htf (Int.le_of_lt hP)
  have h2:=Int.mul_lt_mul_of_pos_right l1 (show 0<f by omega)
  rw[Int.add_mul,Int.one_mul,Int.mul_add]at h1
  rw[vV,e0,Int.add_mul,Int.mul_assoc]
  omega
 have hPs:dB^(k+2)=dB^(k+1)*1000000000:=Int.pow_succ _ _
 have hlen:V.length<=k+2:=im (b:=dB) (by decide) oV nV (by rw[hPs];exact m2)
 have hlen2:k+2<=V.length:=by
  rcases Nat.lt_or_ge V.length (k+2) with h|h
  . have h1:=dN (b:=dB) (by decide) oV
    have h2:=gZ (b:=dB) (by decide) (show V.length<=k+1 by omega)
    omega
  . exact h
 have hl:V.length=k+2:=by omega
 refine⟨hl,?_⟩
 have e1:=iK (b:=dB) (l:=V) (n:=k+1) (by omega)
 have g1:=dN (b:=dB) (by decide) (de oV (k+1))
 rw[List.length_take,Nat.min_eq_left (by omega)]at g1
 have:dB^(k+1)*500000000<dB^(k+1)*(V[k+1]! + 1):=by rw[Int.mul_add,Int.mul_one];omega
 have:=Int.lt_of_mul_lt_mul_left this (Int.le_of_lt hP)
 omega
theorem aaD {a b U:List Int}{k:Nat}{f:Int}(hf:0<f)(ha:k+2<=a.length)(oa:okW dB a)(hb:b.length=k+2)(ob:okW dB b)(nb:aR b)(hU:U.length=a.length+1)(oU:okW dB U)(vU:WV dB U=WV dB a*f) :
 WV dB (U.drop (a.length+1-(k+2)))<WV dB b*f:=by
 have e1:=kB (b:=dB) (l:=U) (i:=a.length+1-(k+2)) (by omega)
 have l0:=cO (b:=dB) (by decide) (de oU (a.length+1-(k+2)))
 have l1:=dN (b:=dB) (by decide) oa
 have hg:=py (b:=dB) (by decide) ob nb (by omega)
 rw[hb,show k+2-1=k+1 by omega]at hg
 have hP:0<dB^(a.length+1-(k+2)):=Int.pow_pos (by decide)
 have ep:dB^a.length=dB^(a.length+1-(k+2))*dB^(k+1):=by rw[←Int.pow_add,show a.length+1-(k+2)+(k+1)=a.length by omega]
 have m1:=Int.mul_lt_mul_of_pos_right l1 hf
 have m2:=Int.mul_le_mul_of_nonneg_right hg (Int.le_of_lt hf)
 rw[ep,Int.mul_assoc]at m1
 have:dB^(a.length+1-(k+2))*WV dB (U.drop (a.length+1-(k+2)))<dB^(a.length+1-(k+2))*(dB^(k+1)*f):=by omega
 have:=Int.lt_of_mul_lt_mul_left this (Int.le_of_lt hP)
 omega
theorem aaE {a A:List Int}{f:Int}(hf:1<=f/\f<=500000000)(oa:okW dB a)(na:aR a)(ha:a≠[])(oA:okW dB A)(nA:aR A)(vA:WV dB A=WV dB a*f):A≠[]/\A.length<=a.length+1:=by
 have p:=(pz (b:=dB) (by decide) oa na).2 ha
 have hp:0<WV dB a*f:=Int.mul_pos p (by omega)
 refine⟨fun e=>by rw[e]at vA;simp[WV]at vA;omega,im (b:=dB) (by decide) oA nA ?_⟩
 have l1:=dN (b:=dB) (by decide) oa
 have h1:=Int.mul_lt_mul_of_pos_right l1 (show 0<f by omega)
 have h2:=Int.mul_le_mul_of_nonneg_left (show f<=1000000000 by omega) (Int.le_of_lt (Int.pow_pos (n:=dB) (m:=a.length) (by decide)))
 have h3:dB^(a.length+1)=dB^a.length*1000000000:=Int.pow_succ _ _
 omega
end Go.Ab.Ch1

/-
  Own work: the reference's integers: quotient and rest: the whole function.
-/
namespace Go.Ab.Ch1
open Go.Ab.bz
variable {M:aO} {cap c1 c2 cu cq:Option Nat}
theorem aaF {a A:List Int}(la:a.length<1000000)(hA:A.length<=a.length+1){Q:Ex->aq->Prop}{fb:bA}(a1 a2 a3 a4 a5 a6 a7 a8 aA aB aC aD aE aF aG aH aI aJ aK:AV)
 (hQ:∀o K lo wr,dv iC 1 3 K o (A++List.replicate (a.length+1-A.length) 0) [0]->ae.at K 0=some fb->Q (.exit 0) ⟨⟨[.vs (au a) a.length c1,a1,a2,a3,a4,a5,a6,a7,a8,o,aA,aB,aC,aD,aE,aF,aG,aH,aI,aJ,aK],lo,K,[]⟩,wr⟩)
 (o:AV) (K:ae) (lo:List (Nat×AV)) (wr:List Nat) (ho:dv iC 1 3 K o A [0]) (hK:K.at 0=some fb) :
 W M (.loop xr) ⟨⟨[.vs (au a) a.length c1,a1,a2,a3,a4,a5,a6,a7,a8,o,aA,aB,aC,aD,aE,aF,aG,aH,aI,aJ,aK],lo,K,[]⟩,wr⟩ Q:=by
 refine W.ij (fun m st=>∃d o K lo wr,st=⟨⟨[.vs (au a) a.length c1,a1,a2,a3,a4,a5,a6,a7,a8,o,aA,aB,aC,aD,aE,aF,aG,aH,aI,aJ,aK],lo,K,[]⟩,wr⟩/\A.length+d+m=a.length+1/\dv iC 1 3 K o (A++List.replicate d 0) [0]/\ae.at K 0=some fb)
  (fun m st ⟨d,o,K,lo,wr,hst,hm,ho,hK⟩=>?_) (m:=a.length+1-A.length) ⟨0,o,K,lo,wr,rfl,by omega,by simpa using ho,hK⟩
 subst hst
 have hlen:(A++List.replicate d (0:Int)).length=A.length+d:=by simp
 have hsl:∃b cp,o = .ah/\A.length+d=0\/o = .sl b 0 (A++List.replicate d (0:Int)).length 1 cp:=by
  rcases ho with ⟨h1,h2⟩|⟨c,cp,_,h2,_,_⟩
  . exact⟨0,none,.inl ⟨h2,by rw[←hlen,h1];rfl⟩⟩
  . exact⟨c,cp,.inr h2⟩
 have hroom:((A++List.replicate d (0:Int)).length+1)*8<=dX:=by rw[hlen];unfold dX;omega
 have hK1:=fa hK
 have next:∀H o' lo w',dv iC 1 3 H o' (A++List.replicate d 0++[0]) [0]->ae.at H 0=some fb->0<m->LI (fun st=>∃m',m'<m/\∃d o K lo wr,st=⟨⟨[.vs (au a) a.length c1,a1,a2,a3,a4,a5,a6,a7,a8,o,aA,aB,aC,aD,aE,aF,aG,aH,aI,aJ,aK],lo,K,[]⟩,wr⟩/\A.length+d+m'=a.length+1/\dv iC 1 3 K o (A++List.replicate d 0) [0]/\ae.at K 0=some fb) Q .normal ⟨⟨[.vs (au a) a.length c1,a1,a2,a3,a4,a5,a6,a7,a8,o',aA,aB,aC,aD,aE,aF,aG,aH,aI,aJ,aK],lo,H,[]⟩,w'⟩:=fun H o' lo w' h1 h2 h3=>
  ek ⟨m-1,by omega,d+1,o',H,lo,w',rfl,by omega,by rw[List.append_assoc,←List.replicate_succ']at h1;exact h1,h2⟩
 have stop:∀lo wr,m=0->Q (.exit 0) ⟨⟨[.vs (au a) a.length c1,a1,a2,a3,a4,a5,a6,a7,a8,o,aA,aB,aC,aD,aE,aF,aG,aH,aI,aJ,aK],lo,K,[]⟩,wr⟩:=fun lo wr h=>by
  have:d=a.length+1-A.length:=by omega
  subst this
  exact hQ o K lo wr ho hK
 obtain⟨b,cp,⟨rfl,hz⟩|rfl⟩:=hsl
 . unfold xr
   repeat' first|(refine dv.app (f:=iC) (m:=[(0:Int)]) (S:=[0]) (fun _=>rfl) (fun _=>rfl) (by decide) (ho.grow [_]) (by simp) rfl rfl (Sl.lI (f:=iC) (esz:=1) (l:=[(0:Int)]) (e:=3) (fun _=>rfl) cn rfl) hroom (fun H w' o' ho' hk hlen=>?_))|apply W.seq|apply ab|apply W.region|apply WO.nil|apply W.block|apply W.skip|apply bK|(apply W.ax;rfl)|(apply WO.lss;rfl;rfl)|(apply WO.add;rfl;rfl;omega)|(apply WO.aT;rfl;rfl;rfl)|(apply WO.pl;rfl;rfl)|(apply WO.pp;rfl;rfl)|(intro _;omega)|intro _
   all_goals try omega
   all_goals exact next _ _ _ _ ho' (hk 0 _ (by simp) (cG hK)) (by omega)
 . unfold xr
   repeat' first|(refine dv.app (f:=iC) (m:=[(0:Int)]) (S:=[0]) (fun _=>rfl) (fun _=>rfl) (by decide) (ho.grow [_]) (by simp) rfl rfl (Sl.lI (f:=iC) (esz:=1) (l:=[(0:Int)]) (e:=3) (fun _=>rfl) cn rfl) hroom (fun H w' o' ho' hk hlen=>?_))|apply W.seq|apply ab|apply W.region|apply WO.nil|apply W.block|apply W.exit|apply W.skip|apply cj|apply bK|apply eA|(apply W.ax;rfl)|(apply W.aw;rfl)|(apply WO.lss;rfl;rfl)|(apply WO.add;rfl;rfl;omega)|(apply WO.aT;rfl;rfl;rfl)|(apply WO.pl;rfl;rfl)|(apply WO.pp;rfl;rfl)|(intro _;omega)|intro _
   all_goals try omega
   all_goals first|exact next _ _ _ _ ho' (hk 0 _ (by simp) (cG hK)) (by omega)|exact stop _ _ (by omega)
theorem aaG {h:ae}{b m:Nat}{U:List Int}{e:TypeId}(hb:h.at b=some (.cells (au U) e))(hm:m<=U.length):dr h (bB b m none) (.vs (au (U.take m)) (U.take m).length none):=by
 rcases Nat.eq_zero_or_pos m with rfl|h0
 . rw[sX];exact xD (l:=[]) (n:=0)
 . rw[show bB b m none = .sl b 0 m 1 none from if_pos h0]
   exact Dp hb hm
theorem je.mix {d1:Option Nat}{b1:Nat}{L1 R:List Int}{e1:TypeId}{hp:ae}{n1:Nat}(h1:hp.at b1=some (.cells (au L1) e1))(hn1:n1<=L1.length) :
 je (bg [bB b1 (aQ (L1.take n1)) d1,.vs (au R) R.length none]) (if (bg [bB b1 (aQ (L1.take n1)) d1,.vs (au R) R.length none]).top<=0 then [] else hp) (L1.take (aQ (L1.take n1))) R:=by
 obtain⟨x,hx⟩:∃x,x=bB b1 (aQ (L1.take n1)) d1:=⟨_,rfl⟩
 obtain⟨hh,hhh⟩:∃hh,hh=(if (bg [x,.vs (au R) R.length none]).top<=0 then [] else hp):=⟨_,rfl⟩
 have et:(bg [x,.vs (au R) R.length none]).top=max x.top (max (br (au R)) 0):=rfl
 rw[fW]at et
 obtain⟨v1,f1,t1,k1⟩:=De (cap:=d1) h1 hn1 hh (fun h=>by rw[hhh,if_neg];rw[←hx]at h;omega)
 rw[←hx,←hhh]
 rw[←hx]at f1
 refine⟨.ao [v1,.vs (au R) R.length none],_,_,.ao rfl (fun i a b ha hb=>?_),?_,?_,.inl rfl,.inl rfl⟩
 . match i with
   | 0=>cases ha;cases hb;exact f1
   | 1=>cases ha;cases hb;exact .same (fW R)
   | i+2=>cases ha
 . show max v1.top (max (br (au R)) 0)=0
   rw[t1,fW];rfl
 . simp only[bM,cB,k1,qj]
theorem je.aaH {d1:Option Nat}{b1:Nat}{L1 R:List Int}{e1:TypeId}{hp:ae}{n1:Nat}(h1:hp.at b1=some (.cells (au L1) e1))(hn1:n1<=L1.length) :
 je (bg [.vs (au R) R.length none,bB b1 (aQ (L1.take n1)) d1]) (if (bg [.vs (au R) R.length none,bB b1 (aQ (L1.take n1)) d1]).top<=0 then [] else hp) R (L1.take (aQ (L1.take n1))):=by
 obtain⟨x,hx⟩:∃x,x=bB b1 (aQ (L1.take n1)) d1:=⟨_,rfl⟩
 obtain⟨hh,hhh⟩:∃hh,hh=(if (bg [.vs (au R) R.length none,x]).top<=0 then [] else hp):=⟨_,rfl⟩
 have et:(bg [.vs (au R) R.length none,x]).top=max (br (au R)) (max x.top 0):=rfl
 rw[fW]at et
 obtain⟨v1,f1,t1,k1⟩:=De (cap:=d1) h1 hn1 hh (fun h=>by rw[hhh,if_neg];rw[←hx]at h;omega)
 rw[←hx,←hhh]
 rw[←hx]at f1
 refine⟨.ao [.vs (au R) R.length none,v1],_,_,.ao rfl (fun i a b ha hb=>?_),?_,?_,.inl rfl,.inl rfl⟩
 . match i with
   | 0=>cases ha;cases hb;exact .same (fW R)
   | 1=>cases ha;cases hb;exact f1
   | i+2=>cases ha
 . show max (br (au R)) (max v1.top 0)=0
   rw[t1,fW];rfl
 . simp only[bM,cB,k1,qj]
theorem Lz {L:List Int}{n:Nat}:L.take (aQ (L.take n))=(L.take n).take (aQ (L.take n)):=by
 have h:=ik (l:=L.take n)
 rw[List.length_take]at h
 rw[List.take_take,Nat.min_eq_left (by omega)]
theorem WO.aaI {t:Nat}{x y:aN}{l:List aU}{pe:List AV}{lo:List (Nat×AV)}{hp:ae}{df wr:List Nat}{a d v:Int}{Q:aq->Prop}(hx:(St.mk pe lo hp df).aa x=some (.iV a))(hy:(St.mk pe lo hp df).aa y=some (.iV d))(ha:0<=a/\a<9223372036854775808)(hd:0<d)(hv:a/d=v)
 (h:WO M l ⟨⟨pe,(t,.iV v)::lo,hp,df⟩,wr⟩ Q):WO M (⟨.l t,.bin .quo x y,none⟩::l) ⟨⟨pe,lo,hp,df⟩,wr⟩ Q:=by
 subst hv;exact WO.sZ hx hy ha hd h
theorem aaJ (C:Lx M)(a b:List Int)(oa:okW dB a)(ob:okW dB b)(na:aR a)(nb:aR b)(la:a.length<100000)(lb:b.length<100000)(hb:b≠[]):Ll M 195 [.vs (au a) a.length c1,.vs (au b) b.length c2] (WV dB a) (WV dB b):=by
 have a0:=cO (b:=dB) (by decide) oa
 have b0:=(pz (b:=dB) (by decide) ob nb).2 hb
 have q218:=fun h=>C.Ly a b c1 c2 h oa ob na nb (by omega) (by omega)
 refine aab (by rw[C.ft];exact ZL) (by simp) ?_
 unfold Lb
 simp only[enter]
 by_cases hlt:WV dB a<WV dB b
 . have e:bD (WV dB a-WV dB b) = -1:=if_pos (by omega)
   rw[e]at q218
   repeat' first|apply W.seq|apply ab|apply W.region|apply WO.nil|apply W.ret|apply ba|(apply W.ax;rfl)|(apply WO.lss;rfl;rfl)|(apply WO.ay;rfl;rfl;first|exact q218 _)|(apply WO.pl;rfl;rfl)|(apply WO.pp;rfl;rfl)|(intro _;omega)|intro _
   all_goals try omega
   exact⟨.inr rfl,rfl,_,rfl,[],a,⟨nk,pw,(Int.ediv_eq_zero_of_lt a0 hlt).symm⟩,⟨oa,na,(Int.emod_eq_of_lt a0 hlt).symm⟩,je.less⟩
 obtain⟨g,hg⟩:∃g,g=bD (WV dB a-WV dB b):=⟨_,rfl⟩
 have g0:0<=g:=by
  rw[hg];unfold bD
  split
  . omega
  . split <;> omega
 rw[←hg]at q218
 have lb0:b.length≠0:=fun h=>hb (List.eq_nil_of_length_eq_zero h)
 by_cases hl1:b.length=1
 . have t0:=kC nb (by omega)
   rw[hl1,show 1-1=0 by omega]at t0
   have gb:=bZ ob (i:=0) (by omega)
   have vb:WV dB b=b[0]! := by
    have:=iK (b:=dB) (l:=b) (n:=0) (by omega)
    simpa[WV] using this
   have gb2:0<b[0]! /\ b[0]! < 1000000000:=⟨by omega,gb.2⟩
   obtain⟨Q,oQ,nQ,vQ,q241⟩:=C.Ds (.vs (au a) a.length c1) a c1 [] b[0]! xD oa (by omega) ⟨gb2.1,by omega⟩
   have r0:=Int.emod_nonneg (WV dB a) (show b[0]! ≠ 0 by omega)
   have r1:=Int.emod_lt_of_pos (WV dB a) gb2.1
   obtain⟨re,hre⟩:∃re,re=WV dB a%b[0]! := ⟨_,rfl⟩
   rw[←hre]at q241 r0 r1
   have e0:b[(0:Int).toNat]! = b[0]! := rfl
   have q2:CT M (ir 242) [.sl 0 0 1 1 (some 1)] [some (.cells (au [re]) 3)] ⟨bB 0 (aQ ([re].take 1)) (some 1),[some (.cells (au [re]) 3)],[]⟩:=qk (cap:=some 1) C.ft C.gO rfl Nat.zero_lt_one (Nat.le_refl _) (by decide) (fun c hc=>by cases hc;exact Nat.le_refl _)
   repeat' first|apply W.seq|apply ab|apply W.region|apply WO.nil|apply W.ret|apply W.skip|apply ba|(apply W.ax;rfl)|(apply W.aw;rfl)|(apply WO.lss;rfl;rfl)|(apply WO.eql;rfl;rfl)|(apply WO.ay;rfl;rfl;first|exact q218 _|exact q241)|(apply WO.ct;rfl;rfl;first|exact q2)|(apply WO.cM;rfl;rfl;omega)|(apply WO.dV;rfl;exact fun _=>rfl;(first|omega|(simp only[List.length_set];omega)|(simp;omega));decide;rfl;case ia=>infer_instance)|(apply WO.aT;rfl;rfl;rfl)|(apply WO.pl;rfl;rfl)|(apply WO.pp;rfl;rfl)|(intro _;omega)|intro _
   all_goals try omega
   have hout:=je.aaH (d1:=some 1) (b1:=0) (L1:=[re]) (R:=Q) (e1:=3) (hp:=[some (.cells (au [re]) 3)]) (n1:=1) rfl (Nat.le_refl _)
   refine⟨.inr rfl,rfl,_,rfl,Q,_,⟨oQ,nQ,by rw[vQ,vb]⟩,?_,hout⟩
   rw[List.take_of_length_le (show [re].length<=1 from Nat.le_refl _)]
   obtain⟨h1,h2,h3⟩:=sW (L:=[re]) (fun x hx=>by rw[List.mem_singleton.1 hx];exact⟨r0,by show _<(1000000000:Int);omega⟩)
   exact⟨h1,h2,by rw[h3,vb,←hre];simp[WV]⟩
 obtain⟨k,hk⟩:∃k,b.length=k+2:=⟨b.length-2,by omega⟩
 have ha:k+2<=a.length:=by
  rcases Nat.lt_or_ge a.length (k+2) with h|h
  . exact absurd (np (b:=dB) (by decide) oa ob nb (by omega)) hlt
  . exact h
 have ane:a≠[]:=fun e=>by rw[e]at ha;simp at ha
 have t0:=kC nb (by omega)
 rw[show b.length-1=k+1 by omega]at t0
 have gt:=bZ ob (i:=k+1) (by omega)
 obtain⟨t,ht⟩:∃t,t=b[k+1]! := ⟨_,rfl⟩
 rw[←ht]at t0 gt
 have gt:0<=t/\t<1000000000:=gt
 have htb:b[((b.length:Int)-1).toNat]! = t:=by rw[show ((b.length:Int)-1).toNat=k+1 by omega];exact ht.symm
 obtain⟨f,hf⟩:∃f,f=1000000000/(t+1):=⟨_,rfl⟩
 have hfe:=Int.mul_ediv_add_emod 1000000000 (t+1)
 rw[←hf]at hfe
 obtain⟨f1,f2,f3⟩:=aaB (t:=t) (f:=f) ⟨by omega,gt.2⟩ hfe ⟨Int.emod_nonneg _ (by omega),Int.emod_lt_of_pos _ (by omega)⟩
 have f4:(t+1)*f<=1000000000:=by
  have:=Int.emod_nonneg 1000000000 (show t+1≠0 by omega)
  omega
 have of:okW dB [f]:=fun x hx=>by rw[List.mem_singleton.1 hx];exact⟨by omega,by show _<(1000000000:Int);omega⟩
 have vf:WV dB [f]=f:=by simp[WV]
 obtain⟨V,oV,nV,vV,q197b⟩:=C.Dr (.vs (au b) b.length c2) (.sl 0 0 1 1 (some 1)) b [f] c2 none [some (.cells (au [f]) 3)] xD (Dp (L:=[f]) (n:=1) (e:=3) rfl (Nat.le_refl _)) ob of (by omega) (by simp) (by omega)
 rw[vf]at vV
 rw[ht]at f3 f4
 obtain⟨lV,hvt⟩:=aaC hk ob f1 f3 f4 oV nV vV
 obtain⟨A,oA,nA,vA,q197a⟩:=C.Dr (.vs (au a) a.length c1) (.sl 0 0 1 1 (some 1)) a [f] c1 none [some (.cells (au [f]) 3),some (.cells (au []) 3)] xD (Dp (L:=[f]) (n:=1) (e:=3) rfl (Nat.le_refl _)) oa of (by omega) (by simp) (by omega)
 rw[vf]at vA
 obtain⟨Ane,lA⟩:=aaE ⟨f1,f2⟩ oa na ane oA nA vA
 rw[←ht]at f3 f4
 have hroom:(([]:List Int).length+A.length)*8<=dX:=by rw[List.length_nil];unfold dX;omega
 have hfq:1000000000/(b[((b.length:Int)-1).toNat]! + 1)=f:=by rw[htb,hf]
 repeat' first|(apply WO.aaI (a:=1000000000) (v:=f);rfl;rfl;decide;(rw[htb];omega);exact hfq)|(refine dv.app (f:=iC) (m:=A) (acc:=[]) (S:=[0]) (hp:=[some (.cells (au [f]) 3),some (.cells (au []) 3)]) (fun _=>rfl) (fun _=>rfl) (by decide) (.inr ⟨1,some 0,by simp,rfl,rfl,.inr ⟨rfl,rfl⟩⟩) (by simp) rfl rfl (.inr (.inl ⟨_,rfl⟩)) hroom (fun H w' o' ho' hk' hlen=>?_))|apply W.seq|apply ab|apply W.region|apply WO.nil|apply W.block|apply W.skip|(apply W.aw;rfl)|(apply WO.lss;rfl;rfl)|(apply WO.eql;rfl;rfl)|(apply WO.add;rfl;rfl;omega)|(apply WO.sub;rfl;rfl;omega)|(apply WO.ay;rfl;rfl;first|exact q218 _|exact q197b|exact q197a)|(apply WO.cM;rfl;rfl;omega)|(apply WO.dV;rfl;exact fun _=>rfl;(first|omega|(simp only[List.length_set];omega)|(simp;omega));decide;rfl;case ia=>infer_instance)|(apply WO.aT;rfl;rfl;rfl)|(apply WO.pl;rfl;rfl)|(apply WO.pp;rfl;rfl)|(intro _;omega)|intro _
 all_goals try omega
 rw[List.nil_append]at ho'
 refine aaF (c1:=c1) (fb:=.cells (au [f]) 3) (by omega) lA _ _ _ _ _ _ _ _ _ _ _ _ _ _ _ _ _ _ _ (fun o K lo wr hoK hK0=>?_) _ _ _ _ ho' (hk' 0 _ (by simp) rfl)
 obtain⟨U0,hU0⟩:∃U0,U0=A++List.replicate (a.length+1-A.length) 0:=⟨_,rfl⟩
 rw[←hU0]at hoK
 have lU0:U0.length=a.length+1:=by rw[hU0];simp;omega
 have oU0:okW dB U0:=by rw[hU0];exact kA oA (jN (by decide))
 have vU0:WV dB U0=WV dB a*f:=by rw[hU0,fT,jO,Int.mul_zero,Int.add_zero,vA]
 rcases hoK with ⟨h1,_⟩|⟨bu,cp,hb0,rfl,hbu,hcap⟩
 . rw[h1]at lU0;simp at lU0
 obtain rfl:cp=none:=hcap.resolve_right fun h=>by rw[h.1]at lU0;simp at lU0
 have hb0:bu≠0:=fun e=>hb0 (by simp[e])
 have hbl:=fa hbu
 have hK0l:=fa hK0
 rw[lU0]
 repeat' first|apply W.seq|apply ab|apply W.region|apply WO.nil|apply W.block|apply cg|(apply WO.sub;rfl;rfl;omega)|(apply WO.jq;rfl;rfl;omega)|(apply WO.pl;rfl;rfl)|(apply WO.pp;rfl;rfl)
 all_goals try omega
 rw[show (((a.length+1:Nat):Int)-(V.length:Int)).toNat=a.length+1-(k+2) by omega]
 have hup:=aaD (f:=f) (by omega) ha oa hk ob nb lU0 oU0 vU0
 rw[←vV]at hup
 refine aaA (c2:=none) (cu:=none) (cq:=some (a.length+1-(k+2))) (k:=k) (N:=a.length+1) (bu:=bu) (bq:=K.length) (bf:=0) (V:=V) (U0:=U0) (fb:=.cells (au [f]) 3) C.toLv (by omega) ⟨hb0,by omega⟩ (by omega) (by omega) lV oV hvt lU0 oU0 hup _ _ _ _ _ _ _ (fun U L K2 aC aD aE aF aG aH aI aJ aK lo wr lU oU lL oL hv hlU hK2u hK2q hK2f=>?_) _ _ _ _ _ _ _ _ _ _ _ _ (cG hbu) cn (cG hK0) _ (by omega)
 have lt:=dN (b:=dB) (by decide) oV
 have hU0n:=cO (b:=dB) (by decide) oU
 rw[vU0,vV]at hv
 rw[vV]at hlU
 obtain⟨d1,d2⟩:=GX (p:=f) (by omega) hv hU0n hlU
 have q1:CT M (ir 242) [.sl bu 0 V.length 1 none] K2 ⟨bB bu (aQ (U.take V.length)) none,K2,[]⟩:=qk (cap:=none) C.ft C.gO hK2u (by omega) (by omega) (by omega) (fun _ h=>by cases h)
 have q2:CT M (ir 242) [.sl K.length 0 (a.length+1-(k+2)) 1 (some (a.length+1-(k+2)))] K2 ⟨bB K.length (aQ (L.take (a.length+1-(k+2)))) (some (a.length+1-(k+2))),K2,[]⟩:=qk (cap:=some (a.length+1-(k+2))) C.ft C.gO hK2q (by omega) (by omega) (by omega) (fun c hc=>by cases hc;exact Nat.le_refl _)
 have hm:=ik (l:=U.take V.length)
 rw[List.length_take]at hm
 have hfrc:=aaG hK2u (m:=aQ (U.take V.length)) (by omega)
 have vT:WV dB (U.take (aQ (U.take V.length)))=WV dB U:=by
  rw[Lz,uN]
  have e1:=kB (b:=dB) (l:=U) (i:=V.length) (by omega)
  have l0:=cO (b:=dB) (by decide) (de oU V.length)
  have l1:=cO (b:=dB) (by decide) (ky oU V.length)
  have hP:0<dB^V.length:=Int.pow_pos (by decide)
  rcases Int.lt_or_le 0 (WV dB (U.drop V.length)) with h|h
  . have:=Int.mul_le_mul_of_nonneg_left (show 1<=WV dB (U.drop V.length) by omega) (Int.le_of_lt hP)
    rw[←vV]at hlU
    omega
  . have z:WV dB (U.drop V.length)=0:=by omega
    rw[z,Int.mul_zero,Int.add_zero]at e1
    exact e1.symm
 obtain⟨R,oR,nR,vR,q241⟩:=C.Ds (bB bu (aQ (U.take V.length)) none) (U.take (aQ (U.take V.length))) none K2 f hfrc (de oU _) (by rw[List.length_take];omega) ⟨by omega,by omega⟩
 have vR:WV dB R=WV dB a%WV dB b:=by rw[vR,vT,d2,Int.mul_ediv_cancel_left _ (by omega)]
 repeat' first|(apply WO.GW (r:=V.length) (k:=.i64);rfl;rfl;omega;omega;(intro c hc;cases hc))|(apply WD.ct;rfl;rfl;rfl;exact q1)|(apply WO.ct;rfl;rfl;first|exact q1|exact q2)|(apply WO.Di (L:=[f]) (v:=f);rfl;exact hK2f;exact Nat.zero_lt_one;rfl)|(apply WD.dL;rfl;rfl;(first|(simp only[nca];rfl)|rfl);first|exact q241)|apply W.seq|apply ab|apply W.region|apply WO.nil|apply W.ret|apply cg|apply W.draw|apply WD.nil|(apply WD.dE;rfl)|(apply WD.dc;rfl;rfl;(first|(simp only[nca];rfl)|rfl))|(apply WO.bY;rfl;rfl;omega)|(apply WO.pl;rfl;rfl)|(apply WO.pp;rfl;rfl)
 all_goals try omega
 have hout:=je.mix (d1:=some (a.length+1-(k+2))) (b1:=K.length) (L1:=L) (R:=R) (e1:=3) (hp:=K2) (n1:=a.length+1-(k+2)) hK2q (by omega)
 refine⟨.inr rfl,rfl,_,rfl,_,_,?_,⟨oR,nR,vR⟩,hout⟩
 rw[Lz,List.take_of_length_le (show L.length<=a.length+1-(k+2) by omega)]
 obtain⟨h1,h2,h3⟩:=sW oL
 exact⟨h1,h2,by rw[h3,d1]⟩
end Go.Ab.Ch1

/-
  Own work: the reference's integers: the greatest common divisor; the error of a number.
-/
namespace Go.Ab.Ch1
open Go.Ab.bz
variable {M:aO} {cap c1 c2:Option Nat}
structure LA (M:aO):Prop where
 ft:M.FT=FT
 LB:∀(a b:List Int),okW dB a->okW dB b->aR a->aR b->a.length<100000->b.length<100000->b≠[]->∃qv q rv r,my qv q/\my rv r/\okW dB r/\aR r/\WV dB q=WV dB a/WV dB b/\WV dB r=WV dB a%WV dB b/\∀h,M.ext 195 [.vs (au a) a.length none,.vs (au b) b.length none] h=some ⟨.ao [qv,rv],h,[]⟩
theorem aaK (C:LA M)(a b:List Int)(oa:okW dB a)(ob:okW dB b)(na:aR a)(nb:aR b)(la:a.length<100000)(lb:b.length<100000) :
 ∃g,okW dB g/\aR g/\WV dB g=(Int.gcd (WV dB a) (WV dB b):Nat)/\cW M 155 [.vs (au a) a.length none,.vs (au b) b.length none] (.vs (au g) g.length none):=by
 obtain⟨v,hh,⟨g,og,ng,vg,ho⟩,hr⟩:=iF (M:=M) (f:=155) (ars:=[.vs (au a) a.length none,.vs (au b) b.length none]) (P:=fun v hh=>∃g,okW dB g/\aR g/\WV dB g=(Int.gcd (WV dB a) (WV dB b):Nat)/\fU v hh (.vs (au g) g.length none)) (by rw[C.ft];exact ZK) (by simp) (by
  unfold La
  simp only[enter]
  repeat' first|apply W.seq|apply ab|apply W.region|apply WO.nil|apply W.block|(apply WO.pp;rfl;rfl)
  refine W.ij (fun m st=>∃A B y a3 lo wr,st=⟨⟨[.vs (au A) A.length none,y,.ah,a3],lo,[],[]⟩,wr⟩/\my y B/\m=(WV dB B).toNat/\okW dB A/\aR A/\A.length<100000/\okW dB B/\aR B/\B.length<100000/\Int.gcd (WV dB A) (WV dB B)=Int.gcd (WV dB a) (WV dB b))
   (fun m st ⟨A,B,y,a3,lo,wr,hst,hy,hm,oA,nA,lA,oB,nB,lB,hg⟩=>?_) (m:=(WV dB b).toNat) ⟨a,b,_,_,_,_,rfl,.inl rfl,rfl,oa,na,la,ob,nb,lb,rfl⟩
  subst hst
  by_cases hB:B=[]
  . subst hB
    have hl0:([]:List Int).length=0:=rfl
    have fin:fU (bg [.vs (au A) A.length none]) (if (bg [AV.vs (au A) A.length none]).top<=0 then [] else []) (.vs (au A) A.length none):=.same (fW A) (by rw[bg,bM,qj])
    have hv:WV dB A=(Int.gcd (WV dB a) (WV dB b):Nat):=by
     rw[←hg]
     have:=cO (b:=dB) (by decide) oA
     show WV dB A=(Int.gcd (WV dB A) 0:Nat)
     rw[Int.gcd_zero_right]
     omega
    rcases hy with rfl|⟨rfl,_⟩
    all_goals
    . unfold CZ
      repeat' first|apply W.seq|apply ab|apply W.region|apply WO.nil|apply W.ret|apply W.exit|apply cj|apply cg|apply eA|(apply W.aw;rfl)|(apply WO.gtr;rfl;rfl)|(apply WO.pl;rfl;rfl)|(apply WO.pp;rfl;rfl)|(intro _;omega)|intro _
      all_goals try omega
      all_goals exact⟨.inr rfl,rfl,_,rfl,A,oA,nA,hv,fin⟩
  . obtain rfl:y = .vs (au B) B.length none:=hy.resolve_right fun h=>hB h.2
    have hBl:0<B.length:=List.length_pos_iff.2 hB
    have hBp:=(pz (b:=dB) (by decide) oB nB).2 hB
    have hA0:=cO (b:=dB) (by decide) oA
    obtain⟨qv,q,rv,r,hq,hr,or_,nr,vq,vr,q195⟩:=C.LB A B oA oB nA nB lA lB hB
    have r1:=Int.emod_lt_of_pos (WV dB A) hBp
    have r0:=Int.emod_nonneg (WV dB A) (show WV dB B≠0 by omega)
    have lr:r.length<=B.length:=im (b:=dB) (by decide) or_ nr (Int.lt_trans (by rw[vr];exact r1) (dN (by decide) oB))
    have hg2:Int.gcd (WV dB B) (WV dB r)=Int.gcd (WV dB a) (WV dB b):=by
     rw[←hg,vr,HB]
    unfold CZ
    repeat' first|apply W.seq|apply ab|apply W.region|apply WO.nil|apply W.block|apply W.skip|apply bK|(apply W.ax;rfl)|(apply WO.gtr;rfl;rfl)|(apply WO.ay;rfl;rfl;first|exact q195 _)|(apply WO.pl;rfl;rfl)|(apply WO.pp;rfl;rfl)|(intro _;omega)|intro _
    all_goals try omega
    all_goals exact ek ⟨(WV dB r).toNat,by rw[vr];omega,B,r,rv,_,_,_,rfl,hr,rfl,oB,nB,lB,or_,nr,by omega,hg2⟩)
 exact⟨g,og,ng,vg,v,hh,ho,hr⟩
theorem aaL {g:List Int}(og:okW dB g)(ng:aR g):WV dB g=1↔g=[1]:=by
 constructor
 . intro h
   have h1:=im (b:=dB) (by decide) og ng (n:=1) (by rw[h];decide)
   match g,h1 with
   | [],_=>simp[WV]at h
   | [x],_=>simp[WV]at h;rw[h]
 . rintro rfl;rfl
def t62:ak:=
 .seq (
       .seq (.region [zm 37 3,
          zm 38 2,
          zL 39 38,
          zb 40 .lss 37 39,
          zn 41 40,
          zg (zm 42 2) 41 true,
          zg (zm 43 3) 41 true,
          zg (zc 44 .add 43 1) 41 true,
          ⟨(.l 45),.slice .str 1 (.l 42) (some (.l 44)) none none,some ((.l 41),true)⟩,
          zg (z1 46 154 45) 41 true,
          zg (zu 47 46) 41 true,
          zg (zn 48 47) 41 true,
          zg (zm 49 2) 48 false,
          zg (zm 50 3) 48 false,
          zg (zc 51 .add 50 1) 48 false,
          ⟨(.l 52),.slice .str 1 (.l 49) (some (.l 51)) none none,some ((.l 48),false)⟩,
          ⟨(.l 53),.bin .eql (.l 52) (.c (.str [48])),some ((.l 48),false)⟩,
          zg (zP 54 48 53) 41 true,
          zg (zn 55 54) 41 true,
          zg (zm 56 2) 55 false,
          zg (zm 57 3) 55 false,
          zg (zc 58 .add 57 1) 55 false,
          ⟨(.l 59),.slice .str 1 (.l 56) (some (.l 58)) none none,some ((.l 55),false)⟩,
          ⟨(.l 60),.bin .eql (.l 59) (.c (.str [49])),some ((.l 55),false)⟩,
          zg (zP 61 55 60) 41 true,
          zp 62 41 61])
        (
         .cond (.l 62)
         (
          .seq (.region [zi 1 1])
          (.ret))
         (.skip)))
       (
        .seq (.seq (.region [zm 63 3,
           zc 64 .gtr 63 600,
           zn 65 64,
           zg (zm 66 2) 65 false,
           zg (zL 67 66) 65 false,
           zg (zm 68 3) 65 false,
           zg (zb 69 .sub 67 68) 65 false,
           zg (zc 70 .sub 69 1) 65 false,
           zg (zc 71 .gtr 70 600) 65 false,
           zP 72 65 71])
         (
          .cond (.l 72)
          (
           .seq (.region [zi 1 4])
           (.ret))
          (.skip)))
        (
         .seq (.seq (.region [zm 73 3,
            zm 74 2,
            zL 75 74,
            zb 76 .lss 73 75])
          (
           .cond (.l 76)
           (
            .seq (.region [zm 78 2,
              z1 79 135 78,
              zn 77 79,
              ze 80 0 77,
              ze 81 1 77,
              ⟨(.p 4),.alloc 162 [.bool false,.ah],none⟩,
              ⟨(.p 5),.alloc 162 [.bool false,.ah],none⟩,
              zs 2 4 80,
              zs 2 5 81])
            (
             .seq (.region [zf 82 1 4,
               zd 83 1 82,
               zf 84 1 5,
               zd 85 1 84,
               z2 86 155 83 85,
               zw 6 86])
             (
              .seq (.region [zm 87 6,
                zl 88 87,
                zc 89 .neq 88 1,
                zn 90 89,
                zg (zm 91 6) 90 false,
                ⟨(.l 92),.dw none 1 (.l 91) (kI 0),some ((.l 90),false)⟩,
                zg (zd 93 1 92) 90 false,
                zg (zc 94 .neq 93 1) 90 false,
                zP 95 90 94])
              (
               .cond (.l 95)
               (
                .seq (.region [zi 1 1])
                (.ret))
               (.skip)))))
           (.skip)))
         (
          .seq (.region [zi 1 0])
          (.ret))))
structure Dt (M:aO):Prop where
 ft:M.FT=FT
 LC:∀(s:al) h,s.length<1000000->M.ext 153 [.str s] h=some ⟨.iV (dg s),h,[]⟩
 Du:∀(s:al) h,s.length<1000000->M.ext 154 [.str s] h=some ⟨.bool (dy s),h,[]⟩
 LD:∀(s:al),s.length<1000000->mw s=true->(bI 47 s).1.all bF=true->((bI 47 s).2.getD []).all bF=true->∃v1 v2,iQ v1 (aM 0 (bI 47 s).1:Nat)/\iQ v2 (aM 0 ((bI 47 s).2.getD []):Nat)/\∀h,M.ext 135 [.str s] h=some ⟨.ao [v1,v2],h,[]⟩
 LF:∀(a b:List Int),okW dB a->okW dB b->aR a->aR b->a.length<100000->b.length<100000->∃g,okW dB g/\aR g/\WV dB g=(Int.gcd (WV dB a) (WV dB b):Nat)/\∀h,M.ext 155 [.vs (au a) a.length none,.vs (au b) b.length none] h=some ⟨.vs (au g) g.length none,h,[]⟩
theorem iQ.pos {v:AV}{n:Nat}(h:iQ v n):∃neg l,v = .agg [.bool neg,.vs (au l) l.length none]/\okW dB l/\aR l/\WV dB l=n:=by
 obtain⟨neg,l,rfl,ok,nr,hz,hn⟩:=h
 refine⟨neg,l,rfl,ok,nr,?_⟩
 cases neg with
 | false=>exact hz.symm
 | true=>
  have:=(pz (b:=dB) (by decide) ok nr).2 (hn rfl)
  simp at hz
  omega
theorem aaM (C:Dt M)(s u top bot:al)(B:Bool)(lu:u.length<1000000)(htop:(bI 47 u).1=top)(hbot:(bI 47 u).2.getD []=bot)(hB:mw u=B)(dt:top.all bF=true)(a4 a5 a6:AV)(lo:List (Nat×AV))(wr:List Nat) :
 W M t62 ⟨⟨[.str s,.iV 0,.str u,.iV top.length,a4,a5,a6],lo,[],[]⟩,wr⟩ (Ci [.var (.p 1)] (if B=true/\(dy bot && decide (bot≠[48]) && decide (bot≠[49]))=false then 1 else if 600<top.length\/600<bot.length then 4 else if B=true/\fE (aM 0 top) (aM 0 bot)=true then 1 else 0)):=by
 have hs:dg u=top.length:=by rw[dg,htop]
 cases B with
 | false=>
  rw[if_neg (by simp)]
  have hn:(bI 47 u).2=none:=by unfold mw at hB;cases h:(bI 47 u).2 with
    | none=>rfl
    | some y=>rw[h]at hB;cases hB
  have hul:u.length=top.length:=by rw[←htop,(nM hn).1]
  have hb0:bot=[]:=by rw[←hbot,hn];rfl
  subst hb0
  have hl0:([]:al).length=0:=rfl
  by_cases h6:600<top.length\/600<([]:al).length
  . rw[if_pos h6]
    unfold t62
    repeat' first|apply W.seq|apply ab|apply W.region|apply WO.nil|apply W.ret|apply W.skip|apply ba|(apply W.ax;rfl)|(apply W.aw;rfl)|(apply WO.sT;rfl)|(apply WO.sF;rfl)|(apply WO.sU;rfl)|(apply WO.lss;rfl;rfl)|(apply WO.gtr;rfl;rfl)|(apply WO.bn;rfl;rfl)|(apply WO.bx;rfl;rfl)|(apply WO.pl;rfl;rfl)|(apply WO.pp;rfl;rfl)|(intro _;omega)|intro _
    all_goals try omega
    all_goals exact ix (.inr rfl) rfl rfl rfl rfl
  . rw[if_neg h6,if_neg (by simp)]
    unfold t62
    repeat' first|apply W.seq|apply ab|apply W.region|apply WO.nil|apply W.ret|apply W.skip|(apply W.aw;rfl)|(apply WO.gF;rfl)|(apply WO.sT;rfl)|(apply WO.sU;rfl)|(apply WO.lss;rfl;rfl)|(apply WO.gtr;rfl;rfl)|(apply WO.bx;rfl;rfl)|(apply WO.sub;rfl;rfl;omega)|(apply WO.pl;rfl;rfl)|(apply WO.pp;rfl;rfl)|(intro _;omega)|intro _
    all_goals try omega
    all_goals exact ix (.inr rfl) rfl rfl rfl rfl
 | true=>
  obtain⟨e1,e2,hk⟩:=Ls hB
  rw[hs,hbot]at e2
  have hul:u.length=top.length+1+bot.length:=by
   unfold mw at hB
   obtain⟨y,hy⟩:=Option.isSome_iff_exists.1 hB
   have:=sB hy
   rw[hy]at hbot
   simp at hbot
   rw[←htop,←hbot];exact this
  have e2':u.drop ((top.length:Int)+1).toNat=bot:=by rw[show ((top.length:Int)+1).toNat=top.length+1 by omega];exact e2
  have q154:=fun h=>C.Du bot h (by omega)
  cases hC:dy bot with
  | false=>
   rw[if_pos ⟨rfl,rfl⟩]
   rw[hC]at q154
   unfold t62
   repeat' first|(apply WO.gi (s:=u) (r:=bot);rfl;rfl;omega;exact e2')|apply W.seq|apply ab|apply W.region|apply WO.nil|apply W.ret|apply ba|(apply W.ax;rfl)|(apply WO.gT;rfl)|(apply WO.sF;rfl)|(apply WO.lss;rfl;rfl)|(apply WO.bn;rfl;rfl)|(apply WO.add;rfl;rfl;omega)|(apply WO.ay;rfl;rfl;first|exact q154 _)|(apply WO.pl;rfl;rfl)|(apply WO.pp;rfl;rfl)|(intro _;omega)|intro _
   all_goals try omega
   all_goals exact ix (.inr rfl) rfl rfl rfl rfl
  | true=>
   rw[hC]at q154
   by_cases h48:bot=[48]
   . rw[if_pos ⟨rfl,by rw[decide_eq_false (show ¬bot≠[48] from fun h=>h h48)];rfl⟩]
     unfold t62
     repeat' first|(apply WO.gi (s:=u) (r:=bot);rfl;rfl;omega;exact e2')|(apply WO.dU;rfl;rfl;all_goals first|(intro h;exact absurd h48 h)|intro _)|apply W.seq|apply ab|apply W.region|apply WO.nil|apply W.ret|apply ba|(apply W.ax;rfl)|(apply WO.gT;rfl)|(apply WO.gF;rfl)|(apply WO.sF;rfl)|(apply WO.lss;rfl;rfl)|(apply WO.bn;rfl;rfl)|(apply WO.bx;rfl;rfl)|(apply WO.add;rfl;rfl;omega)|(apply WO.ay;rfl;rfl;first|exact q154 _)|(apply WO.pl;rfl;rfl)|(apply WO.pp;rfl;rfl)|(intro _;omega)|intro _
     all_goals try omega
     all_goals exact ix (.inr rfl) rfl rfl rfl rfl
   . by_cases h49:bot=[49]
     . rw[if_pos ⟨rfl,by rw[decide_eq_true (show bot≠[48] from h48),decide_eq_false (show ¬bot≠[49] from fun h=>h h49)];rfl⟩]
       unfold t62
       repeat' first|(apply WO.gi (s:=u) (r:=bot);rfl;rfl;omega;exact e2')|(apply WO.dU;rfl;rfl;all_goals first|(intro h;exact absurd h h48)|(intro h;exact absurd h49 h)|intro _)|apply W.seq|apply ab|apply W.region|apply WO.nil|apply W.ret|apply ba|(apply W.ax;rfl)|(apply WO.gT;rfl)|(apply WO.gF;rfl)|(apply WO.lss;rfl;rfl)|(apply WO.bn;rfl;rfl)|(apply WO.bx;rfl;rfl)|(apply WO.add;rfl;rfl;omega)|(apply WO.ay;rfl;rfl;first|exact q154 _)|(apply WO.pl;rfl;rfl)|(apply WO.pp;rfl;rfl)|(intro _;omega)|intro _
       all_goals try omega
       all_goals exact ix (.inr rfl) rfl rfl rfl rfl
     . rw[if_neg (by rw[decide_eq_true (show bot≠[48] from h48),decide_eq_true (show bot≠[49] from h49)];simp)]
       by_cases h6:600<top.length\/600<bot.length
       . rw[if_pos h6]
         unfold t62
         repeat' first|(apply WO.gi (s:=u) (r:=bot);rfl;rfl;omega;exact e2')|(apply WO.dU;rfl;rfl;all_goals first|(intro h;exact absurd h h48)|(intro h;exact absurd h h49)|intro _)|apply W.seq|apply ab|apply W.region|apply WO.nil|apply W.ret|apply W.skip|apply ba|(apply W.ax;rfl)|(apply W.aw;rfl)|(apply WO.gT;rfl)|(apply WO.gF;rfl)|(apply WO.sF;rfl)|(apply WO.lss;rfl;rfl)|(apply WO.gtr;rfl;rfl)|(apply WO.bn;rfl;rfl)|(apply WO.bx;rfl;rfl)|(apply WO.add;rfl;rfl;omega)|(apply WO.sub;rfl;rfl;omega)|(apply WO.ay;rfl;rfl;first|exact q154 _)|(apply WO.pl;rfl;rfl)|(apply WO.pp;rfl;rfl)|(intro _;omega)|intro _
         all_goals try omega
         all_goals exact ix (.inr rfl) rfl rfl rfl rfl
       . rw[if_neg h6]
         have dbt:=(sE hC).2
         obtain⟨v1,v2,k1,k2,q135⟩:=C.LD u lu hB (by rw[htop];exact dt) (by rw[hbot];exact dbt)
         rw[htop]at k1
         rw[hbot]at k2
         obtain⟨n1,l1,rfl,ok1,nr1,vl1⟩:=k1.pos
         obtain⟨n2,l2,rfl,ok2,nr2,vl2⟩:=k2.pos
         have len1:∀(t:al) (l:List Int),t.all bF=true->okW dB l->aR l->WV dB l=(aM 0 t:Nat)->t.length<=600->l.length<100000:=fun t l ht ok nr hv hl6=>by
          have h1:=nG t ht
          have h2:l.length<=t.length:=im (b:=dB) (by decide) ok nr (by
           rw[hv]
           have h3:(aM 0 t:Int)<(10:Int)^t.length:=by exact_mod_cast h1
           have h4:∀n:Nat,(10:Int)^n<=dB^n:=by
            intro n
            induction n with
            | zero=>decide
            | succ n ih=>
             rw[Int.pow_succ,Int.pow_succ]
             exact Int.mul_le_mul ih (by decide) (by decide) (Int.pow_nonneg (by decide))
           have h5:=h4 t.length
           omega)
          omega
         obtain⟨g,og,ng,vg,q155⟩:=C.LF l1 l2 ok1 ok2 nr1 nr2 (len1 top l1 dt ok1 nr1 vl1 (by omega)) (len1 bot l2 dbt ok2 nr2 vl2 (by omega))
         rw[vl1,vl2]at vg
         have hgn:(Int.gcd (aM 0 top:Nat) (aM 0 bot:Nat))=Nat.gcd (aM 0 top) (aM 0 bot):=rfl
         rw[hgn]at vg
         have h1d:=aaL og ng
         by_cases h1:g=[1]
         . have hc:fE (aM 0 top) (aM 0 bot)=false:=by
            have:=h1d.2 h1
            rw[vg]at this
            rw[fE,show Nat.gcd (aM 0 top) (aM 0 bot)=1 by omega];rfl
           rw[if_neg (by rw[hc];simp)]
           subst h1
           have hl1:([1]:List Int).length=1:=rfl
           unfold t62
           repeat' first|(apply WO.gi (s:=u) (r:=bot);rfl;rfl;omega;exact e2')|(apply WO.dU;rfl;rfl;all_goals first|(intro h;exact absurd h h48)|(intro h;exact absurd h h49)|intro _)|(apply WO.iR (L:=[1]) (m:=0) (v:=1);rfl;rfl;exact Nat.zero_lt_one;rfl)|apply W.seq|apply ab|apply W.region|apply WO.nil|apply W.ret|apply W.skip|(apply W.ax;rfl)|(apply W.aw;rfl)|(apply WO.gT;rfl)|(apply WO.gF;rfl)|(apply WO.lss;rfl;rfl)|(apply WO.gtr;rfl;rfl)|(apply WO.neq;rfl;rfl)|(apply WO.bn;rfl;rfl)|(apply WO.bx;rfl;rfl)|(apply WO.add;rfl;rfl;omega)|(apply WO.sub;rfl;rfl;omega)|(apply WO.ay;rfl;rfl;first|exact q154 _|exact q135 _|exact q155 _)|(apply WO.cM;rfl;rfl;omega)|(apply WO.aT;rfl;rfl;rfl)|(apply WO.aX;rfl;rfl;rfl)|(apply WO.fA;rfl;rfl;rfl)|(apply WO.pl;rfl;rfl)|(apply WO.pp;rfl;rfl)|(intro _;omega)|intro _
           all_goals try omega
           all_goals exact ix (.inr rfl) rfl rfl rfl rfl
         . have hc:fE (aM 0 top) (aM 0 bot)=true:=by
            have:Nat.gcd (aM 0 top) (aM 0 bot)≠1:=fun e=>h1 (h1d.1 (by rw[vg,e];rfl))
            rw[fE];simp[this]
           rw[if_pos ⟨rfl,hc⟩]
           by_cases hl1:g.length=1
           . obtain⟨x,rfl⟩:∃x,g=[x]:=by
              match g,hl1 with
              | [x],_=>exact⟨x,rfl⟩
             have hx:x≠1:=fun e=>h1 (by rw[e])
             unfold t62
             repeat' first|(apply WO.gi (s:=u) (r:=bot);rfl;rfl;omega;exact e2')|(apply WO.dU;rfl;rfl;all_goals first|(intro h;exact absurd h h48)|(intro h;exact absurd h h49)|intro _)|(apply WO.iR (L:=[x]) (m:=0) (v:=x);rfl;rfl;exact Nat.zero_lt_one;rfl)|apply W.seq|apply ab|apply W.region|apply WO.nil|apply W.ret|apply W.skip|apply ba|(apply W.ax;rfl)|(apply W.aw;rfl)|(apply WO.gT;rfl)|(apply WO.gF;rfl)|(apply WO.lss;rfl;rfl)|(apply WO.gtr;rfl;rfl)|(apply WO.neq;rfl;rfl)|(apply WO.bn;rfl;rfl)|(apply WO.bx;rfl;rfl)|(apply WO.add;rfl;rfl;omega)|(apply WO.sub;rfl;rfl;omega)|(apply WO.ay;rfl;rfl;first|exact q154 _|exact q135 _|exact q155 _)|(apply WO.cM;rfl;rfl;omega)|(apply WO.aT;rfl;rfl;rfl)|(apply WO.aX;rfl;rfl;rfl)|(apply WO.fA;rfl;rfl;rfl)|(apply WO.pl;rfl;rfl)|(apply WO.pp;rfl;rfl)|(intro _;omega)|intro _
             all_goals try omega
             all_goals exact ix (.inr rfl) rfl rfl rfl rfl
           . unfold t62
             repeat' first|(apply WO.gi (s:=u) (r:=bot);rfl;rfl;omega;exact e2')|(apply WO.dU;rfl;rfl;all_goals first|(intro h;exact absurd h h48)|(intro h;exact absurd h h49)|intro _)|apply W.seq|apply ab|apply W.region|apply WO.nil|apply W.ret|apply W.skip|apply ba|(apply W.ax;rfl)|(apply W.aw;rfl)|(apply WO.gT;rfl)|(apply WO.gF;rfl)|(apply WO.sF;rfl)|(apply WO.lss;rfl;rfl)|(apply WO.gtr;rfl;rfl)|(apply WO.neq;rfl;rfl)|(apply WO.bn;rfl;rfl)|(apply WO.bx;rfl;rfl)|(apply WO.add;rfl;rfl;omega)|(apply WO.sub;rfl;rfl;omega)|(apply WO.ay;rfl;rfl;first|exact q154 _|exact q135 _|exact q155 _)|(apply WO.aT;rfl;rfl;rfl)|(apply WO.aX;rfl;rfl;rfl)|(apply WO.fA;rfl;rfl;rfl)|(apply WO.pl;rfl;rfl)|(apply WO.pp;rfl;rfl)|(intro _;omega)|intro _
             all_goals try omega
             all_goals exact ix (.inr rfl) rfl rfl rfl rfl
theorem w62 (C:Dt M)(s:al)(hl:s.length<1000000):aZ M 62 [.str s] [] ⟨.iV (eo s),[],[]⟩:=by
 have hcl:=sC 45 s
 have q153:=fun h=>C.LC (bJ 45 s) h (by omega)
 have hsl:=ZR (bJ 45 s)
 have etk:(bJ 45 s).take ((dg (bJ 45 s):Nat):Int).toNat=cC s:=by
  show (bJ 45 s).take (bI 47 (bJ 45 s)).1.length=(bI 47 (bJ 45 s)).1
  cases h:(bI 47 (bJ 45 s)).2 with
  | none=>rw[(nM h).1,List.take_length]
  | some y=>exact BZ h
 have htl:(cC s).length<=s.length:=Nat.le_trans (sG 47 _) hcl
 have q154:=fun h=>C.Du (cC s) h (by omega)
 have hsT:dg (bJ 45 s)=(cC s).length:=rfl
 have tl:=fun dt=>aaM C s (bJ 45 s) (cC s) (dk s) (gC s) (by omega) rfl rfl rfl dt
 rw[hsT]at q153 etk hsl
 have hchk:eo s=if iN s=false then 1 else if 600<(cC s).length\/600<(dk s).length then 4 else if gC s=true/\fE (aM 0 (cC s)) (aM 0 (dk s))=true then 1 else 0:=rfl
 have hform:iN s=(dy (cC s) && !(preB 45 s && decide (cC s=[48])) && (!gC s || (dy (dk s) && decide (dk s≠[48]) && decide (dk s≠[49])))):=rfl
 have dA:=fun h=>(sE (s:=cC s) h)
 have hhd:preB 45 s=true->s[0]! = 45:=fun h=>by
  have h:=of_decide_eq_true h
  cases s with
  | nil=>simp at h
  | cons c t=>simp at h;exact h
 have hnhd:preB 45 s=false->s≠[]->s[0]! ≠ 45:=fun h h0 e=>by
  have h:=of_decide_eq_false h
  cases s with
  | nil=>exact h0 rfl
  | cons c t=>exact h (congrArg some e)
 have hne:cC s≠[]->s≠[]:=fun h e=>h (by rw[e];rfl)
 have hpc:=fun h=>wE (b:=45) (s:=s) h
 have hpn:=fun h=>jY (b:=45) (s:=s) h
 rw[hchk]
 clear hchk
 generalize cC s=top at *
 generalize dk s=bot at *
 generalize gC s=B at *
 generalize bJ 45 s=u at *
 have ei:s[(0:Int).toNat]! = s[0]! := rfl
 refine bT (by rw[C.ft];exact ZC) (by simp) ?_
 unfold KS
 simp only[enter]
 cases hP:preB 45 s with
 | true=>
  rw[hP]at hform
  have h45:=hhd hP
  obtain⟨hc1,hc2⟩:=hpc hP
  have hc1:s.drop (1:Int).toNat=u:=hc1
  have e45:((s[(0:Int).toNat]!).toNat:Int)=45:=by rw[ei,h45];rfl
  cases hA:dy top with
  | false=>
   rw[hA]at q154 hform
   simp only[Bool.false_and]at hform
   rw[hform,if_pos rfl]
   repeat' first|(apply WO.gi (s:=s) (r:=u);rfl;rfl;omega;exact hc1)|(apply WO.ig (s:=u) (r:=top);rfl;rfl;omega;exact etk)|apply W.seq|apply ab|apply W.region|apply WO.nil|apply W.ret|apply ba|(apply W.ax;rfl)|(apply WO.gT;rfl)|(apply WO.sF;rfl)|(apply WO.sU;rfl)|(apply WO.gtr;rfl;rfl)|(apply WO.eql;rfl;rfl)|(apply WO.bn;rfl;rfl)|(apply WO.ay;rfl;rfl;first|exact q153 _|exact q154 _)|(apply WO.idx;rfl;rfl;omega)|(apply WO.pl;rfl;rfl)|(apply WO.pp;rfl;rfl)|(intro _;omega)|intro _
   all_goals try omega
   all_goals exact⟨.inr rfl,rfl,_,rfl,rfl,rfl⟩
  | true=>
   rw[hA]at q154 hform
   simp only[Bool.true_and]at hform
   obtain⟨d1,d2⟩:=dA hA
   have tl:=tl d2
   by_cases hz:top=[48]
   . rw[decide_eq_true hz]at hform
     simp only[Bool.not_true,Bool.false_and]at hform
     rw[hform,if_pos rfl]
     repeat' first|(apply WO.gi (s:=s) (r:=u);rfl;rfl;omega;exact hc1)|(apply WO.ig (s:=u) (r:=top);rfl;rfl;omega;exact etk)|(apply WO.dU;rfl;rfl;all_goals first|(intro h;exact absurd hz h)|intro _)|apply W.seq|apply ab|apply W.region|apply WO.nil|apply W.ret|apply ba|(apply W.ax;rfl)|(apply WO.gT;rfl)|(apply WO.gF;rfl)|(apply WO.gtr;rfl;rfl)|(apply WO.eql;rfl;rfl)|(apply WO.bn;rfl;rfl)|(apply WO.bx;rfl;rfl)|(apply WO.ay;rfl;rfl;first|exact q153 _|exact q154 _)|(apply WO.idx;rfl;rfl;omega)|(apply WO.pl;rfl;rfl)|(apply WO.pp;rfl;rfl)|(intro _;omega)|intro _
     all_goals try omega
     all_goals exact⟨.inr rfl,rfl,_,rfl,rfl,rfl⟩
   . rw[decide_eq_false hz]at hform
     simp only[Bool.not_false,Bool.true_and]at hform
     have hres:(if B=true/\(dy bot && decide (bot≠[48]) && decide (bot≠[49]))=false then 1 else if 600<top.length\/600<bot.length then 4 else if B=true/\fE (aM 0 top) (aM 0 bot)=true then (1:Int) else 0)=(if iN s=false then 1 else if 600<top.length\/600<bot.length then 4 else if B=true/\fE (aM 0 top) (aM 0 bot)=true then 1 else 0):=by
      rw[hform]
      cases B with
      | false=>simp
      | true=>simp
     rw[hres]at tl
     repeat' first|(exact tl _ _ _ _ _)|(apply WO.gi (s:=s) (r:=u);rfl;rfl;omega;exact hc1)|(apply WO.ig (s:=u) (r:=top);rfl;rfl;omega;exact etk)|(apply WO.dU;rfl;rfl;all_goals first|(intro h;exact absurd h hz)|intro _)|apply W.seq|apply ab|apply W.region|apply WO.nil|apply W.skip|(apply W.ax;rfl)|(apply W.aw;rfl)|(apply WO.gT;rfl)|(apply WO.gF;rfl)|(apply WO.gtr;rfl;rfl)|(apply WO.eql;rfl;rfl)|(apply WO.bn;rfl;rfl)|(apply WO.bx;rfl;rfl)|(apply WO.ay;rfl;rfl;first|exact q153 _|exact q154 _)|(apply WO.idx;rfl;rfl;omega)|(apply WO.pl;rfl;rfl)|(apply WO.pp;rfl;rfl)|(intro _;omega)|intro _
     all_goals try omega
 | false=>
  rw[hP]at hform
  obtain rfl:u=s:=hpn hP
  simp only[Bool.false_and,Bool.not_false,Bool.and_true]at hform
  by_cases h0:u=[]
  . have hA:dy top=false:=by
     cases h:dy top with
     | false=>rfl
     | true=>exact absurd h0 (hne (dA h).1)
    rw[hA]at q154 hform
    simp only[Bool.false_and]at hform
    rw[hform,if_pos rfl]
    have hu0:u.length=0:=by rw[h0];rfl
    repeat' first|(apply WO.ig (s:=u) (r:=top);rfl;rfl;omega;exact etk)|apply W.seq|apply ab|apply W.region|apply WO.nil|apply W.ret|apply W.skip|apply ba|(apply W.ax;rfl)|(apply W.aw;rfl)|(apply WO.sT;rfl)|(apply WO.sF;rfl)|(apply WO.sU;rfl)|(apply WO.gtr;rfl;rfl)|(apply WO.bn;rfl;rfl)|(apply WO.bx;rfl;rfl)|(apply WO.ay;rfl;rfl;first|exact q153 _|exact q154 _)|(apply WO.pl;rfl;rfl)|(apply WO.pp;rfl;rfl)|(intro _;omega)|intro _
    all_goals try omega
    all_goals exact⟨.inr rfl,rfl,_,rfl,rfl,rfl⟩
  . have hpos:0<u.length:=List.length_pos_iff.2 h0
    have h45:=hnhd hP h0
    have e45:((u[(0:Int).toNat]!).toNat:Int)≠45:=fun e=>h45 (UInt8.toNat_inj.1 (by rw[ei]at e;have:(45:UInt8).toNat=45:=rfl;omega))
    cases hA:dy top with
    | false=>
     rw[hA]at q154 hform
     simp only[Bool.false_and]at hform
     rw[hform,if_pos rfl]
     repeat' first|(apply WO.ig (s:=u) (r:=top);rfl;rfl;omega;exact etk)|apply W.seq|apply ab|apply W.region|apply WO.nil|apply W.ret|apply W.skip|apply ba|(apply W.ax;rfl)|(apply W.aw;rfl)|(apply WO.gT;rfl)|(apply WO.sF;rfl)|(apply WO.sU;rfl)|(apply WO.gtr;rfl;rfl)|(apply WO.eql;rfl;rfl)|(apply WO.bn;rfl;rfl)|(apply WO.ay;rfl;rfl;first|exact q153 _|exact q154 _)|(apply WO.idx;rfl;rfl;omega)|(apply WO.pl;rfl;rfl)|(apply WO.pp;rfl;rfl)|(intro _;omega)|intro _
     all_goals try omega
     all_goals exact⟨.inr rfl,rfl,_,rfl,rfl,rfl⟩
    | true=>
     rw[hA]at q154 hform
     simp only[Bool.true_and]at hform
     obtain⟨d1,d2⟩:=dA hA
     have tl:=tl d2
     have hres:(if B=true/\(dy bot && decide (bot≠[48]) && decide (bot≠[49]))=false then 1 else if 600<top.length\/600<bot.length then 4 else if B=true/\fE (aM 0 top) (aM 0 bot)=true then (1:Int) else 0)=(if iN u=false then 1 else if 600<top.length\/600<bot.length then 4 else if B=true/\fE (aM 0 top) (aM 0 bot)=true then 1 else 0):=by
      rw[hform]
      cases B with
      | false=>simp
      | true=>simp
     rw[hres]at tl
     repeat' first|(exact tl _ _ _ _ _)|(apply WO.ig (s:=u) (r:=top);rfl;rfl;omega;exact etk)|apply W.seq|apply ab|apply W.region|apply WO.nil|apply W.skip|(apply W.aw;rfl)|(apply WO.gT;rfl)|(apply WO.gF;rfl)|(apply WO.sT;rfl)|(apply WO.gtr;rfl;rfl)|(apply WO.eql;rfl;rfl)|(apply WO.bn;rfl;rfl)|(apply WO.bx;rfl;rfl)|(apply WO.ay;rfl;rfl;first|exact q153 _|exact q154 _)|(apply WO.idx;rfl;rfl;omega)|(apply WO.pl;rfl;rfl)|(apply WO.pp;rfl;rfl)|(intro _;omega)|intro _
     all_goals try omega
end Go.Ab.Ch1

/-
  Own work: the contracts of the reference's check of a number as a table.
-/
namespace Go.Ab.Ch1
open Go.Proofs Go.Ab.bz
variable {T:List (Nat×Spec)}
noncomputable def ql:Spec:=sK [] 153
noncomputable def Dv:Spec:=sK [] 204
noncomputable def Dw:Spec:=sK [(204,Dv)] 154
noncomputable def Dx:Spec:=sK [] 192
noncomputable def Dy:Spec:=sK [(153,ql)] 92
theorem Dz:aW Tryz.prog gl 153 ql:=bC bR
theorem aaO:aW Tryz.prog gl 204 Dv:=bC bR
theorem aaP:aW Tryz.prog gl 154 Dw:=bC (aS aaO bR)
theorem aaQ:aW Tryz.prog gl 192 Dx:=bC bR
theorem aaR:aW Tryz.prog gl 92 Dy:=bC (aS Dz bR)
theorem DA:∀(s:al) h,s.length<1000000->ql [.str s] h=some ⟨.iV (dg s),h,[]⟩:=fun s h hl=>cz (ZS bP s hl) rfl rfl rfl h
theorem aaS:∀(s:al) h,s.length<1000000->Dw [.str s] h=some ⟨.bool (dy s),h,[]⟩:=fun s h hl=>
 cz (ZU (M:=bw Tryz.prog FT [(204,Dv)]) bP s hl fun h=>cz (ZT bP s hl) rfl rfl rfl h) rfl rfl rfl h
theorem aaT:∀(s:al) h,s.length<=18->s.all bF=true->Dx [.str s] h=some ⟨.iV (aM 0 s:Nat),h,[]⟩:=fun s h hl hd=>cz (ZW bP s hl hd) rfl rfl rfl h
theorem k92:∀(s:al) h,s.length<1000000->Dy [.str s] h=some ⟨.bool (decide (dg s=s.length)),h,[]⟩:=fun s h hl=>
 cz (ZX (M:=bw Tryz.prog FT [(153,ql)]) bP s fun h=>DA s h hl) rfl rfl rfl h
noncomputable def LG:List (Nat×Spec):=[(192,Dx)]
theorem cPa:Dg (bw Tryz.prog FT LG) where
 ft:=bP
 gO:=fun _ _=>rfl
 Lp:=fun _ _=>rfl
 Dh:=fun s h hl hd=>aaT s h hl hd
noncomputable def DB:Spec:=sK LG 193
theorem aaW:aW Tryz.prog gl 193 DB:=bC (aS aaQ bR)
theorem LH:∀(s:al),s.length<1000000->(bJ 45 s).all bF=true->∃v0,iQ v0 (if preB 45 s then -(aM 0 (bJ 45 s):Int) else (aM 0 (bJ 45 s):Nat))/\∀h,DB [.str s] h=some ⟨v0,h,[]⟩:=fun s hl hd=>by
 obtain⟨v0,h1,h2⟩:=aah cPa s hl hd
 exact⟨v0,h1,dQ h2 rfl⟩
noncomputable def LJ:List (Nat×Spec):=[(153,ql),(193,DB)]
noncomputable def DC:Spec:=sK LJ 135
theorem aaX:aW Tryz.prog gl 135 DC:=bC (aS Dz (aS aaW bR))
theorem LK {s:al}(h:s.all bF=true):preB 45 s=false/\bJ 45 s=s:=by
 have hp:preB 45 s=false:=by
  cases s with
  | nil=>rfl
  | cons c t=>
   rw[List.all_cons,Bool.and_eq_true]at h
   unfold preB
   rw[decide_eq_false_iff_not]
   intro e
   simp at e
   rw[e]at h
   exact absurd h.1 (by decide)
 exact⟨hp,jY hp⟩
theorem aaY:∀(s:al),s.length<1000000->mw s=true->(bI 47 s).1.all bF=true->((bI 47 s).2.getD []).all bF=true->∃v1 v2,iQ v1 (aM 0 (bI 47 s).1:Nat)/\iQ v2 (aM 0 ((bI 47 s).2.getD []):Nat)/\∀h,DC [.str s] h=some ⟨.ao [v1,v2],h,[]⟩:=fun s hl hb h1 h2=>by
 obtain⟨p1,c1⟩:=LK h1
 obtain⟨p2,c2⟩:=LK h2
 obtain⟨v1,k1,q1⟩:=LH (bI 47 s).1 (Nat.lt_of_le_of_lt (sG 47 s) hl) (by rw[c1];exact h1)
 obtain⟨v2,k2,q2⟩:=LH ((bI 47 s).2.getD []) (Nat.lt_of_le_of_lt (Ch 47 s) hl) (by rw[c2];exact h2)
 rw[p1,c1,if_neg (by decide)]at k1
 rw[p2,c2,if_neg (by decide)]at k2
 exact⟨v1,v2,k1,k2,dQ (aaj (M:=bw Tryz.prog FT LJ) bP s hl hb (fun h=>DA s h hl) k1.Lo k2.Lo q1 q2) rfl⟩
theorem DD {h:ae}(l:List Int){n:Nat}{c:Option Nat}:dr h (.vs (au l) n c) (.vs (au l) n c):=.nc (Dn l)
noncomputable def LL:Spec:=sL [] 218
noncomputable def LM:Spec:=sL [] 241
noncomputable def LN:Spec:=sL [] 197
noncomputable def LO:Spec:=sL [] 243
theorem aaZ:aW Tryz.prog gl 218 LL:=jV bR
theorem aba:aW Tryz.prog gl 241 LM:=jV bR
theorem abb:aW Tryz.prog gl 197 LN:=jV bR
theorem abc:aW Tryz.prog gl 243 LO:=jV bR
noncomputable def DE:List (Nat×Spec):=[(218,LL),(197,LN),(241,LM),(243,LO)]
theorem abd:cm Tryz.prog gl (bk DE):=aS aaZ (aS abb (aS aba (aS abc bR)))
theorem cDw:Lx (bw Tryz.prog FT DE) where
 ft:=bP
 gO:=fun _ _=>rfl
 Lw:=fun U V bu i k cu c2 e h T D p hb hV hi hU hK=>by
  obtain⟨q,h1,h2,h3,hr⟩:=aas (M:=bw Tryz.prog FT []) (c1:=none) (c2:=c2) bP hV hi hU hK rfl rfl rfl rfl rfl
  refine⟨q,h1,h2,h3,?_⟩
  have hf:dr h (.sl bu 0 U.length 1 cu) (.vs (au U) U.length none):=by
   refine .sl (m:=au U) hb ?_ rfl (Dn U).2
   have:=kp (f:=iC) (esz:=1) (fun _=>rfl) (l:=U) (i:=0) (n:=U.length) (by omega)
   simpa using this
  exact uu hr rfl rfl rfl (.cons hf (.cons (DD V) (.cons (.atom rfl) .nil)))
 Ly:=fun a b c1 c2 h o1 o2 n1 n2 l1 l2=>uu (aak bP a b o1 o2 n1 n2 l1 l2) rfl rfl rfl (.cons (DD a) (.cons (DD b) .nil))
 Dr:=fun x y a b c1 c2 h hx hy o1 o2 l1 l2 h0=>by
  obtain⟨r,⟨h1,h2,h3⟩,v,hh,⟨v1,f,t,k⟩,hr⟩:=aaq (M:=bw Tryz.prog FT []) (c1:=c1) (c2:=c2) bP (fun _ _=>rfl) a b o1 o2 l1 l2 h0
  exact⟨r,h1,h2,h3,ry (.cons hx (.cons hy .nil)) ⟨v,hh,v1,hr,f,t,k⟩⟩
 Ds:=fun x a c h d hx o l hd=>by
  obtain⟨q,⟨h1,h2,h3⟩,v,hh,⟨v1,f,t,k⟩,hr⟩:=aao (M:=bw Tryz.prog FT []) (c1:=c) bP (fun _ _=>rfl) a o l d hd
  exact⟨q,h1,h2,h3,ry (.cons hx (.cons (.atom rfl) .nil)) ⟨v,hh,v1,hr,f,t,k⟩⟩
noncomputable def DG:Spec:=sK DE 195
theorem abf:aW Tryz.prog gl 195 DG:=bC abd
theorem cCm:LA (bw Tryz.prog FT [(195,DG)]) where
 ft:=bP
 LB:=fun a b o1 o2 n1 n2 l1 l2 hb=>by
  obtain⟨q,r,⟨h1,h2,h3⟩,⟨h4,h5,h6⟩,v,hh,⟨v1,x,y,f,t,k,i1,i2⟩,hr⟩:=aaJ (c1:=none) (c2:=none) cDw a b o1 o2 n1 n2 l1 l2 hb
  exact⟨x,q,y,r,i1,i2,h4,h5,h3,h6,fun h=>ur ⟨v,hh,v1,hr,f,fV (fW a) (fW b),t,k⟩⟩
noncomputable def LP:Spec:=sK [(195,DG)] 155
theorem abh:aW Tryz.prog gl 155 LP:=bC (aS abf bR)
noncomputable def DH:List (Nat×Spec):=[(153,ql),(154,Dw),(135,DC),(155,LP)]
theorem abi:cm Tryz.prog gl (bk DH):=aS Dz (aS aaP (aS aaX (aS abh bR)))
theorem cCh:Dt (bw Tryz.prog FT DH) where
 ft:=bP
 LC:=fun s h hl=>DA s h hl
 Du:=fun s h hl=>aaS s h hl
 LD:=fun s hl hb h1 h2=>aaY s hl hb h1 h2
 LF:=fun a b o1 o2 n1 n2 l1 l2=>by
  obtain⟨g,h1,h2,h3,h4⟩:=aaK cCm a b o1 o2 n1 n2 l1 l2
  exact⟨g,h1,h2,h3,dQ h4 (fV (fW a) (fW b))⟩
noncomputable def DI:Spec:=sK DH 62
theorem abk:aW Tryz.prog gl 62 DI:=bC abi
theorem mz:∀(s:al) h,s.length<1000000->DI [.str s] h=some ⟨.iV (eo s),h,[]⟩:=fun s h hl=>cz (w62 cCh s hl) rfl rfl rfl h
end Go.Ab.Ch1

/-
  Own work: the code of a function: the law MarkField.
-/
namespace Go.Ab.Ch1
set_option maxRecDepth 1000000
def gQ (g i j k u:Nat)(rest:ak):ak:=.seq (.region [⟨.l (u+1),.mv (.p i),none⟩,⟨.l (u+2),.mv (.p j),none⟩,⟨.l (u+3),.call (.c (.fn (.func g) [] [])) [.l (u+1),.l (u+2)],none⟩,⟨.l u,.mv (.l (u+3)),none⟩,⟨.l (u+4),.extract 0 (.l u),none⟩,⟨.l (u+5),.extract 1 (.l u),none⟩,⟨.p k,.mv (.l (u+4)),none⟩,⟨.p (k+1),.mv (.l (u+5)),none⟩]) rest
def ta (g i:Nat)(c:AV)(k u:Nat)(rest:ak):ak:=.seq (.region [⟨.l (u+1),.mv (.p i),none⟩,⟨.l (u+2),.call (.c (.fn (.func g) [] [])) [.l (u+1),.c c],none⟩,⟨.l u,.mv (.l (u+2)),none⟩,⟨.l (u+3),.extract 0 (.l u),none⟩,⟨.l (u+4),.extract 1 (.l u),none⟩,⟨.p k,.mv (.l (u+3)),none⟩,⟨.p (k+1),.mv (.l (u+4)),none⟩]) rest
def DJ (g i k u:Nat)(rest:ak):ak:=.seq (.region [⟨.l (u+1),.mv (.p i),none⟩,⟨.l (u+2),.call (.c (.fn (.func g) [] [])) [.l (u+1)],none⟩,⟨.l u,.mv (.l (u+2)),none⟩,⟨.l (u+3),.extract 0 (.l u),none⟩,⟨.l (u+4),.extract 1 (.l u),none⟩,⟨.p k,.mv (.l (u+3)),none⟩,⟨.p (k+1),.mv (.l (u+4)),none⟩]) rest
def qm:ak:=.seq (.region [zr 51 .lss 43 42]) (.seq (.cond (.l 51) (.skip) (.exit 0)) (.seq (.block 1 (.seq (.region [⟨.l 52,.dw none 1 (.p 41) (.p 43),none⟩,zd 53 1 52,zw 4 53]) (.seq (.region [zm 54 4,zL 55 54,zc 56 .gtr 55 40,zn 57 56,zg (zm 58 4) 57 false,zg (z1 59 62 58) 57 false,zg (zc 60 .neq 59 0) 57 false,zP 61 57 60]) (.cond (.l 61) (.seq (.region [⟨.l 62,.call (kF 18) [],none⟩,zw 3 62]) (.ret)) (.skip))))) (.region [zq 63 .add 43 1,zw 43 63])))
def DK:ak:=.seq (.region [zm 243 40,zc 244 .eql 243 0,zn 245 244,zg (zm 246 39) 245 true,zg (zm 247 0) 245 true,zg (zb 248 .eql 246 247) 245 true,zp 249 245 248,zn 250 249,⟨.l 251,.call (kF 18) [],some ((.l 250),true)⟩,zp 252 250 251,zw 3 252]) (.ret)
def LR:ak:=.seq (.seq (.region [zm 234 1,⟨.l 235,.bin .eql (.l 234) (.c (.str [48])),none⟩]) (.cond (.l 235) (.seq (.region [⟨.l 236,.call (kF 18) [],none⟩,zw 3 236]) (.ret)) (.skip))) (gQ 88 17 1 39 237 DK)
def DL:ak:=.seq (.seq (.region [zm 213 32,zm 214 34,zb 215 .add 213 214,zm 216 36,zb 217 .add 215 216,zm 218 38,zb 219 .add 217 218,zc 220 .neq 219 0,zn 221 220,zg (zm 222 35) 221 false,zg (zc 223 .lss 222 0) 221 false,zP 224 221 223,zn 225 224,zg (zm 226 37) 225 false,zg (zc 227 .geq 226 0) 225 false,zP 228 225 227,zn 229 228,zg (zm 230 31) 229 false,zg (z1 231 92 230) 229 false,zg (zu 232 231) 229 false,zP 233 229 232]) (.cond (.l 233) (.seq (.region [⟨.p 3,.mv (.c (.bool false)),none⟩]) (.ret)) (.skip))) LR
def xE:ak:=
 DJ 79 0 31 192 (gQ 86 0 31 33 197 (ta 89 33 (.str [48]) 35 203 (ta 89 33 (.str [49]) 37 208 DL)))
def DM:ak:=.seq (.seq (.region [zm 141 6,zm 142 8,zb 143 .add 141 142,zm 144 10,zb 145 .add 143 144,zm 146 12,zb 147 .add 145 146,zm 148 14,zb 149 .add 147 148,zm 150 16,zb 151 .add 149 150,zm 152 18,zb 153 .add 151 152,zm 154 20,zb 155 .add 153 154,zm 156 22,zb 157 .add 155 156,zm 158 24,zb 159 .add 157 158,zm 160 26,zb 161 .add 159 160,zm 162 28,zb 163 .add 161 162,zm 164 30,zb 165 .add 163 164,zc 166 .neq 165 0,zn 167 166,zg (zm 168 5) 167 false,zg (zm 169 7) 167 false,zg (zb 170 .neq 168 169) 167 false,zP 171 167 170,zn 172 171,zg (zm 173 11) 172 false,zg (zm 174 13) 172 false,zg (zb 175 .neq 173 174) 172 false,zP 176 172 175,zn 177 176,zg (zm 178 15) 177 false,zg (zm 179 21) 177 false,zg (zb 180 .neq 178 179) 177 false,zP 181 177 180,zn 182 181,zg (zm 183 23) 182 false,zg (zm 184 0) 182 false,zg (zb 185 .neq 183 184) 182 false,zP 186 182 185,zn 187 186,zg (zm 188 25) 187 false,zg (zm 189 29) 187 false,zg (zb 190 .neq 188 189) 187 false,zP 191 187 190]) (.cond (.l 191) (.seq (.region [⟨.p 3,.mv (.c (.bool false)),none⟩]) (.ret)) (.skip))) xE
def xF:ak:=
 gQ 85 0 1 5 64 (gQ 85 1 0 7 70 (gQ 85 1 2 9 76 (gQ 85 5 2 11 82 (gQ 85 0 9 13 88 (gQ 87 0 9 15 94 (gQ 87 0 1 17 100 (gQ 87 2 0 19 106 (gQ 85 17 19 21 112 (gQ 86 5 1 23 118 (gQ 89 0 1 25 124 (gQ 86 0 1 27 130 (ta 89 27 (.str [48]) 29 136 DM))))))))))))
def tc:ak:=.seq (.region [⟨.p 3,.mv (.c (.bool false)),none⟩]) (.seq (.seq (.region [zm 45 0,zm 46 1,zm 47 2,⟨.p 41,.eu 75 3 1 [.str []] [(0,1,(.l 45)),(1,1,(.l 46)),(2,1,(.l 47))],none⟩,⟨.p 42,.len .sl (.p 41),none⟩,zi 43 0]) (.block 0 (.loop qm)))
   xF)
theorem xG:FT 17=some ⟨253,[0,1,2,6,8,9,10,11,12,13,14,15,16,17,18,19,20,21,22,23,24,25,26,27,28,29,30,31,32,33,34,35,36,37,38,39,40,41,42,43,44,48,49,50],[.var (.p 3)],tc⟩:=by kernel_rfl
end Go.Ab.Ch1

/-
  Own work: stadionlaw01.MarkField answers true.
-/
namespace Go.Ab.Ch1
open Go.Ab.bz
variable {M:aO}
theorem qn (u:Nat):(u == u+1)=false/\(u == u+2)=false/\(u == u+3)=false/\(u == u+4)=false/\(u == u+5)=false:=by
 refine⟨?_,?_,?_,?_,?_⟩ <;> rw[beq_eq_false_iff_ne] <;> omega
theorem iy {g i j k u:Nat}{rest:ak}{x y r e:AV}{pe:List AV}{lo:List (Nat×AV)}{hp:ae}{wr:List Nat}{Q:Ex->aq->Prop}(hx:pe[i]? = some x)(hy:pe[j]? = some y)(q:∀h,M.ext g [x,y] h=some ⟨.ao [r,e],h,[]⟩)(hW:∀lo wr,W M rest ⟨⟨(pe.set k r).set (k+1) e,lo,hp,[]⟩,wr⟩ Q):W M (gQ g i j k u rest) ⟨⟨pe,lo,hp,[]⟩,wr⟩ Q:=by
 refine W.seq (W.region (WO.pl hx rfl (WO.pl hy rfl (WO.ay (fi:=[]) (ca:=[]) rfl (?_:St.ck _ _=some [x,y]) (q hp) ?_))))
 . simp[St.ck,St.aa,List.lookup,qn]
 refine WO.pl (v:=.ao [r,e]) ?_ rfl (WO.pl (v:=r) ?_ rfl (WO.pl (v:=e) ?_ rfl (WO.pp (v:=r) ?_ rfl (WO.pp (v:=e) ?_ rfl (WO.nil (ab (hW _ _)))))))
 all_goals simp[aV,St.aa,List.lookup,qn]
theorem DN {g i k u:Nat}{rest:ak}{x y r e:AV}{pe:List AV}{lo:List (Nat×AV)}{hp:ae}{wr:List Nat}{Q:Ex->aq->Prop}(hx:pe[i]? = some x)(q:∀h,M.ext g [x,y] h=some ⟨.ao [r,e],h,[]⟩)(hW:∀lo wr,W M rest ⟨⟨(pe.set k r).set (k+1) e,lo,hp,[]⟩,wr⟩ Q):W M (ta g i y k u rest) ⟨⟨pe,lo,hp,[]⟩,wr⟩ Q:=by
 refine W.seq (W.region (WO.pl hx rfl (WO.ay (fi:=[]) (ca:=[]) rfl (?_:St.ck _ _=some [x,y]) (q hp) ?_)))
 . simp[St.ck,St.aa,List.lookup,qn]
 refine WO.pl (v:=.ao [r,e]) ?_ rfl (WO.pl (v:=r) ?_ rfl (WO.pl (v:=e) ?_ rfl (WO.pp (v:=r) ?_ rfl (WO.pp (v:=e) ?_ rfl (WO.nil (ab (hW _ _)))))))
 all_goals simp[aV,St.aa,List.lookup,qn]
theorem abl {g i k u:Nat}{rest:ak}{x r e:AV}{pe:List AV}{lo:List (Nat×AV)}{hp:ae}{wr:List Nat}{Q:Ex->aq->Prop}(hx:pe[i]? = some x)(q:∀h,M.ext g [x] h=some ⟨.ao [r,e],h,[]⟩)(hW:∀lo wr,W M rest ⟨⟨(pe.set k r).set (k+1) e,lo,hp,[]⟩,wr⟩ Q):W M (DJ g i k u rest) ⟨⟨pe,lo,hp,[]⟩,wr⟩ Q:=by
 refine W.seq (W.region (WO.pl hx rfl (WO.ay (fi:=[]) (ca:=[]) rfl (?_:St.ck _ _=some [x]) (q hp) ?_)))
 . simp[St.ck,St.aa,List.lookup,qn]
 refine WO.pl (v:=.ao [r,e]) ?_ rfl (WO.pl (v:=r) ?_ rfl (WO.pl (v:=e) ?_ rfl (WO.pp (v:=r) ?_ rfl (WO.pp (v:=e) ?_ rfl (WO.nil (ab (hW _ _)))))))
 all_goals simp[aV,St.aa,List.lookup,qn]
attribute [local irreducible] gQ ta DJ
def qp (res:List eK)(e:Ex)(s:aq):Prop:=(e = .normal\/e = .ret)/\s.s.bU=[]/\∃vs,dm s.s res=some vs/\bg vs = .bool true/\(if (AV.bool true).top<=0 then [] else s.s.hp)=[]
theorem mA {res:List eK}{e:Ex}{s:aq}{vs:List AV}(he:e = .normal\/e = .ret)(hd:s.s.bU=[])(hv:dm s.s res=some vs)(ht:bg vs = .bool true):qp res e s:=⟨he,hd,vs,hv,ht,rfl⟩
structure td (M:aO)(a b c X Y Z V U1 U2 D F G:al)(s s2 s3:Int):Prop where
 fX:∀h,M.ext 18 [] h=some ⟨.bool true,h,[]⟩
 q1:∀h,M.ext 85 [.str a,.str b] h=some ⟨.ao [.str X,.iV 0],h,[]⟩
 q2:∀h,M.ext 85 [.str b,.str a] h=some ⟨.ao [.str X,.iV 0],h,[]⟩
 q3:∀h,M.ext 85 [.str b,.str c] h=some ⟨.ao [.str Y,.iV 0],h,[]⟩
 q4:∀h,M.ext 85 [.str X,.str c] h=some ⟨.ao [.str Z,.iV 0],h,[]⟩
 q5:∀h,M.ext 85 [.str a,.str Y] h=some ⟨.ao [.str Z,.iV 0],h,[]⟩
 q6:∀h,M.ext 87 [.str a,.str Y] h=some ⟨.ao [.str V,.iV 0],h,[]⟩
 q7:∀h,M.ext 87 [.str a,.str b] h=some ⟨.ao [.str U1,.iV 0],h,[]⟩
 q8:∀h,M.ext 87 [.str c,.str a] h=some ⟨.ao [.str U2,.iV 0],h,[]⟩
 q9:∀h,M.ext 85 [.str U1,.str U2] h=some ⟨.ao [.str V,.iV 0],h,[]⟩
 qA:∀h,M.ext 86 [.str X,.str b] h=some ⟨.ao [.str a,.iV 0],h,[]⟩
 qB:∀h,M.ext 89 [.str a,.str b] h=some ⟨.ao [.iV s,.iV 0],h,[]⟩
 qC:∀h,M.ext 86 [.str a,.str b] h=some ⟨.ao [.str D,.iV 0],h,[]⟩
 qD:∀h,M.ext 89 [.str D,.str [48]] h=some ⟨.ao [.iV s,.iV 0],h,[]⟩
 qE:∀h,M.ext 79 [.str a] h=some ⟨.ao [.str F,.iV 0],h,[]⟩
 qF:∀h,M.ext 86 [.str a,.str F] h=some ⟨.ao [.str G,.iV 0],h,[]⟩
 qG:∀h,M.ext 89 [.str G,.str [48]] h=some ⟨.ao [.iV s2,.iV 0],h,[]⟩
 qH:∀h,M.ext 89 [.str G,.str [49]] h=some ⟨.ao [.iV s3,.iV 0],h,[]⟩
 qI:∀h,M.ext 92 [.str F] h=some ⟨.bool true,h,[]⟩
 h2:0<=s2
 h3:s3<0
 qJ:b≠[48]->∀h,M.ext 88 [.str U1,.str b] h=some ⟨.ao [.str a,.iV 0],h,[]⟩
theorem abm {a b c:al}(fX:∀h,M.ext 18 [] h=some ⟨.bool true,h,[]⟩)(a4 a5 a6 a7 a8 a9 a10 a11 a12 a13 a14 a15 a16 a17 a18 a19 a20 a21 a22 a23 a24 a25 a26 a27 a28 a29 a30 a31 a32 a33 a34 a35 a36 a37 a38 a41 a42 a43:AV)(lo:List (Nat×AV))(hp:ae)(wr:List Nat):W M DK ⟨⟨[.str a,.str b,.str c,.bool false,a4,a5,a6,a7,a8,a9,a10,a11,a12,a13,a14,a15,a16,a17,a18,a19,a20,a21,a22,a23,a24,a25,a26,a27,a28,a29,a30,a31,a32,a33,a34,a35,a36,a37,a38,.str a,.iV 0,a41,a42,a43],lo,hp,[]⟩,wr⟩ (qp [.var (.p 3)]):=by
 unfold DK
 repeat' first|apply W.seq|apply ab|apply W.region|apply WO.nil|apply W.ret|(apply WO.gT;rfl)|(apply WO.eql;rfl;rfl)|(apply WO.bn;rfl;rfl)|(apply WO.ay;rfl;rfl;first|exact fX _)|(apply WO.dU;rfl;rfl;all_goals first|(intro h;exact absurd h (by decide))|(intro h;exact absurd rfl h)|(intro h;contradiction)|intro _)|(apply WO.pl;rfl;rfl)|(apply WO.pp;rfl;rfl)|(intro _;omega)|intro _
 all_goals try omega
 all_goals exact mA (.inr rfl) rfl rfl rfl
theorem abn {a b c X Y Z V U1 U2 D F G:al}{s s2 s3:Int}(C:td M a b c X Y Z V U1 U2 D F G s s2 s3)(a4 a5 a6 a7 a8 a9 a10 a11 a12 a13 a14 a15 a16 a18 a19 a20 a21 a22 a23 a24 a25 a26 a27 a28 a29 a30 a39 a40 a41 a42 a43:AV)(lo:List (Nat×AV))(hp:ae)(wr:List Nat):W M DL ⟨⟨[.str a,.str b,.str c,.bool false,a4,a5,a6,a7,a8,a9,a10,a11,a12,a13,a14,a15,a16,.str U1,a18,a19,a20,a21,a22,a23,a24,a25,a26,a27,a28,a29,a30,.str F,.iV 0,.str G,.iV 0,.iV s2,.iV 0,.iV s3,.iV 0,a39,a40,a41,a42,a43],lo,hp,[]⟩,wr⟩ (qp [.var (.p 3)]):=by
 have h2:=C.h2
 have h3:=C.h3
 unfold DL LR
 by_cases h48:b=[48]
 . repeat' first|(apply WO.dU;rfl;rfl;all_goals first|(intro h;exact absurd h48 h)|intro _)|apply W.seq|apply ab|apply W.region|apply WO.nil|apply W.ret|apply W.skip|apply ba|(apply W.ax;rfl)|(apply W.aw;rfl)|(apply WO.gF;rfl)|(apply WO.lss;rfl;rfl)|(apply WO.geq;rfl;rfl)|(apply WO.neq;rfl;rfl)|(apply WO.bx;rfl;rfl)|(apply WO.add;rfl;rfl;omega)|(apply WO.ay;rfl;rfl;first|exact C.qI _|exact C.fX _)|(apply WO.pl;rfl;rfl)|(apply WO.pp;rfl;rfl)|(intro _;omega)|intro _
   all_goals try omega
   all_goals exact mA (.inr rfl) rfl rfl rfl
 . repeat' first|(apply WO.dU;rfl;rfl;all_goals first|(intro h;exact absurd h h48)|intro _)|apply W.seq|apply ab|apply W.region|apply WO.nil|apply W.skip|(apply W.aw;rfl)|(apply WO.gF;rfl)|(apply WO.lss;rfl;rfl)|(apply WO.geq;rfl;rfl)|(apply WO.neq;rfl;rfl)|(apply WO.bx;rfl;rfl)|(apply WO.add;rfl;rfl;omega)|(apply WO.ay;rfl;rfl;first|exact C.qI _)|(apply WO.pl;rfl;rfl)|(intro _;omega)|intro _
   all_goals try omega
   all_goals exact iy rfl rfl (C.qJ h48) fun _ _=>abm C.fX _ _ _ _ _ _ _ _ _ _ _ _ _ _ _ _ _ _ _ _ _ _ _ _ _ _ _ _ _ _ _ _ _ _ _ _ _ _  _ _ _
theorem abo {a b c X Y Z V U1 U2 D F G:al}{s s2 s3:Int}(C:td M a b c X Y Z V U1 U2 D F G s s2 s3)(a4 a31 a32 a33 a34 a35 a36 a37 a38 a39 a40 a41 a42 a43:AV)(lo:List (Nat×AV))(hp:ae)(wr:List Nat):W M DM ⟨⟨[.str a,.str b,.str c,.bool false,a4,.str X,.iV 0,.str X,.iV 0,.str Y,.iV 0,.str Z,.iV 0,.str Z,.iV 0,.str V,.iV 0,.str U1,.iV 0,.str U2,.iV 0,.str V,.iV 0,.str a,.iV 0,.iV s,.iV 0,.str D,.iV 0,.iV s,.iV 0,a31,a32,a33,a34,a35,a36,a37,a38,a39,a40,a41,a42,a43],lo,hp,[]⟩,wr⟩ (qp [.var (.p 3)]):=by
 have hc:∀lo wr,W M xE ⟨⟨[.str a,.str b,.str c,.bool false,a4,.str X,.iV 0,.str X,.iV 0,.str Y,.iV 0,.str Z,.iV 0,.str Z,.iV 0,.str V,.iV 0,.str U1,.iV 0,.str U2,.iV 0,.str V,.iV 0,.str a,.iV 0,.iV s,.iV 0,.str D,.iV 0,.iV s,.iV 0,a31,a32,a33,a34,a35,a36,a37,a38,a39,a40,a41,a42,a43],lo,hp,[]⟩,wr⟩ (qp [.var (.p 3)]):=fun lo wr=>by
  unfold xE
  refine abl rfl C.qE fun _ _=>?_
  simp only[List.set_cons_succ,List.set_cons_zero]
  refine iy rfl rfl C.qF fun _ _=>?_
  simp only[List.set_cons_succ,List.set_cons_zero]
  refine DN rfl C.qG fun _ _=>?_
  simp only[List.set_cons_succ,List.set_cons_zero]
  refine DN rfl C.qH fun _ _=>?_
  simp only[List.set_cons_succ,List.set_cons_zero]
  exact abn C _ _ _ _ _ _ _ _ _ _ _ _ _ _ _ _ _ _ _ _ _ _ _ _ _ _ _ _ _ _ _  _ _ _
 unfold DM
 generalize xE=T at hc ⊢
 repeat' first|apply W.seq|apply ab|apply W.region|apply WO.nil|apply W.skip|(apply W.aw;rfl)|(apply WO.gF;rfl)|(apply WO.neq;rfl;rfl)|(apply WO.bx;rfl;rfl)|(apply WO.add;rfl;rfl;omega)|(apply WO.jL;rfl;rfl;all_goals first|(intro h;exact absurd h (by decide))|(intro h;exact absurd rfl h)|(intro h;contradiction)|intro _)|(apply WO.pl;rfl;rfl)|(intro _;omega)|intro _
 all_goals try omega
 all_goals exact hc _ _
theorem abp {a b c X Y Z V U1 U2 D F G:al}{s s2 s3:Int}(C:td M a b c X Y Z V U1 U2 D F G s s2 s3)(a4 a5 a6 a7 a8 a9 a10 a11 a12 a13 a14 a15 a16 a17 a18 a19 a20 a21 a22 a23 a24 a25 a26 a27 a28 a29 a30 a31 a32 a33 a34 a35 a36 a37 a38 a39 a40 a41 a42 a43:AV)(lo:List (Nat×AV))(hp:ae)(wr:List Nat):W M xF ⟨⟨[.str a,.str b,.str c,.bool false,a4,a5,a6,a7,a8,a9,a10,a11,a12,a13,a14,a15,a16,a17,a18,a19,a20,a21,a22,a23,a24,a25,a26,a27,a28,a29,a30,a31,a32,a33,a34,a35,a36,a37,a38,a39,a40,a41,a42,a43],lo,hp,[]⟩,wr⟩ (qp [.var (.p 3)]):=by
 unfold xF
 refine iy rfl rfl C.q1 fun _ _=>?_
 simp only[List.set_cons_succ,List.set_cons_zero]
 refine iy rfl rfl C.q2 fun _ _=>?_
 simp only[List.set_cons_succ,List.set_cons_zero]
 refine iy rfl rfl C.q3 fun _ _=>?_
 simp only[List.set_cons_succ,List.set_cons_zero]
 refine iy rfl rfl C.q4 fun _ _=>?_
 simp only[List.set_cons_succ,List.set_cons_zero]
 refine iy rfl rfl C.q5 fun _ _=>?_
 simp only[List.set_cons_succ,List.set_cons_zero]
 refine iy rfl rfl C.q6 fun _ _=>?_
 simp only[List.set_cons_succ,List.set_cons_zero]
 refine iy rfl rfl C.q7 fun _ _=>?_
 simp only[List.set_cons_succ,List.set_cons_zero]
 refine iy rfl rfl C.q8 fun _ _=>?_
 simp only[List.set_cons_succ,List.set_cons_zero]
 refine iy rfl rfl C.q9 fun _ _=>?_
 simp only[List.set_cons_succ,List.set_cons_zero]
 refine iy rfl rfl C.qA fun _ _=>?_
 simp only[List.set_cons_succ,List.set_cons_zero]
 refine iy rfl rfl C.qB fun _ _=>?_
 simp only[List.set_cons_succ,List.set_cons_zero]
 refine iy rfl rfl C.qC fun _ _=>?_
 simp only[List.set_cons_succ,List.set_cons_zero]
 refine DN rfl C.qD fun _ _=>?_
 simp only[List.set_cons_succ,List.set_cons_zero]
 exact abo C _ _ _ _ _ _ _ _ _ _ _ _ _ _  _ _ _
attribute [local irreducible] xF
theorem abq (hft:M.FT=FT){a b c X Y Z V U1 U2 D F G:al}{s s2 s3:Int}(C:td M a b c X Y Z V U1 U2 D F G s s2 s3)(ha:a.length<=40)(hb:b.length<=40)(hc:c.length<=40)(ka:∀h,M.ext 62 [.str a] h=some ⟨.iV 0,h,[]⟩)(kb:∀h,M.ext 62 [.str b] h=some ⟨.iV 0,h,[]⟩)(kc:∀h,M.ext 62 [.str c] h=some ⟨.iV 0,h,[]⟩):aZ M 17 [.str a,.str b,.str c] [] ⟨.bool true,[],[]⟩:=by
 refine bT (by rw[hft];exact xG) (by simp) ?_
 unfold tc
 simp only[enter]
 repeat' first|apply W.seq|apply ab|apply W.region|apply WO.nil|apply W.block|(apply WO.aX;rfl;rfl;rfl)|(apply WO.pl;rfl;rfl)|(apply WO.pp;rfl;rfl)
 refine W.loop ?_
 unfold qm
 repeat' first|apply W.seq|apply ab|apply W.region|apply WO.nil|apply W.block|apply W.skip|apply bK|(apply W.ax;rfl)|(apply W.aw;rfl)|(apply WO.gF;rfl)|(apply WO.lss;rfl;rfl)|(apply WO.gtr;rfl;rfl)|(apply WO.neq;rfl;rfl)|(apply WO.bx;rfl;rfl)|(apply WO.add;rfl;rfl;omega)|(apply WO.ay;rfl;rfl;first|exact ka _)|(apply WO.bY;rfl;rfl;omega)|(apply WO.aT;rfl;rfl;rfl)|(apply WO.pl;rfl;rfl)|(apply WO.pp;rfl;rfl)|(intro _;omega)|intro _
 all_goals try omega
 refine ef (W.loop ?_)
 repeat' first|apply W.seq|apply ab|apply W.region|apply WO.nil|apply W.block|apply W.skip|apply bK|(apply W.ax;rfl)|(apply W.aw;rfl)|(apply WO.gF;rfl)|(apply WO.lss;rfl;rfl)|(apply WO.gtr;rfl;rfl)|(apply WO.neq;rfl;rfl)|(apply WO.bx;rfl;rfl)|(apply WO.add;rfl;rfl;omega)|(apply WO.ay;rfl;rfl;first|exact kb _)|(apply WO.bY;rfl;rfl;omega)|(apply WO.aT;rfl;rfl;rfl)|(apply WO.pl;rfl;rfl)|(apply WO.pp;rfl;rfl)|(intro _;omega)|intro _
 all_goals try omega
 refine ef (W.loop ?_)
 repeat' first|apply W.seq|apply ab|apply W.region|apply WO.nil|apply W.block|apply W.skip|apply bK|(apply W.ax;rfl)|(apply W.aw;rfl)|(apply WO.gF;rfl)|(apply WO.lss;rfl;rfl)|(apply WO.gtr;rfl;rfl)|(apply WO.neq;rfl;rfl)|(apply WO.bx;rfl;rfl)|(apply WO.add;rfl;rfl;omega)|(apply WO.ay;rfl;rfl;first|exact kc _)|(apply WO.bY;rfl;rfl;omega)|(apply WO.aT;rfl;rfl;rfl)|(apply WO.pl;rfl;rfl)|(apply WO.pp;rfl;rfl)|(intro _;omega)|intro _
 all_goals try omega
 refine ef (W.loop ?_)
 repeat' first|apply W.seq|apply ab|apply W.region|apply WO.nil|apply W.exit|apply cj|apply cg|apply dK|(apply W.aw;rfl)|(apply WO.lss;rfl;rfl)|(intro _;omega)|intro _
 all_goals try omega
 all_goals exact abp C _ _ _ _ _ _ _ _ _ _ _ _ _ _ _ _ _ _ _ _ _ _ _ _ _ _ _ _ _ _ _ _ _ _ _ _ _ _ _ _ _ _ _
theorem abr (hft:M.FT=FT)(fX:∀h,M.ext 18 [] h=some ⟨.bool true,h,[]⟩){a b c:al}{e:Int}(ka:40<a.length\/a.length<=40/\e≠0/\∀h,M.ext 62 [.str a] h=some ⟨.iV e,h,[]⟩):aZ M 17 [.str a,.str b,.str c] [] ⟨.bool true,[],[]⟩:=by
 refine bT (by rw[hft];exact xG) (by simp) ?_
 unfold tc
 simp only[enter]
 rcases ka with ka|⟨ka,he,qa⟩
 . repeat' first|apply W.seq|apply ab|apply W.region|apply WO.nil|apply W.block|(apply WO.aX;rfl;rfl;rfl)|(apply WO.pl;rfl;rfl)|(apply WO.pp;rfl;rfl)
   refine W.loop ?_
   unfold qm
   repeat' first|apply W.seq|apply ab|apply W.region|apply WO.nil|apply W.block|apply W.ret|apply W.skip|apply ba|apply cN|apply gW|(apply W.ax;rfl)|(apply WO.sF;rfl)|(apply WO.lss;rfl;rfl)|(apply WO.gtr;rfl;rfl)|(apply WO.bn;rfl;rfl)|(apply WO.ay;rfl;rfl;first|exact fX _)|(apply WO.bY;rfl;rfl;omega)|(apply WO.aT;rfl;rfl;rfl)|(apply WO.pl;rfl;rfl)|(apply WO.pp;rfl;rfl)|(intro _;omega)|intro _
   all_goals try omega
   all_goals exact mA (.inr rfl) rfl rfl rfl
 . repeat' first|apply W.seq|apply ab|apply W.region|apply WO.nil|apply W.block|(apply WO.aX;rfl;rfl;rfl)|(apply WO.pl;rfl;rfl)|(apply WO.pp;rfl;rfl)
   refine W.loop ?_
   unfold qm
   repeat' first|apply W.seq|apply ab|apply W.region|apply WO.nil|apply W.block|apply W.ret|apply W.skip|apply ba|apply cN|apply gW|(apply W.ax;rfl)|(apply WO.gF;rfl)|(apply WO.lss;rfl;rfl)|(apply WO.gtr;rfl;rfl)|(apply WO.neq;rfl;rfl)|(apply WO.bx;rfl;rfl)|(apply WO.ay;rfl;rfl;first|exact qa _|exact fX _)|(apply WO.bY;rfl;rfl;omega)|(apply WO.aT;rfl;rfl;rfl)|(apply WO.pl;rfl;rfl)|(apply WO.pp;rfl;rfl)|(intro _;omega)|intro _
   all_goals try omega
   all_goals exact mA (.inr rfl) rfl rfl rfl
theorem abt (hft:M.FT=FT)(fX:∀h,M.ext 18 [] h=some ⟨.bool true,h,[]⟩){a b c:al}{e:Int}(ha:a.length<=40)(ka:∀h,M.ext 62 [.str a] h=some ⟨.iV 0,h,[]⟩)(kb:40<b.length\/b.length<=40/\e≠0/\∀h,M.ext 62 [.str b] h=some ⟨.iV e,h,[]⟩):aZ M 17 [.str a,.str b,.str c] [] ⟨.bool true,[],[]⟩:=by
 refine bT (by rw[hft];exact xG) (by simp) ?_
 unfold tc
 simp only[enter]
 repeat' first|apply W.seq|apply ab|apply W.region|apply WO.nil|apply W.block|(apply WO.aX;rfl;rfl;rfl)|(apply WO.pl;rfl;rfl)|(apply WO.pp;rfl;rfl)
 refine W.loop ?_
 unfold qm
 repeat' first|apply W.seq|apply ab|apply W.region|apply WO.nil|apply W.block|apply W.skip|apply bK|(apply W.ax;rfl)|(apply W.aw;rfl)|(apply WO.gF;rfl)|(apply WO.lss;rfl;rfl)|(apply WO.gtr;rfl;rfl)|(apply WO.neq;rfl;rfl)|(apply WO.bx;rfl;rfl)|(apply WO.add;rfl;rfl;omega)|(apply WO.ay;rfl;rfl;first|exact ka _)|(apply WO.bY;rfl;rfl;omega)|(apply WO.aT;rfl;rfl;rfl)|(apply WO.pl;rfl;rfl)|(apply WO.pp;rfl;rfl)|(intro _;omega)|intro _
 all_goals try omega
 refine ef (W.loop ?_)
 rcases kb with kb|⟨kb,he,qb⟩
 . repeat' first|apply W.seq|apply ab|apply W.region|apply WO.nil|apply W.block|apply W.ret|apply W.skip|apply ba|apply cN|apply gW|(apply W.ax;rfl)|(apply WO.sF;rfl)|(apply WO.lss;rfl;rfl)|(apply WO.gtr;rfl;rfl)|(apply WO.bn;rfl;rfl)|(apply WO.ay;rfl;rfl;first|exact fX _)|(apply WO.bY;rfl;rfl;omega)|(apply WO.aT;rfl;rfl;rfl)|(apply WO.pl;rfl;rfl)|(apply WO.pp;rfl;rfl)|(intro _;omega)|intro _
   all_goals try omega
   all_goals exact mA (.inr rfl) rfl rfl rfl
 . repeat' first|apply W.seq|apply ab|apply W.region|apply WO.nil|apply W.block|apply W.ret|apply W.skip|apply ba|apply cN|apply gW|(apply W.ax;rfl)|(apply WO.gF;rfl)|(apply WO.lss;rfl;rfl)|(apply WO.gtr;rfl;rfl)|(apply WO.neq;rfl;rfl)|(apply WO.bx;rfl;rfl)|(apply WO.ay;rfl;rfl;first|exact qb _|exact fX _)|(apply WO.bY;rfl;rfl;omega)|(apply WO.aT;rfl;rfl;rfl)|(apply WO.pl;rfl;rfl)|(apply WO.pp;rfl;rfl)|(intro _;omega)|intro _
   all_goals try omega
   all_goals exact mA (.inr rfl) rfl rfl rfl
theorem abu (hft:M.FT=FT)(fX:∀h,M.ext 18 [] h=some ⟨.bool true,h,[]⟩){a b c:al}{e:Int}(ha:a.length<=40)(ka:∀h,M.ext 62 [.str a] h=some ⟨.iV 0,h,[]⟩)(hb:b.length<=40)(kb:∀h,M.ext 62 [.str b] h=some ⟨.iV 0,h,[]⟩)(kc:40<c.length\/c.length<=40/\e≠0/\∀h,M.ext 62 [.str c] h=some ⟨.iV e,h,[]⟩):aZ M 17 [.str a,.str b,.str c] [] ⟨.bool true,[],[]⟩:=by
 refine bT (by rw[hft];exact xG) (by simp) ?_
 unfold tc
 simp only[enter]
 repeat' first|apply W.seq|apply ab|apply W.region|apply WO.nil|apply W.block|(apply WO.aX;rfl;rfl;rfl)|(apply WO.pl;rfl;rfl)|(apply WO.pp;rfl;rfl)
 refine W.loop ?_
 unfold qm
 repeat' first|apply W.seq|apply ab|apply W.region|apply WO.nil|apply W.block|apply W.skip|apply bK|(apply W.ax;rfl)|(apply W.aw;rfl)|(apply WO.gF;rfl)|(apply WO.lss;rfl;rfl)|(apply WO.gtr;rfl;rfl)|(apply WO.neq;rfl;rfl)|(apply WO.bx;rfl;rfl)|(apply WO.add;rfl;rfl;omega)|(apply WO.ay;rfl;rfl;first|exact ka _)|(apply WO.bY;rfl;rfl;omega)|(apply WO.aT;rfl;rfl;rfl)|(apply WO.pl;rfl;rfl)|(apply WO.pp;rfl;rfl)|(intro _;omega)|intro _
 all_goals try omega
 refine ef (W.loop ?_)
 repeat' first|apply W.seq|apply ab|apply W.region|apply WO.nil|apply W.block|apply W.skip|apply bK|(apply W.ax;rfl)|(apply W.aw;rfl)|(apply WO.gF;rfl)|(apply WO.lss;rfl;rfl)|(apply WO.gtr;rfl;rfl)|(apply WO.neq;rfl;rfl)|(apply WO.bx;rfl;rfl)|(apply WO.add;rfl;rfl;omega)|(apply WO.ay;rfl;rfl;first|exact kb _)|(apply WO.bY;rfl;rfl;omega)|(apply WO.aT;rfl;rfl;rfl)|(apply WO.pl;rfl;rfl)|(apply WO.pp;rfl;rfl)|(intro _;omega)|intro _
 all_goals try omega
 refine ef (W.loop ?_)
 rcases kc with kc|⟨kc,he,qc⟩
 . repeat' first|apply W.seq|apply ab|apply W.region|apply WO.nil|apply W.block|apply W.ret|apply W.skip|apply ba|apply cN|apply gW|(apply W.ax;rfl)|(apply WO.sF;rfl)|(apply WO.lss;rfl;rfl)|(apply WO.gtr;rfl;rfl)|(apply WO.bn;rfl;rfl)|(apply WO.ay;rfl;rfl;first|exact fX _)|(apply WO.bY;rfl;rfl;omega)|(apply WO.aT;rfl;rfl;rfl)|(apply WO.pl;rfl;rfl)|(apply WO.pp;rfl;rfl)|(intro _;omega)|intro _
   all_goals try omega
   all_goals exact mA (.inr rfl) rfl rfl rfl
 . repeat' first|apply W.seq|apply ab|apply W.region|apply WO.nil|apply W.block|apply W.ret|apply W.skip|apply ba|apply cN|apply gW|(apply W.ax;rfl)|(apply WO.gF;rfl)|(apply WO.lss;rfl;rfl)|(apply WO.gtr;rfl;rfl)|(apply WO.neq;rfl;rfl)|(apply WO.bx;rfl;rfl)|(apply WO.ay;rfl;rfl;first|exact qc _|exact fX _)|(apply WO.bY;rfl;rfl;omega)|(apply WO.aT;rfl;rfl;rfl)|(apply WO.pl;rfl;rfl)|(apply WO.pp;rfl;rfl)|(intro _;omega)|intro _
   all_goals try omega
   all_goals exact mA (.inr rfl) rfl rfl rfl
structure DO (M:aO):Prop where
 ft:M.FT=FT
 fX:∀h,M.ext 18 [] h=some ⟨.bool true,h,[]⟩
 DP:∀s h,s.length<=40->M.ext 62 [.str s] h=some ⟨.iV (eo s),h,[]⟩
 nY:∀p q h,Dq 200 p->Dq 200 q->M.ext 85 [.str (aY p),.str (aY q)] h=some ⟨.ao [.str (aY (p+q)),.iV 0],h,[]⟩
 xH:∀p q h,Dq 200 p->Dq 200 q->M.ext 86 [.str (aY p),.str (aY q)] h=some ⟨.ao [.str (aY (p-q)),.iV 0],h,[]⟩
 xI:∀p q h,Dq 200 p->Dq 200 q->M.ext 87 [.str (aY p),.str (aY q)] h=some ⟨.ao [.str (aY (p*q)),.iV 0],h,[]⟩
 LS:∀p q h,Dq 200 p->Dq 200 q->q≠0->M.ext 88 [.str (aY p),.str (aY q)] h=some ⟨.ao [.str (aY (p*q⁻¹)),.iV 0],h,[]⟩
 tf:∀p q h,Dq 200 p->Dq 200 q->M.ext 89 [.str (aY p),.str (aY q)] h=some ⟨.ao [.iV (iO p q),.iV 0],h,[]⟩
 LU:∀p h,Dq 200 p->M.ext 79 [.str (aY p)] h=some ⟨.ao [.str (aY (iP p)),.iV 0],h,[]⟩
 LV:∀p h,Dq 200 p->p.den=1->M.ext 92 [.str (aY p)] h=some ⟨.bool true,h,[]⟩
theorem abv (C:DO M){p q r:Rat}(hp:Dq 40 p)(hq:Dq 40 q)(hr:Dq 40 r):td M (aY p) (aY q) (aY r) (aY (p+q)) (aY (q+r)) (aY (p+q+r)) (aY (p*(q+r))) (aY (p*q)) (aY (r*p)) (aY (p-q)) (aY (iP p)) (aY (p-iP p)) (iO p q) (iO (p-iP p) 0) (iO (p-iP p) 1):=by
 have m:∀{k:Nat} {x:Rat},Dq k x->k<=200->Dq 200 x:=fun h hk=>h.mono hk
 have p2:=m hp (by decide)
 have q2:=m hq (by decide)
 have r2:=m hr (by decide)
 have hX:=m (hp.add hq) (by decide)
 have hY:=m (hq.add hr) (by decide)
 have hU1:=m (hp.mul hq) (by decide)
 have hU2:=m (hr.mul hp) (by decide)
 have hD:=m (hp.sub hq) (by decide)
 have hF:=m hp.floor (by decide)
 have hG:=m (hp.sub hp.floor) (by decide)
 have z:=Dq.zero (k:=200) (by decide)
 have o:=Dq.one (k:=200) (by decide)
 refine⟨C.fX,fun h=>C.nY p q h p2 q2,fun h=>?_,fun h=>C.nY q r h q2 r2,fun h=>C.nY _ _ h hX r2,fun h=>?_,fun h=>C.xI _ _ h p2 hY,fun h=>C.xI _ _ h p2 q2,fun h=>C.xI _ _ h r2 p2,fun h=>?_,fun h=>?_,fun h=>C.tf _ _ h p2 q2,fun h=>C.xH _ _ h p2 q2,fun h=>?_,fun h=>C.LU _ h p2,fun h=>C.xH _ _ h p2 hF,fun h=>?_,fun h=>?_,fun h=>C.LV _ h hF (sJ p).2,XL p,XM p,fun hb h=>?_⟩
 . rw[C.nY _ _ h q2 p2,Rat.add_comm]
 . rw[C.nY _ _ h p2 hY,Rat.add_assoc]
 . rw[C.nY _ _ h hU1 hU2,Rat.mul_add,Rat.mul_comm r p]
 . rw[C.xH _ _ h hX q2,Rat.sub_eq_add_neg,Rat.add_assoc,Rat.add_neg_cancel,Rat.add_zero]
 . have:=C.tf _ _ h hD z
   rw[Cn,XJ]at this
   exact this
 . have:=C.tf _ _ h hG z
   rw[Cn]at this
   exact this
 . have:=C.tf _ _ h hG o
   rw[XP]at this
   exact this
 . have h0:q≠0:=fun e=>hb (by rw[e];exact Cn)
   rw[C.LS _ _ h hU1 q2 h0,Rat.mul_assoc,Rat.mul_inv_cancel _ h0,Rat.mul_one]
theorem w17 (C:DO M)(a b c:al):aZ M 17 [.str a,.str b,.str c] [] ⟨.bool true,[],[]⟩:=by
 have key:∀s:al,(s.length<=40/\eo s=0)\/(40<s.length\/s.length<=40/\eo s≠0/\∀h,M.ext 62 [.str s] h=some ⟨.iV (eo s),h,[]⟩):=fun s=>by
  by_cases h1:s.length<=40
  . by_cases h2:eo s=0
    . exact .inl ⟨h1,h2⟩
    . exact .inr (.inr ⟨h1,h2,fun h=>C.DP s h h1⟩)
  . exact .inr (.inl (by omega))
 have mz:∀s:al,s.length<=40->eo s=0->∀h,M.ext 62 [.str s] h=some ⟨.iV 0,h,[]⟩:=fun s h1 h2 h=>by
  rw[C.DP s h h1,h2]
 rcases key a with ⟨a1,a2⟩|ha
 . rcases key b with ⟨b1,b2⟩|hb
   . rcases key c with ⟨c1,c2⟩|hc
     . obtain⟨p,rfl,hp⟩:=Cm a2 a1
       obtain⟨q,rfl,hq⟩:=Cm b2 b1
       obtain⟨r,rfl,hr⟩:=Cm c2 c1
       exact abq C.ft (abv C hp hq hr) a1 b1 c1 (mz _ a1 a2) (mz _ b1 b2) (mz _ c1 c2)
     . exact abu C.ft C.fX a1 (mz _ a1 a2) b1 (mz _ b1 b2) hc
   . exact abt C.ft C.fX a1 (mz _ a1 a2) hb
 . exact abr C.ft C.fX ha
end Go.Ab.Ch1

/-
  Own work: the contracts of MarkField as a table.
-/
namespace Go.Ab.Ch1
open Go.Proofs Go.Ab.bz
noncomputable def DQ:List (Nat×Spec):=[(18,Ao),(62,DI),(85,CK),(86,CL),(87,CM),(88,CO),(89,CV),(79,CX),(92,Dy)]
theorem abx:cm Tryz.prog gl (bk DQ):=aS Qn (aS abk (aS Zl (aS Zm (aS Zn (aS Zt (aS Zx (aS ZA (aS aaR bR))))))))
theorem aby {p:Rat}(h:p.den=1):dg (aY p)=(aY p).length:=by
 have hn:=Cb (pS (an p.num).toNat) (c:=47) (by decide)
 have e:aY p=cK p.num:=if_pos h
 rw[e]
 unfold dg
 by_cases hz:p.num<0
 . have h2:(47:UInt8)∉(45::bh (an p.num).toNat:al):=fun hm=>by
    rcases List.mem_cons.1 hm with hm|hm
    . exact absurd hm (by decide)
    . exact hn hm
   rw[mi hz,sD h2]
 . rw[jX hz,sD hn]
theorem c17:DO (bw Tryz.prog FT DQ) where
 ft:=bP
 fX:=fun h=>Qo h
 DP:=fun s h hl=>mz s h (by omega)
 nY:=fun p q h hp hq=>Zo p q h hp hq
 xH:=fun p q h hp hq=>Zp p q h hp hq
 xI:=fun p q h hp hq=>Zq p q h hp hq
 LS:=fun p q h hp hq h0=>Zu p q h hp hq h0
 tf:=fun p q h hp hq=>Zy p q h hp hq
 LU:=fun p h hp=>ZB p h hp
 LV:=fun p h hp hd=>by
  have l1:=kO (hp.lq (N:=201) (by decide) (by decide))
  have:=k92 (aY p) h (by omega)
  rw[decide_eq_true]at this
  . exact this
  . exact aby hd
end Go.Ab.Ch1
