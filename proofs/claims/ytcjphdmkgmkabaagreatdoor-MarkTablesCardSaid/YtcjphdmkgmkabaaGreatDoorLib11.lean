/-
  Own work: the reference's integers: products.
-/
import Derived.Test.YtcjphdmkgmkabaaGreatDoorLib10
import Derived.Test.YtcjphdmkgmkabaaGreatDoorLib6
import Derived.Test.YtcjphdmkgmkabaaGreatDoorLib7
import Derived.Test.YtcjphdmkgmkabaaGreatDoorLib8
import Derived.Test.YtcjphdmkgmkabaaGreatDoorCh1Base
set_option maxHeartbeats 8000000
set_option maxRecDepth 20000
namespace Go.Ab.Ch1
open Go.Ab.aW
variable {M:aw} {cap c1 c2:Option Nat}
theorem Od {x y:Int}(hx:0<=x/\x<1000000000)(hy:0<=y/\y<1000000000):0<=x*y/\x*y<=999999998000000001:=by
 refine⟨Int.mul_nonneg hx.1 hy.1,?_⟩;have:=Int.mul_le_mul (a:=x) (b:=y) (c:=999999999) (d:=999999999) (by omega) (by omega) hy.1 (by omega);omega
theorem aey (a b:List Int)(hb:okW dB b)(la:a.length<10000000)(lb:b.length<10000000)(i:Nat)(hi:i<a.length)(x P:Int)(hx:0<=x/\x<1000000000)(hax:a[((i:Int)).toNat]! = x){Q:Ex->aq->Prop}(a2 a7:AV)(lo:List (Nat×AV))(wr:List Nat)(L:List Int)(hl:L.length=a.length+b.length)(bE:okW dB L)(hz:∀k,i+b.length<=k->L[k]! = 0)(hP:WV dB L=P)
 (hQ:∀L (c:Int) a7 lo wr,L.length=a.length+b.length->okW dB L->(0<=c/\c<1000000000)->(∀k,i+b.length<=k->L[k]! = 0)->WV dB L+dB^(i+b.length)*c=P+dB^i*x*WV dB b ->
   Q (.exit 2) ⟨⟨[.vs (al a) a.length c1,.vs (al b) b.length c2,a2,.sl 0 0 (a.length+b.length) 1 (some (a.length+b.length)),.iV i,.iV c,.iV b.length,a7],lo,[some (.cells (al L) 3)],[]⟩,wr⟩) :
 W M (.loop yY) ⟨⟨[.vs (al a) a.length c1,.vs (al b) b.length c2,a2,.sl 0 0 (a.length+b.length) 1 (some (a.length+b.length)),.iV i,.iV 0,.iV 0,a7],lo,[some (.cells (al L) 3)],[]⟩,wr⟩ Q:=by
 subst hax;refine W.gI b.length (fun j s=>∃L c a7 lo wr,s=⟨⟨[.vs (al a) a.length c1,.vs (al b) b.length c2,a2,.sl 0 0 (a.length+b.length) 1 (some (a.length+b.length)),.iV i,.iV c,.iV j,a7],lo,[some (.cells (al L) 3)],[]⟩,wr⟩ /\
  L.length=a.length+b.length/\okW dB L/\(0<=c/\c<1000000000)/\(∀k,i+b.length<=k->L[k]! = 0)/\WV dB L+dB^(i+j)*c=P+dB^i*a[((i:Int)).toNat]! * WV dB (b.take j)) (fun j s hj ⟨L,c,a7,lo,wr,hs,hl,bE,hc,hz,hv⟩=>?_) (fun s ⟨L,c,a7,lo,wr,hs,hl,bE,hc,hz,hv⟩=>?_) (Nat.zero_le _)
  ⟨_,_,_,_,_,rfl,hl,bE,⟨by decide,by decide⟩,hz,by rw[hP];simp[WV]⟩
 . subst hs;have gy:=bT hb hj;rw[show b[j]! = b[((j:Int)).toNat]! from rfl]at gy;obtain⟨y,hy⟩:∃y,y=b[((j:Int)).toNat]! := ⟨_,rfl⟩;rw[←hy]at gy;have gy:0<=y/\y<1000000000:=gy;have hm:=Od hx gy;obtain⟨m,hmm⟩:∃m,m=a[((i:Int)).toNat]! * y:=⟨_,rfl⟩;rw[←hmm]at hm;have gL:=bT bE (i:=i+j) (by omega);obtain⟨w,hw⟩:∃w,w=L[i+j]! := ⟨_,rfl⟩;rw[←hw]at gL;have gL:0<=w/\w<1000000000:=gL;obtain⟨R,hR⟩:∃R,R=(w+m+c)%1000000000:=⟨_,rfl⟩;obtain⟨D,hD⟩:∃D,D=(w+m+c)/1000000000:=⟨_,rfl⟩;have hD2:(0<=D/\D<1000000000)/\w+m+c=R+1000000000*D/\(0<=R/\R<1000000000):=by omega
   have eI:0+(((i:Int)+(j:Int))).toNat*1=i+j:=by omega
   have next:∀a7 lo wr,LI (fun s=>∃L c a7 lo wr,s=⟨⟨[.vs (al a) a.length c1,.vs (al b) b.length c2,a2,.sl 0 0 (a.length+b.length) 1 (some (a.length+b.length)),.iV i,.iV c,.iV ((j+1:Nat):Int),a7],lo,[some (.cells (al L) 3)],[]⟩,wr⟩ /\
    L.length=a.length+b.length/\okW dB L/\(0<=c/\c<1000000000)/\(∀k,i+b.length<=k->L[k]! = 0)/\WV dB L+dB^(i+(j+1))*c=P+dB^i*a[((i:Int)).toNat]! * WV dB (b.take (j+1))) Q .normal ⟨⟨[.vs (al a) a.length c1,.vs (al b) b.length c2,a2,.sl 0 0 (a.length+b.length) 1 (some (a.length+b.length)),.iV i,.iV D,.iV ((j:Int)+1),a7],lo,[some (.cells (al (L.set (i+j) R)) 3)],[]⟩,wr⟩:=fun a7 lo wr=>
    cN ⟨_,_,a7,lo,wr,rfl,by rw[List.length_set];exact hl,fY bE hD2.2.2,hD2.1,fun k hk=>by rw[gJ (by omega)];exact hz k hk,by
     rw[fZ (by omega),←hw,fl hj,show i+(j+1)=(i+j)+1 from rfl,Int.pow_succ,show b[j]! = y from hy.symm];have e:=hD2.2.1;rw[hmm]at e;have e2:dB^(i+j)*(R-w)+dB^(i+j)*1000000000*D=dB^(i+j)*(a[((i:Int)).toNat]! * y+c):=by
      have:a[((i:Int)).toNat]! * y+c=R-w+1000000000*D:=by omega
      rw[this,Int.mul_add,Int.mul_assoc]
     have e3:dB^(i+j)=dB^i*dB^j:=Int.pow_add _ _ _;show WV dB L+dB^(i+j)*(R-w)+dB^(i+j)*1000000000*D=P+dB^i*a[((i:Int)).toNat]! * (WV dB (b.take j)+dB^j*y);generalize a[((i:Int)).toNat]! = x at *
     rw[Int.add_assoc,e2,Int.mul_add,←Int.add_assoc,Int.add_right_comm,hv];rw[e3];grind⟩
   rw[hD,hR,hmm]at next
   rw[hmm]at hm;rw[hy]at next hm gy
   unfold yY;exact gg19
 . subst hs;rw[List.take_length]at hv;unfold yY;exact gg0
theorem Oe (hft:M.FT=FT)(dP:∀ars h,M.ext 242 ars h=none)(a b:List Int)(ha:okW dB a)(hb:okW dB b)(la:a.length<10000000)(lb:b.length<10000000)(h0:0<a.length+b.length):zj M 197 [.vs (al a) a.length c1,.vs (al b) b.length c2] (WV dB a*WV dB b):=by
 refine Fm (by rw[hft];exact NM) (by simp) ?_;unfold Fk;simp only[enter];repeat' first|refine gc ?_|fail
 have e0:((a.length:Int)+(b.length:Int)).toNat=a.length+b.length:=by omega
 rw[e0];refine W.gI a.length (fun i s=>∃L a5 a6 a7 lo wr,s=⟨⟨[.vs (al a) a.length c1,.vs (al b) b.length c2,.aa,.sl 0 0 (a.length+b.length) 1 (some (a.length+b.length)),.iV i,a5,a6,a7],lo,[some (.cells (al L) 3)],[]⟩,wr⟩ /\
  L.length=a.length+b.length/\okW dB L/\(∀k,i+b.length<=k->L[k]! = 0)/\WV dB L=WV dB (a.take i)*WV dB b) (fun i s hi ⟨L,a5,a6,a7,lo,wr,hs,hl,bE,hz,hv⟩=>?_) (fun s ⟨L,a5,a6,a7,lo,wr,hs,hl,bE,hz,hv⟩=>?_) (Nat.zero_le _)
  ⟨List.replicate (a.length+b.length) 0,_,_,_,_,_,rfl,by simp,kA (by decide),fun k _=>kD,by rw[kB];simp[WV]⟩
 . subst hs;have gx:=bT ha hi;rw[show a[i]! = a[((i:Int)).toNat]! from rfl]at gx;have eI:0+(((i:Int)+(b.length:Int))).toNat*1=i+b.length:=by omega
   unfold yZ;refine gg7 ?_;refine aey (c1:=c1) (c2:=c2) a b hb la lb i hi a[((i:Int)).toNat]! _ gx rfl _ _ _ _ L hl bE hz hv (fun L2 c a7 lo wr h1 h2 h3 h4 h5=>?_);have h4':=h4 _ (Nat.le_refl _);have g0:=bT h2 (i:=i+b.length) (by omega);repeat' first|(apply aiZ (v:=0);exact congrArg (fun z=>some (AV.ptr 0 z)) eI;rfl;omega;exact h4')|(apply aiF;exact congrArg (fun z=>some (AV.ptr 0 z)) eI;rfl;rfl;omega)|refine gc ?_|fail
   all_goals try omega
   refine cN ⟨L2.set (i+b.length) (0+c),_,_,_,_,_,rfl,by rw[List.length_set];exact h1,fY h2 (by rw[Int.zero_add];exact h3),fun k hk=>by rw[gJ (by omega)];exact h4 k (by omega),?_⟩;rw[fZ (by omega),h4',Int.sub_zero,Int.zero_add,h5,fl hi];show _=(WV dB (a.take i)+dB^i*a[i]!)*WV dB b;rw[Int.add_mul];rfl
 . subst hs;rw[List.take_length]at hv;have q:=pk (cap:=some (a.length+b.length)) (b:=0) (n:=a.length+b.length) (L:=L) (e:=3) (hp:=[some (.cells (al L) 3)]) hft dP rfl (by omega) (by omega) (by omega) (fun c hc=>by cases hc;exact Nat.le_refl _);rw[List.take_of_length_le (by omega)]at q;unfold yZ;refine gg7 ?_;refine⟨.inr rfl,rfl,_,rfl,L.take (aP L),?_,?_⟩
   . obtain⟨g1,g2,g3⟩:=ph bE;exact⟨g1,g2,by rw[g3,hv]⟩
   . have:=gm.trim (cap:=some (a.length+b.length)) (b:=0) (L:=L) (e:=3) (hp:=[some (.cells (al L) 3)]) (n:=a.length+b.length) rfl (by omega);rw[List.take_of_length_le (by omega)]at this;exact this
end Go.Ab.Ch1

/-
  Own work: Knuth's division to the base 10^9: the guess of a digit is at most one too great.
-/
namespace Go.Ab.aW
structure iu (t2 t1 t0 v1 v0 T V p:Int):Prop where
 h2:0<=t2
 h1:0<=t1/\t1<1000000000
 h0:0<=t0/\t0<1000000000
 w1:500000000<=v1/\v1<1000000000
 w0:0<=v0/\v0<1000000000
 hp:1<=p
 lo:((t2*1000000000+t1)*1000000000+t0)*p<=T
 hi:T<((t2*1000000000+t1)*1000000000+t0+1)*p
 qu:(v1*1000000000+v0)*p<=V
 sI:V<(v1*1000000000+v0+1)*p
 hT:T<1000000000*V
structure iE (t2 t1 v1 T V q r:Int):Prop where
 q0:0<=q/\q<=1000000001
 r0:0<=r
 e:q*v1+r=t2*1000000000+t1
 ge:T<(q+1)*V
variable {t2 t1 t0 v1 v0 T V p q r:Int}
theorem iu.top (C:iu t2 t1 t0 v1 v0 T V p):t2<=v1:=by
 have h1:=C.h1;have h0:=C.h0;have w0:=C.w0;have a1:((t2*1000000000+t1)*1000000000+t0)*p<(1000000000*(v1*1000000000+v0+1))*p:=by
  have:=C.lo;have:=C.hT;have:=C.sI;rw[Int.mul_assoc 1000000000];omega
 have a2:=Int.lt_of_mul_lt_mul_right a1 (by have:=C.hp;omega);omega
theorem iu.geq (C:iu t2 t1 t0 v1 v0 T V p)(h0:0<=q)(h:(t2*1000000000+t1)*1000000000+t0+1<=q*(v1*1000000000+v0)):T<q*V:=by
 have hp:=C.hp;have a1:=Int.mul_le_mul_of_nonneg_right h (show 0<=p by omega);have a2:=Int.mul_le_mul_of_nonneg_left C.qu h0;rw[←Int.mul_assoc]at a2;have:=C.hi;omega
theorem iE.qD (I:iE t2 t1 v1 T V q r):q*(v1*1000000000+v0)=(t2*1000000000+t1-r)*1000000000+q*v0:=by
 have e:=I.e;have:t2*1000000000+t1-r=q*v1:=by omega
 rw[this,Int.mul_add,Int.mul_assoc]
theorem iE.init (C:iu t2 t1 t0 v1 v0 T V p):iE t2 t1 v1 T V ((t2*1000000000+t1)/v1) ((t2*1000000000+t1)%v1):=by
 have h2:=C.h2;have h1:=C.h1;have w1:=C.w1;have h0:=C.h0;have w0:=C.w0;have ht:=C.top;have q0:0<=(t2*1000000000+t1)/v1:=Int.ediv_nonneg (by omega) (by omega);have q1:(t2*1000000000+t1)/v1<1000000002:=Int.ediv_lt_of_lt_mul (by omega) (by omega);have e:=Int.mul_ediv_add_emod (t2*1000000000+t1) v1;have r0:=Int.emod_nonneg (t2*1000000000+t1) (show v1≠0 by omega);have r1:=Int.emod_lt_of_pos (t2*1000000000+t1) (show 0<v1 by omega);rw[Int.mul_comm]at e;refine⟨⟨q0,by omega⟩,r0,e,C.geq (by omega) ?_⟩;generalize (t2*1000000000+t1)/v1=q at *
 generalize (t2*1000000000+t1)%v1=r at *
 have a1:(q+1)*(v1*1000000000+v0)=(q*v1+v1)*1000000000+(q+1)*v0:=by grind
 have a2:0<=(q+1)*v0:=Int.mul_nonneg (by omega) w0.1;rw[a1];generalize q*v1=z at *
 generalize (q+1)*v0=y at *
 omega
theorem iu.V0 (C:iu t2 t1 t0 v1 v0 T V p):0<V:=by
 have:=C.w1;have:=C.w0;have:=C.qu;have:=Int.mul_pos (show 0<v1*1000000000+v0 by omega) (show 0<p by have:=C.hp;omega);omega
theorem iE.dec (C:iu t2 t1 t0 v1 v0 T V p)(I:iE t2 t1 v1 T V q r)(h:1000000000<=q\/r*1000000000+t0<q*v0):iE t2 t1 v1 T V (q-1) (r+v1):=by
 have w1:=C.w1;have q0:=I.q0;have r0:=I.r0;have h0:=C.h0;have q1:0<q:=by
  rcases Int.lt_or_le 0 q with h'|h'
  . exact h'
  . obtain rfl:q=0:=by omega
    omega
 refine⟨by omega,by omega,by have:=I.e;rw[Int.sub_mul];omega,?_⟩;rw[Int.sub_add_cancel];rcases h with h|h
 . have hT:=C.hT;have:=Int.mul_le_mul_of_nonneg_right h (Int.le_of_lt C.V0);omega
 . refine C.geq (by omega) ?_;rw[I.qD];omega
theorem iE.exit (C:iu t2 t1 t0 v1 v0 T V p)(I:iE t2 t1 v1 T V q r)(hq:q<1000000000)(h:q*v0<=r*1000000000+t0):(q-1)*V<=T:=by
 have w1:=C.w1;have q0:=I.q0;have r0:=I.r0;have w0:=C.w0;have hp:=C.hp;have a1:q*(v1*1000000000+v0)<=(t2*1000000000+t1)*1000000000+t0:=by rw[I.qD];omega
 have a2:=Int.mul_le_mul_of_nonneg_right a1 (show 0<=p by omega);have a3:=Int.mul_le_mul_of_nonneg_left (Int.le_of_lt C.sI) q0.1;have a4:q*((v1*1000000000+v0+1)*p)=q*(v1*1000000000+v0)*p+q*p:=by grind
 have a5:=Int.mul_le_mul_of_nonneg_right (show q<=1000000000 by omega) (show 0<=p by omega);have a6:=Int.mul_le_mul_of_nonneg_right (show 1000000000<=v1*1000000000+v0 by omega) (show 0<=p by omega);have a7:=C.qu;have a8:=C.lo;rw[Int.sub_mul,Int.one_mul];omega
theorem iE.mR (C:iu t2 t1 t0 v1 v0 T V p)(I:iE t2 t1 v1 T V q r)(h:1000000000<=r):q<1000000000/\(q-1)*V<=T:=by
 have q0:=I.q0;have w0:=C.w0;have h0:=C.h0;have w1:=C.w1;have h1:=C.h1;have ht:=C.top;have hq:q<1000000000:=by
  rcases Int.lt_or_le q 1000000000 with h'|h'
  . exact h'
  . have a:=Int.mul_le_mul_of_nonneg_right h' (show 0<=v1 by omega);have e:=I.e;omega
 refine⟨hq,I.exit C hq ?_⟩;have h3:=Int.mul_le_mul (a:=q) (b:=v0) (c:=999999999) (d:=999999999) (by omega) (by omega) w0.1 (by omega);omega
theorem iu.of {X V:List Int}{n:Nat}(hX:X.length=n+3)(hV:V.length=n+2)(oX:okW 1000000000 X)(oV:okW 1000000000 V)(hv:500000000<=V[n+1]!)(hT:WV 1000000000 X<1000000000*WV 1000000000 V) :
 iu X[n+2]! X[n+1]! X[n]! V[n+1]! V[n]! (WV 1000000000 X) (WV 1000000000 V) (1000000000^n):=by
 have x2:=bT oX (i:=n+2) (by omega);have x1:=bT oX (i:=n+1) (by omega);have x0:=bT oX (i:=n) (by omega);have v1:=bT oV (i:=n+1) (by omega);have v0:=bT oV (i:=n) (by omega);have eX:WV 1000000000 X=WV 1000000000 (X.take n)+((X[n+2]! * 1000000000+X[n+1]!)*1000000000+X[n]!)*1000000000^n:=by
  rw[jg (n:=n+2) (by omega),fl (by omega),fl (by omega),Int.pow_succ,Int.pow_succ];grind
 have eV:WV 1000000000 V=WV 1000000000 (V.take n)+(V[n+1]! * 1000000000+V[n]!)*1000000000^n:=by
  rw[jg (n:=n+1) (by omega),fl (by omega),Int.pow_succ];grind
 have lX:=cR (b:=1000000000) (by decide) (di oX n);have lV:=cR (b:=1000000000) (by decide) (di oV n);have pX:=cg (b:=1000000000) (by decide) (di oX n);have pV:=cg (b:=1000000000) (by decide) (di oV n);rw[List.length_take,Nat.min_eq_left (by omega)]at lX lV;have hp:(0:Int)<1000000000^n:=Int.pow_pos (by decide);refine⟨x2.1,x1,x0,⟨hv,v1.2⟩,v0,by omega,by omega,?_,by omega,?_,hT⟩
 . rw[Int.add_mul _ 1,Int.one_mul];omega
 . rw[Int.add_mul _ 1,Int.one_mul];omega
end Go.Ab.aW

/-
  Own work: the reference's integers: the guess of a digit.
-/
namespace Go.Ab.Ch1
open Go.Ab.aW
variable {M:aw} {cap c1 c2:Option Nat}
theorem agH {t m m':Nat}{x:aN}{l:List aT}{pe:List AV}{lo:List (Nat×AV)}{hp:ab}{df wr:List Nat}{L:List Int}{v:Int}{Q:aq->Prop}(hx:(St.mk pe lo hp df).ae x=some (.vp ((al L).drop (m'*1))))(hm:m'=m)(hi:m<L.length)(hv:L[m]! = v)
 (h:WO M l ⟨⟨pe,(t,.iV v)::lo,hp,df⟩,wr⟩ Q):WO M (⟨.l t,.load 1 false x,none⟩::l) ⟨⟨pe,lo,hp,df⟩,wr⟩ Q:=by
 subst hm;subst hv;exact aiB (f:=iC) (esz:=1) (c:=L) (i:=m') hx (fun _=>rfl) hi (by decide) rfl h
variable {k j:Nat} {U V:List Int}
theorem aez (hV:V.length=k+2)(hU:j+k+2<U.length)(lU:U.length<100000000){t2 t1 t0 v1 v0 T D p:Int}(K:iu t2 t1 t0 v1 v0 T D p)(ht0:U[j+k]! = t0)(hv1:V[k+1]! = v1)(hv0:V[k]! = v0){Q:Ex->aq->Prop}(a3 a5:AV)
 (hR:∀(q r:Int) lo wr,(0<=q/\q<1000000000)->T<(q+1)*D->(q-1)*D<=T->Q .ret ⟨⟨[.vs (al U) U.length c1,.vs (al V) V.length c2,.iV j,.iV q,.iV V.length,a5,.iV q,.iV r],lo,[],[]⟩,wr⟩)
 (hQ:∀(q r:Int) lo wr,(0<=q/\q<1000000000)->T<(q+1)*D->(q-1)*D<=T->Q (.exit 0) ⟨⟨[.vs (al U) U.length c1,.vs (al V) V.length c2,.iV j,a3,.iV V.length,a5,.iV q,.iV r],lo,[],[]⟩,wr⟩)
 (q r:Int) (lo:List (Nat×AV)) (wr:List Nat) (I:iE t2 t1 v1 T D q r) (hr:r<1000000000) :
 W M (.loop tP) ⟨⟨[.vs (al U) U.length c1,.vs (al V) V.length c2,.iV j,a3,.iV V.length,a5,.iV q,.iV r],lo,[],[]⟩,wr⟩ Q:=by
 refine W.fV (fun m s=>∃q r lo wr,s=⟨⟨[.vs (al U) U.length c1,.vs (al V) V.length c2,.iV j,a3,.iV V.length,a5,.iV q,.iV r],lo,[],[]⟩,wr⟩/\m=q.toNat/\iE t2 t1 v1 T D q r/\r<1000000000) (fun m s ⟨q,r,lo,wr,hs,hm,I,hr⟩=>?_) (m:=q.toNat) ⟨q,r,lo,wr,rfl,rfl,I,hr⟩;subst hs;subst hm;have q0:=I.q0;have r0:=I.r0;have w0:=K.w0;have w1:=K.w1;have h0:=K.h0;have step:(1000000000<=q\/r*1000000000+t0<q*v0)->0<q/\∀lo wr,(r+v1<1000000000->LI (fun s=>∃m',m'<q.toNat/\∃q r lo wr,s=⟨⟨[.vs (al U) U.length c1,.vs (al V) V.length c2,.iV j,a3,.iV V.length,a5,.iV q,.iV r],lo,[],[]⟩,wr⟩/\m'=q.toNat/\iE t2 t1 v1 T D q r/\r<1000000000) Q .normal ⟨⟨[.vs (al U) U.length c1,.vs (al V) V.length c2,.iV j,a3,.iV V.length,a5,.iV (q-1),.iV (r+v1)],lo,[],[]⟩,wr⟩) /\
  (1000000000<=r+v1->Q .ret ⟨⟨[.vs (al U) U.length c1,.vs (al V) V.length c2,.iV j,.iV (q-1),.iV V.length,a5,.iV (q-1),.iV (r+v1)],lo,[],[]⟩,wr⟩):=fun h=>by
  have I2:=I.dec K h;have i0:=I2.q0;refine⟨by omega,fun lo wr=>⟨fun h1=>cN ⟨(q-1).toNat,by omega,_,_,_,_,rfl,rfl,I2,h1⟩,fun h1=>?_⟩⟩;obtain⟨b1,b2⟩:=I2.mR K h1;exact hR _ _ _ _ ⟨i0.1,b1⟩ I2.ge b2
 obtain⟨m,hm⟩:∃m,m=q*v0:=⟨_,rfl⟩;have hmb:0<=m/\m<=1000000001000000001:=by
  rw[hm];refine⟨Int.mul_nonneg q0.1 w0.1,?_⟩;have:=Int.mul_le_mul (a:=q) (b:=v0) (c:=1000000001) (d:=1000000000) (by omega) (by omega) w0.1 (by omega);omega
 by_cases hB:1000000000<=q
 . obtain⟨hq,st⟩:=step (.inl hB);unfold tP;repeat' first|(apply agH (m:=k+1) (v:=v1);rfl;omega;omega;exact hv1)|(apply afd;rfl;rfl)|refine gc ?_|(intro _;omega)|intro _
   all_goals try omega
   all_goals first|exact(st _ _).1 (by omega)|exact(st _ _).2 (by omega)
 . by_cases ht:r*1000000000+t0<q*v0
   . obtain⟨hq,st⟩:=step (.inr ht);rw[←hm]at ht;rw[hm]at ht hmb;unfold tP;repeat' first|(apply agH (L:=V) (m:=k+1) (v:=v1);rfl;omega;omega;exact hv1)|(apply agH (L:=V) (m:=k) (v:=v0);rfl;omega;omega;exact hv0)|(apply agH (L:=U) (m:=j+k) (v:=t0);rfl;omega;omega;exact ht0)|(apply acs;rfl;rfl)|(apply afd;rfl;rfl)|refine gc ?_|(intro _;omega)|intro _
     all_goals try omega
     all_goals first|exact(st _ _).1 (by omega)|exact(st _ _).2 (by omega)
   . have fin:=I.exit K (by omega) (by omega);rw[hm]at hmb;unfold tP;exact gg14
theorem aeA (hft:M.FT=FT)(hV:V.length=k+2)(hU:j+k+2<U.length)(lU:U.length<100000000){t2 t1 t0 v1 v0 T D p:Int}(K:iu t2 t1 t0 v1 v0 T D p)(ht2:U[j+k+2]! = t2)(ht1:U[j+k+1]! = t1)(ht0:U[j+k]! = t0)(hv1:V[k+1]! = v1)(hv0:V[k]! = v0) :
 ∃q:Int,(0<=q/\q<1000000000)/\T<(q+1)*D/\(q-1)*D<=T/\aS M 243 [.vs (al U) U.length c1,.vs (al V) V.length c2,.iV j] [] ⟨.iV q,[],[]⟩:=by
 have h2:=K.h2;have h1:=K.h1;have w1:=K.w1;have h0:=K.h0;have w0:=K.w0;have htop:=K.top;have I:=iE.init K;have r1:=Int.emod_lt_of_pos (t2*1000000000+t1) (show 0<v1 by omega);obtain⟨v,hh,⟨q,rfl,rfl,g1,g2,g3⟩,hr⟩:=gH (M:=M) (f:=243) (ars:=[.vs (al U) U.length c1,.vs (al V) V.length c2,.iV j]) (P:=fun v hh=>∃q:Int,v = .iV q/\hh=[]/\(0<=q/\q<1000000000)/\T<(q+1)*D/\(q-1)*D<=T) (by rw[hft];exact aeh) (by simp) (by
  unfold NO;simp only[enter];repeat' first|(apply agH (L:=U) (m:=j+k+2) (v:=t2);rfl;omega;omega;exact ht2)|(apply agH (L:=U) (m:=j+k+1) (v:=t1);rfl;omega;omega;exact ht1)|(apply agH (L:=V) (m:=k+1) (v:=v1);rfl;omega;omega;exact hv1)|(apply aiJ;rfl;rfl;omega;omega)|(apply aja;rfl;rfl;omega;omega)|refine gc ?_|fail
  all_goals try omega
  refine aez hV hU lU K ht0 hv1 hv0 _ _ (fun q r lo wr g1 g2 g3=>?_) (fun q r lo wr g1 g2 g3=>?_) _ _ _ _ I (by omega)
  . repeat' first|refine gc ?_|fail
    all_goals exact⟨.inr rfl,rfl,_,rfl,q,rfl,rfl,g1,g2,g3⟩
  . repeat' first|refine gc ?_|fail
    all_goals exact⟨.inr rfl,rfl,_,rfl,q,rfl,rfl,g1,g2,g3⟩)
 exact⟨q,g1,g2,g3,hr⟩
variable {cu:Option Nat}
variable {bu N:Nat} {e:TypeId} {hp:ab} {P S Y:List Int}
theorem aeB (hl:bu<hp.length)(lN:N<100000000)(hN:P.length+V.length<N)(hY:Y.length=V.length)(oY:okW dB Y)(oV:okW dB V)(q:Int)(q0:0<=q/\q<1000000000){Q:Ex->aq->Prop}(a0 a1 a2 a3 a4 a5 a6 aA aF aG aH aI aJ aK:AV)(lo:List (Nat×AV))(wr:List Nat)
 (hQ:∀L (bo:Int) aF aG lo wr,L.length=V.length->okW dB L->(0<=bo/\bo<1000000000)->WV dB L=WV dB Y-q*WV dB V+dB^V.length*bo ->
   Q (.exit 4) ⟨⟨[a0,a1,a2,a3,a4,a5,a6,.vs (al V) V.length c2,.iV V.length,.sl bu 0 N 1 cu,aA,.iV P.length,.iV q,.iV bo,.iV V.length,aF,aG,aH,aI,aJ,aK],lo,cJ hp bu e P S L,[]⟩,wr⟩) :
 W M (.loop yV) ⟨⟨[a0,a1,a2,a3,a4,a5,a6,.vs (al V) V.length c2,.iV V.length,.sl bu 0 N 1 cu,aA,.iV P.length,.iV q,.iV 0,.iV 0,aF,aG,aH,aI,aJ,aK],lo,cJ hp bu e P S Y,[]⟩,wr⟩ Q:=by
 refine W.gI V.length (fun i s=>∃L bo aF aG lo wr,s=⟨⟨[a0,a1,a2,a3,a4,a5,a6,.vs (al V) V.length c2,.iV V.length,.sl bu 0 N 1 cu,aA,.iV P.length,.iV q,.iV bo,.iV i,aF,aG,aH,aI,aJ,aK],lo,cJ hp bu e P S L,[]⟩,wr⟩ /\
  L.length=V.length/\okW dB L/\(0<=bo/\bo<1000000000)/\WV dB L=WV dB Y-q*WV dB (V.take i)+dB^i*bo) (fun i s hi ⟨L,bo,aF,aG,lo,wr,hs,hL,oL,hbo,hv⟩=>?_) (fun s ⟨L,bo,aF,aG,lo,wr,hs,hL,oL,hbo,hv⟩=>?_) (Nat.zero_le _)
  ⟨_,_,_,_,_,_,rfl,hY,oY,⟨by decide,by decide⟩,by simp[WV]⟩
 . subst hs;have gy:=bT oV (i:=i) (by omega);obtain⟨y,hy⟩:∃y,y=V[i]! := ⟨_,rfl⟩;rw[←hy]at gy;have gy:0<=y/\y<1000000000:=gy;have gL:=bT oL (i:=i) (by omega);obtain⟨u,hu⟩:∃u,u=L[i]! := ⟨_,rfl⟩;rw[←hu]at gL;have gL:0<=u/\u<1000000000:=gL;have hm:=Od q0 gy;obtain⟨m,hmm⟩:∃m,m=q*y:=⟨_,rfl⟩;rw[←hmm]at hm;have next:∀(D d:Int) aF aG lo,(0<=D/\D<1000000000)->(0<=d/\d<1000000000)->u-m-bo=d-1000000000*D->LI (fun s=>∃L bo aF aG lo wr,s=⟨⟨[a0,a1,a2,a3,a4,a5,a6,.vs (al V) V.length c2,.iV V.length,.sl bu 0 N 1 cu,aA,.iV P.length,.iV q,.iV bo,.iV ((i+1:Nat):Int),aF,aG,aH,aI,aJ,aK],lo,cJ hp bu e P S L,[]⟩,wr⟩ /\
    L.length=V.length/\okW dB L/\(0<=bo/\bo<1000000000)/\WV dB L=WV dB Y-q*WV dB (V.take (i+1))+dB^(i+1)*bo) Q .normal ⟨⟨[a0,a1,a2,a3,a4,a5,a6,.vs (al V) V.length c2,.iV V.length,.sl bu 0 N 1 cu,aA,.iV P.length,.iV q,.iV D,.iV ((i:Int)+1),aF,aG,aH,aI,aJ,aK],lo,cJ hp bu e P S (L.set i d),[]⟩,bu::wr⟩:=fun D d aF aG lo hD hd he=>
    cN ⟨_,_,aF,aG,lo,_,rfl,by rw[List.length_set];exact hL,fY oL hd,hD,by
     rw[fZ (by omega),←hu,fl (by omega),←hy,hv,Int.pow_succ];have e1:d-u=1000000000*D-q*y-bo:=by rw[←hmm];omega
     rw[e1];show _+dB^i*(1000000000*D-q*y-bo)=_-_+dB^i*1000000000*D;grind⟩
   have hV':V[((i:Int)).toNat]! = y:=hy.symm;rw[hmm]at hm next
   rw[hu]at gL next
   unfold yV;exact gg19
 . subst hs;rw[List.take_length]at hv;unfold yV;exact gg0
theorem aeC (hl:bu<hp.length)(lN:N<100000000)(hN:P.length+V.length<N)(hY:Y.length=V.length)(oY:okW dB Y)(oV:okW dB V){Q:Ex->aq->Prop}(a0 a1 a2 a3 a4 a5 a6 aA aC aD aE aF aG aJ aK:AV)(lo:List (Nat×AV))(wr:List Nat)
 (hQ:∀L (ca:Int) aJ lo wr,L.length=V.length->okW dB L->(0<=ca/\ca<=1)->WV dB L+dB^V.length*ca=WV dB Y+WV dB V ->
   Q (.exit 6) ⟨⟨[a0,a1,a2,a3,a4,a5,a6,.vs (al V) V.length c2,.iV V.length,.sl bu 0 N 1 cu,aA,.iV P.length,aC,aD,aE,aF,aG,.iV ca,.iV V.length,aJ,aK],lo,cJ hp bu e P S L,[]⟩,wr⟩) :
 W M (.loop yW) ⟨⟨[a0,a1,a2,a3,a4,a5,a6,.vs (al V) V.length c2,.iV V.length,.sl bu 0 N 1 cu,aA,.iV P.length,aC,aD,aE,aF,aG,.iV 0,.iV 0,aJ,aK],lo,cJ hp bu e P S Y,[]⟩,wr⟩ Q:=by
 refine W.gI V.length (fun i s=>∃L ca aJ lo wr,s=⟨⟨[a0,a1,a2,a3,a4,a5,a6,.vs (al V) V.length c2,.iV V.length,.sl bu 0 N 1 cu,aA,.iV P.length,aC,aD,aE,aF,aG,.iV ca,.iV i,aJ,aK],lo,cJ hp bu e P S L,[]⟩,wr⟩ /\
  L.length=V.length/\okW dB L/\(0<=ca/\ca<=1)/\WV dB L+dB^i*ca=WV dB Y+WV dB (V.take i)) (fun i s hi ⟨L,ca,aJ,lo,wr,hs,hL,oL,hca,hv⟩=>?_) (fun s ⟨L,ca,aJ,lo,wr,hs,hL,oL,hca,hv⟩=>?_) (Nat.zero_le _)
  ⟨_,_,_,_,_,rfl,hY,oY,⟨by decide,by decide⟩,by simp[WV]⟩
 . subst hs;have gy:=bT oV (i:=i) (by omega);obtain⟨y,hy⟩:∃y,y=V[i]! := ⟨_,rfl⟩;rw[←hy]at gy;have gy:0<=y/\y<1000000000:=gy;have gL:=bT oL (i:=i) (by omega);obtain⟨u,hu⟩:∃u,u=L[i]! := ⟨_,rfl⟩;rw[←hu]at gL;have gL:0<=u/\u<1000000000:=gL;have next:∀(D d:Int) aJ lo wr,(0<=D/\D<=1)->(0<=d/\d<1000000000)->u+y+ca=d+1000000000*D->LI (fun s=>∃L ca aJ lo wr,s=⟨⟨[a0,a1,a2,a3,a4,a5,a6,.vs (al V) V.length c2,.iV V.length,.sl bu 0 N 1 cu,aA,.iV P.length,aC,aD,aE,aF,aG,.iV ca,.iV ((i+1:Nat):Int),aJ,aK],lo,cJ hp bu e P S L,[]⟩,wr⟩ /\
    L.length=V.length/\okW dB L/\(0<=ca/\ca<=1)/\WV dB L+dB^(i+1)*ca=WV dB Y+WV dB (V.take (i+1))) Q .normal ⟨⟨[a0,a1,a2,a3,a4,a5,a6,.vs (al V) V.length c2,.iV V.length,.sl bu 0 N 1 cu,aA,.iV P.length,aC,aD,aE,aF,aG,.iV D,.iV ((i:Int)+1),aJ,aK],lo,cJ hp bu e P S (L.set i d),[]⟩,wr⟩:=fun D d aJ lo wr hD hd he=>
    cN ⟨_,_,aJ,lo,_,rfl,by rw[List.length_set];exact hL,fY oL hd,hD,by
     rw[fZ (by omega),←hu,fl (by omega),←hy,Int.pow_succ];have e1:d-u=y+ca-1000000000*D:=by omega
     rw[e1];show WV dB L+dB^i*(y+ca-1000000000*D)+dB^i*1000000000*D=_;grind⟩
   rw[hu]at gL next
   unfold yW;exact gg19
 . subst hs;rw[List.take_length]at hv;unfold yW;exact gg0
variable {cq:Option Nat}
theorem aeD {U V:List Int}{i k:Nat}(hj:i+(k+3)<=U.length)(oU:okW dB U)(hV:V.length=k+2)(oV:okW dB V)(hup:WV dB (U.drop (i+1))<WV dB V) :
 ∃P Y S,U=P++(Y++[U[i+k+2]!])++S/\P.length=i/\Y.length=k+2/\okW dB P/\okW dB Y/\okW dB S/\(0<=U[i+k+2]! /\ U[i+k+2]! < 1000000000)/\WV dB S=0/\WV dB (Y++[U[i+k+2]!])=WV dB (U.drop i)/\WV dB (Y++[U[i+k+2]!])<1000000000*WV dB V:=by
 obtain⟨P,hP⟩:∃P,P=U.take i:=⟨_,rfl⟩;obtain⟨X,hX⟩:∃X,X=(U.drop i).take (k+3):=⟨_,rfl⟩;obtain⟨S,hS⟩:∃S,S=U.drop (i+(k+3)):=⟨_,rfl⟩;have eU:U=P++X++S:=by
  rw[hP,hX,hS,List.append_assoc,←List.drop_drop,List.take_append_drop,List.take_append_drop]
 have lP:P.length=i:=by rw[hP,List.length_take];omega
 have lX:X.length=k+3:=by rw[hX,List.length_take,List.length_drop];omega
 have oX:okW dB X:=by rw[hX];exact di (jc oU _) _
 have oS:okW dB S:=by rw[hS];exact jc oU _
 have oP:okW dB P:=by rw[hP];exact di oU _
 have eD:U.drop i=X++S:=by rw[eU,←lP,List.append_assoc,List.drop_left]
 have gj:=bT oU (i:=i) (by omega);have d1:=oy (b:=dB) (l:=U) (i:=i) (by omega);have lt:=cR (b:=dB) (by decide) oV;rw[hV]at lt;have hpow:(0:Int)<dB^(k+2):=Int.pow_pos (by decide);have hS0:WV dB S=0:=by
  have h1:WV dB (U.drop (i+1))=WV dB ((U.drop (i+1)).take (k+2))+dB^(k+2)*WV dB S:=by
   have:=lH (b:=dB) (l:=U.drop (i+1)) (i:=k+2) (by rw[List.length_drop];omega);rwa [List.drop_drop,show i+1+(k+2)=i+(k+3) by omega,←hS]at this
  have h2:=cg (b:=dB) (by decide) (di (jc oU (i+1)) (k+2));have h3:=cg (b:=dB) (by decide) oS;rcases Int.lt_or_le 0 (WV dB S) with h|h
  . have:=Int.mul_le_mul_of_nonneg_left (show 1<=WV dB S by omega) (Int.le_of_lt hpow);omega
  . omega
 have hXD:WV dB X=WV dB (U.drop i):=by rw[eD,fK,hS0,Int.mul_zero,Int.add_zero]
 have hT:WV dB X<1000000000*WV dB V:=by
  rw[hXD,d1];have gj:0<=U[i]! /\ U[i]! < 1000000000:=gj;show _+1000000000*_<1000000000*_;omega
 have hXt:X[k+2]! = U[i+k+2]! := by
  rw[hX];simp only[List.getElem!_eq_getElem?_getD];rw[List.getElem?_take_of_lt (by omega),List.getElem?_drop,Nat.add_assoc]
 have gt:=bT oX (i:=k+2) (by omega);have eX:X=X.take (k+2)++[X[k+2]!]:=by
  have h1:X.take (k+2+1)=X:=List.take_of_length_le (by omega);conv=>lhs;rw[←h1]
  rw[List.take_add_one,List.getElem?_eq_getElem (by omega),getElem!_pos X (k+2) (by omega),Option.toList_some]
 rw[hXt]at eX gt;refine⟨P,X.take (k+2),S,by rw[←eX];exact eU,lP,by rw[List.length_take];omega,oP,di oX _,oS,gt,hS0,by rw[←eX];exact hXD,by rw[←eX];exact hT⟩
theorem aeE {L V:List Int}{T q d n:Int}{m:Nat}(hn:n=dB^m)(oL:okW dB L)(_hL:L.length=m)(oV:okW dB V)(hV:V.length=m)(h:WV dB L+n*d=T-q*WV dB V)(hge:T<(q+1)*WV dB V)(hd:¬d<0):d=0/\WV dB L=T-q*WV dB V/\WV dB L<WV dB V:=by
 subst hn;have lV:=cR (b:=dB) (by decide) oV;have l0:=cg (b:=dB) (by decide) oL;have hp:0<dB^m:=Int.pow_pos (by decide);rw[hV]at lV;rw[Int.add_mul,Int.one_mul]at hge;have d0:d=0:=by
  rcases Int.lt_or_le 0 d with h'|h'
  . have:=Int.mul_le_mul_of_nonneg_left (show 1<=d by omega) (Int.le_of_lt hp);omega
  . omega
 subst d0;rw[Int.mul_zero,Int.add_zero]at h;exact⟨rfl,h,by omega⟩
theorem aeF {L L2 V:List Int}{T q d n ca:Int}{m:Nat}(hn:n=dB^m)(oL:okW dB L)(hL:L.length=m)(oL2:okW dB L2)(hL2:L2.length=m)(oV:okW dB V)(hV:V.length=m)(h:WV dB L+n*d=T-q*WV dB V)(hle:(q-1)*WV dB V<=T)(hT0:0<=T)(hd:d<0)(q0:0<=q)(h2:WV dB L2+n*ca=WV dB L+WV dB V):1<=q/\d+ca=0/\WV dB L2=T-(q-1)*WV dB V/\WV dB L2<WV dB V:=by
 subst hn;have lL:=cR (b:=dB) (by decide) oL;have lL2:=cR (b:=dB) (by decide) oL2;have lV:=cR (b:=dB) (by decide) oV;have l0:=cg (b:=dB) (by decide) oL2;have hp:0<dB^m:=Int.pow_pos (by decide);rw[hV]at lV;rw[hL]at lL;rw[hL2]at lL2;have hneg:T-q*WV dB V<0:=by
  have:=Int.mul_le_mul_of_nonneg_left (show d <= -1 by omega) (Int.le_of_lt hp);omega
 have q1:1<=q:=by
  rcases Int.lt_or_le 0 q with h'|h'
  . omega
  . obtain rfl:q=0:=by omega
    rw[Int.zero_mul]at hneg;omega
 rw[Int.sub_mul,Int.one_mul]at hle ⊢;have hs:WV dB L2+dB^m*(d+ca)=T-q*WV dB V+WV dB V:=by rw[Int.mul_add];omega
 have d0:d+ca=0:=by
  rcases Int.lt_or_le 0 (d+ca) with h'|h'
  . have:=Int.mul_le_mul_of_nonneg_left (show 1<=d+ca by omega) (Int.le_of_lt hp);omega
  . rcases Int.lt_or_le (d+ca) 0 with h''|h''
    . have:=Int.mul_le_mul_of_nonneg_left (show d+ca <= -1 by omega) (Int.le_of_lt hp);omega
    . omega
 rw[d0,Int.mul_zero,Int.add_zero]at hs;exact⟨q1,d0,by omega,by omega⟩
structure Of (M:aw):Prop where
 ft:M.FT=FT
 dP:∀ars h,M.ext 242 ars h=none
 Og:∀(U V:List Int) (bu i k:Nat) cu c2 e h (T D p:Int),h.at bu=some (.cells (al U) e)->V.length=k+2->i+k+2<U.length->U.length<100000000->iu U[i+k+2]! U[i+k+1]! U[i+k]! V[k+1]! V[k]! T D p->∃q:Int,(0<=q/\q<1000000000)/\T<(q+1)*D/\(q-1)*D<=T/\M.ext 243 [.sl bu 0 U.length 1 cu,.vs (al V) V.length c2,.iV i] h=some ⟨.iV q,h,[]⟩
theorem aeG {hp:ab}{b:Nat}{e:TypeId}{P S X U:List Int}(hU:hp.at b=some (.cells (al U) e))(h:U=P++X++S):cJ hp b e P S X=hp:=by
 unfold cJ;rw[←h];exact IN hU
theorem aeH {hp:ab}{b:Nat}{e:TypeId}{P S X:List Int}(hl:b<hp.length):(cJ hp b e P S X).at b=some (.cells (al (P++X++S)) e):=fx hl
theorem Fs {hp:ab}{b c:Nat}{e:TypeId}{P S X:List Int}(h:b≠c):(cJ hp b e P S X).at c=hp.at c:=wV h
theorem Ft {hp:ab}{b:Nat}{e:TypeId}{P S X:List Int}{t:Int}:cJ hp b e P (t::S) X=cJ hp b e (P++X) S [t]:=by
 unfold cJ;rw[show P++X++(t::S)=P++X++[t]++S by simp]
section
variable {t m:Nat} {x y:aN} {l:List aT} {pe:List AV} {lo:List (Nat×AV)} {df wr:List Nat} {v d:Int} {Q:aq->Prop}
theorem ajn (hx:(St.mk pe lo (cJ hp bu e P S [v]) df).ae x=some (.ptr bu m))(hl:bu<hp.length)(hm:m=P.length)
 (h:WO M l ⟨⟨pe,(t,.iV v)::lo,cJ hp bu e P S [v],df⟩,wr⟩ Q):WO M (⟨.l t,.load 1 false x,none⟩::l) ⟨⟨pe,lo,cJ hp bu e P S [v],df⟩,wr⟩ Q:=
 ajv (i:=0) hx hl Nat.zero_lt_one hm h
theorem ajo (hx:(St.mk pe lo (cJ hp bu e P S [v]) df).ae x=some (.ptr bu m))(hy:(St.mk pe lo (cJ hp bu e P S [v]) df).ae y=some (.iV d))(hl:bu<hp.length)(hm:m=P.length)
 (h:WO M l ⟨⟨pe,lo,cJ hp bu e P S [d],df⟩,bu::wr⟩ Q):WO M (⟨.no,.store 1 x y,none⟩::l) ⟨⟨pe,lo,cJ hp bu e P S [v],df⟩,wr⟩ Q:=
 ajw (i:=0) hx hy hl Nat.zero_lt_one hm h
end
theorem aeI (C:Of M){k N bu bq bf:Nat}{V U0:List Int}{fb:bw}(hbq:bu≠bq)(hbf:bu≠bf/\bq≠bf)(lN:N<100000000)(hN:k+3<=N)(hV:V.length=k+2)(oV:okW dB V)(hv:500000000<=V[k+1]!)(hU0:U0.length=N)(oU0:okW dB U0)(hup:WV dB (U0.drop (N-(k+2)))<WV dB V){Q:Ex->aq->Prop}(a0 a1 a2 a3 a4 a5 a6:AV)
 (hQ:∀U L K aC aD aE aF aG aH aI aJ aK lo wr,U.length=N->okW dB U->L.length=N-(k+2)->okW dB L->WV dB U0=WV dB V*WV dB L+WV dB U->WV dB U<WV dB V->ab.at K bu=some (.cells (al U) 3)->ab.at K bq=some (.cells (al L) 3)->ab.at K bf=some fb ->
   Q (.exit 2) ⟨⟨[a0,a1,a2,a3,a4,a5,a6,.vs (al V) V.length c2,.iV V.length,.sl bu 0 N 1 cu,.sl bq 0 (N-(k+2)) 1 cq,.iV (-1),aC,aD,aE,aF,aG,aH,aI,aJ,aK],lo,K,[]⟩,wr⟩)
 (aC aD aE aF aG aH aI aJ aK:AV) (K:ab) (lo:List (Nat×AV)) (wr:List Nat) (hKu:K.at bu=some (.cells (al U0) 3)) (hKq:K.at bq=some (.cells (al (List.replicate (N-(k+2)) 0)) 3)) (hKf:K.at bf=some fb) (j:Int) (hj:j=(N:Int)-(k+3)) :
 W M (.loop yX) ⟨⟨[a0,a1,a2,a3,a4,a5,a6,.vs (al V) V.length c2,.iV V.length,.sl bu 0 N 1 cu,.sl bq 0 (N-(k+2)) 1 cq,.iV j,aC,aD,aE,aF,aG,aH,aI,aJ,aK],lo,K,[]⟩,wr⟩ Q:=by
 refine W.fV (fun t s=>∃U L K iv aC aD aE aF aG aH aI aJ aK lo wr,s=⟨⟨[a0,a1,a2,a3,a4,a5,a6,.vs (al V) V.length c2,.iV V.length,.sl bu 0 N 1 cu,.sl bq 0 (N-(k+2)) 1 cq,.iV iv,aC,aD,aE,aF,aG,aH,aI,aJ,aK],lo,K,[]⟩,wr⟩ /\
  iv=(t:Int)-1/\t<=N-(k+2)/\U.length=N/\okW dB U/\L.length=N-(k+2)/\okW dB L/\(∀k,k<t->L[k]! = 0)/\WV dB U0=WV dB V*WV dB L+WV dB U/\WV dB (U.drop t)<WV dB V/\ab.at K bu=some (.cells (al U) 3)/\ab.at K bq=some (.cells (al L) 3)/\ab.at K bf=some fb) (fun t s ⟨U,L,K,iv,aC,aD,aE,aF,aG,aH,aI,aJ,aK,lo,wr,hs,hiv,ht,hU,oU,hL,oL,hz,hv1,hv2,hKu,hKq,hKf⟩=>?_) (m:=N-(k+2))
  ⟨_,_,_,_,_,_,_,_,_,_,_,_,_,_,_,rfl,by omega,Nat.le_refl _,hU0,oU0,by simp,kA (by decide),fun k _=>kD,by rw[kB,Int.mul_zero,Int.zero_add],hup,hKu,hKq,hKf⟩
 subst hs;cases t with
 | zero=>
  obtain rfl:iv = -1:=by omega
  unfold yX;exact gg8
 | succ i=>
  obtain rfl:iv=(i:Int):=by omega
  obtain⟨P,Y,S,eU,lP,lY,oP,oY,oS,gt,hS0,hXD,hT⟩:=aeD (i:=i) (by omega) oU hV oV hv2;obtain⟨t2,ht2⟩:∃t2,t2=U[i+k+2]! := ⟨_,rfl⟩;rw[←ht2]at eU gt hXD hT;have oX:okW dB (Y++[t2]):=jq oY (fun x hx=>by rw[List.mem_singleton.1 hx];exact gt);have lX:(Y++[t2]).length=k+3:=by simp[lY]
  have K3:=iu.of lX hV oX oV hv hT;have gX:∀m,m<k+3->(Y++[t2])[m]! = U[i+m]! := fun m hm=>by
   have:=Dg (P:=P) (X:=Y++[t2]) (S:=S) (i:=m) (by omega);rw[←eU,lP]at this;exact this.symm
  rw[gX _ (by omega),gX _ (by omega),gX _ (by omega),←Nat.add_assoc,←Nat.add_assoc]at K3;obtain⟨q,q0,hge,hle,q243⟩:=C.Og U V bu i k cu c2 3 K _ _ _ hKu hV (by omega) (by omega) K3;rw[hU]at q243;have hT0:0<=WV dB (Y++[t2]):=cg (by decide) oX;have hkl:=eM hKu;have hkq:=eM hKq;have hself:cJ K bu 3 P (t2::S) Y=K:=aeG hKu (by rw[eU];simp);have vX:WV dB (Y++[t2])=WV dB Y+dB^V.length*t2:=by rw[fK,lY,hV];simp[WV]
  have lYV:Y.length=V.length:=by omega
  have hPN:P.length+V.length<N:=by omega
  have eI:0+((i:Int)).toNat*1=i:=by omega
  have hiP:(i:Int)=(P.length:Int):=by omega
  have fin:∀(q' d:Int) L2 K' aC aD aE aF aG aH aI aJ aK lo wr,(0<=q'/\q'<1000000000)->L2.length=V.length->okW dB L2->d=0->WV dB L2=WV dB (Y++[t2])-q'*WV dB V->WV dB L2<WV dB V->K'=(cJ K bu 3 (P++L2) S [d]).put bq (some (.cells (al (L.set i q')) 3)) ->
   LI (fun s=>∃m',m'<i+1/\∃U L K iv aC aD aE aF aG aH aI aJ aK lo wr,s=⟨⟨[a0,a1,a2,a3,a4,a5,a6,.vs (al V) V.length c2,.iV V.length,.sl bu 0 N 1 cu,.sl bq 0 (N-(k+2)) 1 cq,.iV iv,aC,aD,aE,aF,aG,aH,aI,aJ,aK],lo,K,[]⟩,wr⟩ /\
    iv=(m':Int)-1/\m'<=N-(k+2)/\U.length=N/\okW dB U/\L.length=N-(k+2)/\okW dB L/\(∀k,k<m'->L[k]! = 0)/\WV dB U0=WV dB V*WV dB L+WV dB U/\WV dB (U.drop m')<WV dB V/\ab.at K bu=some (.cells (al U) 3)/\ab.at K bq=some (.cells (al L) 3)/\ab.at K bf=some fb) Q .normal ⟨⟨[a0,a1,a2,a3,a4,a5,a6,.vs (al V) V.length c2,.iV V.length,.sl bu 0 N 1 cu,.sl bq 0 (N-(k+2)) 1 cq,.iV ((P.length:Int)-1),aC,aD,aE,aF,aG,aH,aI,aJ,aK],lo,K',[]⟩,wr⟩:=fun q' d L2 K' aC aD aE aF aG aH aI aJ aK lo wr hq' hL2 oL2 hd vL2 hlt hK'=>by
   subst hd;subst hK';have hl1:bu<(cJ K bu 3 (P++L2) S [0]).length:=by rw[NS];exact hkl
   have hl2:bq<(cJ K bu 3 (P++L2) S [0]).length:=by rw[NS];exact hkq
   have e0:WV dB ([0]++S)=0:=by rw[List.singleton_append,WV,hS0];rfl
   have vU':WV dB (P++L2++[0]++S)=WV dB P+dB^i*WV dB L2:=by
    rw[List.append_assoc,fK,e0,Int.mul_zero,Int.add_zero,fK,lP]
   have vU:WV dB U=WV dB P+dB^i*WV dB (Y++[t2]):=by
    rw[eU,fK,hS0,Int.mul_zero,Int.add_zero,fK,lP]
   have lU':(P++L2++[0]++S).length=N:=by
    have h1:=congrArg List.length eU;simp only[List.length_append,List.length_cons,List.length_nil]at h1 ⊢;omega
   refine cN ⟨i,Nat.lt_succ_self i,P++L2++[0]++S,L.set i q',_,_,aC,aD,aE,aF,aG,aH,aI,aJ,aK,lo,wr,rfl,by omega,by omega,lU',jq (jq (jq oP oL2) (fun x hx=>by rw[List.mem_singleton.1 hx];exact⟨by decide,by decide⟩)) oS,by rw[List.length_set];exact hL,fY oL hq',fun k hk=>by rw[gJ (by omega)];exact hz k (by omega),?_,?_,?_,?_,?_⟩
   . rw[fZ (by omega),hz i (by omega),Int.sub_zero,vU',hv1,vU,vL2,Int.mul_add,Int.mul_sub];have e3:WV dB V*(dB^i*q')=dB^i*(q'*WV dB V):=by rw[←Int.mul_assoc,Int.mul_comm (WV dB V),Int.mul_assoc,Int.mul_comm (WV dB V)]
     rw[e3];omega
   . rw[←lP,List.append_assoc,List.append_assoc,List.drop_left,fK,e0,Int.mul_zero,Int.add_zero];exact hlt
   . rw[wV (Ne.symm hbq)];rw[aeH hkl]
   . exact fx hl2
   . rw[wV hbf.2,Fs hbf.1];exact hKf
  rw[hiP]at q243;have hQK:=hself;unfold yX;rw[hiP];refine gg18 ?_;rw[←hself];refine aeB (c2:=c2) (cu:=cu) hkl lN hPN lYV oY oV q q0 _ _ _ _ _ _ _ _ _ _ _ _ _ _ _ _ (fun L1 bo aF aG lo wr hL1 oL1 hbo hv3=>?_);have hmv:=Ft (hp:=K) (b:=bu) (e:=3) (P:=P) (S:=S) (X:=L1) (t:=t2);rw[hmv];have eq1:WV dB L1+dB^V.length*(t2-bo)=WV dB (Y++[t2])-q*WV dB V:=by
   rw[hv3,vX,Int.mul_sub];omega
  have lPL:(P++L1).length=P.length+V.length:=by rw[List.length_append,hL1]
  by_cases hd:t2-bo<0
  . refine gg7 ?_;have hmv2:=Ft (hp:=K) (b:=bu) (e:=3) (P:=P) (S:=S) (X:=L1) (t:=t2-bo);rw[←hmv2];refine aeC (c2:=c2) (cu:=cu) hkl lN hPN hL1 oL1 oV _ _ _ _ _ _ _ _ _ _ _ _ _ _ _ _ _ (fun L2 ca aJ lo wr hL2 oL2 hca hv4=>?_);have hmv3:=Ft (hp:=K) (b:=bu) (e:=3) (P:=P) (S:=S) (X:=L2) (t:=t2-bo);rw[hmv3];have lPL2:(P++L2).length=P.length+V.length:=by rw[List.length_append,hL2]
    obtain⟨q1,hz0,vL2,hlt⟩:=aeF rfl oL1 hL1 oL2 hL2 oV rfl eq1 hle hT0 hd q0.1 hv4;have hq2:(cJ K bu 3 (P++L2) S [t2-bo+ca]).at bq=some (.cells (al L) 3):=by rw[Fs hbq];exact hKq
    have eP:0+((P.length:Int)).toNat*1=i:=by omega
    exact gg0
  . obtain⟨hz0,vL1,hlt⟩:=aeE rfl oL1 hL1 oV rfl eq1 hge hd;have hq2:(cJ K bu 3 (P++L1) S [t2-bo]).at bq=some (.cells (al L) 3):=by rw[Fs hbq];exact hKq
    have eP:0+((P.length:Int)).toNat*1=i:=by omega
    exact gg0
theorem Fu {h:ab}(l:List Int):sm h (al l):=wk (fun _=>.cons (.atom rfl) .nil) l
theorem zk {h:ab}{l:List Int}{n:Nat}:cO h (.vs (al l) n cap) (.vs (al l) n cap):=cO.mM (Fu l)
theorem Fv {h:ab}{b n:Nat}{L:List Int}{e:TypeId}(hb:h.at b=some (.cells (al L) e))(hn:n<=L.length):cO h (.sl b 0 n 1 cap) (.vs (al (L.take n)) (L.take n).length none):=by
 have hl:(L.take n).length=n:=by rw[List.length_take];omega
 rw[hl];refine .sl (m:=al (L.take n)) hb ?_ rfl fun i x y hx hy=>?_
 . have:=ku (f:=iC) (esz:=1) (fun _=>rfl) (l:=L) (i:=0) (n:=n) (by omega);simpa using this
 . rw[hx]at hy;cases hy;obtain⟨z,hz⟩:∃z,x = .iV z:=by
    have hm:=List.mem_of_getElem? hx;have:∀l:List Int,∀x∈al l,∃z,x = .iV z:=by
     intro l;induction l with
     | nil=>intro x hx;cases hx
     | cons a l ih=>
      intro x hx;have:al (a::l) = .iV a::al l:=rfl;rw[this]at hx;rcases List.mem_cons.1 hx with rfl|hx
      . exact⟨a,rfl⟩
      . exact ih x hx
    exact this _ _ hm
   subst hz;exact .atom rfl
structure Oh (M:aw):Prop extends Of M where
 tY:∀(a b:List Int) c1 c2 h,okW dB a->okW dB b->aM a->aM b->a.length<1000000000->b.length<1000000000->M.ext 218 [.vs (al a) a.length c1,.vs (al b) b.length c2] h=some ⟨.iV (bg (WV dB a-WV dB b)),h,[]⟩
 qV:∀(x y:AV) (a b:List Int) c1 c2 h,cO h x (.vs (al a) a.length c1)->cO h y (.vs (al b) b.length c2)->okW dB a->okW dB b->a.length<10000000->b.length<10000000->0<a.length+b.length->∃r,okW dB r/\aM r/\WV dB r=WV dB a*WV dB b/\M.ext 197 [x,y] h=some ⟨.vs (al r) r.length none,h,[]⟩
 Fw:∀(x:AV) (a:List Int) c h (d:Int),cO h x (.vs (al a) a.length c)->okW dB a->a.length<10000000->(0<d/\d<=1000000000)->∃q,okW dB q/\aM q/\WV dB q=WV dB a/d/\M.ext 241 [x,.iV d] h=some ⟨.au [.vs (al q) q.length none,.iV (WV dB a%d)],h,[]⟩
theorem aeJ {t f r:Int}(ht:1<=t/\t<1000000000)(hf:(t+1)*f+r=1000000000)(hr:0<=r/\r<t+1):1<=f/\f<=500000000/\500000000<=t*f:=by
 have e:(t+1)*f=t*f+f:=by rw[Int.add_mul,Int.one_mul]
 have f0:1<=f:=by
  rcases Int.lt_or_le f 1 with h|h
  . have:=Int.mul_le_mul_of_nonneg_left (show f<=0 by omega) (show 0<=t+1 by omega);rw[Int.mul_zero]at this;omega
  . exact h
 have h2:2*f<=(t+1)*f:=Int.mul_le_mul_of_nonneg_right (by omega) (by omega);refine⟨f0,by omega,?_⟩;by_cases hbig:500000000<=t
 . have:=Int.mul_le_mul_of_nonneg_left f0 (show 0<=t by omega);omega
 . have f2:2<=f:=by
    rcases Int.lt_or_le f 2 with h|h
    . obtain rfl:f=1:=by omega
      omega
    . exact h
   have h3:=Int.mul_nonneg (show 0<=t-1 by omega) (show 0<=f-2 by omega);have e3:(t-1)*(f-2)=t*f-2*t-f+2:=by grind
   rw[e3]at h3;by_cases r2:2<=r
   . omega
   . by_cases r0:r=0
     . subst r0;omega
     . have r1:r=1:=by omega
       subst r1;by_cases t1:t=1
       . subst t1;omega
       . have h4:3*f<=(t+1)*f:=Int.mul_le_mul_of_nonneg_right (by omega) (by omega);omega
theorem aeK {b V:List Int}{k:Nat}{f:Int}(hb:b.length=k+2)(ob:okW dB b)(hf:1<=f)(hth:500000000<=b[k+1]! * f)(htf:(b[k+1]! + 1)*f<=1000000000)(oV:okW dB V)(nV:aM V)(vV:WV dB V=WV dB b*f):V.length=k+2/\500000000<=V[k+1]! := by
 have e0:=jg (b:=dB) (l:=b) (n:=k+1) (by omega);have l0:=cg (b:=dB) (by decide) (di ob (k+1));have l1:=cR (b:=dB) (by decide) (di ob (k+1));rw[List.length_take,Nat.min_eq_left (by omega)]at l1;have hP:0<dB^(k+1):=Int.pow_pos (by decide);obtain⟨t,ht⟩:∃t,t=b[k+1]! := ⟨_,rfl⟩;rw[←ht]at e0 hth htf;have m1:dB^(k+1)*500000000<=WV dB V:=by
  have h1:=Int.mul_le_mul_of_nonneg_left hth (Int.le_of_lt hP);have h2:=Int.mul_nonneg l0 (show 0<=f by omega);rw[vV,e0,Int.add_mul,Int.mul_assoc];omega
 have m2:WV dB V<dB^(k+1)*1000000000:=by
  have h1:=Int.mul_le_mul_of_nonneg_left htf (Int.le_of_lt hP);have h2:=Int.mul_lt_mul_of_pos_right l1 (show 0<f by omega);rw[Int.add_mul,Int.one_mul,Int.mul_add]at h1;rw[vV,e0,Int.add_mul,Int.mul_assoc];omega
 have hPs:dB^(k+2)=dB^(k+1)*1000000000:=Int.pow_succ _ _;have hlen:V.length<=k+2:=fL (b:=dB) (by decide) oV nV (by rw[hPs];exact m2);have hlen2:k+2<=V.length:=by
  rcases Nat.lt_or_ge V.length (k+2) with h|h
  . have h1:=cR (b:=dB) (by decide) oV;have h2:=fR (b:=dB) (by decide) (show V.length<=k+1 by omega);omega
  . exact h
 have hl:V.length=k+2:=by omega
 refine⟨hl,?_⟩;have e1:=jg (b:=dB) (l:=V) (n:=k+1) (by omega);have g1:=cR (b:=dB) (by decide) (di oV (k+1));rw[List.length_take,Nat.min_eq_left (by omega)]at g1;have:dB^(k+1)*500000000<dB^(k+1)*(V[k+1]! + 1):=by rw[Int.mul_add,Int.mul_one];omega
 have:=Int.lt_of_mul_lt_mul_left this (Int.le_of_lt hP);omega
theorem aeL {a b U:List Int}{k:Nat}{f:Int}(hf:0<f)(ha:k+2<=a.length)(oa:okW dB a)(hb:b.length=k+2)(ob:okW dB b)(nb:aM b)(hU:U.length=a.length+1)(oU:okW dB U)(vU:WV dB U=WV dB a*f) :
 WV dB (U.drop (a.length+1-(k+2)))<WV dB b*f:=by
 have e1:=lH (b:=dB) (l:=U) (i:=a.length+1-(k+2)) (by omega);have l0:=cg (b:=dB) (by decide) (di oU (a.length+1-(k+2)));have l1:=cR (b:=dB) (by decide) oa;have hg:=qq (b:=dB) (by decide) ob nb (by omega);rw[hb,show k+2-1=k+1 by omega]at hg;have hP:0<dB^(a.length+1-(k+2)):=Int.pow_pos (by decide);have ep:dB^a.length=dB^(a.length+1-(k+2))*dB^(k+1):=by rw[←Int.pow_add,show a.length+1-(k+2)+(k+1)=a.length by omega]
 have m1:=Int.mul_lt_mul_of_pos_right l1 hf;have m2:=Int.mul_le_mul_of_nonneg_right hg (Int.le_of_lt hf);rw[ep,Int.mul_assoc]at m1;have:dB^(a.length+1-(k+2))*WV dB (U.drop (a.length+1-(k+2)))<dB^(a.length+1-(k+2))*(dB^(k+1)*f):=by omega
 have:=Int.lt_of_mul_lt_mul_left this (Int.le_of_lt hP);omega
theorem aeM {a A:List Int}{f:Int}(hf:1<=f/\f<=500000000)(oa:okW dB a)(na:aM a)(ha:a≠[])(oA:okW dB A)(nA:aM A)(vA:WV dB A=WV dB a*f):A≠[]/\A.length<=a.length+1:=by
 have p:=(jd (b:=dB) (by decide) oa na).2 ha;have hp:0<WV dB a*f:=Int.mul_pos p (by omega);refine⟨fun e=>by rw[e]at vA;simp[WV]at vA;omega,fL (b:=dB) (by decide) oA nA ?_⟩;have l1:=cR (b:=dB) (by decide) oa;have h1:=Int.mul_lt_mul_of_pos_right l1 (show 0<f by omega);have h2:=Int.mul_le_mul_of_nonneg_left (show f<=1000000000 by omega) (Int.le_of_lt (Int.pow_pos (n:=dB) (m:=a.length) (by decide)));have h3:dB^(a.length+1)=dB^a.length*1000000000:=Int.pow_succ _ _;omega
theorem aeN {a A:List Int}(la:a.length<1000000)(hA:A.length<=a.length+1){Q:Ex->aq->Prop}{fb:bw}(a1 a2 a3 a4 a5 a6 a7 a8 aA aB aC aD aE aF aG aH aI aJ aK:AV)
 (hQ:∀o K lo wr,bS iC 1 3 K o (A++List.replicate (a.length+1-A.length) 0) [0]->ab.at K 0=some fb->Q (.exit 0) ⟨⟨[.vs (al a) a.length c1,a1,a2,a3,a4,a5,a6,a7,a8,o,aA,aB,aC,aD,aE,aF,aG,aH,aI,aJ,aK],lo,K,[]⟩,wr⟩)
 (o:AV) (K:ab) (lo:List (Nat×AV)) (wr:List Nat) (ho:bS iC 1 3 K o A [0]) (hK:K.at 0=some fb) :
 W M (.loop yU) ⟨⟨[.vs (al a) a.length c1,a1,a2,a3,a4,a5,a6,a7,a8,o,aA,aB,aC,aD,aE,aF,aG,aH,aI,aJ,aK],lo,K,[]⟩,wr⟩ Q:=by
 refine W.fV (fun m st=>∃d o K lo wr,st=⟨⟨[.vs (al a) a.length c1,a1,a2,a3,a4,a5,a6,a7,a8,o,aA,aB,aC,aD,aE,aF,aG,aH,aI,aJ,aK],lo,K,[]⟩,wr⟩/\A.length+d+m=a.length+1/\bS iC 1 3 K o (A++List.replicate d 0) [0]/\ab.at K 0=some fb)
  (fun m st ⟨d,o,K,lo,wr,hst,hm,ho,hK⟩=>?_) (m:=a.length+1-A.length) ⟨0,o,K,lo,wr,rfl,by omega,by simpa using ho,hK⟩
 subst hst;have hlen:(A++List.replicate d (0:Int)).length=A.length+d:=by simp
 have hsl:∃b cp,o = .aa/\A.length+d=0\/o = .sl b 0 (A++List.replicate d (0:Int)).length 1 cp:=by
  rcases ho with ⟨h1,h2⟩|⟨c,cp,_,h2,_,_⟩
  . exact⟨0,none,.inl ⟨h2,by rw[←hlen,h1];rfl⟩⟩
  . exact⟨c,cp,.inr h2⟩
 have hroom:((A++List.replicate d (0:Int)).length+1)*8<=dv:=by rw[hlen];unfold dv;omega
 have hK1:=eM hK;have next:∀H o' lo w',bS iC 1 3 H o' (A++List.replicate d 0++[0]) [0]->ab.at H 0=some fb->0<m->LI (fun st=>∃m',m'<m/\∃d o K lo wr,st=⟨⟨[.vs (al a) a.length c1,a1,a2,a3,a4,a5,a6,a7,a8,o,aA,aB,aC,aD,aE,aF,aG,aH,aI,aJ,aK],lo,K,[]⟩,wr⟩/\A.length+d+m'=a.length+1/\bS iC 1 3 K o (A++List.replicate d 0) [0]/\ab.at K 0=some fb) Q .normal ⟨⟨[.vs (al a) a.length c1,a1,a2,a3,a4,a5,a6,a7,a8,o',aA,aB,aC,aD,aE,aF,aG,aH,aI,aJ,aK],lo,H,[]⟩,w'⟩:=fun H o' lo w' h1 h2 h3=>
  cN ⟨m-1,by omega,d+1,o',H,lo,w',rfl,by omega,by rw[List.append_assoc,←List.replicate_succ']at h1;exact h1,h2⟩
 have stop:∀lo wr,m=0->Q (.exit 0) ⟨⟨[.vs (al a) a.length c1,a1,a2,a3,a4,a5,a6,a7,a8,o,aA,aB,aC,aD,aE,aF,aG,aH,aI,aJ,aK],lo,K,[]⟩,wr⟩:=fun lo wr h=>by
  have:d=a.length+1-A.length:=by omega
  subst this;exact hQ o K lo wr ho hK
 obtain⟨b,cp,⟨rfl,hz⟩|rfl⟩:=hsl
 . unfold yU;exact gg15
 . unfold yU;repeat' first|(refine bS.app (f:=iC) (m:=[(0:Int)]) (S:=[0]) (fun _=>rfl) (fun _=>rfl) (by decide) (ho.grow [_]) (by simp) rfl rfl (Sl.iJ (f:=iC) (esz:=1) (l:=[(0:Int)]) (e:=3) (fun _=>rfl) cU rfl) hroom (fun H w' o' ho' hk hlen=>?_))|(apply abt;rfl;rfl)|refine gc ?_|(intro _;omega)|intro _
   all_goals try omega
   all_goals first|exact next _ _ _ _ ho' (hk 0 _ (by simp) (dL hK)) (by omega)|exact stop _ _ (by omega)
theorem aeO {h:ab}{b m:Nat}{U:List Int}{e:TypeId}(hb:h.at b=some (.cells (al U) e))(hm:m<=U.length):cO h (bz b m none) (.vs (al (U.take m)) (U.take m).length none):=by
 rcases Nat.eq_zero_or_pos m with rfl|h0
 . rw[tS];exact zk (l:=[]) (n:=0)
 . rw[show bz b m none = .sl b 0 m 1 none from if_pos h0];exact Fv hb hm
theorem jF.mix {d1:Option Nat}{b1:Nat}{L1 R:List Int}{e1:TypeId}{hp:ab}{n1:Nat}(h1:hp.at b1=some (.cells (al L1) e1))(hn1:n1<=L1.length) :
 jF (aU [bz b1 (aP (L1.take n1)) d1,.vs (al R) R.length none]) (if (aU [bz b1 (aP (L1.take n1)) d1,.vs (al R) R.length none]).top<=0 then [] else hp) (L1.take (aP (L1.take n1))) R:=by
 obtain⟨x,hx⟩:∃x,x=bz b1 (aP (L1.take n1)) d1:=⟨_,rfl⟩;obtain⟨hh,hhh⟩:∃hh,hh=(if (aU [x,.vs (al R) R.length none]).top<=0 then [] else hp):=⟨_,rfl⟩;have et:(aU [x,.vs (al R) R.length none]).top=max x.top (max (bh (al R)) 0):=rfl;rw[fm]at et;obtain⟨v1,f1,t1,k1⟩:=Fo (cap:=d1) h1 hn1 hh (fun h=>by rw[hhh,if_neg];rw[←hx]at h;omega);rw[←hx,←hhh];rw[←hx]at f1;refine⟨.au [v1,.vs (al R) R.length none],_,_,.au rfl (fun i a b ha hb=>?_),?_,?_,.inl rfl,.inl rfl⟩
 . match i with
   | 0=>cases ha;cases hb;exact f1
   | 1=>cases ha;cases hb;exact .same (fm R)
   | i+2=>cases ha
 . show max v1.top (max (bh (al R)) 0)=0;rw[t1,fm];rfl
 . simp only[bG,cA,k1,pj]
theorem jF.aeP {d1:Option Nat}{b1:Nat}{L1 R:List Int}{e1:TypeId}{hp:ab}{n1:Nat}(h1:hp.at b1=some (.cells (al L1) e1))(hn1:n1<=L1.length) :
 jF (aU [.vs (al R) R.length none,bz b1 (aP (L1.take n1)) d1]) (if (aU [.vs (al R) R.length none,bz b1 (aP (L1.take n1)) d1]).top<=0 then [] else hp) R (L1.take (aP (L1.take n1))):=by
 obtain⟨x,hx⟩:∃x,x=bz b1 (aP (L1.take n1)) d1:=⟨_,rfl⟩;obtain⟨hh,hhh⟩:∃hh,hh=(if (aU [.vs (al R) R.length none,x]).top<=0 then [] else hp):=⟨_,rfl⟩;have et:(aU [.vs (al R) R.length none,x]).top=max (bh (al R)) (max x.top 0):=rfl;rw[fm]at et;obtain⟨v1,f1,t1,k1⟩:=Fo (cap:=d1) h1 hn1 hh (fun h=>by rw[hhh,if_neg];rw[←hx]at h;omega);rw[←hx,←hhh];rw[←hx]at f1;refine⟨.au [.vs (al R) R.length none,v1],_,_,.au rfl (fun i a b ha hb=>?_),?_,?_,.inl rfl,.inl rfl⟩
 . match i with
   | 0=>cases ha;cases hb;exact .same (fm R)
   | 1=>cases ha;cases hb;exact f1
   | i+2=>cases ha
 . show max (bh (al R)) (max v1.top 0)=0;rw[t1,fm];rfl
 . simp only[bG,cA,k1,pj]
theorem Oi {L:List Int}{n:Nat}:L.take (aP (L.take n))=(L.take n).take (aP (L.take n)):=by
 have h:=im (l:=L.take n);rw[List.length_take]at h;rw[List.take_take,Nat.min_eq_left (by omega)]
theorem akl {t:Nat}{x y:aN}{l:List aT}{pe:List AV}{lo:List (Nat×AV)}{hp:ab}{df wr:List Nat}{a d v:Int}{Q:aq->Prop}(hx:(St.mk pe lo hp df).ae x=some (.iV a))(hy:(St.mk pe lo hp df).ae y=some (.iV d))(ha:0<=a/\a<9223372036854775808)(hd:0<d)(hv:a/d=v)
 (h:WO M l ⟨⟨pe,(t,.iV v)::lo,hp,df⟩,wr⟩ Q):WO M (⟨.l t,.bin .quo x y,none⟩::l) ⟨⟨pe,lo,hp,df⟩,wr⟩ Q:=by
 subst hv;exact aiJ hx hy ha hd h
theorem Oj (C:Oh M)(a b:List Int)(oa:okW dB a)(ob:okW dB b)(na:aM a)(nb:aM b)(la:a.length<100000)(lb:b.length<100000)(hb:b≠[]):NT M 195 [.vs (al a) a.length c1,.vs (al b) b.length c2] (WV dB a) (WV dB b):=by
 have a0:=cg (b:=dB) (by decide) oa;have b0:=(jd (b:=dB) (by decide) ob nb).2 hb;have q218:=fun h=>C.tY a b c1 c2 h oa ob na nb (by omega) (by omega)
 refine aeq (by rw[C.ft];exact NL) (by simp) ?_;unfold Fi;simp only[enter];by_cases hlt:WV dB a<WV dB b
 . have e:bg (WV dB a-WV dB b) = -1:=if_pos (by omega);rw[e]at q218;repeat' first|(apply abt;rfl;rfl)|refine gd0 ?_|refine gc ?_|(intro _;omega)|intro _
   all_goals try omega
   exact⟨.inr rfl,rfl,_,rfl,[],a,⟨ix,jK,(Int.ediv_eq_zero_of_lt a0 hlt).symm⟩,⟨oa,na,(Int.emod_eq_of_lt a0 hlt).symm⟩,jF.less⟩
 obtain⟨g,hg⟩:∃g,g=bg (WV dB a-WV dB b):=⟨_,rfl⟩;have g0:0<=g:=by
  rw[hg];unfold bg;split
  . omega
  . split <;> omega
 rw[←hg]at q218;have lb0:b.length≠0:=fun h=>hb (List.eq_nil_of_length_eq_zero h)
 by_cases hl1:b.length=1
 . have t0:=lI nb (by omega);rw[hl1,show 1-1=0 by omega]at t0;have gb:=bT ob (i:=0) (by omega);have vb:WV dB b=b[0]! := by
    have:=jg (b:=dB) (l:=b) (n:=0) (by omega);simpa[WV] using this
   have gb2:0<b[0]! /\ b[0]! < 1000000000:=⟨by omega,gb.2⟩;obtain⟨Q,oQ,nQ,vQ,q241⟩:=C.Fw (.vs (al a) a.length c1) a c1 [] b[0]! zk oa (by omega) ⟨gb2.1,by omega⟩;have r0:=Int.emod_nonneg (WV dB a) (show b[0]! ≠ 0 by omega);have r1:=Int.emod_lt_of_pos (WV dB a) gb2.1;obtain⟨re,hre⟩:∃re,re=WV dB a%b[0]! := ⟨_,rfl⟩;rw[←hre]at q241 r0 r1;have e0:b[(0:Int).toNat]! = b[0]! := rfl;have q2:CT M (ir 242) [.sl 0 0 1 1 (some 1)] [some (.cells (al [re]) 3)] ⟨bz 0 (aP ([re].take 1)) (some 1),[some (.cells (al [re]) 3)],[]⟩:=pk (cap:=some 1) C.ft C.dP rfl Nat.zero_lt_one (Nat.le_refl _) (by decide) (fun c hc=>by cases hc;exact Nat.le_refl _);repeat' first|(apply abt;rfl;rfl)|(apply acJ;rfl;rfl)|(apply aal;rfl;rfl;first|exact q218 _|exact q241)|(apply aeT;rfl;rfl;first|exact q2)|refine gc ?_|(intro _;omega)|intro _
   all_goals try omega
   have hout:=jF.aeP (d1:=some 1) (b1:=0) (L1:=[re]) (R:=Q) (e1:=3) (hp:=[some (.cells (al [re]) 3)]) (n1:=1) rfl (Nat.le_refl _);refine⟨.inr rfl,rfl,_,rfl,Q,_,⟨oQ,nQ,by rw[vQ,vb]⟩,?_,hout⟩;rw[List.take_of_length_le (show [re].length<=1 from Nat.le_refl _)];obtain⟨h1,h2,h3⟩:=ph (L:=[re]) (fun x hx=>by rw[List.mem_singleton.1 hx];exact⟨r0,by show _<(1000000000:Int);omega⟩);exact⟨h1,h2,by rw[h3,vb,←hre];simp[WV]⟩
 obtain⟨k,hk⟩:∃k,b.length=k+2:=⟨b.length-2,by omega⟩;have ha:k+2<=a.length:=by
  rcases Nat.lt_or_ge a.length (k+2) with h|h
  . exact absurd (oC (b:=dB) (by decide) oa ob nb (by omega)) hlt
  . exact h
 have ane:a≠[]:=fun e=>by rw[e]at ha;simp at ha
 have t0:=lI nb (by omega);rw[show b.length-1=k+1 by omega]at t0;have gt:=bT ob (i:=k+1) (by omega);obtain⟨t,ht⟩:∃t,t=b[k+1]! := ⟨_,rfl⟩;rw[←ht]at t0 gt;have gt:0<=t/\t<1000000000:=gt;have htb:b[((b.length:Int)-1).toNat]! = t:=by rw[show ((b.length:Int)-1).toNat=k+1 by omega];exact ht.symm
 obtain⟨f,hf⟩:∃f,f=1000000000/(t+1):=⟨_,rfl⟩;have hfe:=Int.mul_ediv_add_emod 1000000000 (t+1);rw[←hf]at hfe;obtain⟨f1,f2,f3⟩:=aeJ (t:=t) (f:=f) ⟨by omega,gt.2⟩ hfe ⟨Int.emod_nonneg _ (by omega),Int.emod_lt_of_pos _ (by omega)⟩;have f4:(t+1)*f<=1000000000:=by
  have:=Int.emod_nonneg 1000000000 (show t+1≠0 by omega);omega
 have of:okW dB [f]:=fun x hx=>by rw[List.mem_singleton.1 hx];exact⟨by omega,by show _<(1000000000:Int);omega⟩
 have vf:WV dB [f]=f:=by simp[WV]
 obtain⟨V,oV,nV,vV,q197b⟩:=C.qV (.vs (al b) b.length c2) (.sl 0 0 1 1 (some 1)) b [f] c2 none [some (.cells (al [f]) 3)] zk (Fv (L:=[f]) (n:=1) (e:=3) rfl (Nat.le_refl _)) ob of (by omega) (by simp) (by omega);rw[vf]at vV;rw[ht]at f3 f4;obtain⟨lV,hvt⟩:=aeK hk ob f1 f3 f4 oV nV vV;obtain⟨A,oA,nA,vA,q197a⟩:=C.qV (.vs (al a) a.length c1) (.sl 0 0 1 1 (some 1)) a [f] c1 none [some (.cells (al [f]) 3),some (.cells (al []) 3)] zk (Fv (L:=[f]) (n:=1) (e:=3) rfl (Nat.le_refl _)) oa of (by omega) (by simp) (by omega);rw[vf]at vA;obtain⟨Ane,lA⟩:=aeM ⟨f1,f2⟩ oa na ane oA nA vA;rw[←ht]at f3 f4;have hroom:(([]:List Int).length+A.length)*8<=dv:=by rw[List.length_nil];unfold dv;omega
 have hfq:1000000000/(b[((b.length:Int)-1).toNat]! + 1)=f:=by rw[htb,hf]
 repeat' first|(apply akl (a:=1000000000) (v:=f);rfl;rfl;decide;(rw[htb];omega);exact hfq)|(refine bS.app (f:=iC) (m:=A) (acc:=[]) (S:=[0]) (hp:=[some (.cells (al [f]) 3),some (.cells (al []) 3)]) (fun _=>rfl) (fun _=>rfl) (by decide) (.inr ⟨1,some 0,by simp,rfl,rfl,.inr ⟨rfl,rfl⟩⟩) (by simp) rfl rfl (.inr (.inl ⟨_,rfl⟩)) hroom (fun H w' o' ho' hk' hlen=>?_))|(apply abt;rfl;rfl)|(apply acJ;rfl;rfl)|(apply aal;rfl;rfl;first|exact q218 _|exact q197b|exact q197a)|refine gc ?_|(intro _;omega)|intro _
 all_goals try omega
 rw[List.nil_append]at ho';refine aeN (c1:=c1) (fb:=.cells (al [f]) 3) (by omega) lA _ _ _ _ _ _ _ _ _ _ _ _ _ _ _ _ _ _ _ (fun o K lo wr hoK hK0=>?_) _ _ _ _ ho' (hk' 0 _ (by simp) rfl);obtain⟨U0,hU0⟩:∃U0,U0=A++List.replicate (a.length+1-A.length) 0:=⟨_,rfl⟩;rw[←hU0]at hoK;have lU0:U0.length=a.length+1:=by rw[hU0];simp;omega
 have oU0:okW dB U0:=by rw[hU0];exact jq oA (kA (by decide))
 have vU0:WV dB U0=WV dB a*f:=by rw[hU0,fK,kB,Int.mul_zero,Int.add_zero,vA]
 rcases hoK with ⟨h1,_⟩|⟨bu,cp,hb0,rfl,hbu,hcap⟩
 . rw[h1]at lU0;simp at lU0
 obtain rfl:cp=none:=hcap.resolve_right fun h=>by rw[h.1]at lU0;simp at lU0
 have hb0:bu≠0:=fun e=>hb0 (by simp[e])
 have hbl:=eM hbu;have hK0l:=eM hK0;rw[lU0];repeat' first|refine gc ?_|fail
 all_goals try omega
 rw[show (((a.length+1:Nat):Int)-(V.length:Int)).toNat=a.length+1-(k+2) by omega];have hup:=aeL (f:=f) (by omega) ha oa hk ob nb lU0 oU0 vU0;rw[←vV]at hup;refine aeI (c2:=none) (cu:=none) (cq:=some (a.length+1-(k+2))) (k:=k) (N:=a.length+1) (bu:=bu) (bq:=K.length) (bf:=0) (V:=V) (U0:=U0) (fb:=.cells (al [f]) 3) C.toOf (by omega) ⟨hb0,by omega⟩ (by omega) (by omega) lV oV hvt lU0 oU0 hup _ _ _ _ _ _ _ (fun U L K2 aC aD aE aF aG aH aI aJ aK lo wr lU oU lL oL hv hlU hK2u hK2q hK2f=>?_) _ _ _ _ _ _ _ _ _ _ _ _ (dL hbu) cU (dL hK0) _ (by omega);have lt:=cR (b:=dB) (by decide) oV;have hU0n:=cg (b:=dB) (by decide) oU;rw[vU0,vV]at hv;rw[vV]at hlU;obtain⟨d1,d2⟩:=Kb (p:=f) (by omega) hv hU0n hlU;have q1:CT M (ir 242) [.sl bu 0 V.length 1 none] K2 ⟨bz bu (aP (U.take V.length)) none,K2,[]⟩:=pk (cap:=none) C.ft C.dP hK2u (by omega) (by omega) (by omega) (fun _ h=>by cases h);have q2:CT M (ir 242) [.sl K.length 0 (a.length+1-(k+2)) 1 (some (a.length+1-(k+2)))] K2 ⟨bz K.length (aP (L.take (a.length+1-(k+2)))) (some (a.length+1-(k+2))),K2,[]⟩:=pk (cap:=some (a.length+1-(k+2))) C.ft C.dP hK2q (by omega) (by omega) (by omega) (fun c hc=>by cases hc;exact Nat.le_refl _);have hm:=im (l:=U.take V.length);rw[List.length_take]at hm;have hfrc:=aeO hK2u (m:=aP (U.take V.length)) (by omega);have vT:WV dB (U.take (aP (U.take V.length)))=WV dB U:=by
  rw[Oi,wM];have e1:=lH (b:=dB) (l:=U) (i:=V.length) (by omega);have l0:=cg (b:=dB) (by decide) (di oU V.length);have l1:=cg (b:=dB) (by decide) (jc oU V.length);have hP:0<dB^V.length:=Int.pow_pos (by decide);rcases Int.lt_or_le 0 (WV dB (U.drop V.length)) with h|h
  . have:=Int.mul_le_mul_of_nonneg_left (show 1<=WV dB (U.drop V.length) by omega) (Int.le_of_lt hP);rw[←vV]at hlU;omega
  . have z:WV dB (U.drop V.length)=0:=by omega
    rw[z,Int.mul_zero,Int.add_zero]at e1;exact e1.symm
 obtain⟨R,oR,nR,vR,q241⟩:=C.Fw (bz bu (aP (U.take V.length)) none) (U.take (aP (U.take V.length))) none K2 f hfrc (di oU _) (by rw[List.length_take];omega) ⟨by omega,by omega⟩;have vR:WV dB R=WV dB a%WV dB b:=by rw[vR,vT,d2,Int.mul_ediv_cancel_left _ (by omega)]
 repeat' first|(apply ajD (r:=V.length) (k:=.i64);rfl;rfl;omega;omega;(intro c hc;cases hc))|(apply ajy;rfl;rfl;rfl;exact q1)|(apply aeT;rfl;rfl;first|exact q1|exact q2)|(apply aiZ (L:=[f]) (v:=f);rfl;exact hK2f;exact Nat.zero_lt_one;rfl)|(apply ahy;rfl;rfl;(first|(simp only[nca];rfl)|rfl);first|exact q241)|refine gc ?_|fail
 all_goals try omega
 have hout:=jF.mix (d1:=some (a.length+1-(k+2))) (b1:=K.length) (L1:=L) (R:=R) (e1:=3) (hp:=K2) (n1:=a.length+1-(k+2)) hK2q (by omega);refine⟨.inr rfl,rfl,_,rfl,_,_,?_,⟨oR,nR,vR⟩,hout⟩;rw[Oi,List.take_of_length_le (show L.length<=a.length+1-(k+2) by omega)];obtain⟨h1,h2,h3⟩:=ph oL;exact⟨h1,h2,by rw[h3,d1]⟩
structure Ok (M:aw):Prop where
 ft:M.FT=FT
 kN:∀(a b:List Int),okW dB a->okW dB b->aM a->aM b->a.length<100000->b.length<100000->b≠[]->∃qv q rv r,cz qv q/\cz rv r/\okW dB r/\aM r/\WV dB q=WV dB a/WV dB b/\WV dB r=WV dB a%WV dB b/\∀h,M.ext 195 [.vs (al a) a.length none,.vs (al b) b.length none] h=some ⟨.au [qv,rv],h,[]⟩
theorem aeR (C:Ok M)(a b:List Int)(oa:okW dB a)(ob:okW dB b)(na:aM a)(nb:aM b)(la:a.length<100000)(lb:b.length<100000) :
 ∃g,okW dB g/\aM g/\WV dB g=(Int.gcd (WV dB a) (WV dB b):Nat)/\cD M 155 [.vs (al a) a.length none,.vs (al b) b.length none] (.vs (al g) g.length none):=by
 obtain⟨v,hh,⟨g,og,ng,vg,ho⟩,hr⟩:=gH (M:=M) (f:=155) (ars:=[.vs (al a) a.length none,.vs (al b) b.length none]) (P:=fun v hh=>∃g,okW dB g/\aM g/\WV dB g=(Int.gcd (WV dB a) (WV dB b):Nat)/\ew v hh (.vs (al g) g.length none)) (by rw[C.ft];exact NK) (by simp) (by
  unfold Fh;simp only[enter];repeat' first|refine gc ?_|fail
  refine W.fV (fun m st=>∃A B y a3 lo wr,st=⟨⟨[.vs (al A) A.length none,y,.aa,a3],lo,[],[]⟩,wr⟩/\cz y B/\m=(WV dB B).toNat/\okW dB A/\aM A/\A.length<100000/\okW dB B/\aM B/\B.length<100000/\Int.gcd (WV dB A) (WV dB B)=Int.gcd (WV dB a) (WV dB b))
   (fun m st ⟨A,B,y,a3,lo,wr,hst,hy,hm,oA,nA,lA,oB,nB,lB,hg⟩=>?_) (m:=(WV dB b).toNat) ⟨a,b,_,_,_,_,rfl,.inl rfl,rfl,oa,na,la,ob,nb,lb,rfl⟩
  subst hst;by_cases hB:B=[]
  . subst hB;have hl0:([]:List Int).length=0:=rfl;have fin:ew (aU [.vs (al A) A.length none]) (if (aU [AV.vs (al A) A.length none]).top<=0 then [] else []) (.vs (al A) A.length none):=.same (fm A) (by rw[aU,bG,pj]);have hv:WV dB A=(Int.gcd (WV dB a) (WV dB b):Nat):=by
     rw[←hg];have:=cg (b:=dB) (by decide) oA;show WV dB A=(Int.gcd (WV dB A) 0:Nat);rw[Int.gcd_zero_right];omega
    rcases hy with rfl|⟨rfl,_⟩;all_goals
    . unfold tO;exact gg3
  . obtain rfl:y = .vs (al B) B.length none:=hy.resolve_right fun h=>hB h.2
    have hBl:0<B.length:=List.length_pos_iff.2 hB;have hBp:=(jd (b:=dB) (by decide) oB nB).2 hB;have hA0:=cg (b:=dB) (by decide) oA;obtain⟨qv,q,rv,r,hq,hr,or_,nr,vq,vr,q195⟩:=C.kN A B oA oB nA nB lA lB hB;have r1:=Int.emod_lt_of_pos (WV dB A) hBp;have r0:=Int.emod_nonneg (WV dB A) (show WV dB B≠0 by omega);have lr:r.length<=B.length:=fL (b:=dB) (by decide) or_ nr (Int.lt_trans (by rw[vr];exact r1) (cR (by decide) oB));have hg2:Int.gcd (WV dB B) (WV dB r)=Int.gcd (WV dB a) (WV dB b):=by
     rw[←hg,vr,Dz]
    unfold tO;repeat' first|(apply acs;rfl;rfl)|refine gd0 ?_|refine gc ?_|(intro _;omega)|intro _
    all_goals try omega
    all_goals exact cN ⟨(WV dB r).toNat,by rw[vr];omega,B,r,rv,_,_,_,rfl,hr,rfl,oB,nB,lB,or_,nr,by omega,hg2⟩)
 exact⟨g,og,ng,vg,v,hh,ho,hr⟩
theorem Ol {g:List Int}(og:okW dB g)(ng:aM g):WV dB g=1↔g=[1]:=by
 constructor
 . intro h;have h1:=fL (b:=dB) (by decide) og ng (n:=1) (by rw[h];decide);match g,h1 with
   | [],_=>simp[WV]at h
   | [x],_=>simp[WV]at h;rw[h]
 . rintro rfl;rfl
def t62:an:=
 .seq (
       zR [zm 37 3,
          zm 38 2,
          zL 39 38,
          zb 40 .lss 37 39,
          zn 41 40,
          zg (zm 42 2) 41 true,
          zg (zm 43 3) 41 true,
          zg (zc 44 .add 43 1) 41 true,
          ⟨(.l 45),.slice .str 1 (.l 42) (some (.l 44)) none none,some ((.l 41),true)⟩,
          zg (z1 46 154 45) 41 true,
          zg (zu 47 46) 41 true,
          zg (zn 48 47) 41 true,
          zg (zm 49 2) 48 false,
          zg (zm 50 3) 48 false,
          zg (zc 51 .add 50 1) 48 false,
          ⟨(.l 52),.slice .str 1 (.l 49) (some (.l 51)) none none,some ((.l 48),false)⟩,
          ⟨(.l 53),.bin .eql (.l 52) (.c (.str [48])),some ((.l 48),false)⟩,
          zg (zP 54 48 53) 41 true,
          zg (zn 55 54) 41 true,
          zg (zm 56 2) 55 false,
          zg (zm 57 3) 55 false,
          zg (zc 58 .add 57 1) 55 false,
          ⟨(.l 59),.slice .str 1 (.l 56) (some (.l 58)) none none,some ((.l 55),false)⟩,
          ⟨(.l 60),.bin .eql (.l 59) (.c (.str [49])),some ((.l 55),false)⟩,
          zg (zP 61 55 60) 41 true,
          zp 62 41 61]
        (
         .cond (.l 62)
         (
          zR [zi 1 1]
          (.ret))
         (.skip)))
       (
        .seq (zR [zm 63 3,
           zc 64 .gtr 63 600,
           zn 65 64,
           zg (zm 66 2) 65 false,
           zg (zL 67 66) 65 false,
           zg (zm 68 3) 65 false,
           zg (zb 69 .sub 67 68) 65 false,
           zg (zc 70 .sub 69 1) 65 false,
           zg (zc 71 .gtr 70 600) 65 false,
           zP 72 65 71]
         (
          .cond (.l 72)
          (
           zR [zi 1 4]
           (.ret))
          (.skip)))
        (
         .seq (zR [zm 73 3,
            zm 74 2,
            zL 75 74,
            zb 76 .lss 73 75]
          (
           .cond (.l 76)
           (
            zR [zm 78 2,
              z1 79 135 78,
              zn 77 79,
              ze 80 0 77,
              ze 81 1 77,
              ⟨(.p 4),.alloc 162 [.bool false,.aa],none⟩,
              ⟨(.p 5),.alloc 162 [.bool false,.aa],none⟩,
              zs 2 4 80,
              zs 2 5 81]
            (
             zR [zf 82 1 4,
               zd 83 1 82,
               zf 84 1 5,
               zd 85 1 84,
               z2 86 155 83 85,
               zw 6 86]
             (
              zR [zm 87 6,
                zl 88 87,
                zc 89 .neq 88 1,
                zn 90 89,
                zg (zm 91 6) 90 false,
                ⟨(.l 92),.du none 1 (.l 91) (kI 0),some ((.l 90),false)⟩,
                zg (zd 93 1 92) 90 false,
                zg (zc 94 .neq 93 1) 90 false,
                zP 95 90 94]
              (
               .cond (.l 95)
               (
                zR [zi 1 1]
                (.ret))
               (.skip)))))
           (.skip)))
         (
          zR [zi 1 0]
          (.ret))))
structure Fx (M:aw):Prop where
 ft:M.FT=FT
 tZ:∀(s:ah) h,s.length<1000000->M.ext 153 [.str s] h=some ⟨.iV (bX s),h,[]⟩
 Fy:∀(s:ah) h,s.length<1000000->M.ext 154 [.str s] h=some ⟨.bool (dW s),h,[]⟩
 lW:∀(s:ah),s.length<1000000->jE s=true->(bD 47 s).1.all bF=true->((bD 47 s).2.getD []).all bF=true->∃v1 v2,jk v1 (az 0 (bD 47 s).1:Nat)/\jk v2 (az 0 ((bD 47 s).2.getD []):Nat)/\∀h,M.ext 135 [.str s] h=some ⟨.au [v1,v2],h,[]⟩
 qW:∀(a b:List Int),okW dB a->okW dB b->aM a->aM b->a.length<100000->b.length<100000->∃g,okW dB g/\aM g/\WV dB g=(Int.gcd (WV dB a) (WV dB b):Nat)/\∀h,M.ext 155 [.vs (al a) a.length none,.vs (al b) b.length none] h=some ⟨.vs (al g) g.length none,h,[]⟩
theorem jk.pos {v:AV}{n:Nat}(h:jk v n):∃neg l,v = .agg [.bool neg,.vs (al l) l.length none]/\okW dB l/\aM l/\WV dB l=n:=by
 obtain⟨neg,l,rfl,ok,nr,hz,hn⟩:=h;refine⟨neg,l,rfl,ok,nr,?_⟩;cases neg with
 | false=>exact hz.symm
 | true=>
  have:=(jd (b:=dB) (by decide) ok nr).2 (hn rfl);simp at hz;omega
theorem aeS (C:Fx M)(s u top bot:ah)(B:Bool)(lu:u.length<1000000)(htop:(bD 47 u).1=top)(hbot:(bD 47 u).2.getD []=bot)(hB:jE u=B)(dt:top.all bF=true)(a4 a5 a6:AV)(lo:List (Nat×AV))(wr:List Nat) :
 W M t62 ⟨⟨[.str s,.iV 0,.str u,.iV top.length,a4,a5,a6],lo,[],[]⟩,wr⟩ (ET [.var (.p 1)] (if B=true/\(dW bot && decide (bot≠[48]) && decide (bot≠[49]))=false then 1 else if 600<top.length\/600<bot.length then 4 else if B=true/\fT (az 0 top) (az 0 bot)=true then 1 else 0)):=by
 have hs:bX u=top.length:=by rw[bX,htop]
 cases B with
 | false=>
  rw[if_neg (by simp)];have hn:(bD 47 u).2=none:=by unfold jE at hB;cases h:(bD 47 u).2 with
    | none=>rfl
    | some y=>rw[h]at hB;cases hB
  have hul:u.length=top.length:=by rw[←htop,(nd hn).1]
  have hb0:bot=[]:=by rw[←hbot,hn];rfl
  subst hb0;have hl0:([]:ah).length=0:=rfl;by_cases h6:600<top.length\/600<([]:ah).length
  . rw[if_pos h6];unfold t62;exact gg2
  . rw[if_neg h6,if_neg (by simp)];unfold t62;exact gg2
 | true=>
  obtain⟨e1,e2,hk⟩:=NZ hB;rw[hs,hbot]at e2;have hul:u.length=top.length+1+bot.length:=by
   unfold jE at hB;obtain⟨y,hy⟩:=Option.isSome_iff_exists.1 hB;have:=tz hy;rw[hy]at hbot;simp at hbot;rw[←htop,←hbot];exact this
  have e2':u.drop ((top.length:Int)+1).toNat=bot:=by rw[show ((top.length:Int)+1).toNat=top.length+1 by omega];exact e2
  have q154:=fun h=>C.Fy bot h (by omega)
  cases hC:dW bot with
  | false=>
   rw[if_pos ⟨rfl,rfl⟩];rw[hC]at q154;unfold t62;exact gg13
  | true=>
   rw[hC]at q154;by_cases h48:bot=[48]
   . rw[if_pos ⟨rfl,by rw[decide_eq_false (show ¬bot≠[48] from fun h=>h h48)];rfl⟩];unfold t62;repeat' first|refine gd13 ?_|(apply aeX;rfl;rfl;all_goals first|(intro h;exact absurd h48 h)|intro _)|(apply abt;rfl;rfl)|refine gd0 ?_|refine gc ?_|(intro _;omega)|intro _
     all_goals try omega
     all_goals exact iU (.inr rfl) rfl rfl rfl rfl
   . by_cases h49:bot=[49]
     . rw[if_pos ⟨rfl,by rw[decide_eq_true (show bot≠[48] from h48),decide_eq_false (show ¬bot≠[49] from fun h=>h h49)];rfl⟩];unfold t62;repeat' first|refine gd13 ?_|(apply aeX;rfl;rfl;all_goals first|(intro h;exact absurd h h48)|(intro h;exact absurd h49 h)|intro _)|(apply abt;rfl;rfl)|refine gd0 ?_|refine gc ?_|(intro _;omega)|intro _
       all_goals try omega
       all_goals exact iU (.inr rfl) rfl rfl rfl rfl
     . rw[if_neg (by rw[decide_eq_true (show bot≠[48] from h48),decide_eq_true (show bot≠[49] from h49)];simp)];by_cases h6:600<top.length\/600<bot.length
       . rw[if_pos h6];unfold t62;repeat' first|refine gd13 ?_|(apply aeX;rfl;rfl;all_goals first|(intro h;exact absurd h h48)|(intro h;exact absurd h h49)|intro _)|(apply abt;rfl;rfl)|(apply acs;rfl;rfl)|refine gd0 ?_|refine gc ?_|(intro _;omega)|intro _
         all_goals try omega
         all_goals exact iU (.inr rfl) rfl rfl rfl rfl
       . rw[if_neg h6];have dbt:=(tE hC).2;obtain⟨v1,v2,k1,k2,q135⟩:=C.lW u lu hB (by rw[htop];exact dt) (by rw[hbot];exact dbt);rw[htop]at k1;rw[hbot]at k2;obtain⟨n1,l1,rfl,ok1,nr1,vl1⟩:=k1.pos;obtain⟨n2,l2,rfl,ok2,nr2,vl2⟩:=k2.pos;have len1:∀(t:ah) (l:List Int),t.all bF=true->okW dB l->aM l->WV dB l=(az 0 t:Nat)->t.length<=600->l.length<100000:=fun t l ht ok nr hv hl6=>by
          have h1:=mW t ht;have h2:l.length<=t.length:=fL (b:=dB) (by decide) ok nr (by
           rw[hv];have h3:(az 0 t:Int)<(10:Int)^t.length:=by exact_mod_cast h1
           have h4:∀n:Nat,(10:Int)^n<=dB^n:=by
            intro n;induction n with
            | zero=>decide
            | succ n ih=>
             rw[Int.pow_succ,Int.pow_succ];exact Int.mul_le_mul ih (by decide) (by decide) (Int.pow_nonneg (by decide))
           have h5:=h4 t.length;omega)
          omega
         obtain⟨g,og,ng,vg,q155⟩:=C.qW l1 l2 ok1 ok2 nr1 nr2 (len1 top l1 dt ok1 nr1 vl1 (by omega)) (len1 bot l2 dbt ok2 nr2 vl2 (by omega));rw[vl1,vl2]at vg;have hgn:(Int.gcd (az 0 top:Nat) (az 0 bot:Nat))=Nat.gcd (az 0 top) (az 0 bot):=rfl;rw[hgn]at vg;have h1d:=Ol og ng;by_cases h1:g=[1]
         . have hc:fT (az 0 top) (az 0 bot)=false:=by
            have:=h1d.2 h1;rw[vg]at this;rw[fT,show Nat.gcd (az 0 top) (az 0 bot)=1 by omega];rfl
           rw[if_neg (by rw[hc];simp)];subst h1;have hl1:([1]:List Int).length=1:=rfl;unfold t62;repeat' first|refine gd13 ?_|(apply aeX;rfl;rfl;all_goals first|(intro h;exact absurd h h48)|(intro h;exact absurd h h49)|intro _)|(apply agH (L:=[1]) (m:=0) (v:=1);rfl;rfl;exact Nat.zero_lt_one;rfl)|(apply abt;rfl;rfl)|(apply acs;rfl;rfl)|(apply adW;rfl;rfl)|refine gd0 ?_|refine gc ?_|(intro _;omega)|intro _
           all_goals try omega
           all_goals exact iU (.inr rfl) rfl rfl rfl rfl
         . have hc:fT (az 0 top) (az 0 bot)=true:=by
            have:Nat.gcd (az 0 top) (az 0 bot)≠1:=fun e=>h1 (h1d.1 (by rw[vg,e];rfl))
            rw[fT];simp[this]
           rw[if_pos ⟨rfl,hc⟩];by_cases hl1:g.length=1
           . obtain⟨x,rfl⟩:∃x,g=[x]:=by
              match g,hl1 with
              | [x],_=>exact⟨x,rfl⟩
             have hx:x≠1:=fun e=>h1 (by rw[e])
             unfold t62;repeat' first|refine gd13 ?_|(apply aeX;rfl;rfl;all_goals first|(intro h;exact absurd h h48)|(intro h;exact absurd h h49)|intro _)|(apply agH (L:=[x]) (m:=0) (v:=x);rfl;rfl;exact Nat.zero_lt_one;rfl)|(apply abt;rfl;rfl)|(apply acs;rfl;rfl)|(apply adW;rfl;rfl)|refine gd0 ?_|refine gc ?_|(intro _;omega)|intro _
             all_goals try omega
             all_goals exact iU (.inr rfl) rfl rfl rfl rfl
           . unfold t62;repeat' first|refine gd13 ?_|(apply aeX;rfl;rfl;all_goals first|(intro h;exact absurd h h48)|(intro h;exact absurd h h49)|intro _)|(apply abt;rfl;rfl)|(apply acs;rfl;rfl)|(apply adW;rfl;rfl)|refine gd0 ?_|refine gc ?_|(intro _;omega)|intro _
             all_goals try omega
             all_goals exact iU (.inr rfl) rfl rfl rfl rfl
theorem w62 (C:Fx M)(s:ah)(hl:s.length<1000000):aS M 62 [.str s] [] ⟨.iV (cw s),[],[]⟩:=by
 have hcl:=qP 45 s;have q153:=fun h=>C.tZ (bH 45 s) h (by omega)
 have hsl:=tQ (bH 45 s);have etk:(bH 45 s).take ((bX (bH 45 s):Nat):Int).toNat=cI s:=by
  show (bH 45 s).take (bD 47 (bH 45 s)).1.length=(bD 47 (bH 45 s)).1;cases h:(bD 47 (bH 45 s)).2 with
  | none=>rw[(nd h).1,List.take_length]
  | some y=>exact Ev h
 have htl:(cI s).length<=s.length:=Nat.le_trans (tF 47 _) hcl;have q154:=fun h=>C.Fy (cI s) h (by omega)
 have hsT:bX (bH 45 s)=(cI s).length:=rfl;have tl:=fun dt=>aeS C s (bH 45 s) (cI s) (dz s) (gV s) (by omega) rfl rfl rfl dt
 rw[hsT]at q153 etk hsl;have hchk:cw s=if kc s=false then 1 else if 600<(cI s).length\/600<(dz s).length then 4 else if gV s=true/\fT (az 0 (cI s)) (az 0 (dz s))=true then 1 else 0:=rfl
 have hform:kc s=(dW (cI s) && !(preB 45 s && decide (cI s=[48])) && (!gV s || (dW (dz s) && decide (dz s≠[48]) && decide (dz s≠[49])))):=rfl;have dA:=fun h=>(tE (s:=cI s) h)
 have hhd:preB 45 s=true->s[0]! = 45:=fun h=>by
  have h:=of_decide_eq_true h;cases s with
  | nil=>simp at h
  | cons c t=>simp at h;exact h
 have hnhd:preB 45 s=false->s≠[]->s[0]! ≠ 45:=fun h h0 e=>by
  have h:=of_decide_eq_false h;cases s with
  | nil=>exact h0 rfl
  | cons c t=>exact h (congrArg some e)
 have hne:cI s≠[]->s≠[]:=fun h e=>h (by rw[e];rfl)
 have hpc:=fun h=>tA (b:=45) (s:=s) h
 have hpn:=fun h=>jZ (b:=45) (s:=s) h
 rw[hchk];clear hchk;generalize cI s=top at *
 generalize dz s=bot at *
 generalize gV s=B at *
 generalize bH 45 s=u at *
 have ei:s[(0:Int).toNat]! = s[0]! := rfl;refine bC (by rw[C.ft];exact adY) (by simp) ?_;unfold ND;simp only[enter];cases hP:preB 45 s with
 | true=>
  rw[hP]at hform;have h45:=hhd hP;obtain⟨hc1,hc2⟩:=hpc hP;have hc1:s.drop (1:Int).toNat=u:=hc1;have e45:((s[(0:Int).toNat]!).toNat:Int)=45:=by rw[ei,h45];rfl
  cases hA:dW top with
  | false=>
   rw[hA]at q154 hform;simp only[Bool.false_and]at hform;rw[hform,if_pos rfl];exact gg1
  | true=>
   rw[hA]at q154 hform;simp only[Bool.true_and]at hform;obtain⟨d1,d2⟩:=dA hA;have tl:=tl d2;by_cases hz:top=[48]
   . rw[decide_eq_true hz]at hform;simp only[Bool.not_true,Bool.false_and]at hform;rw[hform,if_pos rfl];repeat' first|(apply agq (s:=s) (r:=u);rfl;rfl;omega;exact hc1)|refine gd17 ?_|(apply aeX;rfl;rfl;all_goals first|(intro h;exact absurd hz h)|intro _)|(apply acs;rfl;rfl)|(apply acJ;rfl;rfl)|refine gd0 ?_|refine gc ?_|(intro _;omega)|intro _
     all_goals try omega
     all_goals exact⟨.inr rfl,rfl,_,rfl,rfl,rfl⟩
   . rw[decide_eq_false hz]at hform;simp only[Bool.not_false,Bool.true_and]at hform;have hres:(if B=true/\(dW bot && decide (bot≠[48]) && decide (bot≠[49]))=false then 1 else if 600<top.length\/600<bot.length then 4 else if B=true/\fT (az 0 top) (az 0 bot)=true then (1:Int) else 0)=(if kc s=false then 1 else if 600<top.length\/600<bot.length then 4 else if B=true/\fT (az 0 top) (az 0 bot)=true then 1 else 0):=by
      rw[hform];cases B with
      | false=>simp
      | true=>simp
     rw[hres]at tl;exact gg1
 | false=>
  rw[hP]at hform;obtain rfl:u=s:=hpn hP;simp only[Bool.false_and,Bool.not_false,Bool.and_true]at hform;by_cases h0:u=[]
  . have hA:dW top=false:=by
     cases h:dW top with
     | false=>rfl
     | true=>exact absurd h0 (hne (dA h).1)
    rw[hA]at q154 hform;simp only[Bool.false_and]at hform;rw[hform,if_pos rfl];have hu0:u.length=0:=by rw[h0];rfl
    exact gg1
  . have hpos:0<u.length:=List.length_pos_iff.2 h0;have h45:=hnhd hP h0;have e45:((u[(0:Int).toNat]!).toNat:Int)≠45:=fun e=>h45 (UInt8.toNat_inj.1 (by rw[ei]at e;have:(45:UInt8).toNat=45:=rfl;omega))
    cases hA:dW top with
    | false=>
     rw[hA]at q154 hform;simp only[Bool.false_and]at hform;rw[hform,if_pos rfl];exact gg1
    | true=>
     rw[hA]at q154 hform;simp only[Bool.true_and]at hform;obtain⟨d1,d2⟩:=dA hA;have tl:=tl d2;have hres:(if B=true/\(dW bot && decide (bot≠[48]) && decide (bot≠[49]))=false then 1 else if 600<top.length\/600<bot.length then 4 else if B=true/\fT (az 0 top) (az 0 bot)=true then (1:Int) else 0)=(if kc u=false then 1 else if 600<top.length\/600<bot.length then 4 else if B=true/\fT (az 0 top) (az 0 bot)=true then 1 else 0):=by
      rw[hform];cases B with
      | false=>simp
      | true=>simp
     rw[hres]at tl;exact gg1
open Go.Proofs
variable {T:List (Nat×Spec)}
noncomputable def kO:Spec:=sK [] 153
noncomputable def Fz:Spec:=sK [] 204
noncomputable def FA:Spec:=sK [(204,Fz)] 154
noncomputable def zo:Spec:=sK [] 192
theorem qX:aR Tryz.prog gl 153 kO:=bc bx
theorem aeU:aR Tryz.prog gl 204 Fz:=bc bx
theorem aeV:aR Tryz.prog gl 154 FA:=bc (aL aeU bx)
theorem Om:aR Tryz.prog gl 192 zo:=bc bx
theorem ua:∀(s:ah) h,s.length<1000000->kO [.str s] h=some ⟨.iV (bX s),h,[]⟩:=fun s h hl=>bL (aej bm s hl) rfl rfl rfl h
theorem aeW:∀(s:ah) h,s.length<1000000->FA [.str s] h=some ⟨.bool (dW s),h,[]⟩:=fun s h hl=>
 bL (ael (M:=aY Tryz.prog FT [(204,Fz)]) bm s hl fun h=>bL (aek bm s hl) rfl rfl rfl h) rfl rfl rfl h
theorem On:∀(s:ah) h,s.length<=18->s.all bF=true->zo [.str s] h=some ⟨.iV (az 0 s:Nat),h,[]⟩:=fun s h hl hd=>bL (aen bm s hl hd) rfl rfl rfl h
noncomputable def Oo:List (Nat×Spec):=[(192,zo)]
theorem cPa:Fp (aY Tryz.prog FT Oo) where
 ft:=bm
 dP:=fun _ _=>rfl
 tW:=fun _ _=>rfl
 pn:=fun s h hl hd=>On s h hl hd
noncomputable def zy:Spec:=sK Oo 193
theorem Oq:aR Tryz.prog gl 193 zy:=bc (aL Om bx)
theorem zz:∀(s:ah),s.length<1000000->(bH 45 s).all bF=true->∃v0,jk v0 (if preB 45 s then -(az 0 (bH 45 s):Int) else (az 0 (bH 45 s):Nat))/\∀h,zy [.str s] h=some ⟨v0,h,[]⟩:=fun s hl hd=>by
 obtain⟨v0,h1,h2⟩:=aeu cPa s hl hd;exact⟨v0,h1,cY h2 rfl⟩
noncomputable def Ot:List (Nat×Spec):=[(153,kO),(193,zy)]
noncomputable def FB:Spec:=sK Ot 135
theorem aeY:aR Tryz.prog gl 135 FB:=bc (aL qX (aL Oq bx))
theorem FD {s:ah}(h:s.all bF=true):preB 45 s=false/\bH 45 s=s:=by
 have hp:preB 45 s=false:=by
  cases s with
  | nil=>rfl
  | cons c t=>
   rw[List.all_cons,Bool.and_eq_true]at h;unfold preB;rw[decide_eq_false_iff_not];intro e;simp at e;rw[e]at h;exact absurd h.1 (by decide)
 exact⟨hp,jZ hp⟩
theorem aeZ:∀(s:ah),s.length<1000000->jE s=true->(bD 47 s).1.all bF=true->((bD 47 s).2.getD []).all bF=true->∃v1 v2,jk v1 (az 0 (bD 47 s).1:Nat)/\jk v2 (az 0 ((bD 47 s).2.getD []):Nat)/\∀h,FB [.str s] h=some ⟨.au [v1,v2],h,[]⟩:=fun s hl hb h1 h2=>by
 obtain⟨p1,c1⟩:=FD h1;obtain⟨p2,c2⟩:=FD h2;obtain⟨v1,k1,q1⟩:=zz (bD 47 s).1 (Nat.lt_of_le_of_lt (tF 47 s) hl) (by rw[c1];exact h1);obtain⟨v2,k2,q2⟩:=zz ((bD 47 s).2.getD []) (Nat.lt_of_le_of_lt (EP 47 s) hl) (by rw[c2];exact h2);rw[p1,c1,if_neg (by decide)]at k1;rw[p2,c2,if_neg (by decide)]at k2;exact⟨v1,v2,k1,k2,cY (Oa (M:=aY Tryz.prog FT Ot) bm s hl hb (fun h=>ua s h hl) k1.tT k2.tT q1 q2) rfl⟩
theorem zA {h:ab}(l:List Int){n:Nat}{c:Option Nat}:cO h (.vs (al l) n c) (.vs (al l) n c):=.mM (Fu l)
noncomputable def zB:Spec:=sL [] 218
noncomputable def Ou:Spec:=sL [] 241
noncomputable def FE:Spec:=sL [] 197
noncomputable def Ov:Spec:=sL [] 243
theorem Ow:aR Tryz.prog gl 218 zB:=iL bx
theorem afa:aR Tryz.prog gl 241 Ou:=iL bx
theorem Ox:aR Tryz.prog gl 197 FE:=iL bx
theorem afb:aR Tryz.prog gl 243 Ov:=iL bx
noncomputable def zC:List (Nat×Spec):=[(218,zB),(197,FE),(241,Ou),(243,Ov)]
theorem afc:cf Tryz.prog gl (bk zC):=aL Ow (aL Ox (aL afa (aL afb bx)))
theorem Oy:Oh (aY Tryz.prog FT zC) where
 ft:=bm
 dP:=fun _ _=>rfl
 Og:=fun U V bu i k cu c2 e h T D p hb hV hi hU hK=>by
  obtain⟨q,h1,h2,h3,hr⟩:=aeA (M:=aY Tryz.prog FT []) (c1:=none) (c2:=c2) bm hV hi hU hK rfl rfl rfl rfl rfl;refine⟨q,h1,h2,h3,?_⟩;have hf:cO h (.sl bu 0 U.length 1 cu) (.vs (al U) U.length none):=by
   refine .sl (m:=al U) hb ?_ rfl (Fu U).2;have:=ku (f:=iC) (esz:=1) (fun _=>rfl) (l:=U) (i:=0) (n:=U.length) (by omega);simpa using this
  exact ot hr rfl rfl rfl (.cons hf (.cons (zA V) (.cons (.atom rfl) .nil)))
 tY:=fun a b c1 c2 h o1 o2 n1 n2 l1 l2=>ot (Ob bm a b o1 o2 n1 n2 l1 l2) rfl rfl rfl (.cons (zA a) (.cons (zA b) .nil))
 qV:=fun x y a b c1 c2 h hx hy o1 o2 l1 l2 h0=>by
  obtain⟨r,⟨h1,h2,h3⟩,v,hh,⟨v1,f,t,k⟩,hr⟩:=Oe (M:=aY Tryz.prog FT []) (c1:=c1) (c2:=c2) bm (fun _ _=>rfl) a b o1 o2 l1 l2 h0;exact⟨r,h1,h2,h3,lG (.cons hx (.cons hy .nil)) ⟨v,hh,v1,hr,f,t,k⟩⟩
 Fw:=fun x a c h d hx o l hd=>by
  obtain⟨q,⟨h1,h2,h3⟩,v,hh,⟨v1,f,t,k⟩,hr⟩:=aex (M:=aY Tryz.prog FT []) (c1:=c) bm (fun _ _=>rfl) a o l d hd;exact⟨q,h1,h2,h3,lG (.cons hx (.cons (.atom rfl) .nil)) ⟨v,hh,v1,hr,f,t,k⟩⟩
noncomputable def qY:Spec:=sK zC 195
theorem Oz:aR Tryz.prog gl 195 qY:=bc afc
theorem cCm:Ok (aY Tryz.prog FT [(195,qY)]) where
 ft:=bm
 kN:=fun a b o1 o2 n1 n2 l1 l2 hb=>by
  obtain⟨q,r,⟨h1,h2,h3⟩,⟨h4,h5,h6⟩,v,hh,⟨v1,x,y,f,t,k,i1,i2⟩,hr⟩:=Oj (c1:=none) (c2:=none) Oy a b o1 o2 n1 n2 l1 l2 hb;exact⟨x,q,y,r,i1,i2,h4,h5,h3,h6,fun h=>sr ⟨v,hh,v1,hr,f,eA (fm a) (fm b),t,k⟩⟩
noncomputable def zD:Spec:=sK [(195,qY)] 155
theorem OA:aR Tryz.prog gl 155 zD:=bc (aL Oz bx)
noncomputable def FF:List (Nat×Spec):=[(153,kO),(154,FA),(135,FB),(155,zD)]
theorem afe:cf Tryz.prog gl (bk FF):=aL qX (aL aeV (aL aeY (aL OA bx)))
theorem cCh:Fx (aY Tryz.prog FT FF) where
 ft:=bm
 tZ:=fun s h hl=>ua s h hl
 Fy:=fun s h hl=>aeW s h hl
 lW:=fun s hl hb h1 h2=>aeZ s hl hb h1 h2
 qW:=fun a b o1 o2 n1 n2 l1 l2=>by
  obtain⟨g,h1,h2,h3,h4⟩:=aeR cCm a b o1 o2 n1 n2 l1 l2;exact⟨g,h1,h2,h3,cY h4 (eA (fm a) (fm b))⟩
noncomputable def zE:Spec:=sK FF 62
theorem OB:aR Tryz.prog gl 62 zE:=bc afe
theorem OC:∀(s:ah) h,s.length<1000000->zE [.str s] h=some ⟨.iV (cw s),h,[]⟩:=fun s h hl=>bL (w62 cCh s hl) rfl rfl rfl h
set_option maxRecDepth 1000000
def FG:an:=.seq (zR [zm 9 5,zm 10 0,zl 11 10,zb 12 .lss 9 11,zn 13 12,zg (zm 14 5) 13 false,zg (zm 15 1) 13 false,zg (zl 16 15) 13 false,zg (zb 17 .lss 14 16) 13 false,zP 18 13 17,zn 19 18,zg (zm 20 4) 19 false,zg (zc 21 .gtr 20 0) 19 false,zP 22 19 21] (.cond (.l 22) (.skip) (.exit 0))) (.seq (.block 1 (zR [zm 25 0,zm 26 5,z2 27 254 25 26,zm 28 1,zm 29 5,z2 30 254 28 29,zb 31 .add 27 30,zm 32 4,zb 33 .add 31 32,zw 6 33] (zR [zm 34 3,zm 35 6,zc 36 .rem 35 1000000000,⟨.l 37,.dQ 3 1 1 [.iV (0)] [(0,1,(.l 36))],none⟩,⟨.l 38,.append 3 1 8 (.l 34) (.l 37),none⟩,zw 3 38] (.region [zm 39 6,zc 40 .quo 39 1000000000,zw 4 40])))) (.region [zm 23 5,zc 24 .add 23 1,zw 5 24]))
def OD:an:=zR [⟨.p 2,.mv (.c (.aa)),none⟩] (zR [⟨.p 3,.mv (.c (.aa)),none⟩] (zR [zi 4 0] (.seq (zR [zi 5 0] (.block 0 (.loop FG))) (zR [zm 41 3,zw 2 41] (.ret)))))
theorem afg:FT 206=some ⟨42,[0,1,4,5,6,7,8],[.var (.p 2)],OD⟩:=by kernel_rfl
def qZ:an:=.seq (zR [zm 9 5,zm 10 0,zl 11 10,zb 12 .lss 9 11] (.cond (.l 12) (.skip) (.exit 0))) (.seq (.block 1 (.seq (.draw [(zm 15 0,[]),(zm 16 5,[0]),(za 17 1 15 16,[]),(zd 18 1 17,[]),(zm 19 1,[0,1,2,3]),(zm 20 5,[0,1,2,3,4]),(z2 21 254 19 20,[0,1,2,3]),(zb 22 .sub 18 21,[]),(zm 23 4,[0,1,2,3,4,5,6,7]),(zb 24 .sub 22 23,[]),(zw 6 24,[])]) (zR [zi 4 0] (.seq (zR [zm 25 6,zc 26 .lss 25 0] (.cond (.l 26) (zR [zm 27 6,zc 28 .add 27 1000000000,zw 6 28] (.region [zi 4 1])) (.skip))) (.region [zm 29 3,zm 30 6,⟨.l 31,.dQ 3 1 1 [.iV (0)] [(0,1,(.l 30))],none⟩,⟨.l 32,.append 3 1 8 (.l 29) (.l 31),none⟩,zw 3 32]))))) (.region [zm 13 5,zc 14 .add 13 1,zw 5 14]))
def OE:an:=zR [⟨.p 2,.mv (.c (.aa)),none⟩] (zR [⟨.p 3,.mv (.c (.aa)),none⟩] (zR [zi 4 0] (.seq (zR [zi 5 0] (.block 0 (.loop qZ))) (zR [zm 33 3,z1 34 242 33,zw 2 34] (.ret)))))
theorem afh:FT 219=some ⟨35,[0,1,4,5,6,7,8],[.var (.p 2)],OE⟩:=by kernel_rfl
def OF:an:=zR [zx 2 162 2 0,zx 3 162 2 1,⟨.p 4,.alloc 162 [.bool false,.aa],none⟩] (.seq (zR [zf 5 0 2,zd 6 1 5,zf 7 0 3,zd 8 1 7,⟨.l 9,.eq false .bool (.l 6) (.l 8),none⟩] (.cond (.l 9) (.seq (.draw [(zf 10 0 2,[]),(zd 11 1 10,[]),(zf 12 1 2,[0,1]),(zd 13 1 12,[0,1]),(zf 14 1 3,[0,1,2,3]),(zd 15 1 14,[0,1,2,3]),(z2 16 206 13 15,[0,1]),(z2 17 196 11 16,[]),(zs 2 4 17,[])]) (.ret)) (.skip))) (.seq (zR [zf 18 1 2,zd 19 1 18,zf 20 1 3,zd 21 1 20,z2 22 218 19 21,zc 23 .geq 22 0] (.cond (.l 23) (.seq (.draw [(zf 24 0 2,[]),(zd 25 1 24,[]),(zf 26 1 2,[0,1]),(zd 27 1 26,[0,1]),(zf 28 1 3,[0,1,2,3]),(zd 29 1 28,[0,1,2,3]),(z2 30 219 27 29,[0,1]),(z2 31 196 25 30,[]),(zs 2 4 31,[])]) (.ret)) (.skip))) (.seq (.draw [(zf 32 0 3,[]),(zd 33 1 32,[]),(zf 34 1 3,[0,1]),(zd 35 1 34,[0,1]),(zf 36 1 2,[0,1,2,3]),(zd 37 1 36,[0,1,2,3]),(z2 38 219 35 37,[0,1]),(z2 39 196 33 38,[]),(zs 2 4 39,[])]) (.ret))))
theorem afi:FT 170=some ⟨40,[0,1,2,3,4],[.cell 2 true (.p 4)],OF⟩:=by kernel_rfl
def OG:an:=zR [zx 1 162 2 0,⟨.p 2,.alloc 162 [.bool false,.aa],none⟩] (zR [zf 3 0 1,zd 4 1 3,zu 5 4,zf 6 1 1,zd 7 1 6,z2 8 196 5 7,zs 2 2 8] (.ret))
theorem afj:FT 194=some ⟨9,[0,1,2],[.cell 2 true (.p 2)],OG⟩:=by kernel_rfl
def OH:an:=zR [zx 2 162 2 0,zx 3 162 2 1,⟨.p 4,.alloc 162 [.bool false,.aa],none⟩] (.seq (.draw [(zf 5 0 2,[]),(zd 6 1 5,[]),(zf 7 0 3,[0,1]),(zd 8 1 7,[0,1]),(⟨.l 9,.eq true .bool (.l 6) (.l 8),none⟩,[]),(zf 10 1 2,[0,1,2,3,4]),(zd 11 1 10,[0,1,2,3,4]),(zf 12 1 3,[0,1,2,3,4,5,6]),(zd 13 1 12,[0,1,2,3,4,5,6]),(z2 14 197 11 13,[0,1,2,3,4]),(z2 15 196 9 14,[]),(zs 2 4 15,[])]) (.ret))
theorem afk:FT 137=some ⟨16,[0,1,2,3,4],[.cell 2 true (.p 4)],OH⟩:=by kernel_rfl
def OI:an:=.seq (zR [zm 5 1,zc 6 .gtr 5 0] (.cond (.l 6) (.skip) (.exit 0))) (.block 1 (.draw [(zm 7 1,[]),(zm 8 0,[0]),(zm 9 1,[0,1]),(zb 10 .rem 8 9,[0]),(zw 0 7,[2,3]),(zw 1 10,[])]))
def OJ:an:=zR [zi 2 0] (.seq (.block 0 (.loop OI)) (zR [zm 11 0,zw 2 11] (.ret)))
theorem afl:FT 158=some ⟨12,[0,1,4],[.var (.p 2)],OJ⟩:=by kernel_rfl
def FH:an:=.seq (zR [zm 6 0,zc 7 .gtr 6 0,zn 8 7,zg (zm 9 3) 8 false,zg (zL 10 9) 8 false,zg (zm 11 1) 8 false,zg (zb 12 .lss 10 11) 8 false,zP 13 8 12] (.cond (.l 13) (.skip) (.exit 0))) (.block 1 (zR [zm 14 0,zc 15 .rem 14 10,zm 16 0,zc 17 .rem 16 10,zc 18 .add 17 1,⟨.l 19,.slice .str 1 (.c (.str zD9)) (some (.l 15)) (some (.l 18)) none,none⟩,zm 20 3,zb 21 .add 19 20,zw 3 21] (.region [zm 22 0,zc 23 .quo 22 10,zw 0 23])))
def OK:an:=zR [⟨.p 2,.mv (.c (.str [])),none⟩] (zR [⟨.p 3,.mv (.c (.str [])),none⟩] (.seq (.block 0 (.loop FH)) (zR [zm 24 3,zw 2 24] (.ret))))
theorem afm:FT 117=some ⟨25,[0,1,4,5],[.var (.p 2)],OK⟩:=by kernel_rfl
def zF:an:=.seq (zR [zm 22 4,zc 23 .geq 22 0] (.cond (.l 23) (.skip) (.exit 0))) (.seq (.block 1 (.region [zm 26 3,zf 27 1 1,zd 28 1 27,zm 29 4,za 30 1 28 29,zd 31 1 30,⟨.l 32,.call (kF 117) [(.l 31),(kI 9)],none⟩,zb 33 .add 26 32,zw 3 33])) (.region [zm 24 4,zc 25 .sub 24 1,zw 4 25]))
def FI:an:=zR [zx 1 162 2 0,⟨.p 2,.mv (.c (.str [])),none⟩] (.seq (zR [zf 5 1 1,zd 6 1 5,zl 7 6,zc 8 .eql 7 0] (.cond (.l 8) (zR [⟨.p 2,.mv (.c (.str [48])),none⟩] (.ret)) (.skip))) (zR [zf 9 1 1,zd 10 1 9,zf 11 1 1,zd 12 1 11,zl 13 12,zc 14 .sub 13 1,za 15 1 10 14,zd 16 1 15,⟨.l 17,.call (kF 117) [(.l 16),(kI 1)],none⟩,zw 3 17] (.seq (zR [zf 18 1 1,zd 19 1 18,zl 20 19,zc 21 .sub 20 2,zw 4 21] (.block 0 (.loop zF))) (.seq (zR [zf 34 0 1,zd 35 1 34] (.cond (.l 35) (zR [zm 36 3,⟨.l 37,.bin .add (.c (.str [45])) (.l 36),none⟩,zw 2 37] (.ret)) (.skip))) (zR [zm 38 3,zw 2 38] (.ret))))))
theorem OL:FT 138=some ⟨39,[0,1,2,3,4],[.var (.p 2)],FI⟩:=by kernel_rfl
def t134:an:=zR [zm 25 4,z1 26 153 25,zw 6 26] (.seq (zR [zm 27 6,zc 28 .gtr 27 9,zn 29 28,zg (zm 30 4) 29 false,zg (zL 31 30) 29 false,zg (zm 32 6) 29 false,zg (zb 33 .sub 31 32) 29 false,zg (zc 34 .gtr 33 10) 29 false,zP 35 29 34] (.cond (.l 35) (zR [zi 1 0,zi 2 0,⟨.p 3,.mv (.c (.bool false)),none⟩] (.ret)) (.skip))) (zR [zm 36 4,zm 37 6,⟨.l 38,.slice .str 1 (.l 36) none (some (.l 37)) none,none⟩,z1 39 192 38,zw 7 39,zi 8 1] (.seq (zR [zm 40 6,zm 41 4,zL 42 41,zb 43 .lss 40 42] (.cond (.l 43) (.region [zm 44 4,zm 45 6,zc 46 .add 45 1,⟨.l 47,.slice .str 1 (.l 44) (some (.l 46)) none none,none⟩,z1 48 192 47,zw 8 48]) (.skip))) (.seq (zR [zm 49 5] (.cond (.l 49) (.region [zm 50 7,⟨.l 51,.bin .sub (kI 0) (.l 50),none⟩,zw 7 51]) (.skip))) (zR [zm 52 7,zm 53 8,zw 1 52,zw 2 53,⟨.p 3,.mv (.c (.bool true)),none⟩] (.ret))))))
def zG:an:=zR [zi 1 0,zi 2 0,⟨.p 3,.mv (.c (.bool false)),none⟩] (zR [zm 10 0,zw 4 10] (.seq (zR [zm 11 4,zL 12 11,zc 13 .gtr 12 20] (.cond (.l 13) (zR [zi 1 0,zi 2 0,⟨.p 3,.mv (.c (.bool false)),none⟩] (.ret)) (.skip))) (zR [zm 14 4,zL 15 14,zc 16 .gtr 15 0,zn 17 16,zg (zm 18 4) 17 true,⟨.l 19,.index (.l 18) (kI 0),some ((.l 17),true)⟩,⟨.l 20,.bin .eql (.l 19) (.c (.int .u8 (45))),some ((.l 17),true)⟩,zp 21 17 20,zw 5 21] (.seq (zR [zm 22 5] (.cond (.l 22) (.region [zm 23 4,⟨.l 24,.slice .str 1 (.l 23) (some (kI 1)) none none,none⟩,zw 4 24]) (.skip)))
      t134))))
theorem OM:FT 134=some ⟨54,[0,2,3,4,5,6,7,8,9],[.var (.p 1),.var (.p 2),.var (.p 3)],zG⟩:=by kernel_rfl
def t136:an:=zR [zf 17 1 2,zd 18 1 17,zf 19 1 3,zd 20 1 19,z2 21 155 18 20,zw 5 21] (zR [zf 23 1 2,zd 24 1 23,zm 25 5,z2 26 195 24 25,zn 22 26,ze 27 0 22,ze 28 1 22,zw 6 27,zn 7 28] (zR [zf 30 1 3,zd 31 1 30,zm 32 5,z2 33 195 31 32,zn 29 33,ze 34 0 29,ze 35 1 29,zw 7 34,zn 9 35] (zR [zf 36 0 2,zd 37 1 36,zm 38 6,z2 39 196 37 38,z1 40 138 39,zw 8 40] (.seq (zR [zm 41 7,zl 42 41,zc 43 .eql 42 1,zn 44 43,zg (zm 45 7) 44 true,⟨.l 46,.du none 1 (.l 45) (kI 0),some ((.l 44),true)⟩,zg (zd 47 1 46) 44 true,zg (zc 48 .eql 47 1) 44 true,zp 49 44 48] (.cond (.l 49) (zR [zm 50 8,zw 4 50] (.ret)) (.skip))) (zR [zm 51 8,⟨.l 52,.bin .add (.l 51) (.c (.str [47])),none⟩,zm 53 7,⟨.l 54,.call (kF 196) [(.c (.bool false)),(.l 53)],none⟩,z1 55 138 54,zb 56 .add 52 55,zw 4 56] (.ret))))))
def FJ:an:=zR [zx 2 162 2 0,zx 3 162 2 1,⟨.p 4,.mv (.c (.str [])),none⟩] (.seq (zR [zf 11 0 3,zd 12 1 11] (.cond (.l 12) (.draw [(zt 13 2 2,[]),(z1 14 194 13,[]),(zt 15 2 3,[0,1]),(z1 16 194 15,[]),(zs 2 2 14,[]),(zs 2 3 16,[])]) (.skip)))
   t136)
theorem afn:FT 136=some ⟨57,[0,1,2,3,4,5,6,8,10],[.var (.p 4)],FJ⟩:=by kernel_rfl
def t78:an:=zR [zm 32 0,zm 33 0,⟨.l 34,.bin .sub (kI 0) (.l 33),none⟩,⟨.l 35,.mm true [(.l 32),(.l 34)],none⟩,zm 36 1,z2 37 158 35 36,zw 3 37] (.seq (.draw [(zm 38 0,[]),(zm 39 3,[0]),(zb 40 .quo 38 39,[]),(zm 41 1,[0,1,2]),(zm 42 3,[0,1,2,3]),(zb 43 .quo 41 42,[0,1,2]),(zw 0 40,[3,4,5]),(zw 1 43,[])]) (zR [⟨.p 4,.mv (.c (.str [])),none⟩] (.seq (zR [zm 44 0,zc 45 .lss 44 0] (.cond (.l 45) (.region [⟨.p 4,.mv (.c (.str [45])),none⟩]) (.skip))) (zR [zm 46 4,zm 47 0,zm 48 0,⟨.l 49,.bin .sub (kI 0) (.l 48),none⟩,⟨.l 50,.mm true [(.l 47),(.l 49)],none⟩,⟨.l 51,.call (kF 117) [(.l 50),(kI 1)],none⟩,zb 52 .add 46 51,zw 4 52] (.seq (zR [zm 53 1,zc 54 .gtr 53 1] (.cond (.l 54) (.region [zm 55 4,⟨.l 56,.bin .add (.l 55) (.c (.str [47])),none⟩,zm 57 1,⟨.l 58,.call (kF 117) [(.l 57),(kI 1)],none⟩,zb 59 .add 56 58,zw 4 59]) (.skip))) (zR [zm 60 4,zw 2 60] (.ret)))))))
def FK:an:=zR [⟨.p 2,.mv (.c (.str [])),none⟩] (.seq (zR [zm 7 0,zc 8 .lss 7 (-4000000000000000000),zn 9 8,zg (zm 10 0) 9 false,zg (zc 11 .gtr 10 4000000000000000000) 9 false,zP 12 9 11,zn 13 12,zg (zm 14 1) 13 false,zg (zc 15 .lss 14 (-4000000000000000000)) 13 false,zP 16 13 15,zn 17 16,zg (zm 18 1) 17 false,zg (zc 19 .gtr 18 4000000000000000000) 17 false,zP 20 17 19] (.cond (.l 20) (zR [zm 21 0,z1 22 139 21,zm 23 1,z1 24 139 23,z2 25 136 22 24,zw 2 25] (.ret)) (.skip))) (.seq (zR [zm 26 1,zc 27 .lss 26 0] (.cond (.l 27) (.region [zm 28 0,⟨.l 29,.bin .sub (kI 0) (.l 28),none⟩,zm 30 1,⟨.l 31,.bin .sub (kI 0) (.l 30),none⟩,zw 0 29,zw 1 31]) (.skip)))
 t78))
theorem afo:FT 78=some ⟨61,[0,1,4,5,6],[.var (.p 2)],FK⟩:=by kernel_rfl
def ON:an:=zR [zi 1 0] (.seq (zR [zm 3 0,⟨.l 4,.bin .eql (.l 3) (.c (.str [48])),none⟩] (.cond (.l 4) (zR [zi 1 0] (.ret)) (.skip))) (.seq (zR [zm 5 0,zL 6 5,zc 7 .gtr 6 0,zn 8 7,zg (zm 9 0) 8 true,⟨.l 10,.index (.l 9) (kI 0),some ((.l 8),true)⟩,⟨.l 11,.bin .eql (.l 10) (.c (.int .u8 (45))),some ((.l 8),true)⟩,zp 12 8 11] (.cond (.l 12) (zR [zi 1 (-1)] (.ret)) (.skip))) (zR [zi 1 1] (.ret))))
theorem afp:FT 140=some ⟨13,[0,2],[.var (.p 1)],ON⟩:=by kernel_rfl
def OO:an:=zR [⟨.p 1,.mv (.c (.str [])),none⟩] (.seq (zR [zm 3 0,z1 4 140 3,zc 5 .lss 4 0] (.cond (.l 5) (zR [zm 6 0,⟨.l 7,.slice .str 1 (.l 6) (some (kI 1)) none none,none⟩,zw 1 7] (.ret)) (.skip))) (.seq (zR [zm 8 0,z1 9 140 8,zc 10 .eql 9 0] (.cond (.l 10) (zR [zm 11 0,zw 1 11] (.ret)) (.skip))) (zR [zm 12 0,⟨.l 13,.bin .add (.c (.str [45])) (.l 12),none⟩,zw 1 13] (.ret))))
theorem afq:FT 141=some ⟨14,[0,2],[.var (.p 1)],OO⟩:=by kernel_rfl
def FL:an:=zR [⟨.p 2,.mv (.c (.str [])),none⟩] (zR [zm 16 0,z1 17 134 16,zn 15 17,ze 18 0 15,ze 19 1 15,ze 20 2 15,zw 3 18,zw 4 19,zw 5 20] (zR [zm 22 1,z1 23 134 22,zn 21 23,ze 24 0 21,ze 25 1 21,ze 26 2 21,zw 6 24,zw 7 25,zw 8 26] (.seq (zR [zm 27 5,zn 28 27,zg (zm 29 8) 28 true,zp 30 28 29] (.cond (.l 30) (zR [zm 31 3,zm 32 7,zb 33 .mul 31 32,zm 34 6,zm 35 4,zb 36 .mul 34 35,zb 37 .add 33 36,zm 38 4,zm 39 7,zb 40 .mul 38 39,z2 41 78 37 40,zw 2 41] (.ret)) (.skip))) (zR [zm 43 0,z1 44 135 43,zn 42 44,ze 45 0 42,ze 46 1 42,⟨.p 9,.alloc 162 [.bool false,.aa],none⟩,⟨.p 10,.alloc 162 [.bool false,.aa],none⟩,zs 2 9 45,zs 2 10 46] (zR [zm 48 1,z1 49 135 48,zn 47 49,ze 50 0 47,ze 51 1 47,⟨.p 11,.alloc 162 [.bool false,.aa],none⟩,⟨.p 12,.alloc 162 [.bool false,.aa],none⟩,zs 2 11 50,zs 2 12 51] (.seq (.draw [(zt 52 2 9,[]),(zt 53 2 12,[0]),(z2 54 137 52 53,[]),(zt 55 2 11,[0,1,2]),(zt 56 2 10,[0,1,2,3]),(z2 57 137 55 56,[]),(z2 58 170 54 57,[]),(zt 59 2 10,[0,1,2,3,4,5,6]),(zt 60 2 12,[0,1,2,3,4,5,6,7]),(z2 61 137 59 60,[]),(z2 62 136 58 61,[]),(zw 2 62,[])]) (.ret)))))))
theorem afr:FT 90=some ⟨63,[0,1,4,5,6,7,8,9,10,11,12,13,14],[.var (.p 2)],FL⟩:=by kernel_rfl
def OP:an:=zR [⟨.p 2,.mv (.c (.str [])),none⟩] (zR [zm 5 0,zm 6 1,z1 7 141 6,z2 8 90 5 7,zw 2 8] (.ret))
theorem afs:FT 57=some ⟨9,[0,1,4],[.var (.p 2)],OP⟩:=by kernel_rfl
def FM:an:=zR [⟨.p 2,.mv (.c (.str [])),none⟩] (zR [zm 16 0,z1 17 134 16,zn 15 17,ze 18 0 15,ze 19 1 15,ze 20 2 15,zw 3 18,zw 4 19,zw 5 20] (zR [zm 22 1,z1 23 134 22,zn 21 23,ze 24 0 21,ze 25 1 21,ze 26 2 21,zw 6 24,zw 7 25,zw 8 26] (.seq (zR [zm 27 5,zn 28 27,zg (zm 29 8) 28 true,zp 30 28 29] (.cond (.l 30) (zR [zm 31 3,zm 32 6,zb 33 .mul 31 32,zm 34 4,zm 35 7,zb 36 .mul 34 35,z2 37 78 33 36,zw 2 37] (.ret)) (.skip))) (zR [zm 39 0,z1 40 135 39,zn 38 40,ze 41 0 38,ze 42 1 38,⟨.p 9,.alloc 162 [.bool false,.aa],none⟩,⟨.p 10,.alloc 162 [.bool false,.aa],none⟩,zs 2 9 41,zs 2 10 42] (zR [zm 44 1,z1 45 135 44,zn 43 45,ze 46 0 43,ze 47 1 43,⟨.p 11,.alloc 162 [.bool false,.aa],none⟩,⟨.p 12,.alloc 162 [.bool false,.aa],none⟩,zs 2 11 46,zs 2 12 47] (.seq (.draw [(zt 48 2 9,[]),(zt 49 2 11,[0]),(z2 50 137 48 49,[]),(zt 51 2 10,[0,1,2]),(zt 52 2 12,[0,1,2,3]),(z2 53 137 51 52,[]),(z2 54 136 50 53,[]),(zw 2 54,[])]) (.ret)))))))
theorem aft:FT 53=some ⟨55,[0,1,4,5,6,7,8,9,10,11,12,13,14],[.var (.p 2)],FM⟩:=by kernel_rfl
def OQ:an:=zR [⟨.p 1,.mv (.c (.str [])),none⟩] (zR [zm 6 0,z1 7 135 6,zn 5 7,ze 8 0 5,ze 9 1 5,⟨.p 2,.alloc 162 [.bool false,.aa],none⟩,⟨.p 3,.alloc 162 [.bool false,.aa],none⟩,zs 2 2 8,zs 2 3 9] (zR [zt 10 2 3,zt 11 2 2,z2 12 136 10 11,zw 1 12] (.ret)))
theorem afu:FT 133=some ⟨13,[0,2,3,4],[.var (.p 1)],OQ⟩:=by kernel_rfl
def OR:an:=zR [⟨.p 2,.mv (.c (.str [])),none⟩] (zR [zm 5 0,zm 6 1,z1 7 133 6,z2 8 53 5 7,zw 2 8] (.ret))
theorem afv:FT 52=some ⟨9,[0,1,4],[.var (.p 2)],OR⟩:=by kernel_rfl
def OS:an:=zR [zi 2 0] (zR [zm 5 0,zm 6 1,z2 7 57 5 6,z1 8 140 7,zw 2 8] (.ret))
theorem afw:FT 55=some ⟨9,[0,1,4],[.var (.p 2)],OS⟩:=by kernel_rfl
theorem FN {y:List Int}(ok:okW dB y)(i:Nat):0<=fM y i/\fM y i<1000000000:=by
 unfold fM;split
 . rename_i h;exact bT ok h
 . exact⟨by decide,by decide⟩
theorem afx (hft:M.FT=FT)(a:List Int)(i:Int)(hi:0<=i):aS M 254 [.vs (al a) a.length c1,.iV i] [] ⟨.iV (fM a i.toNat),[],[]⟩:=by
 refine bC (by rw[hft];exact aei) (by simp) ?_;unfold fM;unfold NP;simp only[enter];by_cases h:i.toNat<a.length
 . rw[if_pos h];exact gg0
 . rw[if_neg h];exact gg0
theorem FO (hft:M.FT=FT)(K:ab):aS M 242 [.aa] K ⟨.aa,K,[]⟩:=by
 refine lF (by rw[hft];exact yT) (by simp) (by simp[AV.top]) ?_;unfold tN;simp only[enter];repeat' first|refine gc ?_|fail
 refine W.loop ?_;unfold jD;exact gg3
def OT (M:aw)(g:Nat)(ars:List AV)(n:Nat)(z:Int):Prop:=∃r:List Int,(okW dB r/\WV dB r=z/\r.length<=n)/\∃v hh,gm v hh r/\aS M g ars [] ⟨v,hh,[]⟩
theorem afy {f N n:Nat}{aO:List Nat}{res:List fa}{body:an}{ars:List AV}{z:Int}(hft:M.FT f=some ⟨N,aO,res,body⟩)(hN:ars.length<=N)
 (h:W M body ⟨⟨aO.map (fun t=>(ars[t]?).getD cm),[],[],[]⟩,[]⟩ fun e s=>(e = .normal\/e = .ret)/\s.s.bO=[]/\∃vs,cX s.s res=some vs/\∃r:List Int,(okW dB r/\WV dB r=z/\r.length<=n)/\gm (aU vs) (if (aU vs).top<=0 then [] else s.s.hp) r):OT M f ars n z:=by
 obtain⟨v,hh,⟨r,hr,ho⟩,h2⟩:=gH (P:=fun v hh=>∃r:List Int,(okW dB r/\WV dB r=z/\r.length<=n)/\gm v hh r) hft hN h;exact⟨r,hr,v,hh,ho,h2⟩
theorem gm.Hc {K:ab}{o:AV}{acc:List Int}{S:List Nat}(h:bS iC 1 3 K o acc S):gm (aU [o]) (if (aU [o]).top<=0 then [] else K) acc:=
 ⟨.vs (al acc) acc.length none,h.UM (fun _=>rfl) (fun _=>rfl) (fun _=>rfl),fm acc,by rw[bU,Fl]⟩
section
variable {t:Nat} {x y:aN} {l:List aT} {pe:List AV} {lo:List (Nat×AV)} {df wr:List Nat} {v a d:Int} {Q:aq->Prop}
theorem ajM (hx:(St.mk pe lo hp df).ae x=some (.iV a))(hy:(St.mk pe lo hp df).ae y=some (.iV d))(ha:0<=a/\a<9223372036854775808)(hd:0<d)(hv:a/d=v)
 (h:WO M l ⟨⟨pe,(t,.iV v)::lo,hp,df⟩,wr⟩ Q):WO M (⟨.l t,.bin .quo x y,none⟩::l) ⟨⟨pe,lo,hp,df⟩,wr⟩ Q:=aiJ hx hy ha hd (by rw[hv];exact h)
theorem ajN (hx:(St.mk pe lo hp df).ae x=some (.iV a))(hy:(St.mk pe lo hp df).ae y=some (.iV d))(ha:0<=a)(hd:0<d)(hv:a%d=v)
 (h:WO M l ⟨⟨pe,(t,.iV v)::lo,hp,df⟩,wr⟩ Q):WO M (⟨.l t,.bin .rem x y,none⟩::l) ⟨⟨pe,lo,hp,df⟩,wr⟩ Q:=aja hx hy ha hd (by rw[hv];exact h)
end
structure FP (M:aw):Prop where
 ft:M.FT=FT
 zH:∀(a:List Int) c (i:Int) h,0<=i->M.ext 254 [.vs (al a) a.length c,.iV i] h=some ⟨.iV (fM a i.toNat),h,[]⟩
 dP:∀ars h,M.ext 242 ars h=none
theorem afz (C:FP M)(a b:List Int)(oa:okW dB a)(ob:okW dB b)(la:a.length<1000000)(lb:b.length<1000000):OT M 206 [.vs (al a) a.length c1,.vs (al b) b.length c2] (a.length+b.length+1) (WV dB a+WV dB b):=by
 refine afy (by rw[C.ft];exact afg) (by simp) ?_;unfold OD;simp only[enter];repeat' first|refine gc ?_|fail
 obtain⟨n,hn⟩:∃n:Nat,a.length<=n/\b.length<=n/\n<=a.length+b.length/\(n=a.length\/n=b.length):=⟨max a.length b.length,by omega,by omega,by omega,by omega⟩;refine W.fV (fun m st=>∃i acc o c a6 K lo wr,st=⟨⟨[.vs (al a) a.length c1,.vs (al b) b.length c2,.aa,o,.iV c,.iV (i:Nat),a6],lo,K,[]⟩,wr⟩/\m=n+1-i/\i<=n+1/\(i=n+1->c=0)/\(0<=c/\c<=1)/\okW dB acc/\acc.length=i/\bS iC 1 3 K o acc []/\WV dB acc+dB^i*c=WV dB (a.take i)+WV dB (b.take i))
  (fun m st ⟨i,acc,o,c,a6,K,lo,wr,hst,hm,hi,hic,hc,oA,lA,ho,hv⟩=>?_) (m:=n+1) ⟨0,[],.aa,0,_,_,_,_,rfl,rfl,by omega,fun _=>rfl,⟨by decide,by decide⟩,ix,rfl,.mJ,by simp[WV]⟩
 subst hst;by_cases hend:i<a.length\/i<b.length\/0<c
 . have ga:=FN oa i;have gb:=FN ob i;have ta:=sG (B:=dB) (y:=a) (i:=i);have tb:=sG (B:=dB) (y:=b) (i:=i);have q1:=fun h=>C.zH a c1 i h (by omega)
   have q2:=fun h=>C.zH b c2 i h (by omega)
   rw[Int.toNat_natCast]at q1 q2;have za:a.length<=i->fM a i=0:=fun h=>if_neg (by omega)
   have zb:b.length<=i->fM b i=0:=fun h=>if_neg (by omega)
   generalize fM a i=x at *
   generalize fM b i=y at *
   have hi2:i<=n:=by
    rcases Nat.lt_or_ge n i with h|h
    . have:=hic (by omega);omega
    . exact h
   obtain⟨R,hR⟩:∃R,R=(x+y+c)%1000000000:=⟨_,rfl⟩;obtain⟨D,hD⟩:∃D,D=(x+y+c)/1000000000:=⟨_,rfl⟩;have hroom:(acc.length+1)*8<=dv:=by unfold dv;omega
   have hD0:i+1=n+1->D=0:=fun h=>by
    have h1:=za (by omega);have h2:=zb (by omega);omega
   have hval:WV dB (acc++[R])+dB^(i+1)*D=WV dB (a.take (i+1))+WV dB (b.take (i+1)):=by
    rw[fK,lA,ta,tb,Int.pow_succ];have e1:WV dB [R]=R:=by simp[WV]
    have e2:R+1000000000*D=x+y+c:=by omega
    have e3:dB^i*(R+1000000000*D)=dB^i*(x+y+c):=by rw[e2]
    rw[e1];show WV dB acc+dB^i*R+dB^i*1000000000*D=_;grind
   unfold FG;exact gg2
 . have h1:a.take i=a:=List.take_of_length_le (by omega);have h2:b.take i=b:=List.take_of_length_le (by omega);have hc0:c=0:=by omega
   rw[h1,h2,hc0,Int.mul_zero,Int.add_zero]at hv;unfold FG;exact gg2
theorem afA (C:FP M)(a b:List Int)(oa:okW dB a)(ob:okW dB b)(la:a.length<1000000)(lb:b.length<=a.length)(hle:WV dB b<=WV dB a):zj M 219 [.vs (al a) a.length c1,.vs (al b) b.length c2] (WV dB a-WV dB b):=by
 refine Fm (by rw[C.ft];exact afh) (by simp) ?_;unfold OE;simp only[enter];repeat' first|refine gc ?_|fail
 refine W.gI a.length (fun i st=>∃acc o c a6 K lo wr,st=⟨⟨[.vs (al a) a.length c1,.vs (al b) b.length c2,.aa,o,.iV c,.iV i,a6],lo,K,[]⟩,wr⟩/\(0<=c/\c<=1)/\okW dB acc/\acc.length=i/\bS iC 1 3 K o acc []/\WV dB acc-dB^i*c=WV dB (a.take i)-WV dB (b.take i))
  (fun i st hi ⟨acc,o,c,a6,K,lo,wr,hst,hc,oA,lA,ho,hv⟩=>?_) (fun st ⟨acc,o,c,a6,K,lo,wr,hst,hc,oA,lA,ho,hv⟩=>?_) (Nat.zero_le _) ⟨[],.aa,0,_,_,_,_,rfl,⟨by decide,by decide⟩,ix,rfl,.mJ,by simp[WV]⟩
 . subst hst;have ga:=bT oa hi;have gb:=FN ob i;have ta:=fl (b:=dB) (l:=a) hi;have tb:=sG (B:=dB) (y:=b) (i:=i);have q2:=fun h=>C.zH b c2 i h (by omega)
   rw[Int.toNat_natCast]at q2;obtain⟨x,hx⟩:∃x,x=a[((i:Int)).toNat]! := ⟨_,rfl⟩;rw[show a[i]! = x from hx.symm]at ga ta;have ga:0<=x/\x<1000000000:=ga;generalize fM b i=y at *
   have hroom:(acc.length+1)*8<=dv:=by unfold dv;omega
   have next:∀(R D:Int) H o' a6 lo wr,bS iC 1 3 H o' (acc++[R]) []->(0<=D/\D<=1)->(0<=R/\R<1000000000)->R-1000000000*D=x-y-c->LI (fun st=>∃acc o c a6 K lo wr,st=⟨⟨[.vs (al a) a.length c1,.vs (al b) b.length c2,.aa,o,.iV c,.iV ((i+1:Nat):Int),a6],lo,K,[]⟩,wr⟩/\(0<=c/\c<=1)/\okW dB acc/\acc.length=i+1/\bS iC 1 3 K o acc []/\WV dB acc-dB^(i+1)*c=WV dB (a.take (i+1))-WV dB (b.take (i+1)))
    (BQ 0 (SQ M (zR [zm 33 3,z1 34 242 33,zw 2 34] (.ret)) (fun e s=>(e = .normal\/e = .ret)/\s.s.bO=[]/\∃vs,cX s.s [.var (.p 2)]=some vs/\∃r:List Int,(okW dB r/\aM r/\WV dB r=WV dB a-WV dB b)/\gm (aU vs) (if (aU vs).top<=0 then [] else s.s.hp) r)))
    .normal ⟨⟨[.vs (al a) a.length c1,.vs (al b) b.length c2,.aa,o',.iV D,.iV ((i:Int)+1),a6],lo,H,[]⟩,wr⟩:=fun R D H o' a6 lo wr ho' hD hR he=>
    cN ⟨acc++[R],o',D,a6,H,lo,wr,rfl,hD,jq oA (fun z hz=>by rw[List.mem_singleton.1 hz];exact hR),by simp[lA],ho',by
     rw[fK,lA,ta,tb,Int.pow_succ];have e1:WV dB [R]=R:=by simp[WV]
     have e3:dB^i*(R-1000000000*D)=dB^i*(x-y-c):=by rw[he]
     rw[e1];show WV dB acc+dB^i*R-dB^i*1000000000*D=_;grind⟩
   by_cases hneg:x-y-c<0
   . rw[hx]at hneg;unfold qZ;exact gg0
   . rw[hx]at hneg;unfold qZ;exact gg0
 . subst hst;have h2:b.take a.length=b:=List.take_of_length_le lb;rw[List.take_length,h2]at hv;have hc0:c=0:=by
    have h1:=cR (b:=dB) (by decide) oA;rw[lA]at h1;rcases (show c=0\/c=1 by omega) with h|h
    . exact h
    . rw[h,Int.mul_one]at hv;omega
   rw[hc0,Int.mul_zero,Int.sub_zero]at hv;obtain⟨g1,g2,g3⟩:=ph oA;rcases ho with ⟨rfl,rfl⟩|⟨k,cap,_,rfl,hk,hcap⟩
   . have ha0:a.length=0:=lA.symm;have q0:CT M (ir 242) [.aa] K ⟨.aa,K,[]⟩:=CT.run (fi:=[]) (ca:=[]) (C.dP _ _) (FO C.ft K);unfold qZ;exact gg0
   . have hpos:0<acc.length\/acc.length=0:=by omega
     rcases hpos with h0|h0
     . obtain rfl:cap=none:=hcap.resolve_right fun h=>by rw[h.1]at h0;simp at h0
       have q1:=pk (cap:=none) C.ft C.dP hk h0 (Nat.le_refl _) (by omega) (fun c hc=>by cases hc);have hout:=gm.trim (cap:=none) hk (Nat.le_refl acc.length);rw[List.take_length]at q1 hout;unfold qZ;exact gg0
     . have ha0:acc=[]:=List.eq_nil_of_length_eq_zero h0;subst ha0;have q1:CT M (ir 242) [.sl k 0 ([]:List Int).length 1 cap] K ⟨.sl k 0 ([]:List Int).length 1 cap,K,[]⟩:=CT.run (fi:=[]) (ca:=[]) (C.dP _ _) (Fq C.ft hk);unfold qZ;exact gg0
theorem afB (hft:M.FT=FT)(l:List Int)(hl:l.length<1000000000)(K:ab):aS M 242 [.vs (al l) l.length cap] K ⟨.vs (al (l.take (aP l))) (l.take (aP l)).length cap,K,[]⟩:=by
 refine lF (by rw[hft];exact yT) (by simp) (by simp[AV.top,fm]) ?_;have loop:∀(r:Nat) (lo:List (Nat×AV)) (a1:AV) {Q:Ex->aq->Prop},r<=l.length->aP (l.take r)=aP l->(∀lo,Q (.exit 0) ⟨⟨[.vs (al (l.take (aP l))) (l.take (aP l)).length cap,a1],lo,K,[]⟩,[]⟩)->W M (.loop jD) ⟨⟨[.vs (al (l.take r)) (l.take r).length cap,a1],lo,K,[]⟩,[]⟩ Q:=by
  intro r;induction r with
  | zero=>
   intro lo a1 Q hr he hQ;have e0:aP l=0:=by rw[←he];rfl
   rw[e0]at hQ;have hl0:(l.take 0).length=0:=rfl;refine W.loop ?_;unfold jD;exact gg3
  | succ r ih=>
   intro lo a1 Q hr he hQ;have e:=oz (l:=l) (i:=r) (by omega);have hlr:(l.take (r+1)).length=r+1:=by rw[List.length_take];omega
   have eg:(l.take (r+1))[(((l.take (r+1)).length:Int)-1).toNat]! = l[r]! := by
    rw[hlr,show (((r+1:Nat):Int)-1).toNat=r by omega,List.getElem!_eq_getElem?_getD,List.getElem!_eq_getElem?_getD,List.getElem?_take_of_lt (by omega)]
   have et:(l.take (r+1)).take ((((l.take (r+1)).length:Nat):Int)-1).toNat=l.take r:=by
    rw[hlr,show (((r+1:Nat):Int)-1).toNat=r by omega,List.take_take,Nat.min_eq_left (by omega)]
   have next:∀lo,W M (.loop jD) ⟨⟨[.vs (al ((l.take (r+1)).take ((((l.take (r+1)).length:Nat):Int)-1).toNat)) ((l.take (r+1)).take ((((l.take (r+1)).length:Nat):Int)-1).toNat).length cap,a1],lo,K,[]⟩,[]⟩ Q\/l[r]! ≠ 0:=fun lo=>by
    by_cases h0:l[r]! = 0
    . rw[if_pos h0]at e;rw[et];exact .inl (ih _ _ (by omega) (e.symm.trans he) hQ)
    . exact .inr h0
   have fin:l[r]! ≠ 0->l.take (aP l)=l.take (r+1):=fun h0=>by
    rw[if_neg h0]at e;rw[←he,e]
   rw[←eg]at next fin
   refine W.loop ?_;by_cases h0:(l.take (r+1))[(((l.take (r+1)).length:Int)-1).toNat]! = 0
   . have next:=fun lo=>(next lo).resolve_right fun h=>h h0
     generalize l.take (r+1)=L at *
     unfold jD;exact gg6
   . rw[fin h0]at hQ;generalize l.take (r+1)=L at *
     unfold jD;exact gg1
 unfold tN;simp only[enter];repeat' first|refine gc ?_|fail
 have h0:=loop l.length;rw[List.take_length]at h0;refine h0 _ _ (Nat.le_refl _) rfl (fun lo=>?_);repeat' first|refine gc ?_|fail
 exact⟨.inr rfl,rfl,⟨[],by simp⟩,by simp,_,rfl,rfl⟩
def bJ (neg:Bool)(z:Int):Int:=if neg then -z else z
theorem afC (hft:M.FT=FT)(dP:∀ars h,M.ext 242 ars h=none)(neg:Bool){x:AV}{l:List Int}(hx:cz x l)(ok:okW dB l)(hl:l.length<1000000000):∃v0,bQ v0 (bJ neg (WV dB l))/\cD M 196 [.bool neg,x] v0:=by
 obtain⟨g1,g2,g3⟩:=ph ok;rcases hx with rfl|⟨rfl,rfl⟩
 . refine⟨.agg [.bool (neg && decide (0<aP l)),.vs (al (l.take (aP l))) (l.take (aP l)).length none],⟨_,_,_,rfl,.inl rfl,g1,g2,?_,fun h e=>?_⟩,?_⟩
   . rw[g3,bJ];cases neg with
     | false=>rfl
     | true=>
      by_cases h0:0<aP l
      . rw[decide_eq_true h0];rfl
      . rw[decide_eq_false h0];have:WV dB l=0:=by rw[←g3,show aP l=0 by omega];rfl
        rw[this];rfl
   . rw[Bool.and_eq_true,decide_eq_true_eq]at h;have:=congrArg List.length e;have hle:=im (l:=l);rw[List.length_take,List.length_nil]at this;omega
   . have q1:=fun K=>CT.run (fi:=[]) (ca:=[]) (ars:=[.vs (al l) l.length none]) (dP _ _) (afB (cap:=none) hft l hl K)
     have hT:(l.take (aP l)).length=aP l:=by rw[List.length_take];have:=im (l:=l);omega
     generalize l.take (aP l)=L at *
     rw[←hT];have fin:∀(b:Bool) hh,ew (.agg [.bool b,.vs (al L) L.length none]) hh (.agg [.bool b,.vs (al L) L.length none]):=fun b hh=>.same (by simp[AV.top,bh,fm]) (by simp[bG,cA,pj])
     refine cH (by rw[hft];exact yS) (by simp) ?_;unfold tM;simp only[enter];cases neg with
     | false=>
      exact gg3
     | true=>
      by_cases h0:0<L.length
      . rw[decide_eq_true h0];exact gg3
      . rw[decide_eq_false h0];exact gg3
 . refine⟨.agg [.bool false,.aa],⟨false,.aa,[],rfl,.inr ⟨rfl,rfl⟩,ix,jK,by cases neg <;> rfl,fun h=>by cases h⟩,?_⟩;have q1:=fun K=>CT.run (fi:=[]) (ca:=[]) (ars:=[.aa]) (dP _ _) (FO hft K)
   refine cH (by rw[hft];exact yS) (by simp) ?_;unfold tM;simp only[enter];cases neg with
   | false=>
    exact gg3
   | true=>
    exact gg3
end Go.Ab.Ch1
