/-
  Own work: rational numbers: bounds of sums and products, signs, whole parts; their texts have no error.
-/
import Derived.Test.YtcjphdmkgmkabaaGreatDoorLib4
import Derived.Test.YtcjphdmkgmkabaaGreatDoorCh1Base
import Derived.Test.YtcjphdmkgmkabaaGreatDoorLib3
import Derived.Test.YtcjphdmkgmkabaaGreatDoorLib2
set_option maxHeartbeats 8000000
set_option maxRecDepth 20000
namespace Go.Ab.Ch1
open Go.Ab.bj
def Dq (k:Nat)(q:Rat):Prop:=ah q.num<10^k/\(q.den:Int)<10^k
theorem oO (k:Nat):(0:Int)<10^k:=Int.pow_pos (by decide)
theorem oT {m n:Nat}(h:m<=n):(10:Int)^m<=10^n:=fP (by decide) h
theorem Dq.mono {m n:Nat}{q:Rat}(h:Dq m q)(hl:m<=n):Dq n q:=⟨Int.lt_of_lt_of_le h.1 (oT hl),Int.lt_of_lt_of_le h.2 (oT hl)⟩
theorem Mw {n d:Int}(h:0<d):∃c:Int,0<c/\n=c*(Rat.divInt n d).num/\d=c*((Rat.divInt n d).den:Int):=by
 obtain⟨k1,k2,h1,h2,h3,h4⟩:=wD (n:=n) h;refine⟨(Int.gcd n d:Nat),?_,by rw[h3];exact h1,by rw[h4];exact h2⟩;have:=Int.gcd_pos_of_ne_zero_right n (show d≠0 by omega);omega
theorem abq {c x:Int}(hc:0<c):ah x<=ah (c*x):=by
 rw[sD,cD (Int.le_of_lt hc)];have:=Int.mul_le_mul_of_nonneg_right (show 1<=c by omega) (iD (x:=x));omega
theorem Dq.divInt {k:Nat}{n d:Int}(hd:0<d)(h1:ah n<10^k)(h2:d<10^k):Dq k (Rat.divInt n d):=by
 obtain⟨c,hc,e1,e2⟩:=Mw (n:=n) hd;refine⟨Int.lt_of_le_of_lt ?_ h1,Int.lt_of_le_of_lt ?_ h2⟩
 . have:=abq (x:=(Rat.divInt n d).num) hc;rw[←e1]at this;exact this
 . have h0:(0:Int)<=((Rat.divInt n d).den:Int):=by omega
   have:=Int.mul_le_mul_of_nonneg_right (show 1<=c by omega) h0;rw[←e2]at this;omega
theorem jT {x y:Int}{m n:Nat}(hx:ah x<10^m)(hy:ah y<10^n):ah (x*y)<10^(m+n):=by
 rw[sD,Int.pow_add];have h1:=Int.mul_le_mul_of_nonneg_left (Int.le_of_lt hy) (iD (x:=x));have h2:=Int.mul_lt_mul_of_pos_right hx (oO n);omega
theorem Mx {x y:Int}:ah (x+y)<=ah x+ah y:=by unfold ah;split <;> split <;> split <;> omega
theorem Dq.add {m n:Nat}{p q:Rat}(hp:Dq m p)(hq:Dq n q):Dq (m+n+1) (p+q):=by
 rw[qA];have dp:=den_pos (q:=p);have dq:=den_pos (q:=q);have a1:=jT hp.1 (show ah (q.den:Int)<10^n by rw[cD (by omega)];exact hq.2);have a2:=jT hq.1 (show ah (p.den:Int)<10^m by rw[cD (by omega)];exact hp.2);have a3:=jT (show ah (p.den:Int)<10^m by rw[cD (by omega)];exact hp.2) (show ah (q.den:Int)<10^n by rw[cD (by omega)];exact hq.2);rw[Nat.add_comm n m]at a2;have a4:=Mx (x:=p.num*q.den) (y:=q.num*p.den);have e:(10:Int)^(m+n+1)=10^(m+n)*10:=Int.pow_succ _ _;have hp0:=oO (m+n);have hd:=Int.mul_pos dp dq;rw[cD (Int.le_of_lt hd)]at a3;exact .divInt hd (by omega) (by omega)
theorem DQ (p q:Rat):p*q=Rat.divInt (p.num*q.num) (p.den*q.den):=by
 have e:=Rat.divInt_mul_divInt p.num q.num (d₁:=p.den) (d₂:=q.den);rw[Rat.num_divInt_den,Rat.num_divInt_den]at e;exact e
theorem Dq.mul {m n:Nat}{p q:Rat}(hp:Dq m p)(hq:Dq n q):Dq (m+n) (p*q):=by
 rw[DQ];have dp:=den_pos (q:=p);have dq:=den_pos (q:=q);have a1:=jT hp.1 hq.1;have a3:=jT (show ah (p.den:Int)<10^m by rw[cD (by omega)];exact hp.2) (show ah (q.den:Int)<10^n by rw[cD (by omega)];exact hq.2);have hd:=Int.mul_pos dp dq;rw[cD (Int.le_of_lt hd)]at a3;exact .divInt hd a1 a3
theorem Dq.neg {m:Nat}{p:Rat}(hp:Dq m p):Dq m (-p):=by
 refine⟨?_,?_⟩
 . rw[Rat.neg_num,ja];exact hp.1
 . rw[Rat.neg_den];exact hp.2
theorem Dq.sub {m n:Nat}{p q:Rat}(hp:Dq m p)(hq:Dq n q):Dq (m+n+1) (p-q):=by
 rw[Rat.sub_eq_add_neg];exact hp.add hq.neg
theorem inv_divInt {q:Rat}:q⁻¹=Rat.divInt q.den q.num:=by
 rw[Rat.inv_def]
theorem Dq.inv {m:Nat}{q:Rat}(hq:Dq m q)(h0:q≠0):Dq m q⁻¹:=by
 have hn:q.num≠0:=fun e=>h0 (Rat.num_eq_zero.1 e)
 have dq:=den_pos (q:=q);rw[inv_divInt];by_cases hs:0<q.num
 . have a:=hq.1;rw[cD (by omega)]at a;exact .divInt hs (by rw[cD (by omega)];exact hq.2) a
 . rw[←Rat.neg_divInt_neg];have a:=hq.1;have e:ah q.num = -q.num:=if_pos (by omega);rw[e]at a;exact .divInt (by omega) (by rw[ja,cD (by omega)];exact hq.2) a
def jv (p q:Rat):Int:=bh (p.num*q.den-q.num*p.den)
theorem abr {c x:Int}(h:0<c):bh (c*x)=bh x:=by
 unfold bh;by_cases h1:x<0
 . have:=Int.mul_neg_of_pos_of_neg h h1;rw[if_pos this,if_pos h1]
 . by_cases h2:0<x
   . have:=Int.mul_pos h h2;rw[if_neg (by omega),if_pos this,if_neg h1,if_pos h2]
   . have:x=0:=by omega
     subst this;rw[Int.mul_zero]
theorem abt {n d:Int}(h:0<d):bh (Rat.divInt n d).num=bh n:=by
 obtain⟨c,hc,e1,_⟩:=Mw (n:=n) h;rw[←abr hc,←e1]
theorem abu (p q:Rat):p-q=Rat.divInt (p.num*q.den-q.num*p.den) (p.den*q.den):=by
 rw[Rat.sub_eq_add_neg,qA,Rat.neg_num,Rat.neg_den,Int.neg_mul,Int.sub_eq_add_neg]
theorem My (p:Rat):jv p 0=bh p.num:=by
 unfold jv;congr 1;show p.num*1-0*_=_;rw[Int.mul_one,Int.zero_mul,Int.sub_zero]
theorem abv (p q:Rat):jv (p-q) 0=jv p q:=by
 rw[My,abu,abt (Int.mul_pos den_pos den_pos)];rfl
theorem qN {z:Int}{k:Nat}(hk:0<k)(h:ah z<10^k):(aP (ah z).toNat).length<=k:=by
 refine oC ?_ hk;have h0:=iD (x:=z);have e:((10^k:Nat):Int)=(10:Int)^k:=Int.natCast_pow _ _;rw[←e]at h;omega
theorem Mz {z:Int}{k:Nat}(hk:0<k)(h:ah z<10^k):(bQ z).length<=k+1:=by
 have:=qN hk h;by_cases hz:z<0
 . rw[mN hz,List.length_cons];omega
 . rw[kA hz];omega
theorem MA {q:Rat}{k:Nat}(hk:0<k)(h:Dq k q):(aP q.den).length<=k:=by
 have:=qN (z:=(q.den:Int)) hk (by rw[cD (by omega)];exact h.2);rw[cD (by omega)]at this;exact this
theorem Dq.lq {q:Rat}{k N:Nat}(hk:0<k)(h:Dq k q)(hN:k+1<=N):Lq N q:=
 ⟨Nat.le_trans (Mz hk h.1) hN,Nat.le_trans (MA hk h) (by omega)⟩
theorem MB (n:Nat):dL (aP n)=true:=by
 obtain⟨h1,h2,h3⟩:=YZ n;unfold dL;rw[decide_eq_true h1,h2,Bool.true_and];cases hd:aP n with
 | nil=>exact absurd hd h1
 | cons b t=>
  rw[hd]at h3;by_cases hb:b=48
  . subst hb;have ht:=h3 rfl;have:t=[]:=List.eq_nil_of_length_eq_zero (by simpa using ht);subst this;rfl
  . have e:(b::t)[0]! = b:=rfl;rw[e,decide_eq_true (show b≠48 from hb)];rfl
theorem tk (q:Rat):preB 45 (ak q)=decide (q.num<0)/\bL 45 (ak q)=(if q.den=1 then aP (ah q.num).toNat else aP (ah q.num).toNat++47::aP q.den):=by
 by_cases hn:q.num<0
 . rw[decide_eq_true hn];unfold ak;split
   . rw[mN hn];exact⟨rfl,rfl⟩
   . rw[mN hn];exact⟨rfl,rfl⟩
 . rw[decide_eq_false hn];unfold ak;rw[kA hn];have hp:=Mg (ah q.num).toNat (c:=45) (by decide);split
   . exact⟨hp,jS hp⟩
   . have hp2:preB 45 (aP (ah q.num).toNat++47::aP q.den)=false:=by
      cases hd:aP (ah q.num).toNat with
      | nil=>exact absurd hd (ky _)
      | cons b t=>rw[hd]at hp;exact hp
     exact⟨hp2,jS hp2⟩
theorem MC (q:Rat):cQ (ak q)=aP (ah q.num).toNat/\dD (ak q)=(if q.den=1 then [] else aP q.den)/\gU (ak q)=decide (q.den≠1):=by
 have hn:=Mf (jt (ah q.num).toNat) (c:=47) (by decide);unfold cQ dD gU;rw[(tk q).2];by_cases h:q.den=1
 . rw[if_pos h,if_pos h,tg hn,decide_eq_false (by simpa using h)];exact⟨rfl,rfl,rfl⟩
 . rw[if_neg h,if_neg h,th hn,decide_eq_true h];exact⟨rfl,rfl,rfl⟩
theorem MD (z:Int):(ah z).toNat=z.natAbs:=by unfold ah;split <;> omega
theorem qO {q:Rat}{k:Nat}(hk:0<k)(h6:k<=600)(h:Dq k q):bR (ak q)=0:=by
 obtain⟨e1,e2,e3⟩:=MC q;have l1:=qN hk h.1;have l2:=MA hk h;have hpre:=(tk q).1;have hz:(preB 45 (ak q) && decide (aP (ah q.num).toNat=[48]))=false:=by
  rw[hpre];by_cases hn:q.num<0
  . rw[decide_eq_true hn,Bool.true_and,decide_eq_false_iff_not];intro e;have:=jc (ah q.num).toNat;rw[e]at this;have h2:ah q.num = -q.num:=if_pos hn;simp[az]at this;omega
  . rw[decide_eq_false hn,Bool.false_and]
 have dp:=q.den_pos;have hform:jd (ak q)=true:=by
  unfold jd;rw[e1,e2,e3,MB,hz];by_cases hd:q.den=1
  . rw[decide_eq_false (by simpa using hd)];rfl
  . rw[decide_eq_true hd,if_neg hd,MB];have n0:aP q.den≠[48]:=fun e=>by
     have:=jc q.den;rw[e]at this;simp[az]at this;omega
    have n1:aP q.den≠[49]:=fun e=>by
     have:=jc q.den;rw[e]at this;simp[az]at this;omega
    rw[decide_eq_true n0,decide_eq_true n1];rfl
 unfold bR;rw[hform,if_neg (by decide),e1,e2,e3];by_cases hd:q.den=1
 . rw[if_pos hd,if_neg (by simp;omega),if_neg (by simp[hd])]
 . rw[if_neg hd,if_neg (by omega),jc,jc,if_neg];rintro⟨_,h2⟩;rw[MD]at h2;have:=q.reduced;unfold Nat.Coprime at this;rw[fM,this]at h2;exact absurd h2 (by decide)
theorem ME {s:ao}(h:dL s=true):Di s:=by
 obtain⟨h1,h2⟩:=ti h;refine⟨h1,h2,fun h3=>?_⟩;simp only[dL,Bool.and_eq_true,Bool.or_eq_true,decide_eq_true_eq]at h;cases s with
 | nil=>exact absurd rfl h1
 | cons b t=>
  simp at h3;subst h3;rcases h.2 with h4|h4
  . exact absurd rfl h4
  . rw[h4];rfl
theorem MF {s:ao}{k:Nat}(h:s.all bI=true)(hl:s.length<=k):((az 0 s:Nat):Int)<10^k:=by
 have h1:=mK s h;have h2:(az 0 s:Int)<(10:Int)^s.length:=by exact_mod_cast h1
 exact Int.lt_of_lt_of_le h2 (oT hl)
theorem MG {s:ao}{k:Nat}(h:bR s=0)(hl:s.length<=k):∃q,s=ak q/\Dq k q:=by
 have hform:jd s=true:=by
  cases hf:jd s with
  | true=>rfl
  | false=>unfold bR at h;rw[hf,if_pos rfl]at h;exact absurd h (by decide)
 have hcop:¬(gU s=true/\fM (az 0 (cQ s)) (az 0 (dD s))=true):=fun hc=>by
  unfold bR at h;rw[hform,if_neg (by decide)]at h;split at h
  . exact absurd h (by decide)
  . exact absurd h (by decide)
 unfold jd at hform;rw[Bool.and_eq_true,Bool.and_eq_true]at hform;obtain⟨⟨f1,f2⟩,f3⟩:=hform;have hcl:=qK 45 s;have htl:(cQ s).length<=k:=Nat.le_trans (Nat.le_trans (tj 47 _) hcl) hl;have hbl:(dD s).length<=k:=Nat.le_trans (Nat.le_trans (DN 47 _) hcl) hl;have hT:=ME f1;have eT:=KK hT;have hs:s=if preB 45 s=true then 45::bL 45 s else bL 45 s:=by
  cases hp:preB 45 s with
  | false=>rw[if_neg (by decide),jS hp]
  | true=>
   rw[if_pos rfl];have hh:=of_decide_eq_true hp;unfold bL;rw[if_pos hh];cases s with
   | nil=>simp at hh
   | cons c t=>simp at hh;rw[hh];rfl
 obtain⟨z,hz⟩:∃z:Int,z=if preB 45 s=true then -(az 0 (cQ s):Int) else (az 0 (cQ s):Nat):=⟨_,rfl⟩
 have hza:ah z=(az 0 (cQ s):Nat):=by
  rw[hz];unfold ah;cases preB 45 s with
  | false=>simp only[Bool.false_eq_true,↓reduceIte];exact if_neg (by omega)
  | true=>simp only[↓reduceIte];split <;> omega
 have hzn:preB 45 s=decide (z<0):=by
  cases hp:preB 45 s with
  | false=>
   rw[hp,if_neg (by decide)]at hz;exact(decide_eq_false (by omega)).symm
  | true=>
   rw[hp,if_pos rfl]at hz;rw[hp]at f2;have n0:az 0 (cQ s)≠0:=fun e=>by
    rw[e,gS (by decide)]at eT;rw[←eT]at f2;exact absurd f2 (by decide)
   rw[decide_eq_true (by omega)]
 have hzt:bQ z=if preB 45 s=true then 45::cQ s else cQ s:=by
  rw[hzn];by_cases hn:z<0
  . rw[mN hn,hza,decide_eq_true hn,if_pos rfl];show 45::aP (az 0 (cQ s))=_;rw[eT]
  . rw[kA hn,hza,decide_eq_false hn,if_neg (by decide)];exact eT
 have hzb:ah z<10^k:=by rw[hza];exact MF hT.2.1 htl
 have k1:(1:Int)<10^k:=by
  have h0:0<(cQ s).length:=List.length_pos_iff.2 hT.1;have:=oT (show 1<=k by omega);rw[Int.pow_one]at this;omega
 cases hb:gU s with
 | false=>
  have hn:(bG 47 (bL 45 s)).2=none:=by
   unfold gU at hb;cases h:(bG 47 (bL 45 s)).2 with
   | none=>rfl
   | some y=>rw[h]at hb;cases hb
  have e:cQ s=bL 45 s:=(mP hn).1;refine⟨Rat.divInt z 1,?_,?_⟩
  . unfold ak;rw[mH.1,mH.2,if_pos rfl,hzt,e];exact hs
  . exact⟨by rw[mH.1];exact hzb,by rw[mH.2];exact k1⟩
 | true=>
  rw[hb]at f3 hcop;simp only[Bool.not_true,Bool.false_or,Bool.and_eq_true,decide_eq_true_eq]at f3;have hB:=ME f3.1.1;have eB:=KK hB;have hd2:az 0 (dD s)≠0/\az 0 (dD s)≠1:=by
   refine⟨fun e=>?_,fun e=>?_⟩
   . rw[e,gS (by decide)]at eB;exact f3.1.2 eB.symm
   . rw[e,gS (by decide)]at eB;exact f3.2 eB.symm
  have hco:z.natAbs.Coprime (az 0 (dD s)):=by
   have h2:fM (az 0 (cQ s)) (az 0 (dD s))=false:=by
    cases hc:fM (az 0 (cQ s)) (az 0 (dD s)) with
    | false=>rfl
    | true=>exact absurd ⟨rfl,hc⟩ hcop
   have:z.natAbs=az 0 (cQ s):=by rw[←MD,hza];rfl
   rw[this];simpa[fM] using h2
  refine⟨⟨z,az 0 (dD s),hd2.1,hco⟩,?_,hzb,MF hB.2.1 hbl⟩;unfold gU at hb;obtain⟨y,hy⟩:=Option.isSome_iff_exists.1 hb;have e:=(qJ hy).1;have eb:dD s=y:=by unfold dD;rw[hy];rfl
  have et:(bG 47 (bL 45 s)).1=cQ s:=rfl;rw[et,←eb]at e;unfold ak;rw[if_neg hd2.2,hzt];show s=_++47::aP (az 0 (dD s));rw[eB];cases hp:preB 45 s with
  | false=>rw[hp,if_neg (by decide),e]at hs;rw[if_neg (by decide)];exact hs
  | true=>rw[hp,if_pos rfl,e]at hs;rw[if_pos rfl];exact hs
theorem DR:ak 0=[48]:=by
 show (if (1:Nat)=1 then bQ 0 else _)=_;rw[if_pos rfl,kA (by decide)];exact gS (by decide)
theorem DS {q:Rat}(h:ak q=[48]):q=0:=by
 obtain⟨e1,e2,e3⟩:=MC q;rw[h]at e1 e3;have a1:cQ [48]=[48]:=rfl;have a3:gU [48]=false:=rfl;rw[a1]at e1;have:=jc (ah q.num).toNat;rw[←e1]at this;simp[az]at this;have h0:=iD (x:=q.num);refine Rat.num_eq_zero.1 ?_;unfold ah at this h0;split at this <;> omega
end Go.Ab.Ch1

/-
  Own work: texts: zeros repeated a few times.
-/
namespace Go.Ab.Ch1
open Go.Ab.bj
variable {M:ax} {cap:Option Nat}
theorem abw (hft:M.FT=FT)(k:Nat)(q:∀h,M.ext 244 [.uV 1,.uV k] h=some ⟨.au [.uV 0,.uV k],h,[]⟩):aT M 300 [.uV 1,.uV k] [] ⟨.au [.uV 0,.uV k],[],[]⟩:=by
 refine bB (by rw[hft];exact Zz) (by simp) ?_;unfold KX;simp only[enter];exact gg11
def nj:ao:=[48,48,48,48,48,48,48,48,48,48,48,48,48,48,48,48,48,48,48,48,48,48,48,48,48,48,48,48,48,48,48,48,48,48,48,48,48,48,48,48,48,48,48,48,48,48,48,48,48,48,48,48,48,48,48,48,48,48,48,48,48,48,48,48]
def MH:ao:=[32,32,32,32,32,32,32,32,32,32,32,32,32,32,32,32,32,32,32,32,32,32,32,32,32,32,32,32,32,32,32,32,32,32,32,32,32,32,32,32,32,32,32,32,32,32,32,32,32,32,32,32,32,32,32,32,32,32,32,32,32,32,32,32,32,32,32,32,32,32,32,32,32,32,32,32,32,32,32,32,32,32,32,32,32,32,32,32,32,32,32,32,32,32,32,32,32,32,32,32,32,32,32,32,32,32,32,32,32,32,32,32,32,32,32,32,32,32,32,32,32,32,32,32,32,32,32,32]
def MI:ao:=[45,45,45,45,45,45,45,45,45,45,45,45,45,45,45,45,45,45,45,45,45,45,45,45,45,45,45,45,45,45,45,45,45,45,45,45,45,45,45,45,45,45,45,45,45,45,45,45,45,45,45,45,45,45,45,45,45,45,45,45,45,45,45,45,45,45,45,45,45,45,45,45,45,45,45,45,45,45,45,45,45,45,45,45,45,45,45,45,45,45,45,45,45,45,45,45,45,45,45,45,45,45,45,45,45,45,45,45,45,45,45,45,45,45,45,45,45,45,45,45,45,45,45,45,45,45,45,45]
theorem abx {k:Nat}(h:k<=64):nj.take k=List.replicate k 48:=by
 have:nj=List.replicate 64 48:=rfl;rw[this,List.take_replicate,Nat.min_eq_left h]
set_option maxRecDepth 100000 in
theorem aby (hft:M.FT=FT)(k:Nat)(hk:k<=64)(q300:∀h,M.ext 300 [.uV 1,.uV k] h=some ⟨.au [.uV 0,.uV k],h,[]⟩)(q212:∀h,M.ext 212 [.str nj,.str [48]] h=some ⟨.bool true,h,[]⟩)(q32:∀h,M.ext 212 [.str MH,.str [48]] h=some ⟨.bool false,h,[]⟩)(q45:∀h,M.ext 212 [.str MI,.str [48]] h=some ⟨.bool false,h,[]⟩):aT M 264 [.str [48],.iV k] [] ⟨.str (List.replicate k 48),[],[]⟩:=by
 have hn1:([48]:ao).length=1:=rfl;have hz:nj.length=64:=rfl;have e48:(([48]:ao)[(0:Int).toNat]!).toNat=48:=rfl;refine bB (by rw[hft];exact Zx) (by simp) ?_;unfold KT;simp only[enter];by_cases h0:k=0
 . subst h0;exact gg4
 . by_cases h1:k=1
   . subst h1;exact gg0
   . have hd:nj.take (k:Int).toNat=List.replicate k 48:=abx hk;exact gg10
end Go.Ab.Ch1

/-
  Own work: the contracts of texts, and of operations on numbers as texts, as tables.
-/
namespace Go.Ab.Ch1
open Go.Proofs Go.Ab.bj
variable {T:List (Nat×Spec)}
set_option maxRecDepth 1000000 in
theorem abz:nG Tryz.prog 323 .same:=⟨⟨_,rfl,by kernel_rfl,by kernel_rfl,by kernel_rfl,by kernel_rfl⟩⟩
noncomputable def MJ:Spec:=sK [] 324
noncomputable def MK:Spec:=sK [] 325
theorem abA:aS Tryz.prog gl 324 MJ:=aZ bA
theorem abB:aS Tryz.prog gl 325 MK:=aZ bA
noncomputable def ML:List (Nat×Spec):=[(240,sG),(324,MJ),(325,MK)]
theorem cIt:KN (aV Tryz.prog FT ML) where
 ft:=ba
 sn:=fun x h hx=>CP x h hx
 KO:=fun x h hx=>bF (Zc ba x hx) rfl rfl rfl h
 Dj:=fun x h=>bF (Zd ba x) rfl rfl rfl h
noncomputable def MM:Spec:=sK [] 304
noncomputable def MN:Spec:=sK ML 305
theorem abD:aS Tryz.prog gl 304 MM:=aZ bA
theorem abE:aS Tryz.prog gl 305 MN:=aZ (aL CO (aL abA (aL abB bA)))
noncomputable def xN:List (Nat×Spec):=[(304,MM),(305,MN)]
theorem MO:cz Tryz.prog gl (bk xN):=aL abD (aL abE bA)
theorem MP:sS (aV Tryz.prog FT xN) where
 ft:=ba
 KS:=fun _ _=>rfl
 Dp:=fun n h hn=>bF (Zn ba n hn) rfl rfl rfl h
 xz:=fun d h hd=>bF (Zi cIt d hd) rfl rfl rfl h
noncomputable def xO:Spec:=sK xN 299
noncomputable def xP:Spec:=sK xN 267
noncomputable def xQ:Spec:=sK [(267,xP)] 226
noncomputable def DT:Spec:=sK [(226,xQ)] 183
noncomputable def DU:Spec:=sK [(299,xO)] 263
theorem abF:aS Tryz.prog gl 299 xO:=aZ MO
theorem abG:aS Tryz.prog gl 267 xP:=aZ MO
theorem abH:aS Tryz.prog gl 226 xQ:=aZ (aL abG bA)
theorem abI:aS Tryz.prog gl 183 DT:=aZ (aL abH bA)
theorem abJ:aS Tryz.prog gl 263 DU:=aZ (aL abF bA)
theorem abK:∀z h,(-9223372036854775808<=z/\z<9223372036854775808)->DT [.iV z] h=some ⟨.str (bQ z),h,[]⟩:=fun z h hz=>by
 have q267:∀h,xP [.iV z,.iV 10] h=some ⟨.str (bQ z),h,[]⟩:=bF (Zs MP z hz) rfl rfl rfl;have q226:∀h,xQ [.iV z] h=some ⟨.str (bQ z),h,[]⟩:=bF (Zt (M:=aV Tryz.prog FT [(267,xP)]) ba z q267) rfl rfl rfl;exact bF (Zu (M:=aV Tryz.prog FT [(226,xQ)]) ba z q226) rfl rfl rfl h
theorem abL:∀(u:Nat) h,u<18446744073709551616->DU [.uV u,.iV 10] h=some ⟨.str (aP u),h,[]⟩:=fun u h hu=>by
 have q299:∀h,xO [.uV u,.iV 10] h=some ⟨.str (aP u),h,[]⟩:=bF (Zr MP u hu) rfl rfl rfl;exact bF (Zv (M:=aV Tryz.prog FT [(299,xO)]) ba u q299) rfl rfl rfl h
noncomputable def mT:Spec:=sK [] 255
noncomputable def tn:Spec:=sK [(255,mT)] 212
noncomputable def xR:Spec:=sK [(255,mT)] 258
noncomputable def xS:Spec:=sK [(258,xR)] 213
noncomputable def xT:Spec:=sK [(255,mT)] 207
noncomputable def DV:Spec:=sK [(207,xT)] 162
theorem DW:aS Tryz.prog gl 255 mT:=aZ bA
theorem MQ:aS Tryz.prog gl 212 tn:=aZ (aL DW bA)
theorem abM:aS Tryz.prog gl 258 xR:=aZ (aL DW bA)
theorem abN:aS Tryz.prog gl 213 xS:=aZ (aL abM bA)
theorem abO:aS Tryz.prog gl 207 xT:=aZ (aL DW bA)
theorem abP:aS Tryz.prog gl 162 DV:=aZ (aL abO bA)
theorem DX:∀(s:ao) b h,s.length<1000000->mT [.str s,.str [b]] h=some ⟨.bool (preB b s),h,[]⟩:=fun s b h hl=>bF (aaL ba s b hl) rfl rfl rfl h
theorem xU:∀(s:ao) b h,s.length<1000000->tn [.str s,.str [b]] h=some ⟨.bool (preB b s),h,[]⟩:=fun s b h hl=>
 bF (aaM (M:=aV Tryz.prog FT [(255,mT)]) ba s b fun h=>DX s b h hl) rfl rfl rfl h
theorem abQ:∀(s:ao) b h,s.length<1000000->xS [.str s,.str [b]] h=some ⟨.str (bL b s),h,[]⟩:=fun s b h hl=>by
 have q258:∀h,xR [.str s,.str [b]] h=some ⟨.str (bL b s),h,[]⟩:=bF (aaN (M:=aV Tryz.prog FT [(255,mT)]) ba s b hl fun h=>DX s b h hl) rfl rfl rfl;exact bF (aaO (M:=aV Tryz.prog FT [(258,xR)]) ba s b q258) rfl rfl rfl h
theorem abR:∀(s:ao) b h,s.length<1000000->DV [.str s,.str [b]] h=some ⟨.au [.str (bL b s),.bool (preB b s)],h,[]⟩:=fun s b h hl=>by
 have q207:∀h,xT [.str s,.str [b]] h=some ⟨.au [.str (bL b s),.bool (preB b s)],h,[]⟩:=bF (aaP (M:=aV Tryz.prog FT [(255,mT)]) ba s b hl fun h=>DX s b h hl) rfl rfl rfl;exact bF (aaQ (M:=aV Tryz.prog FT [(207,xT)]) ba s b q207) rfl rfl rfl h
def MR:List (Nat×Spec):=[(312,my .index)]
theorem cIx:tc (aV Tryz.prog FT MR) where
 ft:=ba
 LJ:=fun _ _=>rfl
 LK:=fun _ _=>rfl
 LL:=fun _ _ _=>rfl
noncomputable def xV:Spec:=sK MR 163
theorem abT:aS Tryz.prog gl 163 xV:=aZ (aL (vn Iy) bA)
theorem abU:∀(s:ao) b h,s.length<1000000->xV [.str s,.str [b]] h=some ⟨iH b s,h,[]⟩:=fun s b h hl=>bF (aat (fun _ _=>rfl) cIx s b hl) rfl rfl rfl h
theorem abV:cP eL=eL:=by
 unfold eL;induction List.range 256 with
 | nil=>rfl
 | cons a l ih=>
  rw[List.map_cons,cP,ih];rfl
theorem abW:br eL=0:=by
 unfold eL;induction List.range 256 with
 | nil=>rfl
 | cons a l ih=>simp only[List.map_cons,br,ih,AV.top];rfl
noncomputable def xW:Spec:=sK [] 288
noncomputable def xX:Spec:=sK [(288,xW)] 257
noncomputable def xY:Spec:=sK [(257,xX)] 209
noncomputable def DY:Spec:=sK [(209,xY)] 164
noncomputable def xZ:Spec:=sK [] 214
theorem abX:aS Tryz.prog gl 288 xW:=aZ bA
theorem abY:aS Tryz.prog gl 257 xX:=aZ (aL abX bA)
theorem abZ:aS Tryz.prog gl 209 xY:=aZ (aL abY bA)
theorem aca:aS Tryz.prog gl 164 DY:=aZ (aL abZ bA)
theorem acb:aS Tryz.prog gl 214 xZ:=aZ bA
theorem acd:∀h,xW [.str mQ] h=some ⟨.au [.agg eL,.bool true],h,[]⟩:=bF (aaw ba) rfl (by simp[AV.top,br,abW]) (by simp only[bO,cP,abV])
theorem ace:oI (aV Tryz.prog FT [(288,xW)]) where
 ft:=ba
 LN:=fun _ _=>rfl
 LO:=fun _ _=>rfl
 LP:=fun _ _=>rfl
 xH:=acd
theorem acf:∀(s:ao) h,s.length<1000000->DY [.str s] h=some ⟨.bool (dL s),h,[]⟩:=fun s h hl=>by
 have q257:∀h,xX [.str s,.str mQ] h=some ⟨.str (jR (iL s)),h,[]⟩:=bF (aaF ace s hl) rfl rfl rfl;have q209:∀h,xY [.str s] h=some ⟨.bool (decide (s≠[]) && s.all bI),h,[]⟩:=bF (abd (M:=aV Tryz.prog FT [(257,xX)]) ba s q257) rfl rfl rfl;exact bF (abe (M:=aV Tryz.prog FT [(209,xY)]) ba s q209) rfl rfl rfl h
theorem acg:∀(s:ao) h,s≠[]->s.length<=18->s.all bI=true->xZ [.str s] h=some ⟨.au [.iV (az 0 s),.db],h,[]⟩:=fun s h h0 hl hd=>bF (aaK ⟨ba,fun _ _=>rfl⟩ s h0 hl hd) rfl rfl rfl h
noncomputable def DZ:Spec:=sK [(244,mJ)] 300
theorem ach:aS Tryz.prog gl 300 DZ:=aZ (aL CK bA)
theorem aci {k:Nat}(hk:k<=64):∀h,DZ [.uV 1,.uV k] h=some ⟨.au [.uV 0,.uV k],h,[]⟩:=
 bF (abw (M:=aV Tryz.prog FT [(244,mJ)]) ba k fun h=>by
  have:=CL 1 k h (by decide) (by omega);rw[show (1:Int)*k/18446744073709551616=0 by omega,show (1:Int)*k%18446744073709551616=k by omega]at this;exact this) rfl rfl rfl
noncomputable def MS:List (Nat×Spec):=[(300,DZ),(212,tn)]
noncomputable def Ea:Spec:=sK MS 264
theorem acj:aS Tryz.prog gl 264 Ea:=aZ (aL ach (aL MQ bA))
set_option maxRecDepth 1000000 in
theorem ack:∀(k:Nat) h,k<=64->Ea [.str [48],.iV k] h=some ⟨.str (List.replicate k 48),h,[]⟩:=fun k h hk=>
 bF (aby (M:=aV Tryz.prog FT MS) ba k hk (aci hk) (fun h=>xU nj 48 h (by decide)) (fun h=>xU MH 48 h (by decide)) (fun h=>xU MI 48 h (by decide))) rfl rfl rfl h
noncomputable def yb:List (Nat×Spec):=(183,DT)::(263,DU)::(264,Ea)::(253,qE)::(323,my .same)::TI
theorem acm:cz Tryz.prog gl (bk yb):=aL abI (aL abJ (aL acj (aL Xu (aL (vn abz) qF))))
theorem eSt:EI yb:=by repeat' first|exact fun _ _=>rfl|constructor
theorem cSt {N:Nat}(hN:N<=500000):xE (aV Tryz.prog FT yb) N:={ eSt.c hN with
 Lk:=fun z h hz=>abK z h hz
 Dx:=fun u h hu=>abL u h hu
 Ll:=fun k h hk=>ack k h hk
 Lm:=fun l b c h o n hl hv hb=>Xv l b c h o n hl hv hb
 Ln:=fun l b c h o n hl hv hb=>Xw l b c h o n hl hv hb
 Dy:=fun _ _=>rfl
 Dz:=fun _ _=>rfl
 qH:=fun _ _=>rfl
 oH:=fun _ _=>rfl }
noncomputable def Eb:Spec:=sK yb 224
theorem acp:aS Tryz.prog gl 224 Eb:=aZ acm
theorem MT {N:Nat}(hN:N<=500000):∀v z,ay v z->ah z<wB^N->∀h,Eb [v] h=some ⟨.str (bQ z),h,[]⟩:=fun v z hv lz=>bF (ZN (cSt hN) hv lz) (im hv.top) rfl rfl
noncomputable def Ec:List (Nat×Spec):=(240,sG)::TI
theorem acq:EI Ec:=by repeat' first|exact fun _ _=>rfl|constructor
noncomputable def yc:Spec:=sK Ec 262
noncomputable def yd:Spec:=sK [(262,yc)] 223
noncomputable def Ed:Spec:=sK [(223,yd)] 175
theorem acr:aS Tryz.prog gl 262 yc:=aZ (aL CO qF)
theorem acs:aS Tryz.prog gl 223 yd:=aZ (aL acr bA)
theorem acu:aS Tryz.prog gl 175 Ed:=aZ (aL acs bA)
theorem acv {z:Int}(h:z<2^1800):z<wB^29:=by
 have e:wB=2^64:=by decide
 rw[e,←Int.pow_mul];exact Int.lt_of_lt_of_le h (fP (by decide) (by decide))
theorem acw:∀v z h,ay v z->ah z<2^1800->yd [v] h=some ⟨.bool false,h,[]⟩:=fun v z h hv lz=>by
 have q262:∀h,yc [v] h=some ⟨.iV (cA (ah z)),h,[]⟩:=du (Xb (M:=aV Tryz.prog FT Ec) (acq.c (N:=29) (by decide)) (fun x h hx=>CP x h hx) hv (acv lz)) (im hv.top);exact bF (ZO (M:=aV Tryz.prog FT [(262,yc)]) ba hv lz q262) (im hv.top) rfl rfl h
theorem acx:∀v q,bz v q->ah q.num<2^1800->(q.den:Int)<2^1800->∀h,Ed [v] h=some ⟨.bool false,h,[]⟩:=fun v q hv l1 l2=>
 bF (ZP (M:=aV Tryz.prog FT [(223,yd)]) ba hv l1 l2 fun v z h hv lz=>acw v z h hv lz) (im hv.top) rfl rfl
noncomputable def MU:List (Nat×Spec):=[(201,sN),(224,Eb)]
noncomputable def Ee:Spec:=sK MU 176
theorem acy:aS Tryz.prog gl 176 Ee:=aZ (aL Kq (aL acp bA))
theorem acz (n:Nat):bQ (n:Int)=aP n:=by
 rw[kA (by omega),cD (by omega)];rfl
theorem Dq.bq {k N:Nat}{q:Rat}(h:Dq k q)(hN:k<=N):Bq N q:=by
 have e:(10:Int)^k<=wB^N:=Int.le_trans (oT hN) (by
  clear hN;induction N with
  | zero=>decide
  | succ n ih=>
   rw[Int.pow_succ,Int.pow_succ];have h0:(0:Int)<=10^n:=Int.le_of_lt (oO n);have h1:(0:Int)<=wB^n:=Int.le_trans h0 ih;exact Int.le_trans (Int.mul_le_mul_of_nonneg_right ih (by decide)) (Int.mul_le_mul_of_nonneg_left (by decide) h1))
 exact⟨Int.lt_of_lt_of_le h.1 e,Int.lt_of_lt_of_le h.2 e⟩
theorem acA {k:Nat}(h:k<=450):(10:Int)^k<=2^1800:=by
 have e:(10:Int)^k<=(2^4)^k:=by
  clear h;induction k with
  | zero=>decide
  | succ n ih=>
   rw[Int.pow_succ,Int.pow_succ];have h0:(0:Int)<=10^n:=Int.le_of_lt (oO n);have h1:(0:Int)<=(2^4)^n:=Int.le_trans h0 ih;exact Int.le_trans (Int.mul_le_mul_of_nonneg_right ih (by decide)) (Int.mul_le_mul_of_nonneg_left (by decide) h1)
 rw[←Int.pow_mul]at e;exact Int.le_trans e (fP (by decide) (by omega))
theorem acB:∀v q,bz v q->Dq 450 q->∀h,Ee [v] h=some ⟨.str (ak q),h,[]⟩:=fun v q hv hq=>by
 have lq:=hq.lq (N:=451) (by decide) (by decide);have bq:=hq.bq (N:=450) (Nat.le_refl _);exact bF (ZR (M:=aV Tryz.prog FT MU) ba hv ⟨by have:=lq.1;omega,by have:=lq.2;omega⟩ (fun h=>Ks v q hv h) (fun v h hv=>MT (by decide) v _ hv bq.1 h) (fun v h hv=>by
  have:=MT (N:=450) (by decide) v _ hv (by rw[cD (by omega)];exact bq.2) h;rw[acz]at this;exact this)) (im hv.top) rfl rfl
noncomputable def MV:List (Nat×Spec):=[(175,Ed),(176,Ee)]
noncomputable def Ef:Spec:=sK MV 105
theorem acC:aS Tryz.prog gl 105 Ef:=aZ (aL acu (aL acy bA))
theorem acD:∀v q,bz v q->Dq 450 q->∀h,Ef [v] h=some ⟨.au [.str (ak q),.iV 0],h,[]⟩:=fun v q hv hq=>by
 have e:=acA (Nat.le_refl 450);exact bF (abi (M:=aV Tryz.prog FT MV) ba hv (fun h=>acx v q hv (Int.lt_of_lt_of_le hq.1 e) (Int.lt_of_lt_of_le hq.2 e) h) (fun h=>acB v q hv hq h)) (im hv.top) rfl rfl
noncomputable def ye:Spec:=sK TF 215
theorem acE:aS Tryz.prog gl 215 ye:=aZ Db
theorem acF {A:Int}(hA:ah A<=10)(i:Nat):ah (A^i)<=10^i:=by
 induction i with
 | zero=>
  rw[Int.pow_zero,Int.pow_zero];decide
 | succ n ih=>
  rw[Int.pow_succ,Int.pow_succ,sD];exact Int.le_trans (Int.mul_le_mul_of_nonneg_right ih iD) (Int.mul_le_mul_of_nonneg_left hA (Int.le_of_lt (oO n)))
theorem acG:∀v A (K:Nat),ay v A->K<=18->ah A<=10->∃v0,ay v0 (A^K)/\∀h,ye [v,.iV K] h=some ⟨v0,h,[]⟩:=fun v A K hv hK hA=>by
 obtain⟨v0,h1,h2⟩:=Xd (eF.c (N:=1) (by decide) (by decide)) hv (K:=K) (by omega) fun i hi=>by
  have vC:(10:Int)^i<=10^18:=oT (by omega);have hw:(10:Int)^18<wB^1:=by decide
  exact Int.lt_of_le_of_lt (Int.le_trans (acF hA i) vC) hw
 exact⟨v0,h1,du h2 (eK hv.top rfl)⟩
noncomputable def yf:List (Nat×Spec):=(212,tn)::(213,xS)::(214,xZ)::(215,ye)::TF
theorem MW:cz Tryz.prog gl (bk yf):=aL MQ (aL abN (aL acb (aL acE Db)))
structure yg (T:List (Nat×Spec)):Prop extends EF T where
 acH:∀ar h,bk T 212 ar h=tn ar h
 acI:∀ar h,bk T 213 ar h=xS ar h
 acJ:∀ar h,bk T 214 ar h=xZ ar h
 acK:∀ar h,bk T 215 ar h=ye ar h
theorem yg.c (E:yg T){N:Nat}(h1:1<=N)(hN:N<=500000):xI (aV Tryz.prog FT T) N:={ E.toEF.c h1 hN with
 Ma:=fun s h hl=>(E.acH _ _).trans (xU s 45 h hl)
 Mb:=fun s h hl=>(E.acI _ _).trans (abQ s 45 h hl)
 Mc:=fun s h h0 hl hd=>(E.acJ _ _).trans (acg s h h0 hl hd)
 Md:=fun v A K hv hK _ hA=>by
  obtain⟨v0,k1,k2⟩:=acG v A K hv hK hA;exact⟨v0,k1,fun h=>(E.acK _ _).trans (k2 h)⟩ }
theorem eRd:yg yf:=by repeat' first|exact fun _ _=>rfl|constructor
noncomputable def yh:Spec:=sK yf 166
theorem acM:aS Tryz.prog gl 166 yh:=aZ MW
theorem acN {N:Nat}(h1:1<=N)(hN:N<=500000):∀(s:ao),s.length<=N->(bL 45 s).all bI=true->∃v0,ay v0 (if preB 45 s then -(az 0 (bL 45 s):Int) else (az 0 (bL 45 s):Nat))/\∀h,yh [.str s] h=some ⟨v0,h,[]⟩:=fun s hl hd=>by
 obtain⟨v0,k1,k2⟩:=aaS (eRd.c h1 hN) s hl hd;exact⟨v0,k1,du k2 rfl⟩
noncomputable def yi:List (Nat×Spec):=(163,xV)::(166,yh)::yf
theorem MX:cz Tryz.prog gl (bk yi):=aL abT (aL acM MW)
structure yj (T:List (Nat×Spec)):Prop extends yg T where
 acO:∀ar h,bk T 163 ar h=xV ar h
 acP:∀ar h,bk T 166 ar h=yh ar h
theorem yj.c (E:yj T){N:Nat}(h1:1<=N)(hN:N<=500000):lI (aV Tryz.prog FT T) N:={ E.toyg.c h1 hN with
 DH:=fun s h hl=>(E.acO _ _).trans (abU s 47 h hl)
 DI:=by simp only[E.acP];exact acN h1 hN }
theorem eFm:yj yi:=by repeat' first|exact fun _ _=>rfl|constructor
noncomputable def tp:Spec:=sK yi 103
theorem Eg:aS Tryz.prog gl 103 tp:=aZ MX
theorem Eh {N:Nat}(h1:1<=N)(hN:N<=400000):∀q,Lq N q->∃v0,bz v0 q/\∀h,tp [.str (ak q)] h=some ⟨v0,h,[]⟩:=fun q lq=>by
 obtain⟨v0,k1,k2⟩:=aaW (eFm.c h1 (by omega)) hN lq;exact⟨v0,k1,du k2 rfl⟩
noncomputable def yk:List (Nat×Spec):=(162,DV)::(164,DY)::(165,sJ)::(97,vF)::(96,lj)::yi
theorem acR:cz Tryz.prog gl (bk yk):=aL abP (aL aca (aL Kn (aL II (aL IK MX))))
theorem eCk:yj yk:=by repeat' first|exact fun _ _=>rfl|constructor
theorem Ei {v:AV}{h:ab}{l:List Int}(hl:iI h v=some l)(hn:l.length<1000):lj [v] h=some ⟨.iV (cg l),h,[]⟩:=by
 simp only[lj,hl];rw[if_pos (by omega)]
theorem cCk:DL (aV Tryz.prog FT yk) 600:={ eCk.c (by decide) (by decide) with
  Mr:=fun s h hl=>abR s 45 h hl
  DM:=fun s h hl=>acf s h hl
  sC:=fun a b x y ha hb hx hy=>Ko (by decide) (by decide) a b x y ha hb hx hy
  kB:=fun _ _ _=>rfl
  kC:=fun v h l hl hn=>Ei hl hn }
noncomputable def tq:Spec:=sK yk 84
theorem MY:aS Tryz.prog gl 84 tq:=aZ acR
theorem Ej:∀(s:ao) h,s.length<1000000->tq [.str s] h=some ⟨.iV (bR s),h,[]⟩:=fun s h hl=>bF (w84 cCk (Nat.le_refl _) s hl) rfl rfl rfl h
noncomputable def tr:Spec:=sL [(84,tq)] 101
theorem Ek:aS Tryz.prog gl 101 tr:=iJ (aL MY bA)
theorem El:∀v h a b,cZ h v (.vs [.str a,.str b] 2 none)->a.length<1000000->b.length<1000000->tr [v] h=some ⟨.iV (cg [bR a,bR b]),h,[]⟩:=fun v h a b hf ha hb=>
 nU (abh (M:=aV Tryz.prog FT [(84,tq)]) ba a b _ _ (fun h=>Ej a h ha) (fun h=>Ej b h hb)) rfl rfl rfl (.cons hf .nil)
noncomputable def yl:List (Nat×Spec):=[(101,tr),(103,tp),(105,Ef),(151,sO),(149,Dd),(152,sM),(150,De)]
theorem acU:cz Tryz.prog gl (bk yl):=aL Ek (aL Eg (aL acC (aL Ku (aL YJ (aL Kp (aL YK bA))))))
theorem hZ:oK (aV Tryz.prog FT yl) 1000 where
 ft:=ba
 lJ:=fun v h a b hf ha hb=>El v h a b hf ha hb
 oM:=fun q lq=>Eh (by decide) (by decide) q lq
noncomputable def tt:Spec:=sK yl 169
theorem MZ:aS Tryz.prog gl 169 tt:=aZ acU
theorem yn {g:Nat}{p q r:Rat}(hp:Dq 200 p)(hq:Dq 200 q)(hr:Dq 450 r)(ho:∀va vb,bz va p->bz vb q->∃v0,bz v0 r/\∀h,bk yl g [va,vb] h=some ⟨v0,h,[]⟩):∀h,tt [.str (ak p),.str (ak q),.fn (.func g) [] []] h=some ⟨.au [.str (ak r),.iV 0],h,[]⟩:=
 bF (abk hZ (by decide) (hp.lq (by decide) (by decide)) (hq.lq (by decide) (by decide)) (qO (by decide) (by decide) hp) (qO (by decide) (by decide) hq) ⟨fun va vb ha hb=>by
  obtain⟨v0,k1,k2⟩:=ho va vb ha hb;exact⟨v0,k1,k2,fun h=>acD v0 r k1 hr h⟩⟩) rfl rfl rfl
noncomputable def kD:List (Nat×Spec):=[(169,tt)]
theorem Em:cz Tryz.prog gl (bk kD):=aL MZ bA
noncomputable def En:Spec:=sK kD 85
noncomputable def Eo:Spec:=sK kD 86
noncomputable def Ep:Spec:=sK kD 87
theorem acV:aS Tryz.prog gl 85 En:=aZ Em
theorem acW:aS Tryz.prog gl 86 Eo:=aZ Em
theorem acX:aS Tryz.prog gl 87 Ep:=aZ Em
theorem k85:∀p q h,Dq 200 p->Dq 200 q->En [.str (ak p),.str (ak q)] h=some ⟨.au [.str (ak (p+q)),.iV 0],h,[]⟩:=fun p q h hp hq=>
 bF (Mt (M:=aV Tryz.prog FT kD) ba _ _ _ _ fun h=>yn (g:=151) hp hq ((hp.add hq).mono (by decide)) (fun va vb ha hb=>Kv (N:=1000) (by decide) (by decide) va vb p q ha hb (hp.bq (by decide)) (hq.bq (by decide))) h) rfl rfl rfl h
theorem k86:∀p q h,Dq 200 p->Dq 200 q->Eo [.str (ak p),.str (ak q)] h=some ⟨.au [.str (ak (p-q)),.iV 0],h,[]⟩:=fun p q h hp hq=>
 bF (Mu (M:=aV Tryz.prog FT kD) ba _ _ _ _ fun h=>yn (g:=149) hp hq ((hp.sub hq).mono (by decide)) (fun va vb ha hb=>YL (N:=1000) (by decide) (by decide) va vb p q ha hb (hp.bq (by decide)) (hq.bq (by decide))) h) rfl rfl rfl h
theorem k87:∀p q h,Dq 200 p->Dq 200 q->Ep [.str (ak p),.str (ak q)] h=some ⟨.au [.str (ak (p*q)),.iV 0],h,[]⟩:=fun p q h hp hq=>
 bF (Mv (M:=aV Tryz.prog FT kD) ba _ _ _ _ fun h=>yn (g:=152) hp hq ((hp.mul hq).mono (by decide)) (fun va vb ha hb=>Kr (N:=1000) (by decide) (by decide) va vb p q ha hb (hp.bq (by decide)) (hq.bq (by decide))) h) rfl rfl rfl h
noncomputable def Er:List (Nat×Spec):=[(101,tr),(103,tp),(97,vF),(96,lj),(169,tt)]
theorem adb:cz Tryz.prog gl (bk Er):=aL Ek (aL Eg (aL II (aL IK (aL MZ bA))))
theorem Na:DP (aV Tryz.prog FT Er) 1000 where
 ft:=ba
 lJ:=fun v h a b hf ha hb=>El v h a b hf ha hb
 oM:=fun q lq=>Eh (by decide) (by decide) q lq
 kB:=fun _ _ _=>rfl
 kC:=fun v h l hl hn=>Ei hl hn
noncomputable def Es:Spec:=sK Er 88
theorem ade:aS Tryz.prog gl 88 Es:=aZ adb
theorem k88:∀p q h,Dq 200 p->Dq 200 q->q≠0->Es [.str (ak p),.str (ak q)] h=some ⟨.au [.str (ak (p*q⁻¹)),.iV 0],h,[]⟩:=fun p q h hp hq h0=>by
 have l1:=mR (hp.lq (N:=201) (by decide) (by decide));have l2:=mR (hq.lq (N:=201) (by decide) (by decide));have c1:=qO (by decide) (by decide) hp;have c2:=qO (by decide) (by decide) hq;have hi:=hq.inv h0;exact bF (w88 Na (ak p) (ak q) (ak (p*q⁻¹)) (by omega) (by omega) (by rw[c1,c2];rfl) (fun e=>h0 (DS e)) fun h=>yn (g:=150) hp hq ((hp.mul hi).mono (by decide)) (fun va vb ha hb=>YM (N:=1000) (by decide) (by decide) va vb p q ha hb (hp.bq (by decide)) (hq.bq (by decide)) (hi.bq (by decide)) h0) h) rfl rfl rfl h
noncomputable def Et:List (Nat×Spec):=[(101,tr),(103,tp),(148,Dc)]
theorem adg:cz Tryz.prog gl (bk Et):=aL Ek (aL Eg (aL Yz bA))
theorem Nb:oK (aV Tryz.prog FT Et) 1000 where
 ft:=ba
 lJ:=fun v h a b hf ha hb=>El v h a b hf ha hb
 oM:=fun q lq=>Eh (by decide) (by decide) q lq
noncomputable def Eu:Spec:=sK Et 89
theorem adh:aS Tryz.prog gl 89 Eu:=aZ adg
theorem k89:∀p q h,Dq 200 p->Dq 200 q->Eu [.str (ak p),.str (ak q)] h=some ⟨.au [.iV (jv p q),.iV 0],h,[]⟩:=fun p q h hp hq=>
 bF (w89 Nb (by decide) (hp.lq (by decide) (by decide)) (hq.lq (by decide) (by decide)) (qO (by decide) (by decide) hp) (qO (by decide) (by decide) hq) fun va vb ha hb h=>YB (N:=1000) (by decide) (by decide) va vb p q ha hb (hp.bq (by decide)) (hq.bq (by decide)) h) rfl rfl rfl h
end Go.Ab.Ch1

/-
  Own work: the code of functions: the reference numbers: check.
-/
namespace Go.Ab.Ch1
set_option maxRecDepth 1000000
def Nc:an:=zR [zi 1 0] (zR [zm 8 0,zw 2 8] (.seq (zR [zm 9 2,zL 10 9,zc 11 .gtr 10 0,zn 12 11,zg (zm 13 2) 12 true,⟨.l 14,.index (.l 13) (kI 0),some ((.l 12),true)⟩,⟨.l 15,.bin .eql (.l 14) (.c (.int .u8 (45))),some ((.l 12),true)⟩,zp 16 12 15] (.cond (.l 16) (.region [zm 17 2,⟨.l 18,.slice .str 1 (.l 17) (some (kI 1)) none none,none⟩,zw 2 18]) (.skip))) (zR [zm 19 2,z1 20 153 19,zw 3 20] (.seq (zR [zm 21 2,zm 22 3,⟨.l 23,.slice .str 1 (.l 21) none (some (.l 22)) none,none⟩,z1 24 154 23,zu 25 24,zn 26 25,zg (zm 27 0) 26 false,⟨.l 28,.index (.l 27) (kI 0),some ((.l 26),false)⟩,⟨.l 29,.bin .eql (.l 28) (.c (.int .u8 (45))),some ((.l 26),false)⟩,zg (zn 30 29) 26 false,zg (zm 31 2) 30 true,zg (zm 32 3) 30 true,⟨.l 33,.slice .str 1 (.l 31) none (some (.l 32)) none,some ((.l 30),true)⟩,⟨.l 34,.bin .eql (.l 33) (.c (.str [48])),some ((.l 30),true)⟩,zg (zp 35 30 34) 26 false,zP 36 26 35] (.cond (.l 36) (zR [zi 1 1] (.ret)) (.skip))) (.seq (zR [zm 37 3,zm 38 2,zL 39 38,zb 40 .lss 37 39,zn 41 40,zg (zm 42 2) 41 true,zg (zm 43 3) 41 true,zg (zc 44 .add 43 1) 41 true,⟨.l 45,.slice .str 1 (.l 42) (some (.l 44)) none none,some ((.l 41),true)⟩,zg (z1 46 154 45) 41 true,zg (zu 47 46) 41 true,zg (zn 48 47) 41 true,zg (zm 49 2) 48 false,zg (zm 50 3) 48 false,zg (zc 51 .add 50 1) 48 false,⟨.l 52,.slice .str 1 (.l 49) (some (.l 51)) none none,some ((.l 48),false)⟩,⟨.l 53,.bin .eql (.l 52) (.c (.str [48])),some ((.l 48),false)⟩,zg (zP 54 48 53) 41 true,zg (zn 55 54) 41 true,zg (zm 56 2) 55 false,zg (zm 57 3) 55 false,zg (zc 58 .add 57 1) 55 false,⟨.l 59,.slice .str 1 (.l 56) (some (.l 58)) none none,some ((.l 55),false)⟩,⟨.l 60,.bin .eql (.l 59) (.c (.str [49])),some ((.l 55),false)⟩,zg (zP 61 55 60) 41 true,zp 62 41 61] (.cond (.l 62) (zR [zi 1 1] (.ret)) (.skip))) (.seq (zR [zm 63 3,zc 64 .gtr 63 600,zn 65 64,zg (zm 66 2) 65 false,zg (zL 67 66) 65 false,zg (zm 68 3) 65 false,zg (zb 69 .sub 67 68) 65 false,zg (zc 70 .sub 69 1) 65 false,zg (zc 71 .gtr 70 600) 65 false,zP 72 65 71] (.cond (.l 72) (zR [zi 1 4] (.ret)) (.skip))) (.seq (zR [zm 73 3,zm 74 2,zL 75 74,zb 76 .lss 73 75] (.cond (.l 76) (zR [zm 78 2,z1 79 135 78,zn 77 79,ze 80 0 77,ze 81 1 77,⟨.p 4,.alloc 162 [.bool false,.ae],none⟩,⟨.p 5,.alloc 162 [.bool false,.ae],none⟩,zs 2 4 80,zs 2 5 81] (zR [zf 82 1 4,zd 83 1 82,zf 84 1 5,zd 85 1 84,z2 86 155 83 85,zw 6 86] (zR [zm 87 6,zl 88 87,zc 89 .neq 88 1,zn 90 89,zg (zm 91 6) 90 false,⟨.l 92,.dH none 1 (.l 91) (kI 0),some ((.l 90),false)⟩,zg (zd 93 1 92) 90 false,zg (zc 94 .neq 93 1) 90 false,zP 95 90 94] (.cond (.l 95) (zR [zi 1 1] (.ret)) (.skip))))) (.skip))) (zR [zi 1 0] (.ret)))))))))
theorem adj:FT 62=some ⟨96,[0,2,3,4,5,6,7],[.var (.p 1)],Nc⟩:=by kernel_rfl
def tu:an:=.seq (zR [zm 4 2,zm 5 0,zL 6 5,zb 7 .lss 4 6] (.cond (.l 7) (.skip) (.exit 0))) (.seq (.block 1 (zR [zm 10 0,zm 11 2,⟨.l 12,.index (.l 10) (.l 11),none⟩,⟨.l 13,.bin .eql (.l 12) (.c (.int .u8 (47))),none⟩] (.cond (.l 13) (zR [zm 14 2,zw 1 14] (.ret)) (.skip)))) (.region [zm 8 2,zc 9 .add 8 1,zw 2 9]))
def Nd:an:=zR [zi 1 0] (.seq (zR [zi 2 0] (.block 0 (.loop tu))) (zR [zm 15 0,zL 16 15,zw 1 16] (.ret)))
theorem adk:FT 153=some ⟨17,[0,2,3],[.var (.p 1)],Nd⟩:=by kernel_rfl
def tv:an:=zR [⟨.p 1,.mv (.c (.bool false)),none⟩] (.seq (zR [zm 3 0,zL 4 3,zc 5 .eql 4 0,zn 6 5,zg (zm 7 0) 6 false,zg (zL 8 7) 6 false,zg (zc 9 .gtr 8 1) 6 false,zg (zn 10 9) 6 false,zg (zm 11 0) 10 true,⟨.l 12,.index (.l 11) (kI 0),some ((.l 10),true)⟩,⟨.l 13,.bin .eql (.l 12) (.c (.int .u8 (48))),some ((.l 10),true)⟩,zg (zp 14 10 13) 6 false,zP 15 6 14] (.cond (.l 15) (zR [⟨.p 1,.mv (.c (.bool false)),none⟩] (.ret)) (.skip))) (zR [zm 16 0,z1 17 204 16,zw 1 17] (.ret)))
theorem adl:FT 154=some ⟨18,[0,2],[.var (.p 1)],tv⟩:=by kernel_rfl
def tw:an:=.seq (zR [zm 4 2,zm 5 0,zL 6 5,zb 7 .lss 4 6] (.cond (.l 7) (.skip) (.exit 0))) (.seq (.block 1 (zR [zm 10 0,zm 11 2,⟨.l 12,.index (.l 10) (.l 11),none⟩,⟨.l 13,.bin .lss (.l 12) (.c (.int .u8 (48))),none⟩,zn 14 13,zg (zm 15 0) 14 false,zg (zm 16 2) 14 false,⟨.l 17,.index (.l 15) (.l 16),some ((.l 14),false)⟩,⟨.l 18,.bin .gtr (.l 17) (.c (.int .u8 (57))),some ((.l 14),false)⟩,zP 19 14 18] (.cond (.l 19) (zR [⟨.p 1,.mv (.c (.bool false)),none⟩] (.ret)) (.skip)))) (.region [zm 8 2,zc 9 .add 8 1,zw 2 9]))
def Nf:an:=zR [⟨.p 1,.mv (.c (.bool false)),none⟩] (.seq (zR [zi 2 0] (.block 0 (.loop tw))) (zR [⟨.p 1,.mv (.c (.bool true)),none⟩] (.ret)))
theorem adm:FT 204=some ⟨20,[0,2,3],[.var (.p 1)],Nf⟩:=by kernel_rfl
def Ev:an:=zR [⟨.p 1,.alloc 162 [.bool false,.ae],none⟩,⟨.p 2,.alloc 162 [.bool false,.ae],none⟩] (zR [zm 6 0,zw 3 6] (zR [zm 7 3,z1 8 153 7,zw 4 8] (.seq (zR [zm 9 4,zm 10 3,zL 11 10,zb 12 .eql 9 11] (.cond (.l 12) (zR [zm 13 3,z1 14 193 13,⟨.l 15,.call (kF 139) [(kI 1)],none⟩,zs 2 1 14,zs 2 2 15] (.ret)) (.skip))) (.seq (.draw [(zm 16 3,[]),(zm 17 4,[0]),(⟨.l 18,.slice .str 1 (.l 16) none (some (.l 17)) none,none⟩,[]),(z1 19 193 18,[]),(zm 20 3,[0,1,2,3]),(zm 21 4,[0,1,2,3,4]),(zc 22 .add 21 1,[0,1,2,3,4]),(⟨.l 23,.slice .str 1 (.l 20) (some (.l 22)) none none,none⟩,[0,1,2,3]),(z1 24 193 23,[]),(zs 2 1 19,[]),(zs 2 2 24,[])]) (.ret)))))
theorem Ng:FT 135=some ⟨25,[0,2,3,4,5],[.cell 2 true (.p 1),.cell 2 true (.p 2)],Ev⟩:=by kernel_rfl
def tx:an:=.seq (zR [zm 16 0,zL 17 16,zc 18 .gtr 17 9] (.cond (.l 18) (.skip) (.exit 0))) (.block 1 (zR [zm 19 3,zm 20 0,zm 21 0,zL 22 21,zc 23 .sub 22 9,⟨.l 24,.slice .str 1 (.l 20) (some (.l 23)) none none,none⟩,z1 25 192 24,⟨.l 26,.dQ 3 1 1 [.iV (0)] [(0,1,(.l 25))],none⟩,⟨.l 27,.append 3 1 8 (.l 19) (.l 26),none⟩,zw 3 27] (.region [zm 28 0,zm 29 0,zL 30 29,zc 31 .sub 30 9,⟨.l 32,.slice .str 1 (.l 28) none (some (.l 31)) none,none⟩,zw 0 32])))
def Nh:an:=zR [⟨.p 1,.alloc 162 [.bool false,.ae],none⟩] (zR [zm 5 0,zL 6 5,zc 7 .gtr 6 0,zn 8 7,zg (zm 9 0) 8 true,⟨.l 10,.index (.l 9) (kI 0),some ((.l 8),true)⟩,⟨.l 11,.bin .eql (.l 10) (.c (.int .u8 (45))),some ((.l 8),true)⟩,zp 12 8 11,zw 2 12] (.seq (zR [zm 13 2] (.cond (.l 13) (.region [zm 14 0,⟨.l 15,.slice .str 1 (.l 14) (some (kI 1)) none none,none⟩,zw 0 15]) (.skip))) (zR [⟨.p 3,.mv (.c (.ae)),none⟩] (.seq (.block 0 (.loop tx)) (zR [zm 33 2,zm 34 3,zm 35 0,z1 36 192 35,⟨.l 37,.dQ 3 1 1 [.iV (0)] [(0,1,(.l 36))],none⟩,⟨.l 38,.append 3 1 8 (.l 34) (.l 37),none⟩,z2 39 196 33 38,zs 2 1 39] (.ret))))))
theorem adn:FT 193=some ⟨40,[0,2,3,4],[.cell 2 true (.p 1)],Nh⟩:=by kernel_rfl
def yp:an:=.seq (zR [zm 5 3,zm 6 0,zL 7 6,zb 8 .lss 5 7] (.cond (.l 8) (.skip) (.exit 0))) (.seq (.block 1 (.region [zm 11 2,⟨.l 12,.bin .mul (kI 10) (.l 11),none⟩,zm 13 0,zm 14 3,⟨.l 15,.index (.l 13) (.l 14),none⟩,⟨.l 16,.dF .i64 (.l 15),none⟩,zb 17 .add 12 16,zc 18 .sub 17 48,zw 2 18])) (.region [zm 9 3,zc 10 .add 9 1,zw 3 10]))
def Ni:an:=zR [zi 1 0] (zR [zi 2 0] (.seq (zR [zi 3 0] (.block 0 (.loop yp))) (zR [zm 19 2,zw 1 19] (.ret))))
theorem ado:FT 192=some ⟨20,[0,2,3,4],[.var (.p 1)],Ni⟩:=by kernel_rfl
def qP:an:=.seq (zR [zm 8 0,zc 9 .neq 8 0] (.cond (.l 9) (.skip) (.exit 0))) (.block 1 (zR [zm 10 0,zc 11 .rem 10 1000000000,zw 4 11] (.seq (zR [zm 12 4,zc 13 .lss 12 0] (.cond (.l 13) (.region [zm 14 4,⟨.l 15,.bin .sub (kI 0) (.l 14),none⟩,zw 4 15]) (.skip))) (zR [zm 16 2,zm 17 4,⟨.l 18,.dQ 3 1 1 [.iV (0)] [(0,1,(.l 17))],none⟩,⟨.l 19,.append 3 1 8 (.l 16) (.l 18),none⟩,zw 2 19] (.region [zm 20 0,zc 21 .quo 20 1000000000,zw 0 21])))))
def Ew:an:=zR [⟨.p 1,.alloc 162 [.bool false,.ae],none⟩] (zR [⟨.p 2,.mv (.c (.ae)),none⟩] (zR [zm 6 0,zc 7 .lss 6 0,zw 3 7] (.seq (.block 0 (.loop qP)) (zR [zm 22 3,zm 23 2,z2 24 196 22 23,zs 2 1 24] (.ret)))))
theorem adp:FT 139=some ⟨25,[0,2,3,4,5],[.cell 2 true (.p 1)],Ew⟩:=by kernel_rfl
def tz:an:=zR [⟨.p 2,.alloc 162 [.bool false,.ae],none⟩] (zR [zm 5 1,z1 6 242 5,zw 1 6] (zR [zm 7 0,zn 8 7,zg (zm 9 1) 8 true,zg (zl 10 9) 8 true,zg (zc 11 .gtr 10 0) 8 true,zp 12 8 11,zm 13 1,⟨.l 14,.build [.bool false,.ae] [(0,1,(.l 12)),(1,1,(.l 13))],none⟩,zs 2 2 14] (.ret)))
theorem yq:FT 196=some ⟨15,[0,1,4],[.cell 2 true (.p 2)],tz⟩:=by kernel_rfl
def jx:an:=.seq (zR [zm 3 0,zl 4 3,zc 5 .gtr 4 0,zn 6 5,zg (zm 7 0) 6 true,zg (zm 8 0) 6 true,zg (zl 9 8) 6 true,zg (zc 10 .sub 9 1) 6 true,zg (za 11 1 7 10) 6 true,zg (zd 12 1 11) 6 true,zg (zc 13 .eql 12 0) 6 true,zp 14 6 13] (.cond (.l 14) (.skip) (.exit 0))) (.block 1 (.region [zm 15 0,zm 16 0,zl 17 16,zc 18 .sub 17 1,⟨.l 19,.slice .sl 1 (.l 15) none (some (.l 18)) none,none⟩,zw 0 19]))
def tA:an:=zR [⟨.p 1,.mv (.c (.ae)),none⟩] (.seq (.block 0 (.loop jx)) (zR [zm 20 0,zw 1 20] (.ret)))
theorem yr:FT 242=some ⟨21,[0,2],[.var (.p 1)],tA⟩:=by kernel_rfl
def tB:an:=.seq (zR [zm 7 1,zl 8 7,zc 9 .gtr 8 0] (.cond (.l 9) (.skip) (.exit 0))) (.block 1 (zR [zm 11 0,zm 12 1,z2 13 195 11 12,zn 10 13,ze 14 0 10,ze 15 1 10,zn 5 14,zw 3 15] (.region [zm 16 1,zm 17 3,zw 0 16,zw 1 17])))
def Ey:an:=zR [⟨.p 2,.mv (.c (.ae)),none⟩] (.seq (.block 0 (.loop tB)) (zR [zm 18 0,zw 2 18] (.ret)))
theorem Nj:FT 155=some ⟨19,[0,1,4,6],[.var (.p 2)],Ey⟩:=by kernel_rfl
def yt:an:=.seq (zR [zm 63 9,zl 64 63,zm 65 0,zl 66 65,zc 67 .add 66 1,zb 68 .lss 64 67] (.cond (.l 68) (.skip) (.exit 0))) (.block 1 (.region [zm 69 9,⟨.l 70,.dQ 3 1 1 [.iV (0)] [(0,1,(kI 0))],none⟩,⟨.l 71,.append 3 1 8 (.l 69) (.l 70),none⟩,zw 9 71]))
def yu:an:=.seq (zR [zm 90 14,zm 91 8,zb 92 .lss 90 91] (.cond (.l 92) (.skip) (.exit 4))) (.seq (.block 5 (zR [zm 95 12,zm 96 7,zm 97 14,za 98 1 96 97,zd 99 1 98,zb 100 .mul 95 99,zm 101 13,zb 102 .add 100 101,zw 15 102] (zR [zm 103 9,zm 104 14,zm 105 11,zb 106 .add 104 105,za 107 1 103 106,zd 108 1 107,zm 109 15,zc 110 .rem 109 1000000000,zb 111 .sub 108 110,zw 16 111] (zR [zm 112 15,zc 113 .quo 112 1000000000,zw 13 113] (.seq (zR [zm 114 16,zc 115 .lss 114 0] (.cond (.l 115) (zR [zm 116 16,zc 117 .add 116 1000000000,zw 16 117] (.region [zm 118 13,zc 119 .add 118 1,zw 13 119])) (.skip))) (.region [zm 120 9,zm 121 14,zm 122 11,zb 123 .add 121 122,zm 124 16,za 125 1 120 123,zS 1 125 124])))))) (.region [zm 93 14,zc 94 .add 93 1,zw 14 94]))
def yw:an:=.seq (zR [zm 148 18,zm 149 8,zb 150 .lss 148 149] (.cond (.l 150) (.skip) (.exit 6))) (.seq (.block 7 (.seq (.draw [(zm 153 9,[]),(zm 154 18,[0]),(zm 155 11,[0,1]),(zb 156 .add 154 155,[0]),(za 157 1 153 156,[]),(zd 158 1 157,[]),(zm 159 7,[0,1,2,3,4,5]),(zm 160 18,[0,1,2,3,4,5,6]),(za 161 1 159 160,[0,1,2,3,4,5]),(zd 162 1 161,[0,1,2,3,4,5]),(zb 163 .add 158 162,[]),(zm 164 17,[0,1,2,3,4,5,6,7,8,9,10]),(zb 165 .add 163 164,[]),(zw 19 165,[])]) (zR [zm 166 9,zm 167 18,zm 168 11,zb 169 .add 167 168,zm 170 19,zc 171 .rem 170 1000000000,za 172 1 166 169,zS 1 172 171] (.region [zm 173 19,zc 174 .quo 173 1000000000,zw 17 174])))) (.region [zm 151 18,zc 152 .add 151 1,zw 18 152]))
def yx:an:=.seq (zR [zm 82 11,zc 83 .geq 82 0] (.cond (.l 83) (.skip) (.exit 2))) (.seq (.block 3 (zR [zm 86 9,zm 87 7,zm 88 11,⟨.l 89,.call (kF 243) [(.l 86),(.l 87),(.l 88)],none⟩,zw 12 89] (zR [zi 13 0] (.seq (zR [zi 14 0] (.block 4 (.loop yu))) (zR [zm 126 9,zm 127 11,zm 128 8,zb 129 .add 127 128,zm 130 9,zm 131 11,zm 132 8,zb 133 .add 131 132,za 134 1 130 133,zd 135 1 134,zm 136 13,zb 137 .sub 135 136,za 138 1 126 129,zS 1 138 137] (.seq (zR [zm 139 9,zm 140 11,zm 141 8,zb 142 .add 140 141,za 143 1 139 142,zd 144 1 143,zc 145 .lss 144 0] (.cond (.l 145) (zR [zm 146 12,zc 147 .sub 146 1,zw 12 147] (zR [zi 17 0] (.seq (zR [zi 18 0] (.block 6 (.loop yw))) (.region [zm 175 9,zm 176 11,zm 177 8,zb 178 .add 176 177,zm 179 9,zm 180 11,zm 181 8,zb 182 .add 180 181,za 183 1 179 182,zd 184 1 183,zm 185 17,zb 186 .add 184 185,za 187 1 175 178,zS 1 187 186])))) (.skip))) (.region [zm 188 10,zm 189 11,zm 190 12,za 191 1 188 189,zS 1 191 190]))))))) (.region [zm 84 11,zc 85 .sub 84 1,zw 11 85]))
def Ez:an:=zR [⟨.p 2,.mv (.c (.ae)),none⟩,⟨.p 3,.mv (.c (.ae)),none⟩] (.seq (zR [zm 24 0,zm 25 1,z2 26 218 24 25,zc 27 .lss 26 0] (.cond (.l 27) (zR [zm 28 0,⟨.p 2,.mv (.c (.ae)),none⟩,zw 3 28] (.ret)) (.skip))) (.seq (zR [zm 29 1,zl 30 29,zc 31 .eql 30 1] (.cond (.l 31) (zR [zm 33 0,zm 34 1,⟨.l 35,.dH none 1 (.l 34) (kI 0),none⟩,zd 36 1 35,z2 37 241 33 36,zn 32 37,ze 38 0 32,ze 39 1 32,zw 4 38,zw 5 39] (zR [zm 40 4,zm 41 5,⟨.l 42,.dQ 3 1 1 [.iV (0)] [(0,1,(.l 41))],none⟩,z1 43 242 42,zw 2 40,zw 3 43] (.ret))) (.skip))) (zR [zm 44 1,zm 45 1,zl 46 45,zc 47 .sub 46 1,za 48 1 44 47,zd 49 1 48,zc 50 .add 49 1,⟨.l 51,.bin .quo (kI 1000000000) (.l 50),none⟩,⟨.l 52,.dQ 3 1 1 [.iV (0)] [(0,1,(.l 51))],none⟩,zw 6 52] (zR [zm 53 1,zm 54 6,z2 55 197 53 54,zw 7 55] (zR [zm 56 7,zl 57 56,zw 8 57] (zR [⟨.l 58,.dQ 3 0 1 [.iV (0)] [],none⟩,zm 59 0,zm 60 6,z2 61 197 59 60,⟨.l 62,.append 3 1 8 (.l 58) (.l 61),none⟩,zw 9 62] (.seq (.block 0 (.loop yt)) (zR [zm 72 9,zl 73 72,zm 74 8,zb 75 .sub 73 74,⟨.l 76,.gA 3 1 8 [.iV (0)] (.l 75) (.l 75),none⟩,zw 10 76] (.seq (zR [zm 77 9,zl 78 77,zm 79 8,zb 80 .sub 78 79,zc 81 .sub 80 1,zw 11 81] (.block 2 (.loop yx))) (.seq (.draw [(zm 193 9,[]),(zm 194 8,[0]),(⟨.l 195,.slice .sl 1 (.l 193) none (some (.l 194)) none,none⟩,[]),(z1 196 242 195,[]),(zm 197 6,[0,1,2,3]),(⟨.l 198,.dH none 1 (.l 197) (kI 0),none⟩,[0,1,2,3]),(zd 199 1 198,[0,1,2,3]),(z2 200 241 196 199,[]),(zn 192 200,[]),(ze 201 0 192,[]),(ze 202 1 192,[9]),(zw 20 201,[10]),(zn 23 202,[])]) (zR [zm 203 10,z1 204 242 203,zm 205 20,zw 2 204,zw 3 205] (.ret))))))))))))
theorem Nk:FT 195=some ⟨206,[0,1,4,5,6,7,8,9,10,11,12,13,14,15,16,17,18,19,20,21,22],[.var (.p 2),.var (.p 3)],Ez⟩:=by kernel_rfl
def qQ:an:=.seq (zR [zm 19 3,zc 20 .geq 19 0] (.cond (.l 20) (.skip) (.exit 0))) (.seq (.block 1 (.seq (.seq (.draw [(zm 23 0,[]),(zm 24 3,[0]),(za 25 1 23 24,[]),(zd 26 1 25,[]),(zm 27 1,[0,1,2,3]),(zm 28 3,[0,1,2,3,4]),(za 29 1 27 28,[0,1,2,3]),(zd 30 1 29,[0,1,2,3]),(zb 31 .lss 26 30,[])]) (.cond (.l 31) (zR [zi 2 (-1)] (.ret)) (.skip))) (.seq (.draw [(zm 32 0,[]),(zm 33 3,[0]),(za 34 1 32 33,[]),(zd 35 1 34,[]),(zm 36 1,[0,1,2,3]),(zm 37 3,[0,1,2,3,4]),(za 38 1 36 37,[0,1,2,3]),(zd 39 1 38,[0,1,2,3]),(zb 40 .gtr 35 39,[])]) (.cond (.l 40) (zR [zi 2 1] (.ret)) (.skip))))) (.region [zm 21 3,zc 22 .sub 21 1,zw 3 22]))
def EA:an:=zR [zi 2 0] (.seq (zR [zm 6 0,zl 7 6,zm 8 1,zl 9 8,zb 10 .neq 7 9] (.cond (.l 10) (.seq (zR [zm 11 0,zl 12 11,zm 13 1,zl 14 13,zb 15 .lss 12 14] (.cond (.l 15) (zR [zi 2 (-1)] (.ret)) (.skip))) (zR [zi 2 1] (.ret))) (.skip))) (.seq (zR [zm 16 0,zl 17 16,zc 18 .sub 17 1,zw 3 18] (.block 0 (.loop qQ))) (zR [zi 2 0] (.ret))))
theorem adq:FT 218=some ⟨41,[0,1,4,5],[.var (.p 2)],EA⟩:=by kernel_rfl
def yy:an:=.seq (zR [zm 22 6,zm 23 1,zl 24 23,zb 25 .lss 22 24] (.cond (.l 25) (.skip) (.exit 2))) (.seq (.block 3 (.seq (.draw [(zm 28 3,[]),(zm 29 4,[0]),(zm 30 6,[0,1]),(zb 31 .add 29 30,[0]),(za 32 1 28 31,[]),(zd 33 1 32,[]),(zm 34 0,[0,1,2,3,4,5]),(zm 35 4,[0,1,2,3,4,5,6]),(za 36 1 34 35,[0,1,2,3,4,5]),(zd 37 1 36,[0,1,2,3,4,5]),(zm 38 1,[0,1,2,3,4,5,6,7,8,9]),(zm 39 6,[0,1,2,3,4,5,6,7,8,9,10]),(za 40 1 38 39,[0,1,2,3,4,5,6,7,8,9]),(zd 41 1 40,[0,1,2,3,4,5,6,7,8,9]),(zb 42 .mul 37 41,[0,1,2,3,4,5]),(zb 43 .add 33 42,[]),(zm 44 5,[0,1,2,3,4,5,6,7,8,9,10,11,12,13,14,15]),(zb 45 .add 43 44,[]),(zw 7 45,[])]) (zR [zm 46 3,zm 47 4,zm 48 6,zb 49 .add 47 48,zm 50 7,zc 51 .rem 50 1000000000,za 52 1 46 49,zS 1 52 51] (.region [zm 53 7,zc 54 .quo 53 1000000000,zw 5 54])))) (.region [zm 26 6,zc 27 .add 26 1,zw 6 27]))
def yz:an:=.seq (zR [zm 16 4,zm 17 0,zl 18 17,zb 19 .lss 16 18] (.cond (.l 19) (.skip) (.exit 0))) (.seq (.block 1 (zR [zi 5 0] (.seq (zR [zi 6 0] (.block 2 (.loop yy))) (.region [zm 55 3,zm 56 4,zm 57 1,zl 58 57,zb 59 .add 56 58,zm 60 3,zm 61 4,zm 62 1,zl 63 62,zb 64 .add 61 63,za 65 1 60 64,zd 66 1 65,zm 67 5,zb 68 .add 66 67,za 69 1 55 59,zS 1 69 68])))) (.region [zm 20 4,zc 21 .add 20 1,zw 4 21]))
def EB:an:=zR [⟨.p 2,.mv (.c (.ae)),none⟩] (zR [zm 10 0,zl 11 10,zm 12 1,zl 13 12,zb 14 .add 11 13,⟨.l 15,.gA 3 1 8 [.iV (0)] (.l 14) (.l 14),none⟩,zw 3 15] (.seq (zR [zi 4 0] (.block 0 (.loop yz))) (zR [zm 70 3,z1 71 242 70,zw 2 71] (.ret))))
theorem Nl:FT 197=some ⟨72,[0,1,4,5,6,7,8,9],[.var (.p 2)],EB⟩:=by kernel_rfl
def yA:an:=.seq (zR [zm 16 6,zc 17 .geq 16 0] (.cond (.l 17) (.skip) (.exit 0))) (.seq (.block 1 (zR [zm 20 5,zc 21 .mul 20 1000000000,zm 22 0,zm 23 6,za 24 1 22 23,zd 25 1 24,zb 26 .add 21 25,zw 7 26] (zR [zm 27 4,zm 28 6,zm 29 7,zm 30 1,zb 31 .quo 29 30,za 32 1 27 28,zS 1 32 31] (.region [zm 33 7,zm 34 1,zb 35 .rem 33 34,zw 5 35])))) (.region [zm 18 6,zc 19 .sub 18 1,zw 6 19]))
def Nm:an:=zR [⟨.p 2,.mv (.c (.ae)),none⟩,zi 3 0] (zR [zm 10 0,zl 11 10,⟨.l 12,.gA 3 1 8 [.iV (0)] (.l 11) (.l 11),none⟩,zw 4 12] (zR [zi 5 0] (.seq (zR [zm 13 0,zl 14 13,zc 15 .sub 14 1,zw 6 15] (.block 0 (.loop yA))) (zR [zm 36 4,z1 37 242 36,zm 38 5,zw 2 37,zw 3 38] (.ret)))))
theorem adr:FT 241=some ⟨39,[0,1,4,5,6,7,8,9],[.var (.p 2),.var (.p 3)],Nm⟩:=by kernel_rfl
def tC:an:=.seq (.seq (.draw [(zm 42 6,[]),(zc 43 .geq 42 1000000000,[]),(zn 44 43,[]),(zg (zm 45 6) 44 false,[]),(zg (zm 46 1) 44 false,[3]),(zg (zm 47 4) 44 false,[3,4]),(zg (zc 48 .sub 47 2) 44 false,[3,4]),(zg (za 49 1 46 48) 44 false,[3]),(zg (zd 50 1 49) 44 false,[3]),(zg (zb 51 .mul 45 50) 44 false,[]),(zg (zm 52 7) 44 false,[3,4,5,6,7,8,9]),(zg (zc 53 .mul 52 1000000000) 44 false,[3,4,5,6,7,8,9]),(zg (zm 54 0) 44 false,[3,4,5,6,7,8,9,10,11]),(zg (zm 55 2) 44 false,[3,4,5,6,7,8,9,10,11,12]),(zg (zm 56 4) 44 false,[3,4,5,6,7,8,9,10,11,12,13]),(zg (zb 57 .add 55 56) 44 false,[3,4,5,6,7,8,9,10,11,12]),(zg (zc 58 .sub 57 2) 44 false,[3,4,5,6,7,8,9,10,11,12]),(zg (za 59 1 54 58) 44 false,[3,4,5,6,7,8,9,10,11]),(zg (zd 60 1 59) 44 false,[3,4,5,6,7,8,9,10,11]),(zg (zb 61 .add 53 60) 44 false,[3,4,5,6,7,8,9]),(zg (zb 62 .gtr 51 61) 44 false,[]),(zP 63 44 62,[])]) (.cond (.l 63) (.skip) (.exit 0))) (.block 1 (zR [zm 64 6,zc 65 .sub 64 1,zw 6 65] (zR [zm 66 7,zm 67 1,zm 68 4,zc 69 .sub 68 1,za 70 1 67 69,zd 71 1 70,zb 72 .add 66 71,zw 7 72] (zR [zm 73 7,zc 74 .geq 73 1000000000] (.cond (.l 74) (zR [zm 75 6,zw 3 75] (.ret)) (.skip))))))
def Nn:an:=zR [zi 3 0] (zR [zm 11 1,zl 12 11,zw 4 12] (.seq (.draw [(zm 13 0,[]),(zm 14 2,[0]),(zm 15 4,[0,1]),(zb 16 .add 14 15,[0]),(za 17 1 13 16,[]),(zd 18 1 17,[]),(zc 19 .mul 18 1000000000,[]),(zm 20 0,[0,1,2,3,4,5,6]),(zm 21 2,[0,1,2,3,4,5,6,7]),(zm 22 4,[0,1,2,3,4,5,6,7,8]),(zb 23 .add 21 22,[0,1,2,3,4,5,6,7]),(zc 24 .sub 23 1,[0,1,2,3,4,5,6,7]),(za 25 1 20 24,[0,1,2,3,4,5,6]),(zd 26 1 25,[0,1,2,3,4,5,6]),(zb 27 .add 19 26,[]),(zw 5 27,[])]) (.seq (.draw [(zm 28 5,[]),(zm 29 1,[0]),(zm 30 4,[0,1]),(zc 31 .sub 30 1,[0,1]),(za 32 1 29 31,[0]),(zd 33 1 32,[0]),(zb 34 .quo 28 33,[]),(zm 35 5,[0,1,2,3,4,5,6]),(zm 36 1,[0,1,2,3,4,5,6,7]),(zm 37 4,[0,1,2,3,4,5,6,7,8]),(zc 38 .sub 37 1,[0,1,2,3,4,5,6,7,8]),(za 39 1 36 38,[0,1,2,3,4,5,6,7]),(zd 40 1 39,[0,1,2,3,4,5,6,7]),(zb 41 .rem 35 40,[0,1,2,3,4,5,6]),(zw 6 34,[7,8,9,10,11,12,13]),(zw 7 41,[])]) (.seq (.block 0 (.loop tC)) (zR [zm 76 6,zw 3 76] (.ret))))))
theorem ads:FT 243=some ⟨77,[0,1,2,6,7,8,9,10],[.var (.p 3)],Nn⟩:=by kernel_rfl
def No:an:=zR [⟨.p 1,.mv (.c (.bool false)),none⟩] (zR [zm 3 0,⟨.l 4,.bin .eql (.l 3) (.c (.str [48])),none⟩,zw 1 4] (.ret))
theorem adt:FT 91=some ⟨5,[0,2],[.var (.p 1)],No⟩:=by kernel_rfl
def Np:an:=zR [zi 2 0] (.seq (zR [zm 5 1,zm 6 0,zl 7 6,zb 8 .lss 5 7] (.cond (.l 8) (zR [zm 9 0,zm 10 1,za 11 1 9 10,zd 12 1 11,zw 2 12] (.ret)) (.skip))) (zR [zi 2 0] (.ret)))
theorem adu:FT 254=some ⟨13,[0,1,4],[.var (.p 2)],Np⟩:=by kernel_rfl
end Go.Ab.Ch1

/-
  Own work: the reference's numbers: slashes, decimal forms, values of digits.
-/
namespace Go.Ab.Ch1
open Go.Ab.bj
variable {M:ax} {cap:Option Nat} {N N2:Nat}
theorem Nq {s:ao}{i:Nat}(h:i<s.length):s.drop i=s[i]! :: s.drop (i+1):=by
 rw[List.drop_eq_getElem_cons h,getElem!_pos s i h]
def jy (s:ao):Bool:=(bG 47 s).2.isSome
def cm (s:ao):Nat:=(bG 47 s).1.length
theorem tD (s:ao):cm s<=s.length:=tj 47 s
theorem adv (hft:M.FT=FT)(s:ao)(hl:s.length<1000000):aT M 153 [.str s] [] ⟨.iV (cm s),[],[]⟩:=by
 refine bB (by rw[hft];exact adk) (by simp) ?_;have loop:∀(r i:Nat) (lo:List (Nat×AV)) (wr:List Nat) {Q:Ex->aq->Prop} (a1:AV),i+r=s.length->i+cm (s.drop i)=cm s ->
  (cm s<s.length->∀lo wr,Q .ret ⟨⟨[.str s,.iV (cm s),.iV (cm s)],lo,[],[]⟩,wr⟩) ->
  (cm s=s.length->∀lo wr,Q (.exit 0) ⟨⟨[.str s,a1,.iV s.length],lo,[],[]⟩,wr⟩) ->
  W M (.loop tu) ⟨⟨[.str s,a1,.iV i],lo,[],[]⟩,wr⟩ Q:=by
  intro r;induction r with
  | zero=>
   intro i lo wr Q a1 hi he h1 h2;obtain rfl:i=s.length:=by omega
   rw[List.drop_length]at he;have e0:cm ([]:ao)=0:=rfl;refine W.loop ?_;unfold tu;exact gg1
  | succ r ih=>
   intro i lo wr Q a1 hi he h1 h2;have hd:=Nq (s:=s) (i:=i) (by omega);refine W.loop ?_;by_cases h47:s[i]! = 47
   . have e1:cm (s.drop i)=0:=by rw[hd,h47];simp[cm,bG]
     have e2:cm s=i:=by omega
     have e47:((s[((i:Int)).toNat]!).toNat:Int)=47:=by rw[show s[((i:Int)).toNat]! = s[i]! from rfl,h47];rfl
     rw[e2]at h1;unfold tu;exact gg0
   . have e1:cm (s.drop i)=1+cm (s.drop (i+1)):=by
      rw[hd];simp only[cm,bG,if_neg h47,List.length_cons];omega
     have e47:((s[((i:Int)).toNat]!).toNat:Int)≠47:=fun e=>h47 (UInt8.toNat_inj.1 (by
                                                                                                  rw[show s[((i:Int)).toNat]! = s[i]! from rfl]at e;have:(47:UInt8).toNat=47:=rfl;omega))
     unfold tu;exact gg0
 unfold Nd;simp only[enter];refine gg3 ?_;refine loop s.length 0 _ _ _ (by omega) (by simp) (fun h lo wr=>?_) (fun h lo wr=>?_)
 . exact gg0
 . rw[h];exact gg7
theorem adw (hft:M.FT=FT)(s:ao)(hl:s.length<1000000):aT M 204 [.str s] [] ⟨.bool (s.all bI),[],[]⟩:=by
 refine bB (by rw[hft];exact adm) (by simp) ?_;have loop:∀(r i:Nat) (lo:List (Nat×AV)) (wr:List Nat) {Q:Ex->aq->Prop} (a1:AV),i+r=s.length->s.all bI=(s.drop i).all bI ->
  (s.all bI=false->∀lo wr a2,Q .ret ⟨⟨[.str s,.bool false,a2],lo,[],[]⟩,wr⟩) ->
  (s.all bI=true->∀lo wr a2,Q (.exit 0) ⟨⟨[.str s,a1,a2],lo,[],[]⟩,wr⟩) ->
  W M (.loop tw) ⟨⟨[.str s,a1,.iV i],lo,[],[]⟩,wr⟩ Q:=by
  intro r;induction r with
  | zero=>
   intro i lo wr Q a1 hi he h1 h2;obtain rfl:i=s.length:=by omega
   rw[List.drop_length]at he;refine W.loop ?_;unfold tw;exact gg1
  | succ r ih=>
   intro i lo wr Q a1 hi he h1 h2;have hd:=Nq (s:=s) (i:=i) (by omega);rw[hd,List.all_cons]at he;have ei:s[((i:Int)).toNat]! = s[i]! := rfl;refine W.loop ?_;cases hb:bI s[i]! with
   | false=>
    rw[hb,Bool.false_and]at he;have hne:¬(48<=(s[i]!).toNat/\(s[i]!).toNat<58):=fun h=>by rw[(kr _).2 h]at hb;cases hb
    rw[←ei]at hne;unfold tw;exact gg0
   | true=>
    rw[hb,Bool.true_and]at he;have hne:=(kr _).1 hb;rw[←ei]at hne;unfold tw;exact gg0
 unfold Nf;simp only[enter];refine gg3 ?_;refine loop s.length 0 _ _ _ (by omega) (by simp) (fun h lo wr a2=>?_) (fun h lo wr a2=>?_)
 . rw[h];exact gg0
 . rw[h];exact gg7
theorem adx (hft:M.FT=FT)(s:ao)(hl:s.length<1000000)(q204:∀h,M.ext 204 [.str s] h=some ⟨.bool (s.all bI),h,[]⟩):aT M 154 [.str s] [] ⟨.bool (dL s),[],[]⟩:=by
 refine bB (by rw[hft];exact adl) (by simp) ?_;by_cases h0:s=[]
 . subst h0;have hl0:([]:ao).length=0:=rfl;rw[show dL []=false from rfl];unfold tv;simp only[enter];exact gg10
 . have hpos:0<s.length:=List.length_pos_iff.2 h0;have ei:s[(0:Int).toNat]! = s[0]! := rfl;have hdec:dL s=(s.all bI && (decide (s[0]! ≠ 48) || decide (s=[48]))):=by rw[dL,decide_eq_true h0,Bool.true_and]
   by_cases h48:s[0]! = 48
   . have e48:((s[(0:Int).toNat]!).toNat:Int)=48:=by rw[ei,h48];rfl
     by_cases hl1:s.length=1
     . have hs:s=[48]:=by
        cases s with
        | nil=>exact absurd rfl h0
        | cons c t=>
         have:t=[]:=List.eq_nil_of_length_eq_zero (by simpa using hl1);subst this;have:c=48:=h48;rw[this]
       rw[hdec,decide_eq_true hs,Bool.or_true,Bool.and_true];unfold tv;simp only[enter];exact gg0
     . have hs:¬s=[48]:=fun e=>hl1 (by rw[e];rfl)
       rw[hdec,decide_eq_false hs,decide_eq_false (by simpa using h48),Bool.or_self,Bool.and_false];unfold tv;simp only[enter];exact gg0
   . have e48:((s[(0:Int).toNat]!).toNat:Int)≠48:=fun e=>h48 (UInt8.toNat_inj.1 (by rw[ei]at e;have:(48:UInt8).toNat=48:=rfl;omega))
     rw[hdec,decide_eq_true (show s[0]! ≠ 48 from h48),Bool.true_or,Bool.and_true];unfold tv;simp only[enter];exact gg0
theorem ady {s:ao}(h:s.all bI=true)(hl:s.length<=18)(i:Nat)(hi:i<=s.length):az 0 (s.take i)<1000000000000000000:=by
 refine Me ?_ (by rw[List.length_take];omega);rw[List.all_eq_true]at h ⊢;exact fun x hx=>h x (List.mem_of_mem_take hx)
theorem adz (hft:M.FT=FT)(s:ao)(hl:s.length<=18)(hd:s.all bI=true):aT M 192 [.str s] [] ⟨.iV (az 0 s:Nat),[],[]⟩:=by
 refine bB (by rw[hft];exact ado) (by simp) ?_;have loop:∀(r i:Nat) (lo:List (Nat×AV)) (wr:List Nat) {Q:Ex->aq->Prop} (a1:AV),i+r=s.length ->
  (∀lo wr,Q (.exit 0) ⟨⟨[.str s,a1,.iV (az 0 s:Nat),.iV s.length],lo,[],[]⟩,wr⟩) ->
  W M (.loop yp) ⟨⟨[.str s,a1,.iV (az 0 (s.take i):Nat),.iV i],lo,[],[]⟩,wr⟩ Q:=by
  intro r;induction r with
  | zero=>
   intro i lo wr Q a1 hi hQ;obtain rfl:i=s.length:=by omega
   rw[List.take_length];refine W.loop ?_;unfold yp;exact gg1
  | succ r ih=>
   intro i lo wr Q a1 hi hQ;have vC:=ady hd hl (i+1) (by omega);have hb:=(kr _).1 ((List.all_eq_true.1 hd) s[i]! (by rw[getElem!_pos s i (by omega)];exact List.getElem_mem (by omega)));have e1:az 0 (s.take (i+1))=10*az 0 (s.take i)+((s[i]!).toNat-48):=by
    rw[List.take_add_one,List.getElem?_eq_getElem (by omega),Option.toList_some,oz,sQ,getElem!_pos s i (by omega)]
   have ei:s[((i:Int)).toNat]! = s[i]! := rfl;rw[←ei]at hb e1;have ih':=ih (i+1);generalize az 0 (s.take (i+1))=m at *
   generalize az 0 (s.take i)=n at *
   have e2:(m:Int)=10*n+((s[((i:Int)).toNat]!).toNat:Int)-48:=by omega
   rw[e2]at ih';refine W.loop ?_;unfold yp;exact gg8
 unfold Ni;simp only[enter];refine gg3 ?_;refine loop s.length 0 _ _ _ (by omega) (fun lo wr=>?_);exact gg7
end Go.Ab.Ch1

/-
  Own work: digits to the base 10^9 in blocks.
-/
namespace Go.Ab.Ch1
open Go.Ab.bj
variable {M:ax} {cap c1 c2:Option Nat}
abbrev iC (x:Int):List AV:=[.iV x]
abbrev al (l:List Int):List AV:=arr iC l
abbrev dB:Int:=1000000000
theorem Nr {l:List Int}:(al l).length=l.length:=by
 have:=pQ (f:=iC) (esz:=1) (fun _=>rfl) l;simpa using this
theorem adA {l:List Int}{m:Nat}(h:m<l.length):(al l)[m]? = some (.iV l[m]!):=by
 induction l generalizing m with
 | nil=>simp at h
 | cons x l ih=>
  cases m with
  | zero=>rfl
  | succ m=>
   have e:(x::l)[m+1]! = l[m]! := by simp[List.getElem!_eq_getElem?_getD]
   rw[e,←ih (by simpa using h)];rfl
section
variable {t b m:Nat} {x y:aO} {l:List aU} {pe:List AV} {lo:List (Nat×AV)} {hp:ab} {df wr:List Nat} {L:List Int} {e:TypeId} {v:Int} {Q:aq->Prop}
theorem ahB (hx:(St.mk pe lo hp df).aa x=some (.ptr b m))(hb:hp.at b=some (.cells (al L) e))(hi:m<L.length)
 (h:WO M l ⟨⟨pe,(t,.iV L[m]!)::lo,hp,df⟩,wr⟩ Q):WO M (⟨.l t,.load 1 false x,none⟩::l) ⟨⟨pe,lo,hp,df⟩,wr⟩ Q:=by
 refine agZ (c:=al L) (o:=m) (e:=e) (v:=.iV L[m]!) hx hb ?_ h;have h1:=adA hi;have h2:m<(al L).length:=by rw[Nr];exact hi
 rw[List.drop_eq_getElem_cons h2];rw[List.getElem?_eq_getElem h2]at h1;rw[Option.some.inj h1];rfl
theorem adB {L:List Int}{m:Nat}{v:Int}(h:m<L.length):overwrite (al L) m (iC v)=al (L.set m v):=by
 induction L generalizing m with
 | nil=>simp at h
 | cons x L ih=>
  cases m with
  | zero=>simp[overwrite,arr]
  | succ m=>
   have:=ih (m:=m) (by simpa using h);simp only[List.set_cons_succ];have e1:al (x::L) = .iV x::al L:=rfl;have e2:al (x::L.set m v) = .iV x::al (L.set m v):=rfl;rw[e1,e2,←this];simp[overwrite,Nat.add_right_comm]
theorem aho (hx:(St.mk pe lo hp df).aa x=some (.ptr b m))(hy:(St.mk pe lo hp df).aa y=some (.iV v))(hb:hp.at b=some (.cells (al L) e))(hi:m<L.length)
 (h:WO M l ⟨⟨pe,lo,hp.put b (some (.cells (al (L.set m v)) e)),df⟩,b::wr⟩ Q):WO M (⟨.no,.store 1 x y,none⟩::l) ⟨⟨pe,lo,hp,df⟩,wr⟩ Q:=
 adi (c:=al L) (new:=iC v) hx (by rw[hy];rfl) hb ⟨rfl,by rw[Nr];omega,rfl⟩ (adB hi) h
end
def cR (hp:ab)(b:Nat)(e:TypeId)(P S X:List Int):ab:=hp.put b (some (.cells (al (P++X++S)) e))
theorem Ns {hp:ab}{b:Nat}{e:TypeId}{P S X:List Int}:(cR hp b e P S X).length=hp.length:=fw
section
variable {t bu bv m:Nat} {x y:aO} {l:List aU} {pe:List AV} {lo:List (Nat×AV)} {hp:ab} {df wr:List Nat} {P S X V Y:List Int} {e e':TypeId} {v:Int} {Q:aq->Prop}
theorem ahR {i:Nat}(hx:(St.mk pe lo (cR hp bu e P S X) df).aa x=some (.ptr bu m))(hl:bu<hp.length)(hi:i<X.length)(hm:m=P.length+i)
 (h:WO M l ⟨⟨pe,(t,.iV X[i]!)::lo,cR hp bu e P S X,df⟩,wr⟩ Q):WO M (⟨.l t,.load 1 false x,none⟩::l) ⟨⟨pe,lo,cR hp bu e P S X,df⟩,wr⟩ Q:=by
 subst hm;refine ahB (L:=P++X++S) (e:=e) hx (by unfold cR;exact cW hl) (by simp;omega) ?_;rw[Ci hi];exact h
theorem ahS {i:Nat}(hx:(St.mk pe lo (cR hp bu e P S X) df).aa x=some (.ptr bu m))(hy:(St.mk pe lo (cR hp bu e P S X) df).aa y=some (.iV v))(hl:bu<hp.length)(hi:i<X.length)(hm:m=P.length+i)
 (h:WO M l ⟨⟨pe,lo,cR hp bu e P S (X.set i v),df⟩,bu::wr⟩ Q):WO M (⟨.no,.store 1 x y,none⟩::l) ⟨⟨pe,lo,cR hp bu e P S X,df⟩,wr⟩ Q:=by
 subst hm;refine aho (L:=P++X++S) (e:=e) hx hy (by unfold cR;exact cW hl) (by simp;omega) ?_;rw[Jl hi];have:ab.put (cR hp bu e P S X) bu (some (.cells (al (P++X.set i v++S)) e))=cR hp bu e P S (X.set i v):=by unfold cR;exact Ig
 rw[this];exact h
end
end Go.Ab.Ch1

/-
  Own work: digits to the base 10^9: zeros at the end, what is handed back.
-/
namespace Go.Ab.Ch1
open Go.Ab.bj
variable {M:ax} {cap c1 c2:Option Nat}
def gk (v:AV)(hh:ab)(r:List Int):Prop:=∃v1,ij hh v v1/\v1.top=0/\cj v1 = .vs (al r) r.length none
theorem EC (l:List Int):dO (al l)=al l:=Bv (fun _=>rfl) l
theorem fk (l:List Int):br (al l)=0:=pP (fun _=>rfl) l
theorem gk.trim {b:Nat}{L:List Int}{e:TypeId}{hp:ab}{n:Nat}(hb:hp.at b=some (.cells (al L) e))(hn:n<=L.length):gk (bD b (aQ (L.take n)) cap) (if (aW [bD b (aQ (L.take n)) cap]).top<=0 then [] else hp) (L.take (aQ (L.take n))):=by
 have hle:=ik (l:=L.take n);rw[List.length_take]at hle;obtain⟨k,hk⟩:∃k,k=aQ (L.take n):=⟨_,rfl⟩;rw[←hk]at hle ⊢;by_cases h0:0<k
 . have e1:bD b k cap = .sl b 0 k 1 cap:=if_pos h0;rw[e1,if_neg (by simp[aW,AV.top])];have hl:(L.take k).length=k:=by rw[List.length_take];omega
   have hF:Fr hp [b] (.sl b 0 k 1 cap) (.vs (al (L.take k)) k none):=by
    refine .sl (m:=al (L.take k)) (List.mem_singleton.2 rfl) hb ?_ rfl (fun i x y hx hy=>?_) (.inr rfl)
    . have:=kj (f:=iC) (esz:=1) (fun _=>rfl) (l:=L) (i:=0) (n:=k) (by omega);simpa using this
    . rw[hx]at hy;cases hy;exact .same (cK (fk _) hx)
   unfold gk;rw[hl];refine⟨_,⟨[b],hF,rfl,fun c l' e' hc hl'=>?_⟩,fk _,by rw[cj,EC]⟩;rw[List.mem_singleton.1 hc,hb]at hl';cases hl';exact nL (fun _=>rfl) _
 . obtain rfl:k=0:=by omega
   exact⟨.vs [] 0 cap,.same rfl rfl,rfl,rfl⟩
def yB (M:ax)(g:Nat)(ars:List AV)(z:Int):Prop:=∃r:List Int,(okW dB r/\aN r/\WV dB r=z)/\∃v hh,gk v hh r/\aT M g ars [] ⟨v,hh,[]⟩
theorem EE {f N:Nat}{aR:List Nat}{res:List eM}{body:an}{ars:List AV}{z:Int}(hft:M.FT f=some ⟨N,aR,res,body⟩)(hN:ars.length<=N)
 (h:W M body ⟨⟨aR.map (fun t=>(ars[t]?).getD cG),[],[],[]⟩,[]⟩ fun e s=>(e = .normal\/e = .ret)/\s.s.bZ=[]/\∃vs,dh s.s res=some vs/\∃r:List Int,(okW dB r/\aN r/\WV dB r=z)/\gk (aW vs) (if (aW vs).top<=0 then [] else s.s.hp) r):yB M f ars z:=by
 obtain⟨v,hh,⟨r,hr,ho⟩,h2⟩:=gQ (P:=fun v hh=>∃r:List Int,(okW dB r/\aN r/\WV dB r=z)/\gk v hh r) hft hN h;exact⟨r,hr,v,hh,ho,h2⟩
theorem oW {L:List Int}(ok:okW dB L):okW dB (L.take (aQ L))/\aN (L.take (aQ L))/\WV dB (L.take (aQ L))=WV dB L:=⟨dr ok _,Cg,wc⟩
def cH (x:AV)(l:List Int):Prop:=x = .vs (al l) l.length none\/(x = .ae/\l=[])
def jl (v:AV)(hh:ab)(q r:List Int):Prop:=∃v1 x y,fg hh v v1/\v1.top=0/\bO v1 = .au [x,y]/\cH x q/\cH y r
theorem oZ (l:List Int):cP (al l)=al l:=Bw (fun _=>rfl) l
theorem EH {b:Nat}{L:List Int}{e:TypeId}{hp:ab}{n:Nat}(hb:hp.at b=some (.cells (al L) e))(hn:n<=L.length)(hh:ab)(he:(bD b (aQ (L.take n)) cap).top≠0->hh=hp) :
 ∃v1,fg hh (bD b (aQ (L.take n)) cap) v1/\v1.top=0/\bO v1 = .vs (al (L.take (aQ (L.take n)))) (L.take (aQ (L.take n))).length none:=by
 have hle:=ik (l:=L.take n);rw[List.length_take]at hle;obtain⟨k,hk⟩:∃k,k=aQ (L.take n):=⟨_,rfl⟩;rw[←hk]at hle he ⊢;by_cases h0:0<k
 . have e1:bD b k cap = .sl b 0 k 1 cap:=if_pos h0;rw[e1]at he ⊢;obtain rfl:=he (by simp[AV.top]);have hl:(L.take k).length=k:=by rw[List.length_take];omega
   have hF:fg hh (.sl b 0 k 1 cap) (.vs (al (L.take k)) k none):=by
    refine .sl (m:=al (L.take k)) hb ?_ rfl (fun i x y hx hy=>?_)
    . have:=kj (f:=iC) (esz:=1) (fun _=>rfl) (l:=L) (i:=0) (n:=k) (by omega);simpa using this
    . rw[hx]at hy;cases hy;exact .same (cK (fk _) hx)
   rw[hl];exact⟨_,hF,fk _,by rw[bO,oZ]⟩
 . obtain rfl:k=0:=by omega
   exact⟨.vs [] 0 cap,.same rfl,rfl,rfl⟩
theorem jl.less {hh:ab}{l:List Int}:jl (aW [.ae,.vs (al l) l.length cap]) hh [] l:=by
 have ht:(aW [.ae,.vs (al l) l.length cap]).top=0:=by simp[aW,AV.top,br,fk l]
 refine⟨aW [.ae,.vs (al l) l.length cap],.ae,.vs (al l) l.length none,.same ht,ht,?_,.inr ⟨rfl,rfl⟩,.inl rfl⟩;simp only[aW,bO,cP,oZ l]
def Nt (M:ax)(g:Nat)(ars:List AV)(x y:Int):Prop:=∃q r:List Int,(okW dB q/\aN q/\WV dB q=x/y)/\(okW dB r/\aN r/\WV dB r=x%y)/\∃v hh,jl v hh q r/\aT M g ars [] ⟨v,hh,[]⟩
theorem adC {f N:Nat}{aR:List Nat}{res:List eM}{body:an}{ars:List AV}{x y:Int}(hft:M.FT f=some ⟨N,aR,res,body⟩)(hN:ars.length<=N)
 (h:W M body ⟨⟨aR.map (fun t=>(ars[t]?).getD cG),[],[],[]⟩,[]⟩ fun e s=>(e = .normal\/e = .ret)/\s.s.bZ=[]/\∃vs,dh s.s res=some vs/\∃q r:List Int,(okW dB q/\aN q/\WV dB q=x/y)/\(okW dB r/\aN r/\WV dB r=x%y)/\jl (aW vs) (if (aW vs).top<=0 then [] else s.s.hp) q r):Nt M f ars x y:=by
 obtain⟨v,hh,⟨q,r,hq,hr,ho⟩,h2⟩:=gQ (P:=fun v hh=>∃q r:List Int,(okW dB q/\aN q/\WV dB q=x/y)/\(okW dB r/\aN r/\WV dB r=x%y)/\jl v hh q r) hft hN h;exact⟨q,r,hq,hr,v,hh,ho,h2⟩
theorem tE {b:Nat}:bD b 0 cap = .vs [] 0 cap:=if_neg (by omega)
theorem Nu {b r:Nat}:bD b (r+1) cap = .sl b 0 (r+1) 1 cap:=if_pos (by omega)
theorem adD (hft:M.FT=FT){b n:Nat}{L:List Int}{e:TypeId}{hp:ab}(hb:hp.at b=some (.cells (al L) e))(hn:n<=L.length)(hl:n<1000000000)(hc:∀c,cap=some c->n<=c) :
 aT M 242 [bD b n cap] hp ⟨bD b (aQ (L.take n)) cap,hp,[]⟩:=by
 have hbl:=eE hb;refine lf (by rw[hft];exact yr) (by simp) (by unfold bD;split <;> simp[AV.top,br];omega) ?_;have loop:∀(r:Nat) (lo:List (Nat×AV)) (a1:AV) {Q:Ex->aq->Prop},r<=n->aQ (L.take r)=aQ (L.take n)->(∀lo,Q (.exit 0) ⟨⟨[bD b (aQ (L.take n)) cap,a1],lo,hp,[]⟩,[]⟩)->W M (.loop jx) ⟨⟨[bD b r cap,a1],lo,hp,[]⟩,[]⟩ Q:=by
  intro r;induction r with
  | zero=>
   intro lo a1 Q hr he hQ;have e0:aQ (L.take n)=0:=by rw[←he];rfl
   rw[e0,tE]at hQ;rw[tE];refine W.loop ?_;unfold jx;exact gg1
  | succ r ih=>
   intro lo a1 Q hr he hQ;have e:=nZ (l:=L) (i:=r) (by omega);have ei:0+((((r+1:Nat):Int)-1).toNat)*1=r:=by omega
   have er:((r+1:Nat):Int)-1=r:=by omega
   rw[Nu];refine W.loop ?_;by_cases h0:L[r]! = 0
   . rw[if_pos h0]at e;unfold jx;exact gg9
   . rw[if_neg h0]at e;have e2:aQ (L.take n)=r+1:=by rw[←he,e]
     rw[e2,Nu]at hQ;unfold jx;exact gg9
 unfold tA;simp only[enter];refine gg3 ?_;refine loop n _ _ (Nat.le_refl _) rfl (fun lo=>?_);exact gg7
theorem pa (hft:M.FT=FT)(dP:∀ars h,M.ext 242 ars h=none){b n:Nat}{L:List Int}{e:TypeId}{hp:ab}(hb:hp.at b=some (.cells (al L) e))(h0:0<n)(hn:n<=L.length)(hl:n<1000000000)(hc:∀c,cap=some c->n<=c) :
 CT M (iq 242) [.sl b 0 n 1 cap] hp ⟨bD b (aQ (L.take n)) cap,hp,[]⟩:=by
 have h:=adD (cap:=cap) hft hb hn hl hc;rw[show bD b n cap = .sl b 0 n 1 cap from if_pos h0]at h;exact CT.run (fi:=[]) (ca:=[]) (dP _ _) h
theorem Nv {b n:Nat}:bD b n cap = .sl b 0 n 1 cap\/bD b n cap = .vs [] 0 cap/\n=0:=by
 rcases Nat.eq_zero_or_pos n with rfl|h
 . exact .inr ⟨tE,rfl⟩
 . exact .inl (if_pos h)
theorem uf {st:St}{i b:Nat}{x y:AV}{e:TypeId}(h1:st.pe[i]? = some (.ptr b 0))(h2:st.hp.at b=some (.cells [x,y] e)):dh st [.cell 2 true (.p i)]=some [.agg [x,y]]:=by
 simp only[dh,St.aa,h1,Option.bind_some,fo,h2,List.drop];rfl
theorem Nw (hft:M.FT=FT)(dP:∀ars h,M.ext 242 ars h=none){b n:Nat}{L:List Int}{e:TypeId}{hp:ab}(neg:Bool)(hb:hp.at b=some (.cells (al L) e))(h0:0<n)(hn:n<=L.length)(hl:n<1000000000)(hc:∀c,cap=some c->n<=c) :
 aT M 196 [.bool neg,.sl b 0 n 1 cap] hp ⟨.agg [.bool (neg && decide (0<aQ (L.take n))),bD b (aQ (L.take n)) cap],hp,[]⟩:=by
 have hbl:=eE hb;have q:=pa (cap:=cap) hft dP (hp:=hp++[some (.cells [.bool false,.ae] 162)]) (bS hb) h0 hn hl hc;have ht:aQ (L.take n)<=n:=by have:=ik (l:=L.take n);rw[List.length_take]at this;omega
 obtain⟨k,hk⟩:∃k,k=aQ (L.take n):=⟨_,rfl⟩;rw[←hk]at q ht ⊢;refine lf (by rw[hft];exact yq) (by simp) (by rcases Nv (cap:=cap) (b:=b) (n:=k) with h|⟨h,_⟩ <;> rw[h] <;> simp[AV.top,br] <;> omega) ?_;unfold tz;simp only[enter];rcases Nv (cap:=cap) (b:=b) (n:=k) with h|⟨h,h1⟩
 . rw[h]at q ⊢;by_cases hk0:0<k
   . rw[decide_eq_true hk0,Bool.and_true];cases neg;all_goals
     . exact gg4
   . exfalso;have:k=0:=by omega
     rw[this,tE]at h;cases h
 . rw[h]at q ⊢;subst h1;rw[decide_eq_false (by omega),Bool.and_false];cases neg;all_goals
   . exact gg4
end Go.Ab.Ch1

/-
  Own work: the reference's integers: read from texts.
-/
namespace Go.Ab.Ch1
open Go.Ab.bj
variable {M:ax} {cap c1 c2:Option Nat}
def bW (v:AV)(z:Int):Prop:=∃neg x l,v = .agg [.bool neg,x]/\cH x l/\okW dB l/\aN l/\z=(if neg then -WV dB l else WV dB l)/\(neg=true->l≠[])
def je (v:AV)(z:Int):Prop:=∃neg l,v = .agg [.bool neg,.vs (al l) l.length none]/\okW dB l/\aN l/\z=(if neg then -WV dB l else WV dB l)/\(neg=true->l≠[])
theorem je.tF {v:AV}{z:Int}(h:je v z):bW v z:=by
 obtain⟨neg,l,h1,h2,h3,h4,h5⟩:=h;exact⟨neg,_,l,h1,.inl rfl,h2,h3,h4,h5⟩
theorem Nx (n:Nat):((10^(9*n):Nat):Int)=dB^n:=by
 rw[Nat.pow_mul];exact Int.natCast_pow _ _
theorem adE {t x:ao}(hx:x.length=9):az 0 (t++x)=az 0 t*1000000000+az 0 x:=by
 rw[oz,xq,hx]
structure EK (M:ax):Prop where
 ft:M.FT=FT
 dP:∀ars h,M.ext 242 ars h=none
 tG:∀ars h,M.ext 196 ars h=none
 pb:∀(s:ao) h,s.length<=18->s.all bI=true->M.ext 192 [.str s] h=some ⟨.iV (az 0 s:Nat),h,[]⟩
theorem Ny {K:ab}{c:Nat}{L:List Int}{neg:Bool}(hc:K.at c=some (.cells (al L) 3))(oL:okW dB L) :
 ∃v0,je v0 (if neg then -WV dB L else WV dB L)/\fj (.agg [.bool (neg && decide (0<aQ (L.take L.length))),bD c (aQ (L.take L.length)) none]) (if (AV.agg [.bool (neg && decide (0<aQ (L.take L.length))),bD c (aQ (L.take L.length)) none]).top<=0 then [] else K) v0:=by
 obtain⟨v1,f1,t1,k1⟩:=EH (cap:=none) hc (Nat.le_refl L.length) (if (AV.agg [.bool (neg && decide (0<aQ (L.take L.length))),bD c (aQ (L.take L.length)) none]).top<=0 then [] else K) (fun h=>by
  rw[if_neg];intro h2;apply h;have:(AV.agg [.bool (neg && decide (0<aQ (L.take L.length))),bD c (aQ (L.take L.length)) none]).top=max 0 (max (bD c (aQ (L.take L.length)) none).top 0):=rfl;omega)
 obtain⟨g1,g2,g3⟩:=oW oL;rw[List.take_length]at k1 f1 ⊢;refine⟨.agg [.bool (neg && decide (0<aQ L)),.vs (al (L.take (aQ L))) (L.take (aQ L)).length none],⟨_,_,rfl,g1,g2,?_,?_⟩,.agg [.bool (neg && decide (0<aQ L)),v1],.agg rfl (fun i a b ha hb=>?_),?_,?_⟩
 . rw[g3];cases neg with
   | false=>rfl
   | true=>
    by_cases h0:0<aQ L
    . rw[decide_eq_true h0];rfl
    . rw[decide_eq_false h0];have:WV dB L=0:=by rw[←g3,show aQ L=0 by omega];rfl
      rw[this];rfl
 . intro h e;rw[Bool.and_eq_true,decide_eq_true_eq]at h;have:=congrArg List.length e;have hle:=ik (l:=L);rw[List.length_take,List.length_nil]at this;omega
 . match i with
   | 0=>cases ha;cases hb;exact .same rfl
   | 1=>cases ha;cases hb;exact f1
   | i+2=>cases ha
 . simp[AV.top,br,t1]
 . simp only[bO,cP,k1]
theorem adF (C:EK M){Q:Ex->aq->Prop}(full:ao)(hD:full.all bI=true)(hl:full.length<1000000)(a2:AV)
 (hQ:∀t acc o K lo wr,t.length<=9->t.all bI=true->okW dB acc->acc.length<1000000->(az 0 full:Int)=az 0 t*dB^acc.length+WV dB acc->cF iC 1 3 K o acc [0]->K.at 0=some (.cells [.bool false,.ae] 162)->Q (.exit 0) ⟨⟨[.str t,.ptr 0 0,a2,o],lo,K,[]⟩,wr⟩)
 (lo:List (Nat×AV)) (wr:List Nat) (K:ab) (hK:K.at 0=some (.cells [.bool false,.ae] 162)) :
 W M (.loop tx) ⟨⟨[.str full,.ptr 0 0,a2,.ae],lo,K,[]⟩,wr⟩ Q:=by
 refine W.fT (fun m st=>∃t acc o K lo wr,st=⟨⟨[.str t,.ptr 0 0,a2,o],lo,K,[]⟩,wr⟩/\t.length=m/\t.all bI=true/\okW dB acc/\acc.length*9+t.length<=full.length/\(az 0 full:Int)=az 0 t*dB^acc.length+WV dB acc/\cF iC 1 3 K o acc [0]/\K.at 0=some (.cells [.bool false,.ae] 162))
  (fun m st ⟨t,acc,o,K,lo,wr,hst,hm,hDt,oA,hln,hv,ho,hK⟩=>?_) (m:=full.length) ⟨full,[],.ae,K,lo,wr,rfl,rfl,hD,ix,by simp,by simp[WV],.nO,hK⟩
 subst hst;by_cases h9:t.length<=9
 . unfold tx;exact gg10
 . obtain⟨x,y,hxy,hxl⟩:∃x y,t=x++y/\y.length=9:=⟨t.take (t.length-9),t.drop (t.length-9),(List.take_append_drop _ t).symm,by rw[List.length_drop];omega⟩;have htl:t.length=x.length+9:=by rw[hxy,List.length_append,hxl]
   have hDx:x.all bI=true:=by rw[hxy,List.all_append,Bool.and_eq_true]at hDt;exact hDt.1
   have hDy:y.all bI=true:=by rw[hxy,List.all_append,Bool.and_eq_true]at hDt;exact hDt.2
   have q192:=fun h=>C.pb y h (by omega) hDy
   have hylt:az 0 y<1000000000:=by have:=mK y hDy;rw[hxl]at this;exact this
   have edr:t.drop ((t.length:Int)-9).toNat=y:=by rw[show ((t.length:Int)-9).toNat=x.length by omega,hxy,List.drop_left]
   have etk:t.take ((t.length:Int)-9).toNat=x:=by rw[show ((t.length:Int)-9).toNat=x.length by omega,hxy,List.take_left]
   have hroom:(acc.length+1)*8<=dG:=by unfold dG;omega
   have hK1:=eE hK;unfold tx;repeat' first|(apply agf (s:=t) (r:=y);rfl;rfl;omega;exact edr)|(apply agt (s:=t) (r:=x);rfl;rfl;omega;exact etk)|(refine cF.app (f:=iC) (m:=[(az 0 y:Int)]) (S:=[0]) (fun _=>rfl) (fun _=>rfl) (by decide) (ho.grow [_]) (by simp) rfl rfl (Sl.iN (f:=iC) (esz:=1) (l:=[(az 0 y:Int)]) (e:=3) (fun _=>rfl) bX rfl) hroom (fun H w' o' ho' hk hlen=>?_))|apply abn|apply aM|apply abp|apply abC|apply ada|apply acQ|apply dx|(apply acL;rfl)|(apply aep;rfl;rfl)|(apply afD;rfl;rfl;omega)|(apply aco;rfl;rfl;first|exact q192 _)|(apply acT;rfl;rfl;rfl)|(apply abg;rfl;rfl)|(apply acn;rfl;rfl)|(intro _;omega)|intro _
   all_goals try omega
   all_goals exact dE ⟨x.length,by omega,x,acc++[(az 0 y:Int)],o',H,_,_,rfl,rfl,hDx,jj oA (fun z hz=>by rw[List.mem_singleton.1 hz];exact⟨by omega,by show _<(1000000000:Int);omega⟩),by rw[List.length_append,List.length_singleton];omega,by
    rw[hv,hxy,adE hxl,List.length_append,List.length_singleton,Int.pow_succ,fI];rw[Int.natCast_add,Int.natCast_mul];have:WV dB [(az 0 y:Int)]=az 0 y:=by simp[WV]
    rw[this];show ((az 0 x:Int)*1000000000+az 0 y)*dB^acc.length+WV dB acc=az 0 x*(dB^acc.length*1000000000)+(WV dB acc+dB^acc.length*az 0 y);grind,ho',hk 0 _ (by simp) (bS hK)⟩
theorem adG (C:EK M)(s:ao)(hl:s.length<1000000)(hD:(bL 45 s).all bI=true):∃v0,je v0 (if preB 45 s then -(az 0 (bL 45 s):Int) else (az 0 (bL 45 s):Nat))/\cN M 193 [.str s] v0:=by
 have hcl:=qK 45 s;obtain⟨v',hh,⟨v0,h0,ho⟩,hr⟩:=gQ (M:=M) (f:=193) (ars:=[.str s]) (P:=fun v hh=>∃v0,je v0 (if preB 45 s then -(az 0 (bL 45 s):Int) else (az 0 (bL 45 s):Nat))/\fj v hh v0) (by rw[C.ft];exact adn) (by simp) (by
  have main:∀(neg:Bool) (lo:List (Nat×AV)) (wr:List Nat) {Q:Ex->aq->Prop},(∀e st,((e = .normal\/e = .ret)/\st.s.bZ=[]/\∃vs,dh st.s [.cell 2 true (.p 1)]=some vs/\∃v0,je v0 (if neg then -(az 0 (bL 45 s):Int) else (az 0 (bL 45 s):Nat))/\fj (aW vs) (if (aW vs).top<=0 then [] else st.s.hp) v0)->Q e st) ->
   W M (.loop tx) ⟨⟨[.str (bL 45 s),.ptr 0 0,.bool neg,.ae],lo,[some (.cells [.bool false,.ae] 162)],[]⟩,wr⟩ (BQ 0 (SQ M (zR [zm 33 2,
    zm 34 3,
    zm 35 0,
    z1 36 192 35,
    ⟨(.l 37),.dQ 3 1 1 [.iV (0)] [(0,1,(.l 36))],none⟩,
    ⟨(.l 38),.append 3 1 8 (.l 34) (.l 37),none⟩,
    z2 39 196 33 38,
    zs 2 1 39]
     (.ret)) Q)):=by
   intro neg lo wr Q hQ;refine adF C (bL 45 s) hD (by omega) _ (fun t acc o K lo wr ht hDt oA hacc hv ho hK=>?_) _ _ _ rfl;have q192:=fun h=>C.pb t h (by omega) hDt
   have htlt:az 0 t<1000000000:=by
    have h1:=mK t hDt;exact Nat.lt_of_lt_of_le h1 (Nat.le_trans (Nat.pow_le_pow_right (by decide) ht) (by decide))
   have hroom:(acc.length+1)*8<=dG:=by unfold dG;omega
   have hK1:=eE hK;repeat' first|(refine cF.app (f:=iC) (m:=[(az 0 t:Int)]) (S:=[0]) (fun _=>rfl) (fun _=>rfl) (by decide) (ho.grow [_]) (by simp) rfl rfl (Sl.iN (f:=iC) (esz:=1) (l:=[(az 0 t:Int)]) (e:=3) (fun _=>rfl) bX rfl) hroom (fun H w' o' ho' hk hlen=>?_))|apply abn|apply aM|apply abp|apply gh|(apply aco;rfl;rfl;first|exact q192 _)|(apply acT;rfl;rfl;rfl)|(apply abg;rfl;rfl)
   rcases ho' with ⟨h1,_⟩|⟨c,cp,hc0,rfl,hc,hcap⟩
   . simp at h1
   obtain rfl:cp=none:=hcap.resolve_right fun h=>by simp at h
   have oL:okW dB (acc++[(az 0 t:Int)]):=jj oA (fun z hz=>by rw[List.mem_singleton.1 hz];exact⟨by omega,by show _<(1000000000:Int);omega⟩);have vL:WV dB (acc++[(az 0 t:Int)])=(az 0 (bL 45 s):Int):=by
    rw[hv,fI];have:WV dB [(az 0 t:Int)]=az 0 t:=by simp[WV]
    rw[this];grind
   have h0':H.at 0=some (.cells [.bool false,.ae] 162):=hk 0 _ (by simp) (bS hK);have hcn:c≠0:=fun e=>hc0 (by simp[e])
   obtain⟨L,hL⟩:∃L,L=acc++[(az 0 t:Int)]:=⟨_,rfl⟩;rw[←hL]at oL vL hc;have hLl:(acc++[(az 0 t:Int)]).length=L.length:=by rw[hL]
   rw[hLl];have hLn:0<L.length/\L.length<1000001:=by rw[hL,List.length_append,List.length_singleton];omega
   have q196:=CT.run (fi:=[]) (ca:=[]) (ars:=[.bool neg,.sl c 0 L.length 1 none]) (C.tG _ _) (Nw (cap:=none) C.ft C.dP neg hc hLn.1 (Nat.le_refl _) (by omega) (fun _ h=>by cases h));obtain⟨v0,k0,o0⟩:=Ny (K:=H.put 0 (some (.cells [.bool (neg && decide (0<aQ (L.take L.length))),bD c (aQ (L.take L.length)) none] 162))) (neg:=neg) (pR hcn hc) oL;rw[vL]at k0;have hone:cV (bD c (aQ (L.take L.length)) none)=true:=by unfold bD;split <;> rfl
   refine gg13 ?_;refine hQ _ _ ⟨.inr rfl,rfl,_,uf rfl (cW (eE h0')),v0,k0,o0⟩
  unfold Nh;simp only[enter];cases hp:preB 45 s with
  | true=>
   obtain⟨h1,h2⟩:=tf hp;have h1:s.drop (1:Int).toNat=bL 45 s:=h1;have e0:s[0]! = 45:=by
    have h:=of_decide_eq_true hp;cases s with
    | nil=>simp at h
    | cons c t=>simp at h;exact h
   have e45:((s[(0:Int).toNat]!).toNat:Int)=45:=by rw[show s[(0:Int).toNat]! = s[0]! from rfl,e0];rfl
   exact gg9
  | false=>
   have e1:=jS hp;rw[e1]at main;by_cases h0:s.length=0
   . exact gg2
   . have e45:((s[(0:Int).toNat]!).toNat:Int)≠45:=fun e=>by
      have h:=of_decide_eq_false hp;cases s with
      | nil=>exact h0 rfl
      | cons c t=>
       refine h (congrArg some (UInt8.toNat_inj.1 ?_));have e:((c.toNat:Nat):Int)=45:=e;have:(45:UInt8).toNat=45:=rfl;omega
     repeat' first|apply abn|apply aM|apply abp|apply abC|apply ada|apply acQ|(apply acS;rfl)|(apply aef;rfl)|(apply aep;rfl;rfl)|(apply aer;rfl;rfl)|(apply acZ;rfl;rfl)|(apply agh;rfl;rfl;omega)|(apply acY;rfl;rfl;rfl)|(apply abg;rfl;rfl)|(apply acn;rfl;rfl)|(intro _;omega)|intro _
     all_goals try omega
     all_goals exact main false _ _ (fun e st h=>by rw[e1];exact h))
 exact⟨v0,h0,v',hh,ho,hr⟩
end Go.Ab.Ch1

/-
  Own work: the reference's integers: parts of a fraction; comparisons; divisions by one digit.
-/
namespace Go.Ab.Ch1
open Go.Ab.bj
variable {M:ax} {cap c1 c2:Option Nat}
theorem tH (x:AV){l:List Int}(h:cH x l):cV x=true/\x.top=0/\bO x=x:=by
 rcases h with rfl|⟨rfl,rfl⟩
 . exact⟨rfl,fk l,by rw[bO,oZ]⟩
 . exact⟨rfl,rfl,rfl⟩
theorem bW.shape {v:AV}{z:Int}(h:bW v z):∃neg x l,v = .agg [.bool neg,x]/\cH x l/\cV x=true/\x.top=0/\bO x=x:=by
 obtain⟨neg,x,l,rfl,hx,_⟩:=h;obtain⟨h1,h2,h3⟩:=tH x hx;exact⟨neg,x,l,rfl,hx,h1,h2,h3⟩
theorem fO {n:Bool}{x:AV}(h:cV x=true):[AV.bool n,x].all cV=true:=by rw[List.all_cons,List.all_cons,List.all_nil,h];rfl
theorem Nz {s:ao}(h:jy s=true):s.take (cm s)=(bG 47 s).1/\s.drop (cm s+1)=(bG 47 s).2.getD []/\cm s+1<=s.length:=by
 unfold jy at h;obtain⟨y,hy⟩:=Option.isSome_iff_exists.1 h;have h1:=DE hy;have h2:=LM hy;have h3:=td hy;refine⟨h1,?_,by unfold cm;omega⟩;rw[hy];exact h2
theorem NA (hft:M.FT=FT)(s:ao)(hl:s.length<1000000)(hb:jy s=true)(q153:∀h,M.ext 153 [.str s] h=some ⟨.iV (cm s),h,[]⟩){v1 v2:AV}{z1 z2:Int}(k1:bW v1 z1)(k2:bW v2 z2)(qa:∀h,M.ext 193 [.str (bG 47 s).1] h=some ⟨v1,h,[]⟩)(qb:∀h,M.ext 193 [.str ((bG 47 s).2.getD [])] h=some ⟨v2,h,[]⟩):cN M 135 [.str s] (.au [v1,v2]):=by
 obtain⟨e1,e2,hk⟩:=Nz hb;obtain⟨n1,x1,l1,rfl,_,o1,t1,b1⟩:=k1.shape;obtain⟨n2,x2,l2,rfl,_,o2,t2,b2⟩:=k2.shape;have e1':s.take ((cm s:Nat):Int).toNat=(bG 47 s).1:=e1;have e2':s.drop ((cm s:Int)+1).toNat=(bG 47 s).2.getD []:=by rw[show ((cm s:Int)+1).toNat=cm s+1 by omega];exact e2
 generalize (bG 47 s).1=X at *
 generalize (bG 47 s).2.getD []=Y at *
 refine cO (by rw[hft];exact Ng) (by simp) ?_;unfold Ev;simp only[enter];repeat' first|(apply agt (s:=s) (r:=X);rfl;rfl;omega;exact e1')|(apply agf (s:=s) (r:=Y);rfl;rfl;omega;exact e2')|(apply afA;rfl;rfl;(first|(simp only[nca];rfl)|rfl);first|exact qa _|exact qb _)|(apply adi;rfl;rfl;rfl;exact⟨rfl,Nat.le_refl _,by first|exact fO o1|exact fO o2⟩;rfl)|apply abn|apply aM|apply abp|apply abC|apply abS|apply acQ|apply aet|apply afd|(apply afE;rfl)|(apply afI;rfl;(first|(simp only[nca];rfl)|rfl);(first|(simp only[nca];rfl)|rfl))|(apply acS;rfl)|(apply aer;rfl;rfl)|(apply afC;rfl;rfl;omega)|(apply aco;rfl;rfl;first|exact q153 _)|(apply acY;rfl;rfl;rfl)|(apply abg;rfl;rfl)|(apply acn;rfl;rfl)|(intro _;omega)|intro _
 all_goals try omega
 refine cI rfl rfl (.same ?_ ?_)
 . show max (max 0 (max x1.top 0)) (max (max 0 (max x2.top 0)) 0)=0;rw[t1,t2];rfl
 . show AV.au [.agg [.bool n1,bO x1],.agg [.bool n2,bO x2]]=_;rw[b1,b2]
theorem NB (hft:M.FT=FT)(a b:List Int)(ha:okW dB a)(hb:okW dB b)(na:aN a)(nb:aN b)(la:a.length<1000000000)(lb:b.length<1000000000) :
 aT M 218 [.vs (al a) a.length c1,.vs (al b) b.length c2] [] ⟨.iV (bh (WV dB a-WV dB b)),[],[]⟩:=by
 have hB:(1:Int)<dB:=by decide
 refine bB (by rw[hft];exact adq) (by simp) ?_;by_cases hl:a.length=b.length
 . have loop:∀(r:Nat) lo a2 wr {Q:Ex->aq->Prop},r<=a.length->a.drop r=b.drop r ->
    (∀lo wr z,z=bh (WV dB a-WV dB b)->∀a3,Q .ret ⟨⟨[.vs (al a) a.length c1,.vs (al b) b.length c2,.iV z,a3],lo,[],[]⟩,wr⟩) ->
    (bh (WV dB a-WV dB b)=0->∀lo wr,Q (.exit 0) ⟨⟨[.vs (al a) a.length c1,.vs (al b) b.length c2,a2,.iV (-1)],lo,[],[]⟩,wr⟩) ->
    W M (.loop qQ) ⟨⟨[.vs (al a) a.length c1,.vs (al b) b.length c2,a2,.iV ((r:Int)-1)],lo,[],[]⟩,wr⟩ Q:=by
    intro r;induction r with
    | zero=>
     intro lo a2 wr Q hr hd h1 h2;rw[List.drop_zero,List.drop_zero]at hd;refine W.loop ?_;unfold qQ;exact gg1
    | succ r ih=>
     intro lo a2 wr Q hr hd h1 h2;have er:((r+1:Nat):Int)-1=r:=by omega
     rw[er];have hai:a[((r:Int)).toNat]! = a[r]! := rfl;have hbi:b[((r:Int)).toNat]! = b[r]! := rfl;refine W.loop ?_;by_cases hlt:a[r]! < b[r]!
     . have:=we hB ha hb (i:=r) (by omega) (by omega) hd hlt;rw[←hai,←hbi]at hlt;unfold qQ;exact gg11
     . by_cases hgt:b[r]! < a[r]!
       . have:=we hB hb ha (i:=r) (by omega) (by omega) hd.symm hgt;rw[←hai,←hbi]at hlt hgt;unfold qQ;exact gg11
       . have hd2:a.drop r=b.drop r:=by
          rw[List.drop_eq_getElem_cons (show r<a.length by omega),List.drop_eq_getElem_cons (show r<b.length by omega),hd,←getElem!_pos a r,←getElem!_pos b r];exact congrArg (· :: _) (show a[r]! = b[r]! by omega)
         rw[←hai,←hbi]at hlt hgt;unfold qQ;exact gg11
   unfold EA;simp only[enter];refine gg6 ?_;refine loop a.length _ _ _ (Nat.le_refl _) (by rw[List.drop_length,hl,List.drop_length]) (fun lo wr z hz a3=>?_) (fun hz lo wr=>?_)
   . subst hz;exact gg0
   . rw[hz];exact gg7
 . unfold EA;simp only[enter];by_cases hlt:a.length<b.length
   . have:=oc hB ha hb nb hlt;rw[show bh (WV dB a-WV dB b) = -1 by rw[bh,if_pos (by omega)]];repeat' first|apply abn|apply aM|apply abp|apply abC|apply abS|apply cd|(apply acL;rfl)|(apply adf;rfl;rfl)|(apply afl;rfl;rfl)|(apply abg;rfl;rfl)|(apply acn;rfl;rfl)|(intro _;omega)|intro _
     all_goals first|contradiction|(omega)|skip
     all_goals exact⟨.inr rfl,rfl,_,rfl,rfl,rfl⟩
   . have:=oc hB hb ha na (by omega);rw[show bh (WV dB a-WV dB b)=1 by rw[bh,if_neg (by omega),if_pos (by omega)]];repeat' first|apply abn|apply aM|apply abp|apply abC|apply abS|apply acQ|apply cd|(apply acL;rfl)|(apply acS;rfl)|(apply adf;rfl;rfl)|(apply afl;rfl;rfl)|(apply abg;rfl;rfl)|(apply acn;rfl;rfl)|(intro _;omega)|intro _
     all_goals first|contradiction|(omega)|skip
     all_goals exact⟨.inr rfl,rfl,_,rfl,rfl,rfl⟩
theorem adH (a:List Int)(oa:okW dB a)(la:a.length<10000000)(d:Int)(hd:0<d/\d<=1000000000){Q:Ex->aq->Prop}(a2 a3:AV)
 (hQ:∀L (re:Int) a7 lo wr,L.length=a.length->okW dB L->(0<=re/\re<d)->WV dB a=d*WV dB L+re ->
   Q (.exit 0) ⟨⟨[.vs (al a) a.length c1,.iV d,a2,a3,.sl 0 0 a.length 1 (some a.length),.iV re,.iV (-1),a7],lo,[some (.cells (al L) 3)],[]⟩,wr⟩) (a7:AV) (lo:List (Nat×AV)) :
 W M (.loop yA) ⟨⟨[.vs (al a) a.length c1,.iV d,a2,a3,.sl 0 0 a.length 1 (some a.length),.iV 0,.iV ((a.length:Int)-1),a7],lo,[some (.cells (al (List.replicate a.length 0)) 3)],[]⟩,[]⟩ Q:=by
 refine W.fT (fun t s=>∃L re iv a7 lo wr,s=⟨⟨[.vs (al a) a.length c1,.iV d,a2,a3,.sl 0 0 a.length 1 (some a.length),.iV re,.iV iv,a7],lo,[some (.cells (al L) 3)],[]⟩,wr⟩ /\
  iv=(t:Int)-1/\t<=a.length/\L.length=a.length/\okW dB L/\(0<=re/\re<d)/\(∀k,k<t->L[k]! = 0)/\WV dB a=d*WV dB L+dB^t*re+WV dB (a.take t)) (fun t s ⟨L,re,iv,a7,lo,wr,hs,hiv,ht,hL,oL,hre,hz,hv⟩=>?_) (m:=a.length)
  ⟨_,_,_,_,_,_,rfl,rfl,Nat.le_refl _,by simp,kl (by decide),⟨by decide,hd.1⟩,fun k _=>ko,by rw[km,List.take_length];simp⟩
 subst hs;cases t with
 | zero=>
  obtain rfl:iv = -1:=by omega
  unfold yA;exact gg8
 | succ i=>
  obtain rfl:iv=(i:Int):=by omega
  have gx:=cf oa (i:=i) (by omega);obtain⟨x,hx⟩:∃x,x=a[((i:Int)).toNat]! := ⟨_,rfl⟩;rw[show a[i]! = x from hx.symm]at gx;have gx:0<=x/\x<1000000000:=gx;have e1:=Int.mul_ediv_add_emod (re*1000000000+x) d;have r0:=Int.emod_nonneg (re*1000000000+x) (show d≠0 by omega);have r1:=Int.emod_lt_of_pos (re*1000000000+x) hd.1;have d0:0<=(re*1000000000+x)/d:=Int.ediv_nonneg (by omega) (by omega);have d1:(re*1000000000+x)/d<1000000000:=Int.ediv_lt_of_lt_mul hd.1 (by omega);have eI:0+((i:Int)).toNat*1=i:=by omega
  obtain⟨q,hq⟩:∃q,q=(re*1000000000+x)/d:=⟨_,rfl⟩;obtain⟨r,hr⟩:∃r,r=(re*1000000000+x)%d:=⟨_,rfl⟩;have next:∀a7 lo wr,LI (fun s=>∃m',m'<i+1/\∃L re iv a7 lo wr,s=⟨⟨[.vs (al a) a.length c1,.iV d,a2,a3,.sl 0 0 a.length 1 (some a.length),.iV re,.iV iv,a7],lo,[some (.cells (al L) 3)],[]⟩,wr⟩ /\
   iv=(m':Int)-1/\m'<=a.length/\L.length=a.length/\okW dB L/\(0<=re/\re<d)/\(∀k,k<m'->L[k]! = 0)/\WV dB a=d*WV dB L+dB^m'*re+WV dB (a.take m')) Q .normal ⟨⟨[.vs (al a) a.length c1,.iV d,a2,a3,.sl 0 0 a.length 1 (some a.length),.iV r,.iV ((i:Int)-1),a7],lo,[some (.cells (al (L.set i q)) 3)],[]⟩,wr⟩:=fun a7 lo wr=>
   dE ⟨i,Nat.lt_succ_self i,_,_,_,a7,lo,wr,rfl,rfl,by omega,by rw[List.length_set];exact hL,fW oL ⟨by rw[hq];exact d0,by rw[hq];exact d1⟩,by rw[hr];exact⟨r0,r1⟩,fun k hk=>by rw[gI (by omega)];exact hz k (by omega),by
    rw[hv,fX (by omega),hz i (by omega),fh (by omega),show a[i]! = x from hx.symm,Int.pow_succ,Int.sub_zero];rw[←hq,←hr]at e1;have e2:dB^i*dB*re+dB^i*x=dB^i*(d*q+r):=by rw[e1];show dB^i*1000000000*re+_=_;grind
    rw[Int.mul_add]at e2 ⊢;have e3:d*(dB^i*q)=dB^i*(d*q):=by grind
    rw[e3];omega⟩
  rw[hq,hr,hx]at next
  rw[hx]at gx;have hre2:re<1000000000:=by omega
  unfold yA;exact gg11
end Go.Ab.Ch1

/-
  Own work: the reference's integers: divisions by one digit, products.
-/
namespace Go.Ab.Ch1
open Go.Ab.bj
variable {M:ax} {cap c1 c2:Option Nat}
section
variable {t b m:Nat} {x y:aO} {l:List aU} {pe:List AV} {lo:List (Nat×AV)} {hp:ab} {df wr:List Nat} {L:List Int} {e:TypeId} {v a d:Int} {Q:aq->Prop}
theorem ahh (hx:(St.mk pe lo hp df).aa x=some (.iV a))(hy:(St.mk pe lo hp df).aa y=some (.iV d))(ha:0<=a/\a<9223372036854775808)(hd:0<d)
 (h:WO M l ⟨⟨pe,(t,.iV (a/d))::lo,hp,df⟩,wr⟩ Q):WO M (⟨.l t,.bin .quo x y,none⟩::l) ⟨⟨pe,lo,hp,df⟩,wr⟩ Q:=by
 refine ahj hx hy hd (by omega) ?_;rw[Int.tdiv_eq_ediv_of_nonneg ha.1];exact h
theorem ahp (hx:(St.mk pe lo hp df).aa x=some (.iV a))(hy:(St.mk pe lo hp df).aa y=some (.iV d))(ha:0<=a)(hd:0<d)
 (h:WO M l ⟨⟨pe,(t,.iV (a%d))::lo,hp,df⟩,wr⟩ Q):WO M (⟨.l t,.bin .rem x y,none⟩::l) ⟨⟨pe,lo,hp,df⟩,wr⟩ Q:=by
 refine ahk hx hy (by omega) ?_;rw[Int.tmod_eq_emod_of_nonneg ha];exact h
theorem ahD (hx:(St.mk pe lo hp df).aa x=some (.ptr b m))(hb:hp.at b=some (.cells (al L) e))(hi:m<L.length)(hv:L[m]! = v)
 (h:WO M l ⟨⟨pe,(t,.iV v)::lo,hp,df⟩,wr⟩ Q):WO M (⟨.l t,.load 1 false x,none⟩::l) ⟨⟨pe,lo,hp,df⟩,wr⟩ Q:=by
 subst hv;exact ahB hx hb hi h
end
def kE (v:AV)(hh:ab)(r:List Int)(z:Int):Prop:=∃v1,ij hh v v1/\v1.top=0/\cj v1 = .au [.vs (al r) r.length none,.iV z]
theorem kE.trim {b:Nat}{L:List Int}{e:TypeId}{hp:ab}{n:Nat}{z:Int}(hb:hp.at b=some (.cells (al L) e))(hn:n<=L.length):kE (aW [bD b (aQ (L.take n)) cap,.iV z]) (if (aW [bD b (aQ (L.take n)) cap,.iV z]).top<=0 then [] else hp) (L.take (aQ (L.take n))) z:=by
 have hle:=ik (l:=L.take n);rw[List.length_take]at hle;obtain⟨k,hk⟩:∃k,k=aQ (L.take n):=⟨_,rfl⟩;rw[←hk]at hle ⊢;by_cases h0:0<k
 . have e1:bD b k cap = .sl b 0 k 1 cap:=if_pos h0;rw[e1,if_neg (by simp[aW,AV.top,br])];have hl:(L.take k).length=k:=by rw[List.length_take];omega
   have hF:Fr hp [b] (.sl b 0 k 1 cap) (.vs (al (L.take k)) k none):=by
    refine .sl (m:=al (L.take k)) (List.mem_singleton.2 rfl) hb ?_ rfl (fun i x y hx hy=>?_) (.inr rfl)
    . have:=kj (f:=iC) (esz:=1) (fun _=>rfl) (l:=L) (i:=0) (n:=k) (by omega);simpa using this
    . rw[hx]at hy;cases hy;exact .same (cK (fk _) hx)
   unfold kE;rw[hl];refine⟨.au [.vs (al (L.take k)) k none,.iV z],⟨[b],.au rfl (fun i x y hx hy=>?_),rfl,fun c l' e' hc hl'=>?_⟩,by simp[AV.top,br,fk],by simp only[cj,dO,EC]⟩
   . match i with
     | 0=>cases hx;cases hy;exact hF
     | 1=>cases hx;cases hy;exact .same rfl
     | i+2=>cases hx
   . rw[List.mem_singleton.1 hc,hb]at hl';cases hl';exact nL (fun _=>rfl) _
 . obtain rfl:k=0:=by omega
   exact⟨.au [.vs [] 0 cap,.iV z],.same rfl rfl,rfl,rfl⟩
theorem kE.zero {b:Nat}{e:TypeId}{hp:ab}{z:Int}(hb:hp.at b=some (.cells (al []) e)):kE (aW [.sl b 0 0 1 cap,.iV z]) (if (aW [.sl b 0 0 1 cap,.iV z]).top<=0 then [] else hp) [] z:=by
 rw[if_neg (by simp[aW,AV.top,br])];refine⟨.au [.vs [] 0 none,.iV z],⟨[b],.au rfl (fun i x y hx hy=>?_),rfl,fun c l' e' hc hl'=>?_⟩,rfl,rfl⟩
 . match i with
   | 0=>cases hx;cases hy;exact .sl (m:=[]) (List.mem_singleton.2 rfl) hb rfl rfl (fun i x y hx=>by simp at hx) (.inr rfl)
   | 1=>cases hx;cases hy;exact .same rfl
   | i+2=>cases hx
 . rw[List.mem_singleton.1 hc,hb]at hl';cases hl';rfl
theorem EL (hft:M.FT=FT){b:Nat}{L:List Int}{e:TypeId}{hp:ab}(hb:hp.at b=some (.cells (al L) e)):aT M 242 [.sl b 0 0 1 cap] hp ⟨.sl b 0 0 1 cap,hp,[]⟩:=by
 have hbl:=eE hb;refine lf (by rw[hft];exact yr) (by simp) (by simp[AV.top];omega) ?_;unfold tA;simp only[enter];refine gg3 ?_;refine W.loop ?_;unfold jx;exact gg1
def NC (M:ax)(g:Nat)(ars:List AV)(x y:Int):Prop:=∃q:List Int,(okW dB q/\aN q/\WV dB q=x/y)/\∃v hh,kE v hh q (x%y)/\aT M g ars [] ⟨v,hh,[]⟩
theorem adI {f N:Nat}{aR:List Nat}{res:List eM}{body:an}{ars:List AV}{x y:Int}(hft:M.FT f=some ⟨N,aR,res,body⟩)(hN:ars.length<=N)
 (h:W M body ⟨⟨aR.map (fun t=>(ars[t]?).getD cG),[],[],[]⟩,[]⟩ fun e s=>(e = .normal\/e = .ret)/\s.s.bZ=[]/\∃vs,dh s.s res=some vs/\∃q:List Int,(okW dB q/\aN q/\WV dB q=x/y)/\kE (aW vs) (if (aW vs).top<=0 then [] else s.s.hp) q (x%y)):NC M f ars x y:=by
 obtain⟨v,hh,⟨q,hq,ho⟩,h2⟩:=gQ (P:=fun v hh=>∃q:List Int,(okW dB q/\aN q/\WV dB q=x/y)/\kE v hh q (x%y)) hft hN h;exact⟨q,hq,v,hh,ho,h2⟩
theorem adJ (hft:M.FT=FT)(dP:∀ars h,M.ext 242 ars h=none)(a:List Int)(oa:okW dB a)(la:a.length<10000000)(d:Int)(hd:0<d/\d<=1000000000):NC M 241 [.vs (al a) a.length c1,.iV d] (WV dB a) d:=by
 refine adI (by rw[hft];exact adr) (by simp) ?_;unfold Nm;simp only[enter];refine gg13 ?_;rw[show ((a.length:Int)).toNat=a.length from rfl];refine adH a oa la d hd _ _ (fun L re a7 lo wr hL oL hre hv=>?_) _ _;obtain⟨d1,d2⟩:=mG hv hre.1 hre.2;obtain⟨g1,g2,g3⟩:=oW oL;by_cases h0:a.length=0
 . have hL0:L=[]:=List.eq_nil_of_length_eq_zero (by omega);subst hL0;have hl0:a.length=0:=h0;have q0:CT M (iq 242) [.sl 0 0 a.length 1 (some a.length)] [some (.cells (al []) 3)] ⟨.sl 0 0 a.length 1 (some a.length),[some (.cells (al []) 3)],[]⟩:=by
    rw[hl0];exact CT.run (fi:=[]) (ca:=[]) (dP _ _) (EL hft rfl)
   refine gg13 ?_;have hout:=kE.zero (cap:=some a.length) (e:=3) (hp:=[some (.cells (al []) 3)]) (b:=0) (z:=re) rfl;refine⟨.inr rfl,rfl,_,rfl,[],⟨ix,jE,d1⟩,?_⟩;rw[←d2,hl0];rw[hl0]at hout;exact hout
 . have q1:CT M (iq 242) [.sl 0 0 a.length 1 (some a.length)] [some (.cells (al L) 3)] ⟨bD 0 (aQ (L.take a.length)) (some a.length),[some (.cells (al L) 3)],[]⟩:=pa (cap:=some a.length) hft dP rfl (by omega) (by omega) (by omega) (fun c hc=>by cases hc;exact Nat.le_refl _);refine gg13 ?_;have hout:=kE.trim (cap:=some a.length) (b:=0) (L:=L) (e:=3) (hp:=[some (.cells (al L) 3)]) (n:=a.length) (z:=re) rfl (by omega);refine⟨.inr rfl,rfl,_,rfl,L.take (aQ (L.take a.length)),?_,?_⟩
   . rw[List.take_of_length_le (show L.length<=a.length by omega)];exact⟨g1,g2,by rw[g3,d1]⟩
   . rw[←d2];exact hout
end Go.Ab.Ch1

/-
  Own work: the reference's integers: products.
-/
namespace Go.Ab.Ch1
open Go.Ab.bj
variable {M:ax} {cap c1 c2:Option Nat}
theorem ND {x y:Int}(hx:0<=x/\x<1000000000)(hy:0<=y/\y<1000000000):0<=x*y/\x*y<=999999998000000001:=by
 refine⟨Int.mul_nonneg hx.1 hy.1,?_⟩;have:=Int.mul_le_mul (a:=x) (b:=y) (c:=999999999) (d:=999999999) (by omega) (by omega) hy.1 (by omega);omega
theorem adK (a b:List Int)(hb:okW dB b)(la:a.length<10000000)(lb:b.length<10000000)(i:Nat)(hi:i<a.length)(x P:Int)(hx:0<=x/\x<1000000000)(hax:a[((i:Int)).toNat]! = x){Q:Ex->aq->Prop}(a2 a7:AV)(lo:List (Nat×AV))(wr:List Nat)(L:List Int)(hl:L.length=a.length+b.length)(bH:okW dB L)(hz:∀k,i+b.length<=k->L[k]! = 0)(hP:WV dB L=P)
 (hQ:∀L (c:Int) a7 lo wr,L.length=a.length+b.length->okW dB L->(0<=c/\c<1000000000)->(∀k,i+b.length<=k->L[k]! = 0)->WV dB L+dB^(i+b.length)*c=P+dB^i*x*WV dB b ->
   Q (.exit 2) ⟨⟨[.vs (al a) a.length c1,.vs (al b) b.length c2,a2,.sl 0 0 (a.length+b.length) 1 (some (a.length+b.length)),.iV i,.iV c,.iV b.length,a7],lo,[some (.cells (al L) 3)],[]⟩,wr⟩) :
 W M (.loop yy) ⟨⟨[.vs (al a) a.length c1,.vs (al b) b.length c2,a2,.sl 0 0 (a.length+b.length) 1 (some (a.length+b.length)),.iV i,.iV 0,.iV 0,a7],lo,[some (.cells (al L) 3)],[]⟩,wr⟩ Q:=by
 subst hax;refine W.iT b.length (fun j s=>∃L c a7 lo wr,s=⟨⟨[.vs (al a) a.length c1,.vs (al b) b.length c2,a2,.sl 0 0 (a.length+b.length) 1 (some (a.length+b.length)),.iV i,.iV c,.iV j,a7],lo,[some (.cells (al L) 3)],[]⟩,wr⟩ /\
  L.length=a.length+b.length/\okW dB L/\(0<=c/\c<1000000000)/\(∀k,i+b.length<=k->L[k]! = 0)/\WV dB L+dB^(i+j)*c=P+dB^i*a[((i:Int)).toNat]! * WV dB (b.take j)) (fun j s hj ⟨L,c,a7,lo,wr,hs,hl,bH,hc,hz,hv⟩=>?_) (fun s ⟨L,c,a7,lo,wr,hs,hl,bH,hc,hz,hv⟩=>?_) (Nat.zero_le _)
  ⟨_,_,_,_,_,rfl,hl,bH,⟨by decide,by decide⟩,hz,by rw[hP];simp[WV]⟩
 . subst hs;have gy:=cf hb hj;rw[show b[j]! = b[((j:Int)).toNat]! from rfl]at gy;obtain⟨y,hy⟩:∃y,y=b[((j:Int)).toNat]! := ⟨_,rfl⟩;rw[←hy]at gy;have gy:0<=y/\y<1000000000:=gy;have hm:=ND hx gy;obtain⟨m,hmm⟩:∃m,m=a[((i:Int)).toNat]! * y:=⟨_,rfl⟩;rw[←hmm]at hm;have gL:=cf bH (i:=i+j) (by omega);obtain⟨w,hw⟩:∃w,w=L[i+j]! := ⟨_,rfl⟩;rw[←hw]at gL;have gL:0<=w/\w<1000000000:=gL;obtain⟨R,hR⟩:∃R,R=(w+m+c)%1000000000:=⟨_,rfl⟩;obtain⟨D,hD⟩:∃D,D=(w+m+c)/1000000000:=⟨_,rfl⟩;have hD2:(0<=D/\D<1000000000)/\w+m+c=R+1000000000*D/\(0<=R/\R<1000000000):=by omega
   have eI:0+(((i:Int)+(j:Int))).toNat*1=i+j:=by omega
   have next:∀a7 lo wr,LI (fun s=>∃L c a7 lo wr,s=⟨⟨[.vs (al a) a.length c1,.vs (al b) b.length c2,a2,.sl 0 0 (a.length+b.length) 1 (some (a.length+b.length)),.iV i,.iV c,.iV ((j+1:Nat):Int),a7],lo,[some (.cells (al L) 3)],[]⟩,wr⟩ /\
    L.length=a.length+b.length/\okW dB L/\(0<=c/\c<1000000000)/\(∀k,i+b.length<=k->L[k]! = 0)/\WV dB L+dB^(i+(j+1))*c=P+dB^i*a[((i:Int)).toNat]! * WV dB (b.take (j+1))) Q .normal ⟨⟨[.vs (al a) a.length c1,.vs (al b) b.length c2,a2,.sl 0 0 (a.length+b.length) 1 (some (a.length+b.length)),.iV i,.iV D,.iV ((j:Int)+1),a7],lo,[some (.cells (al (L.set (i+j) R)) 3)],[]⟩,wr⟩:=fun a7 lo wr=>
    dE ⟨_,_,a7,lo,wr,rfl,by rw[List.length_set];exact hl,fW bH hD2.2.2,hD2.1,fun k hk=>by rw[gI (by omega)];exact hz k hk,by
     rw[fX (by omega),←hw,fh hj,show i+(j+1)=(i+j)+1 from rfl,Int.pow_succ,show b[j]! = y from hy.symm];have e:=hD2.2.1;rw[hmm]at e;have e2:dB^(i+j)*(R-w)+dB^(i+j)*1000000000*D=dB^(i+j)*(a[((i:Int)).toNat]! * y+c):=by
      have:a[((i:Int)).toNat]! * y+c=R-w+1000000000*D:=by omega
      rw[this,Int.mul_add,Int.mul_assoc]
     have e3:dB^(i+j)=dB^i*dB^j:=Int.pow_add _ _ _;show WV dB L+dB^(i+j)*(R-w)+dB^(i+j)*1000000000*D=P+dB^i*a[((i:Int)).toNat]! * (WV dB (b.take j)+dB^j*y);generalize a[((i:Int)).toNat]! = x at *
     rw[Int.add_assoc,e2,Int.mul_add,←Int.add_assoc,Int.add_right_comm,hv];rw[e3];grind⟩
   rw[hD,hR,hmm]at next
   rw[hmm]at hm;rw[hy]at next hm gy
   unfold yy;exact gg11
 . subst hs;rw[List.take_length]at hv;unfold yy;exact gg5
theorem NF (hft:M.FT=FT)(dP:∀ars h,M.ext 242 ars h=none)(a b:List Int)(ha:okW dB a)(hb:okW dB b)(la:a.length<10000000)(lb:b.length<10000000)(h0:0<a.length+b.length):yB M 197 [.vs (al a) a.length c1,.vs (al b) b.length c2] (WV dB a*WV dB b):=by
 refine EE (by rw[hft];exact Nl) (by simp) ?_;unfold EB;simp only[enter];refine gg6 ?_;have e0:((a.length:Int)+(b.length:Int)).toNat=a.length+b.length:=by omega
 rw[e0];refine W.iT a.length (fun i s=>∃L a5 a6 a7 lo wr,s=⟨⟨[.vs (al a) a.length c1,.vs (al b) b.length c2,.ae,.sl 0 0 (a.length+b.length) 1 (some (a.length+b.length)),.iV i,a5,a6,a7],lo,[some (.cells (al L) 3)],[]⟩,wr⟩ /\
  L.length=a.length+b.length/\okW dB L/\(∀k,i+b.length<=k->L[k]! = 0)/\WV dB L=WV dB (a.take i)*WV dB b) (fun i s hi ⟨L,a5,a6,a7,lo,wr,hs,hl,bH,hz,hv⟩=>?_) (fun s ⟨L,a5,a6,a7,lo,wr,hs,hl,bH,hz,hv⟩=>?_) (Nat.zero_le _)
  ⟨List.replicate (a.length+b.length) 0,_,_,_,_,_,rfl,by simp,kl (by decide),fun k _=>ko,by rw[km];simp[WV]⟩
 . subst hs;have gx:=cf ha hi;rw[show a[i]! = a[((i:Int)).toNat]! from rfl]at gx;have eI:0+(((i:Int)+(b.length:Int))).toNat*1=i+b.length:=by omega
   unfold yz;refine gg3 ?_;refine adK (c1:=c1) (c2:=c2) a b hb la lb i hi a[((i:Int)).toNat]! _ gx rfl _ _ _ _ L hl bH hz hv (fun L2 c a7 lo wr h1 h2 h3 h4 h5=>?_);have h4':=h4 _ (Nat.le_refl _);have g0:=cf h2 (i:=i+b.length) (by omega);refine gg14 ?_;refine dE ⟨L2.set (i+b.length) (0+c),_,_,_,_,_,rfl,by rw[List.length_set];exact h1,fW h2 (by rw[Int.zero_add];exact h3),fun k hk=>by rw[gI (by omega)];exact h4 k (by omega),?_⟩;rw[fX (by omega),h4',Int.sub_zero,Int.zero_add,h5,fh hi];show _=(WV dB (a.take i)+dB^i*a[i]!)*WV dB b;rw[Int.add_mul];rfl
 . subst hs;rw[List.take_length]at hv;have q:=pa (cap:=some (a.length+b.length)) (b:=0) (n:=a.length+b.length) (L:=L) (e:=3) (hp:=[some (.cells (al L) 3)]) hft dP rfl (by omega) (by omega) (by omega) (fun c hc=>by cases hc;exact Nat.le_refl _);rw[List.take_of_length_le (by omega)]at q;unfold yz;refine gg14 ?_;refine⟨.inr rfl,rfl,_,rfl,L.take (aQ L),?_,?_⟩
   . obtain⟨g1,g2,g3⟩:=oW bH;exact⟨g1,g2,by rw[g3,hv]⟩
   . have:=gk.trim (cap:=some (a.length+b.length)) (b:=0) (L:=L) (e:=3) (hp:=[some (.cells (al L) 3)]) (n:=a.length+b.length) rfl (by omega);rw[List.take_of_length_le (by omega)]at this;exact this
end Go.Ab.Ch1

/-
  Own work: Knuth's division to the base 10^9: the guess of a digit is at most one too great.
-/
namespace Go.Ab.bj
structure ir (t2 t1 t0 v1 v0 T V p:Int):Prop where
 h2:0<=t2
 h1:0<=t1/\t1<1000000000
 h0:0<=t0/\t0<1000000000
 w1:500000000<=v1/\v1<1000000000
 w0:0<=v0/\v0<1000000000
 hp:1<=p
 lo:((t2*1000000000+t1)*1000000000+t0)*p<=T
 hi:T<((t2*1000000000+t1)*1000000000+t0+1)*p
 ql:(v1*1000000000+v0)*p<=V
 sr:V<(v1*1000000000+v0+1)*p
 hT:T<1000000000*V
structure iE (t2 t1 v1 T V q r:Int):Prop where
 q0:0<=q/\q<=1000000001
 r0:0<=r
 e:q*v1+r=t2*1000000000+t1
 ge:T<(q+1)*V
variable {t2 t1 t0 v1 v0 T V p q r:Int}
theorem ir.top (C:ir t2 t1 t0 v1 v0 T V p):t2<=v1:=by
 have h1:=C.h1;have h0:=C.h0;have w0:=C.w0;have a1:((t2*1000000000+t1)*1000000000+t0)*p<(1000000000*(v1*1000000000+v0+1))*p:=by
  have:=C.lo;have:=C.hT;have:=C.sr;rw[Int.mul_assoc 1000000000];omega
 have a2:=Int.lt_of_mul_lt_mul_right a1 (by have:=C.hp;omega);omega
theorem ir.geq (C:ir t2 t1 t0 v1 v0 T V p)(h0:0<=q)(h:(t2*1000000000+t1)*1000000000+t0+1<=q*(v1*1000000000+v0)):T<q*V:=by
 have hp:=C.hp;have a1:=Int.mul_le_mul_of_nonneg_right h (show 0<=p by omega);have a2:=Int.mul_le_mul_of_nonneg_left C.ql h0;rw[←Int.mul_assoc]at a2;have:=C.hi;omega
theorem iE.qD (I:iE t2 t1 v1 T V q r):q*(v1*1000000000+v0)=(t2*1000000000+t1-r)*1000000000+q*v0:=by
 have e:=I.e;have:t2*1000000000+t1-r=q*v1:=by omega
 rw[this,Int.mul_add,Int.mul_assoc]
theorem iE.init (C:ir t2 t1 t0 v1 v0 T V p):iE t2 t1 v1 T V ((t2*1000000000+t1)/v1) ((t2*1000000000+t1)%v1):=by
 have h2:=C.h2;have h1:=C.h1;have w1:=C.w1;have h0:=C.h0;have w0:=C.w0;have ht:=C.top;have q0:0<=(t2*1000000000+t1)/v1:=Int.ediv_nonneg (by omega) (by omega);have q1:(t2*1000000000+t1)/v1<1000000002:=Int.ediv_lt_of_lt_mul (by omega) (by omega);have e:=Int.mul_ediv_add_emod (t2*1000000000+t1) v1;have r0:=Int.emod_nonneg (t2*1000000000+t1) (show v1≠0 by omega);have r1:=Int.emod_lt_of_pos (t2*1000000000+t1) (show 0<v1 by omega);rw[Int.mul_comm]at e;refine⟨⟨q0,by omega⟩,r0,e,C.geq (by omega) ?_⟩;generalize (t2*1000000000+t1)/v1=q at *
 generalize (t2*1000000000+t1)%v1=r at *
 have a1:(q+1)*(v1*1000000000+v0)=(q*v1+v1)*1000000000+(q+1)*v0:=by grind
 have a2:0<=(q+1)*v0:=Int.mul_nonneg (by omega) w0.1;rw[a1];generalize q*v1=z at *
 generalize (q+1)*v0=y at *
 omega
theorem ir.V0 (C:ir t2 t1 t0 v1 v0 T V p):0<V:=by
 have:=C.w1;have:=C.w0;have:=C.ql;have:=Int.mul_pos (show 0<v1*1000000000+v0 by omega) (show 0<p by have:=C.hp;omega);omega
theorem iE.dec (C:ir t2 t1 t0 v1 v0 T V p)(I:iE t2 t1 v1 T V q r)(h:1000000000<=q\/r*1000000000+t0<q*v0):iE t2 t1 v1 T V (q-1) (r+v1):=by
 have w1:=C.w1;have q0:=I.q0;have r0:=I.r0;have h0:=C.h0;have q1:0<q:=by
  rcases Int.lt_or_le 0 q with h'|h'
  . exact h'
  . obtain rfl:q=0:=by omega
    omega
 refine⟨by omega,by omega,by have:=I.e;rw[Int.sub_mul];omega,?_⟩;rw[Int.sub_add_cancel];rcases h with h|h
 . have hT:=C.hT;have:=Int.mul_le_mul_of_nonneg_right h (Int.le_of_lt C.V0);omega
 . refine C.geq (by omega) ?_;rw[I.qD];omega
theorem iE.exit (C:ir t2 t1 t0 v1 v0 T V p)(I:iE t2 t1 v1 T V q r)(hq:q<1000000000)(h:q*v0<=r*1000000000+t0):(q-1)*V<=T:=by
 have w1:=C.w1;have q0:=I.q0;have r0:=I.r0;have w0:=C.w0;have hp:=C.hp;have a1:q*(v1*1000000000+v0)<=(t2*1000000000+t1)*1000000000+t0:=by rw[I.qD];omega
 have a2:=Int.mul_le_mul_of_nonneg_right a1 (show 0<=p by omega);have a3:=Int.mul_le_mul_of_nonneg_left (Int.le_of_lt C.sr) q0.1;have a4:q*((v1*1000000000+v0+1)*p)=q*(v1*1000000000+v0)*p+q*p:=by grind
 have a5:=Int.mul_le_mul_of_nonneg_right (show q<=1000000000 by omega) (show 0<=p by omega);have a6:=Int.mul_le_mul_of_nonneg_right (show 1000000000<=v1*1000000000+v0 by omega) (show 0<=p by omega);have a7:=C.ql;have a8:=C.lo;rw[Int.sub_mul,Int.one_mul];omega
theorem iE.mF (C:ir t2 t1 t0 v1 v0 T V p)(I:iE t2 t1 v1 T V q r)(h:1000000000<=r):q<1000000000/\(q-1)*V<=T:=by
 have q0:=I.q0;have w0:=C.w0;have h0:=C.h0;have w1:=C.w1;have h1:=C.h1;have ht:=C.top;have hq:q<1000000000:=by
  rcases Int.lt_or_le q 1000000000 with h'|h'
  . exact h'
  . have a:=Int.mul_le_mul_of_nonneg_right h' (show 0<=v1 by omega);have e:=I.e;omega
 refine⟨hq,I.exit C hq ?_⟩;have h3:=Int.mul_le_mul (a:=q) (b:=v0) (c:=999999999) (d:=999999999) (by omega) (by omega) w0.1 (by omega);omega
theorem ir.of {X V:List Int}{n:Nat}(hX:X.length=n+3)(hV:V.length=n+2)(oX:okW 1000000000 X)(oV:okW 1000000000 V)(hv:500000000<=V[n+1]!)(hT:WV 1000000000 X<1000000000*WV 1000000000 V) :
 ir X[n+2]! X[n+1]! X[n]! V[n+1]! V[n]! (WV 1000000000 X) (WV 1000000000 V) (1000000000^n):=by
 have x2:=cf oX (i:=n+2) (by omega);have x1:=cf oX (i:=n+1) (by omega);have x0:=cf oX (i:=n) (by omega);have v1:=cf oV (i:=n+1) (by omega);have v0:=cf oV (i:=n) (by omega);have eX:WV 1000000000 X=WV 1000000000 (X.take n)+((X[n+2]! * 1000000000+X[n+1]!)*1000000000+X[n]!)*1000000000^n:=by
  rw[iZ (n:=n+2) (by omega),fh (by omega),fh (by omega),Int.pow_succ,Int.pow_succ];grind
 have eV:WV 1000000000 V=WV 1000000000 (V.take n)+(V[n+1]! * 1000000000+V[n]!)*1000000000^n:=by
  rw[iZ (n:=n+1) (by omega),fh (by omega),Int.pow_succ];grind
 have lX:=da (b:=1000000000) (by decide) (dr oX n);have lV:=da (b:=1000000000) (by decide) (dr oV n);have pX:=cC (b:=1000000000) (by decide) (dr oX n);have pV:=cC (b:=1000000000) (by decide) (dr oV n);rw[List.length_take,Nat.min_eq_left (by omega)]at lX lV;have hp:(0:Int)<1000000000^n:=Int.pow_pos (by decide);refine⟨x2.1,x1,x0,⟨hv,v1.2⟩,v0,by omega,by omega,?_,by omega,?_,hT⟩
 . rw[Int.add_mul _ 1,Int.one_mul];omega
 . rw[Int.add_mul _ 1,Int.one_mul];omega
end Go.Ab.bj

/-
  Own work: the reference's integers: the guess of a digit.
-/
namespace Go.Ab.Ch1
open Go.Ab.bj
variable {M:ax} {cap c1 c2:Option Nat}
theorem agN {t m m':Nat}{x:aO}{l:List aU}{pe:List AV}{lo:List (Nat×AV)}{hp:ab}{df wr:List Nat}{L:List Int}{v:Int}{Q:aq->Prop}(hx:(St.mk pe lo hp df).aa x=some (.vp ((al L).drop (m'*1))))(hm:m'=m)(hi:m<L.length)(hv:L[m]! = v)
 (h:WO M l ⟨⟨pe,(t,.iV v)::lo,hp,df⟩,wr⟩ Q):WO M (⟨.l t,.load 1 false x,none⟩::l) ⟨⟨pe,lo,hp,df⟩,wr⟩ Q:=by
 subst hm;subst hv;exact agd (f:=iC) (esz:=1) (c:=L) (i:=m') hx (fun _=>rfl) hi (by decide) rfl h
variable {k j:Nat} {U V:List Int}
theorem adL (hV:V.length=k+2)(hU:j+k+2<U.length)(lU:U.length<100000000){t2 t1 t0 v1 v0 T D p:Int}(K:ir t2 t1 t0 v1 v0 T D p)(ht0:U[j+k]! = t0)(hv1:V[k+1]! = v1)(hv0:V[k]! = v0){Q:Ex->aq->Prop}(a3 a5:AV)
 (hR:∀(q r:Int) lo wr,(0<=q/\q<1000000000)->T<(q+1)*D->(q-1)*D<=T->Q .ret ⟨⟨[.vs (al U) U.length c1,.vs (al V) V.length c2,.iV j,.iV q,.iV V.length,a5,.iV q,.iV r],lo,[],[]⟩,wr⟩)
 (hQ:∀(q r:Int) lo wr,(0<=q/\q<1000000000)->T<(q+1)*D->(q-1)*D<=T->Q (.exit 0) ⟨⟨[.vs (al U) U.length c1,.vs (al V) V.length c2,.iV j,a3,.iV V.length,a5,.iV q,.iV r],lo,[],[]⟩,wr⟩)
 (q r:Int) (lo:List (Nat×AV)) (wr:List Nat) (I:iE t2 t1 v1 T D q r) (hr:r<1000000000) :
 W M (.loop tC) ⟨⟨[.vs (al U) U.length c1,.vs (al V) V.length c2,.iV j,a3,.iV V.length,a5,.iV q,.iV r],lo,[],[]⟩,wr⟩ Q:=by
 refine W.fT (fun m s=>∃q r lo wr,s=⟨⟨[.vs (al U) U.length c1,.vs (al V) V.length c2,.iV j,a3,.iV V.length,a5,.iV q,.iV r],lo,[],[]⟩,wr⟩/\m=q.toNat/\iE t2 t1 v1 T D q r/\r<1000000000) (fun m s ⟨q,r,lo,wr,hs,hm,I,hr⟩=>?_) (m:=q.toNat) ⟨q,r,lo,wr,rfl,rfl,I,hr⟩;subst hs;subst hm;have q0:=I.q0;have r0:=I.r0;have w0:=K.w0;have w1:=K.w1;have h0:=K.h0;have step:(1000000000<=q\/r*1000000000+t0<q*v0)->0<q/\∀lo wr,(r+v1<1000000000->LI (fun s=>∃m',m'<q.toNat/\∃q r lo wr,s=⟨⟨[.vs (al U) U.length c1,.vs (al V) V.length c2,.iV j,a3,.iV V.length,a5,.iV q,.iV r],lo,[],[]⟩,wr⟩/\m'=q.toNat/\iE t2 t1 v1 T D q r/\r<1000000000) Q .normal ⟨⟨[.vs (al U) U.length c1,.vs (al V) V.length c2,.iV j,a3,.iV V.length,a5,.iV (q-1),.iV (r+v1)],lo,[],[]⟩,wr⟩) /\
  (1000000000<=r+v1->Q .ret ⟨⟨[.vs (al U) U.length c1,.vs (al V) V.length c2,.iV j,.iV (q-1),.iV V.length,a5,.iV (q-1),.iV (r+v1)],lo,[],[]⟩,wr⟩):=fun h=>by
  have I2:=I.dec K h;have i0:=I2.q0;refine⟨by omega,fun lo wr=>⟨fun h1=>dE ⟨(q-1).toNat,by omega,_,_,_,_,rfl,rfl,I2,h1⟩,fun h1=>?_⟩⟩;obtain⟨b1,b2⟩:=I2.mF K h1;exact hR _ _ _ _ ⟨i0.1,b1⟩ I2.ge b2
 obtain⟨m,hm⟩:∃m,m=q*v0:=⟨_,rfl⟩;have hmb:0<=m/\m<=1000000001000000001:=by
  rw[hm];refine⟨Int.mul_nonneg q0.1 w0.1,?_⟩;have:=Int.mul_le_mul (a:=q) (b:=v0) (c:=1000000001) (d:=1000000000) (by omega) (by omega) w0.1 (by omega);omega
 by_cases hB:1000000000<=q
 . obtain⟨hq,st⟩:=step (.inl hB);unfold tC;repeat' first|(apply agN (m:=k+1) (v:=v1);rfl;omega;omega;exact hv1)|apply abn|apply aM|apply abp|apply abC|apply ada|apply abS|apply acQ|apply dx|apply gg|apply Il|(apply agL;rfl)|(apply acL;rfl)|(apply acS;rfl)|(apply agM;rfl)|(apply afM;rfl;rfl)|(apply acZ;rfl;rfl)|(apply afC;rfl;rfl;omega)|(apply afD;rfl;rfl;omega)|(apply aga;rfl;rfl;omega)|(apply abg;rfl;rfl)|(apply acn;rfl;rfl)|(intro _;omega)|intro _
   all_goals try omega
   all_goals first|exact(st _ _).1 (by omega)|exact(st _ _).2 (by omega)
 . by_cases ht:r*1000000000+t0<q*v0
   . obtain⟨hq,st⟩:=step (.inr ht);rw[←hm]at ht;rw[hm]at ht hmb;unfold tC;repeat' first|(apply agN (L:=V) (m:=k+1) (v:=v1);rfl;omega;omega;exact hv1)|(apply agN (L:=V) (m:=k) (v:=v0);rfl;omega;omega;exact hv0)|(apply agN (L:=U) (m:=j+k) (v:=t0);rfl;omega;omega;exact ht0)|apply abn|apply aM|apply abp|apply abC|apply ada|apply abS|apply acQ|apply dx|apply gg|apply Il|(apply agL;rfl)|(apply acL;rfl)|(apply acS;rfl)|(apply afN;rfl)|(apply aep;rfl;rfl)|(apply afM;rfl;rfl)|(apply aej;rfl;rfl)|(apply afC;rfl;rfl;omega)|(apply afD;rfl;rfl;omega)|(apply agT;rfl;rfl;omega)|(apply aga;rfl;rfl;omega)|(apply abg;rfl;rfl)|(apply acn;rfl;rfl)|(intro _;omega)|intro _
     all_goals try omega
     all_goals first|exact(st _ _).1 (by omega)|exact(st _ _).2 (by omega)
   . have fin:=I.exit K (by omega) (by omega);rw[hm]at hmb;unfold tC;exact gg8
theorem adM (hft:M.FT=FT)(hV:V.length=k+2)(hU:j+k+2<U.length)(lU:U.length<100000000){t2 t1 t0 v1 v0 T D p:Int}(K:ir t2 t1 t0 v1 v0 T D p)(ht2:U[j+k+2]! = t2)(ht1:U[j+k+1]! = t1)(ht0:U[j+k]! = t0)(hv1:V[k+1]! = v1)(hv0:V[k]! = v0) :
 ∃q:Int,(0<=q/\q<1000000000)/\T<(q+1)*D/\(q-1)*D<=T/\aT M 243 [.vs (al U) U.length c1,.vs (al V) V.length c2,.iV j] [] ⟨.iV q,[],[]⟩:=by
 have h2:=K.h2;have h1:=K.h1;have w1:=K.w1;have h0:=K.h0;have w0:=K.w0;have htop:=K.top;have I:=iE.init K;have r1:=Int.emod_lt_of_pos (t2*1000000000+t1) (show 0<v1 by omega);obtain⟨v,hh,⟨q,rfl,rfl,g1,g2,g3⟩,hr⟩:=gQ (M:=M) (f:=243) (ars:=[.vs (al U) U.length c1,.vs (al V) V.length c2,.iV j]) (P:=fun v hh=>∃q:Int,v = .iV q/\hh=[]/\(0<=q/\q<1000000000)/\T<(q+1)*D/\(q-1)*D<=T) (by rw[hft];exact ads) (by simp) (by
  unfold Nn;simp only[enter];refine gg16 ?_;refine adL hV hU lU K ht0 hv1 hv0 _ _ (fun q r lo wr g1 g2 g3=>?_) (fun q r lo wr g1 g2 g3=>?_) _ _ _ _ I (by omega)
  . exact gg0
  . repeat' first|apply abn|apply aM|apply abp|apply abC|apply abS|apply gh|(apply abg;rfl;rfl)|(apply acn;rfl;rfl)
    all_goals exact⟨.inr rfl,rfl,_,rfl,q,rfl,rfl,g1,g2,g3⟩)
 exact⟨q,g1,g2,g3,hr⟩
end Go.Ab.Ch1

/-
  Own work: the reference's integers: a step of long division: the loops.
-/
namespace Go.Ab.Ch1
open Go.Ab.bj
variable {M:ax} {cap c1 c2 cu:Option Nat}
variable {bu N:Nat} {e:TypeId} {hp:ab} {P S Y V:List Int}
theorem adN (hl:bu<hp.length)(lN:N<100000000)(hN:P.length+V.length<N)(hY:Y.length=V.length)(oY:okW dB Y)(oV:okW dB V)(q:Int)(q0:0<=q/\q<1000000000){Q:Ex->aq->Prop}(a0 a1 a2 a3 a4 a5 a6 aA aF aG aH aI aJ aK:AV)(lo:List (Nat×AV))(wr:List Nat)
 (hQ:∀L (bo:Int) aF aG lo wr,L.length=V.length->okW dB L->(0<=bo/\bo<1000000000)->WV dB L=WV dB Y-q*WV dB V+dB^V.length*bo ->
   Q (.exit 4) ⟨⟨[a0,a1,a2,a3,a4,a5,a6,.vs (al V) V.length c2,.iV V.length,.sl bu 0 N 1 cu,aA,.iV P.length,.iV q,.iV bo,.iV V.length,aF,aG,aH,aI,aJ,aK],lo,cR hp bu e P S L,[]⟩,wr⟩) :
 W M (.loop yu) ⟨⟨[a0,a1,a2,a3,a4,a5,a6,.vs (al V) V.length c2,.iV V.length,.sl bu 0 N 1 cu,aA,.iV P.length,.iV q,.iV 0,.iV 0,aF,aG,aH,aI,aJ,aK],lo,cR hp bu e P S Y,[]⟩,wr⟩ Q:=by
 refine W.iT V.length (fun i s=>∃L bo aF aG lo wr,s=⟨⟨[a0,a1,a2,a3,a4,a5,a6,.vs (al V) V.length c2,.iV V.length,.sl bu 0 N 1 cu,aA,.iV P.length,.iV q,.iV bo,.iV i,aF,aG,aH,aI,aJ,aK],lo,cR hp bu e P S L,[]⟩,wr⟩ /\
  L.length=V.length/\okW dB L/\(0<=bo/\bo<1000000000)/\WV dB L=WV dB Y-q*WV dB (V.take i)+dB^i*bo) (fun i s hi ⟨L,bo,aF,aG,lo,wr,hs,hL,oL,hbo,hv⟩=>?_) (fun s ⟨L,bo,aF,aG,lo,wr,hs,hL,oL,hbo,hv⟩=>?_) (Nat.zero_le _)
  ⟨_,_,_,_,_,_,rfl,hY,oY,⟨by decide,by decide⟩,by simp[WV]⟩
 . subst hs;have gy:=cf oV (i:=i) (by omega);obtain⟨y,hy⟩:∃y,y=V[i]! := ⟨_,rfl⟩;rw[←hy]at gy;have gy:0<=y/\y<1000000000:=gy;have gL:=cf oL (i:=i) (by omega);obtain⟨u,hu⟩:∃u,u=L[i]! := ⟨_,rfl⟩;rw[←hu]at gL;have gL:0<=u/\u<1000000000:=gL;have hm:=ND q0 gy;obtain⟨m,hmm⟩:∃m,m=q*y:=⟨_,rfl⟩;rw[←hmm]at hm;have next:∀(D d:Int) aF aG lo,(0<=D/\D<1000000000)->(0<=d/\d<1000000000)->u-m-bo=d-1000000000*D->LI (fun s=>∃L bo aF aG lo wr,s=⟨⟨[a0,a1,a2,a3,a4,a5,a6,.vs (al V) V.length c2,.iV V.length,.sl bu 0 N 1 cu,aA,.iV P.length,.iV q,.iV bo,.iV ((i+1:Nat):Int),aF,aG,aH,aI,aJ,aK],lo,cR hp bu e P S L,[]⟩,wr⟩ /\
    L.length=V.length/\okW dB L/\(0<=bo/\bo<1000000000)/\WV dB L=WV dB Y-q*WV dB (V.take (i+1))+dB^(i+1)*bo) Q .normal ⟨⟨[a0,a1,a2,a3,a4,a5,a6,.vs (al V) V.length c2,.iV V.length,.sl bu 0 N 1 cu,aA,.iV P.length,.iV q,.iV D,.iV ((i:Int)+1),aF,aG,aH,aI,aJ,aK],lo,cR hp bu e P S (L.set i d),[]⟩,bu::wr⟩:=fun D d aF aG lo hD hd he=>
    dE ⟨_,_,aF,aG,lo,_,rfl,by rw[List.length_set];exact hL,fW oL hd,hD,by
     rw[fX (by omega),←hu,fh (by omega),←hy,hv,Int.pow_succ];have e1:d-u=1000000000*D-q*y-bo:=by rw[←hmm];omega
     rw[e1];show _+dB^i*(1000000000*D-q*y-bo)=_-_+dB^i*1000000000*D;grind⟩
   have hV':V[((i:Int)).toNat]! = y:=hy.symm;rw[hmm]at hm next
   rw[hu]at gL next
   unfold yu;exact gg11
 . subst hs;rw[List.take_length]at hv;unfold yu;exact gg5
theorem adO (hl:bu<hp.length)(lN:N<100000000)(hN:P.length+V.length<N)(hY:Y.length=V.length)(oY:okW dB Y)(oV:okW dB V){Q:Ex->aq->Prop}(a0 a1 a2 a3 a4 a5 a6 aA aC aD aE aF aG aJ aK:AV)(lo:List (Nat×AV))(wr:List Nat)
 (hQ:∀L (ca:Int) aJ lo wr,L.length=V.length->okW dB L->(0<=ca/\ca<=1)->WV dB L+dB^V.length*ca=WV dB Y+WV dB V ->
   Q (.exit 6) ⟨⟨[a0,a1,a2,a3,a4,a5,a6,.vs (al V) V.length c2,.iV V.length,.sl bu 0 N 1 cu,aA,.iV P.length,aC,aD,aE,aF,aG,.iV ca,.iV V.length,aJ,aK],lo,cR hp bu e P S L,[]⟩,wr⟩) :
 W M (.loop yw) ⟨⟨[a0,a1,a2,a3,a4,a5,a6,.vs (al V) V.length c2,.iV V.length,.sl bu 0 N 1 cu,aA,.iV P.length,aC,aD,aE,aF,aG,.iV 0,.iV 0,aJ,aK],lo,cR hp bu e P S Y,[]⟩,wr⟩ Q:=by
 refine W.iT V.length (fun i s=>∃L ca aJ lo wr,s=⟨⟨[a0,a1,a2,a3,a4,a5,a6,.vs (al V) V.length c2,.iV V.length,.sl bu 0 N 1 cu,aA,.iV P.length,aC,aD,aE,aF,aG,.iV ca,.iV i,aJ,aK],lo,cR hp bu e P S L,[]⟩,wr⟩ /\
  L.length=V.length/\okW dB L/\(0<=ca/\ca<=1)/\WV dB L+dB^i*ca=WV dB Y+WV dB (V.take i)) (fun i s hi ⟨L,ca,aJ,lo,wr,hs,hL,oL,hca,hv⟩=>?_) (fun s ⟨L,ca,aJ,lo,wr,hs,hL,oL,hca,hv⟩=>?_) (Nat.zero_le _)
  ⟨_,_,_,_,_,rfl,hY,oY,⟨by decide,by decide⟩,by simp[WV]⟩
 . subst hs;have gy:=cf oV (i:=i) (by omega);obtain⟨y,hy⟩:∃y,y=V[i]! := ⟨_,rfl⟩;rw[←hy]at gy;have gy:0<=y/\y<1000000000:=gy;have gL:=cf oL (i:=i) (by omega);obtain⟨u,hu⟩:∃u,u=L[i]! := ⟨_,rfl⟩;rw[←hu]at gL;have gL:0<=u/\u<1000000000:=gL;have next:∀(D d:Int) aJ lo wr,(0<=D/\D<=1)->(0<=d/\d<1000000000)->u+y+ca=d+1000000000*D->LI (fun s=>∃L ca aJ lo wr,s=⟨⟨[a0,a1,a2,a3,a4,a5,a6,.vs (al V) V.length c2,.iV V.length,.sl bu 0 N 1 cu,aA,.iV P.length,aC,aD,aE,aF,aG,.iV ca,.iV ((i+1:Nat):Int),aJ,aK],lo,cR hp bu e P S L,[]⟩,wr⟩ /\
    L.length=V.length/\okW dB L/\(0<=ca/\ca<=1)/\WV dB L+dB^(i+1)*ca=WV dB Y+WV dB (V.take (i+1))) Q .normal ⟨⟨[a0,a1,a2,a3,a4,a5,a6,.vs (al V) V.length c2,.iV V.length,.sl bu 0 N 1 cu,aA,.iV P.length,aC,aD,aE,aF,aG,.iV D,.iV ((i:Int)+1),aJ,aK],lo,cR hp bu e P S (L.set i d),[]⟩,wr⟩:=fun D d aJ lo wr hD hd he=>
    dE ⟨_,_,aJ,lo,_,rfl,by rw[List.length_set];exact hL,fW oL hd,hD,by
     rw[fX (by omega),←hu,fh (by omega),←hy,Int.pow_succ];have e1:d-u=y+ca-1000000000*D:=by omega
     rw[e1];show WV dB L+dB^i*(y+ca-1000000000*D)+dB^i*1000000000*D=_;grind⟩
   rw[hu]at gL next
   unfold yw;exact gg11
 . subst hs;rw[List.take_length]at hv;unfold yw;exact gg5
end Go.Ab.Ch1

/-
  Own work: the reference's integers: a step of long division, and all of them.
-/
namespace Go.Ab.Ch1
open Go.Ab.bj
variable {M:ax} {cap c1 c2 cu cq:Option Nat}
theorem adP {U V:List Int}{i k:Nat}(hj:i+(k+3)<=U.length)(oU:okW dB U)(hV:V.length=k+2)(oV:okW dB V)(hup:WV dB (U.drop (i+1))<WV dB V) :
 ∃P Y S,U=P++(Y++[U[i+k+2]!])++S/\P.length=i/\Y.length=k+2/\okW dB P/\okW dB Y/\okW dB S/\(0<=U[i+k+2]! /\ U[i+k+2]! < 1000000000)/\WV dB S=0/\WV dB (Y++[U[i+k+2]!])=WV dB (U.drop i)/\WV dB (Y++[U[i+k+2]!])<1000000000*WV dB V:=by
 obtain⟨P,hP⟩:∃P,P=U.take i:=⟨_,rfl⟩;obtain⟨X,hX⟩:∃X,X=(U.drop i).take (k+3):=⟨_,rfl⟩;obtain⟨S,hS⟩:∃S,S=U.drop (i+(k+3)):=⟨_,rfl⟩;have eU:U=P++X++S:=by
  rw[hP,hX,hS,List.append_assoc,←List.drop_drop,List.take_append_drop,List.take_append_drop]
 have lP:P.length=i:=by rw[hP,List.length_take];omega
 have lX:X.length=k+3:=by rw[hX,List.length_take,List.length_drop];omega
 have oX:okW dB X:=by rw[hX];exact dr (iU oU _) _
 have oS:okW dB S:=by rw[hS];exact iU oU _
 have oP:okW dB P:=by rw[hP];exact dr oU _
 have eD:U.drop i=X++S:=by rw[eU,←lP,List.append_assoc,List.drop_left]
 have gj:=cf oU (i:=i) (by omega);have d1:=nY (b:=dB) (l:=U) (i:=i) (by omega);have lt:=da (b:=dB) (by decide) oV;rw[hV]at lt;have hpow:(0:Int)<dB^(k+2):=Int.pow_pos (by decide);have hS0:WV dB S=0:=by
  have h1:WV dB (U.drop (i+1))=WV dB ((U.drop (i+1)).take (k+2))+dB^(k+2)*WV dB S:=by
   have:=lv (b:=dB) (l:=U.drop (i+1)) (i:=k+2) (by rw[List.length_drop];omega);rwa [List.drop_drop,show i+1+(k+2)=i+(k+3) by omega,←hS]at this
  have h2:=cC (b:=dB) (by decide) (dr (iU oU (i+1)) (k+2));have h3:=cC (b:=dB) (by decide) oS;rcases Int.lt_or_le 0 (WV dB S) with h|h
  . have:=Int.mul_le_mul_of_nonneg_left (show 1<=WV dB S by omega) (Int.le_of_lt hpow);omega
  . omega
 have hXD:WV dB X=WV dB (U.drop i):=by rw[eD,fI,hS0,Int.mul_zero,Int.add_zero]
 have hT:WV dB X<1000000000*WV dB V:=by
  rw[hXD,d1];have gj:0<=U[i]! /\ U[i]! < 1000000000:=gj;show _+1000000000*_<1000000000*_;omega
 have hXt:X[k+2]! = U[i+k+2]! := by
  rw[hX];simp only[List.getElem!_eq_getElem?_getD];rw[List.getElem?_take_of_lt (by omega),List.getElem?_drop,Nat.add_assoc]
 have gt:=cf oX (i:=k+2) (by omega);have eX:X=X.take (k+2)++[X[k+2]!]:=by
  have h1:X.take (k+2+1)=X:=List.take_of_length_le (by omega);conv=>lhs;rw[←h1]
  rw[List.take_add_one,List.getElem?_eq_getElem (by omega),getElem!_pos X (k+2) (by omega),Option.toList_some]
 rw[hXt]at eX gt;refine⟨P,X.take (k+2),S,by rw[←eX];exact eU,lP,by rw[List.length_take];omega,oP,dr oX _,oS,gt,hS0,by rw[←eX];exact hXD,by rw[←eX];exact hT⟩
theorem adQ {L V:List Int}{T q d n:Int}{m:Nat}(hn:n=dB^m)(oL:okW dB L)(hL:L.length=m)(oV:okW dB V)(hV:V.length=m)(h:WV dB L+n*d=T-q*WV dB V)(hge:T<(q+1)*WV dB V)(hd:¬d<0):d=0/\WV dB L=T-q*WV dB V/\WV dB L<WV dB V:=by
 subst hn;have lV:=da (b:=dB) (by decide) oV;have l0:=cC (b:=dB) (by decide) oL;have hp:0<dB^m:=Int.pow_pos (by decide);rw[hV]at lV;rw[Int.add_mul,Int.one_mul]at hge;have d0:d=0:=by
  rcases Int.lt_or_le 0 d with h'|h'
  . have:=Int.mul_le_mul_of_nonneg_left (show 1<=d by omega) (Int.le_of_lt hp);omega
  . omega
 subst d0;rw[Int.mul_zero,Int.add_zero]at h;exact⟨rfl,h,by omega⟩
theorem adR {L L2 V:List Int}{T q d n ca:Int}{m:Nat}(hn:n=dB^m)(oL:okW dB L)(hL:L.length=m)(oL2:okW dB L2)(hL2:L2.length=m)(oV:okW dB V)(hV:V.length=m)(h:WV dB L+n*d=T-q*WV dB V)(hle:(q-1)*WV dB V<=T)(hT0:0<=T)(hd:d<0)(q0:0<=q)(h2:WV dB L2+n*ca=WV dB L+WV dB V):1<=q/\d+ca=0/\WV dB L2=T-(q-1)*WV dB V/\WV dB L2<WV dB V:=by
 subst hn;have lL:=da (b:=dB) (by decide) oL;have lL2:=da (b:=dB) (by decide) oL2;have lV:=da (b:=dB) (by decide) oV;have l0:=cC (b:=dB) (by decide) oL2;have hp:0<dB^m:=Int.pow_pos (by decide);rw[hV]at lV;rw[hL]at lL;rw[hL2]at lL2;have hneg:T-q*WV dB V<0:=by
  have:=Int.mul_le_mul_of_nonneg_left (show d <= -1 by omega) (Int.le_of_lt hp);omega
 have q1:1<=q:=by
  rcases Int.lt_or_le 0 q with h'|h'
  . omega
  . obtain rfl:q=0:=by omega
    rw[Int.zero_mul]at hneg;omega
 rw[Int.sub_mul,Int.one_mul]at hle ⊢;have hs:WV dB L2+dB^m*(d+ca)=T-q*WV dB V+WV dB V:=by rw[Int.mul_add];omega
 have d0:d+ca=0:=by
  rcases Int.lt_or_le 0 (d+ca) with h'|h'
  . have:=Int.mul_le_mul_of_nonneg_left (show 1<=d+ca by omega) (Int.le_of_lt hp);omega
  . rcases Int.lt_or_le (d+ca) 0 with h''|h''
    . have:=Int.mul_le_mul_of_nonneg_left (show d+ca <= -1 by omega) (Int.le_of_lt hp);omega
    . omega
 rw[d0,Int.mul_zero,Int.add_zero]at hs;exact⟨q1,d0,by omega,by omega⟩
structure NG (M:ax):Prop where
 ft:M.FT=FT
 dP:∀ars h,M.ext 242 ars h=none
 NH:∀(U V:List Int) (bu i k:Nat) cu c2 e h (T D p:Int),h.at bu=some (.cells (al U) e)->V.length=k+2->i+k+2<U.length->U.length<100000000->ir U[i+k+2]! U[i+k+1]! U[i+k]! V[k+1]! V[k]! T D p->∃q:Int,(0<=q/\q<1000000000)/\T<(q+1)*D/\(q-1)*D<=T/\M.ext 243 [.sl bu 0 U.length 1 cu,.vs (al V) V.length c2,.iV i] h=some ⟨.iV q,h,[]⟩
theorem adS {hp:ab}{b:Nat}{e:TypeId}{P S X U:List Int}(hU:hp.at b=some (.cells (al U) e))(h:U=P++X++S):cR hp b e P S X=hp:=by
 unfold cR;rw[←h];exact Ih hU
theorem adT {hp:ab}{b:Nat}{e:TypeId}{P S X:List Int}(hl:b<hp.length):(cR hp b e P S X).at b=some (.cells (al (P++X++S)) e):=cW hl
theorem EM {hp:ab}{b c:Nat}{e:TypeId}{P S X:List Int}(h:b≠c):(cR hp b e P S X).at c=hp.at c:=wv h
theorem EN {hp:ab}{b:Nat}{e:TypeId}{P S X:List Int}{t:Int}:cR hp b e P (t::S) X=cR hp b e (P++X) S [t]:=by
 unfold cR;rw[show P++X++(t::S)=P++X++[t]++S by simp]
section
variable {t bu m:Nat} {x y:aO} {l:List aU} {pe:List AV} {lo:List (Nat×AV)} {hp:ab} {df wr:List Nat} {P S:List Int} {e:TypeId} {v d:Int} {Q:aq->Prop}
theorem ahN (hx:(St.mk pe lo (cR hp bu e P S [v]) df).aa x=some (.ptr bu m))(hl:bu<hp.length)(hm:m=P.length)
 (h:WO M l ⟨⟨pe,(t,.iV v)::lo,cR hp bu e P S [v],df⟩,wr⟩ Q):WO M (⟨.l t,.load 1 false x,none⟩::l) ⟨⟨pe,lo,cR hp bu e P S [v],df⟩,wr⟩ Q:=
 ahR (i:=0) hx hl Nat.zero_lt_one hm h
theorem ahO (hx:(St.mk pe lo (cR hp bu e P S [v]) df).aa x=some (.ptr bu m))(hy:(St.mk pe lo (cR hp bu e P S [v]) df).aa y=some (.iV d))(hl:bu<hp.length)(hm:m=P.length)
 (h:WO M l ⟨⟨pe,lo,cR hp bu e P S [d],df⟩,bu::wr⟩ Q):WO M (⟨.no,.store 1 x y,none⟩::l) ⟨⟨pe,lo,cR hp bu e P S [v],df⟩,wr⟩ Q:=
 ahS (i:=0) hx hy hl Nat.zero_lt_one hm h
end
end Go.Ab.Ch1

/-
  Own work: the reference's integers: long division: all steps.
-/
namespace Go.Ab.Ch1
open Go.Ab.bj
variable {M:ax} {cap c1 c2 cu cq:Option Nat}
theorem adU (C:NG M){k N bu bq bf:Nat}{V U0:List Int}{fb:bC}(hbq:bu≠bq)(hbf:bu≠bf/\bq≠bf)(lN:N<100000000)(hN:k+3<=N)(hV:V.length=k+2)(oV:okW dB V)(hv:500000000<=V[k+1]!)(hU0:U0.length=N)(oU0:okW dB U0)(hup:WV dB (U0.drop (N-(k+2)))<WV dB V){Q:Ex->aq->Prop}(a0 a1 a2 a3 a4 a5 a6:AV)
 (hQ:∀U L K aC aD aE aF aG aH aI aJ aK lo wr,U.length=N->okW dB U->L.length=N-(k+2)->okW dB L->WV dB U0=WV dB V*WV dB L+WV dB U->WV dB U<WV dB V->ab.at K bu=some (.cells (al U) 3)->ab.at K bq=some (.cells (al L) 3)->ab.at K bf=some fb ->
   Q (.exit 2) ⟨⟨[a0,a1,a2,a3,a4,a5,a6,.vs (al V) V.length c2,.iV V.length,.sl bu 0 N 1 cu,.sl bq 0 (N-(k+2)) 1 cq,.iV (-1),aC,aD,aE,aF,aG,aH,aI,aJ,aK],lo,K,[]⟩,wr⟩)
 (aC aD aE aF aG aH aI aJ aK:AV) (K:ab) (lo:List (Nat×AV)) (wr:List Nat) (hKu:K.at bu=some (.cells (al U0) 3)) (hKq:K.at bq=some (.cells (al (List.replicate (N-(k+2)) 0)) 3)) (hKf:K.at bf=some fb) (j:Int) (hj:j=(N:Int)-(k+3)) :
 W M (.loop yx) ⟨⟨[a0,a1,a2,a3,a4,a5,a6,.vs (al V) V.length c2,.iV V.length,.sl bu 0 N 1 cu,.sl bq 0 (N-(k+2)) 1 cq,.iV j,aC,aD,aE,aF,aG,aH,aI,aJ,aK],lo,K,[]⟩,wr⟩ Q:=by
 refine W.fT (fun t s=>∃U L K iv aC aD aE aF aG aH aI aJ aK lo wr,s=⟨⟨[a0,a1,a2,a3,a4,a5,a6,.vs (al V) V.length c2,.iV V.length,.sl bu 0 N 1 cu,.sl bq 0 (N-(k+2)) 1 cq,.iV iv,aC,aD,aE,aF,aG,aH,aI,aJ,aK],lo,K,[]⟩,wr⟩ /\
  iv=(t:Int)-1/\t<=N-(k+2)/\U.length=N/\okW dB U/\L.length=N-(k+2)/\okW dB L/\(∀k,k<t->L[k]! = 0)/\WV dB U0=WV dB V*WV dB L+WV dB U/\WV dB (U.drop t)<WV dB V/\ab.at K bu=some (.cells (al U) 3)/\ab.at K bq=some (.cells (al L) 3)/\ab.at K bf=some fb) (fun t s ⟨U,L,K,iv,aC,aD,aE,aF,aG,aH,aI,aJ,aK,lo,wr,hs,hiv,ht,hU,oU,hL,oL,hz,hv1,hv2,hKu,hKq,hKf⟩=>?_) (m:=N-(k+2))
  ⟨_,_,_,_,_,_,_,_,_,_,_,_,_,_,_,rfl,by omega,Nat.le_refl _,hU0,oU0,by simp,kl (by decide),fun k _=>ko,by rw[km,Int.mul_zero,Int.zero_add],hup,hKu,hKq,hKf⟩
 subst hs;cases t with
 | zero=>
  obtain rfl:iv = -1:=by omega
  unfold yx;exact gg8
 | succ i=>
  obtain rfl:iv=(i:Int):=by omega
  obtain⟨P,Y,S,eU,lP,lY,oP,oY,oS,gt,hS0,hXD,hT⟩:=adP (i:=i) (by omega) oU hV oV hv2;obtain⟨t2,ht2⟩:∃t2,t2=U[i+k+2]! := ⟨_,rfl⟩;rw[←ht2]at eU gt hXD hT;have oX:okW dB (Y++[t2]):=jj oY (fun x hx=>by rw[List.mem_singleton.1 hx];exact gt);have lX:(Y++[t2]).length=k+3:=by simp[lY]
  have K3:=ir.of lX hV oX oV hv hT;have gX:∀m,m<k+3->(Y++[t2])[m]! = U[i+m]! := fun m hm=>by
   have:=Ci (P:=P) (X:=Y++[t2]) (S:=S) (i:=m) (by omega);rw[←eU,lP]at this;exact this.symm
  rw[gX _ (by omega),gX _ (by omega),gX _ (by omega),←Nat.add_assoc,←Nat.add_assoc]at K3;obtain⟨q,q0,hge,hle,q243⟩:=C.NH U V bu i k cu c2 3 K _ _ _ hKu hV (by omega) (by omega) K3;rw[hU]at q243;have hT0:0<=WV dB (Y++[t2]):=cC (by decide) oX;have hkl:=eE hKu;have hkq:=eE hKq;have hself:cR K bu 3 P (t2::S) Y=K:=adS hKu (by rw[eU];simp);have vX:WV dB (Y++[t2])=WV dB Y+dB^V.length*t2:=by rw[fI,lY,hV];simp[WV]
  have lYV:Y.length=V.length:=by omega
  have hPN:P.length+V.length<N:=by omega
  have eI:0+((i:Int)).toNat*1=i:=by omega
  have hiP:(i:Int)=(P.length:Int):=by omega
  have fin:∀(q' d:Int) L2 K' aC aD aE aF aG aH aI aJ aK lo wr,(0<=q'/\q'<1000000000)->L2.length=V.length->okW dB L2->d=0->WV dB L2=WV dB (Y++[t2])-q'*WV dB V->WV dB L2<WV dB V->K'=(cR K bu 3 (P++L2) S [d]).put bq (some (.cells (al (L.set i q')) 3)) ->
   LI (fun s=>∃m',m'<i+1/\∃U L K iv aC aD aE aF aG aH aI aJ aK lo wr,s=⟨⟨[a0,a1,a2,a3,a4,a5,a6,.vs (al V) V.length c2,.iV V.length,.sl bu 0 N 1 cu,.sl bq 0 (N-(k+2)) 1 cq,.iV iv,aC,aD,aE,aF,aG,aH,aI,aJ,aK],lo,K,[]⟩,wr⟩ /\
    iv=(m':Int)-1/\m'<=N-(k+2)/\U.length=N/\okW dB U/\L.length=N-(k+2)/\okW dB L/\(∀k,k<m'->L[k]! = 0)/\WV dB U0=WV dB V*WV dB L+WV dB U/\WV dB (U.drop m')<WV dB V/\ab.at K bu=some (.cells (al U) 3)/\ab.at K bq=some (.cells (al L) 3)/\ab.at K bf=some fb) Q .normal ⟨⟨[a0,a1,a2,a3,a4,a5,a6,.vs (al V) V.length c2,.iV V.length,.sl bu 0 N 1 cu,.sl bq 0 (N-(k+2)) 1 cq,.iV ((P.length:Int)-1),aC,aD,aE,aF,aG,aH,aI,aJ,aK],lo,K',[]⟩,wr⟩:=fun q' d L2 K' aC aD aE aF aG aH aI aJ aK lo wr hq' hL2 oL2 hd vL2 hlt hK'=>by
   subst hd;subst hK';have hl1:bu<(cR K bu 3 (P++L2) S [0]).length:=by rw[Ns];exact hkl
   have hl2:bq<(cR K bu 3 (P++L2) S [0]).length:=by rw[Ns];exact hkq
   have e0:WV dB ([0]++S)=0:=by rw[List.singleton_append,WV,hS0];rfl
   have vU':WV dB (P++L2++[0]++S)=WV dB P+dB^i*WV dB L2:=by
    rw[List.append_assoc,fI,e0,Int.mul_zero,Int.add_zero,fI,lP]
   have vU:WV dB U=WV dB P+dB^i*WV dB (Y++[t2]):=by
    rw[eU,fI,hS0,Int.mul_zero,Int.add_zero,fI,lP]
   have lU':(P++L2++[0]++S).length=N:=by
    have h1:=congrArg List.length eU;simp only[List.length_append,List.length_cons,List.length_nil]at h1 ⊢;omega
   refine dE ⟨i,Nat.lt_succ_self i,P++L2++[0]++S,L.set i q',_,_,aC,aD,aE,aF,aG,aH,aI,aJ,aK,lo,wr,rfl,by omega,by omega,lU',jj (jj (jj oP oL2) (fun x hx=>by rw[List.mem_singleton.1 hx];exact⟨by decide,by decide⟩)) oS,by rw[List.length_set];exact hL,fW oL hq',fun k hk=>by rw[gI (by omega)];exact hz k (by omega),?_,?_,?_,?_,?_⟩
   . rw[fX (by omega),hz i (by omega),Int.sub_zero,vU',hv1,vU,vL2,Int.mul_add,Int.mul_sub];have e3:WV dB V*(dB^i*q')=dB^i*(q'*WV dB V):=by rw[←Int.mul_assoc,Int.mul_comm (WV dB V),Int.mul_assoc,Int.mul_comm (WV dB V)]
     rw[e3];omega
   . rw[←lP,List.append_assoc,List.append_assoc,List.drop_left,fI,e0,Int.mul_zero,Int.add_zero];exact hlt
   . rw[wv (Ne.symm hbq)];rw[adT hkl]
   . exact cW hl2
   . rw[wv hbf.2,EM hbf.1];exact hKf
  rw[hiP]at q243;have hQK:=hself;unfold yx;rw[hiP];refine gg17 ?_;rw[←hself];refine adN (c2:=c2) (cu:=cu) hkl lN hPN lYV oY oV q q0 _ _ _ _ _ _ _ _ _ _ _ _ _ _ _ _ (fun L1 bo aF aG lo wr hL1 oL1 hbo hv3=>?_);have hmv:=EN (hp:=K) (b:=bu) (e:=3) (P:=P) (S:=S) (X:=L1) (t:=t2);rw[hmv];have eq1:WV dB L1+dB^V.length*(t2-bo)=WV dB (Y++[t2])-q*WV dB V:=by
   rw[hv3,vX,Int.mul_sub];omega
  have lPL:(P++L1).length=P.length+V.length:=by rw[List.length_append,hL1]
  by_cases hd:t2-bo<0
  . refine gg16 ?_;have hmv2:=EN (hp:=K) (b:=bu) (e:=3) (P:=P) (S:=S) (X:=L1) (t:=t2-bo);rw[←hmv2];refine adO (c2:=c2) (cu:=cu) hkl lN hPN hL1 oL1 oV _ _ _ _ _ _ _ _ _ _ _ _ _ _ _ _ _ (fun L2 ca aJ lo wr hL2 oL2 hca hv4=>?_);have hmv3:=EN (hp:=K) (b:=bu) (e:=3) (P:=P) (S:=S) (X:=L2) (t:=t2-bo);rw[hmv3];have lPL2:(P++L2).length=P.length+V.length:=by rw[List.length_append,hL2]
    obtain⟨q1,hz0,vL2,hlt⟩:=adR rfl oL1 hL1 oL2 hL2 oV rfl eq1 hle hT0 hd q0.1 hv4;have hq2:(cR K bu 3 (P++L2) S [t2-bo+ca]).at bq=some (.cells (al L) 3):=by rw[EM hbq];exact hKq
    have eP:0+((P.length:Int)).toNat*1=i:=by omega
    exact gg5
  . obtain⟨hz0,vL1,hlt⟩:=adQ rfl oL1 hL1 oV rfl eq1 hge hd;have hq2:(cR K bu 3 (P++L1) S [t2-bo]).at bq=some (.cells (al L) 3):=by rw[EM hbq];exact hKq
    have eP:0+((P.length:Int)).toNat*1=i:=by omega
    exact gg5
end Go.Ab.Ch1

/-
  Own work: the reference's integers: quotient and rest.
-/
namespace Go.Ab.Ch1
open Go.Ab.bj
variable {M:ax} {cap c1 c2 cu cq:Option Nat}
theorem EO {h:ab}(l:List Int):rU h (al l):=vy (fun _=>.cons (.atom rfl) .nil) l
theorem yC {h:ab}{l:List Int}{n:Nat}:cZ h (.vs (al l) n cap) (.vs (al l) n cap):=cZ.mA (EO l)
theorem EP {h:ab}{b n:Nat}{L:List Int}{e:TypeId}(hb:h.at b=some (.cells (al L) e))(hn:n<=L.length):cZ h (.sl b 0 n 1 cap) (.vs (al (L.take n)) (L.take n).length none):=by
 have hl:(L.take n).length=n:=by rw[List.length_take];omega
 rw[hl];refine .sl (m:=al (L.take n)) hb ?_ rfl fun i x y hx hy=>?_
 . have:=kj (f:=iC) (esz:=1) (fun _=>rfl) (l:=L) (i:=0) (n:=n) (by omega);simpa using this
 . rw[hx]at hy;cases hy;obtain⟨z,hz⟩:∃z,x = .iV z:=by
    have hm:=List.mem_of_getElem? hx;have:∀l:List Int,∀x∈al l,∃z,x = .iV z:=by
     intro l;induction l with
     | nil=>intro x hx;cases hx
     | cons a l ih=>
      intro x hx;have:al (a::l) = .iV a::al l:=rfl;rw[this]at hx;rcases List.mem_cons.1 hx with rfl|hx
      . exact⟨a,rfl⟩
      . exact ih x hx
    exact this _ _ hm
   subst hz;exact .atom rfl
structure NI (M:ax):Prop extends NG M where
 tI:∀(a b:List Int) c1 c2 h,okW dB a->okW dB b->aN a->aN b->a.length<1000000000->b.length<1000000000->M.ext 218 [.vs (al a) a.length c1,.vs (al b) b.length c2] h=some ⟨.iV (bh (WV dB a-WV dB b)),h,[]⟩
 qR:∀(x y:AV) (a b:List Int) c1 c2 h,cZ h x (.vs (al a) a.length c1)->cZ h y (.vs (al b) b.length c2)->okW dB a->okW dB b->a.length<10000000->b.length<10000000->0<a.length+b.length->∃r,okW dB r/\aN r/\WV dB r=WV dB a*WV dB b/\M.ext 197 [x,y] h=some ⟨.vs (al r) r.length none,h,[]⟩
 ET:∀(x:AV) (a:List Int) c h (d:Int),cZ h x (.vs (al a) a.length c)->okW dB a->a.length<10000000->(0<d/\d<=1000000000)->∃q,okW dB q/\aN q/\WV dB q=WV dB a/d/\M.ext 241 [x,.iV d] h=some ⟨.au [.vs (al q) q.length none,.iV (WV dB a%d)],h,[]⟩
theorem adV {t f r:Int}(ht:1<=t/\t<1000000000)(hf:(t+1)*f+r=1000000000)(hr:0<=r/\r<t+1):1<=f/\f<=500000000/\500000000<=t*f:=by
 have e:(t+1)*f=t*f+f:=by rw[Int.add_mul,Int.one_mul]
 have f0:1<=f:=by
  rcases Int.lt_or_le f 1 with h|h
  . have:=Int.mul_le_mul_of_nonneg_left (show f<=0 by omega) (show 0<=t+1 by omega);rw[Int.mul_zero]at this;omega
  . exact h
 have h2:2*f<=(t+1)*f:=Int.mul_le_mul_of_nonneg_right (by omega) (by omega);refine⟨f0,by omega,?_⟩;by_cases hbig:500000000<=t
 . have:=Int.mul_le_mul_of_nonneg_left f0 (show 0<=t by omega);omega
 . have f2:2<=f:=by
    rcases Int.lt_or_le f 2 with h|h
    . obtain rfl:f=1:=by omega
      omega
    . exact h
   have h3:=Int.mul_nonneg (show 0<=t-1 by omega) (show 0<=f-2 by omega);have e3:(t-1)*(f-2)=t*f-2*t-f+2:=by grind
   rw[e3]at h3;by_cases r2:2<=r
   . omega
   . by_cases r0:r=0
     . subst r0;omega
     . have r1:r=1:=by omega
       subst r1;by_cases t1:t=1
       . subst t1;omega
       . have h4:3*f<=(t+1)*f:=Int.mul_le_mul_of_nonneg_right (by omega) (by omega);omega
theorem adW {b V:List Int}{k:Nat}{f:Int}(hb:b.length=k+2)(ob:okW dB b)(hf:1<=f)(hth:500000000<=b[k+1]! * f)(htf:(b[k+1]! + 1)*f<=1000000000)(oV:okW dB V)(nV:aN V)(vV:WV dB V=WV dB b*f):V.length=k+2/\500000000<=V[k+1]! := by
 have e0:=iZ (b:=dB) (l:=b) (n:=k+1) (by omega);have l0:=cC (b:=dB) (by decide) (dr ob (k+1));have l1:=da (b:=dB) (by decide) (dr ob (k+1));rw[List.length_take,Nat.min_eq_left (by omega)]at l1;have hP:0<dB^(k+1):=Int.pow_pos (by decide);obtain⟨t,ht⟩:∃t,t=b[k+1]! := ⟨_,rfl⟩;rw[←ht]at e0 hth htf;have m1:dB^(k+1)*500000000<=WV dB V:=by
  have h1:=Int.mul_le_mul_of_nonneg_left hth (Int.le_of_lt hP);have h2:=Int.mul_nonneg l0 (show 0<=f by omega);rw[vV,e0,Int.add_mul,Int.mul_assoc];omega
 have m2:WV dB V<dB^(k+1)*1000000000:=by
  have h1:=Int.mul_le_mul_of_nonneg_left htf (Int.le_of_lt hP);have h2:=Int.mul_lt_mul_of_pos_right l1 (show 0<f by omega);rw[Int.add_mul,Int.one_mul,Int.mul_add]at h1;rw[vV,e0,Int.add_mul,Int.mul_assoc];omega
 have hPs:dB^(k+2)=dB^(k+1)*1000000000:=Int.pow_succ _ _;have hlen:V.length<=k+2:=fJ (b:=dB) (by decide) oV nV (by rw[hPs];exact m2);have hlen2:k+2<=V.length:=by
  rcases Nat.lt_or_ge V.length (k+2) with h|h
  . have h1:=da (b:=dB) (by decide) oV;have h2:=fP (b:=dB) (by decide) (show V.length<=k+1 by omega);omega
  . exact h
 have hl:V.length=k+2:=by omega
 refine⟨hl,?_⟩;have e1:=iZ (b:=dB) (l:=V) (n:=k+1) (by omega);have g1:=da (b:=dB) (by decide) (dr oV (k+1));rw[List.length_take,Nat.min_eq_left (by omega)]at g1;have:dB^(k+1)*500000000<dB^(k+1)*(V[k+1]! + 1):=by rw[Int.mul_add,Int.mul_one];omega
 have:=Int.lt_of_mul_lt_mul_left this (Int.le_of_lt hP);omega
theorem adX {a b U:List Int}{k:Nat}{f:Int}(hf:0<f)(ha:k+2<=a.length)(oa:okW dB a)(hb:b.length=k+2)(ob:okW dB b)(nb:aN b)(hU:U.length=a.length+1)(oU:okW dB U)(vU:WV dB U=WV dB a*f) :
 WV dB (U.drop (a.length+1-(k+2)))<WV dB b*f:=by
 have e1:=lv (b:=dB) (l:=U) (i:=a.length+1-(k+2)) (by omega);have l0:=cC (b:=dB) (by decide) (dr oU (a.length+1-(k+2)));have l1:=da (b:=dB) (by decide) oa;have hg:=qi (b:=dB) (by decide) ob nb (by omega);rw[hb,show k+2-1=k+1 by omega]at hg;have hP:0<dB^(a.length+1-(k+2)):=Int.pow_pos (by decide);have ep:dB^a.length=dB^(a.length+1-(k+2))*dB^(k+1):=by rw[←Int.pow_add,show a.length+1-(k+2)+(k+1)=a.length by omega]
 have m1:=Int.mul_lt_mul_of_pos_right l1 hf;have m2:=Int.mul_le_mul_of_nonneg_right hg (Int.le_of_lt hf);rw[ep,Int.mul_assoc]at m1;have:dB^(a.length+1-(k+2))*WV dB (U.drop (a.length+1-(k+2)))<dB^(a.length+1-(k+2))*(dB^(k+1)*f):=by omega
 have:=Int.lt_of_mul_lt_mul_left this (Int.le_of_lt hP);omega
theorem adY {a A:List Int}{f:Int}(hf:1<=f/\f<=500000000)(oa:okW dB a)(na:aN a)(ha:a≠[])(oA:okW dB A)(nA:aN A)(vA:WV dB A=WV dB a*f):A≠[]/\A.length<=a.length+1:=by
 have p:=(iW (b:=dB) (by decide) oa na).2 ha;have hp:0<WV dB a*f:=Int.mul_pos p (by omega);refine⟨fun e=>by rw[e]at vA;simp[WV]at vA;omega,fJ (b:=dB) (by decide) oA nA ?_⟩;have l1:=da (b:=dB) (by decide) oa;have h1:=Int.mul_lt_mul_of_pos_right l1 (show 0<f by omega);have h2:=Int.mul_le_mul_of_nonneg_left (show f<=1000000000 by omega) (Int.le_of_lt (Int.pow_pos (n:=dB) (m:=a.length) (by decide)));have h3:dB^(a.length+1)=dB^a.length*1000000000:=Int.pow_succ _ _;omega
end Go.Ab.Ch1

/-
  Own work: the reference's integers: quotient and rest: the whole function.
-/
namespace Go.Ab.Ch1
open Go.Ab.bj
variable {M:ax} {cap c1 c2 cu cq:Option Nat}
theorem adZ {a A:List Int}(la:a.length<1000000)(hA:A.length<=a.length+1){Q:Ex->aq->Prop}{fb:bC}(a1 a2 a3 a4 a5 a6 a7 a8 aA aB aC aD aE aF aG aH aI aJ aK:AV)
 (hQ:∀o K lo wr,cF iC 1 3 K o (A++List.replicate (a.length+1-A.length) 0) [0]->ab.at K 0=some fb->Q (.exit 0) ⟨⟨[.vs (al a) a.length c1,a1,a2,a3,a4,a5,a6,a7,a8,o,aA,aB,aC,aD,aE,aF,aG,aH,aI,aJ,aK],lo,K,[]⟩,wr⟩)
 (o:AV) (K:ab) (lo:List (Nat×AV)) (wr:List Nat) (ho:cF iC 1 3 K o A [0]) (hK:K.at 0=some fb) :
 W M (.loop yt) ⟨⟨[.vs (al a) a.length c1,a1,a2,a3,a4,a5,a6,a7,a8,o,aA,aB,aC,aD,aE,aF,aG,aH,aI,aJ,aK],lo,K,[]⟩,wr⟩ Q:=by
 refine W.fT (fun m st=>∃d o K lo wr,st=⟨⟨[.vs (al a) a.length c1,a1,a2,a3,a4,a5,a6,a7,a8,o,aA,aB,aC,aD,aE,aF,aG,aH,aI,aJ,aK],lo,K,[]⟩,wr⟩/\A.length+d+m=a.length+1/\cF iC 1 3 K o (A++List.replicate d 0) [0]/\ab.at K 0=some fb)
  (fun m st ⟨d,o,K,lo,wr,hst,hm,ho,hK⟩=>?_) (m:=a.length+1-A.length) ⟨0,o,K,lo,wr,rfl,by omega,by simpa using ho,hK⟩
 subst hst;have hlen:(A++List.replicate d (0:Int)).length=A.length+d:=by simp
 have hsl:∃b cp,o = .ae/\A.length+d=0\/o = .sl b 0 (A++List.replicate d (0:Int)).length 1 cp:=by
  rcases ho with ⟨h1,h2⟩|⟨c,cp,_,h2,_,_⟩
  . exact⟨0,none,.inl ⟨h2,by rw[←hlen,h1];rfl⟩⟩
  . exact⟨c,cp,.inr h2⟩
 have hroom:((A++List.replicate d (0:Int)).length+1)*8<=dG:=by rw[hlen];unfold dG;omega
 have hK1:=eE hK;have next:∀H o' lo w',cF iC 1 3 H o' (A++List.replicate d 0++[0]) [0]->ab.at H 0=some fb->0<m->LI (fun st=>∃m',m'<m/\∃d o K lo wr,st=⟨⟨[.vs (al a) a.length c1,a1,a2,a3,a4,a5,a6,a7,a8,o,aA,aB,aC,aD,aE,aF,aG,aH,aI,aJ,aK],lo,K,[]⟩,wr⟩/\A.length+d+m'=a.length+1/\cF iC 1 3 K o (A++List.replicate d 0) [0]/\ab.at K 0=some fb) Q .normal ⟨⟨[.vs (al a) a.length c1,a1,a2,a3,a4,a5,a6,a7,a8,o',aA,aB,aC,aD,aE,aF,aG,aH,aI,aJ,aK],lo,H,[]⟩,w'⟩:=fun H o' lo w' h1 h2 h3=>
  dE ⟨m-1,by omega,d+1,o',H,lo,w',rfl,by omega,by rw[List.append_assoc,←List.replicate_succ']at h1;exact h1,h2⟩
 have stop:∀lo wr,m=0->Q (.exit 0) ⟨⟨[.vs (al a) a.length c1,a1,a2,a3,a4,a5,a6,a7,a8,o,aA,aB,aC,aD,aE,aF,aG,aH,aI,aJ,aK],lo,K,[]⟩,wr⟩:=fun lo wr h=>by
  have:d=a.length+1-A.length:=by omega
  subst this;exact hQ o K lo wr ho hK
 obtain⟨b,cp,⟨rfl,hz⟩|rfl⟩:=hsl
 . unfold yt;exact gg8
 . unfold yt;repeat' first|(refine cF.app (f:=iC) (m:=[(0:Int)]) (S:=[0]) (fun _=>rfl) (fun _=>rfl) (by decide) (ho.grow [_]) (by simp) rfl rfl (Sl.iN (f:=iC) (esz:=1) (l:=[(0:Int)]) (e:=3) (fun _=>rfl) bX rfl) hroom (fun H w' o' ho' hk hlen=>?_))|apply abn|apply aM|apply abp|apply abC|apply ada|apply agP|apply acQ|apply jX|apply dx|apply nf|(apply acL;rfl)|(apply acS;rfl)|(apply adf;rfl;rfl)|(apply afC;rfl;rfl;omega)|(apply acT;rfl;rfl;rfl)|(apply abg;rfl;rfl)|(apply acn;rfl;rfl)|(intro _;omega)|intro _
   all_goals try omega
   all_goals first|exact next _ _ _ _ ho' (hk 0 _ (by simp) (bS hK)) (by omega)|exact stop _ _ (by omega)
theorem aea {h:ab}{b m:Nat}{U:List Int}{e:TypeId}(hb:h.at b=some (.cells (al U) e))(hm:m<=U.length):cZ h (bD b m none) (.vs (al (U.take m)) (U.take m).length none):=by
 rcases Nat.eq_zero_or_pos m with rfl|h0
 . rw[tE];exact yC (l:=[]) (n:=0)
 . rw[show bD b m none = .sl b 0 m 1 none from if_pos h0];exact EP hb hm
theorem jl.mix {d1:Option Nat}{b1:Nat}{L1 R:List Int}{e1:TypeId}{hp:ab}{n1:Nat}(h1:hp.at b1=some (.cells (al L1) e1))(hn1:n1<=L1.length) :
 jl (aW [bD b1 (aQ (L1.take n1)) d1,.vs (al R) R.length none]) (if (aW [bD b1 (aQ (L1.take n1)) d1,.vs (al R) R.length none]).top<=0 then [] else hp) (L1.take (aQ (L1.take n1))) R:=by
 obtain⟨x,hx⟩:∃x,x=bD b1 (aQ (L1.take n1)) d1:=⟨_,rfl⟩;obtain⟨hh,hhh⟩:∃hh,hh=(if (aW [x,.vs (al R) R.length none]).top<=0 then [] else hp):=⟨_,rfl⟩;have et:(aW [x,.vs (al R) R.length none]).top=max x.top (max (br (al R)) 0):=rfl;rw[fk]at et;obtain⟨v1,f1,t1,k1⟩:=EH (cap:=d1) h1 hn1 hh (fun h=>by rw[hhh,if_neg];rw[←hx]at h;omega);rw[←hx,←hhh];rw[←hx]at f1;refine⟨.au [v1,.vs (al R) R.length none],_,_,.au rfl (fun i a b ha hb=>?_),?_,?_,.inl rfl,.inl rfl⟩
 . match i with
   | 0=>cases ha;cases hb;exact f1
   | 1=>cases ha;cases hb;exact .same (fk R)
   | i+2=>cases ha
 . show max v1.top (max (br (al R)) 0)=0;rw[t1,fk];rfl
 . simp only[bO,cP,k1,oZ]
theorem jl.aeb {d1:Option Nat}{b1:Nat}{L1 R:List Int}{e1:TypeId}{hp:ab}{n1:Nat}(h1:hp.at b1=some (.cells (al L1) e1))(hn1:n1<=L1.length) :
 jl (aW [.vs (al R) R.length none,bD b1 (aQ (L1.take n1)) d1]) (if (aW [.vs (al R) R.length none,bD b1 (aQ (L1.take n1)) d1]).top<=0 then [] else hp) R (L1.take (aQ (L1.take n1))):=by
 obtain⟨x,hx⟩:∃x,x=bD b1 (aQ (L1.take n1)) d1:=⟨_,rfl⟩;obtain⟨hh,hhh⟩:∃hh,hh=(if (aW [.vs (al R) R.length none,x]).top<=0 then [] else hp):=⟨_,rfl⟩;have et:(aW [.vs (al R) R.length none,x]).top=max (br (al R)) (max x.top 0):=rfl;rw[fk]at et;obtain⟨v1,f1,t1,k1⟩:=EH (cap:=d1) h1 hn1 hh (fun h=>by rw[hhh,if_neg];rw[←hx]at h;omega);rw[←hx,←hhh];rw[←hx]at f1;refine⟨.au [.vs (al R) R.length none,v1],_,_,.au rfl (fun i a b ha hb=>?_),?_,?_,.inl rfl,.inl rfl⟩
 . match i with
   | 0=>cases ha;cases hb;exact .same (fk R)
   | 1=>cases ha;cases hb;exact f1
   | i+2=>cases ha
 . show max (br (al R)) (max v1.top 0)=0;rw[t1,fk];rfl
 . simp only[bO,cP,k1,oZ]
theorem NJ {L:List Int}{n:Nat}:L.take (aQ (L.take n))=(L.take n).take (aQ (L.take n)):=by
 have h:=ik (l:=L.take n);rw[List.length_take]at h;rw[List.take_take,Nat.min_eq_left (by omega)]
theorem aiD {t:Nat}{x y:aO}{l:List aU}{pe:List AV}{lo:List (Nat×AV)}{hp:ab}{df wr:List Nat}{a d v:Int}{Q:aq->Prop}(hx:(St.mk pe lo hp df).aa x=some (.iV a))(hy:(St.mk pe lo hp df).aa y=some (.iV d))(ha:0<=a/\a<9223372036854775808)(hd:0<d)(hv:a/d=v)
 (h:WO M l ⟨⟨pe,(t,.iV v)::lo,hp,df⟩,wr⟩ Q):WO M (⟨.l t,.bin .quo x y,none⟩::l) ⟨⟨pe,lo,hp,df⟩,wr⟩ Q:=by
 subst hv;exact ahh hx hy ha hd h
theorem NK (C:NI M)(a b:List Int)(oa:okW dB a)(ob:okW dB b)(na:aN a)(nb:aN b)(la:a.length<100000)(lb:b.length<100000)(hb:b≠[]):Nt M 195 [.vs (al a) a.length c1,.vs (al b) b.length c2] (WV dB a) (WV dB b):=by
 have a0:=cC (b:=dB) (by decide) oa;have b0:=(iW (b:=dB) (by decide) ob nb).2 hb;have q218:=fun h=>C.tI a b c1 c2 h oa ob na nb (by omega) (by omega)
 refine adC (by rw[C.ft];exact Nk) (by simp) ?_;unfold Ez;simp only[enter];by_cases hlt:WV dB a<WV dB b
 . have e:bh (WV dB a-WV dB b) = -1:=if_pos (by omega);rw[e]at q218;exact gg10
 obtain⟨g,hg⟩:∃g,g=bh (WV dB a-WV dB b):=⟨_,rfl⟩;have g0:0<=g:=by
  rw[hg];unfold bh;split
  . omega
  . split <;> omega
 rw[←hg]at q218;have lb0:b.length≠0:=fun h=>hb (List.eq_nil_of_length_eq_zero h)
 by_cases hl1:b.length=1
 . have t0:=lC nb (by omega);rw[hl1,show 1-1=0 by omega]at t0;have gb:=cf ob (i:=0) (by omega);have vb:WV dB b=b[0]! := by
    have:=iZ (b:=dB) (l:=b) (n:=0) (by omega);simpa[WV] using this
   have gb2:0<b[0]! /\ b[0]! < 1000000000:=⟨by omega,gb.2⟩;obtain⟨Q,oQ,nQ,vQ,q241⟩:=C.ET (.vs (al a) a.length c1) a c1 [] b[0]! yC oa (by omega) ⟨gb2.1,by omega⟩;have r0:=Int.emod_nonneg (WV dB a) (show b[0]! ≠ 0 by omega);have r1:=Int.emod_lt_of_pos (WV dB a) gb2.1;obtain⟨re,hre⟩:∃re,re=WV dB a%b[0]! := ⟨_,rfl⟩;rw[←hre]at q241 r0 r1;have e0:b[(0:Int).toNat]! = b[0]! := rfl;have q2:CT M (iq 242) [.sl 0 0 1 1 (some 1)] [some (.cells (al [re]) 3)] ⟨bD 0 (aQ ([re].take 1)) (some 1),[some (.cells (al [re]) 3)],[]⟩:=pa (cap:=some 1) C.ft C.dP rfl Nat.zero_lt_one (Nat.le_refl _) (by decide) (fun c hc=>by cases hc;exact Nat.le_refl _);refine gg16 ?_;have hout:=jl.aeb (d1:=some 1) (b1:=0) (L1:=[re]) (R:=Q) (e1:=3) (hp:=[some (.cells (al [re]) 3)]) (n1:=1) rfl (Nat.le_refl _);refine⟨.inr rfl,rfl,_,rfl,Q,_,⟨oQ,nQ,by rw[vQ,vb]⟩,?_,hout⟩;rw[List.take_of_length_le (show [re].length<=1 from Nat.le_refl _)];obtain⟨h1,h2,h3⟩:=oW (L:=[re]) (fun x hx=>by rw[List.mem_singleton.1 hx];exact⟨r0,by show _<(1000000000:Int);omega⟩);exact⟨h1,h2,by rw[h3,vb,←hre];simp[WV]⟩
 obtain⟨k,hk⟩:∃k,b.length=k+2:=⟨b.length-2,by omega⟩;have ha:k+2<=a.length:=by
  rcases Nat.lt_or_ge a.length (k+2) with h|h
  . exact absurd (oc (b:=dB) (by decide) oa ob nb (by omega)) hlt
  . exact h
 have ane:a≠[]:=fun e=>by rw[e]at ha;simp at ha
 have t0:=lC nb (by omega);rw[show b.length-1=k+1 by omega]at t0;have gt:=cf ob (i:=k+1) (by omega);obtain⟨t,ht⟩:∃t,t=b[k+1]! := ⟨_,rfl⟩;rw[←ht]at t0 gt;have gt:0<=t/\t<1000000000:=gt;have htb:b[((b.length:Int)-1).toNat]! = t:=by rw[show ((b.length:Int)-1).toNat=k+1 by omega];exact ht.symm
 obtain⟨f,hf⟩:∃f,f=1000000000/(t+1):=⟨_,rfl⟩;have hfe:=Int.mul_ediv_add_emod 1000000000 (t+1);rw[←hf]at hfe;obtain⟨f1,f2,f3⟩:=adV (t:=t) (f:=f) ⟨by omega,gt.2⟩ hfe ⟨Int.emod_nonneg _ (by omega),Int.emod_lt_of_pos _ (by omega)⟩;have f4:(t+1)*f<=1000000000:=by
  have:=Int.emod_nonneg 1000000000 (show t+1≠0 by omega);omega
 have of:okW dB [f]:=fun x hx=>by rw[List.mem_singleton.1 hx];exact⟨by omega,by show _<(1000000000:Int);omega⟩
 have vf:WV dB [f]=f:=by simp[WV]
 obtain⟨V,oV,nV,vV,q197b⟩:=C.qR (.vs (al b) b.length c2) (.sl 0 0 1 1 (some 1)) b [f] c2 none [some (.cells (al [f]) 3)] yC (EP (L:=[f]) (n:=1) (e:=3) rfl (Nat.le_refl _)) ob of (by omega) (by simp) (by omega);rw[vf]at vV;rw[ht]at f3 f4;obtain⟨lV,hvt⟩:=adW hk ob f1 f3 f4 oV nV vV;obtain⟨A,oA,nA,vA,q197a⟩:=C.qR (.vs (al a) a.length c1) (.sl 0 0 1 1 (some 1)) a [f] c1 none [some (.cells (al [f]) 3),some (.cells (al []) 3)] yC (EP (L:=[f]) (n:=1) (e:=3) rfl (Nat.le_refl _)) oa of (by omega) (by simp) (by omega);rw[vf]at vA;obtain⟨Ane,lA⟩:=adY ⟨f1,f2⟩ oa na ane oA nA vA;rw[←ht]at f3 f4;have hroom:(([]:List Int).length+A.length)*8<=dG:=by rw[List.length_nil];unfold dG;omega
 have hfq:1000000000/(b[((b.length:Int)-1).toNat]! + 1)=f:=by rw[htb,hf]
 repeat' first|(apply aiD (a:=1000000000) (v:=f);rfl;rfl;decide;(rw[htb];omega);exact hfq)|(refine cF.app (f:=iC) (m:=A) (acc:=[]) (S:=[0]) (hp:=[some (.cells (al [f]) 3),some (.cells (al []) 3)]) (fun _=>rfl) (fun _=>rfl) (by decide) (.inr ⟨1,some 0,by simp,rfl,rfl,.inr ⟨rfl,rfl⟩⟩) (by simp) rfl rfl (.inr (.inl ⟨_,rfl⟩)) hroom (fun H w' o' ho' hk' hlen=>?_))|apply abn|apply aM|apply abp|apply abC|apply ada|apply acQ|(apply acS;rfl)|(apply adf;rfl;rfl)|(apply aer;rfl;rfl)|(apply afC;rfl;rfl;omega)|(apply afD;rfl;rfl;omega)|(apply aco;rfl;rfl;first|exact q218 _|exact q197b|exact q197a)|(apply aga;rfl;rfl;omega)|(apply agd;rfl;exact fun _=>rfl;(first|omega|(simp only[List.length_set];omega)|(simp;omega));decide;rfl;case ia=>infer_instance)|(apply acT;rfl;rfl;rfl)|(apply abg;rfl;rfl)|(apply acn;rfl;rfl)|(intro _;omega)|intro _
 all_goals try omega
 rw[List.nil_append]at ho';refine adZ (c1:=c1) (fb:=.cells (al [f]) 3) (by omega) lA _ _ _ _ _ _ _ _ _ _ _ _ _ _ _ _ _ _ _ (fun o K lo wr hoK hK0=>?_) _ _ _ _ ho' (hk' 0 _ (by simp) rfl);obtain⟨U0,hU0⟩:∃U0,U0=A++List.replicate (a.length+1-A.length) 0:=⟨_,rfl⟩;rw[←hU0]at hoK;have lU0:U0.length=a.length+1:=by rw[hU0];simp;omega
 have oU0:okW dB U0:=by rw[hU0];exact jj oA (kl (by decide))
 have vU0:WV dB U0=WV dB a*f:=by rw[hU0,fI,km,Int.mul_zero,Int.add_zero,vA]
 rcases hoK with ⟨h1,_⟩|⟨bu,cp,hb0,rfl,hbu,hcap⟩
 . rw[h1]at lU0;simp at lU0
 obtain rfl:cp=none:=hcap.resolve_right fun h=>by rw[h.1]at lU0;simp at lU0
 have hb0:bu≠0:=fun e=>hb0 (by simp[e])
 have hbl:=eE hbu;have hK0l:=eE hK0;rw[lU0];refine gg13 ?_;rw[show (((a.length+1:Nat):Int)-(V.length:Int)).toNat=a.length+1-(k+2) by omega];have hup:=adX (f:=f) (by omega) ha oa hk ob nb lU0 oU0 vU0;rw[←vV]at hup;refine adU (c2:=none) (cu:=none) (cq:=some (a.length+1-(k+2))) (k:=k) (N:=a.length+1) (bu:=bu) (bq:=K.length) (bf:=0) (V:=V) (U0:=U0) (fb:=.cells (al [f]) 3) C.toNG (by omega) ⟨hb0,by omega⟩ (by omega) (by omega) lV oV hvt lU0 oU0 hup _ _ _ _ _ _ _ (fun U L K2 aC aD aE aF aG aH aI aJ aK lo wr lU oU lL oL hv hlU hK2u hK2q hK2f=>?_) _ _ _ _ _ _ _ _ _ _ _ _ (bS hbu) bX (bS hK0) _ (by omega);have lt:=da (b:=dB) (by decide) oV;have hU0n:=cC (b:=dB) (by decide) oU;rw[vU0,vV]at hv;rw[vV]at hlU;obtain⟨d1,d2⟩:=Jr (p:=f) (by omega) hv hU0n hlU;have q1:CT M (iq 242) [.sl bu 0 V.length 1 none] K2 ⟨bD bu (aQ (U.take V.length)) none,K2,[]⟩:=pa (cap:=none) C.ft C.dP hK2u (by omega) (by omega) (by omega) (fun _ h=>by cases h);have q2:CT M (iq 242) [.sl K.length 0 (a.length+1-(k+2)) 1 (some (a.length+1-(k+2)))] K2 ⟨bD K.length (aQ (L.take (a.length+1-(k+2)))) (some (a.length+1-(k+2))),K2,[]⟩:=pa (cap:=some (a.length+1-(k+2))) C.ft C.dP hK2q (by omega) (by omega) (by omega) (fun c hc=>by cases hc;exact Nat.le_refl _);have hm:=ik (l:=U.take V.length);rw[List.length_take]at hm;have hfrc:=aea hK2u (m:=aQ (U.take V.length)) (by omega);have vT:WV dB (U.take (aQ (U.take V.length)))=WV dB U:=by
  rw[NJ,wc];have e1:=lv (b:=dB) (l:=U) (i:=V.length) (by omega);have l0:=cC (b:=dB) (by decide) (dr oU V.length);have l1:=cC (b:=dB) (by decide) (iU oU V.length);have hP:0<dB^V.length:=Int.pow_pos (by decide);rcases Int.lt_or_le 0 (WV dB (U.drop V.length)) with h|h
  . have:=Int.mul_le_mul_of_nonneg_left (show 1<=WV dB (U.drop V.length) by omega) (Int.le_of_lt hP);rw[←vV]at hlU;omega
  . have z:WV dB (U.drop V.length)=0:=by omega
    rw[z,Int.mul_zero,Int.add_zero]at e1;exact e1.symm
 obtain⟨R,oR,nR,vR,q241⟩:=C.ET (bD bu (aQ (U.take V.length)) none) (U.take (aQ (U.take V.length))) none K2 f hfrc (dr oU _) (by rw[List.length_take];omega) ⟨by omega,by omega⟩;have vR:WV dB R=WV dB a%WV dB b:=by rw[vR,vT,d2,Int.mul_ediv_cancel_left _ (by omega)]
 refine gg17 ?_;have hout:=jl.mix (d1:=some (a.length+1-(k+2))) (b1:=K.length) (L1:=L) (R:=R) (e1:=3) (hp:=K2) (n1:=a.length+1-(k+2)) hK2q (by omega);refine⟨.inr rfl,rfl,_,rfl,_,_,?_,⟨oR,nR,vR⟩,hout⟩;rw[NJ,List.take_of_length_le (show L.length<=a.length+1-(k+2) by omega)];obtain⟨h1,h2,h3⟩:=oW oL;exact⟨h1,h2,by rw[h3,d1]⟩
end Go.Ab.Ch1

/-
  Own work: the reference's integers: the greatest common divisor; the error of a number.
-/
namespace Go.Ab.Ch1
open Go.Ab.bj
variable {M:ax} {cap c1 c2:Option Nat}
structure NL (M:ax):Prop where
 ft:M.FT=FT
 kG:∀(a b:List Int),okW dB a->okW dB b->aN a->aN b->a.length<100000->b.length<100000->b≠[]->∃qv q rv r,cH qv q/\cH rv r/\okW dB r/\aN r/\WV dB q=WV dB a/WV dB b/\WV dB r=WV dB a%WV dB b/\∀h,M.ext 195 [.vs (al a) a.length none,.vs (al b) b.length none] h=some ⟨.au [qv,rv],h,[]⟩
theorem aed (C:NL M)(a b:List Int)(oa:okW dB a)(ob:okW dB b)(na:aN a)(nb:aN b)(la:a.length<100000)(lb:b.length<100000) :
 ∃g,okW dB g/\aN g/\WV dB g=(Int.gcd (WV dB a) (WV dB b):Nat)/\cN M 155 [.vs (al a) a.length none,.vs (al b) b.length none] (.vs (al g) g.length none):=by
 obtain⟨v,hh,⟨g,og,ng,vg,ho⟩,hr⟩:=gQ (M:=M) (f:=155) (ars:=[.vs (al a) a.length none,.vs (al b) b.length none]) (P:=fun v hh=>∃g,okW dB g/\aN g/\WV dB g=(Int.gcd (WV dB a) (WV dB b):Nat)/\fj v hh (.vs (al g) g.length none)) (by rw[C.ft];exact Nj) (by simp) (by
  unfold Ey;simp only[enter];refine gg3 ?_;refine W.fT (fun m st=>∃A B y a3 lo wr,st=⟨⟨[.vs (al A) A.length none,y,.ae,a3],lo,[],[]⟩,wr⟩/\cH y B/\m=(WV dB B).toNat/\okW dB A/\aN A/\A.length<100000/\okW dB B/\aN B/\B.length<100000/\Int.gcd (WV dB A) (WV dB B)=Int.gcd (WV dB a) (WV dB b))
   (fun m st ⟨A,B,y,a3,lo,wr,hst,hy,hm,oA,nA,lA,oB,nB,lB,hg⟩=>?_) (m:=(WV dB b).toNat) ⟨a,b,_,_,_,_,rfl,.inl rfl,rfl,oa,na,la,ob,nb,lb,rfl⟩
  subst hst;by_cases hB:B=[]
  . subst hB;have hl0:([]:List Int).length=0:=rfl;have fin:fj (aW [.vs (al A) A.length none]) (if (aW [AV.vs (al A) A.length none]).top<=0 then [] else []) (.vs (al A) A.length none):=.same (fk A) (by rw[aW,bO,oZ]);have hv:WV dB A=(Int.gcd (WV dB a) (WV dB b):Nat):=by
     rw[←hg];have:=cC (b:=dB) (by decide) oA;show WV dB A=(Int.gcd (WV dB A) 0:Nat);rw[Int.gcd_zero_right];omega
    rcases hy with rfl|⟨rfl,_⟩;all_goals
    . unfold tB;exact gg8
  . obtain rfl:y = .vs (al B) B.length none:=hy.resolve_right fun h=>hB h.2
    have hBl:0<B.length:=List.length_pos_iff.2 hB;have hBp:=(iW (b:=dB) (by decide) oB nB).2 hB;have hA0:=cC (b:=dB) (by decide) oA;obtain⟨qv,q,rv,r,hq,hr,or_,nr,vq,vr,q195⟩:=C.kG A B oA oB nA nB lA lB hB;have r1:=Int.emod_lt_of_pos (WV dB A) hBp;have r0:=Int.emod_nonneg (WV dB A) (show WV dB B≠0 by omega);have lr:r.length<=B.length:=fJ (b:=dB) (by decide) or_ nr (Int.lt_trans (by rw[vr];exact r1) (da (by decide) oB));have hg2:Int.gcd (WV dB B) (WV dB r)=Int.gcd (WV dB a) (WV dB b):=by
     rw[←hg,vr,CA]
    unfold tB;repeat' first|apply abn|apply aM|apply abp|apply abC|apply ada|apply acQ|apply dx|(apply acL;rfl)|(apply aep;rfl;rfl)|(apply aco;rfl;rfl;first|exact q195 _)|(apply abg;rfl;rfl)|(apply acn;rfl;rfl)|(intro _;omega)|intro _
    all_goals try omega
    all_goals exact dE ⟨(WV dB r).toNat,by rw[vr];omega,B,r,rv,_,_,_,rfl,hr,rfl,oB,nB,lB,or_,nr,by omega,hg2⟩)
 exact⟨g,og,ng,vg,v,hh,ho,hr⟩
theorem NM {g:List Int}(og:okW dB g)(ng:aN g):WV dB g=1↔g=[1]:=by
 constructor
 . intro h;have h1:=fJ (b:=dB) (by decide) og ng (n:=1) (by rw[h];decide);match g,h1 with
   | [],_=>simp[WV]at h
   | [x],_=>simp[WV]at h;rw[h]
 . rintro rfl;rfl
def t62:an:=
 .seq (
       zR [zm 37 3,
          zm 38 2,
          zL 39 38,
          zb 40 .lss 37 39,
          zn 41 40,
          zg (zm 42 2) 41 true,
          zg (zm 43 3) 41 true,
          zg (zc 44 .add 43 1) 41 true,
          ⟨(.l 45),.slice .str 1 (.l 42) (some (.l 44)) none none,some ((.l 41),true)⟩,
          zg (z1 46 154 45) 41 true,
          zg (zu 47 46) 41 true,
          zg (zn 48 47) 41 true,
          zg (zm 49 2) 48 false,
          zg (zm 50 3) 48 false,
          zg (zc 51 .add 50 1) 48 false,
          ⟨(.l 52),.slice .str 1 (.l 49) (some (.l 51)) none none,some ((.l 48),false)⟩,
          ⟨(.l 53),.bin .eql (.l 52) (.c (.str [48])),some ((.l 48),false)⟩,
          zg (zP 54 48 53) 41 true,
          zg (zn 55 54) 41 true,
          zg (zm 56 2) 55 false,
          zg (zm 57 3) 55 false,
          zg (zc 58 .add 57 1) 55 false,
          ⟨(.l 59),.slice .str 1 (.l 56) (some (.l 58)) none none,some ((.l 55),false)⟩,
          ⟨(.l 60),.bin .eql (.l 59) (.c (.str [49])),some ((.l 55),false)⟩,
          zg (zP 61 55 60) 41 true,
          zp 62 41 61]
        (
         .cond (.l 62)
         (
          zR [zi 1 1]
          (.ret))
         (.skip)))
       (
        .seq (zR [zm 63 3,
           zc 64 .gtr 63 600,
           zn 65 64,
           zg (zm 66 2) 65 false,
           zg (zL 67 66) 65 false,
           zg (zm 68 3) 65 false,
           zg (zb 69 .sub 67 68) 65 false,
           zg (zc 70 .sub 69 1) 65 false,
           zg (zc 71 .gtr 70 600) 65 false,
           zP 72 65 71]
         (
          .cond (.l 72)
          (
           zR [zi 1 4]
           (.ret))
          (.skip)))
        (
         .seq (zR [zm 73 3,
            zm 74 2,
            zL 75 74,
            zb 76 .lss 73 75]
          (
           .cond (.l 76)
           (
            zR [zm 78 2,
              z1 79 135 78,
              zn 77 79,
              ze 80 0 77,
              ze 81 1 77,
              ⟨(.p 4),.alloc 162 [.bool false,.ae],none⟩,
              ⟨(.p 5),.alloc 162 [.bool false,.ae],none⟩,
              zs 2 4 80,
              zs 2 5 81]
            (
             zR [zf 82 1 4,
               zd 83 1 82,
               zf 84 1 5,
               zd 85 1 84,
               z2 86 155 83 85,
               zw 6 86]
             (
              zR [zm 87 6,
                zl 88 87,
                zc 89 .neq 88 1,
                zn 90 89,
                zg (zm 91 6) 90 false,
                ⟨(.l 92),.dH none 1 (.l 91) (kI 0),some ((.l 90),false)⟩,
                zg (zd 93 1 92) 90 false,
                zg (zc 94 .neq 93 1) 90 false,
                zP 95 90 94]
              (
               .cond (.l 95)
               (
                zR [zi 1 1]
                (.ret))
               (.skip)))))
           (.skip)))
         (
          zR [zi 1 0]
          (.ret))))
structure EV (M:ax):Prop where
 ft:M.FT=FT
 tJ:∀(s:ao) h,s.length<1000000->M.ext 153 [.str s] h=some ⟨.iV (cm s),h,[]⟩
 EW:∀(s:ao) h,s.length<1000000->M.ext 154 [.str s] h=some ⟨.bool (dL s),h,[]⟩
 lK:∀(s:ao),s.length<1000000->jy s=true->(bG 47 s).1.all bI=true->((bG 47 s).2.getD []).all bI=true->∃v1 v2,je v1 (az 0 (bG 47 s).1:Nat)/\je v2 (az 0 ((bG 47 s).2.getD []):Nat)/\∀h,M.ext 135 [.str s] h=some ⟨.au [v1,v2],h,[]⟩
 qS:∀(a b:List Int),okW dB a->okW dB b->aN a->aN b->a.length<100000->b.length<100000->∃g,okW dB g/\aN g/\WV dB g=(Int.gcd (WV dB a) (WV dB b):Nat)/\∀h,M.ext 155 [.vs (al a) a.length none,.vs (al b) b.length none] h=some ⟨.vs (al g) g.length none,h,[]⟩
theorem je.pos {v:AV}{n:Nat}(h:je v n):∃neg l,v = .agg [.bool neg,.vs (al l) l.length none]/\okW dB l/\aN l/\WV dB l=n:=by
 obtain⟨neg,l,rfl,ok,nr,hz,hn⟩:=h;refine⟨neg,l,rfl,ok,nr,?_⟩;cases neg with
 | false=>exact hz.symm
 | true=>
  have:=(iW (b:=dB) (by decide) ok nr).2 (hn rfl);simp at hz;omega
theorem aee (C:EV M)(s u top bot:ao)(B:Bool)(lu:u.length<1000000)(htop:(bG 47 u).1=top)(hbot:(bG 47 u).2.getD []=bot)(hB:jy u=B)(dt:top.all bI=true)(a4 a5 a6:AV)(lo:List (Nat×AV))(wr:List Nat) :
 W M t62 ⟨⟨[.str s,.iV 0,.str u,.iV top.length,a4,a5,a6],lo,[],[]⟩,wr⟩ (DO [.var (.p 1)] (if B=true/\(dL bot && decide (bot≠[48]) && decide (bot≠[49]))=false then 1 else if 600<top.length\/600<bot.length then 4 else if B=true/\fM (az 0 top) (az 0 bot)=true then 1 else 0)):=by
 have hs:cm u=top.length:=by rw[cm,htop]
 cases B with
 | false=>
  rw[if_neg (by simp)];have hn:(bG 47 u).2=none:=by unfold jy at hB;cases h:(bG 47 u).2 with
    | none=>rfl
    | some y=>rw[h]at hB;cases hB
  have hul:u.length=top.length:=by rw[←htop,(mP hn).1]
  have hb0:bot=[]:=by rw[←hbot,hn];rfl
  subst hb0;have hl0:([]:ao).length=0:=rfl;by_cases h6:600<top.length\/600<([]:ao).length
  . rw[if_pos h6];unfold t62;exact gg0
  . rw[if_neg h6,if_neg (by simp)];unfold t62;exact gg10
 | true=>
  obtain⟨e1,e2,hk⟩:=Nz hB;rw[hs,hbot]at e2;have hul:u.length=top.length+1+bot.length:=by
   unfold jy at hB;obtain⟨y,hy⟩:=Option.isSome_iff_exists.1 hB;have:=td hy;rw[hy]at hbot;simp at hbot;rw[←htop,←hbot];exact this
  have e2':u.drop ((top.length:Int)+1).toNat=bot:=by rw[show ((top.length:Int)+1).toNat=top.length+1 by omega];exact e2
  have q154:=fun h=>C.EW bot h (by omega)
  cases hC:dL bot with
  | false=>
   rw[if_pos ⟨rfl,rfl⟩];rw[hC]at q154;unfold t62;exact gg2
  | true=>
   rw[hC]at q154;by_cases h48:bot=[48]
   . rw[if_pos ⟨rfl,by rw[decide_eq_false (show ¬bot≠[48] from fun h=>h h48)];rfl⟩];unfold t62;repeat' first|(apply agf (s:=u) (r:=bot);rfl;rfl;omega;exact e2')|(apply afz;rfl;rfl;all_goals first|(intro h;exact absurd h48 h)|intro _)|apply abn|apply aM|apply abp|apply abC|apply abS|apply cd|(apply acL;rfl)|(apply aef;rfl)|(apply afN;rfl)|(apply agM;rfl)|(apply adf;rfl;rfl)|(apply acZ;rfl;rfl)|(apply aej;rfl;rfl)|(apply afC;rfl;rfl;omega)|(apply aco;rfl;rfl;first|exact q154 _)|(apply abg;rfl;rfl)|(apply acn;rfl;rfl)|(intro _;omega)|intro _
     all_goals try omega
     all_goals exact jD (.inr rfl) rfl rfl rfl rfl
   . by_cases h49:bot=[49]
     . rw[if_pos ⟨rfl,by rw[decide_eq_true (show bot≠[48] from h48),decide_eq_false (show ¬bot≠[49] from fun h=>h h49)];rfl⟩];unfold t62;exact gg2
     . rw[if_neg (by rw[decide_eq_true (show bot≠[48] from h48),decide_eq_true (show bot≠[49] from h49)];simp)];by_cases h6:600<top.length\/600<bot.length
       . rw[if_pos h6];unfold t62;repeat' first|(apply agf (s:=u) (r:=bot);rfl;rfl;omega;exact e2')|(apply afz;rfl;rfl;all_goals first|(intro h;exact absurd h h48)|(intro h;exact absurd h h49)|intro _)|apply abn|apply aM|apply abp|apply abC|apply abS|apply acQ|apply cd|(apply acL;rfl)|(apply acS;rfl)|(apply aef;rfl)|(apply afN;rfl)|(apply agM;rfl)|(apply adf;rfl;rfl)|(apply aep;rfl;rfl)|(apply acZ;rfl;rfl)|(apply aej;rfl;rfl)|(apply afC;rfl;rfl;omega)|(apply afD;rfl;rfl;omega)|(apply aco;rfl;rfl;first|exact q154 _)|(apply abg;rfl;rfl)|(apply acn;rfl;rfl)|(intro _;omega)|intro _
         all_goals try omega
         all_goals exact jD (.inr rfl) rfl rfl rfl rfl
       . rw[if_neg h6];have dbt:=(ti hC).2;obtain⟨v1,v2,k1,k2,q135⟩:=C.lK u lu hB (by rw[htop];exact dt) (by rw[hbot];exact dbt);rw[htop]at k1;rw[hbot]at k2;obtain⟨n1,l1,rfl,ok1,nr1,vl1⟩:=k1.pos;obtain⟨n2,l2,rfl,ok2,nr2,vl2⟩:=k2.pos;have len1:∀(t:ao) (l:List Int),t.all bI=true->okW dB l->aN l->WV dB l=(az 0 t:Nat)->t.length<=600->l.length<100000:=fun t l ht ok nr hv hl6=>by
          have h1:=mK t ht;have h2:l.length<=t.length:=fJ (b:=dB) (by decide) ok nr (by
           rw[hv];have h3:(az 0 t:Int)<(10:Int)^t.length:=by exact_mod_cast h1
           have h4:∀n:Nat,(10:Int)^n<=dB^n:=by
            intro n;induction n with
            | zero=>decide
            | succ n ih=>
             rw[Int.pow_succ,Int.pow_succ];exact Int.mul_le_mul ih (by decide) (by decide) (Int.pow_nonneg (by decide))
           have h5:=h4 t.length;omega)
          omega
         obtain⟨g,og,ng,vg,q155⟩:=C.qS l1 l2 ok1 ok2 nr1 nr2 (len1 top l1 dt ok1 nr1 vl1 (by omega)) (len1 bot l2 dbt ok2 nr2 vl2 (by omega));rw[vl1,vl2]at vg;have hgn:(Int.gcd (az 0 top:Nat) (az 0 bot:Nat))=Nat.gcd (az 0 top) (az 0 bot):=rfl;rw[hgn]at vg;have h1d:=NM og ng;by_cases h1:g=[1]
         . have hc:fM (az 0 top) (az 0 bot)=false:=by
            have:=h1d.2 h1;rw[vg]at this;rw[fM,show Nat.gcd (az 0 top) (az 0 bot)=1 by omega];rfl
           rw[if_neg (by rw[hc];simp)];subst h1;have hl1:([1]:List Int).length=1:=rfl;unfold t62;repeat' first|(apply agf (s:=u) (r:=bot);rfl;rfl;omega;exact e2')|(apply afz;rfl;rfl;all_goals first|(intro h;exact absurd h h48)|(intro h;exact absurd h h49)|intro _)|(apply agN (L:=[1]) (m:=0) (v:=1);rfl;rfl;exact Nat.zero_lt_one;rfl)|apply abn|apply aM|apply abp|apply abC|apply abS|apply acQ|(apply acL;rfl)|(apply acS;rfl)|(apply aef;rfl)|(apply afN;rfl)|(apply adf;rfl;rfl)|(apply aep;rfl;rfl)|(apply afl;rfl;rfl)|(apply acZ;rfl;rfl)|(apply aej;rfl;rfl)|(apply afC;rfl;rfl;omega)|(apply afD;rfl;rfl;omega)|(apply aco;rfl;rfl;first|exact q154 _|exact q135 _|exact q155 _)|(apply aga;rfl;rfl;omega)|(apply acT;rfl;rfl;rfl)|(apply acY;rfl;rfl;rfl)|(apply agF;rfl;rfl;rfl)|(apply abg;rfl;rfl)|(apply acn;rfl;rfl)|(intro _;omega)|intro _
           all_goals try omega
           all_goals exact jD (.inr rfl) rfl rfl rfl rfl
         . have hc:fM (az 0 top) (az 0 bot)=true:=by
            have:Nat.gcd (az 0 top) (az 0 bot)≠1:=fun e=>h1 (h1d.1 (by rw[vg,e];rfl))
            rw[fM];simp[this]
           rw[if_pos ⟨rfl,hc⟩];by_cases hl1:g.length=1
           . obtain⟨x,rfl⟩:∃x,g=[x]:=by
              match g,hl1 with
              | [x],_=>exact⟨x,rfl⟩
             have hx:x≠1:=fun e=>h1 (by rw[e])
             unfold t62;exact gg2
           . unfold t62;exact gg2
theorem w62 (C:EV M)(s:ao)(hl:s.length<1000000):aT M 62 [.str s] [] ⟨.iV (bR s),[],[]⟩:=by
 have hcl:=qK 45 s;have q153:=fun h=>C.tJ (bL 45 s) h (by omega)
 have hsl:=tD (bL 45 s);have etk:(bL 45 s).take ((cm (bL 45 s):Nat):Int).toNat=cQ s:=by
  show (bL 45 s).take (bG 47 (bL 45 s)).1.length=(bG 47 (bL 45 s)).1;cases h:(bG 47 (bL 45 s)).2 with
  | none=>rw[(mP h).1,List.take_length]
  | some y=>exact DE h
 have htl:(cQ s).length<=s.length:=Nat.le_trans (tj 47 _) hcl;have q154:=fun h=>C.EW (cQ s) h (by omega)
 have hsT:cm (bL 45 s)=(cQ s).length:=rfl;have tl:=fun dt=>aee C s (bL 45 s) (cQ s) (dD s) (gU s) (by omega) rfl rfl rfl dt
 rw[hsT]at q153 etk hsl;have hchk:bR s=if jd s=false then 1 else if 600<(cQ s).length\/600<(dD s).length then 4 else if gU s=true/\fM (az 0 (cQ s)) (az 0 (dD s))=true then 1 else 0:=rfl
 have hform:jd s=(dL (cQ s) && !(preB 45 s && decide (cQ s=[48])) && (!gU s || (dL (dD s) && decide (dD s≠[48]) && decide (dD s≠[49])))):=rfl;have dA:=fun h=>(ti (s:=cQ s) h)
 have hhd:preB 45 s=true->s[0]! = 45:=fun h=>by
  have h:=of_decide_eq_true h;cases s with
  | nil=>simp at h
  | cons c t=>simp at h;exact h
 have hnhd:preB 45 s=false->s≠[]->s[0]! ≠ 45:=fun h h0 e=>by
  have h:=of_decide_eq_false h;cases s with
  | nil=>exact h0 rfl
  | cons c t=>exact h (congrArg some e)
 have hne:cQ s≠[]->s≠[]:=fun h e=>h (by rw[e];rfl)
 have hpc:=fun h=>tf (b:=45) (s:=s) h
 have hpn:=fun h=>jS (b:=45) (s:=s) h
 rw[hchk];clear hchk;generalize cQ s=top at *
 generalize dD s=bot at *
 generalize gU s=B at *
 generalize bL 45 s=u at *
 have ei:s[(0:Int).toNat]! = s[0]! := rfl;refine bB (by rw[C.ft];exact adj) (by simp) ?_;unfold Nc;simp only[enter];cases hP:preB 45 s with
 | true=>
  rw[hP]at hform;have h45:=hhd hP;obtain⟨hc1,hc2⟩:=hpc hP;have hc1:s.drop (1:Int).toNat=u:=hc1;have e45:((s[(0:Int).toNat]!).toNat:Int)=45:=by rw[ei,h45];rfl
  cases hA:dL top with
  | false=>
   rw[hA]at q154 hform;simp only[Bool.false_and]at hform;rw[hform,if_pos rfl];exact gg0
  | true=>
   rw[hA]at q154 hform;simp only[Bool.true_and]at hform;obtain⟨d1,d2⟩:=dA hA;have tl:=tl d2;by_cases hz:top=[48]
   . rw[decide_eq_true hz]at hform;simp only[Bool.not_true,Bool.false_and]at hform;rw[hform,if_pos rfl];repeat' first|(apply agf (s:=s) (r:=u);rfl;rfl;omega;exact hc1)|(apply agt (s:=u) (r:=top);rfl;rfl;omega;exact etk)|(apply afz;rfl;rfl;all_goals first|(intro h;exact absurd hz h)|intro _)|apply abn|apply aM|apply abp|apply abC|apply abS|apply cd|(apply acL;rfl)|(apply aef;rfl)|(apply afN;rfl)|(apply aep;rfl;rfl)|(apply aer;rfl;rfl)|(apply acZ;rfl;rfl)|(apply aej;rfl;rfl)|(apply aco;rfl;rfl;first|exact q153 _|exact q154 _)|(apply agh;rfl;rfl;omega)|(apply abg;rfl;rfl)|(apply acn;rfl;rfl)|(intro _;omega)|intro _
     all_goals try omega
     all_goals exact⟨.inr rfl,rfl,_,rfl,rfl,rfl⟩
   . rw[decide_eq_false hz]at hform;simp only[Bool.not_false,Bool.true_and]at hform;have hres:(if B=true/\(dL bot && decide (bot≠[48]) && decide (bot≠[49]))=false then 1 else if 600<top.length\/600<bot.length then 4 else if B=true/\fM (az 0 top) (az 0 bot)=true then (1:Int) else 0)=(if jd s=false then 1 else if 600<top.length\/600<bot.length then 4 else if B=true/\fM (az 0 top) (az 0 bot)=true then 1 else 0):=by
      rw[hform];cases B with
      | false=>simp
      | true=>simp
     rw[hres]at tl;repeat' first|(exact tl _ _ _ _ _)|(apply agf (s:=s) (r:=u);rfl;rfl;omega;exact hc1)|(apply agt (s:=u) (r:=top);rfl;rfl;omega;exact etk)|(apply afz;rfl;rfl;all_goals first|(intro h;exact absurd h hz)|intro _)|apply abn|apply aM|apply abp|apply abC|apply acQ|(apply acL;rfl)|(apply acS;rfl)|(apply aef;rfl)|(apply afN;rfl)|(apply aep;rfl;rfl)|(apply aer;rfl;rfl)|(apply acZ;rfl;rfl)|(apply aej;rfl;rfl)|(apply aco;rfl;rfl;first|exact q153 _|exact q154 _)|(apply agh;rfl;rfl;omega)|(apply abg;rfl;rfl)|(apply acn;rfl;rfl)|(intro _;omega)|intro _
     all_goals try omega
 | false=>
  rw[hP]at hform;obtain rfl:u=s:=hpn hP;simp only[Bool.false_and,Bool.not_false,Bool.and_true]at hform;by_cases h0:u=[]
  . have hA:dL top=false:=by
     cases h:dL top with
     | false=>rfl
     | true=>exact absurd h0 (hne (dA h).1)
    rw[hA]at q154 hform;simp only[Bool.false_and]at hform;rw[hform,if_pos rfl];have hu0:u.length=0:=by rw[h0];rfl
    exact gg0
  . have hpos:0<u.length:=List.length_pos_iff.2 h0;have h45:=hnhd hP h0;have e45:((u[(0:Int).toNat]!).toNat:Int)≠45:=fun e=>h45 (UInt8.toNat_inj.1 (by rw[ei]at e;have:(45:UInt8).toNat=45:=rfl;omega))
    cases hA:dL top with
    | false=>
     rw[hA]at q154 hform;simp only[Bool.false_and]at hform;rw[hform,if_pos rfl];exact gg0
    | true=>
     rw[hA]at q154 hform;simp only[Bool.true_and]at hform;obtain⟨d1,d2⟩:=dA hA;have tl:=tl d2;have hres:(if B=true/\(dL bot && decide (bot≠[48]) && decide (bot≠[49]))=false then 1 else if 600<top.length\/600<bot.length then 4 else if B=true/\fM (az 0 top) (az 0 bot)=true then (1:Int) else 0)=(if jd u=false then 1 else if 600<top.length\/600<bot.length then 4 else if B=true/\fM (az 0 top) (az 0 bot)=true then 1 else 0):=by
      rw[hform];cases B with
      | false=>simp
      | true=>simp
     rw[hres]at tl;exact gg0
end Go.Ab.Ch1

/-
  Own work: the contracts of the reference's check of a number as a table.
-/
namespace Go.Ab.Ch1
open Go.Proofs Go.Ab.bj
variable {T:List (Nat×Spec)}
noncomputable def kH:Spec:=sK [] 153
noncomputable def EX:Spec:=sK [] 204
noncomputable def EY:Spec:=sK [(204,EX)] 154
noncomputable def yD:Spec:=sK [] 192
theorem qT:aS Tryz.prog gl 153 kH:=aZ bA
theorem aeg:aS Tryz.prog gl 204 EX:=aZ bA
theorem aeh:aS Tryz.prog gl 154 EY:=aZ (aL aeg bA)
theorem NN:aS Tryz.prog gl 192 yD:=aZ bA
theorem tK:∀(s:ao) h,s.length<1000000->kH [.str s] h=some ⟨.iV (cm s),h,[]⟩:=fun s h hl=>bF (adv ba s hl) rfl rfl rfl h
theorem aei:∀(s:ao) h,s.length<1000000->EY [.str s] h=some ⟨.bool (dL s),h,[]⟩:=fun s h hl=>
 bF (adx (M:=aV Tryz.prog FT [(204,EX)]) ba s hl fun h=>bF (adw ba s hl) rfl rfl rfl h) rfl rfl rfl h
theorem NO:∀(s:ao) h,s.length<=18->s.all bI=true->yD [.str s] h=some ⟨.iV (az 0 s:Nat),h,[]⟩:=fun s h hl hd=>bF (adz ba s hl hd) rfl rfl rfl h
noncomputable def NP:List (Nat×Spec):=[(192,yD)]
theorem cPa:EK (aV Tryz.prog FT NP) where
 ft:=ba
 dP:=fun _ _=>rfl
 tG:=fun _ _=>rfl
 pb:=fun s h hl hd=>NO s h hl hd
noncomputable def yE:Spec:=sK NP 193
theorem NQ:aS Tryz.prog gl 193 yE:=aZ (aL NN bA)
theorem yF:∀(s:ao),s.length<1000000->(bL 45 s).all bI=true->∃v0,je v0 (if preB 45 s then -(az 0 (bL 45 s):Int) else (az 0 (bL 45 s):Nat))/\∀h,yE [.str s] h=some ⟨v0,h,[]⟩:=fun s hl hd=>by
 obtain⟨v0,h1,h2⟩:=adG cPa s hl hd;exact⟨v0,h1,du h2 rfl⟩
noncomputable def NR:List (Nat×Spec):=[(153,kH),(193,yE)]
noncomputable def EZ:Spec:=sK NR 135
theorem aek:aS Tryz.prog gl 135 EZ:=aZ (aL qT (aL NQ bA))
theorem Fa {s:ao}(h:s.all bI=true):preB 45 s=false/\bL 45 s=s:=by
 have hp:preB 45 s=false:=by
  cases s with
  | nil=>rfl
  | cons c t=>
   rw[List.all_cons,Bool.and_eq_true]at h;unfold preB;rw[decide_eq_false_iff_not];intro e;simp at e;rw[e]at h;exact absurd h.1 (by decide)
 exact⟨hp,jS hp⟩
theorem ael:∀(s:ao),s.length<1000000->jy s=true->(bG 47 s).1.all bI=true->((bG 47 s).2.getD []).all bI=true->∃v1 v2,je v1 (az 0 (bG 47 s).1:Nat)/\je v2 (az 0 ((bG 47 s).2.getD []):Nat)/\∀h,EZ [.str s] h=some ⟨.au [v1,v2],h,[]⟩:=fun s hl hb h1 h2=>by
 obtain⟨p1,c1⟩:=Fa h1;obtain⟨p2,c2⟩:=Fa h2;obtain⟨v1,k1,q1⟩:=yF (bG 47 s).1 (Nat.lt_of_le_of_lt (tj 47 s) hl) (by rw[c1];exact h1);obtain⟨v2,k2,q2⟩:=yF ((bG 47 s).2.getD []) (Nat.lt_of_le_of_lt (DN 47 s) hl) (by rw[c2];exact h2);rw[p1,c1,if_neg (by decide)]at k1;rw[p2,c2,if_neg (by decide)]at k2;exact⟨v1,v2,k1,k2,du (NA (M:=aV Tryz.prog FT NR) ba s hl hb (fun h=>tK s h hl) k1.tF k2.tF q1 q2) rfl⟩
theorem yG {h:ab}(l:List Int){n:Nat}{c:Option Nat}:cZ h (.vs (al l) n c) (.vs (al l) n c):=.mA (EO l)
noncomputable def yH:Spec:=sL [] 218
noncomputable def NS:Spec:=sL [] 241
noncomputable def Fb:Spec:=sL [] 197
noncomputable def NT:Spec:=sL [] 243
theorem NU:aS Tryz.prog gl 218 yH:=iJ bA
theorem aem:aS Tryz.prog gl 241 NS:=iJ bA
theorem NV:aS Tryz.prog gl 197 Fb:=iJ bA
theorem aen:aS Tryz.prog gl 243 NT:=iJ bA
noncomputable def yI:List (Nat×Spec):=[(218,yH),(197,Fb),(241,NS),(243,NT)]
theorem aeo:cz Tryz.prog gl (bk yI):=aL NU (aL NV (aL aem (aL aen bA)))
theorem NW:NI (aV Tryz.prog FT yI) where
 ft:=ba
 dP:=fun _ _=>rfl
 NH:=fun U V bu i k cu c2 e h T D p hb hV hi hU hK=>by
  obtain⟨q,h1,h2,h3,hr⟩:=adM (M:=aV Tryz.prog FT []) (c1:=none) (c2:=c2) ba hV hi hU hK rfl rfl rfl rfl rfl;refine⟨q,h1,h2,h3,?_⟩;have hf:cZ h (.sl bu 0 U.length 1 cu) (.vs (al U) U.length none):=by
   refine .sl (m:=al U) hb ?_ rfl (EO U).2;have:=kj (f:=iC) (esz:=1) (fun _=>rfl) (l:=U) (i:=0) (n:=U.length) (by omega);simpa using this
  exact nU hr rfl rfl rfl (.cons hf (.cons (yG V) (.cons (.atom rfl) .nil)))
 tI:=fun a b c1 c2 h o1 o2 n1 n2 l1 l2=>nU (NB ba a b o1 o2 n1 n2 l1 l2) rfl rfl rfl (.cons (yG a) (.cons (yG b) .nil))
 qR:=fun x y a b c1 c2 h hx hy o1 o2 l1 l2 h0=>by
  obtain⟨r,⟨h1,h2,h3⟩,v,hh,⟨v1,f,t,k⟩,hr⟩:=NF (M:=aV Tryz.prog FT []) (c1:=c1) (c2:=c2) ba (fun _ _=>rfl) a b o1 o2 l1 l2 h0;exact⟨r,h1,h2,h3,lh (.cons hx (.cons hy .nil)) ⟨v,hh,v1,hr,f,t,k⟩⟩
 ET:=fun x a c h d hx o l hd=>by
  obtain⟨q,⟨h1,h2,h3⟩,v,hh,⟨v1,f,t,k⟩,hr⟩:=adJ (M:=aV Tryz.prog FT []) (c1:=c) ba (fun _ _=>rfl) a o l d hd;exact⟨q,h1,h2,h3,lh (.cons hx (.cons (.atom rfl) .nil)) ⟨v,hh,v1,hr,f,t,k⟩⟩
noncomputable def qU:Spec:=sK yI 195
theorem NX:aS Tryz.prog gl 195 qU:=aZ aeo
theorem cCm:NL (aV Tryz.prog FT [(195,qU)]) where
 ft:=ba
 kG:=fun a b o1 o2 n1 n2 l1 l2 hb=>by
  obtain⟨q,r,⟨h1,h2,h3⟩,⟨h4,h5,h6⟩,v,hh,⟨v1,x,y,f,t,k,i1,i2⟩,hr⟩:=NK (c1:=none) (c2:=none) NW a b o1 o2 n1 n2 l1 l2 hb;exact⟨x,q,y,r,i1,i2,h4,h5,h3,h6,fun h=>rW ⟨v,hh,v1,hr,f,eK (fk a) (fk b),t,k⟩⟩
noncomputable def yJ:Spec:=sK [(195,qU)] 155
theorem NY:aS Tryz.prog gl 155 yJ:=aZ (aL NX bA)
noncomputable def Fc:List (Nat×Spec):=[(153,kH),(154,EY),(135,EZ),(155,yJ)]
theorem aeq:cz Tryz.prog gl (bk Fc):=aL qT (aL aeh (aL aek (aL NY bA)))
theorem cCh:EV (aV Tryz.prog FT Fc) where
 ft:=ba
 tJ:=fun s h hl=>tK s h hl
 EW:=fun s h hl=>aei s h hl
 lK:=fun s hl hb h1 h2=>ael s hl hb h1 h2
 qS:=fun a b o1 o2 n1 n2 l1 l2=>by
  obtain⟨g,h1,h2,h3,h4⟩:=aed cCm a b o1 o2 n1 n2 l1 l2;exact⟨g,h1,h2,h3,du h4 (eK (fk a) (fk b))⟩
noncomputable def Fe:Spec:=sK Fc 62
theorem aes:aS Tryz.prog gl 62 Fe:=aZ aeq
theorem k62:∀(s:ao) h,s.length<1000000->Fe [.str s] h=some ⟨.iV (bR s),h,[]⟩:=fun s h hl=>bF (w62 cCh s hl) rfl rfl rfl h
end Go.Ab.Ch1

/-
  Own work: the code of functions: the reference numbers: arithmetic.
-/
namespace Go.Ab.Ch1
set_option maxRecDepth 1000000
def Ff:an:=.seq (zR [zm 9 5,zm 10 0,zl 11 10,zb 12 .lss 9 11,zn 13 12,zg (zm 14 5) 13 false,zg (zm 15 1) 13 false,zg (zl 16 15) 13 false,zg (zb 17 .lss 14 16) 13 false,zP 18 13 17,zn 19 18,zg (zm 20 4) 19 false,zg (zc 21 .gtr 20 0) 19 false,zP 22 19 21] (.cond (.l 22) (.skip) (.exit 0))) (.seq (.block 1 (zR [zm 25 0,zm 26 5,z2 27 254 25 26,zm 28 1,zm 29 5,z2 30 254 28 29,zb 31 .add 27 30,zm 32 4,zb 33 .add 31 32,zw 6 33] (zR [zm 34 3,zm 35 6,zc 36 .rem 35 1000000000,⟨.l 37,.dQ 3 1 1 [.iV (0)] [(0,1,(.l 36))],none⟩,⟨.l 38,.append 3 1 8 (.l 34) (.l 37),none⟩,zw 3 38] (.region [zm 39 6,zc 40 .quo 39 1000000000,zw 4 40])))) (.region [zm 23 5,zc 24 .add 23 1,zw 5 24]))
def NZ:an:=zR [⟨.p 2,.mv (.c (.ae)),none⟩] (zR [⟨.p 3,.mv (.c (.ae)),none⟩] (zR [zi 4 0] (.seq (zR [zi 5 0] (.block 0 (.loop Ff))) (zR [zm 41 3,zw 2 41] (.ret)))))
theorem aeu:FT 206=some ⟨42,[0,1,4,5,6,7,8],[.var (.p 2)],NZ⟩:=by kernel_rfl
def qV:an:=.seq (zR [zm 9 5,zm 10 0,zl 11 10,zb 12 .lss 9 11] (.cond (.l 12) (.skip) (.exit 0))) (.seq (.block 1 (.seq (.draw [(zm 15 0,[]),(zm 16 5,[0]),(za 17 1 15 16,[]),(zd 18 1 17,[]),(zm 19 1,[0,1,2,3]),(zm 20 5,[0,1,2,3,4]),(z2 21 254 19 20,[0,1,2,3]),(zb 22 .sub 18 21,[]),(zm 23 4,[0,1,2,3,4,5,6,7]),(zb 24 .sub 22 23,[]),(zw 6 24,[])]) (zR [zi 4 0] (.seq (zR [zm 25 6,zc 26 .lss 25 0] (.cond (.l 26) (zR [zm 27 6,zc 28 .add 27 1000000000,zw 6 28] (.region [zi 4 1])) (.skip))) (.region [zm 29 3,zm 30 6,⟨.l 31,.dQ 3 1 1 [.iV (0)] [(0,1,(.l 30))],none⟩,⟨.l 32,.append 3 1 8 (.l 29) (.l 31),none⟩,zw 3 32]))))) (.region [zm 13 5,zc 14 .add 13 1,zw 5 14]))
def Oa:an:=zR [⟨.p 2,.mv (.c (.ae)),none⟩] (zR [⟨.p 3,.mv (.c (.ae)),none⟩] (zR [zi 4 0] (.seq (zR [zi 5 0] (.block 0 (.loop qV))) (zR [zm 33 3,z1 34 242 33,zw 2 34] (.ret)))))
theorem aev:FT 219=some ⟨35,[0,1,4,5,6,7,8],[.var (.p 2)],Oa⟩:=by kernel_rfl
def Ob:an:=zR [zx 2 162 2 0,zx 3 162 2 1,⟨.p 4,.alloc 162 [.bool false,.ae],none⟩] (.seq (zR [zf 5 0 2,zd 6 1 5,zf 7 0 3,zd 8 1 7,⟨.l 9,.eq false .bool (.l 6) (.l 8),none⟩] (.cond (.l 9) (.seq (.draw [(zf 10 0 2,[]),(zd 11 1 10,[]),(zf 12 1 2,[0,1]),(zd 13 1 12,[0,1]),(zf 14 1 3,[0,1,2,3]),(zd 15 1 14,[0,1,2,3]),(z2 16 206 13 15,[0,1]),(z2 17 196 11 16,[]),(zs 2 4 17,[])]) (.ret)) (.skip))) (.seq (zR [zf 18 1 2,zd 19 1 18,zf 20 1 3,zd 21 1 20,z2 22 218 19 21,zc 23 .geq 22 0] (.cond (.l 23) (.seq (.draw [(zf 24 0 2,[]),(zd 25 1 24,[]),(zf 26 1 2,[0,1]),(zd 27 1 26,[0,1]),(zf 28 1 3,[0,1,2,3]),(zd 29 1 28,[0,1,2,3]),(z2 30 219 27 29,[0,1]),(z2 31 196 25 30,[]),(zs 2 4 31,[])]) (.ret)) (.skip))) (.seq (.draw [(zf 32 0 3,[]),(zd 33 1 32,[]),(zf 34 1 3,[0,1]),(zd 35 1 34,[0,1]),(zf 36 1 2,[0,1,2,3]),(zd 37 1 36,[0,1,2,3]),(z2 38 219 35 37,[0,1]),(z2 39 196 33 38,[]),(zs 2 4 39,[])]) (.ret))))
theorem aew:FT 170=some ⟨40,[0,1,2,3,4],[.cell 2 true (.p 4)],Ob⟩:=by kernel_rfl
def Oc:an:=zR [zx 1 162 2 0,⟨.p 2,.alloc 162 [.bool false,.ae],none⟩] (zR [zf 3 0 1,zd 4 1 3,zu 5 4,zf 6 1 1,zd 7 1 6,z2 8 196 5 7,zs 2 2 8] (.ret))
theorem aex:FT 194=some ⟨9,[0,1,2],[.cell 2 true (.p 2)],Oc⟩:=by kernel_rfl
def Od:an:=zR [zx 2 162 2 0,zx 3 162 2 1,⟨.p 4,.alloc 162 [.bool false,.ae],none⟩] (.seq (.draw [(zf 5 0 2,[]),(zd 6 1 5,[]),(zf 7 0 3,[0,1]),(zd 8 1 7,[0,1]),(⟨.l 9,.eq true .bool (.l 6) (.l 8),none⟩,[]),(zf 10 1 2,[0,1,2,3,4]),(zd 11 1 10,[0,1,2,3,4]),(zf 12 1 3,[0,1,2,3,4,5,6]),(zd 13 1 12,[0,1,2,3,4,5,6]),(z2 14 197 11 13,[0,1,2,3,4]),(z2 15 196 9 14,[]),(zs 2 4 15,[])]) (.ret))
theorem aey:FT 137=some ⟨16,[0,1,2,3,4],[.cell 2 true (.p 4)],Od⟩:=by kernel_rfl
def Oe:an:=.seq (zR [zm 5 1,zc 6 .gtr 5 0] (.cond (.l 6) (.skip) (.exit 0))) (.block 1 (.draw [(zm 7 1,[]),(zm 8 0,[0]),(zm 9 1,[0,1]),(zb 10 .rem 8 9,[0]),(zw 0 7,[2,3]),(zw 1 10,[])]))
def Of:an:=zR [zi 2 0] (.seq (.block 0 (.loop Oe)) (zR [zm 11 0,zw 2 11] (.ret)))
theorem aez:FT 158=some ⟨12,[0,1,4],[.var (.p 2)],Of⟩:=by kernel_rfl
def Fg:an:=.seq (zR [zm 6 0,zc 7 .gtr 6 0,zn 8 7,zg (zm 9 3) 8 false,zg (zL 10 9) 8 false,zg (zm 11 1) 8 false,zg (zb 12 .lss 10 11) 8 false,zP 13 8 12] (.cond (.l 13) (.skip) (.exit 0))) (.block 1 (zR [zm 14 0,zc 15 .rem 14 10,zm 16 0,zc 17 .rem 16 10,zc 18 .add 17 1,⟨.l 19,.slice .str 1 (.c (.str zD8)) (some (.l 15)) (some (.l 18)) none,none⟩,zm 20 3,zb 21 .add 19 20,zw 3 21] (.region [zm 22 0,zc 23 .quo 22 10,zw 0 23])))
def Og:an:=zR [⟨.p 2,.mv (.c (.str [])),none⟩] (zR [⟨.p 3,.mv (.c (.str [])),none⟩] (.seq (.block 0 (.loop Fg)) (zR [zm 24 3,zw 2 24] (.ret))))
theorem aeA:FT 117=some ⟨25,[0,1,4,5],[.var (.p 2)],Og⟩:=by kernel_rfl
def yK:an:=.seq (zR [zm 22 4,zc 23 .geq 22 0] (.cond (.l 23) (.skip) (.exit 0))) (.seq (.block 1 (.region [zm 26 3,zf 27 1 1,zd 28 1 27,zm 29 4,za 30 1 28 29,zd 31 1 30,⟨.l 32,.call (kF 117) [(.l 31),(kI 9)],none⟩,zb 33 .add 26 32,zw 3 33])) (.region [zm 24 4,zc 25 .sub 24 1,zw 4 25]))
def Fh:an:=zR [zx 1 162 2 0,⟨.p 2,.mv (.c (.str [])),none⟩] (.seq (zR [zf 5 1 1,zd 6 1 5,zl 7 6,zc 8 .eql 7 0] (.cond (.l 8) (zR [⟨.p 2,.mv (.c (.str [48])),none⟩] (.ret)) (.skip))) (zR [zf 9 1 1,zd 10 1 9,zf 11 1 1,zd 12 1 11,zl 13 12,zc 14 .sub 13 1,za 15 1 10 14,zd 16 1 15,⟨.l 17,.call (kF 117) [(.l 16),(kI 1)],none⟩,zw 3 17] (.seq (zR [zf 18 1 1,zd 19 1 18,zl 20 19,zc 21 .sub 20 2,zw 4 21] (.block 0 (.loop yK))) (.seq (zR [zf 34 0 1,zd 35 1 34] (.cond (.l 35) (zR [zm 36 3,⟨.l 37,.bin .add (.c (.str [45])) (.l 36),none⟩,zw 2 37] (.ret)) (.skip))) (zR [zm 38 3,zw 2 38] (.ret))))))
theorem Oh:FT 138=some ⟨39,[0,1,2,3,4],[.var (.p 2)],Fh⟩:=by kernel_rfl
def t134:an:=zR [zm 25 4,z1 26 153 25,zw 6 26] (.seq (zR [zm 27 6,zc 28 .gtr 27 9,zn 29 28,zg (zm 30 4) 29 false,zg (zL 31 30) 29 false,zg (zm 32 6) 29 false,zg (zb 33 .sub 31 32) 29 false,zg (zc 34 .gtr 33 10) 29 false,zP 35 29 34] (.cond (.l 35) (zR [zi 1 0,zi 2 0,⟨.p 3,.mv (.c (.bool false)),none⟩] (.ret)) (.skip))) (zR [zm 36 4,zm 37 6,⟨.l 38,.slice .str 1 (.l 36) none (some (.l 37)) none,none⟩,z1 39 192 38,zw 7 39,zi 8 1] (.seq (zR [zm 40 6,zm 41 4,zL 42 41,zb 43 .lss 40 42] (.cond (.l 43) (.region [zm 44 4,zm 45 6,zc 46 .add 45 1,⟨.l 47,.slice .str 1 (.l 44) (some (.l 46)) none none,none⟩,z1 48 192 47,zw 8 48]) (.skip))) (.seq (zR [zm 49 5] (.cond (.l 49) (.region [zm 50 7,⟨.l 51,.bin .sub (kI 0) (.l 50),none⟩,zw 7 51]) (.skip))) (zR [zm 52 7,zm 53 8,zw 1 52,zw 2 53,⟨.p 3,.mv (.c (.bool true)),none⟩] (.ret))))))
def yL:an:=zR [zi 1 0,zi 2 0,⟨.p 3,.mv (.c (.bool false)),none⟩] (zR [zm 10 0,zw 4 10] (.seq (zR [zm 11 4,zL 12 11,zc 13 .gtr 12 20] (.cond (.l 13) (zR [zi 1 0,zi 2 0,⟨.p 3,.mv (.c (.bool false)),none⟩] (.ret)) (.skip))) (zR [zm 14 4,zL 15 14,zc 16 .gtr 15 0,zn 17 16,zg (zm 18 4) 17 true,⟨.l 19,.index (.l 18) (kI 0),some ((.l 17),true)⟩,⟨.l 20,.bin .eql (.l 19) (.c (.int .u8 (45))),some ((.l 17),true)⟩,zp 21 17 20,zw 5 21] (.seq (zR [zm 22 5] (.cond (.l 22) (.region [zm 23 4,⟨.l 24,.slice .str 1 (.l 23) (some (kI 1)) none none,none⟩,zw 4 24]) (.skip)))
      t134))))
theorem Oi:FT 134=some ⟨54,[0,2,3,4,5,6,7,8,9],[.var (.p 1),.var (.p 2),.var (.p 3)],yL⟩:=by kernel_rfl
def t136:an:=zR [zf 17 1 2,zd 18 1 17,zf 19 1 3,zd 20 1 19,z2 21 155 18 20,zw 5 21] (zR [zf 23 1 2,zd 24 1 23,zm 25 5,z2 26 195 24 25,zn 22 26,ze 27 0 22,ze 28 1 22,zw 6 27,zn 7 28] (zR [zf 30 1 3,zd 31 1 30,zm 32 5,z2 33 195 31 32,zn 29 33,ze 34 0 29,ze 35 1 29,zw 7 34,zn 9 35] (zR [zf 36 0 2,zd 37 1 36,zm 38 6,z2 39 196 37 38,z1 40 138 39,zw 8 40] (.seq (zR [zm 41 7,zl 42 41,zc 43 .eql 42 1,zn 44 43,zg (zm 45 7) 44 true,⟨.l 46,.dH none 1 (.l 45) (kI 0),some ((.l 44),true)⟩,zg (zd 47 1 46) 44 true,zg (zc 48 .eql 47 1) 44 true,zp 49 44 48] (.cond (.l 49) (zR [zm 50 8,zw 4 50] (.ret)) (.skip))) (zR [zm 51 8,⟨.l 52,.bin .add (.l 51) (.c (.str [47])),none⟩,zm 53 7,⟨.l 54,.call (kF 196) [(.c (.bool false)),(.l 53)],none⟩,z1 55 138 54,zb 56 .add 52 55,zw 4 56] (.ret))))))
def Fi:an:=zR [zx 2 162 2 0,zx 3 162 2 1,⟨.p 4,.mv (.c (.str [])),none⟩] (.seq (zR [zf 11 0 3,zd 12 1 11] (.cond (.l 12) (.draw [(zt 13 2 2,[]),(z1 14 194 13,[]),(zt 15 2 3,[0,1]),(z1 16 194 15,[]),(zs 2 2 14,[]),(zs 2 3 16,[])]) (.skip)))
   t136)
theorem aeB:FT 136=some ⟨57,[0,1,2,3,4,5,6,8,10],[.var (.p 4)],Fi⟩:=by kernel_rfl
def t78:an:=zR [zm 32 0,zm 33 0,⟨.l 34,.bin .sub (kI 0) (.l 33),none⟩,⟨.l 35,.mm true [(.l 32),(.l 34)],none⟩,zm 36 1,z2 37 158 35 36,zw 3 37] (.seq (.draw [(zm 38 0,[]),(zm 39 3,[0]),(zb 40 .quo 38 39,[]),(zm 41 1,[0,1,2]),(zm 42 3,[0,1,2,3]),(zb 43 .quo 41 42,[0,1,2]),(zw 0 40,[3,4,5]),(zw 1 43,[])]) (zR [⟨.p 4,.mv (.c (.str [])),none⟩] (.seq (zR [zm 44 0,zc 45 .lss 44 0] (.cond (.l 45) (.region [⟨.p 4,.mv (.c (.str [45])),none⟩]) (.skip))) (zR [zm 46 4,zm 47 0,zm 48 0,⟨.l 49,.bin .sub (kI 0) (.l 48),none⟩,⟨.l 50,.mm true [(.l 47),(.l 49)],none⟩,⟨.l 51,.call (kF 117) [(.l 50),(kI 1)],none⟩,zb 52 .add 46 51,zw 4 52] (.seq (zR [zm 53 1,zc 54 .gtr 53 1] (.cond (.l 54) (.region [zm 55 4,⟨.l 56,.bin .add (.l 55) (.c (.str [47])),none⟩,zm 57 1,⟨.l 58,.call (kF 117) [(.l 57),(kI 1)],none⟩,zb 59 .add 56 58,zw 4 59]) (.skip))) (zR [zm 60 4,zw 2 60] (.ret)))))))
def Fj:an:=zR [⟨.p 2,.mv (.c (.str [])),none⟩] (.seq (zR [zm 7 0,zc 8 .lss 7 (-4000000000000000000),zn 9 8,zg (zm 10 0) 9 false,zg (zc 11 .gtr 10 4000000000000000000) 9 false,zP 12 9 11,zn 13 12,zg (zm 14 1) 13 false,zg (zc 15 .lss 14 (-4000000000000000000)) 13 false,zP 16 13 15,zn 17 16,zg (zm 18 1) 17 false,zg (zc 19 .gtr 18 4000000000000000000) 17 false,zP 20 17 19] (.cond (.l 20) (zR [zm 21 0,z1 22 139 21,zm 23 1,z1 24 139 23,z2 25 136 22 24,zw 2 25] (.ret)) (.skip))) (.seq (zR [zm 26 1,zc 27 .lss 26 0] (.cond (.l 27) (.region [zm 28 0,⟨.l 29,.bin .sub (kI 0) (.l 28),none⟩,zm 30 1,⟨.l 31,.bin .sub (kI 0) (.l 30),none⟩,zw 0 29,zw 1 31]) (.skip)))
 t78))
theorem aeC:FT 78=some ⟨61,[0,1,4,5,6],[.var (.p 2)],Fj⟩:=by kernel_rfl
def Oj:an:=zR [zi 1 0] (.seq (zR [zm 3 0,⟨.l 4,.bin .eql (.l 3) (.c (.str [48])),none⟩] (.cond (.l 4) (zR [zi 1 0] (.ret)) (.skip))) (.seq (zR [zm 5 0,zL 6 5,zc 7 .gtr 6 0,zn 8 7,zg (zm 9 0) 8 true,⟨.l 10,.index (.l 9) (kI 0),some ((.l 8),true)⟩,⟨.l 11,.bin .eql (.l 10) (.c (.int .u8 (45))),some ((.l 8),true)⟩,zp 12 8 11] (.cond (.l 12) (zR [zi 1 (-1)] (.ret)) (.skip))) (zR [zi 1 1] (.ret))))
theorem aeD:FT 140=some ⟨13,[0,2],[.var (.p 1)],Oj⟩:=by kernel_rfl
def Ok:an:=zR [⟨.p 1,.mv (.c (.str [])),none⟩] (.seq (zR [zm 3 0,z1 4 140 3,zc 5 .lss 4 0] (.cond (.l 5) (zR [zm 6 0,⟨.l 7,.slice .str 1 (.l 6) (some (kI 1)) none none,none⟩,zw 1 7] (.ret)) (.skip))) (.seq (zR [zm 8 0,z1 9 140 8,zc 10 .eql 9 0] (.cond (.l 10) (zR [zm 11 0,zw 1 11] (.ret)) (.skip))) (zR [zm 12 0,⟨.l 13,.bin .add (.c (.str [45])) (.l 12),none⟩,zw 1 13] (.ret))))
theorem aeE:FT 141=some ⟨14,[0,2],[.var (.p 1)],Ok⟩:=by kernel_rfl
def Fk:an:=zR [⟨.p 2,.mv (.c (.str [])),none⟩] (zR [zm 16 0,z1 17 134 16,zn 15 17,ze 18 0 15,ze 19 1 15,ze 20 2 15,zw 3 18,zw 4 19,zw 5 20] (zR [zm 22 1,z1 23 134 22,zn 21 23,ze 24 0 21,ze 25 1 21,ze 26 2 21,zw 6 24,zw 7 25,zw 8 26] (.seq (zR [zm 27 5,zn 28 27,zg (zm 29 8) 28 true,zp 30 28 29] (.cond (.l 30) (zR [zm 31 3,zm 32 7,zb 33 .mul 31 32,zm 34 6,zm 35 4,zb 36 .mul 34 35,zb 37 .add 33 36,zm 38 4,zm 39 7,zb 40 .mul 38 39,z2 41 78 37 40,zw 2 41] (.ret)) (.skip))) (zR [zm 43 0,z1 44 135 43,zn 42 44,ze 45 0 42,ze 46 1 42,⟨.p 9,.alloc 162 [.bool false,.ae],none⟩,⟨.p 10,.alloc 162 [.bool false,.ae],none⟩,zs 2 9 45,zs 2 10 46] (zR [zm 48 1,z1 49 135 48,zn 47 49,ze 50 0 47,ze 51 1 47,⟨.p 11,.alloc 162 [.bool false,.ae],none⟩,⟨.p 12,.alloc 162 [.bool false,.ae],none⟩,zs 2 11 50,zs 2 12 51] (.seq (.draw [(zt 52 2 9,[]),(zt 53 2 12,[0]),(z2 54 137 52 53,[]),(zt 55 2 11,[0,1,2]),(zt 56 2 10,[0,1,2,3]),(z2 57 137 55 56,[]),(z2 58 170 54 57,[]),(zt 59 2 10,[0,1,2,3,4,5,6]),(zt 60 2 12,[0,1,2,3,4,5,6,7]),(z2 61 137 59 60,[]),(z2 62 136 58 61,[]),(zw 2 62,[])]) (.ret)))))))
theorem aeF:FT 90=some ⟨63,[0,1,4,5,6,7,8,9,10,11,12,13,14],[.var (.p 2)],Fk⟩:=by kernel_rfl
def Ol:an:=zR [⟨.p 2,.mv (.c (.str [])),none⟩] (zR [zm 5 0,zm 6 1,z1 7 141 6,z2 8 90 5 7,zw 2 8] (.ret))
theorem aeG:FT 57=some ⟨9,[0,1,4],[.var (.p 2)],Ol⟩:=by kernel_rfl
def Fl:an:=zR [⟨.p 2,.mv (.c (.str [])),none⟩] (zR [zm 16 0,z1 17 134 16,zn 15 17,ze 18 0 15,ze 19 1 15,ze 20 2 15,zw 3 18,zw 4 19,zw 5 20] (zR [zm 22 1,z1 23 134 22,zn 21 23,ze 24 0 21,ze 25 1 21,ze 26 2 21,zw 6 24,zw 7 25,zw 8 26] (.seq (zR [zm 27 5,zn 28 27,zg (zm 29 8) 28 true,zp 30 28 29] (.cond (.l 30) (zR [zm 31 3,zm 32 6,zb 33 .mul 31 32,zm 34 4,zm 35 7,zb 36 .mul 34 35,z2 37 78 33 36,zw 2 37] (.ret)) (.skip))) (zR [zm 39 0,z1 40 135 39,zn 38 40,ze 41 0 38,ze 42 1 38,⟨.p 9,.alloc 162 [.bool false,.ae],none⟩,⟨.p 10,.alloc 162 [.bool false,.ae],none⟩,zs 2 9 41,zs 2 10 42] (zR [zm 44 1,z1 45 135 44,zn 43 45,ze 46 0 43,ze 47 1 43,⟨.p 11,.alloc 162 [.bool false,.ae],none⟩,⟨.p 12,.alloc 162 [.bool false,.ae],none⟩,zs 2 11 46,zs 2 12 47] (.seq (.draw [(zt 48 2 9,[]),(zt 49 2 11,[0]),(z2 50 137 48 49,[]),(zt 51 2 10,[0,1,2]),(zt 52 2 12,[0,1,2,3]),(z2 53 137 51 52,[]),(z2 54 136 50 53,[]),(zw 2 54,[])]) (.ret)))))))
theorem aeH:FT 53=some ⟨55,[0,1,4,5,6,7,8,9,10,11,12,13,14],[.var (.p 2)],Fl⟩:=by kernel_rfl
def Om:an:=zR [⟨.p 1,.mv (.c (.str [])),none⟩] (zR [zm 6 0,z1 7 135 6,zn 5 7,ze 8 0 5,ze 9 1 5,⟨.p 2,.alloc 162 [.bool false,.ae],none⟩,⟨.p 3,.alloc 162 [.bool false,.ae],none⟩,zs 2 2 8,zs 2 3 9] (zR [zt 10 2 3,zt 11 2 2,z2 12 136 10 11,zw 1 12] (.ret)))
theorem aeI:FT 133=some ⟨13,[0,2,3,4],[.var (.p 1)],Om⟩:=by kernel_rfl
def On:an:=zR [⟨.p 2,.mv (.c (.str [])),none⟩] (zR [zm 5 0,zm 6 1,z1 7 133 6,z2 8 53 5 7,zw 2 8] (.ret))
theorem aeJ:FT 52=some ⟨9,[0,1,4],[.var (.p 2)],On⟩:=by kernel_rfl
def Oo:an:=zR [zi 2 0] (zR [zm 5 0,zm 6 1,z2 7 57 5 6,z1 8 140 7,zw 2 8] (.ret))
theorem aeK:FT 55=some ⟨9,[0,1,4],[.var (.p 2)],Oo⟩:=by kernel_rfl
end Go.Ab.Ch1

/-
  Own work: the reference's integers: sums and differences of digits.
-/
namespace Go.Ab.Ch1
open Go.Ab.bj
variable {M:ax} {cap c1 c2:Option Nat}
theorem Fm {y:List Int}(ok:okW dB y)(i:Nat):0<=fK y i/\fK y i<1000000000:=by
 unfold fK;split
 . rename_i h;exact cf ok h
 . exact⟨by decide,by decide⟩
theorem aeL (hft:M.FT=FT)(a:List Int)(i:Int)(hi:0<=i):aT M 254 [.vs (al a) a.length c1,.iV i] [] ⟨.iV (fK a i.toNat),[],[]⟩:=by
 refine bB (by rw[hft];exact adu) (by simp) ?_;unfold fK;unfold Np;simp only[enter];by_cases h:i.toNat<a.length
 . rw[if_pos h];exact gg11
 . rw[if_neg h];exact gg0
theorem Fo (hft:M.FT=FT)(K:ab):aT M 242 [.ae] K ⟨.ae,K,[]⟩:=by
 refine lf (by rw[hft];exact yr) (by simp) (by simp[AV.top]) ?_;unfold tA;simp only[enter];refine gg3 ?_;refine W.loop ?_;unfold jx;exact gg1
def Oq (M:ax)(g:Nat)(ars:List AV)(n:Nat)(z:Int):Prop:=∃r:List Int,(okW dB r/\WV dB r=z/\r.length<=n)/\∃v hh,gk v hh r/\aT M g ars [] ⟨v,hh,[]⟩
theorem aeM {f N n:Nat}{aR:List Nat}{res:List eM}{body:an}{ars:List AV}{z:Int}(hft:M.FT f=some ⟨N,aR,res,body⟩)(hN:ars.length<=N)
 (h:W M body ⟨⟨aR.map (fun t=>(ars[t]?).getD cG),[],[],[]⟩,[]⟩ fun e s=>(e = .normal\/e = .ret)/\s.s.bZ=[]/\∃vs,dh s.s res=some vs/\∃r:List Int,(okW dB r/\WV dB r=z/\r.length<=n)/\gk (aW vs) (if (aW vs).top<=0 then [] else s.s.hp) r):Oq M f ars n z:=by
 obtain⟨v,hh,⟨r,hr,ho⟩,h2⟩:=gQ (P:=fun v hh=>∃r:List Int,(okW dB r/\WV dB r=z/\r.length<=n)/\gk v hh r) hft hN h;exact⟨r,hr,v,hh,ho,h2⟩
theorem gk.Gt {K:ab}{o:AV}{acc:List Int}{S:List Nat}(h:cF iC 1 3 K o acc S):gk (aW [o]) (if (aW [o]).top<=0 then [] else K) acc:=
 ⟨.vs (al acc) acc.length none,h.Tv (fun _=>rfl) (fun _=>rfl) (fun _=>rfl),fk acc,by rw[cj,EC]⟩
section
variable {t:Nat} {x y:aO} {l:List aU} {pe:List AV} {lo:List (Nat×AV)} {hp:ab} {df wr:List Nat} {v a d:Int} {Q:aq->Prop}
theorem aib (hx:(St.mk pe lo hp df).aa x=some (.iV a))(hy:(St.mk pe lo hp df).aa y=some (.iV d))(ha:0<=a/\a<9223372036854775808)(hd:0<d)(hv:a/d=v)
 (h:WO M l ⟨⟨pe,(t,.iV v)::lo,hp,df⟩,wr⟩ Q):WO M (⟨.l t,.bin .quo x y,none⟩::l) ⟨⟨pe,lo,hp,df⟩,wr⟩ Q:=ahh hx hy ha hd (by rw[hv];exact h)
theorem aic (hx:(St.mk pe lo hp df).aa x=some (.iV a))(hy:(St.mk pe lo hp df).aa y=some (.iV d))(ha:0<=a)(hd:0<d)(hv:a%d=v)
 (h:WO M l ⟨⟨pe,(t,.iV v)::lo,hp,df⟩,wr⟩ Q):WO M (⟨.l t,.bin .rem x y,none⟩::l) ⟨⟨pe,lo,hp,df⟩,wr⟩ Q:=ahp hx hy ha hd (by rw[hv];exact h)
end
structure Fp (M:ax):Prop where
 ft:M.FT=FT
 yM:∀(a:List Int) c (i:Int) h,0<=i->M.ext 254 [.vs (al a) a.length c,.iV i] h=some ⟨.iV (fK a i.toNat),h,[]⟩
 dP:∀ars h,M.ext 242 ars h=none
theorem aeN (C:Fp M)(a b:List Int)(oa:okW dB a)(ob:okW dB b)(la:a.length<1000000)(lb:b.length<1000000):Oq M 206 [.vs (al a) a.length c1,.vs (al b) b.length c2] (a.length+b.length+1) (WV dB a+WV dB b):=by
 refine aeM (by rw[C.ft];exact aeu) (by simp) ?_;unfold NZ;simp only[enter];refine gg3 ?_;obtain⟨n,hn⟩:∃n:Nat,a.length<=n/\b.length<=n/\n<=a.length+b.length/\(n=a.length\/n=b.length):=⟨max a.length b.length,by omega,by omega,by omega,by omega⟩;refine W.fT (fun m st=>∃i acc o c a6 K lo wr,st=⟨⟨[.vs (al a) a.length c1,.vs (al b) b.length c2,.ae,o,.iV c,.iV (i:Nat),a6],lo,K,[]⟩,wr⟩/\m=n+1-i/\i<=n+1/\(i=n+1->c=0)/\(0<=c/\c<=1)/\okW dB acc/\acc.length=i/\cF iC 1 3 K o acc []/\WV dB acc+dB^i*c=WV dB (a.take i)+WV dB (b.take i))
  (fun m st ⟨i,acc,o,c,a6,K,lo,wr,hst,hm,hi,hic,hc,oA,lA,ho,hv⟩=>?_) (m:=n+1) ⟨0,[],.ae,0,_,_,_,_,rfl,rfl,by omega,fun _=>rfl,⟨by decide,by decide⟩,ix,rfl,.nO,by simp[WV]⟩
 subst hst;by_cases hend:i<a.length\/i<b.length\/0<c
 . have ga:=Fm oa i;have gb:=Fm ob i;have ta:=sm (B:=dB) (y:=a) (i:=i);have tb:=sm (B:=dB) (y:=b) (i:=i);have q1:=fun h=>C.yM a c1 i h (by omega)
   have q2:=fun h=>C.yM b c2 i h (by omega)
   rw[Int.toNat_natCast]at q1 q2;have za:a.length<=i->fK a i=0:=fun h=>if_neg (by omega)
   have zb:b.length<=i->fK b i=0:=fun h=>if_neg (by omega)
   generalize fK a i=x at *
   generalize fK b i=y at *
   have hi2:i<=n:=by
    rcases Nat.lt_or_ge n i with h|h
    . have:=hic (by omega);omega
    . exact h
   obtain⟨R,hR⟩:∃R,R=(x+y+c)%1000000000:=⟨_,rfl⟩;obtain⟨D,hD⟩:∃D,D=(x+y+c)/1000000000:=⟨_,rfl⟩;have hroom:(acc.length+1)*8<=dG:=by unfold dG;omega
   have hD0:i+1=n+1->D=0:=fun h=>by
    have h1:=za (by omega);have h2:=zb (by omega);omega
   have hval:WV dB (acc++[R])+dB^(i+1)*D=WV dB (a.take (i+1))+WV dB (b.take (i+1)):=by
    rw[fI,lA,ta,tb,Int.pow_succ];have e1:WV dB [R]=R:=by simp[WV]
    have e2:R+1000000000*D=x+y+c:=by omega
    have e3:dB^i*(R+1000000000*D)=dB^i*(x+y+c):=by rw[e2]
    rw[e1];show WV dB acc+dB^i*R+dB^i*1000000000*D=_;grind
   unfold Ff;exact gg2
 . have h1:a.take i=a:=List.take_of_length_le (by omega);have h2:b.take i=b:=List.take_of_length_le (by omega);have hc0:c=0:=by omega
   rw[h1,h2,hc0,Int.mul_zero,Int.add_zero]at hv;unfold Ff;exact gg8
theorem aeO (C:Fp M)(a b:List Int)(oa:okW dB a)(ob:okW dB b)(la:a.length<1000000)(lb:b.length<=a.length)(hle:WV dB b<=WV dB a):yB M 219 [.vs (al a) a.length c1,.vs (al b) b.length c2] (WV dB a-WV dB b):=by
 refine EE (by rw[C.ft];exact aev) (by simp) ?_;unfold Oa;simp only[enter];refine gg3 ?_;refine W.iT a.length (fun i st=>∃acc o c a6 K lo wr,st=⟨⟨[.vs (al a) a.length c1,.vs (al b) b.length c2,.ae,o,.iV c,.iV i,a6],lo,K,[]⟩,wr⟩/\(0<=c/\c<=1)/\okW dB acc/\acc.length=i/\cF iC 1 3 K o acc []/\WV dB acc-dB^i*c=WV dB (a.take i)-WV dB (b.take i))
  (fun i st hi ⟨acc,o,c,a6,K,lo,wr,hst,hc,oA,lA,ho,hv⟩=>?_) (fun st ⟨acc,o,c,a6,K,lo,wr,hst,hc,oA,lA,ho,hv⟩=>?_) (Nat.zero_le _) ⟨[],.ae,0,_,_,_,_,rfl,⟨by decide,by decide⟩,ix,rfl,.nO,by simp[WV]⟩
 . subst hst;have ga:=cf oa hi;have gb:=Fm ob i;have ta:=fh (b:=dB) (l:=a) hi;have tb:=sm (B:=dB) (y:=b) (i:=i);have q2:=fun h=>C.yM b c2 i h (by omega)
   rw[Int.toNat_natCast]at q2;obtain⟨x,hx⟩:∃x,x=a[((i:Int)).toNat]! := ⟨_,rfl⟩;rw[show a[i]! = x from hx.symm]at ga ta;have ga:0<=x/\x<1000000000:=ga;generalize fK b i=y at *
   have hroom:(acc.length+1)*8<=dG:=by unfold dG;omega
   have next:∀(R D:Int) H o' a6 lo wr,cF iC 1 3 H o' (acc++[R]) []->(0<=D/\D<=1)->(0<=R/\R<1000000000)->R-1000000000*D=x-y-c->LI (fun st=>∃acc o c a6 K lo wr,st=⟨⟨[.vs (al a) a.length c1,.vs (al b) b.length c2,.ae,o,.iV c,.iV ((i+1:Nat):Int),a6],lo,K,[]⟩,wr⟩/\(0<=c/\c<=1)/\okW dB acc/\acc.length=i+1/\cF iC 1 3 K o acc []/\WV dB acc-dB^(i+1)*c=WV dB (a.take (i+1))-WV dB (b.take (i+1)))
    (BQ 0 (SQ M (zR [zm 33 3,z1 34 242 33,zw 2 34] (.ret)) (fun e s=>(e = .normal\/e = .ret)/\s.s.bZ=[]/\∃vs,dh s.s [.var (.p 2)]=some vs/\∃r:List Int,(okW dB r/\aN r/\WV dB r=WV dB a-WV dB b)/\gk (aW vs) (if (aW vs).top<=0 then [] else s.s.hp) r)))
    .normal ⟨⟨[.vs (al a) a.length c1,.vs (al b) b.length c2,.ae,o',.iV D,.iV ((i:Int)+1),a6],lo,H,[]⟩,wr⟩:=fun R D H o' a6 lo wr ho' hD hR he=>
    dE ⟨acc++[R],o',D,a6,H,lo,wr,rfl,hD,jj oA (fun z hz=>by rw[List.mem_singleton.1 hz];exact hR),by simp[lA],ho',by
     rw[fI,lA,ta,tb,Int.pow_succ];have e1:WV dB [R]=R:=by simp[WV]
     have e3:dB^i*(R-1000000000*D)=dB^i*(x-y-c):=by rw[he]
     rw[e1];show WV dB acc+dB^i*R-dB^i*1000000000*D=_;grind⟩
   by_cases hneg:x-y-c<0
   . rw[hx]at hneg;unfold qV;exact gg15
   . rw[hx]at hneg;unfold qV;exact gg15
 . subst hst;have h2:b.take a.length=b:=List.take_of_length_le lb;rw[List.take_length,h2]at hv;have hc0:c=0:=by
    have h1:=da (b:=dB) (by decide) oA;rw[lA]at h1;rcases (show c=0\/c=1 by omega) with h|h
    . exact h
    . rw[h,Int.mul_one]at hv;omega
   rw[hc0,Int.mul_zero,Int.sub_zero]at hv;obtain⟨g1,g2,g3⟩:=oW oA;rcases ho with ⟨rfl,rfl⟩|⟨k,cap,_,rfl,hk,hcap⟩
   . have ha0:a.length=0:=lA.symm;have q0:CT M (iq 242) [.ae] K ⟨.ae,K,[]⟩:=CT.run (fi:=[]) (ca:=[]) (C.dP _ _) (Fo C.ft K);unfold qV;exact gg5
   . have hpos:0<acc.length\/acc.length=0:=by omega
     rcases hpos with h0|h0
     . obtain rfl:cap=none:=hcap.resolve_right fun h=>by rw[h.1]at h0;simp at h0
       have q1:=pa (cap:=none) C.ft C.dP hk h0 (Nat.le_refl _) (by omega) (fun c hc=>by cases hc);have hout:=gk.trim (cap:=none) hk (Nat.le_refl acc.length);rw[List.take_length]at q1 hout;unfold qV;exact gg5
     . have ha0:acc=[]:=List.eq_nil_of_length_eq_zero h0;subst ha0;have q1:CT M (iq 242) [.sl k 0 ([]:List Int).length 1 cap] K ⟨.sl k 0 ([]:List Int).length 1 cap,K,[]⟩:=CT.run (fi:=[]) (ca:=[]) (C.dP _ _) (EL C.ft hk);unfold qV;exact gg5
end Go.Ab.Ch1

/-
  Own work: the reference's integers: signs, sums, products, negatives.
-/
namespace Go.Ab.Ch1
open Go.Ab.bj
variable {M:ax} {cap c1 c2:Option Nat}
theorem aeP (hft:M.FT=FT)(l:List Int)(hl:l.length<1000000000)(K:ab):aT M 242 [.vs (al l) l.length cap] K ⟨.vs (al (l.take (aQ l))) (l.take (aQ l)).length cap,K,[]⟩:=by
 refine lf (by rw[hft];exact yr) (by simp) (by simp[AV.top,fk]) ?_;have loop:∀(r:Nat) (lo:List (Nat×AV)) (a1:AV) {Q:Ex->aq->Prop},r<=l.length->aQ (l.take r)=aQ l->(∀lo,Q (.exit 0) ⟨⟨[.vs (al (l.take (aQ l))) (l.take (aQ l)).length cap,a1],lo,K,[]⟩,[]⟩)->W M (.loop jx) ⟨⟨[.vs (al (l.take r)) (l.take r).length cap,a1],lo,K,[]⟩,[]⟩ Q:=by
  intro r;induction r with
  | zero=>
   intro lo a1 Q hr he hQ;have e0:aQ l=0:=by rw[←he];rfl
   rw[e0]at hQ;have hl0:(l.take 0).length=0:=rfl;refine W.loop ?_;unfold jx;exact gg1
  | succ r ih=>
   intro lo a1 Q hr he hQ;have e:=nZ (l:=l) (i:=r) (by omega);have hlr:(l.take (r+1)).length=r+1:=by rw[List.length_take];omega
   have eg:(l.take (r+1))[(((l.take (r+1)).length:Int)-1).toNat]! = l[r]! := by
    rw[hlr,show (((r+1:Nat):Int)-1).toNat=r by omega,List.getElem!_eq_getElem?_getD,List.getElem!_eq_getElem?_getD,List.getElem?_take_of_lt (by omega)]
   have et:(l.take (r+1)).take ((((l.take (r+1)).length:Nat):Int)-1).toNat=l.take r:=by
    rw[hlr,show (((r+1:Nat):Int)-1).toNat=r by omega,List.take_take,Nat.min_eq_left (by omega)]
   have next:∀lo,W M (.loop jx) ⟨⟨[.vs (al ((l.take (r+1)).take ((((l.take (r+1)).length:Nat):Int)-1).toNat)) ((l.take (r+1)).take ((((l.take (r+1)).length:Nat):Int)-1).toNat).length cap,a1],lo,K,[]⟩,[]⟩ Q\/l[r]! ≠ 0:=fun lo=>by
    by_cases h0:l[r]! = 0
    . rw[if_pos h0]at e;rw[et];exact .inl (ih _ _ (by omega) (e.symm.trans he) hQ)
    . exact .inr h0
   have fin:l[r]! ≠ 0->l.take (aQ l)=l.take (r+1):=fun h0=>by
    rw[if_neg h0]at e;rw[←he,e]
   rw[←eg]at next fin
   refine W.loop ?_;by_cases h0:(l.take (r+1))[(((l.take (r+1)).length:Int)-1).toNat]! = 0
   . have next:=fun lo=>(next lo).resolve_right fun h=>h h0
     generalize l.take (r+1)=L at *
     unfold jx;exact gg9
   . rw[fin h0]at hQ;generalize l.take (r+1)=L at *
     unfold jx;exact gg9
 unfold tA;simp only[enter];refine gg3 ?_;have h0:=loop l.length;rw[List.take_length]at h0;refine h0 _ _ (Nat.le_refl _) rfl (fun lo=>?_);exact gg7
def bN (neg:Bool)(z:Int):Int:=if neg then -z else z
theorem aeQ (hft:M.FT=FT)(dP:∀ars h,M.ext 242 ars h=none)(neg:Bool){x:AV}{l:List Int}(hx:cH x l)(ok:okW dB l)(hl:l.length<1000000000):∃v0,bW v0 (bN neg (WV dB l))/\cN M 196 [.bool neg,x] v0:=by
 obtain⟨g1,g2,g3⟩:=oW ok;rcases hx with rfl|⟨rfl,rfl⟩
 . refine⟨.agg [.bool (neg && decide (0<aQ l)),.vs (al (l.take (aQ l))) (l.take (aQ l)).length none],⟨_,_,_,rfl,.inl rfl,g1,g2,?_,fun h e=>?_⟩,?_⟩
   . rw[g3,bN];cases neg with
     | false=>rfl
     | true=>
      by_cases h0:0<aQ l
      . rw[decide_eq_true h0];rfl
      . rw[decide_eq_false h0];have:WV dB l=0:=by rw[←g3,show aQ l=0 by omega];rfl
        rw[this];rfl
   . rw[Bool.and_eq_true,decide_eq_true_eq]at h;have:=congrArg List.length e;have hle:=ik (l:=l);rw[List.length_take,List.length_nil]at this;omega
   . have q1:=fun K=>CT.run (fi:=[]) (ca:=[]) (ars:=[.vs (al l) l.length none]) (dP _ _) (aeP (cap:=none) hft l hl K)
     have hT:(l.take (aQ l)).length=aQ l:=by rw[List.length_take];have:=ik (l:=l);omega
     generalize l.take (aQ l)=L at *
     rw[←hT];have fin:∀(b:Bool) hh,fj (.agg [.bool b,.vs (al L) L.length none]) hh (.agg [.bool b,.vs (al L) L.length none]):=fun b hh=>.same (by simp[AV.top,br,fk]) (by simp[bO,cP,oZ])
     refine cO (by rw[hft];exact yq) (by simp) ?_;unfold tz;simp only[enter];cases neg with
     | false=>
      exact gg4
     | true=>
      by_cases h0:0<L.length
      . rw[decide_eq_true h0];exact gg4
      . rw[decide_eq_false h0];exact gg4
 . refine⟨.agg [.bool false,.ae],⟨false,.ae,[],rfl,.inr ⟨rfl,rfl⟩,ix,jE,by cases neg <;> rfl,fun h=>by cases h⟩,?_⟩;have q1:=fun K=>CT.run (fi:=[]) (ca:=[]) (ars:=[.ae]) (dP _ _) (Fo hft K)
   refine cO (by rw[hft];exact yq) (by simp) ?_;unfold tz;simp only[enter];cases neg with
   | false=>
    exact gg4
   | true=>
    exact gg4
end Go.Ab.Ch1

/-
  Own work: the reference's integers: sums, products, negatives, quotients rounded downwards.
-/
namespace Go.Ab.Ch1
open Go.Ab.bj
variable {M:ax} {cap c1 c2:Option Nat} {N:Nat}
theorem cH.gw {h:ab}{x:AV}{l:List Int}(hx:cH x l):cZ h x (.vs (al l) l.length none):=by
 rcases hx with rfl|⟨rfl,rfl⟩
 . exact cZ.mA (vy (fun _=>.cons (.atom rfl) .nil) l)
 . exact .nil
theorem bW.abs {v:AV}{z:Int}(h:bW v z)(lz:ah z<dB^N):∃neg x l,v = .agg [.bool neg,x]/\cH x l/\okW dB l/\aN l/\l.length<=N/\z=bN neg (WV dB l)/\WV dB l=ah z/\(neg=true->l≠[]):=by
 obtain⟨neg,x,l,rfl,hx,ok,nr,hz,hn⟩:=h;have h0:=cC (b:=dB) (by decide) ok;have e:WV dB l=ah z:=by
  rw[hz];unfold ah;cases neg with
  | false=>simp only[Bool.false_eq_true,↓reduceIte];rw[if_neg (by omega)]
  | true=>simp only[↓reduceIte];split <;> omega
 exact⟨neg,x,l,rfl,hx,ok,nr,fJ (b:=dB) (by decide) ok nr (by rw[e];exact lz),hz,e,hn⟩
structure yN (M:ax):Prop where
 ft:M.FT=FT
 Ot:∀l m k1 k2,okW dB l->okW dB m->l.length<1000000->m.length<1000000->∃r,okW dB r/\WV dB r=WV dB l+WV dB m/\r.length<=l.length+m.length+1/\∀x y h,cZ h x (.vs (al l) l.length k1)->cZ h y (.vs (al m) m.length k2)->M.ext 206 [x,y] h=some ⟨.vs (al r) r.length none,h,[]⟩
 Fq:∀l m,okW dB l->okW dB m->aN l->aN m->l.length<1000000->m.length<1000000->WV dB m<=WV dB l->∃r,okW dB r/\aN r/\WV dB r=WV dB l-WV dB m/\∀x y h,cH x l->cH y m->M.ext 219 [x,y] h=some ⟨.vs (al r) r.length none,h,[]⟩
 tI:∀l m x y h,okW dB l->okW dB m->aN l->aN m->l.length<1000000->m.length<1000000->cH x l->cH y m->M.ext 218 [x,y] h=some ⟨.iV (bh (WV dB l-WV dB m)),h,[]⟩
 qR:∀l m,okW dB l->okW dB m->l.length<1000000->m.length<1000000->∃r,okW dB r/\aN r/\WV dB r=WV dB l*WV dB m/\∀x y h,cH x l->cH y m->M.ext 197 [x,y] h=some ⟨.vs (al r) r.length none,h,[]⟩
 jU:∀neg x l,cH x l->okW dB l->l.length<1000000000->∃v0,bW v0 (bN neg (WV dB l))/\∀h,M.ext 196 [.bool neg,x] h=some ⟨v0,h,[]⟩
theorem bW.out {v:AV}{z:Int}{hh:ab}(h:bW v z):fj (aW [v]) hh v:=by
 obtain⟨neg,x,l,rfl,_,_,ht,hc⟩:=h.shape;refine .same ?_ ?_
 . show max 0 (max x.top 0)=0;rw[ht];rfl
 . show AV.agg [.bool neg,bO x]=_;rw[hc]
theorem aeR (C:yN M){a:AV}{z:Int}(ha:bW a z)(lz:ah z<dB^N)(hN:N<=100000):∃v0,bW v0 (-z)/\cN M 194 [a] v0:=by
 obtain⟨neg,x,l,rfl,hx,ok,nr,ll,hz,_,_⟩:=ha.abs lz;obtain⟨v0,h0,q⟩:=C.jU (!neg) x l hx ok (by omega);have e:bN (!neg) (WV dB l) = -z:=by rw[hz];cases neg <;> simp[bN]
 rw[e]at h0;refine⟨v0,h0,cO (by rw[C.ft];exact aex) (by simp) ?_⟩;have out:=fun hh=>h0.out (hh:=hh)
 obtain⟨n0,x0,l0,rfl,hx0,o0,_,_⟩:=h0.shape;unfold Oc;simp only[enter];cases neg;all_goals
 . rcases hx with rfl|⟨rfl,rfl⟩;all_goals
   . repeat' first|(apply adi;rfl;rfl;rfl;exact⟨rfl,Nat.le_refl _,fO o0⟩;rfl)|apply abn|apply aM|apply abp|apply abC|apply abS|(apply aco;rfl;rfl;first|exact q _)|(apply agb;rfl;(first|(focus((repeat' first|exact bX|assumption|apply bS);done))|exact cW (by simp));rfl)|(apply acY;rfl;rfl;rfl)|(apply abg;rfl;rfl)
     all_goals exact cI rfl rfl (out _)
theorem aeS (C:yN M){a b:AV}{za zb:Int}(ha:bW a za)(hb:bW b zb)(la:ah za<dB^N)(lb:ah zb<dB^N)(hN:N<=100000):∃v0,bW v0 (za*zb)/\cN M 137 [a,b] v0:=by
 obtain⟨na,x,l,rfl,hx,ok,nr,ll,hz,_,_⟩:=ha.abs la;obtain⟨nb,y,m,rfl,hy,ok',nr',lm,hz',_,_⟩:=hb.abs lb;obtain⟨r,okr,nrr,vr,q197⟩:=C.qR l m ok ok' (by omega) (by omega);have q197a:=fun h=>q197 x y h hx hy
 have hrl:r.length<=2*N:=fJ (b:=dB) (by decide) okr nrr (by
  have h1:=da (b:=dB) (by decide) ok;have h2:=da (b:=dB) (by decide) ok';have h3:=cC (b:=dB) (by decide) ok;have h4:=cC (b:=dB) (by decide) ok';have p1:dB^l.length<=dB^N:=fP (by decide) ll;have p2:dB^m.length<=dB^N:=fP (by decide) lm;rw[vr,show 2*N=N+N by omega,Int.pow_add];have hp:(0:Int)<dB^N:=Int.pow_pos (by decide);have a1:=Int.mul_le_mul_of_nonneg_left (show WV dB m<=dB^N by omega) h3;have a2:=Int.mul_lt_mul_of_pos_right (show WV dB l<dB^N by omega) hp;omega)
 obtain⟨v0,h0,q196⟩:=C.jU (na != nb) _ r (.inl rfl) okr (by omega);have e:bN (na != nb) (WV dB r)=za*zb:=by
  rw[hz,hz',vr];cases na <;> cases nb <;> simp[bN,Int.neg_mul,Int.mul_neg]
 rw[e]at h0;refine⟨v0,h0,cO (by rw[C.ft];exact aey) (by simp) ?_⟩;have out:=fun hh=>h0.out (hh:=hh)
 obtain⟨n0,x0,l0,rfl,hx0,o0,_,_⟩:=h0.shape;unfold Od;simp only[enter];cases na;all_goals
 . cases nb;all_goals
   . rcases hx with rfl|⟨rfl,rfl⟩;all_goals
     . rcases hy with rfl|⟨rfl,rfl⟩;all_goals
       . repeat' first|(apply afA;rfl;rfl;(first|(simp only[nca];rfl)|rfl);first|exact q197a _|exact q196 _)|(apply adi;rfl;rfl;rfl;exact⟨rfl,Nat.le_refl _,fO o0⟩;rfl)|(apply agb;rfl;(first|(focus((repeat' first|exact bX|assumption|apply bS);done))|exact cW (by simp));rfl)|apply abn|apply aM|apply abp|apply abC|apply abS|apply aet|apply afd|(apply afE;rfl)|(apply aft;rfl;rfl;(first|(simp only[nca];rfl)|rfl))|(apply afI;rfl;(first|(simp only[nca];rfl)|rfl);(first|(simp only[nca];rfl)|rfl))|(apply acY;rfl;rfl;rfl)|(apply abg;rfl;rfl)
         all_goals exact cI rfl rfl (out _)
end Go.Ab.Ch1

/-
  Own work: the reference's integers: sums.
-/
namespace Go.Ab.Ch1
open Go.Ab.bj
variable {M:ax} {cap c1 c2:Option Nat} {N:Nat}
theorem aeT {x y:Int}:(y<=x/\0<=bh (x-y))\/(x<y/\bh (x-y) = -1):=by
 unfold bh;by_cases h:x<y
 . exact .inr ⟨h,if_pos (by omega)⟩
 . refine .inl ⟨by omega,?_⟩;rw[if_neg (by omega)];split <;> omega
theorem aeU (C:yN M){a b:AV}{za zb:Int}(ha:bW a za)(hb:bW b zb)(la:ah za<dB^N)(lb:ah zb<dB^N)(hN:N<=100000):∃v0,bW v0 (za+zb)/\cN M 170 [a,b] v0:=by
 obtain⟨na,x,l,rfl,hx,ok,nr,ll,hz,_,_⟩:=ha.abs la;obtain⟨nb,y,m,rfl,hy,ok',nr',lm,hz',_,_⟩:=hb.abs lb;have q218:=fun h=>C.tI l m x y h ok ok' nr nr' (by omega) (by omega) hx hy
 have goal:∃v0,bW v0 (za+zb)/\((na=nb/\∃r:List Int,(∀h,M.ext 206 [x,y] h=some ⟨.vs (al r) r.length none,h,[]⟩)/\∀h,M.ext 196 [.bool na,.vs (al r) r.length none] h=some ⟨v0,h,[]⟩)
  \/ (na≠nb/\0<=bh (WV dB l-WV dB m)/\∃r:List Int,(∀h,M.ext 219 [x,y] h=some ⟨.vs (al r) r.length none,h,[]⟩)/\∀h,M.ext 196 [.bool na,.vs (al r) r.length none] h=some ⟨v0,h,[]⟩)
  \/ (na≠nb/\bh (WV dB l-WV dB m) = -1/\∃r:List Int,(∀h,M.ext 219 [y,x] h=some ⟨.vs (al r) r.length none,h,[]⟩)/\∀h,M.ext 196 [.bool nb,.vs (al r) r.length none] h=some ⟨v0,h,[]⟩)):=by
  by_cases hn:na=nb
  . subst hn;obtain⟨r,okr,vr,lr,q206⟩:=C.Ot l m none none ok ok' (by omega) (by omega);obtain⟨v0,h0,q196⟩:=C.jU na _ r (.inl rfl) okr (by omega);refine⟨v0,?_,.inl ⟨rfl,r,fun h=>q206 x y h hx.gw hy.gw,q196⟩⟩;have e:bN na (WV dB r)=za+zb:=by rw[hz,hz',vr];cases na <;> simp[bN] <;> omega
    rw[e]at h0;exact h0
  . rcases aeT (x:=WV dB l) (y:=WV dB m) with ⟨h1,h2⟩|⟨h1,h2⟩
    . obtain⟨r,okr,nrr,vr,q219⟩:=C.Fq l m ok ok' nr nr' (by omega) (by omega) h1;have lr:r.length<=N:=fJ (b:=dB) (by decide) okr nrr (by
       have:=da (b:=dB) (by decide) ok;have:=cC (b:=dB) (by decide) ok';have:dB^l.length<=dB^N:=fP (by decide) ll;omega)
      obtain⟨v0,h0,q196⟩:=C.jU na _ r (.inl rfl) okr (by omega);refine⟨v0,?_,.inr (.inl ⟨hn,h2,r,fun h=>q219 x y h hx hy,q196⟩)⟩;have e:bN na (WV dB r)=za+zb:=by rw[hz,hz',vr];cases na <;> cases nb <;> simp[bN]at hn ⊢ <;> omega
      rw[e]at h0;exact h0
    . obtain⟨r,okr,nrr,vr,q219⟩:=C.Fq m l ok' ok nr' nr (by omega) (by omega) (by omega);have lr:r.length<=N:=fJ (b:=dB) (by decide) okr nrr (by
       have:=da (b:=dB) (by decide) ok';have:=cC (b:=dB) (by decide) ok;have:dB^m.length<=dB^N:=fP (by decide) lm;omega)
      obtain⟨v0,h0,q196⟩:=C.jU nb _ r (.inl rfl) okr (by omega);refine⟨v0,?_,.inr (.inr ⟨hn,h2,r,fun h=>q219 y x h hy hx,q196⟩)⟩;have e:bN nb (WV dB r)=za+zb:=by rw[hz,hz',vr];cases na <;> cases nb <;> simp[bN]at hn ⊢ <;> omega
      rw[e]at h0;exact h0
 obtain⟨v0,h0,goal⟩:=goal;refine⟨v0,h0,cO (by rw[C.ft];exact aew) (by simp) ?_⟩;have out:=fun hh=>h0.out (hh:=hh)
 obtain⟨n0,x0,l0,rfl,hx0,o0,_,_⟩:=h0.shape;clear ha hb hz hz' h0;generalize bh (WV dB l-WV dB m)=g at *
 have hxs:x = .vs (al l) l.length none\/x = .ae:=by rcases hx with h|⟨h,_⟩ <;> simp[h]
 have hys:y = .vs (al m) m.length none\/y = .ae:=by rcases hy with h|⟨h,_⟩ <;> simp[h]
 clear hx hy;unfold Ob;simp only[enter];rcases goal with ⟨rfl,r,qa,qb⟩|⟨hn,hg,r,qa,qb⟩|⟨hn,rfl,r,qa,qb⟩
 . cases na;all_goals
   . rcases hxs with rfl|rfl;all_goals
     . rcases hys with rfl|rfl;all_goals
       . repeat' first|(apply afA;rfl;rfl;(first|(simp only[nca];rfl)|rfl);first|exact qa _|exact qb _)|(apply adi;rfl;rfl;rfl;exact⟨rfl,Nat.le_refl _,fO o0⟩;rfl)|(apply agb;rfl;(first|(focus((repeat' first|exact bX|assumption|apply bS);done))|exact cW (by simp));rfl)|apply abn|apply aM|apply abp|apply abC|apply abS|apply cd|apply aet|apply afd|(apply afE;rfl)|(apply aft;rfl;rfl;(first|(simp only[nca];rfl)|rfl))|(apply afI;rfl;(first|(simp only[nca];rfl)|rfl);(first|(simp only[nca];rfl)|rfl))|(apply acL;rfl)|(apply acY;rfl;rfl;rfl)|(apply abg;rfl;rfl)
         all_goals exact cI rfl rfl (out _)
 . cases na;all_goals
   . cases nb;all_goals first|exact absurd rfl hn|skip
     all_goals
     . rcases hxs with rfl|rfl;all_goals
       . rcases hys with rfl|rfl;all_goals
         . repeat' first|(apply aco;rfl;rfl;first|exact q218 _|exact qa _|exact qb _)|(apply afA;rfl;rfl;(first|(simp only[nca];rfl)|rfl);first|exact q218 _|exact qa _|exact qb _)|(apply adi;rfl;rfl;rfl;exact⟨rfl,Nat.le_refl _,fO o0⟩;rfl)|(apply agb;rfl;(first|(focus((repeat' first|exact bX|assumption|apply bS);done))|exact cW (by simp));rfl)|apply abn|apply aM|apply abp|apply abC|apply abS|apply acQ|apply cd|apply aet|apply afd|(apply afE;rfl)|(apply aft;rfl;rfl;(first|(simp only[nca];rfl)|rfl))|(apply afI;rfl;(first|(simp only[nca];rfl)|rfl);(first|(simp only[nca];rfl)|rfl))|(apply acL;rfl)|(apply acS;rfl)|(apply afM;rfl;rfl)|(apply acY;rfl;rfl;rfl)|(apply abg;rfl;rfl)|(intro _;omega)|intro _
           all_goals try omega
           all_goals exact cI rfl rfl (out _)
 . cases na;all_goals
   . cases nb;all_goals first|exact absurd rfl hn|skip
     all_goals
     . rcases hxs with rfl|rfl;all_goals
       . rcases hys with rfl|rfl;all_goals
         . repeat' first|(apply aco;rfl;rfl;first|exact q218 _|exact qa _|exact qb _)|(apply afA;rfl;rfl;(first|(simp only[nca];rfl)|rfl);first|exact q218 _|exact qa _|exact qb _)|(apply adi;rfl;rfl;rfl;exact⟨rfl,Nat.le_refl _,fO o0⟩;rfl)|(apply agb;rfl;(first|(focus((repeat' first|exact bX|assumption|apply bS);done))|exact cW (by simp));rfl)|apply abn|apply aM|apply abp|apply abC|apply abS|apply acQ|apply aet|apply afd|(apply afE;rfl)|(apply aft;rfl;rfl;(first|(simp only[nca];rfl)|rfl))|(apply afI;rfl;(first|(simp only[nca];rfl)|rfl);(first|(simp only[nca];rfl)|rfl))|(apply acS;rfl)|(apply afM;rfl;rfl)|(apply acY;rfl;rfl;rfl)|(apply abg;rfl;rfl)|(intro _;omega)|intro _
           all_goals try omega
           all_goals exact cI rfl rfl (out _)
end Go.Ab.Ch1

/-
  Own work: the reference's integers: texts of digits.
-/
namespace Go.Ab.Ch1
open Go.Ab.bj
variable {M:ax} {cap c1 c2:Option Nat} {N:Nat}
theorem aeV (k n:Nat):dK (n/10^k%10)::cJ k n=cJ (k+1) n:=by
 refine KI (by simp[ku]) fun j hj=>?_
 cases j with
 | zero=>rfl
 | succ j=>
  have e:(dK (n/10^k%10)::cJ k n)[j+1]! = (cJ k n)[j]! := by simp[List.getElem!_eq_getElem?_getD]
  rw[e,Dg (by omega),show k+1-1-(j+1)=k-1-j by omega]
theorem aeW {d:Nat}(h:d<10):(([48,49,50,51,52,53,54,55,56,57]:ao).drop d).take (d+1-d)=[dK d]:=by
 match d,h with
 | 0,_=>rfl
 | 1,_=>rfl
 | 2,_=>rfl
 | 3,_=>rfl
 | 4,_=>rfl
 | 5,_=>rfl
 | 6,_=>rfl
 | 7,_=>rfl
 | 8,_=>rfl
 | 9,_=>rfl
theorem Fs:(10:Nat)^19=10000000000000000000:=rfl
theorem Ou (hft:M.FT=FT)(n L:Nat)(hn:n<9223372036854775808)(hL:1<=L/\L<=18):∃k,L<=k/\n<10^k/\(k=L\/10^(k-1)<=n)/\aT M 117 [.iV (n:Nat),.iV (L:Nat)] [] ⟨.str (cJ k n),[],[]⟩:=by
 obtain⟨v,hh,⟨k,h1,h2,h3,rfl,rfl⟩,hr⟩:=gQ (M:=M) (f:=117) (ars:=[.iV (n:Nat),.iV (L:Nat)]) (P:=fun v hh=>∃k,L<=k/\n<10^k/\(k=L\/10^(k-1)<=n)/\v = .str (cJ k n)/\hh=[]) (by rw[hft];exact aeA) (by simp) (by
  unfold Og;simp only[enter];refine gg3 ?_;refine W.fT (fun m st=>∃j lo wr,st=⟨⟨[.iV (n/10^j:Nat),.iV L,.str [],.str (cJ j n)],lo,[],[]⟩,wr⟩/\m=20-j/\j<=20/\(j<=L\/10^(j-1)<=n)) (fun m st ⟨j,lo,wr,hst,hm,hj,hb⟩=>?_) (m:=20) ⟨0,[],[],by rw[Nat.pow_zero,Nat.div_one];rfl,rfl,by omega,.inl (by omega)⟩;subst hst;have hl:=ku j n;by_cases hgo:0<n/10^j\/j<L
  . have hj19:j<19:=by
     rcases Nat.lt_or_ge j 19 with h|h
     . exact h
     . exfalso;have p:(10:Nat)^19<=10^j:=Nat.pow_le_pow_right (by decide) h;rw[Fs]at p;have:n/10^j=0:=Nat.div_eq_of_lt (by omega);omega
    have hd:n/10^j%10<10:=Nat.mod_lt _ (by decide);have ec:=aeW hd;have ef:=aeV j n;have eq:n/10^j/10=n/10^(j+1):=by rw[Nat.div_div_eq_div_mul,Nat.pow_succ]
    have hb':j+1<=L\/10^(j+1-1)<=n:=by
     rcases hgo with h|h
     . right;rw[Nat.add_sub_cancel];refine Nat.le_of_not_lt fun h2=>?_
       rw[Nat.div_eq_of_lt h2]at h;omega
     . exact .inl h
    have hq:n/10^j<=n:=Nat.div_le_self _ _;obtain⟨q,hqq⟩:∃q,q=n/10^j:=⟨_,rfl⟩;rw[←hqq]at hd ec ef eq hq hgo;rw[←hqq];generalize cJ j n=s at *
    have e1:(((q:Nat):Int)%10).toNat=q%10:=by omega
    have e2:(((q:Nat):Int)%10+1).toNat=q%10+1:=by omega
    have ec':(([48,49,50,51,52,53,54,55,56,57]:ao).drop (((q:Nat):Int)%10).toNat).take ((((q:Nat):Int)%10+1).toNat-(((q:Nat):Int)%10).toNat)=[dK (q%10)]:=by rw[e1,e2];exact ec
    have l1:([dK (q%10)]:ao).length=1:=rfl;have fin:∀lo wr,LI (fun st=>∃m',m'<m/\∃j lo wr,st=⟨⟨[.iV (n/10^j:Nat),.iV L,.str [],.str (cJ j n)],lo,[],[]⟩,wr⟩/\m'=20-j/\j<=20/\(j<=L\/10^(j-1)<=n))
     (BQ 0 (SQ M (zR [zm 24 3,zw 2 24] (.ret)) (fun e s=>(e = .normal\/e = .ret)/\s.s.bZ=[]/\∃vs,dh s.s [.var (.p 2)]=some vs/\∃k,L<=k/\n<10^k/\(k=L\/10^(k-1)<=n)/\aW vs = .str (cJ k n)/\(if (aW vs).top<=0 then [] else s.s.hp)=[])))
     .normal ⟨⟨[.iV (((q:Nat):Int)/10),.iV L,.str [],.str ([dK (q%10)]++s)],lo,[],[]⟩,wr⟩:=fun lo wr=>
     dE ⟨20-(j+1),by omega,j+1,lo,wr,by
      rw[←ef,←eq];rfl,rfl,by omega,hb'⟩
    unfold Fg;exact gg8
  . have h0:n/10^j=0:=(Nat.eq_zero_or_pos _).resolve_right fun h=>hgo (.inl h)
    rw[h0];have hlt:n<10^j:=by
     refine Nat.lt_of_not_le fun h=>?_
     have:=Nat.div_pos h (Nat.pow_pos (by decide));omega
    have hk:j=L\/10^(j-1)<=n:=by omega
    unfold Fg;repeat' first|apply abn|apply aM|apply abp|apply abC|apply abS|apply agP|apply jX|apply gh|apply nf|(apply acS;rfl)|(apply afN;rfl)|(apply adf;rfl;rfl)|(apply aep;rfl;rfl)|(apply aej;rfl;rfl)|(apply abg;rfl;rfl)|(apply acn;rfl;rfl)|(intro _;omega)|intro _
    all_goals try omega
    all_goals exact⟨.inr rfl,rfl,_,rfl,j,by omega,hlt,hk,rfl,rfl⟩)
 exact⟨k,h1,h2,h3,hr⟩
theorem aeX (hft:M.FT=FT)(n:Nat)(hn:n<9223372036854775808):aT M 117 [.iV (n:Nat),.iV 1] [] ⟨.str (aP n),[],[]⟩:=by
 obtain⟨k,h1,h2,h3,hr⟩:=Ou hft n 1 (by omega) (by decide);obtain⟨k,rfl⟩:∃j,k=j+1:=⟨k-1,by omega⟩;rw[Nat.add_sub_cancel]at h3;rw[xp h2 (by omega)];exact hr
theorem aeY (hft:M.FT=FT)(n:Nat)(hn:n<1000000000):aT M 117 [.iV (n:Nat),.iV 9] [] ⟨.str (cJ 9 n),[],[]⟩:=by
 obtain⟨k,h1,h2,h3,hr⟩:=Ou hft n 9 (by omega) (by decide);have:k=9:=by
  rcases h3 with h|h
  . exact h
  . refine Nat.le_antisymm (Nat.le_of_not_lt fun h9=>?_) h1;have p:(10:Nat)^9<=10^(k-1):=Nat.pow_le_pow_right (by decide) (by omega);have e:(10:Nat)^9=1000000000:=rfl;omega
 subst this;exact hr
structure Ov (M:ax):Prop where
 ft:M.FT=FT
 Ow:∀(n:Nat) h,n<1000000000->M.ext 117 [.iV (n:Nat),.iV 1] h=some ⟨.str (aP n),h,[]⟩
 Ox:∀(n:Nat) h,n<1000000000->M.ext 117 [.iV (n:Nat),.iV 9] h=some ⟨.str (cJ 9 n),h,[]⟩
theorem Oy {x:Int}(h:0<=x/\x<1000000000):∃n:Nat,x=(n:Int)/\n<1000000000:=⟨x.toNat,by omega,by omega⟩
theorem aeZ (C:Ov M){a:AV}{z:Int}(ha:bW a z)(lz:ah z<dB^N)(hN:N<=100000):aT M 138 [a] [] ⟨.str (bQ z),[],[]⟩:=by
 obtain⟨neg,x,l,rfl,hx,ok,nr,ll,hz,hv,hnn⟩:=ha.abs lz;by_cases h0:l=[]
 . subst h0;have hneg:neg=false:=by
    cases neg with
    | false=>rfl
    | true=>exact absurd rfl (hnn rfl)
   subst hneg;have z0:z=0:=by rw[hz];rfl
   subst z0;have e0:bQ 0=[48]:=by rw[kA (by decide)];exact gS (by decide)
   rw[e0];refine bB (by rw[C.ft];exact Oh) (by simp) ?_;have hl0:([]:List Int).length=0:=rfl;unfold Fh;simp only[enter];rcases hx with rfl|⟨rfl,_⟩;all_goals
   . exact gg0
 . obtain rfl:x = .vs (al l) l.length none:=hx.resolve_right fun h=>h0 h.2
   have hl0:0<l.length:=List.length_pos_iff.2 h0;have hzs:bQ z=(if neg then 45::aP (WV dB l).toNat else aP (WV dB l).toNat):=by
    have hp:=(iW (b:=dB) (by decide) ok nr).2 h0;rw[hz];cases neg with
    | false=>
     have e:bN false (WV dB l)=WV dB l:=rfl;rw[e,kA (by omega),cD (by omega)];rfl
    | true=>
     have e:bN true (WV dB l) = -WV dB l:=rfl;rw[e,mN (by omega),ja,cD (by omega)];rfl
   have dlen:∀k,k<=l.length->(aP (WV dB (l.drop (l.length-k))).toNat).length<=9*k+1:=fun k hk=>by
    refine oC (k:=9*k+1) ?_ (by omega);have h1:=da (b:=dB) (by decide) (iU ok (l.length-k));have h2:=cC (b:=dB) (by decide) (iU ok (l.length-k));rw[List.length_drop,show l.length-(l.length-k)=k by omega,←Nx]at h1;have:(10:Nat)^(9*k+1)=10^(9*k)*10:=Nat.pow_succ ..;omega
   have hlast:=(si hl0).1 nr;have gl:=cf ok (i:=l.length-1) (by omega);have gl:0<=l[l.length-1]! /\ l[l.length-1]! < 1000000000:=gl;obtain⟨n0,hn0,hn0l⟩:=Oy gl;have eIl:(((l.length:Int))-1).toNat=l.length-1:=by omega
   have q1:∀h,M.ext 117 [.iV l[(((l.length:Int))-1).toNat]!,.iV 1] h=some ⟨.str (aP n0),h,[]⟩:=fun h=>by rw[eIl,hn0];exact C.Ow n0 h hn0l
   have ed0:(WV dB (l.drop (l.length-1))).toNat=n0:=by
    rw[List.drop_eq_getElem_cons (show l.length-1<l.length by omega),show l.length-1+1=l.length by omega,List.drop_length,←getElem!_pos l (l.length-1) (by omega),hn0];simp[WV]
   refine bB (by rw[C.ft];exact Oh) (by simp) ?_;unfold Fh;simp only[enter];refine gg6 ?_;refine W.fT (fun m st=>∃k lo wr,st=⟨⟨[.agg [.bool neg,.vs (al l) l.length none],.ptr 0 0,.str [],.str (aP (WV dB (l.drop (l.length-k))).toNat),.iV ((l.length:Int)-1-(k:Nat))],lo,[some (.cells [.bool neg,.vs (al l) l.length none] 162)],[]⟩,wr⟩/\m=l.length-k/\1<=k/\k<=l.length) (fun m st ⟨k,lo,wr,hst,hm,hk1,hk⟩=>?_) (m:=l.length-1) ⟨1,_,_,by rw[ed0,show (l.length:Int)-1-((1:Nat):Int)=(l.length:Int)-2 by omega];rfl,rfl,by omega,by omega⟩;subst hst;have dk:=dlen k hk;by_cases hend:k=l.length
   . subst hend;have e0:l.drop (l.length-l.length)=l:=by rw[Nat.sub_self,List.drop_zero]
     rw[e0]at dk ⊢;have l45:([45]:ao).length=1:=rfl;rw[hzs];generalize aP (WV dB l).toNat=s0 at *
     cases neg with
     | true=>
      unfold yK;exact gg8
     | false=>
      unfold yK;exact gg8
   . have gi:=cf ok (i:=l.length-1-k) (by omega);have gi:0<=l[l.length-1-k]! /\ l[l.length-1-k]! < 1000000000:=gi;obtain⟨ni,hni,hnil⟩:=Oy gi;have eIi:(((l.length:Int))-1-(k:Nat)).toNat=l.length-1-k:=by omega
     have q2:∀h,M.ext 117 [.iV l[(((l.length:Int))-1-(k:Nat)).toNat]!,.iV 9] h=some ⟨.str (cJ 9 ni),h,[]⟩:=fun h=>by rw[eIi,hni];exact C.Ox ni h hnil
     have hnext:aP (WV dB (l.drop (l.length-(k+1)))).toNat=aP (WV dB (l.drop (l.length-k))).toNat++cJ 9 ni:=by
      have e1:l.drop (l.length-(k+1))=(ni:Int)::l.drop (l.length-k):=by
       rw[List.drop_eq_getElem_cons (show l.length-(k+1)<l.length by omega),←getElem!_pos l (l.length-(k+1)) (by omega),show l.length-(k+1)=l.length-1-k by omega,hni,show l.length-1-k+1=l.length-k by omega]
      have h0:=cC (b:=dB) (by decide) (iU ok (l.length-k));have hp:0<WV dB (l.drop (l.length-k)):=by
       refine(iW (b:=dB) (by decide) (iU ok _) ?_).2 (fun e=>?_)
       . refine(si (by rw[List.length_drop];omega)).2 ?_;rw[List.length_drop,List.getElem!_eq_getElem?_getD,List.getElem?_drop,show l.length-k+(l.length-(l.length-k)-1)=l.length-1 by omega,←List.getElem!_eq_getElem?_getD];exact hlast
       . have:=congrArg List.length e;rw[List.length_drop,List.length_nil]at this;omega
      obtain⟨A,hA⟩:∃A:Nat,WV dB (l.drop (l.length-k))=(A:Int):=⟨_,(Int.toNat_of_nonneg h0).symm⟩;have e2:WV dB ((ni:Int)::l.drop (l.length-k))=((A*10^9+ni:Nat):Int):=by
       show (ni:Int)+dB*WV dB (l.drop (l.length-k))=_;rw[hA];show (ni:Int)+1000000000*A=_;omega
      rw[e1,e2,hA,Int.toNat_natCast,Int.toNat_natCast];exact Dh (by omega) (by show ni<1000000000;exact hnil)
     have hl9:=ku 9 ni;generalize aP (WV dB (l.drop (l.length-k))).toNat=s0 at *
     generalize cJ 9 ni=s9 at *
     have next:∀lo wr Q,LI (fun st=>∃m',m'<m/\∃k lo wr,st=⟨⟨[.agg [.bool neg,.vs (al l) l.length none],.ptr 0 0,.str [],.str (aP (WV dB (l.drop (l.length-k))).toNat),.iV ((l.length:Int)-1-(k:Nat))],lo,[some (.cells [.bool neg,.vs (al l) l.length none] 162)],[]⟩,wr⟩/\m'=l.length-k/\1<=k/\k<=l.length) Q .normal ⟨⟨[.agg [.bool neg,.vs (al l) l.length none],.ptr 0 0,.str [],.str (s0++s9),.iV ((l.length:Int)-1-(k:Nat)-1)],lo,[some (.cells [.bool neg,.vs (al l) l.length none] 162)],[]⟩,wr⟩:=fun lo wr Q=>
      dE ⟨l.length-(k+1),by omega,k+1,lo,wr,by rw[hnext,show (l.length:Int)-1-((k+1:Nat):Int)=(l.length:Int)-1-(k:Nat)-1 by omega],rfl,by omega,by omega⟩
     unfold yK;exact gg2
end Go.Ab.Ch1

/-
  Own work: the reference's integers: machine integers; divisions of nil; greatest common divisors.
-/
namespace Go.Ab.Ch1
open Go.Ab.bj
variable {M:ax} {cap c1 c2:Option Nat} {N:Nat}
section
variable {t:Nat} {x y:aO} {l:List aU} {pe:List AV} {lo:List (Nat×AV)} {hp:ab} {df wr:List Nat} {v a d:Int} {Q:aq->Prop}
theorem ahw (hx:(St.mk pe lo hp df).aa x=some (.iV a))(hy:(St.mk pe lo hp df).aa y=some (.iV d))(ha : -9223372036854775808<=a/\a<9223372036854775808)(hd:0<d)(hv:a.tdiv d=v)
 (h:WO M l ⟨⟨pe,(t,.iV v)::lo,hp,df⟩,wr⟩ Q):WO M (⟨.l t,.bin .quo x y,none⟩::l) ⟨⟨pe,lo,hp,df⟩,wr⟩ Q:=ahj hx hy hd ha (by rw[hv];exact h)
theorem ahM (hx:(St.mk pe lo hp df).aa x=some (.iV a))(hy:(St.mk pe lo hp df).aa y=some (.iV d))(hd:0<d)(hv:a.tmod d=v)
 (h:WO M l ⟨⟨pe,(t,.iV v)::lo,hp,df⟩,wr⟩ Q):WO M (⟨.l t,.bin .rem x y,none⟩::l) ⟨⟨pe,lo,hp,df⟩,wr⟩ Q:=ahk hx hy (by omega) (by rw[hv];exact h)
end
theorem afa {neg:Bool}{m:Int}(h:0<=m):(bN neg m).tmod 1000000000=bN neg (m%1000000000):=by
 cases neg with
 | false=>exact Int.tmod_eq_emod_of_nonneg h
 | true=>show (-m).tmod _=_;rw[Int.neg_tmod,Int.tmod_eq_emod_of_nonneg h];rfl
theorem afb {neg:Bool}{m:Int}(h:0<=m):(bN neg m).tdiv 1000000000=bN neg (m/1000000000):=by
 cases neg with
 | false=>exact Int.tdiv_eq_ediv_of_nonneg h
 | true=>show (-m).tdiv _=_;rw[Int.neg_tdiv,Int.tdiv_eq_ediv_of_nonneg h];rfl
theorem afc (hft:M.FT=FT)(dP:∀ars h,M.ext 242 ars h=none)(neg:Bool)(K:ab):aT M 196 [.bool neg,.ae] K ⟨.agg [.bool false,.ae],K,[]⟩:=by
 have q1:=fun K=>CT.run (fi:=[]) (ca:=[]) (ars:=[.ae]) (dP _ _) (Fo hft K)
 refine lf (by rw[hft];exact yq) (by simp) (by simp[AV.top,br]) ?_;unfold tz;simp only[enter];cases neg with
 | false=>
  exact gg4
 | true=>
  exact gg4
structure CWh (M:ax):Prop where
 ft:M.FT=FT
 dP:∀ars h,M.ext 242 ars h=none
 tG:∀ars h,M.ext 196 ars h=none
theorem Oz:(dB:Int)^3=1000000000000000000000000000:=by decide
theorem afe (C:CWh M)(n:Int)(hn : -9223372036854775808<=n/\n<9223372036854775808):∃v0,bW v0 n/\cN M 139 [.iV n] v0:=by
 obtain⟨neg,m0,hm0,rfl,hneg⟩:∃(neg:Bool) (m:Int),0<=m/\n=bN neg m/\neg=decide (n<0):=by
  by_cases h:n<0
  . exact⟨true,-n,by omega,by show n = - -n;omega,(decide_eq_true h).symm⟩
  . exact⟨false,n,by omega,rfl,(decide_eq_false h).symm⟩
 have hmb:m0<=9223372036854775808:=by cases neg <;> simp[bN]at hn <;> omega
 obtain⟨v,hh,⟨v0,h0,ho⟩,hr⟩:=gQ (M:=M) (f:=139) (ars:=[.iV (bN neg m0)]) (P:=fun v hh=>∃v0,bW v0 (bN neg m0)/\fj v hh v0) (by rw[C.ft];exact adp) (by simp) (by
  have start:∀(Q:Ex->aq->Prop),(∀lo wr,W M (.loop qP) ⟨⟨[.iV (bN neg m0),.ptr 0 0,.ae,.bool neg,cG],lo,[some (.cells [.bool false,.ae] 162)],[]⟩,wr⟩ (BQ 0 (SQ M (zR [zm 22 3,
   zm 23 2,
   z2 24 196 22 23,
   zs 2 1 24]
   (.ret)) Q)))->W M Ew ⟨⟨[.iV (bN neg m0),cG,cG,cG,cG],[],[],[]⟩,[]⟩ Q:=fun Q hQ=>by
   unfold Ew;cases neg with
   | true=>
    have h1:bN true m0<0:=of_decide_eq_true hneg.symm;generalize bN true m0=z at *
    exact gg15
   | false=>
    have h1:¬bN false m0<0:=of_decide_eq_false hneg.symm;generalize bN false m0=z at *
    exact gg15
  simp only[enter];refine start _ fun lo wr=>?_
  refine W.fT (fun k st=>∃m acc o a4 K lo wr,st=⟨⟨[.iV (bN neg m),.ptr 0 0,o,.bool neg,a4],lo,K,[]⟩,wr⟩/\0<=m/\k=m.toNat/\m<=m0/\(acc=[]->o = .ae)/\acc.length<=3/\m<dB^(3-acc.length)/\okW dB acc/\WV dB acc+dB^acc.length*m=m0/\cF iC 1 3 K o acc [0]/\K.at 0=some (.cells [.bool false,.ae] 162))
   (fun k st ⟨m,acc,o,a4,K,lo,wr,hst,hm,hk,hmx,hnil,hla,hlt,oA,hv,ho,hK⟩=>?_) (m:=m0.toNat) ⟨m0,[],.ae,_,_,_,_,rfl,hm0,rfl,Int.le_refl _,fun _=>rfl,by simp,by show m0<dB^3;rw[Oz];omega,ix,by simp[WV],.nO,rfl⟩
  subst hst;have hK1:=eE hK;by_cases hz:m=0
  . subst hz;have e0:bN neg 0=0:=by cases neg <;> rfl
    rw[e0];rw[Int.mul_zero,Int.add_zero]at hv;rcases ho with ⟨rfl,rfl⟩|⟨c,cp,hc0,rfl,hc,hcap⟩
    . have q:=fun K=>CT.run (fi:=[]) (ca:=[]) (ars:=[.bool neg,.ae]) (C.tG _ _) (afc C.ft C.dP neg K)
      have z0:m0=0:=by rw[←hv];rfl
      subst z0;have out:∃v0,bW v0 (bN neg 0)/\∀hh,fj (.agg [.bool false,.ae]) hh v0:=⟨_,⟨false,.ae,[],rfl,.inr ⟨rfl,rfl⟩,ix,jE,by rw[e0];rfl,fun h=>by cases h⟩,fun hh=>.same rfl rfl⟩;obtain⟨v0,k0,out⟩:=out;unfold qP;exact gg7
    . have hpos:0<acc.length\/acc.length=0:=by omega
      rcases hpos with hp|hp
      . obtain rfl:cp=none:=hcap.resolve_right fun h=>by rw[h.1]at hp;simp at hp
        have q196:=CT.run (fi:=[]) (ca:=[]) (ars:=[.bool neg,.sl c 0 acc.length 1 none]) (C.tG _ _) (Nw (cap:=none) C.ft C.dP neg hc hp (Nat.le_refl _) (by omega) (fun _ h=>by cases h));have hcn:c≠0:=fun e=>hc0 (by simp[e])
        obtain⟨v0,k0,o0⟩:=Ny (K:=K.put 0 (some (.cells [.bool (neg && decide (0<aQ (acc.take acc.length))),bD c (aQ (acc.take acc.length)) none] 162))) (neg:=neg) (pR hcn hc) oA;have k0:=k0.tF;rw[hv]at k0;have hone:cV (bD c (aQ (acc.take acc.length)) none)=true:=by unfold bD;split <;> rfl
        unfold qP;exact gg7
      . have ha:acc=[]:=List.eq_nil_of_length_eq_zero hp;have:=hnil ha;cases this
  . have hm1:1<=m:=by omega
    have hl2:acc.length<=2:=by
     refine Nat.le_of_not_lt fun h=>?_
     have:acc.length=3:=by omega
     rw[this]at hlt;simp at hlt;omega
    have hmod:=afa (neg:=neg) hm;have hdiv:=afb (neg:=neg) hm;obtain⟨r,hr⟩:∃r,r=m%1000000000:=⟨_,rfl⟩;obtain⟨q,hq⟩:∃q,q=m/1000000000:=⟨_,rfl⟩;rw[←hr]at hmod;rw[←hq]at hdiv;have hroom:(acc.length+1)*8<=dG:=by unfold dG;omega
    have hnz:bN neg m≠0:=by cases neg <;> simp[bN] <;> omega
    have hrange : -9223372036854775808<=bN neg m/\bN neg m<9223372036854775808:=by
     cases neg <;> simp[bN]at hn ⊢ <;> omega
    have next:∀(o':AV) H a4 lo wr Q,cF iC 1 3 H o' (acc++[r]) [0]->H.at 0=some (.cells [.bool false,.ae] 162)->LI (fun st=>∃k',k'<k/\∃m acc o a4 K lo wr,st=⟨⟨[.iV (bN neg m),.ptr 0 0,o,.bool neg,a4],lo,K,[]⟩,wr⟩/\0<=m/\k'=m.toNat/\m<=m0/\(acc=[]->o = .ae)/\acc.length<=3/\m<dB^(3-acc.length)/\okW dB acc/\WV dB acc+dB^acc.length*m=m0/\cF iC 1 3 K o acc [0]/\K.at 0=some (.cells [.bool false,.ae] 162)) Q .normal ⟨⟨[.iV (bN neg q),.ptr 0 0,o',.bool neg,a4],lo,H,[]⟩,wr⟩:=fun o' H a4 lo wr Q ho' hH=>
     dE ⟨q.toNat,by omega,q,acc++[r],o',a4,H,lo,wr,rfl,by omega,rfl,by omega,fun h=>by simp at h,by simp;omega,by
      have e:dB^(3-acc.length)=dB^(3-(acc++[r]).length)*dB:=by
       rw[←Int.pow_succ,List.length_append,List.length_singleton];congr 1;omega
      rw[e]at hlt;rw[hq];exact Int.ediv_lt_of_lt_mul (by decide) hlt,jj oA (fun z hz=>by rw[List.mem_singleton.1 hz];exact⟨by omega,by show _<(1000000000:Int);omega⟩),by
      rw[fI,List.length_append,List.length_singleton,Int.pow_succ,←hv];have e1:WV dB [r]=r:=by simp[WV]
      have e2:m=r+1000000000*q:=by omega
      rw[e1,e2];show WV dB acc+dB^acc.length*r+dB^acc.length*1000000000*q=_;grind,ho',hH⟩
    have hr9:0<=r/\r<1000000000:=by omega
    have fin:∀rv,rv=r->∀(o':AV) H a4 lo wr Q,cF iC 1 3 H o' (acc++[rv]) [0]->H.at 0=some (.cells [.bool false,.ae] 162)->LI (fun st=>∃k',k'<k/\∃m acc o a4 K lo wr,st=⟨⟨[.iV (bN neg m),.ptr 0 0,o,.bool neg,a4],lo,K,[]⟩,wr⟩/\0<=m/\k'=m.toNat/\m<=m0/\(acc=[]->o = .ae)/\acc.length<=3/\m<dB^(3-acc.length)/\okW dB acc/\WV dB acc+dB^acc.length*m=m0/\cF iC 1 3 K o acc [0]/\K.at 0=some (.cells [.bool false,.ae] 162)) Q .normal ⟨⟨[.iV (bN neg q),.ptr 0 0,o',.bool neg,a4],lo,H,[]⟩,wr⟩:=fun rv e=>by subst e;exact next
    clear next
    obtain⟨d,hd⟩:∃d,d=bN neg r:=⟨_,rfl⟩;rw[←hd]at hmod;by_cases hdn:d<0
    . have e:0-d=r:=by cases neg <;> simp[bN]at hd <;> omega
      unfold qP;exact gg5
    . have e:d=r:=by cases neg <;> simp[bN]at hd <;> omega
      unfold qP;repeat' first|(apply ahM (v:=d);rfl;rfl;omega;exact hmod)|(apply ahw (v:=bN neg q);rfl;rfl;exact hrange;omega;exact hdiv)|(refine cF.app (f:=iC) (m:=[d]) (S:=[0]) (fun _=>rfl) (fun _=>rfl) (by decide) (ho.grow [_]) (by simp) rfl rfl (Sl.iN (f:=iC) (esz:=1) (l:=[d]) (e:=3) (fun _=>rfl) bX rfl) hroom (fun H w' o' ho' hk hlen=>?_))|apply abn|apply aM|apply abp|apply abC|apply ada|apply acQ|apply dx|(apply acL;rfl)|(apply acS;rfl)|(apply adf;rfl;rfl)|(apply afl;rfl;rfl)|(apply acT;rfl;rfl;rfl)|(apply abg;rfl;rfl)|(apply acn;rfl;rfl)|(intro _;omega)|intro _
      all_goals try omega
      all_goals exact fin _ e _ _ _ _ _ _ ho' (hk 0 _ (by simp) (bS hK)))
 exact⟨v0,h0,v,hh,ho,hr⟩
end Go.Ab.Ch1

/-
  Own work: the reference's integers: divisions of nil; greatest common divisors; parts; fractions.
-/
namespace Go.Ab.Ch1
open Go.Ab.bj
variable {M:ax} {cap c1 c2:Option Nat} {N:Nat}
theorem aff (hft:M.FT=FT)(b:List Int)(q218:∀h,M.ext 218 [.ae,.vs (al b) b.length c2] h=some ⟨.iV (-1),h,[]⟩):aT M 195 [.ae,.vs (al b) b.length c2] [] ⟨.au [.ae,.ae],[],[]⟩:=by
 refine bB (by rw[hft];exact Nk) (by simp) ?_;unfold Ez;simp only[enter];exact gg10
structure OA (M:ax):Prop where
 ft:M.FT=FT
 kG:∀(x:AV) (a b:List Int),cH x a->okW dB a->okW dB b->aN a->aN b->a.length<100000->b.length<100000->b≠[]->∃qv q rv r,cH qv q/\cH rv r/\okW dB q/\aN q/\okW dB r/\aN r/\WV dB q=WV dB a/WV dB b/\WV dB r=WV dB a%WV dB b/\∀h,M.ext 195 [x,.vs (al b) b.length none] h=some ⟨.au [qv,rv],h,[]⟩
theorem afg (C:OA M){x y:AV}(a b:List Int)(hx:cH x a)(hy:cH y b)(oa:okW dB a)(ob:okW dB b)(na:aN a)(nb:aN b)(la:a.length<100000)(lb:b.length<100000) :
 ∃gv g,cH gv g/\okW dB g/\aN g/\WV dB g=(Int.gcd (WV dB a) (WV dB b):Nat)/\g.length<100000/\cN M 155 [x,y] gv:=by
 obtain⟨v,hh,⟨gv,g,ig,og,ng,vg,lg,ho⟩,hr⟩:=gQ (M:=M) (f:=155) (ars:=[x,y]) (P:=fun v hh=>∃gv g,cH gv g/\okW dB g/\aN g/\WV dB g=(Int.gcd (WV dB a) (WV dB b):Nat)/\g.length<100000/\fj v hh gv) (by rw[C.ft];exact Nj) (by simp) (by
  unfold Ey;simp only[enter];refine gg3 ?_;refine W.fT (fun m st=>∃A B xA y a3 lo wr,st=⟨⟨[xA,y,.ae,a3],lo,[],[]⟩,wr⟩/\cH xA A/\cH y B/\m=(WV dB B).toNat/\okW dB A/\aN A/\A.length<100000/\okW dB B/\aN B/\B.length<100000/\Int.gcd (WV dB A) (WV dB B)=Int.gcd (WV dB a) (WV dB b))
   (fun m st ⟨A,B,xA,y,a3,lo,wr,hst,hxA,hy,hm,oA,nA,lA,oB,nB,lB,hg⟩=>?_) (m:=(WV dB b).toNat) ⟨a,b,x,y,_,_,_,rfl,hx,hy,rfl,oa,na,la,ob,nb,lb,rfl⟩
  subst hst;by_cases hB:B=[]
  . subst hB;have hl0:([]:List Int).length=0:=rfl;obtain⟨_,t1,k1⟩:=tH xA hxA;have fin:fj (aW [xA]) (if (aW [xA]).top<=0 then [] else []) xA:=.same t1 k1;have hv:WV dB A=(Int.gcd (WV dB a) (WV dB b):Nat):=by
     rw[←hg];have:=cC (b:=dB) (by decide) oA;show WV dB A=(Int.gcd (WV dB A) 0:Nat);rw[Int.gcd_zero_right];omega
    rcases hy with rfl|⟨rfl,_⟩;all_goals
    . unfold tB;exact gg8
  . obtain rfl:y = .vs (al B) B.length none:=hy.resolve_right fun h=>hB h.2
    have hBl:0<B.length:=List.length_pos_iff.2 hB;have hBp:=(iW (b:=dB) (by decide) oB nB).2 hB;have hA0:=cC (b:=dB) (by decide) oA;obtain⟨qv,q,rv,r,hq,hr,_,_,or_,nr,vq,vr,q195⟩:=C.kG xA A B hxA oA oB nA nB lA lB hB;have r1:=Int.emod_lt_of_pos (WV dB A) hBp;have r0:=Int.emod_nonneg (WV dB A) (show WV dB B≠0 by omega);have lr:r.length<=B.length:=fJ (b:=dB) (by decide) or_ nr (Int.lt_trans (by rw[vr];exact r1) (da (by decide) oB));have hg2:Int.gcd (WV dB B) (WV dB r)=Int.gcd (WV dB a) (WV dB b):=by
     rw[←hg,vr,CA]
    unfold tB;repeat' first|apply abn|apply aM|apply abp|apply abC|apply ada|apply acQ|apply dx|(apply acL;rfl)|(apply aep;rfl;rfl)|(apply aco;rfl;rfl;first|exact q195 _)|(apply abg;rfl;rfl)|(apply acn;rfl;rfl)|(intro _;omega)|intro _
    all_goals try omega
    all_goals exact dE ⟨(WV dB r).toNat,by rw[vr];omega,B,r,_,rv,_,_,_,rfl,.inl rfl,hr,rfl,oB,nB,lB,or_,nr,by omega,hg2⟩)
 exact⟨gv,g,ig,og,ng,vg,lg,v,hh,ho,hr⟩
theorem afh (hft:M.FT=FT)(s:ao)(hl:s.length<1000000)(hb:jy s=false)(q153:∀h,M.ext 153 [.str s] h=some ⟨.iV (cm s),h,[]⟩){v1 v2:AV}{z1 z2:Int}(k1:bW v1 z1)(k2:bW v2 z2)(qa:∀h,M.ext 193 [.str s] h=some ⟨v1,h,[]⟩)(qb:∀h,M.ext 139 [.iV 1] h=some ⟨v2,h,[]⟩):cN M 135 [.str s] (.au [v1,v2]):=by
 have hk:cm s=s.length:=by
  unfold cm;have hn:(bG 47 s).2=none:=by
   unfold jy at hb;cases h:(bG 47 s).2 with
   | none=>rfl
   | some y=>rw[h]at hb;cases hb
  rw[(mP hn).1]
 rw[hk]at q153;obtain⟨n1,x1,l1,rfl,_,o1,t1,b1⟩:=k1.shape;obtain⟨n2,x2,l2,rfl,_,o2,t2,b2⟩:=k2.shape;refine cO (by rw[hft];exact Ng) (by simp) ?_;unfold Ev;simp only[enter];repeat' first|(apply adi;rfl;rfl;rfl;exact⟨rfl,Nat.le_refl _,by first|exact fO o1|exact fO o2⟩;rfl)|apply abn|apply aM|apply abp|apply abC|apply abS|apply cd|(apply acL;rfl)|(apply aer;rfl;rfl)|(apply aco;rfl;rfl;first|exact q153 _|exact qa _|exact qb _)|(apply acY;rfl;rfl;rfl)|(apply abg;rfl;rfl)|(apply acn;rfl;rfl)|(intro _;omega)|intro _
 all_goals try omega
 refine cI rfl rfl (.same ?_ ?_)
 . show max (max 0 (max x1.top 0)) (max (max 0 (max x2.top 0)) 0)=0;rw[t1,t2];rfl
 . show AV.au [.agg [.bool n1,bO x1],.agg [.bool n2,bO x2]]=_;rw[b1,b2]
end Go.Ab.Ch1
