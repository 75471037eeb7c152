/-
  Own work: integers of any size: greatest common divisors.
-/
import Derived.Test.YtcjphdmkgmkabaaGreatDoorLib3
import Derived.Test.YtcjphdmkgmkabaaGreatDoorCh1Base
import Derived.Test.YtcjphdmkgmkabaaGreatDoorLib2
import Derived.Test.YtcjphdmkgmkabaaGreatDoorLib1
import Derived.Lib.Bytealg
set_option maxHeartbeats 8000000
set_option maxRecDepth 20000
namespace Go.Ab.Ch1
open Go.Ab.bj
variable {M:ax} {cap:Option Nat} {N:Nat}
section
variable {t n m:Nat} {x y:aO} {l:List aU} {pe:List AV} {lo:List (Nat×AV)} {H:ab} {df wr:List Nat} {c c' new:List AV} {e:TypeId} {a:Option bC} {Q:aq->Prop}
theorem aiy (hx:(St.mk pe lo (H++[some (.cells c e)]++[a]) df).aa x=some (.ptr H.length 0))(hy:((St.mk pe lo (H++[some (.cells c e)]++[a]) df).aa y).bind AV.cells=some new)(hn:new.length=n/\0+n<=c.length/\new.all cV=true)(hc:overwrite c 0 new=c')
 (h:WO M l ⟨⟨pe,lo,H++[some (.cells c' e)]++[a],df⟩,H.length::wr⟩ Q):WO M (⟨.no,.store n x y,none⟩::l) ⟨⟨pe,lo,H++[some (.cells c e)]++[a],df⟩,wr⟩ Q:=by
 refine adi hx hy (bS bX) hn hc ?_;have:ab.put (H++[some (.cells c e)]++[a]) H.length (some (.cells c' e))=H++[some (.cells c' e)]++[a]:=by
  simp[ab.put]
 rw[this];exact h
theorem aiz (hx:(St.mk pe lo (H++[a]++[some (.cells c e)]) df).aa x=some (.ptr m 0))(hy:((St.mk pe lo (H++[a]++[some (.cells c e)]) df).aa y).bind AV.cells=some new)(hm:m=H.length+1)(hn:new.length=n/\0+n<=c.length/\new.all cV=true)(hc:overwrite c 0 new=c')
 (h:WO M l ⟨⟨pe,lo,H++[a]++[some (.cells c' e)],df⟩,m::wr⟩ Q):WO M (⟨.no,.store n x y,none⟩::l) ⟨⟨pe,lo,H++[a]++[some (.cells c e)],df⟩,wr⟩ Q:=by
 subst hm;have hl:H.length+1=(H++[a]).length:=by simp
 rw[hl]at hx h;refine adi hx hy bX hn hc ?_;have:ab.put (H++[a]++[some (.cells c e)]) (H++[a]).length (some (.cells c' e))=H++[a]++[some (.cells c' e)]:=Ji;rw[this];exact h
theorem aiA {ag:Bool}{v:AV}(hx:(St.mk pe lo (H++[a]++[some (.cells c e)]) df).aa x=some (.ptr m 0))(hm:m=H.length+1)(hv:partOf (c.drop 0) 0 n ag=some v)
 (h:WO M l ⟨⟨pe,(t,v)::lo,H++[a]++[some (.cells c e)],df⟩,wr⟩ Q):WO M (⟨.l t,.load n ag x,none⟩::l) ⟨⟨pe,lo,H++[a]++[some (.cells c e)],df⟩,wr⟩ Q:=by
 subst hm;have hl:H.length+1=(H++[a]).length:=by simp
 rw[hl]at hx;exact ahb hx bX hv h
end
theorem CA {x y:Int}:Int.gcd y (x%y)=Int.gcd x y:=by
 have h:=Int.gcd_add_mul_left_right y (x%y) (x/y);rw[Int.emod_add_mul_ediv]at h;rw[←h,Int.gcd_comm]
def sB (s s':Int)(w w':AV)(J:ab):ab:=[some (.cells [.iV s,w] 131),some (.cells [.iV s',w'] 131),some (.cells [.iV 0,.ae] 131)]++J
theorem WJ (C:CQ M N){G:Nat}{Q:Ex->aq->Prop}(a0 a1:AV)
 (hQ:∀s s' w w' J p5 lo wr (x:Int),ay (.agg [.iV s,w]) x->x=G->Q (.exit 0) ⟨⟨[a0,a1,.ptr 0 0,.ptr 1 0,.ptr 2 0,p5],lo,sB s s' w w' J,[]⟩,wr⟩)
 (s s':Int) (w w':AV) (J:ab) (p5:AV) (lo:List (Nat×AV)) (wr:List Nat) (x y:Int) (hx:ay (.agg [.iV s,w]) x) (hy:ay (.agg [.iV s',w']) y) (x0:0<=x/\x<wB^N) (y0:0<=y/\y<wB^N) (hG:Int.gcd x y=G) :
 W M (.loop wz) ⟨⟨[a0,a1,.ptr 0 0,.ptr 1 0,.ptr 2 0,p5],lo,sB s s' w w' J,[]⟩,wr⟩ Q:=by
 refine W.fT (fun m st=>∃s s' w w' J p5 lo wr x y,st=⟨⟨[a0,a1,.ptr 0 0,.ptr 1 0,.ptr 2 0,p5],lo,sB s s' w w' J,[]⟩,wr⟩/\m=y.toNat/\ay (.agg [.iV s,w]) x/\ay (.agg [.iV s',w']) y/\(0<=x/\x<wB^N)/\(0<=y/\y<wB^N)/\Int.gcd x y=G)
  (fun m st ⟨s,s',w,w',J,p5,lo,wr,x,y,hst,hm,hx,hy,x0,y0,hG⟩=>?_) (m:=y.toNat) ⟨s,s',w,w',J,p5,lo,wr,x,y,rfl,rfl,hx,hy,x0,y0,hG⟩
 subst hst;subst hm;have q211:=C.oh _ y hy;by_cases h0:y=0
 . subst h0;have e:x=G:=by rw[←hG,Int.gcd_zero];omega
   rw[show bh 0=0 from rfl]at q211;unfold wz;exact gg5
 . rw[show bh y=1 by unfold bh;rw[if_neg (by omega),if_pos (by omega)]]at q211;obtain⟨q,r,hq,hr,q205⟩:=C.wC _ _ x y hx hy (by rw[cD x0.1];exact x0.2) (by rw[cD y0.1];exact y0.2) (by omega);obtain⟨o1,_⟩:=hx.one;obtain⟨o2,_⟩:=hy.one;obtain⟨s1,w1,rfl,o3,_⟩:=hq.shape;obtain⟨s2,w2,rfl,o4,_⟩:=hr.shape;have r0:=Int.emod_nonneg x (show y≠0 by omega);have r1:=Int.emod_lt_of_pos x (show 0<y by omega);have next:∀J p5 lo wr,LI (fun st=>∃m',m'<y.toNat/\∃s s' w w' J p5 lo wr x y,st=⟨⟨[a0,a1,.ptr 0 0,.ptr 1 0,.ptr 2 0,p5],lo,sB s s' w w' J,[]⟩,wr⟩/\m'=y.toNat/\ay (.agg [.iV s,w]) x/\ay (.agg [.iV s',w']) y/\(0<=x/\x<wB^N)/\(0<=y/\y<wB^N)/\Int.gcd x y=G) Q .normal ⟨⟨[a0,a1,.ptr 0 0,.ptr 1 0,.ptr 2 0,p5],lo,sB s' s2 w' w2 J,[]⟩,wr⟩:=fun J p5 lo wr=>
    dE ⟨(x%y).toNat,by omega,_,_,_,_,J,p5,lo,wr,y,x%y,rfl,rfl,hy,hr,y0,⟨r0,by omega⟩,by rw[CA,hG]⟩
   unfold wz;repeat' first|(apply aiy;rfl;rfl;exact⟨rfl,Nat.le_refl _,by simp[overwrite,dU,o3]⟩;rfl)|(apply aiz;rfl;rfl;simp;exact⟨rfl,Nat.le_refl _,by simp[overwrite,dU,o4]⟩;rfl)|(apply aiA;rfl;simp;rfl)|(apply adi;rfl;rfl;rfl;exact⟨rfl,Nat.le_refl _,by simp[overwrite,dU,o2,o4]⟩;rfl)|apply abn|apply aM|apply abp|apply abC|apply ada|apply acQ|apply dx|apply aet|apply afd|(apply aft;rfl;rfl;(first|(simp only[nca];rfl)|rfl))|(apply afI;rfl;(first|(simp only[nca];rfl)|rfl);(first|(simp only[nca];rfl)|rfl))|(apply acL;rfl)|(apply afl;rfl;rfl)|(apply aco;rfl;rfl;first|exact q211 _|exact q205 _)|(apply acT;rfl;rfl;rfl)|(apply acY;rfl;rfl;rfl)|(apply abg;rfl;rfl)|(intro _;omega)|intro _
   all_goals try omega
   all_goals exact next _ _ _ _
structure CG (M:ax)(N:Nat):Prop extends CQ M N where
 CB:Op1 M N 210 ah
theorem WK {x y:Int}:Int.gcd (ah x) (ah y)=Int.gcd x y:=by
 have h:∀z:Int,(ah z).natAbs=z.natAbs:=fun z=>by unfold ah;split <;> omega
 show Nat.gcd _ _=Nat.gcd _ _;rw[h,h]
theorem WL (C:CG M N){a b:AV}{x y:Int}(ha:ay a x)(hb:ay b y)(lx:ah x<wB^N)(ly:ah y<wB^N):∃v0,ay v0 (Int.gcd x y:Nat)/\cN M 165 [a,b] v0:=by
 obtain⟨va,h1,q210a⟩:=C.CB a x ha lx;obtain⟨vb,h2,q210b⟩:=C.CB b y hb ly;obtain⟨sa,wa,rfl,o1,_⟩:=ha.shape;obtain⟨sb,wb,rfl,o2,_⟩:=hb.shape;obtain⟨s1,w1,rfl,o3,_⟩:=h1.shape;obtain⟨s2,w2,rfl,o4,_⟩:=h2.shape;obtain⟨v,hh,⟨v0,h0,ho⟩,hr⟩:=gQ (M:=M) (f:=165) (ars:=[.agg [.iV sa,wa],.agg [.iV sb,wb]]) (P:=fun v hh=>∃v0,ay v0 (Int.gcd x y:Nat)/\fj v hh v0) (by rw[C.ft];exact VW) (by simp) (by
  unfold JB;simp only[enter];repeat' first|(apply afA;rfl;rfl;(first|(simp only[nca];rfl)|rfl);first|exact q210a _|exact q210b _)|(apply adi;rfl;rfl;rfl;exact⟨rfl,Nat.le_refl _,by simp[overwrite,dU,o3,o4]⟩;rfl)|apply abn|apply aM|apply abp|apply abC|apply ada|apply aet|apply afd|(apply aft;rfl;rfl;(first|(simp only[nca];rfl)|rfl))|(apply afI;rfl;(first|(simp only[nca];rfl)|rfl);(first|(simp only[nca];rfl)|rfl))|(apply acT;rfl;rfl;rfl)|(apply acY;rfl;rfl;rfl)
  refine WJ C.toCQ (G:=Int.gcd x y) _ _ (fun s s' w w' J p5 lo wr g hg eg=>?_) s1 s2 w1 w2 [] _ _ _ (ah x) (ah y) h1 h2 ⟨iD,lx⟩ ⟨iD,ly⟩ WK;obtain⟨o5,t5,k5⟩:=hg.one;refine gg13 ?_;rw[eg]at hg;exact⟨.inr rfl,rfl,_,rfl,_,hg,hg.out⟩)
 exact⟨v0,h0,v,hh,ho,hr⟩
end Go.Ab.Ch1

/-
  Own work: fractions in lowest terms.
-/
namespace Go.Ab.Ch1
open Go.Ab.bj
variable {M:ax} {cap:Option Nat} {N:Nat}
def bz (v:AV)(q:Rat):Prop:=jb v q.num q.den
structure CR (M:ax)(N:Nat):Prop extends CG M N where
 sC:∀a b x y,ay a x->ay b y->ah x<wB^N->ah y<wB^N->∃v0,ay v0 (Int.gcd x y:Nat)/\∀h,M.ext 165 [a,b] h=some ⟨v0,h,[]⟩
 CC:∀a b x y k,ay a x->ay b y->ah x<wB^N->ah y<wB^N->y≠0->x=y*k->∃v0,ay v0 k/\∀h,M.ext 252 [a,b] h=some ⟨v0,h,[]⟩
def t203:an:=
 .seq (zR [zf 13 1 3,
       zd 14 1 13,
       ⟨(.l 15),.eq false (.ref .slice) (.l 14) (.c (.ae)),none⟩,
       zn 16 15,
       zg (zf 17 0 3) 16 true,
       zg (zd 18 1 17) 16 true,
       zg (zc 19 .eql 18 1) 16 true,
       zp 20 16 19]
     (
      .cond (.l 20)
      (
       zR [zt 21 2 2,
         zt 22 2 3,
         ⟨(.l 23),.build [.iV (0),.ae,.iV (0),.ae] [(0,2,(.l 21)),(2,2,(.l 22))],none⟩,
         zs 4 4 23]
       (.ret))
      (.skip)))
    (
     zR [zt 24 2 2,
       zt 25 2 3,
       z2 26 165 24 25,
       ⟨(.p 5),.alloc 131 [.iV (0),.ae],none⟩,
       zs 2 5 26]
     (
      .seq (.draw [(zt 27 2 2,[]),
        (zt 28 2 5,[0]),
        (z2 29 252 27 28,[]),
        (zt 30 2 3,[0,1,2]),
        (zt 31 2 5,[0,1,2,3]),
        (z2 32 252 30 31,[]),
        (⟨(.l 33),.build [.iV (0),.ae,.iV (0),.ae] [(0,2,(.l 29)),(2,2,(.l 32))],none⟩,[]),
        (zs 4 4 33,[])])
      (.ret)))
theorem mH {n:Int}:(Rat.divInt n 1).num=n/\(Rat.divInt n 1).den=1:=by
 refine⟨?_,?_⟩
 . rw[Rat.num_divInt];simp
 . rw[Rat.den_divInt];simp
theorem wD {n d:Int}(h:0<d):∃k1 k2:Int,n=(Int.gcd n d:Nat)*k1/\d=(Int.gcd n d:Nat)*k2/\(Rat.divInt n d).num=k1/\((Rat.divInt n d).den:Int)=k2:=by
 have g0:(Int.gcd n d:Int)≠0:=by
  have:=Int.gcd_pos_of_ne_zero_right n (show d≠0 by omega);omega
 obtain⟨k1,h1⟩:=Int.gcd_dvd_left n d;obtain⟨k2,h2⟩:=Int.gcd_dvd_right n d;refine⟨k1,k2,h1,h2,?_,?_⟩
 . rw[Rat.num_divInt,Int.sign_eq_one_of_pos h,Int.one_mul,Int.gcd_comm d n];exact Int.ediv_eq_of_eq_mul_right g0 h1
 . rw[Rat.den_divInt,if_neg (by omega),Int.gcd_comm d n];have e:((d.natAbs/Int.gcd n d:Nat):Int)=d/(Int.gcd n d:Int):=by
    rw[Int.natCast_ediv,Int.natAbs_of_nonneg (by omega)]
   rw[e];exact Int.ediv_eq_of_eq_mul_right g0 h2
theorem WM {x y:Int}(h:0<y):ah (Int.gcd x y:Nat)<=ah y:=by
 have:=Int.le_of_dvd h (Int.gcd_dvd_right x y);rw[cD (by omega),cD (by omega)];exact this
theorem JU (C:CR M N){s s' n d:Int}{w w':AV}(hn:ay (.agg [.iV s,w]) n)(hd:ay (.agg [.iV s',w']) d)(ln:ah n<wB^N)(ld:ah d<wB^N)(d0:0<d) :
 ∃v0,bz v0 (Rat.divInt n d)/\∀a0 a1 p5 lo wr,W M t203 ⟨⟨[a0,a1,.ptr 0 0,.ptr 1 0,.ptr 2 0,p5],lo,[some (.cells [.iV s,w] 131),some (.cells [.iV s',w'] 131),some (.cells [.iV 0,.ae,.iV 0,.ae] 133)],[]⟩,wr⟩ (lF v0 [.cell 4 true (.p 4)]):=by
 obtain⟨o1,_⟩:=hn.one;by_cases h1:d=1/\w' = .ae
 . obtain⟨rfl,rfl⟩:=h1;have hs:s'=1:=by cases hd;rfl
   subst hs;have hf:bz (.agg [.iV s,w,.iV 1,.ae]) (Rat.divInt n 1):=by
    unfold bz;rw[mH.1,mH.2];exact⟨_,_,_,_,rfl,hn,hd⟩
   refine⟨_,hf,fun a0 a1 p5 lo wr=>?_⟩;have out:=fun hh=>hf.out (hh:=hh)
   unfold t203;repeat' first|(apply adi;rfl;rfl;rfl;exact⟨rfl,Nat.le_refl _,by simp[overwrite,dU,fc,o1]⟩;rfl)|apply abn|apply aM|apply abp|apply abC|apply abS|apply cd|(apply acL;rfl)|(apply aef;rfl)|(apply aer;rfl;rfl)|(apply acZ;rfl;rfl)|(apply acT;rfl;rfl;rfl)|(apply abg;rfl;rfl)|(intro _;omega)|intro _
   all_goals try omega
   all_goals exact cI rfl rfl (out _)
 . obtain⟨k1,k2,e1,e2,e3,e4⟩:=wD (n:=n) d0;obtain⟨vg,hg,q165⟩:=C.sC _ _ n d hn hd ln ld;have lg:ah (Int.gcd n d:Nat)<wB^N:=Int.lt_of_le_of_lt (WM d0) ld;have g0:(Int.gcd n d:Int)≠0:=by
    have:=Int.gcd_pos_of_ne_zero_right n (show d≠0 by omega);omega
   obtain⟨v1,hv1,q252a⟩:=C.CC _ vg n _ k1 hn hg ln lg g0 e1;obtain⟨v2,hv2,q252b⟩:=C.CC _ vg d _ k2 hd hg ld lg g0 e2;obtain⟨sg,wg,rfl,og,_⟩:=hg.shape;obtain⟨s1,w1,rfl,o3,_⟩:=hv1.shape;obtain⟨s2,w2,rfl,o4,_⟩:=hv2.shape;have hf:bz (.agg [.iV s1,w1,.iV s2,w2]) (Rat.divInt n d):=by
    unfold bz;rw[e3,e4];exact⟨_,_,_,_,rfl,hv1,hv2⟩
   refine⟨_,hf,fun a0 a1 p5 lo wr=>?_⟩;have out:=fun hh=>hf.out (hh:=hh)
   unfold t203;cases hd with
   | small h=>
    have h2:s'≠1:=fun e=>h1 ⟨e,rfl⟩
    repeat' first|(apply aco;rfl;rfl;first|exact q165 _|exact q252a _|exact q252b _)|(apply afA;rfl;rfl;(first|(simp only[nca];rfl)|rfl);first|exact q165 _|exact q252a _|exact q252b _)|(apply adi;rfl;rfl;rfl;exact⟨rfl,Nat.le_refl _,by simp[overwrite,dU,fc,og,o3,o4]⟩;rfl)|apply abn|apply aM|apply abp|apply abC|apply abS|apply acQ|apply aet|apply afd|(apply afE;rfl)|(apply aft;rfl;rfl;(first|(simp only[nca];rfl)|rfl))|(apply afI;rfl;(first|(simp only[nca];rfl)|rfl);(first|(simp only[nca];rfl)|rfl))|(apply acS;rfl)|(apply aef;rfl)|(apply aer;rfl;rfl)|(apply acZ;rfl;rfl)|(apply acT;rfl;rfl;rfl)|(apply acY;rfl;rfl;rfl)|(apply abg;rfl;rfl)|(intro _;omega)|intro _
    all_goals try omega
    all_goals exact cI rfl rfl (out _)
   | @eH σ z ww hs ok nr hw hz=>
    cases ww with
    | nil=>simp[WV]at hw
    | cons y ww=>
    repeat' first|(apply aco;rfl;rfl;first|exact q165 _|exact q252a _|exact q252b _)|(apply afA;rfl;rfl;(first|(simp only[nca];rfl)|rfl);first|exact q165 _|exact q252a _|exact q252b _)|(apply adi;rfl;rfl;rfl;exact⟨rfl,Nat.le_refl _,by simp[overwrite,dU,fc,og,o3,o4]⟩;rfl)|apply abn|apply aM|apply abp|apply abC|apply abS|apply acQ|apply aet|apply afd|(apply afE;rfl)|(apply aft;rfl;rfl;(first|(simp only[nca];rfl)|rfl))|(apply afI;rfl;(first|(simp only[nca];rfl)|rfl);(first|(simp only[nca];rfl)|rfl))|(apply acS;rfl)|(apply afP;rfl)|(apply aej;rfl;rfl)|(apply acT;rfl;rfl;rfl)|(apply acY;rfl;rfl;rfl)|(apply abg;rfl;rfl)
    all_goals try omega
    all_goals exact cI rfl rfl (out _)
end Go.Ab.Ch1

/-
  Own work: fractions: made, their operations.
-/
namespace Go.Ab.Ch1
open Go.Ab.bj
variable {M:ax} {cap:Option Nat} {N:Nat}
theorem WN (C:CR M N){a b:AV}{n d:Int}(ha:ay a n)(hb:ay b d)(ln:ah n<wB^N)(ld:ah d<wB^N)(d0:d≠0):∃v0,bz v0 (Rat.divInt n d)/\cN M 203 [a,b] v0:=by
 have q211:=C.oh b d hb;by_cases hn:d<0
 . rw[show bh d = -1 from if_pos hn]at q211;obtain⟨va,h1,q216a⟩:=C.lG a n ha ln;obtain⟨vb,h2,q216b⟩:=C.lG b d hb ld;have h1:ay va (-n):=h1;have h2:ay vb (-d):=h2;obtain⟨_,_,rfl,o1,_⟩:=ha.shape;obtain⟨_,_,rfl,o2,_⟩:=hb.shape;obtain⟨_,_,rfl,o3,_⟩:=h1.shape;obtain⟨_,_,rfl,o4,_⟩:=h2.shape;obtain⟨v0,hf,tl⟩:=JU C h1 h2 (by rw[ja];exact ln) (by rw[ja];exact ld) (by omega);rw[Rat.neg_divInt_neg]at hf;refine⟨v0,hf,cO (by rw[C.ft];exact JL) (by simp) ?_⟩;unfold Cv;simp only[enter];repeat' first|(exact tl _ _ _ _ _)|(apply aco;rfl;rfl;first|exact q211 _|exact q216a _|exact q216b _)|(apply afA;rfl;rfl;(first|(simp only[nca];rfl)|rfl);first|exact q211 _|exact q216a _|exact q216b _)|(apply adi;rfl;rfl;rfl;exact⟨rfl,Nat.le_refl _,by simp[overwrite,dU,fc,o3,o4]⟩;rfl)|apply abn|apply aM|apply abp|apply abC|apply aet|apply afd|(apply aft;rfl;rfl;(first|(simp only[nca];rfl)|rfl))|(apply afI;rfl;(first|(simp only[nca];rfl)|rfl);(first|(simp only[nca];rfl)|rfl))|(apply acL;rfl)|(apply adf;rfl;rfl)|(apply acT;rfl;rfl;rfl)|(apply acY;rfl;rfl;rfl)|(intro _;omega)|intro _
   all_goals try omega
 . obtain⟨g,hg⟩:∃g,g=bh d:=⟨_,rfl⟩;have g0:0<=g:=by rw[hg];unfold bh;split <;> (first|omega|(split <;> omega))
   rw[←hg]at q211;obtain⟨_,_,rfl,o1,_⟩:=ha.shape;obtain⟨_,_,rfl,o2,_⟩:=hb.shape;obtain⟨v0,hf,tl⟩:=JU C ha hb ln ld (by omega);refine⟨v0,hf,cO (by rw[C.ft];exact JL) (by simp) ?_⟩;unfold Cv;simp only[enter];exact gg0
def Bq (N:Nat)(q:Rat):Prop:=ah q.num<wB^N/\(q.den:Int)<wB^N
structure CS (M:ax)(N N2:Nat):Prop extends CF M N where
 eH:CF M N2
 hN:2*N+1<=N2
 wE:∀a b n d,ay a n->ay b d->ah n<wB^N2->ah d<wB^N2->d≠0->∃v0,bz v0 (Rat.divInt n d)/\∀h,M.ext 203 [a,b] h=some ⟨v0,h,[]⟩
theorem den_pos {q:Rat}:0<(q.den:Int):=by have:=q.den_pos;omega
theorem sD {x y:Int}:ah (x*y)=ah x*ah y:=by
 have h:∀z:Int,ah z=(z.natAbs:Int):=fun z=>by unfold ah;split <;> omega
 rw[h,h,h,Int.natAbs_mul,Int.natCast_mul]
variable {N2:Nat}
theorem CS.ou (C:CS M N N2){x y:Int}(hx:ah x<wB^N)(hy:ah y<wB^N):ah (x*y)<wB^N2:=by
 rw[sD];have h1:=Int.mul_le_mul_of_nonneg_left (Int.le_of_lt hy) (iD (x:=x));have hp:(0:Int)<wB^N:=Int.pow_pos (by decide);have h2:=Int.mul_lt_mul_of_pos_right hx hp;have h3:=fP (b:=wB) (by decide) (m:=N+N) (n:=N2) (by have:=C.hN;omega);rw[Int.pow_add]at h3;omega
theorem WQ (C:CS M N N2){a b:AV}{p q:Rat}(ha:bz a p)(hb:bz b q)(lp:Bq N p)(lq:Bq N q):∃v0,bz v0 (p*q)/\cN M 152 [a,b] v0:=by
 obtain⟨s1,w1,s2,w2,rfl,h1,h2⟩:=ha;obtain⟨s3,w3,s4,w4,rfl,h3,h4⟩:=hb;have dp:=den_pos (q:=p);have dq:=den_pos (q:=q);obtain⟨v1,k1,q198a⟩:=C.jP _ _ _ _ h1 h3 lp.1 lq.1;obtain⟨v2,k2,q198b⟩:=C.jP _ _ _ _ h2 h4 (by rw[cD (by omega)];exact lp.2) (by rw[cD (by omega)];exact lq.2);obtain⟨v0,k0,q203⟩:=C.wE v1 v2 _ _ k1 k2 (C.ou lp.1 lq.1) (C.ou (by rw[cD (by omega)];exact lp.2) (by rw[cD (by omega)];exact lq.2)) (Int.ne_of_gt (Int.mul_pos dp dq));have k0:bz v0 (p*q):=by
  have e:=Rat.divInt_mul_divInt p.num q.num (d₁:=p.den) (d₂:=q.den);rw[Rat.num_divInt_den,Rat.num_divInt_den]at e;rw[e];exact k0
 refine⟨v0,k0,cO (by rw[C.ft];exact Wy) (by simp) ?_⟩;have out:=fun hh=>k0.out (hh:=hh)
 obtain⟨s5,w5,s6,w6,rfl,h5,h6⟩:=k0;obtain⟨o5,_⟩:=h5.one;obtain⟨o6,_⟩:=h6.one;unfold JR;simp only[enter];repeat' first|(apply afA;rfl;rfl;(first|(simp only[nca];rfl)|rfl);first|exact q198a _|exact q198b _|exact q203 _)|(apply adi;rfl;rfl;rfl;exact⟨rfl,Nat.le_refl _,by simp[overwrite,dU,fc,o5,o6]⟩;rfl)|apply abn|apply aM|apply abp|apply abC|apply abS|apply aet|apply afd|(apply afE;rfl)|(apply aft;rfl;rfl;(first|(simp only[nca];rfl)|rfl))|(apply afI;rfl;(first|(simp only[nca];rfl)|rfl);(first|(simp only[nca];rfl)|rfl))|(apply acT;rfl;rfl;rfl)|(apply acY;rfl;rfl;rfl)|(apply abg;rfl;rfl)
 all_goals exact cI rfl rfl (out _)
end Go.Ab.Ch1

/-
  Own work: fractions: whole ones, inverses, sums, differences, quotients, comparisons.
-/
namespace Go.Ab.Ch1
open Go.Ab.bj
variable {M:ax} {cap:Option Nat} {N N2:Nat}
theorem WR (hft:M.FT=FT){v:AV}{q:Rat}(hv:bz v q):cN M 201 [v] (.bool (decide (q.den=1))):=by
 obtain⟨s1,w1,s2,w2,rfl,h1,h2⟩:=hv;generalize hd:(q.den:Int)=d at h2;refine cO (by rw[hft];exact Ww) (by simp) ?_;unfold JO;simp only[enter];cases h2 with
 | small h=>
  by_cases h1:q.den=1
  . rw[decide_eq_true h1];exact gg2
  . rw[decide_eq_false h1];exact gg2
 | @eH σ z w hs ok nr hw hz=>
  have hz:=hz;have h1:q.den≠1:=by
   have:=den_pos (q:=q);rcases hs with rfl|rfl <;> omega
  rw[decide_eq_false h1];cases w with
  | nil=>simp[WV]at hw
  | cons y w=>
  exact gg4
structure CE (M:ax)(N N2:Nat):Prop extends CS M N N2 where
 mI:∀v q,bz v q->∀h,M.ext 201 [v] h=some ⟨.bool (decide (q.den=1)),h,[]⟩
theorem bz.one {v:AV}{n:Int}(h:jb v n 1):bz v (Rat.divInt n 1):=by
 unfold bz;rw[mH.1,mH.2];exact h
theorem qA (p q:Rat):p+q=Rat.divInt (p.num*q.den+q.num*p.den) (p.den*q.den):=by
 have dp:=den_pos (q:=p);have dq:=den_pos (q:=q);have e:=Rat.divInt_add_divInt p.num q.num (d₁:=p.den) (d₂:=q.den) (by omega) (by omega);rwa [Rat.num_divInt_den,Rat.num_divInt_den]at e
theorem CS.WS (C:CS M N N2){x y x' y':Int}(hx:ah x<wB^N)(hy:ah y<wB^N)(hx':ah x'<wB^N)(hy':ah y'<wB^N):ah (x*y+x'*y')<wB^N2:=by
 have hp:(0:Int)<wB^N:=Int.pow_pos (by decide);have key:∀{x y:Int},ah x<wB^N->ah y<wB^N->ah (x*y)<wB^(N+N):=fun {x y} hx hy=>by
  rw[sD,Int.pow_add];have h1:=Int.mul_le_mul_of_nonneg_left (Int.le_of_lt hy) (iD (x:=x));have h2:=Int.mul_lt_mul_of_pos_right hx hp;omega
 have k1:=key hx hy;have k2:=key hx' hy';have k3:ah (x*y+x'*y')<=ah (x*y)+ah (x'*y'):=by unfold ah;split <;> split <;> split <;> omega
 have h3:=fP (b:=wB) (by decide) (m:=N+N+1) (n:=N2) (by have:=C.hN;omega);have hq:(0:Int)<wB^(N+N):=Int.pow_pos (by decide);have e:wB^(N+N+1)=wB^(N+N)*18446744073709551616:=Int.pow_succ _ _;omega
theorem WT (C:CE M N N2){a b:AV}{p q:Rat}(ha:bz a p)(hb:bz b q)(lp:Bq N p)(lq:Bq N q):∃v0,bz v0 (p+q)/\cN M 151 [a,b] v0:=by
 have q201a:=C.mI a p ha;have q201b:=C.mI b q hb;obtain⟨s1,w1,s2,w2,rfl,h1,h2⟩:=ha;obtain⟨s3,w3,s4,w4,rfl,h3,h4⟩:=hb;have dp:=den_pos (q:=p);have dq:=den_pos (q:=q);have hdp:ah (p.den:Int)<wB^N:=by rw[cD (by omega)];exact lp.2
 have hdq:ah (q.den:Int)<wB^N:=by rw[cD (by omega)];exact lq.2
 by_cases hw:p.den=1/\q.den=1
 . obtain⟨v1,k1,q202⟩:=C.qy _ _ _ _ h1 h3 lp.1 lq.1;obtain⟨v0,k0,q159⟩:=C.Cy _ _ k1;have k0:bz v0 (p+q):=by
    have:=bz.one k0;rw[qA,hw.1,hw.2];simpa using this
   refine⟨v0,k0,cO (by rw[C.ft];exact JP) (by simp) ?_⟩;have out:=fun hh=>k0.out (hh:=hh)
   obtain⟨s5,w5,s6,w6,rfl,h5,h6⟩:=k0;obtain⟨o5,_⟩:=h5.one;obtain⟨o6,_⟩:=h6.one;rw[decide_eq_true hw.1]at q201a;rw[decide_eq_true hw.2]at q201b;unfold Cw;simp only[enter];repeat' first|(apply aco;rfl;rfl;first|exact q201a _|exact q201b _|exact q202 _|exact q159 _)|(apply adi;rfl;rfl;rfl;exact⟨rfl,Nat.le_refl _,by simp[overwrite,dU,fc,o5,o6]⟩;rfl)|apply abn|apply aM|apply abp|apply abC|apply abS|apply cd|(apply acL;rfl)|(apply aef;rfl)|(apply acZ;rfl;rfl)|(apply acT;rfl;rfl;rfl)|(apply acY;rfl;rfl;rfl)|(apply abg;rfl;rfl)
   all_goals exact cI rfl rfl (out _)
 . obtain⟨v1,k1,q198a⟩:=C.jP _ _ _ _ h1 h4 lp.1 hdq;obtain⟨v2,k2,q198b⟩:=C.jP _ _ _ _ h3 h2 lq.1 hdp;obtain⟨v3,k3,q202⟩:=C.eH.qy v1 v2 _ _ k1 k2 (C.ou lp.1 hdq) (C.ou lq.1 hdp);obtain⟨v4,k4,q198c⟩:=C.jP _ _ _ _ h2 h4 hdp hdq;obtain⟨v0,k0,q203⟩:=C.wE v3 v4 _ _ k3 k4 (C.WS lp.1 hdq lq.1 hdp) (C.ou hdp hdq) (Int.ne_of_gt (Int.mul_pos dp dq));have k0:bz v0 (p+q):=by rw[qA];exact k0
   refine⟨v0,k0,cO (by rw[C.ft];exact JP) (by simp) ?_⟩;have out:=fun hh=>k0.out (hh:=hh)
   obtain⟨s5,w5,s6,w6,rfl,h5,h6⟩:=k0;obtain⟨o5,_⟩:=h5.one;obtain⟨o6,_⟩:=h6.one;unfold Cw;simp only[enter];by_cases hp1:p.den=1
   . have hq1:q.den≠1:=fun e=>hw ⟨hp1,e⟩
     rw[decide_eq_true hp1]at q201a;rw[decide_eq_false hq1]at q201b;repeat' first|(apply aco;rfl;rfl;first|exact q201a _|exact q201b _|exact q198a _|exact q198b _|exact q198c _|exact q202 _|exact q203 _)|(apply afA;rfl;rfl;(first|(simp only[nca];rfl)|rfl);first|exact q201a _|exact q201b _|exact q198a _|exact q198b _|exact q198c _|exact q202 _|exact q203 _)|(apply adi;rfl;rfl;rfl;exact⟨rfl,Nat.le_refl _,by simp[overwrite,dU,fc,o5,o6]⟩;rfl)|apply abn|apply aM|apply abp|apply abC|apply abS|apply acQ|apply aet|apply afd|(apply afE;rfl)|(apply aft;rfl;rfl;(first|(simp only[nca];rfl)|rfl))|(apply afI;rfl;(first|(simp only[nca];rfl)|rfl);(first|(simp only[nca];rfl)|rfl))|(apply acS;rfl)|(apply aef;rfl)|(apply acZ;rfl;rfl)|(apply acT;rfl;rfl;rfl)|(apply acY;rfl;rfl;rfl)|(apply abg;rfl;rfl)
     all_goals exact cI rfl rfl (out _)
   . rw[decide_eq_false hp1]at q201a;repeat' first|(apply aco;rfl;rfl;first|exact q201a _|exact q198a _|exact q198b _|exact q198c _|exact q202 _|exact q203 _)|(apply afA;rfl;rfl;(first|(simp only[nca];rfl)|rfl);first|exact q201a _|exact q198a _|exact q198b _|exact q198c _|exact q202 _|exact q203 _)|(apply adi;rfl;rfl;rfl;exact⟨rfl,Nat.le_refl _,by simp[overwrite,dU,fc,o5,o6]⟩;rfl)|apply abn|apply aM|apply abp|apply abC|apply abS|apply acQ|apply aet|apply afd|(apply afE;rfl)|(apply aft;rfl;rfl;(first|(simp only[nca];rfl)|rfl))|(apply afI;rfl;(first|(simp only[nca];rfl)|rfl);(first|(simp only[nca];rfl)|rfl))|(apply acS;rfl)|(apply afP;rfl)|(apply aej;rfl;rfl)|(apply acT;rfl;rfl;rfl)|(apply acY;rfl;rfl;rfl)|(apply abg;rfl;rfl)
     all_goals exact cI rfl rfl (out _)
end Go.Ab.Ch1

/-
  Own work: fractions: opposites, inverses, differences, quotients, comparisons, whole parts.
-/
namespace Go.Ab.Ch1
open Go.Ab.bj
variable {M:ax} {cap:Option Nat} {N N2:Nat}
theorem WU (C:CJ M N){v:AV}{q:Rat}(hv:bz v q)(lq:Bq N q):∃v0,bz v0 (-q)/\cN M 199 [v] v0:=by
 obtain⟨v0,h0,hr⟩:=WE C hv lq.1;exact⟨v0,h0,hr⟩
structure CU (M:ax)(N N2:Nat):Prop extends CE M N N2 where
 JV:∀v q,bz v q->Bq N q->∃v0,bz v0 (-q)/\∀h,M.ext 199 [v] h=some ⟨v0,h,[]⟩
 JW:∀v q,bz v q->Bq N q->q≠0->∃v0,bz v0 q⁻¹/\∀h,M.ext 200 [v] h=some ⟨v0,h,[]⟩
 JX:∀a b p q,bz a p->bz b q->Bq N p->Bq N q->∃v0,bz v0 (p+q)/\∀h,M.ext 151 [a,b] h=some ⟨v0,h,[]⟩
 JY:∀a b p q,bz a p->bz b q->Bq N p->Bq N q->∃v0,bz v0 (p*q)/\∀h,M.ext 152 [a,b] h=some ⟨v0,h,[]⟩
theorem Bq.neg {q:Rat}(h:Bq N q):Bq N (-q):=⟨by rw[Rat.neg_num,ja];exact h.1,h.2⟩
theorem WW (C:CS M N N2){v:AV}{q:Rat}(hv:bz v q)(lq:Bq N q)(h0:q≠0):∃v0,bz v0 q⁻¹/\cN M 200 [v] v0:=by
 obtain⟨s1,w1,s2,w2,rfl,h1,h2⟩:=hv;have dq:=den_pos (q:=q);have hN:=C.hN;have hle:=fP (b:=wB) (by decide) (m:=N) (n:=N2) (by omega);obtain⟨v0,k0,q203⟩:=C.wE _ _ _ _ h2 h1 (by rw[cD (by omega)];exact Int.lt_of_lt_of_le lq.2 hle) (Int.lt_of_lt_of_le lq.1 hle) (fun e=>h0 (Rat.num_eq_zero.1 e));rw[←Rat.inv_def]at k0;refine⟨v0,k0,cO (by rw[C.ft];exact Wv) (by simp) ?_⟩;have out:=fun hh=>k0.out (hh:=hh)
 obtain⟨s5,w5,s6,w6,rfl,h5,h6⟩:=k0;obtain⟨o5,_⟩:=h5.one;obtain⟨o6,_⟩:=h6.one;unfold JN;simp only[enter];repeat' first|(apply aco;rfl;rfl;first|exact q203 _)|(apply adi;rfl;rfl;rfl;exact⟨rfl,Nat.le_refl _,by simp[overwrite,dU,fc,o5,o6]⟩;rfl)|apply abn|apply aM|apply abp|apply abC|apply abS|(apply acT;rfl;rfl;rfl)|(apply acY;rfl;rfl;rfl)|(apply abg;rfl;rfl)
 all_goals exact cI rfl rfl (out _)
theorem WX (C:CU M N N2){a b:AV}{p q:Rat}(ha:bz a p)(hb:bz b q)(lp:Bq N p)(lq:Bq N q):∃v0,bz v0 (p-q)/\cN M 149 [a,b] v0:=by
 obtain⟨v1,k1,q199⟩:=C.JV b q hb lq;obtain⟨v0,k0,q151⟩:=C.JX a v1 p _ ha k1 lp lq.neg;rw[←Rat.sub_eq_add_neg]at k0;refine⟨v0,k0,cO (by rw[C.ft];exact Wx) (by simp) ?_⟩;have out:=fun hh=>k0.out (hh:=hh)
 obtain⟨s1,w1,s2,w2,rfl,h1,h2⟩:=ha;obtain⟨s3,w3,s4,w4,rfl,h3,h4⟩:=hb;obtain⟨s5,w5,s6,w6,rfl,h5,h6⟩:=k0;obtain⟨o5,_⟩:=h5.one;obtain⟨o6,_⟩:=h6.one;unfold JQ;simp only[enter];repeat' first|(apply afA;rfl;rfl;(first|(simp only[nca];rfl)|rfl);first|exact q199 _|exact q151 _)|(apply adi;rfl;rfl;rfl;exact⟨rfl,Nat.le_refl _,by simp[overwrite,dU,fc,o5,o6]⟩;rfl)|apply abn|apply aM|apply abp|apply abC|apply abS|apply aet|apply afd|(apply aft;rfl;rfl;(first|(simp only[nca];rfl)|rfl))|(apply afI;rfl;(first|(simp only[nca];rfl)|rfl);(first|(simp only[nca];rfl)|rfl))|(apply acT;rfl;rfl;rfl)|(apply acY;rfl;rfl;rfl)
 all_goals exact cI rfl rfl (out _)
theorem WY (C:CU M N N2){a b:AV}{p q:Rat}(ha:bz a p)(hb:bz b q)(lp:Bq N p)(lq:Bq N q)(li:Bq N q⁻¹)(h0:q≠0):∃v0,bz v0 (p*q⁻¹)/\cN M 150 [a,b] v0:=by
 obtain⟨v1,k1,q200⟩:=C.JW b q hb lq h0;obtain⟨v0,k0,q152⟩:=C.JY a v1 p _ ha k1 lp li;refine⟨v0,k0,cO (by rw[C.ft];exact Wz) (by simp) ?_⟩;have out:=fun hh=>k0.out (hh:=hh)
 obtain⟨s1,w1,s2,w2,rfl,h1,h2⟩:=ha;obtain⟨s3,w3,s4,w4,rfl,h3,h4⟩:=hb;obtain⟨s5,w5,s6,w6,rfl,h5,h6⟩:=k0;obtain⟨o5,_⟩:=h5.one;obtain⟨o6,_⟩:=h6.one;unfold JS;simp only[enter];repeat' first|(apply afA;rfl;rfl;(first|(simp only[nca];rfl)|rfl);first|exact q200 _|exact q152 _)|(apply adi;rfl;rfl;rfl;exact⟨rfl,Nat.le_refl _,by simp[overwrite,dU,fc,o5,o6]⟩;rfl)|apply abn|apply aM|apply abp|apply abC|apply abS|apply aet|apply afd|(apply aft;rfl;rfl;(first|(simp only[nca];rfl)|rfl))|(apply afI;rfl;(first|(simp only[nca];rfl)|rfl);(first|(simp only[nca];rfl)|rfl))|(apply acT;rfl;rfl;rfl)|(apply acY;rfl;rfl;rfl)
 all_goals exact cI rfl rfl (out _)
theorem WZ (C:CS M N N2){a b:AV}{p q:Rat}(ha:bz a p)(hb:bz b q)(lp:Bq N p)(lq:Bq N q):cN M 148 [a,b] (.iV (bh (p.num*q.den-q.num*p.den))):=by
 obtain⟨s1,w1,s2,w2,rfl,h1,h2⟩:=ha;obtain⟨s3,w3,s4,w4,rfl,h3,h4⟩:=hb;have dp:=den_pos (q:=p);have dq:=den_pos (q:=q);have hdp:ah (p.den:Int)<wB^N:=by rw[cD (by omega)];exact lp.2
 have hdq:ah (q.den:Int)<wB^N:=by rw[cD (by omega)];exact lq.2
 obtain⟨v1,k1,q198a⟩:=C.jP _ _ _ _ h1 h4 lp.1 hdq;obtain⟨v2,k2,q198b⟩:=C.jP _ _ _ _ h3 h2 lq.1 hdp;have q167:=C.eH.Cz v1 v2 _ _ k1 k2 (C.ou lp.1 hdq) (C.ou lq.1 hdp);refine cO (by rw[C.ft];exact WA) (by simp) ?_;unfold JT;simp only[enter];exact gg7
end Go.Ab.Ch1

/-
  Own work: integers of any size: binary digits, whole parts of fractions.
-/
namespace Go.Ab.Ch1
open Go.Ab.bj
variable {M:ax} {cap:Option Nat} {N N2:Nat}
theorem Xa {l:List Int}(ok:okW wB l)(nr:aN l)(h0:l≠[]):cA (WV wB l)=64*(l.length-1)+cA l[l.length-1]! := by
 have hl:0<l.length:=List.length_pos_iff.2 h0;obtain⟨n,hn⟩:∃n,l.length=n+1:=⟨l.length-1,by omega⟩;have t0:=lC nr hl;rw[hn,show n+1-1=n by omega]at t0 ⊢;have gt:=cf ok (i:=n) (by omega);have gt:0<=l[n]! /\ l[n]! < 18446744073709551616:=gt;obtain⟨s1,s2,s3⟩:=qk (x:=l[n]!) (by omega);obtain⟨t,ht⟩:∃t,t=l[n]! := ⟨_,rfl⟩;have e0:=iZ (b:=wB) (l:=l) (n:=n) (by omega);rw[←ht]at t0 gt s1 s2 s3 e0 ⊢;obtain⟨k,hk⟩:∃k,cA t=k+1:=⟨cA t-1,by omega⟩;rw[hk]at s2 s3 ⊢;rw[show k+1-1=k by omega]at s2;have l0:=cC (b:=wB) (by decide) (dr ok n);have l1:=da (b:=wB) (by decide) (dr ok n);rw[List.length_take,Nat.min_eq_left (by omega)]at l1;have hP:0<wB^n:=Int.pow_pos (by decide);have eP:wB^n=2^(64*n):=by rw[Int.pow_mul];rfl
 have m1:=Int.mul_le_mul_of_nonneg_left s2 (Int.le_of_lt hP);have m2:=Int.mul_le_mul_of_nonneg_left (show t+1<=2^(k+1) by omega) (Int.le_of_lt hP);rw[Int.mul_add,Int.mul_one]at m2;refine Jg (n:=64*n+k) ⟨?_,?_⟩
 . rw[Int.pow_add,←eP,e0];omega
 . rw[show 64*n+k+1=64*n+(k+1) by omega,Int.pow_add,←eP,e0];omega
theorem Xb (C:CI M N)(sn:∀(x:Int) h,(0<=x/\x<18446744073709551616)->M.ext 240 [.uV x] h=some ⟨.iV (cA x),h,[]⟩){v:AV}{z:Int}(hv:ay v z)(lz:ah z<wB^N):cN M 262 [v] (.iV (cA (ah z))):=by
 obtain⟨x,l,hx,ok,nr,hl,q246⟩:=C.kq v z hv;have len:=C.len ok nr hl lz;obtain⟨s,w,rfl,o,_⟩:=hv.shape;refine cO (by rw[C.ft];exact Wr) (by simp) ?_;rw[←hl];unfold JI;simp only[enter];rcases hx with rfl|⟨rfl,rfl⟩
 . by_cases h0:l.length=0
   . have e:cA (WV wB l)=0:=by rw[List.eq_nil_of_length_eq_zero h0];rfl
     rw[e];exact gg2
   . have hne:l≠[]:=fun e=>h0 (by rw[e];rfl)
     have gt:=cf ok (i:=((l.length:Int)-1).toNat) (by omega);have q240:=fun h=>sn l[((l.length:Int)-1).toNat]! h gt
     have e:=Xa ok nr hne;have hb:=oe (x:=l[((l.length:Int)-1).toNat]!) (n:=64) (by have:=gt.2;exact this) gt.1;rw[show l.length-1=((l.length:Int)-1).toNat by omega]at e;obtain⟨t,ht⟩:∃t,t=cA l[((l.length:Int)-1).toNat]! := ⟨_,rfl⟩;rw[←ht]at q240 e hb;have e2:(64*((l.length:Int)-1)+(t:Int))=((cA (WV wB l):Nat):Int):=by rw[e];omega
     rw[←e2];repeat' first|apply abn|apply aM|apply abp|apply abC|apply abS|apply acQ|(apply acS;rfl)|(apply aer;rfl;rfl)|(apply afC;rfl;rfl;omega)|(apply afD;rfl;rfl;omega)|(apply agT;rfl;rfl;omega)|(apply aco;rfl;rfl;first|exact q246 _|exact q240 _)|(apply aga;rfl;rfl;omega)|(apply agd;rfl;exact fun _=>rfl;(first|omega|(simp only[List.length_set];omega)|(simp;omega));decide;rfl;case ia=>infer_instance)|(apply acT;rfl;rfl;rfl)|(apply acY;rfl;rfl;rfl)|(apply abg;rfl;rfl)|(apply acn;rfl;rfl)|(intro _;omega)|intro _
     all_goals try omega
     all_goals exact cI rfl rfl (.same rfl rfl)
 . have e:cA (WV wB [])=0:=rfl;rw[e];exact gg2
end Go.Ab.Ch1

/-
  Own work: integers of any size: powers.
-/
namespace Go.Ab.Ch1
open Go.Ab.bj
variable {M:ax} {cap:Option Nat} {N N2:Nat}
section
variable {t:Nat} {x y:aO} {l:List aU} {pe:List AV} {lo:List (Nat×AV)} {hp:ab} {df wr:List Nat} {a:Int} {k:IntKind} {Q:aq->Prop}
theorem aht (hx:(St.mk pe lo hp df).aa x=some (.iV a))
 (h:WO M l ⟨⟨pe,(t,.iV (a/2))::lo,hp,df⟩,wr⟩ Q):WO M (⟨.l t,.bin .shr x (.c (.int k 1)),none⟩::l) ⟨⟨pe,lo,hp,df⟩,wr⟩ Q:=by
 refine WO.op (WP.pure (v:=.iV (a/2)) rfl ?_ h);have:a.fdiv (2^min (Int.toNat 1) IntKind.i64.bits)=a/2:=by
  show a.fdiv 2=a/2;rw[Int.fdiv_eq_ediv_of_nonneg _ (by omega)]
 have e:(St.mk pe lo hp df).aa (.c (.int k 1))=some (.int k 1):=rfl;simp only[aY,hx,e,cS,this];rfl
theorem ahs (hx:(St.mk pe lo hp df).aa x=some (.iV a))(hy:(St.mk pe lo hp df).aa y=some (.iV 1))(ha:0<=a/\a<9223372036854775808)
 (h:WO M l ⟨⟨pe,(t,.iV (a%2))::lo,hp,df⟩,wr⟩ Q):WO M (⟨.l t,.bin .and x y,none⟩::l) ⟨⟨pe,lo,hp,df⟩,wr⟩ Q:=by
 refine abg (v:=.iV (a%2)) ?_ rfl h;obtain⟨n,rfl⟩:=Int.eq_ofNat_of_zero_le ha.1;have e:(BitVec.ofInt 64 (n:Int) &&& BitVec.ofInt 64 1).toNat=n%2:=by
  rw[pZ,show (1:Int)=((1:Nat):Int) from rfl,pZ,BitVec.toNat_and,BitVec.toNat_ofNat,BitVec.toNat_ofNat,Nat.mod_eq_of_lt (show n<2^64 by omega),Nat.mod_eq_of_lt (show 1<2^64 by decide)];exact Nat.and_two_pow_sub_one_eq_mod n 1
 simp only[aY,hx,hy,cS,if_true];show some (AV.iV (IntKind.i64.wrap ((BitVec.ofInt 64 (n:Int) &&& BitVec.ofInt 64 1).toNat:Int)))=_;rw[e,nK (by omega)];rfl
end
def sE (s so:Int)(w wo:AV):ab:=[some (.cells [.iV s,w] 131),some (.cells [.iV 0,.ae] 131),some (.cells [.iV so,wo] 131)]
theorem Xc (C:CF M N){A:Int}{K:Nat}(hK:K<1000000)(hB:∀i,i<=K->ah (A^i)<wB^N){Q:Ex->aq->Prop}(a0:AV)
 (hQ:∀s so w wo p1 lo wr,ay (.agg [.iV so,wo]) (A^K)->Q (.exit 0) ⟨⟨[a0,p1,.ptr 0 0,.ptr 1 0,.ptr 2 0],lo,sE s so w wo,[]⟩,wr⟩)
 (s so:Int) (w wo:AV) (lo:List (Nat×AV)) (wr:List Nat) (hs:ay (.agg [.iV s,w]) A) (ho:ay (.agg [.iV so,wo]) 1) :
 W M (.loop qz) ⟨⟨[a0,.iV K,.ptr 0 0,.ptr 1 0,.ptr 2 0],lo,sE s so w wo,[]⟩,wr⟩ Q:=by
 refine W.fT (fun m st=>∃s so w wo kv lo wr i j,st=⟨⟨[a0,.iV kv,.ptr 0 0,.ptr 1 0,.ptr 2 0],lo,sE s so w wo,[]⟩,wr⟩/\kv=(m:Int)/\ay (.agg [.iV s,w]) (A^i)/\ay (.agg [.iV so,wo]) (A^j)/\j+i*m=K/\m<=K)
  (fun m st ⟨s,so,w,wo,kv,lo,wr,i,j,hst,hkv,hs,ho,hj,hmK⟩=>?_) (m:=K) ⟨s,so,w,wo,_,lo,wr,1,0,rfl,rfl,by rw[Int.pow_one];exact hs,by rw[Int.pow_zero];exact ho,by omega,Nat.le_refl _⟩
 subst hst;subst hkv;by_cases h0:m=0
 . subst h0;have ej:j=K:=by omega
   subst ej;unfold qz;exact gg10
 . obtain⟨q,b,hqb,hb⟩:∃q b:Nat,m=2*q+b/\b<2:=⟨m/2,m%2,by omega,by omega⟩;have him:i*m=2*(i*q)+i*b:=by rw[hqb,Nat.mul_add,←Nat.mul_assoc,Nat.mul_comm i 2,Nat.mul_assoc]
   have hdiv:(m:Int)/2=(q:Int):=by omega
   have hmod:(m:Int)%2=(b:Int):=by omega
   have hi:i<=K:=by
    have:i*1<=i*m:=Nat.mul_le_mul_left i (by omega);omega
   have hjK:j<=K:=by omega
   obtain⟨o1,_⟩:=hs.one;obtain⟨o2,_⟩:=ho.one;have fin:∀s so w wo lo wr i' j',ay (.agg [.iV s,w]) (A^i')->ay (.agg [.iV so,wo]) (A^j')->j'+i'*q=K->LI (fun st=>∃m',m'<m/\∃s so w wo kv lo wr i j,st=⟨⟨[a0,.iV kv,.ptr 0 0,.ptr 1 0,.ptr 2 0],lo,sE s so w wo,[]⟩,wr⟩/\kv=(m':Int)/\ay (.agg [.iV s,w]) (A^i)/\ay (.agg [.iV so,wo]) (A^j)/\j+i*m'=K/\m'<=K) Q .normal ⟨⟨[a0,.iV ((m:Int)/2),.ptr 0 0,.ptr 1 0,.ptr 2 0],lo,sE s so w wo,[]⟩,wr⟩:=fun s so w wo lo wr i' j' h1 h2 h3=>
    dE ⟨q,by omega,s,so,w,wo,_,lo,wr,i',j',rfl,hdiv,h1,h2,h3,by omega⟩
   have sq:q≠0->∃v,ay v (A^(i+i))/\∀h,M.ext 198 [.agg [.iV s,w],.agg [.iV s,w]] h=some ⟨v,h,[]⟩:=fun hq=>by
    obtain⟨v,h1,h2⟩:=C.jP _ _ _ _ hs hs (hB i hi) (hB i hi);exact⟨v,by rw[Int.pow_add];exact h1,h2⟩
   by_cases hodd:b=1
   . subst hodd;obtain⟨v1,h1,q1⟩:=C.jP _ _ _ _ ho hs (hB j hjK) (hB i hi);have h1:ay v1 (A^(j+i)):=by rw[Int.pow_add];exact h1
     obtain⟨s1,w1,rfl,o3,_⟩:=h1.shape;by_cases hq:q=0
     . subst hq;unfold qz;repeat' first|(apply ahs;rfl;rfl;omega)|(apply aht;rfl)|(apply adi;rfl;rfl;rfl;exact⟨rfl,Nat.le_refl _,by simp[overwrite,dU,fc,o3]⟩;rfl)|apply abn|apply aM|apply abp|apply abC|apply ada|apply acQ|apply dx|(apply acL;rfl)|(apply acS;rfl)|(apply aep;rfl;rfl)|(apply aer;rfl;rfl)|(apply aco;rfl;rfl;first|exact q1 _)|(apply acT;rfl;rfl;rfl)|(apply abg;rfl;rfl)|(apply acn;rfl;rfl)|(intro _;omega)|intro _
       all_goals try omega
       all_goals exact fin s s1 w w1 _ _ i (j+i) hs h1 (by omega)
     . obtain⟨v2,h2,q2⟩:=sq hq;obtain⟨s2,w2,rfl,o4,_⟩:=h2.shape;unfold qz;exact gg0
   . obtain⟨v2,h2,q2⟩:=sq (by omega);obtain⟨s2,w2,rfl,o4,_⟩:=h2.shape;have hb0:b=0:=by omega
     subst hb0;unfold qz;repeat' first|(apply ahs;rfl;rfl;omega)|(apply aht;rfl)|(apply adi;rfl;rfl;rfl;exact⟨rfl,Nat.le_refl _,by simp[overwrite,dU,fc,o4]⟩;rfl)|apply abn|apply aM|apply abp|apply abC|apply ada|apply acQ|apply dx|(apply acL;rfl)|(apply acS;rfl)|(apply aep;rfl;rfl)|(apply aer;rfl;rfl)|(apply aco;rfl;rfl;first|exact q2 _)|(apply acT;rfl;rfl;rfl)|(apply abg;rfl;rfl)|(apply acn;rfl;rfl)|(intro _;omega)|intro _
     all_goals try omega
     all_goals exact fin s2 so w2 wo _ _ (i+i) j h2 ho (by rw[Nat.add_mul];omega)
theorem Xd (C:CF M N){v:AV}{A:Int}{K:Nat}(hv:ay v A)(hK:K<1000000)(hB:∀i,i<=K->ah (A^i)<wB^N):∃v0,ay v0 (A^K)/\cN M 215 [v,.iV K] v0:=by
 have q168:=C.ot 1;obtain⟨s,w,rfl,o1,_⟩:=hv.shape;obtain⟨v',hh,⟨v0,h0,ho⟩,hr⟩:=gQ (M:=M) (f:=215) (ars:=[.agg [.iV s,w],.iV K]) (P:=fun v hh=>∃v0,ay v0 (A^K)/\fj v hh v0) (by rw[C.ft];exact Ws) (by simp) (by
  unfold JJ;simp only[enter];repeat' first|apply abn|apply aM|apply abp|apply abC|apply ada|(apply aco;rfl;rfl;first|exact q168 _)|(apply acY;rfl;rfl;rfl)|(apply agF;rfl;rfl;rfl)
  refine Xc C hK hB _ (fun s so w wo p1 lo wr hg=>?_) s 1 w .ae _ _ hv (.small (by decide));obtain⟨o5,_⟩:=hg.one;refine gg13 ?_;exact⟨.inr rfl,rfl,_,rfl,_,hg,hg.out⟩)
 exact⟨v0,h0,v',hh,ho,hr⟩
end Go.Ab.Ch1

/-
  Own work: runs of integers' operations as contracts.
-/
namespace Go.Ab.Ch1
open Go.Ab.bj
variable {P:Program} {T:List (Nat×Spec)} {g:Nat}
theorem cN.runK {ars:List AV}{v0:AV}(h:cN (aV P FT T) g ars v0)(ht:br ars=0):Bx P FT T g ars v0:=by
 obtain⟨v,hh,⟨v1,h1,h2,h3⟩,hr⟩:=h;exact⟨v,hh,v1,hr,h1,ht,h2,h3⟩
theorem cN.eq {ars:List AV}{v0:AV}{hp:ab}(h:cN (aV P FT T) g ars v0)(ht:br ars=0):pW P FT T g ars hp=some ⟨v0,hp,[]⟩:=rW (h.runK ht)
theorem qj.eq {ars as0:List AV}{z:Int}(h:qj (aV P FT T) g as0 z):∃r,okW wB r/\aN r/\WV wB r=z/\∀hp,fU hp ars as0->rV P FT T g ars hp=some ⟨.vs (aj r) r.length none,hp,[]⟩:=by
 obtain⟨r,⟨h1,h2,h3⟩,v,hh,⟨v1,f,t,c⟩,hr⟩:=h;exact⟨r,h1,h2,h3,fun hp hf=>lh hf ⟨v,hh,v1,hr,f,t,c⟩⟩
theorem su.eq {ars:List AV}{x y:Int}(h:su (aV P FT T) g ars x y)(ht:br ars=0):∃qv q rv r,de qv q/\de rv r/\okW wB q/\aN q/\okW wB r/\aN r/\WV wB q=x/y/\WV wB r=x%y/\∀hp,pW P FT T g ars hp=some ⟨.au [qv,rv],hp,[]⟩:=by
 obtain⟨q,r,⟨h1,h2,h3⟩,⟨h4,h5,h6⟩,v,hh,⟨v1,qv,rv,f,t,c,k1,k2⟩,hr⟩:=h;exact⟨qv,q,rv,r,k1,k2,h1,h2,h4,h5,h3,h6,fun hp=>rW ⟨v,hh,v1,hr,f,ht,t,c⟩⟩
theorem de.top {x:AV}{l:List Int}(h:de x l):x.top=0:=by
 rcases h with rfl|⟨rfl,rfl⟩
 . exact gn l
 . rfl
theorem ay.top {v:AV}{z:Int}(h:ay v z):v.top=0:=by
 obtain⟨s,w,rfl,_,t,_⟩:=h.shape;simp[AV.top,br,t]
theorem bz.top {v:AV}{q:Rat}(h:bz v q):v.top=0:=by
 obtain⟨s,w,s',w',rfl,h1,h2⟩:=h;have t1:=h1.one.2.1;have t2:=h2.one.2.1;simp[AV.top,br,t1,t2]
end Go.Ab.Ch1

/-
  Own work: the contracts of words, integers and fractions as tables.
-/
namespace Go.Ab.Ch1
open Go.Proofs Go.Ab.bj
variable {T:List (Nat×Spec)}
noncomputable abbrev sK (T:List (Nat×Spec))(g:Nat):Spec:=pW Tryz.prog FT T g
noncomputable abbrev sL (T:List (Nat×Spec))(g:Nat):Spec:=rV Tryz.prog FT T g
theorem aZ {g:Nat}(hT:cz Tryz.prog gl (bk T)):aS Tryz.prog gl g (sK T g):=TA qe hT
theorem iJ {g:Nat}(hT:cz Tryz.prog gl (bk T)):aS Tryz.prog gl g (sL T g):=Ty qe hT
theorem im {v:AV}(h:v.top=0):br [v]=0:=by simp[br,h]
theorem eK {v w:AV}(h:v.top=0)(k:w.top=0):br [v,w]=0:=by simp[br,h,k]
theorem du {ars:List AV}{v0:AV}{g:Nat}(h:cN (aV Tryz.prog FT T) g ars v0)(ht:br ars=0):∀hp,sK T g ars hp=some ⟨v0,hp,[]⟩:=fun _=>h.eq ht
def JZ:List (Nat×Spec):=[(275,my .pI),(277,my .pJ)]
theorem Xe:cz Tryz.prog gl (bk JZ):=aL (vn Iw) (aL (vn Ix) bA)
structure CH (T:List (Nat×Spec)):Prop where
 Xf:∀ar h,bk T 275 ar h=my .pI ar h
 Xg:∀ar h,bk T 277 ar h=my .pJ ar h
 wi:∀ar h,bk T 276 ar h=none
theorem CH.c (E:CH T):mC (aV Tryz.prog FT T) where
 ft:=ba
 wi:=E.wi
 mD x y c h hx hy h0 h1:=by
  refine(E.Xf _ _).trans ?_;show Option.map _ (if _ then _ else _)=_;rw[if_pos ⟨hx,hy,h0,h1⟩];rfl
 wj x y c h hx hx1 hy hy1 h0 h1:=by
  refine(E.Xg _ _).trans ?_;show Option.map _ (if _ then _ else _)=_;rw[if_pos ⟨hx,hy,h0,h1⟩];have e1:(((x.toNat+18446744073709551616-y.toNat-c.toNat)%18446744073709551616:Nat):Int)=(x-y-c)%18446744073709551616:=by omega
  have e2:((if x.toNat<y.toNat+c.toNat then 1 else 0:Nat):Int)=if x<y+c then 1 else 0:=by
   by_cases hc:x<y+c
   . rw[if_pos hc,if_pos (by omega)];rfl
   . rw[if_neg hc,if_neg (by omega)];rfl
  show some (HR.mk (.au [.uV _,.uV _]) h [])=_;rw[e1,e2]
noncomputable def mJ:Spec:=sK [] 244
theorem CK:aS Tryz.prog gl 244 mJ:=aZ bA
theorem CL:∀(x y:Int) h,(0<=x/\x<18446744073709551616)->(0<=y/\y<18446744073709551616)->mJ [.uV x,.uV y] h=some ⟨.au [.uV (x*y/18446744073709551616),.uV (x*y%18446744073709551616)],h,[]⟩:=fun x y h hx hy=>bF (UW ba x y hx hy) rfl rfl rfl h
noncomputable def qB:List (Nat×Spec):=(244,mJ)::JZ
theorem wF:cz Tryz.prog gl (bk qB):=aL CK Xe
structure wG (T:List (Nat×Spec)):Prop extends CH T where
 CM:∀ar h,bk T 244 ar h=mJ ar h
theorem wG.c (E:wG T):mE (aV Tryz.prog FT T):={ E.toCH.c with od:=fun x y h hx hy=>(E.CM _ _).trans (CL x y h hx hy) }
theorem CN:wG qB:=by repeat' first|exact fun _ _=>rfl|constructor
noncomputable def sG:Spec:=sK [] 240
theorem CO:aS Tryz.prog gl 240 sG:=aZ bA
theorem CP:∀(x:Int) h,(0<=x/\x<18446744073709551616)->sG [.uV x] h=some ⟨.iV (cA x),h,[]⟩:=fun x h hx=>bF (Vk ba x hx) rfl rfl rfl h
noncomputable def Ka:List (Nat×Spec):=[(240,sG)]
noncomputable def sH:Spec:=sK Ka 279
theorem Kb:aS Tryz.prog gl 279 sH:=aZ (aL CO bA)
theorem Kc:∀(y:Int) h,(0<=y/\y<18446744073709551616)->sH [.uV y] h=some ⟨.iV (64-cA y:Nat),h,[]⟩:=fun x h hx=>bF (Vl (M:=aV Tryz.prog FT Ka) ba x hx fun h=>CP x h hx) rfl rfl rfl h
noncomputable def Kd:List (Nat×Spec):=[(279,sH)]
noncomputable def wH:Spec:=sK Kd 278
theorem Xh:aS Tryz.prog gl 278 wH:=aZ (aL Kb bA)
theorem Xi:∀(hi lo y:Int) h,(0<y/\y<18446744073709551616)->(0<=hi/\hi<y)->(0<=lo/\lo<18446744073709551616)->wH [.uV hi,.uV lo,.uV y] h=some ⟨.au [.uV ((hi*18446744073709551616+lo)/y),.uV ((hi*18446744073709551616+lo)%y)],h,[]⟩:=fun hi lo y h hy hh hl=>
 bF (Vp (M:=aV Tryz.prog FT Kd) ba hi lo y hy hh hl fun h=>Kc y h ⟨by omega,hy.2⟩) rfl rfl rfl h
noncomputable def wI:Spec:=sL qB 249
noncomputable def wJ:Spec:=sL qB 251
noncomputable def wK:Spec:=sL qB 248
noncomputable def ox:Spec:=sL [] 250
theorem Xj:aS Tryz.prog gl 249 wI:=iJ wF
theorem Xk:aS Tryz.prog gl 251 wJ:=iJ wF
theorem Xl:aS Tryz.prog gl 248 wK:=iJ wF
theorem Ke:aS Tryz.prog gl 250 ox:=iJ bA
theorem Xm:∀x l y m,de x l->de y m->okW wB l->okW wB m->l.length<=500000->m.length<=500000->∃r,okW wB r/\aN r/\WV wB r=WV wB l+WV wB m/\∀h,wI [x,y] h=some ⟨.vs (aj r) r.length none,h,[]⟩:=fun x l y m hx hy o1 o2 l1 l2=>by
 obtain⟨r,h1,h2,h3,h4⟩:=(Vb (c1:=none) (c2:=none) CN.c.tomC l m o1 o2 (by omega) (by omega)).eq;exact⟨r,h1,h2,h3,fun h=>h4 h (.cons hx.gw (.cons hy.gw .nil))⟩
theorem Xn:∀x l y m,de x l->de y m->okW wB l->okW wB m->aN l->aN m->l.length<=500000->m.length<=500000->WV wB m<=WV wB l->∃r,okW wB r/\aN r/\WV wB r=WV wB l-WV wB m/\∀h,wJ [x,y] h=some ⟨.vs (aj r) r.length none,h,[]⟩:=fun x l y m hx hy o1 o2 n1 n2 l1 l2 hle=>by
 have hlen:m.length<=l.length:=by
  rcases Nat.lt_or_ge l.length m.length with h|h
  . have:=oc (b:=wB) (by decide) o1 o2 n2 h;omega
  . exact h
 obtain⟨r,h1,h2,h3,h4⟩:=(Vd (c1:=none) (c2:=none) CN.c.tomC l m o1 o2 (by omega) hlen hle).eq;exact⟨r,h1,h2,h3,fun h=>h4 h (.cons hx.gw (.cons hy.gw .nil))⟩
theorem Xo:∀x l y m,de x l->de y m->okW wB l->okW wB m->l.length<=500000->m.length<=500000->∃r,okW wB r/\aN r/\WV wB r=WV wB l*WV wB m/\∀h,wK [x,y] h=some ⟨.vs (aj r) r.length none,h,[]⟩:=fun x l y m hx hy o1 o2 l1 l2=>by
 obtain⟨r,h1,h2,h3,h4⟩:=(Vf (c1:=none) (c2:=none) CN.c l m o1 o2 (by omega) (by omega)).eq;exact⟨r,h1,h2,h3,fun h=>h4 h (.cons hx.gw (.cons hy.gw .nil))⟩
theorem CV {x y:AV}{l m:List Int}{c1 c2:Option Nat}{h:ab}(hx:cZ h x (.vs (aj l) l.length c1))(hy:cZ h y (.vs (aj m) m.length c2))(o1:okW wB l)(o2:okW wB m)(n1:aN l)(n2:aN m)(l1:l.length<1000000000)(l2:m.length<1000000000):ox [x,y] h=some ⟨.iV (bh (WV wB l-WV wB m)),h,[]⟩:=
 nU (Va ba l m o1 o2 n1 n2 l1 l2) rfl rfl rfl (.cons hx (.cons hy .nil))
theorem Kf:∀x l y m,de x l->de y m->okW wB l->okW wB m->aN l->aN m->l.length<=500000->m.length<=500000->∀h,ox [x,y] h=some ⟨.iV (bh (WV wB l-WV wB m)),h,[]⟩:=fun x l y m hx hy o1 o2 n1 n2 l1 l2 h=>
 CV hx.gw hy.gw o1 o2 n1 n2 (by omega) (by omega)
noncomputable def qC:List (Nat×Spec):=(278,wH)::(250,ox)::(279,sH)::qB
theorem CW:cz Tryz.prog gl (bk qC):=aL Xh (aL Ke (aL Kb wF))
structure CX (T:List (Nat×Spec)):Prop extends wG T where
 Xp:∀ar h,bk T 278 ar h=wH ar h
 CY:∀ar h,bk T 250 ar h=ox ar h
 Xq:∀ar h,bk T 279 ar h=sH ar h
 ss:∀ar h,bk T 280 ar h=none
 wx:∀ar h,bk T 281 ar h=none
theorem CX.c (E:CX T):Cm (aV Tryz.prog FT T):={ E.towG.c with
 Ck:=fun hi lo y h h1 h2 h3=>(E.Xp _ _).trans (Xi hi lo y h h1 h2 h3)
 qp:=fun a b c1 c2 h o1 o2 n1 n2 l1 l2=>(E.CY _ _).trans (CV (.mA (sv a)) (.mA (sv b)) o1 o2 n1 n2 l1 l2)
 wu:=fun y h hy=>(E.Xq _ _).trans (Kc y h hy)
 ss:=E.ss
 wx:=E.wx }
theorem Kg:CX qC:=by repeat' first|exact fun _ _=>rfl|constructor
noncomputable def wL:Spec:=sK qC 253
theorem Xr:aS Tryz.prog gl 253 wL:=aZ CW
theorem Xs:∀x l y m,de x l->de y m->okW wB l->okW wB m->aN l->aN m->l.length<=500000->m.length<=500000->m≠[]->∃qv q rv r,de qv q/\de rv r/\okW wB q/\aN q/\okW wB r/\aN r/\WV wB q=WV wB l/WV wB m/\WV wB r=WV wB l%WV wB m/\∀h,wL [x,y] h=some ⟨.au [qv,rv],h,[]⟩:=fun x l y m hx hy o1 o2 n1 n2 l1 l2 hm=>by
 have hy':y = .vs (aj m) m.length none:=by
  rcases hy with h|⟨_,h⟩
  . exact h
  . exact absurd h hm
 subst hy';rcases hx with rfl|⟨rfl,rfl⟩
 . exact(VH Kg.c l m o1 o2 n1 n2 (by omega) (by omega) hm).eq (eK (gn l) (gn m))
 . have hv:=(iW (b:=wB) (by decide) o2 n2).2 hm;have q250:∀h,(aV Tryz.prog FT qC).ext 250 [.ae,.vs (aj m) m.length none] h=some ⟨.iV (-1),h,[]⟩:=fun h=>by
    have:=Kf .ae [] _ m (.inr ⟨rfl,rfl⟩) (.inl rfl) o1 o2 n1 n2 l1 l2 h;rw[show bh (WV wB []-WV wB m) = -1 from if_pos (by simp[WV];omega)]at this;exact this
   exact(VI ba m o2 n2 hm q250).eq (eK rfl (gn m))
def Xt (ar:List AV):Prop:=∃l c y,ar=[.vs (aj l) l.length c,y]/\WV wB l<1000000000000000000
noncomputable def qE:Spec:=rX Xt (By Tryz.prog FT qC 253) (sL qC 253)
theorem Xu:aS Tryz.prog gl 253 qE:=TH (TC qe CW) (iJ CW)
theorem Kh {h:ab}{b:Nat}{a:AV}{e:TypeId}{cp:Option Nat}(ha:pS a=true)(hb:h.at b=some (.cells [a] e)):cZ h (.sl b 0 1 1 cp) (.vs [a] 1 none):=
 .sl (m:=[a]) hb rfl rfl fun i x y hx hy=>by
  match i,hx,hy with
  | 0,hx,hy=>cases hx;cases hy;exact .atom ha
def eW:List Int:=[1000000000000000000]
theorem oy:okW wB eW/\aN eW/\WV wB eW=1000000000000000000:=⟨by intro x hx;rw[List.mem_singleton.1 hx];decide,(si (l:=eW) (by simp[eW])).2 (by simp[eW]),by decide⟩
theorem Xv:∀(l:List Int) (b:Nat) c h,okW wB l->aN l->l.length<=500000->WV wB l<1000000000000000000->h.at b=some (.cells (aj [1000000000000000000]) 246)->qE [.vs (aj l) l.length none,.sl b 0 1 1 c] h=some ⟨.au [.ae,.vs (aj l) l.length none],h,[]⟩:=fun l b c h ok nr hl hv hb=>by
 unfold qE;rw[TK ⟨l,none,_,rfl,hv⟩];refine TE (VJ ba l _ h ?_);have:=CV (x:=.vs (aj l) l.length none) (y:=.sl b 0 1 1 c) (l:=l) (m:=eW) (c1:=none) (c2:=none) (h:=h) (.mA (sv l)) (Kh rfl hb) ok oy.1 nr oy.2.1 (by omega) (by decide);rw[oy.2.2,show bh (WV wB l-1000000000000000000) = -1 from if_pos (by omega)]at this;exact this
theorem Xw:∀(l:List Int) (b:Nat) c h,okW wB l->aN l->l.length<=500000->¬WV wB l<1000000000000000000->h.at b=some (.cells (aj [1000000000000000000]) 246)->∃q r,okW wB q/\aN q/\okW wB r/\aN r/\WV wB q=WV wB l/1000000000000000000/\WV wB r=WV wB l%1000000000000000000/\qE [.vs (aj l) l.length none,.sl b 0 1 1 c] h=some ⟨.au [.vs (aj q) q.length none,.vs (aj r) r.length none],h,[]⟩:=fun l b c h ok nr hl hv hb=>by
 obtain⟨q,r,⟨h1,h2,h3⟩,⟨h4,h5,h6⟩,v,hh,⟨v1,f,t,k⟩,hr⟩:=VM (c1:=none) (c2:=none) Kg.c l eW ok oy.1 nr oy.2.1 (by omega) rfl (by rw[oy.2.2];exact hv);rw[oy.2.2]at h3 h6;refine⟨q,r,h1,h2,h4,h5,h3,h6,?_⟩;unfold qE;rw[TL]
 . exact lh (.cons (.mA (sv l)) (.cons (Kh rfl hb) .nil)) ⟨v,hh,v1,hr,f,t,k⟩
 . rintro⟨l',c',y,e,hlt⟩;simp only[List.cons.injEq,AV.vs.injEq]at e;have:=Ik (f:=uC) (esz:=1) (fun _=>rfl) (fun a b hab=>by simpa[uC] using hab) e.1.2.1 e.1.1;subst this;exact hv hlt
noncomputable def sI:Spec:=sK [] 245
theorem Ki:aS Tryz.prog gl 245 sI:=aZ bA
theorem Kj:∀s h,(-9223372036854775808<=s/\s<9223372036854775808)->sI [.iV s] h=some ⟨.uV (ah s),h,[]⟩:=fun s h hs=>bF (VN ba s hs) rfl rfl rfl h
noncomputable def Kk:List (Nat×Spec):=[(245,sI)]
noncomputable def wM:Spec:=sK Kk 246
theorem Xx:aS Tryz.prog gl 246 wM:=aZ (aL Ki bA)
theorem Xy:∀v z,ay v z->∃x l,de x l/\okW wB l/\aN l/\WV wB l=ah z/\∀h,wM [v] h=some ⟨.au [.bool (decide (z<0)),x],h,[]⟩:=fun v z hv=>by
 obtain⟨x,l,h1,h2,h3,h4,h5⟩:=VP (M:=aV Tryz.prog FT Kk) ba (fun s h hs=>Kj s h hs) hv;exact⟨x,l,h1,h2,h3,h4,du h5 (im hv.top)⟩
noncomputable def wN:Spec:=sK [] 247
theorem Xz:aS Tryz.prog gl 247 wN:=aZ bA
theorem XA:∀neg x l,de x l->okW wB l->aN l->l.length<=1000001->∃v0,ay v0 (fQ neg (WV wB l))/\∀h,wN [.bool neg,x] h=some ⟨v0,h,[]⟩:=fun neg x l hx ok nr hl=>by
 obtain⟨v0,h1,h2⟩:=VQ (M:=aV Tryz.prog FT []) ba neg hx ok nr (by omega);exact⟨v0,h1,du h2 (eK rfl hx.top)⟩
noncomputable def TI:List (Nat×Spec):=[(245,sI),(244,mJ),(246,wM),(247,wN),(249,wI),(251,wJ),(248,wK),(250,ox)]
theorem qF:cz Tryz.prog gl (bk TI):=aL Ki (aL CK (aL Xx (aL Xz (aL Xj (aL Xk (aL Xl (aL Ke bA)))))))
structure EI (T:List (Nat×Spec)):Prop where
 XB:∀ar h,bk T 245 ar h=sI ar h
 CM:∀ar h,bk T 244 ar h=mJ ar h
 XC:∀ar h,bk T 246 ar h=wM ar h
 XD:∀ar h,bk T 247 ar h=wN ar h
 XE:∀ar h,bk T 249 ar h=wI ar h
 XF:∀ar h,bk T 251 ar h=wJ ar h
 XG:∀ar h,bk T 248 ar h=wK ar h
 CY:∀ar h,bk T 250 ar h=ox ar h
theorem EI.c (E:EI T){N:Nat}(hN:N<=500000):CI (aV Tryz.prog FT T) N where
 ft:=ba
 lN:=hN
 sw:=by simp only[fV,E.XB];exact Kj
 od:=by simp only[fV,E.CM];exact CL
 kq:=by simp only[fV,E.XC];exact Xy
 jO:=by simp only[fV,E.XD];exact XA
 JC:=by simp only[fV,E.XE];exact Xm
 Cr:=by simp only[fV,E.XF];exact Xn
 JD:=by simp only[fV,E.XG];exact Xo
 qp:=by simp only[fV,E.CY];exact Kf
theorem eI:EI TI:=by repeat' first|exact fun _ _=>rfl|constructor
noncomputable def wO:Spec:=sK TI 216
noncomputable def wP:Spec:=sK TI 202
noncomputable def wQ:Spec:=sK TI 198
noncomputable def wR:Spec:=sK [] 211
noncomputable def wS:Spec:=sK [] 168
theorem XH:aS Tryz.prog gl 216 wO:=aZ qF
theorem XI:aS Tryz.prog gl 202 wP:=aZ qF
theorem XJ:aS Tryz.prog gl 198 wQ:=aZ qF
theorem XL:aS Tryz.prog gl 211 wR:=aZ bA
theorem XM:aS Tryz.prog gl 168 wS:=aZ bA
def P1 (sp:Spec)(N:Nat)(f:Int->Int):Prop:=∀v z,ay v z->ah z<wB^N->∃v0,ay v0 (f z)/\∀h,sp [v] h=some ⟨v0,h,[]⟩
def P2 (sp:Spec)(N:Nat)(f:Int->Int->Int):Prop:=∀a b x y,ay a x->ay b y->ah x<wB^N->ah y<wB^N->∃v0,ay v0 (f x y)/\∀h,sp [a,b] h=some ⟨v0,h,[]⟩
theorem P1.op {sp:Spec}{N g:Nat}{f:Int->Int}(p:P1 sp N f)(e:∀ar h,bk T g ar h=sp ar h):Op1 (aV Tryz.prog FT T) N g f:=fun v z hv hz=>by
 obtain⟨v0,h1,h2⟩:=p v z hv hz;exact⟨v0,h1,fun h=>(e _ _).trans (h2 h)⟩
theorem P2.op {sp:Spec}{N g:Nat}{f:Int->Int->Int}(p:P2 sp N f)(e:∀ar h,bk T g ar h=sp ar h):wA (aV Tryz.prog FT T) N g f:=fun a b x y ha hb hx hy=>by
 obtain⟨v0,h1,h2⟩:=p a b x y ha hb hx hy;exact⟨v0,h1,fun h=>(e _ _).trans (h2 h)⟩
theorem XO {N:Nat}(hN:N<=500000):P1 wO N (fun z=>-z):=fun v z hv hz=>by
 obtain⟨v0,h1,h2⟩:=VX (eI.c hN) hv hz;exact⟨v0,h1,du h2 (im hv.top)⟩
theorem XP {N:Nat}(hN:N<=500000):P2 wP N (· + ·):=fun a b x y ha hb hx hy=>by
 obtain⟨v0,h1,h2⟩:=Wd (eI.c hN) ha hb hx hy;exact⟨v0,h1,du h2 (eK ha.top hb.top)⟩
theorem XQ {N:Nat}(hN:N<=500000):P2 wQ N (· * ·):=fun a b x y ha hb hx hy=>by
 obtain⟨v0,h1,h2⟩:=Wk (eI.c hN) ha hb hx hy;exact⟨v0,h1,du h2 (eK ha.top hb.top)⟩
theorem XR:∀v z,ay v z->∀h,wR [v] h=some ⟨.iV (bh z),h,[]⟩:=fun v z hv h=>bF (VY ba hv) (im hv.top) rfl rfl h
theorem XS:∀s h,wS [.iV s] h=some ⟨.agg [.iV s,.ae],h,[]⟩:=fun s h=>(Wh ba s).eq rfl
noncomputable def wT:List (Nat×Spec):=(216,wO)::(202,wP)::TI
theorem Kl:cz Tryz.prog gl (bk wT):=aL XH (aL XI qF)
structure wU (T:List (Nat×Spec)):Prop extends EI T where
 XT:∀ar h,bk T 216 ar h=wO ar h
 XU:∀ar h,bk T 202 ar h=wP ar h
theorem wU.c (E:wU T){N:Nat}(hN:N<=500000):Cs (aV Tryz.prog FT T) N:={ E.toEI.c hN with lG:=(XO hN).op E.XT,qy:=(XP hN).op E.XU }
theorem XV:wU wT:=by repeat' first|exact fun _ _=>rfl|constructor
noncomputable def wV:Spec:=sK wT 217
theorem XW:aS Tryz.prog gl 217 wV:=aZ Kl
theorem XX {N:Nat}(hN:N<=500000):P2 wV N (· - ·):=fun a b x y ha hb hx hy=>by
 obtain⟨v0,h1,h2⟩:=We (XV.c hN) ha hb hx hy;exact⟨v0,h1,du h2 (eK ha.top hb.top)⟩
noncomputable def TJ:List (Nat×Spec):=(217,wV)::(211,wR)::wT
theorem wW:cz Tryz.prog gl (bk TJ):=aL XW (aL XL Kl)
structure EJ (T:List (Nat×Spec)):Prop extends wU T where
 XY:∀ar h,bk T 217 ar h=wV ar h
 XZ:∀ar h,bk T 211 ar h=wR ar h
theorem EJ.c (E:EJ T){N:Nat}(hN:N<=500000):CJ (aV Tryz.prog FT T) N:={ E.towU.c hN with Ct:=(XX hN).op E.XY,oh:=fun v z hv h=>(E.XZ _ _).trans (XR v z hv h) }
theorem eJ:EJ TJ:=by repeat' first|exact fun _ _=>rfl|constructor
noncomputable def wX:Spec:=sK TJ 210
noncomputable def wY:Spec:=sK TJ 167
noncomputable def wZ:Spec:=sK TJ 199
theorem Ya:aS Tryz.prog gl 210 wX:=aZ wW
theorem Yb:aS Tryz.prog gl 167 wY:=aZ wW
theorem Yc:aS Tryz.prog gl 199 wZ:=aZ wW
theorem Yd {N:Nat}(hN:N<=500000):P1 wX N ah:=fun v z hv hz=>by
 obtain⟨v0,h1,h2⟩:=Wf (eJ.c hN) hv hz;exact⟨v0,h1,du h2 (im hv.top)⟩
theorem Ye {N:Nat}(hN:N<=500000):∀a b x y,ay a x->ay b y->ah x<wB^N->ah y<wB^N->∀h,wY [a,b] h=some ⟨.iV (bh (x-y)),h,[]⟩:=fun a b x y ha hb hx hy=>
 du (Wg (eJ.c hN) ha hb hx hy) (eK ha.top hb.top)
theorem Yf {N:Nat}(hN:N<=500000):∀v q,bz v q->Bq N q->∃v0,bz v0 (-q)/\∀h,wZ [v] h=some ⟨v0,h,[]⟩:=fun v q hv lq=>by
 obtain⟨v0,h1,h2⟩:=WU (eJ.c hN) hv lq;exact⟨v0,h1,du h2 (im hv.top)⟩
noncomputable def TD:List (Nat×Spec):=(168,wS)::(253,wL)::TJ
theorem CZ:cz Tryz.prog gl (bk TD):=aL XM (aL Xr wW)
structure ED (T:List (Nat×Spec)):Prop extends EJ T where
 Yg:∀ar h,bk T 168 ar h=wS ar h
 Yh:∀ar h,bk T 253 ar h=wL ar h
theorem ED.c (E:ED T){N:Nat}(h1:1<=N)(hN:N<=500000):CD (aV Tryz.prog FT T) N:={ E.toEJ.c hN with
 n1:=h1
 ot:=fun s h=>(E.Yg _ _).trans (XS s h)
 JH:=by simp only[fV,E.Yh];exact Xs }
theorem eD:ED TD:=by repeat' first|exact fun _ _=>rfl|constructor
noncomputable def xc:Spec:=sK TD 205
noncomputable def xe:Spec:=sK TD 159
theorem Yi:aS Tryz.prog gl 205 xc:=aZ CZ
theorem Yj:aS Tryz.prog gl 159 xe:=aZ CZ
theorem Yk {N:Nat}(h1:1<=N)(hN:N<=500000):∀a b x y,ay a x->ay b y->ah x<wB^N->ah y<wB^N->0<y->∃q r,ay q (x/y)/\ay r (x%y)/\∀h,xc [a,b] h=some ⟨.au [q,r],h,[]⟩:=fun a b x y ha hb hx hy h0=>by
 obtain⟨q,r,k1,k2,k3⟩:=Wp (eD.c h1 hN) ha hb hx hy h0;exact⟨q,r,k1,k2,du k3 (eK ha.top hb.top)⟩
theorem jb.top {v:AV}{n d:Int}(h:jb v n d):v.top=0:=by
 obtain⟨s,w,s',w',rfl,h1,h2⟩:=h;have t1:=h1.one.2.1;have t2:=h2.one.2.1;simp[AV.top,br,t1,t2]
theorem Yl:∀v z,ay v z->∃v0,jb v0 z 1/\∀h,xe [v] h=some ⟨v0,h,[]⟩:=fun v z hv=>by
 obtain⟨v0,h1,h2⟩:=WB (eD.c (N:=1) (by decide) (by decide)) hv;exact⟨v0,h1,du h2 (im hv.top)⟩
noncomputable def TQ:List (Nat×Spec):=(205,xc)::TD
theorem Da:cz Tryz.prog gl (bk TQ):=aL Yi CZ
structure EQ (T:List (Nat×Spec)):Prop extends ED T where
 Ym:∀ar h,bk T 205 ar h=xc ar h
theorem EQ.c (E:EQ T){N:Nat}(h1:1<=N)(hN:N<=500000):CQ (aV Tryz.prog FT T) N:={ E.toED.c h1 hN with wC:=by simp only[fV,E.Ym];exact Yk h1 hN }
theorem eQ:EQ TQ:=by repeat' first|exact fun _ _=>rfl|constructor
noncomputable def xf:Spec:=sK TQ 252
theorem Yn:aS Tryz.prog gl 252 xf:=aZ Da
theorem Yo {N:Nat}(h1:1<=N)(hN:N<=500000):∀a b x y k,ay a x->ay b y->ah x<wB^N->ah y<wB^N->y≠0->x=y*k->∃v0,ay v0 k/\∀h,xf [a,b] h=some ⟨v0,h,[]⟩:=fun a b x y k ha hb hx hy h0 hk=>by
 obtain⟨v0,k1,k2⟩:=Wq (eQ.c h1 hN) ha hb hx hy h0 hk;exact⟨v0,k1,du k2 (eK ha.top hb.top)⟩
noncomputable def TF:List (Nat×Spec):=(159,xe)::(167,wY)::(198,wQ)::TQ
theorem Db:cz Tryz.prog gl (bk TF):=aL Yj (aL Yb (aL XJ Da))
structure EF (T:List (Nat×Spec)):Prop extends EQ T where
 Yp:∀ar h,bk T 159 ar h=xe ar h
 Yq:∀ar h,bk T 167 ar h=wY ar h
 Yr:∀ar h,bk T 198 ar h=wQ ar h
theorem EF.c (E:EF T){N:Nat}(h1:1<=N)(hN:N<=500000):CF (aV Tryz.prog FT T) N:={ E.toEQ.c h1 hN with
 Cy:=by simp only[fV,E.Yp];exact Yl
 Cz:=by simp only[fV,E.Yq];exact Ye hN
 jP:=(XQ hN).op E.Yr }
theorem eF:EF TF:=by repeat' first|exact fun _ _=>rfl|constructor
noncomputable def TG:List (Nat×Spec):=(210,wX)::TQ
theorem Km:cz Tryz.prog gl (bk TG):=aL Ya Da
structure EG (T:List (Nat×Spec)):Prop extends EQ T where
 Ys:∀ar h,bk T 210 ar h=wX ar h
theorem EG.c (E:EG T){N:Nat}(h1:1<=N)(hN:N<=500000):CG (aV Tryz.prog FT T) N:={ E.toEQ.c h1 hN with CB:=(Yd hN).op E.Ys }
theorem eG:EG TG:=by repeat' first|exact fun _ _=>rfl|constructor
noncomputable def sJ:Spec:=sK TG 165
theorem Kn:aS Tryz.prog gl 165 sJ:=aZ Km
theorem Ko {N:Nat}(h1:1<=N)(hN:N<=500000):∀a b x y,ay a x->ay b y->ah x<wB^N->ah y<wB^N->∃v0,ay v0 (Int.gcd x y:Nat)/\∀h,sJ [a,b] h=some ⟨v0,h,[]⟩:=fun a b x y ha hb hx hy=>by
 obtain⟨v0,k1,k2⟩:=WL (eG.c h1 hN) ha hb hx hy;exact⟨v0,k1,du k2 (eK ha.top hb.top)⟩
noncomputable def TR:List (Nat×Spec):=(165,sJ)::(252,xf)::TG
theorem Yt:cz Tryz.prog gl (bk TR):=aL Kn (aL Yn Km)
structure ER (T:List (Nat×Spec)):Prop extends EG T where
 Yu:∀ar h,bk T 165 ar h=sJ ar h
 Yv:∀ar h,bk T 252 ar h=xf ar h
theorem ER.c (E:ER T){N:Nat}(h1:1<=N)(hN:N<=500000):CR (aV Tryz.prog FT T) N:={ E.toEG.c h1 hN with
 sC:=by simp only[fV,E.Yu];exact Ko h1 hN
 CC:=by simp only[fV,E.Yv];exact Yo h1 hN }
theorem eR:ER TR:=by repeat' first|exact fun _ _=>rfl|constructor
noncomputable def xg:Spec:=sK TR 203
theorem Yw:aS Tryz.prog gl 203 xg:=aZ Yt
theorem Yx {N:Nat}(h1:1<=N)(hN:N<=500000):∀a b n d,ay a n->ay b d->ah n<wB^N->ah d<wB^N->d≠0->∃v0,bz v0 (Rat.divInt n d)/\∀h,xg [a,b] h=some ⟨v0,h,[]⟩:=fun a b n d ha hb hn hd h0=>by
 obtain⟨v0,k1,k2⟩:=WN (eR.c h1 hN) ha hb hn hd h0;exact⟨v0,k1,du k2 (eK ha.top hb.top)⟩
noncomputable def TS:List (Nat×Spec):=(203,xg)::TF
theorem xh:cz Tryz.prog gl (bk TS):=aL Yw Db
structure ES (T:List (Nat×Spec)):Prop extends EF T where
 Yy:∀ar h,bk T 203 ar h=xg ar h
theorem ES.c (E:ES T){N:Nat}(h1:1<=N)(hN:N<=200000):CS (aV Tryz.prog FT T) N (2*N+1):={ E.toEF.c h1 (show N<=500000 by omega) with
  eH:=E.toEF.c (by omega) (by omega)
  hN:=Nat.le_refl _
  wE:=by simp only[fV,E.Yy];exact Yx (by omega) (by omega) }
theorem eS:ES TS:=by repeat' first|exact fun _ _=>rfl|constructor
noncomputable def sM:Spec:=sK TS 152
noncomputable def Dc:Spec:=sK TS 148
noncomputable def xi:Spec:=sK TS 200
noncomputable def sN:Spec:=sK [] 201
theorem Kp:aS Tryz.prog gl 152 sM:=aZ xh
theorem Yz:aS Tryz.prog gl 148 Dc:=aZ xh
theorem YA:aS Tryz.prog gl 200 xi:=aZ xh
theorem Kq:aS Tryz.prog gl 201 sN:=aZ bA
theorem Kr {N:Nat}(h1:1<=N)(hN:N<=200000):∀a b p q,bz a p->bz b q->Bq N p->Bq N q->∃v0,bz v0 (p*q)/\∀h,sM [a,b] h=some ⟨v0,h,[]⟩:=fun a b p q ha hb lp lq=>by
 obtain⟨v0,k1,k2⟩:=WQ (eS.c h1 hN) ha hb lp lq;exact⟨v0,k1,du k2 (eK ha.top hb.top)⟩
theorem YB {N:Nat}(h1:1<=N)(hN:N<=200000):∀a b p q,bz a p->bz b q->Bq N p->Bq N q->∀h,Dc [a,b] h=some ⟨.iV (bh (p.num*q.den-q.num*p.den)),h,[]⟩:=fun a b p q ha hb lp lq=>
 du (WZ (eS.c h1 hN) ha hb lp lq) (eK ha.top hb.top)
theorem YC {N:Nat}(h1:1<=N)(hN:N<=200000):∀v q,bz v q->Bq N q->q≠0->∃v0,bz v0 q⁻¹/\∀h,xi [v] h=some ⟨v0,h,[]⟩:=fun v q hv lq h0=>by
 obtain⟨v0,k1,k2⟩:=WW (eS.c h1 hN) hv lq h0;exact⟨v0,k1,du k2 (im hv.top)⟩
theorem Ks:∀v q,bz v q->∀h,sN [v] h=some ⟨.bool (decide (q.den=1)),h,[]⟩:=fun v q hv=>du (WR ba hv) (im hv.top)
noncomputable def xj:List (Nat×Spec):=(201,sN)::TS
theorem Kt:cz Tryz.prog gl (bk xj):=aL Kq xh
structure xk (T:List (Nat×Spec)):Prop extends ES T where
 YD:∀ar h,bk T 201 ar h=sN ar h
theorem xk.c (E:xk T){N:Nat}(h1:1<=N)(hN:N<=200000):CE (aV Tryz.prog FT T) N (2*N+1):={ E.toES.c h1 hN with mI:=by simp only[fV,E.YD];exact Ks }
theorem YE:xk xj:=by repeat' first|exact fun _ _=>rfl|constructor
noncomputable def sO:Spec:=sK xj 151
theorem Ku:aS Tryz.prog gl 151 sO:=aZ Kt
theorem Kv {N:Nat}(h1:1<=N)(hN:N<=200000):∀a b p q,bz a p->bz b q->Bq N p->Bq N q->∃v0,bz v0 (p+q)/\∀h,sO [a,b] h=some ⟨v0,h,[]⟩:=fun a b p q ha hb lp lq=>by
 obtain⟨v0,k1,k2⟩:=WT (YE.c h1 hN) ha hb lp lq;exact⟨v0,k1,du k2 (eK ha.top hb.top)⟩
noncomputable def TU:List (Nat×Spec):=(199,wZ)::(200,xi)::(151,sO)::(152,sM)::xj
theorem Kw:cz Tryz.prog gl (bk TU):=aL Yc (aL YA (aL Ku (aL Kp Kt)))
structure EU (T:List (Nat×Spec)):Prop extends xk T where
 YF:∀ar h,bk T 199 ar h=wZ ar h
 YG:∀ar h,bk T 200 ar h=xi ar h
 YH:∀ar h,bk T 151 ar h=sO ar h
 YI:∀ar h,bk T 152 ar h=sM ar h
theorem EU.c (E:EU T){N:Nat}(h1:1<=N)(hN:N<=200000):CU (aV Tryz.prog FT T) N (2*N+1):={ E.toxk.c h1 hN with
 JV:=by simp only[fV,E.YF];exact Yf (by omega)
 JW:=by simp only[fV,E.YG];exact YC h1 hN
 JX:=by simp only[fV,E.YH];exact Kv h1 hN
 JY:=by simp only[fV,E.YI];exact Kr h1 hN }
theorem eU:EU TU:=by repeat' first|exact fun _ _=>rfl|constructor
noncomputable def Dd:Spec:=sK TU 149
noncomputable def De:Spec:=sK TU 150
theorem YJ:aS Tryz.prog gl 149 Dd:=aZ Kw
theorem YK:aS Tryz.prog gl 150 De:=aZ Kw
theorem YL {N:Nat}(h1:1<=N)(hN:N<=200000):∀a b p q,bz a p->bz b q->Bq N p->Bq N q->∃v0,bz v0 (p-q)/\∀h,Dd [a,b] h=some ⟨v0,h,[]⟩:=fun a b p q ha hb lp lq=>by
 obtain⟨v0,k1,k2⟩:=WX (eU.c h1 hN) ha hb lp lq;exact⟨v0,k1,du k2 (eK ha.top hb.top)⟩
theorem YM {N:Nat}(h1:1<=N)(hN:N<=200000):∀a b p q,bz a p->bz b q->Bq N p->Bq N q->Bq N q⁻¹->q≠0->∃v0,bz v0 (p*q⁻¹)/\∀h,De [a,b] h=some ⟨v0,h,[]⟩:=fun a b p q ha hb lp lq li h0=>by
 obtain⟨v0,k1,k2⟩:=WY (eU.c h1 hN) ha hb lp lq li h0;exact⟨v0,k1,du k2 (eK ha.top hb.top)⟩
end Go.Ab.Ch1

/-
  Own work: the code of functions: decimal texts of machine integers.
-/
namespace Go.Ab.Ch1
set_option maxRecDepth 1000000
def Kx:an:=zR [⟨.p 1,.mv (.c (.str [])),none⟩] (zR [zm 3 0,z1 4 226 3,zw 1 4] (.ret))
theorem YN:FT 183=some ⟨5,[0,2],[.var (.p 1)],Kx⟩:=by kernel_rfl
def Ky:an:=zR [⟨.p 1,.mv (.c (.str [])),none⟩] (zR [zm 3 0,⟨.l 4,.call (kF 267) [(.l 3),(kI 10)],none⟩,zw 1 4] (.ret))
theorem YO:FT 226=some ⟨5,[0,2],[.var (.p 1)],Ky⟩:=by kernel_rfl
def Kz:an:=zR [⟨.p 1,.mv (.c (.str [])),none⟩] (.seq (zR [zm 3 0,zc 4 .lss 3 10] (.cond (.l 4) (zR [zm 5 0,zm 6 0,zc 7 .add 6 1,⟨.l 8,.slice .str 1 (.c (.str zD1)) (some (.l 5)) (some (.l 7)) none,none⟩,zw 1 8] (.ret)) (.skip))) (zR [zm 9 0,zc 10 .mul 9 2,zm 11 0,zc 12 .mul 11 2,zc 13 .add 12 2,⟨.l 14,.slice .str 1 (.c (.str zD2)) (some (.l 10)) (some (.l 13)) none,none⟩,zw 1 14] (.ret)))
theorem YP:FT 304=some ⟨15,[0,2],[.var (.p 1)],Kz⟩:=by kernel_rfl
def KA:an:=zR [⟨.p 2,.mv (.c (.str [])),none⟩] (.seq (zR [zm 10 1,zc 11 .eql 10 10] (.cond (.l 11) (.seq (zR [zm 12 0,⟨.l 13,.bin .leq (kI 0) (.l 12),none⟩,zn 14 13,zg (zm 15 0) 14 true,zg (zc 16 .lss 15 100) 14 true,zp 17 14 16] (.cond (.l 17) (zR [zm 18 0,z1 19 304 18,zw 2 19] (.ret)) (.skip))) (zR [⟨.p 3,.alloc 301 [.int .u8 (0),.int .u8 (0),.int .u8 (0),.int .u8 (0),.int .u8 (0),.int .u8 (0),.int .u8 (0),.int .u8 (0),.int .u8 (0),.int .u8 (0),.int .u8 (0),.int .u8 (0),.int .u8 (0),.int .u8 (0),.int .u8 (0),.int .u8 (0),.int .u8 (0),.int .u8 (0),.int .u8 (0),.int .u8 (0),.int .u8 (0),.int .u8 (0),.int .u8 (0),.int .u8 (0)],none⟩] (zR [zm 20 0,⟨.l 21,.dF .u64 (.l 20),none⟩,zw 4 21] (.seq (zR [zm 22 0,zc 23 .lss 22 0] (.cond (.l 23) (.region [zm 24 4,⟨.l 25,.un .neg (.l 24),none⟩,zw 4 25]) (.skip))) (zR [zm 26 4,z1 27 305 26,zw 5 27] (zR [zm 28 5,⟨.l 29,.bin .add (kI 1) (.l 28),none⟩,⟨.l 30,.iF 24 1 (.p 3) (some (kI 1)) (some (.l 29)),none⟩,zm 31 4,z2 32 306 30 31] (.seq (zR [zm 33 0,zc 34 .lss 33 0] (.cond (.l 34) (zR [⟨.l 35,.dH (some 24) 1 (.p 3) (kI 0),none⟩,⟨.no,.store 1 (.l 35) (.c (.int .u8 (45))),none⟩] (zR [zm 36 5,⟨.l 37,.bin .add (kI 1) (.l 36),none⟩,⟨.l 38,.iF 24 1 (.p 3) none (some (.l 37)),none⟩,⟨.l 39,.kJ (.l 38),none⟩,zw 2 39] (.ret))) (.skip))) (zR [zm 40 5,⟨.l 41,.bin .add (kI 1) (.l 40),none⟩,⟨.l 42,.iF 24 1 (.p 3) (some (kI 1)) (some (.l 41)),none⟩,⟨.l 43,.kJ (.l 42),none⟩,zw 2 43] (.ret))))))))) (.skip))) (zR [zm 45 0,⟨.l 46,.dF .u64 (.l 45),none⟩,zm 47 1,zm 48 0,zc 49 .lss 48 0,⟨.l 50,.call (kF 307) [(.c (.ae)),(.l 46),(.l 47),(.l 49),(.c (.bool false))],none⟩,zn 44 50,ze 51 0 44,ze 52 1 44,zn 8 51,zw 6 52] (zR [zm 53 6,zw 2 53] (.ret))))
theorem YQ:FT 267=some ⟨54,[0,1,4,5,6,7,9],[.var (.p 2)],KA⟩:=by kernel_rfl
def KB:an:=zR [zi 1 0] (zR [zm 4 0,z1 5 240 4,z1 6 324 5,zw 2 6] (zR [zm 7 2,zm 8 0,zm 9 2,⟨.l 10,.dH (some 20) 1 (.c (.vp [.uV (1),.uV (10),.uV (100),.uV (1000),.uV (10000),.uV (100000),.uV (1000000),.uV (10000000),.uV (100000000),.uV (1000000000),.uV (10000000000),.uV (100000000000),.uV (1000000000000),.uV (10000000000000),.uV (100000000000000),.uV (1000000000000000),.uV (10000000000000000),.uV (100000000000000000),.uV (1000000000000000000),.uV (10000000000000000000)])) (.l 9),none⟩,zd 11 1 10,zb 12 .geq 8 11,z1 13 325 12,zb 14 .add 7 13,zw 1 14] (.ret)))
theorem YR:FT 305=some ⟨15,[0,2,3],[.var (.p 1)],KB⟩:=by kernel_rfl
def xl:an:=.seq (zR [zm 19 2,zc 20 .geq 19 8] (.cond (.l 20) (.skip) (.exit 0))) (.block 1 (zR [zm 21 1,⟨.l 22,.bin .rem (.l 21) (kU 100000000),none⟩,⟨.l 23,.dF .u32 (.l 22),none⟩,zw 3 23] (zR [zm 24 1,⟨.l 25,.bin .quo (.l 24) (kU 100000000),none⟩,zw 1 25] (zR [zm 26 3,⟨.l 27,.bin .quo (.l 26) (kW 10000),none⟩,zm 28 3,⟨.l 29,.bin .rem (.l 28) (kW 10000),none⟩,zw 4 27,zw 5 29] (zR [zm 30 5,⟨.l 31,.bin .quo (.l 30) (kW 100),none⟩,⟨.l 32,.bin .mul (.l 31) (kW 2),none⟩,zm 33 5,⟨.l 34,.bin .rem (.l 33) (kW 100),none⟩,⟨.l 35,.bin .mul (.l 34) (kW 2),none⟩,zw 6 32,zw 7 35] (zR [zm 36 4,⟨.l 37,.bin .quo (.l 36) (kW 100),none⟩,⟨.l 38,.bin .mul (.l 37) (kW 2),none⟩,zm 39 4,⟨.l 40,.bin .rem (.l 39) (kW 100),none⟩,⟨.l 41,.bin .mul (.l 40) (kW 2),none⟩,zw 8 38,zw 9 41] (.seq (.draw [(zm 42 0,[]),(zm 43 2,[0]),(zc 44 .sub 43 1,[0]),(zm 45 0,[0,1,2]),(zm 46 2,[0,1,2,3]),(zc 47 .sub 46 2,[0,1,2,3]),(zm 48 7,[0,1,2,3,4,5]),(⟨.l 49,.bin .add (.l 48) (kW 1),none⟩,[0,1,2,3,4,5]),(⟨.l 50,.index (.c (.str zD2)) (.l 49),none⟩,[0,1,2,3,4,5]),(zm 51 7,[0,1,2,3,4,5,6,7,8]),(⟨.l 52,.index (.c (.str zD2)) (.l 51),none⟩,[0,1,2,3,4,5,6,7,8]),(za 53 1 42 44,[3,4,5,9,10]),(zS 1 53 50,[3,4,5,9,10]),(za 54 1 45 47,[]),(zS 1 54 52,[])]) (.seq (.draw [(zm 55 0,[]),(zm 56 2,[0]),(zc 57 .sub 56 3,[0]),(zm 58 0,[0,1,2]),(zm 59 2,[0,1,2,3]),(zc 60 .sub 59 4,[0,1,2,3]),(zm 61 6,[0,1,2,3,4,5]),(⟨.l 62,.bin .add (.l 61) (kW 1),none⟩,[0,1,2,3,4,5]),(⟨.l 63,.index (.c (.str zD2)) (.l 62),none⟩,[0,1,2,3,4,5]),(zm 64 6,[0,1,2,3,4,5,6,7,8]),(⟨.l 65,.index (.c (.str zD2)) (.l 64),none⟩,[0,1,2,3,4,5,6,7,8]),(za 66 1 55 57,[3,4,5,9,10]),(zS 1 66 63,[3,4,5,9,10]),(za 67 1 58 60,[]),(zS 1 67 65,[])]) (.seq (.draw [(zm 68 0,[]),(zm 69 2,[0]),(zc 70 .sub 69 5,[0]),(zm 71 0,[0,1,2]),(zm 72 2,[0,1,2,3]),(zc 73 .sub 72 6,[0,1,2,3]),(zm 74 9,[0,1,2,3,4,5]),(⟨.l 75,.bin .add (.l 74) (kW 1),none⟩,[0,1,2,3,4,5]),(⟨.l 76,.index (.c (.str zD2)) (.l 75),none⟩,[0,1,2,3,4,5]),(zm 77 9,[0,1,2,3,4,5,6,7,8]),(⟨.l 78,.index (.c (.str zD2)) (.l 77),none⟩,[0,1,2,3,4,5,6,7,8]),(za 79 1 68 70,[3,4,5,9,10]),(zS 1 79 76,[3,4,5,9,10]),(za 80 1 71 73,[]),(zS 1 80 78,[])]) (.seq (.draw [(zm 81 0,[]),(zm 82 2,[0]),(zc 83 .sub 82 7,[0]),(zm 84 0,[0,1,2]),(zm 85 2,[0,1,2,3]),(zc 86 .sub 85 8,[0,1,2,3]),(zm 87 8,[0,1,2,3,4,5]),(⟨.l 88,.bin .add (.l 87) (kW 1),none⟩,[0,1,2,3,4,5]),(⟨.l 89,.index (.c (.str zD2)) (.l 88),none⟩,[0,1,2,3,4,5]),(zm 90 8,[0,1,2,3,4,5,6,7,8]),(⟨.l 91,.index (.c (.str zD2)) (.l 90),none⟩,[0,1,2,3,4,5,6,7,8]),(za 92 1 81 83,[3,4,5,9,10]),(zS 1 92 89,[3,4,5,9,10]),(za 93 1 84 86,[]),(zS 1 93 91,[])]) (.region [zm 94 2,zc 95 .sub 94 8,zw 2 95])))))))))))
def KC:an:=zR [zm 17 0,zl 18 17,zw 2 18] (.seq (.block 0 (.loop xl)) (zR [zm 96 1,⟨.l 97,.dF .u32 (.l 96),none⟩,zw 10 97] (.seq (zR [zm 98 2,zc 99 .geq 98 4] (.cond (.l 99) (zR [zm 100 10,⟨.l 101,.bin .rem (.l 100) (kW 10000),none⟩,zw 11 101] (zR [zm 102 10,⟨.l 103,.bin .quo (.l 102) (kW 10000),none⟩,zw 10 103] (zR [zm 104 11,⟨.l 105,.bin .quo (.l 104) (kW 100),none⟩,⟨.l 106,.bin .mul (.l 105) (kW 2),none⟩,zm 107 11,⟨.l 108,.bin .rem (.l 107) (kW 100),none⟩,⟨.l 109,.bin .mul (.l 108) (kW 2),none⟩,zw 12 106,zw 13 109] (.seq (.draw [(zm 110 0,[]),(zm 111 2,[0]),(zc 112 .sub 111 1,[0]),(zm 113 0,[0,1,2]),(zm 114 2,[0,1,2,3]),(zc 115 .sub 114 2,[0,1,2,3]),(zm 116 13,[0,1,2,3,4,5]),(⟨.l 117,.bin .add (.l 116) (kW 1),none⟩,[0,1,2,3,4,5]),(⟨.l 118,.index (.c (.str zD2)) (.l 117),none⟩,[0,1,2,3,4,5]),(zm 119 13,[0,1,2,3,4,5,6,7,8]),(⟨.l 120,.index (.c (.str zD2)) (.l 119),none⟩,[0,1,2,3,4,5,6,7,8]),(za 121 1 110 112,[3,4,5,9,10]),(zS 1 121 118,[3,4,5,9,10]),(za 122 1 113 115,[]),(zS 1 122 120,[])]) (.seq (.draw [(zm 123 0,[]),(zm 124 2,[0]),(zc 125 .sub 124 3,[0]),(zm 126 0,[0,1,2]),(zm 127 2,[0,1,2,3]),(zc 128 .sub 127 4,[0,1,2,3]),(zm 129 12,[0,1,2,3,4,5]),(⟨.l 130,.bin .add (.l 129) (kW 1),none⟩,[0,1,2,3,4,5]),(⟨.l 131,.index (.c (.str zD2)) (.l 130),none⟩,[0,1,2,3,4,5]),(zm 132 12,[0,1,2,3,4,5,6,7,8]),(⟨.l 133,.index (.c (.str zD2)) (.l 132),none⟩,[0,1,2,3,4,5,6,7,8]),(za 134 1 123 125,[3,4,5,9,10]),(zS 1 134 131,[3,4,5,9,10]),(za 135 1 126 128,[]),(zS 1 135 133,[])]) (.region [zm 136 2,zc 137 .sub 136 4,zw 2 137])))))) (.skip))) (.seq (zR [zm 138 2,zc 139 .geq 138 2] (.cond (.l 139) (zR [zm 140 10,⟨.l 141,.bin .rem (.l 140) (kW 100),none⟩,⟨.l 142,.bin .mul (.l 141) (kW 2),none⟩,zw 14 142] (zR [zm 143 10,⟨.l 144,.bin .quo (.l 143) (kW 100),none⟩,zw 10 144] (.seq (.draw [(zm 145 0,[]),(zm 146 2,[0]),(zc 147 .sub 146 1,[0]),(zm 148 0,[0,1,2]),(zm 149 2,[0,1,2,3]),(zc 150 .sub 149 2,[0,1,2,3]),(zm 151 14,[0,1,2,3,4,5]),(⟨.l 152,.bin .add (.l 151) (kW 1),none⟩,[0,1,2,3,4,5]),(⟨.l 153,.index (.c (.str zD2)) (.l 152),none⟩,[0,1,2,3,4,5]),(zm 154 14,[0,1,2,3,4,5,6,7,8]),(⟨.l 155,.index (.c (.str zD2)) (.l 154),none⟩,[0,1,2,3,4,5,6,7,8]),(za 156 1 145 147,[3,4,5,9,10]),(zS 1 156 153,[3,4,5,9,10]),(za 157 1 148 150,[]),(zS 1 157 155,[])]) (.region [zm 158 2,zc 159 .sub 158 2,zw 2 159])))) (.skip))) (zR [zm 160 2,zc 161 .gtr 160 0] (.cond (.l 161) (.region [zm 162 0,zm 163 10,⟨.l 164,.bin .add (kW 48) (.l 163),none⟩,⟨.l 165,.dF .u8 (.l 164),none⟩,⟨.l 166,.dH none 1 (.l 162) (kI 0),none⟩,zS 1 166 165]) (.skip)))))))
theorem YS:FT 306=some ⟨167,[0,1,4,5,6,7,8,9,10,11,12,13,14,15,16],[],KC⟩:=by kernel_rfl
def KD:an:=zR [⟨.p 2,.mv (.c (.str [])),none⟩] (zR [zm 5 0,zm 6 1,z2 7 299 5 6,zw 2 7] (.ret))
theorem YT:FT 263=some ⟨8,[0,1,4],[.var (.p 2)],KD⟩:=by kernel_rfl
def KE:an:=zR [⟨.p 2,.mv (.c (.str [])),none⟩] (.seq (zR [zm 9 1,zc 10 .eql 9 10] (.cond (.l 10) (.seq (zR [zm 11 0,⟨.l 12,.bin .lss (.l 11) (kU 100),none⟩] (.cond (.l 12) (zR [zm 13 0,⟨.l 14,.dF .i64 (.l 13),none⟩,z1 15 304 14,zw 2 15] (.ret)) (.skip))) (zR [⟨.p 3,.alloc 301 [.int .u8 (0),.int .u8 (0),.int .u8 (0),.int .u8 (0),.int .u8 (0),.int .u8 (0),.int .u8 (0),.int .u8 (0),.int .u8 (0),.int .u8 (0),.int .u8 (0),.int .u8 (0),.int .u8 (0),.int .u8 (0),.int .u8 (0),.int .u8 (0),.int .u8 (0),.int .u8 (0),.int .u8 (0),.int .u8 (0),.int .u8 (0),.int .u8 (0),.int .u8 (0),.int .u8 (0)],none⟩] (zR [zm 16 0,z1 17 305 16,zw 4 17] (zR [zm 18 4,⟨.l 19,.iF 24 1 (.p 3) none (some (.l 18)),none⟩,zm 20 0,z2 21 306 19 20] (zR [zm 22 4,⟨.l 23,.iF 24 1 (.p 3) none (some (.l 22)),none⟩,⟨.l 24,.kJ (.l 23),none⟩,zw 2 24] (.ret)))))) (.skip))) (zR [zm 26 0,zm 27 1,⟨.l 28,.call (kF 307) [(.c (.ae)),(.l 26),(.l 27),(.c (.bool false)),(.c (.bool false))],none⟩,zn 25 28,ze 29 0 25,ze 30 1 25,zn 7 29,zw 5 30] (zR [zm 31 5,zw 2 31] (.ret))))
theorem YU:FT 299=some ⟨32,[0,1,4,5,6,8],[.var (.p 2)],KE⟩:=by kernel_rfl
def KF:an:=zR [zi 1 0] (zR [zm 3 0,zc 4 .mul 3 78913,⟨.l 5,.bin .shr (.l 4) (kU 18),none⟩,zw 1 5] (.ret))
theorem YV:FT 324=some ⟨6,[0,2],[.var (.p 1)],KF⟩:=by kernel_rfl
def KG:an:=zR [zi 1 0] (.seq (zR [zm 3 0] (.cond (.l 3) (zR [zi 1 1] (.ret)) (.skip))) (zR [zi 1 0] (.ret)))
theorem YW:FT 325=some ⟨4,[0,2],[.var (.p 1)],KG⟩:=by kernel_rfl
end Go.Ab.Ch1

/-
  Own work: decimal texts of natural numbers: digits, texts, values.
-/
namespace Go.Ab.bj
def dK (d:Nat):UInt8:=UInt8.ofNat (48+d)
def cJ:Nat->Nat->ao
 | 0,_=>[]
 | k+1,n=>cJ k (n/10)++[dK (n%10)]
def aP (n:Nat):ao:=if n<10 then [dK n] else aP (n/10)++[dK (n%10)]
termination_by n
decreasing_by omega
def az (n:Nat)(s:ao):Nat:=s.foldl (fun n b=>10*n+(b.toNat-48)) n
def xn (c:Nat):Bool:=48<=c && c<58
abbrev bI (b:UInt8):Bool:=xn b.toNat
theorem kr (b:UInt8):bI b=true↔48<=b.toNat/\b.toNat<58:=by simp[bI,xn]
theorem qG {d:Nat}(h:d<10):(dK d).toNat=48+d:=by simp[dK];omega
theorem Df {d:Nat}(h:d<10):bI (dK d)=true:=by rw[kr,qG h];omega
theorem YX {b:UInt8}(h:bI b=true):dK (b.toNat-48)=b:=by
 rw[kr]at h;apply UInt8.toNat_inj.1;rw[qG (by omega)];omega
theorem ku:∀(k n:Nat),(cJ k n).length=k
 | 0,_=>rfl
 | k+1,n=>by simp[cJ,ku k]
theorem KH:∀(k n:Nat),(cJ k n).all bI=true
 | 0,_=>rfl
 | k+1,n=>by simp only[cJ,List.all_append,KH k,List.all_cons,List.all_nil,Df (Nat.mod_lt n (show 10 > 0 by decide)),Bool.and_self]
theorem Dg:∀{k n j:Nat},j<k->(cJ k n)[j]! = dK (n/10^(k-1-j)%10)
 | k+1,n,j,h=>by
  rw[cJ];by_cases hj:j<k
  . have h1:j<(cJ k (n/10)).length:=by rw[ku];exact hj
    have e:(cJ k (n/10)++[dK (n%10)])[j]! = (cJ k (n/10))[j]! := by
     simp only[List.getElem!_eq_getElem?_getD,List.getElem?_append_left h1]
    rw[e,Dg hj,show k+1-1-j=(k-1-j)+1 by omega,Nat.pow_succ,Nat.mul_comm,←Nat.div_div_eq_div_mul]
  . obtain rfl:j=k:=by omega
    have e:(cJ j (n/10)++[dK (n%10)])[j]! = dK (n%10):=by
     simp only[List.getElem!_eq_getElem?_getD];rw[List.getElem?_append_right (by rw[ku];exact Nat.le_refl _),ku];simp
    rw[e];simp
theorem KI {k n:Nat}{s:ao}(hl:s.length=k)(h:∀j,j<k->s[j]! = dK (n/10^(k-1-j)%10)):s=cJ k n:=by
 apply List.ext_getElem (by rw[hl,ku]);intro i h1 h2;have e1:=h i (by omega);have e2:=Dg (n:=n) (show i<k by omega);rw[←e2]at e1;simpa[List.getElem!_eq_getElem?_getD,List.getElem?_eq_getElem h1,List.getElem?_eq_getElem h2] using e1
theorem gS {n:Nat}(h:n<10):aP n=[dK n]:=by rw[aP,if_pos h]
theorem jQ {n:Nat}(h:¬n<10):aP n=aP (n/10)++[dK (n%10)]:=by rw[aP,if_neg h]
theorem xp:∀{k n:Nat},n<10^(k+1)->(k=0\/10^k<=n)->aP n=cJ (k+1) n
 | 0,n,h,_=>by
  have h:n<10:=by simpa using h
  rw[gS h];simp[cJ,Nat.mod_eq_of_lt h]
 | k+1,n,h,h2=>by
  have h2:10^(k+1)<=n:=h2.resolve_left (by omega);rw[Nat.pow_succ]at h h2;have hp:0<10^k:=Nat.pow_pos (by decide);rw[jQ (by omega),xp (k:=k) (n:=n/10) (by omega) (.inr (by omega))];rfl
theorem Dh:∀{k a b:Nat},0<a->b<10^k->aP (a*10^k+b)=aP a++cJ k b
 | 0,a,b,_,hb=>by
  obtain rfl:b=0:=by simpa using hb
  simp[cJ]
 | k+1,a,b,ha,hb=>by
  rw[Nat.pow_succ]at hb ⊢;have hp:0<10^k:=Nat.pow_pos (by decide);have h1:10<=a*(10^k*10)+b:=by
   have:=Nat.mul_le_mul ha (Nat.mul_le_mul_right 10 hp);omega
  have e1:(a*(10^k*10)+b)/10=a*10^k+b/10:=by
   rw[←Nat.mul_assoc];omega
  have e2:(a*(10^k*10)+b)%10=b%10:=by
   rw[←Nat.mul_assoc];omega
  rw[jQ (by omega),e1,e2,Dh ha (by omega),cJ,List.append_assoc]
theorem oz (n:Nat)(s t:ao):az n (s++t)=az (az n s) t:=by simp[az,List.foldl_append]
theorem sP (n:Nat)(b:UInt8)(s:ao):az n (b::s)=az (10*n+(b.toNat-48)) s:=by rw[az,az,List.foldl_cons]
theorem sQ (n:Nat)(b:UInt8):az n [b]=10*n+(b.toNat-48):=by rw[az,List.foldl_cons,List.foldl_nil]
theorem xq (s:ao):∀(n:Nat),az n s=n*10^s.length+az 0 s:=by
 induction s with
 | nil=>intro n;simp[az]
 | cons b s ih=>
  intro n;rw[sP,sP,ih,ih (10*0+_),List.length_cons,Nat.pow_succ,Nat.add_mul];have:10*n*10^s.length=n*(10^s.length*10):=by rw[Nat.mul_comm 10 n,Nat.mul_assoc,Nat.mul_comm 10]
  rw[this];simp only[Nat.mul_zero,Nat.zero_add];omega
theorem mK (s:ao):s.all bI=true->az 0 s<10^s.length:=by
 induction s with
 | nil=>intro _;simp[az]
 | cons b s ih=>
  intro h;simp only[List.all_cons,Bool.and_eq_true]at h;have hb:=(kr b).1 h.1;have:=ih h.2;rw[sP,xq,List.length_cons,Nat.pow_succ];have h2:(10*0+(b.toNat-48))*10^s.length<=9*10^s.length:=Nat.mul_le_mul_right _ (by omega);omega
theorem KJ:∀(k n m:Nat),az m (cJ k n)=m*10^k+n%10^k
 | 0,n,m=>by simp[az,cJ,Nat.mod_one]
 | k+1,n,m=>by
  rw[cJ,oz,KJ k,sQ,qG (Nat.mod_lt _ (by decide)),Nat.pow_succ];have e:n%(10^k*10)=n%10+10*(n/10%10^k):=by rw[Nat.mul_comm (10^k) 10,Nat.mod_mul]
  rw[e,Nat.mul_add,←Nat.mul_assoc m,Nat.mul_comm 10 (m*10^k)];omega
theorem jc (n:Nat):az 0 (aP n)=n:=by
 induction n using Nat.strongRecOn with
 | _ n ih=>
  by_cases h:n<10
  . rw[gS h,sQ,qG h];omega
  . rw[jQ h,oz,ih _ (by omega),sQ,qG (Nat.mod_lt _ (by decide))];omega
theorem jt (n:Nat):(aP n).all bI=true:=by
 induction n using Nat.strongRecOn with
 | _ n ih=>
  by_cases h:n<10
  . rw[gS h];simp[Df h]
  . rw[jQ h,List.all_append,ih _ (by omega)];simp[Df (Nat.mod_lt n (show 10 > 0 by decide))]
theorem ky (n:Nat):aP n≠[]:=by
 by_cases h:n<10
 . rw[gS h];simp
 . rw[jQ h];simp
def Di (s:ao):Prop:=s≠[]/\s.all bI=true/\(s.head? = some 48->s.length=1)
theorem YY {s:ao}(h:s.all bI=true):cJ s.length (az 0 s)=s:=by
 have key:∀(k:Nat) (s:ao),s.length=k->s.all bI=true->cJ s.length (az 0 s)=s:=by
  intro k;induction k with
  | zero=>intro s hs _;rw[List.eq_nil_of_length_eq_zero hs];rfl
  | succ k ih=>
   intro s hs h;rcases List.eq_nil_or_concat s with rfl|⟨t,c,e⟩
   . simp at hs
   . rw[List.concat_eq_append]at e;subst e;simp only[List.length_append,List.length_cons,List.length_nil]at hs ⊢;simp only[List.all_append,List.all_cons,List.all_nil,Bool.and_true,Bool.and_eq_true]at h;have hc:=(kr c).1 h.2;rw[show t.length+(0+1)=t.length+1 by omega,cJ,oz,sQ];rw[show (10*az 0 t+(c.toNat-48))/10=az 0 t by omega,show (10*az 0 t+(c.toNat-48))%10=c.toNat-48 by omega,ih t (by omega) h.1,YX h.2]
 exact key _ s rfl h
theorem KK {s:ao}(h:Di s):aP (az 0 s)=s:=by
 obtain⟨h0,h1,h2⟩:=h;cases s with
 | nil=>exact absurd rfl h0
 | cons b t=>
  have lt:=mK _ h1;rw[List.length_cons]at lt;refine(xp lt ?_).trans (YY h1);cases t with
  | nil=>exact .inl rfl
  | cons c t=>
   right;have hb:b≠48:=fun e=>by
    have:=h2 (by rw[e];rfl);simp at this
   simp only[List.all_cons,Bool.and_eq_true]at h1;have hb1:=(kr b).1 h1.1;have hb2:49<=b.toNat:=by
    have:b.toNat≠48:=fun e=>hb (UInt8.toNat_inj.1 e)
    omega
   rw[sP,xq];have:=Nat.mul_le_mul_right (10^(c::t).length) (show 1<=10*0+(b.toNat-48) by omega);omega
theorem YZ (n:Nat):Di (aP n):=by
 refine⟨ky n,jt n,?_⟩;induction n using Nat.strongRecOn with
 | _ n ih=>
  by_cases h:n<10
  . rw[gS h];intro _;rfl
  . rw[jQ h];intro e;have e2:(aP (n/10)).head? = some 48:=by
     cases hd:aP (n/10) with
     | nil=>exact absurd hd (ky _)
     | cons b t=>rw[hd]at e;exact e
    have l1:=ih _ (show n/10<n by omega) e2;exfalso;have e3:aP (n/10)=[48]:=by
     cases hd:aP (n/10) with
     | nil=>exact absurd hd (ky _)
     | cons b t=>
      rw[hd]at e2 l1;simp at l1 e2;rw[e2,l1]
    have:=jc (n/10);rw[e3]at this;simp[az]at this;omega
theorem oC {n k:Nat}(h:n<10^k)(hk:0<k):(aP n).length<=k:=by
 induction k generalizing n with
 | zero=>omega
 | succ k ih=>
  by_cases h1:n<10
  . rw[gS h1];simp
  . rw[jQ h1,List.length_append];rw[Nat.pow_succ]at h;have h0:0<k:=by
     rcases Nat.eq_zero_or_pos k with rfl|hp
     . simp at h;omega
     . exact hp
    have:=ih (n:=n/10) (by omega) h0;simp;omega
end Go.Ab.bj

/-
  Own work: decimal texts of machine integers: bytes, the number of digits, texts of two digits.
-/
namespace Go.Ab.Ch1
open Go.Ab.bj
variable {M:ax} {cap:Option Nat}
abbrev iq (k:Nat):AV:=.fn (.func k) [] []
def bx (s:ao):List AV:=s.map fun c=>.int .u8 c.toNat
theorem Za (a b:ao):bx (a++b)=bx a++bx b:=by simp[bx]
theorem kQ (a:ao):(bx a).length=a.length:=by simp[bx]
theorem GA (a:ao):(bx a).all cV=true:=by simp[bx,cV]
theorem KL:∀a:ao,br (bx a)=0
 | []=>rfl
 | c::a=>by
  have:=KL a;simp only[bx]at this;simp only[bx,List.map_cons,br,this];rfl
theorem zV:∀a:ao,bytesOf (bx a)=some a
 | []=>rfl
 | c::a=>by
  have h:=zV a;simp only[bx]at h;simp only[bx,List.map_cons,bytesOf,h];rw[show ((c.toNat:Int)).toNat=c.toNat from rfl,UInt8.ofNat_toNat]
theorem Zb {L:ao}{m:Nat}{c:UInt8}(h:m<L.length):overwrite (bx L) m [.int .u8 c.toNat]=bx (L.set m c):=by
 apply List.ext_getElem?;intro i;simp only[overwrite,bx,List.length_cons,List.length_nil];rw[←List.map_take,←List.map_drop];by_cases h1:i<m
 . rw[List.append_assoc,List.getElem?_append_left (by simp;omega)];simp[h1,show ¬m=i by omega]
 . by_cases h2:i=m
   . subst h2;rw[List.append_assoc,List.getElem?_append_right (by simp;omega)];simp[List.length_take,Nat.min_eq_left (Nat.le_of_lt h),h]
   . rw[List.append_assoc,List.getElem?_append_right (by simp;omega)];have e:i-min m L.length=(i-m-1)+1:=by omega
     simp only[List.length_map,List.length_take,e,List.cons_append,List.nil_append,List.getElem?_cons_succ,List.map_drop,List.getElem?_drop,List.getElem?_map,List.getElem?_set,show ¬m=i by omega,if_false];rw[show m+(0+1)+(i-m-1)=i by omega]
section
variable {t:Nat} {x y:aO} {l:List aU} {pe:List AV} {lo:List (Nat×AV)} {hp:ab} {df wr:List Nat} {k:IntKind} {a b:Int} {Q:aq->Prop} {e:TypeId} {L:ao} {m:Nat}
theorem ahf {c:UInt8}(hx:(St.mk pe lo [some (.cells (bx L) e)] df).aa x=some (.ptr 0 m))(hy:(St.mk pe lo [some (.cells (bx L) e)] df).aa y=some (.int .u8 c.toNat))(hi:m<L.length)
 (h:WO M l ⟨⟨pe,lo,[some (.cells (bx (L.set m c)) e)],df⟩,0::wr⟩ Q):WO M (⟨.no,.store 1 x y,none⟩::l) ⟨⟨pe,lo,[some (.cells (bx L) e)],df⟩,wr⟩ Q:=by
 refine adi (c:=bx L) (new:=[.int .u8 c.toNat]) hx (by rw[hy];rfl) rfl ⟨rfl,by rw[kQ];omega,rfl⟩ (Zb hi) ?_;exact h
theorem WO.KM {n i j:Nat}{lo' hi':Option aO}(hx:(St.mk pe lo [some (.cells (bx L) e)] df).aa x=some (.ptr 0 0))(hl:L.length=n)(hlo:((St.mk pe lo [some (.cells (bx L) e)] df).dc lo').bind (fun v=>bP v 0 j)=some i)(hhi:((St.mk pe lo [some (.cells (bx L) e)] df).dc hi').bind (fun v=>bP v n n)=some j)(hij:i<n)
 (h:WO M l ⟨⟨pe,(t,.sl 0 i (j-i) 1 (some (n-i)))::lo,[some (.cells (bx L) e)],df⟩,wr⟩ Q):WO M (⟨.l t,.iF n 1 x lo' hi',none⟩::l) ⟨⟨pe,lo,[some (.cells (bx L) e)],df⟩,wr⟩ Q:=by
 refine acT (v:=.sl 0 i (j-i) 1 (some (n-i))) (h':=[some (.cells (bx L) e)]) (w':=[]) ?_ rfl rfl h;have h0:ab.at [some (bC.cells (bx L) e)] 0=some (.cells (bx L) e):=rfl;cases ho:(St.mk pe lo [some (.cells (bx L) e)] df).dc lo' with
 | none=>rw[ho]at hlo;simp at hlo
 | some v=>
  cases ho':(St.mk pe lo [some (.cells (bx L) e)] df).dc hi' with
  | none=>rw[ho']at hhi;simp at hhi
  | some v'=>
   rw[ho]at hlo;rw[ho']at hhi;simp only[Option.bind_some]at hlo hhi;simp only[bK,hx,ho,ho',h0,kQ,hl,hhi,hlo,Nat.zero_add,Nat.mul_one];rw[if_pos (Nat.le_refl _),if_pos hij]
theorem ahy {i j:Nat}{c:Option Nat}(hx:(St.mk pe lo [some (.cells (bx L) e)] df).aa x=some (.sl 0 i j 1 c))(hij:i+j<=L.length)
 (h:WO M l ⟨⟨pe,(t,.str ((L.drop i).take j))::lo,[some (.cells (bx L) e)],df⟩,wr⟩ Q):WO M (⟨.l t,.kJ x,none⟩::l) ⟨⟨pe,lo,[some (.cells (bx L) e)],df⟩,wr⟩ Q:=by
 refine acT (v:=.str ((L.drop i).take j)) (h':=[some (.cells (bx L) e)]) (w':=[]) ?_ rfl rfl h;have h0:ab.at [some (bC.cells (bx L) e)] 0=some (.cells (bx L) e):=rfl;have hc:eO [some (.cells (bx L) e)] (.sl 0 i j 1 c)=some (bx ((L.drop i).take j),j):=by
  simp only[eO,h0,cut,Nat.mul_one];rw[if_pos (by rw[List.length_take,List.length_drop,kQ];omega)];simp[bx,List.map_drop,List.map_take]
 simp only[bK,hx,hc,kQ,zV];rw[if_pos (by simp;omega)]
theorem wrap32 {a:Int}(h:0<=a/\a<4294967296):IntKind.u32.wrap a=a:=by
 simp only[IntKind.wrap,IntKind.bits,IntKind.signed];simp;omega
theorem ahr (hx:(St.mk pe lo hp df).aa x=some (.int .u32 a))(hy:(St.mk pe lo hp df).aa y=some (.int .u32 b))(hr:0<=a+b/\a+b<4294967296)
 (h:WO M l ⟨⟨pe,(t,.int .u32 (a+b))::lo,hp,df⟩,wr⟩ Q):WO M (⟨.l t,.bin .add x y,none⟩::l) ⟨⟨pe,lo,hp,df⟩,wr⟩ Q:=
 abg (v:=.int .u32 (a+b)) (by simp[aY,hx,hy,cS,wrap32 hr]) rfl h
theorem ahH (hx:(St.mk pe lo hp df).aa x=some (.int .u32 a))(hy:(St.mk pe lo hp df).aa y=some (.int .u32 b))(hr:0<=a*b/\a*b<4294967296)
 (h:WO M l ⟨⟨pe,(t,.int .u32 (a*b))::lo,hp,df⟩,wr⟩ Q):WO M (⟨.l t,.bin .mul x y,none⟩::l) ⟨⟨pe,lo,hp,df⟩,wr⟩ Q:=
 abg (v:=.int .u32 (a*b)) (by simp[aY,hx,hy,cS,wrap32 hr]) rfl h
theorem ahF (hx:(St.mk pe lo hp df).aa x=some (.int .u32 a))(hy:(St.mk pe lo hp df).aa y=some (.int .u32 b))(ha:0<=a/\a<4294967296)(hb:0<b)
 (h:WO M l ⟨⟨pe,(t,.int .u32 (a/b))::lo,hp,df⟩,wr⟩ Q):WO M (⟨.l t,.bin .quo x y,none⟩::l) ⟨⟨pe,lo,hp,df⟩,wr⟩ Q:=by
 refine abg (v:=.int .u32 (a/b)) ?_ rfl h;have h1:0<=a/b:=Int.ediv_nonneg ha.1 (Int.le_of_lt hb);have h2:a/b<=a:=Int.ediv_le_self _ ha.1;have h3:¬b=0:=by omega
 simp only[aY,hx,hy,cS,if_true,if_neg h3];rw[Int.tdiv_eq_ediv_of_nonneg ha.1,wrap32 ⟨h1,by omega⟩]
theorem ahG (hx:(St.mk pe lo hp df).aa x=some (.int .u32 a))(hy:(St.mk pe lo hp df).aa y=some (.int .u32 b))(ha:0<=a)(hb:0<b)
 (h:WO M l ⟨⟨pe,(t,.int .u32 (a%b))::lo,hp,df⟩,wr⟩ Q):WO M (⟨.l t,.bin .rem x y,none⟩::l) ⟨⟨pe,lo,hp,df⟩,wr⟩ Q:=by
 refine abg (v:=.int .u32 (a%b)) ?_ rfl h;have h3:¬b=0:=by omega
 simp only[aY,hx,hy,cS,if_true,if_neg h3];rw[Int.tmod_eq_emod_of_nonneg ha]
theorem ahQ (hx:(St.mk pe lo hp df).aa x=some (.int k a))(hr:0<=a/\a<4294967296)(h:WO M l ⟨⟨pe,(t,.int .u32 a)::lo,hp,df⟩,wr⟩ Q):WO M (⟨.l t,.dF .u32 x,none⟩::l) ⟨⟨pe,lo,hp,df⟩,wr⟩ Q:=
 abg (v:=.int .u32 a) (by simp only[aY,hx,Option.bind_some,lO,wrap32 hr]) rfl h
theorem aij (hx:(St.mk pe lo hp df).aa x=some (.iV a))
 (h:WO M l ⟨⟨pe,(t,.iV (a/262144))::lo,hp,df⟩,wr⟩ Q):WO M (⟨.l t,.bin .shr x (.c (.int k 18)),none⟩::l) ⟨⟨pe,lo,hp,df⟩,wr⟩ Q:=by
 refine WO.op (WP.pure (v:=.iV (a/262144)) rfl ?_ h);have:a.fdiv (2^min (Int.toNat 18) IntKind.i64.bits)=a/262144:=by
  show a.fdiv 262144=a/262144;rw[Int.fdiv_eq_ediv_of_nonneg _ (by omega)]
 have e:(St.mk pe lo hp df).aa (.c (.int k 18))=some (.int k 18):=rfl;simp only[aY,hx,e,cS,this];rfl
end
theorem Zc (hft:M.FT=FT)(x:Int)(hx:0<=x/\x<=64):aT M 324 [.iV x] [] ⟨.iV (x*78913/262144),[],[]⟩:=by
 refine bB (by rw[hft];exact YV) (by simp) ?_;unfold KF;simp only[enter];exact gg7
theorem Zd (hft:M.FT=FT)(x:Bool):aT M 325 [.bool x] [] ⟨.iV (if x then 1 else 0),[],[]⟩:=by
 refine bB (by rw[hft];exact YW) (by simp) ?_;unfold KG;simp only[enter];cases x;all_goals
 . exact gg11
theorem Ze (bl:Fin 65):1<=bl.val->bl.val*78913/262144<20/\(bl.val*78913/262144=0\/10^(bl.val*78913/262144-1)<=2^(bl.val-1))/\2^bl.val<=10^(bl.val*78913/262144+1):=by
 revert bl;decide +kernel
def fF (d:Int):Nat:=if (10:Int)^(cA d*78913/262144)<=d then cA d*78913/262144+1 else cA d*78913/262144
theorem xr {d:Nat}(h:0<d/\d<18446744073709551616):1<=fF d/\fF d<=20/\d<10^fF d/\(fF d=1\/10^(fF d-1)<=d):=by
 obtain⟨h1,h2,h3⟩:=qk (x:=(d:Int)) (by omega);have h4:=oe (x:=(d:Int)) (n:=64) (by show (d:Int)<18446744073709551616;omega) (by omega);obtain⟨g0,g1,g2⟩:=Ze ⟨cA d,by omega⟩ h1;simp only at g0 g1 g2;have h2:2^(cA (d:Int)-1)<=d:=by exact_mod_cast h2
 have h3:d<2^cA (d:Int):=by exact_mod_cast h3
 unfold fF;obtain⟨n,hn⟩:∃n,n=cA (d:Int)*78913/262144:=⟨_,rfl⟩;rw[←hn]at g0 g1 g2 ⊢;by_cases hc:(10:Int)^n<=d
 . rw[if_pos hc];have hc:10^n<=d:=by exact_mod_cast hc
   exact⟨by omega,by omega,by omega,.inr (by rw[Nat.add_sub_cancel];exact hc)⟩
 . rw[if_neg hc];have hc:d<10^n:=by
    rcases Nat.lt_or_ge d (10^n) with h|h
    . exact h
    . exact absurd (by exact_mod_cast h) hc
   have hn0:n≠0:=by
    rintro rfl;simp at hc;omega
   refine⟨by omega,by omega,hc,?_⟩;rcases g1 with g1|g1
   . omega
   . exact .inr (by omega)
def oE:List AV:=[.uV (1),.uV (10),.uV (100),.uV (1000),.uV (10000),.uV (100000),.uV (1000000),.uV (10000000),.uV (100000000),.uV (1000000000),.uV (10000000000),.uV (100000000000),.uV (1000000000000),.uV (10000000000000),.uV (100000000000000),.uV (1000000000000000),.uV (10000000000000000),.uV (100000000000000000),.uV (1000000000000000000),.uV (10000000000000000000)]
theorem Zf:∀k:Nat,k<20->partOf (oE.drop (k*1)) 0 1 false=some (.uV (10^k))
 | 0,_=>rfl|1,_=>rfl|2,_=>rfl|3,_=>rfl|4,_=>rfl|5,_=>rfl|6,_=>rfl|7,_=>rfl|8,_=>rfl|9,_=>rfl
 | 10,_=>rfl|11,_=>rfl|12,_=>rfl|13,_=>rfl|14,_=>rfl|15,_=>rfl|16,_=>rfl|17,_=>rfl|18,_=>rfl|19,_=>rfl
 | k+20,h=>by omega
theorem aiB {t:Nat}{i:aO}{l:List aU}{pe:List AV}{lo:List (Nat×AV)}{hp:ab}{df wr:List Nat}{k:IntKind}{n:Int}{Q:aq->Prop}(hy:(St.mk pe lo hp df).aa i=some (.int k n))(hb:0<=n/\n<20)
 (h:WO M l ⟨⟨pe,(t,.vp (oE.drop (n.toNat*1)))::lo,hp,df⟩,wr⟩ Q):WO M (⟨.l t,.dH (some 20) 1 (.c (.vp oE)) i,none⟩::l) ⟨⟨pe,lo,hp,df⟩,wr⟩ Q:=
 WO.op (WP.pure (v:=.vp (oE.drop (n.toNat*1))) rfl (by
  have e:(St.mk pe lo hp df).aa (.c (.vp oE))=some (.vp oE):=rfl;have h2:0<=n/\n<((20:Nat):Int):=hb;simp only[aY,e,hy,mX,if_pos h2]) h)
theorem aiC {t:Nat}{x:aO}{l:List aU}{pe:List AV}{lo:List (Nat×AV)}{hp:ab}{df wr:List Nat}{n:Nat}{Q:aq->Prop}(hx:(St.mk pe lo hp df).aa x=some (.vp (oE.drop (n*1))))(hb:n<20)
 (h:WO M l ⟨⟨pe,(t,.uV (10^n))::lo,hp,df⟩,wr⟩ Q):WO M (⟨.l t,.load 1 false x,none⟩::l) ⟨⟨pe,lo,hp,df⟩,wr⟩ Q:=
 acT (v:=.uV (10^n)) (h':=hp) (w':=[]) (by simp only[bK,hx,Option.bind_some,fo,Zf n hb]) rfl rfl h
structure KN (M:ax):Prop where
 ft:M.FT=FT
 sn:∀(x:Int) h,(0<=x/\x<18446744073709551616)->M.ext 240 [.uV x] h=some ⟨.iV (cA x),h,[]⟩
 KO:∀(x:Int) h,(0<=x/\x<=64)->M.ext 324 [.iV x] h=some ⟨.iV (x*78913/262144),h,[]⟩
 Dj:∀(x:Bool) h,M.ext 325 [.bool x] h=some ⟨.iV (if x then 1 else 0),h,[]⟩
theorem Zi (C:KN M)(d:Int)(hd:0<d/\d<18446744073709551616):aT M 305 [.uV d] [] ⟨.iV (fF d),[],[]⟩:=by
 have h4:=oe (x:=d) (n:=64) (by exact hd.2) (by omega);have q240:=fun h=>C.sn d h ⟨by omega,hd.2⟩
 have q324:=fun h=>C.KO (cA d) h ⟨by omega,by omega⟩
 have q325a:=fun h=>C.Dj true h
 have q325b:=fun h=>C.Dj false h
 simp only[if_true]at q325a;simp only[Bool.false_eq_true,if_false]at q325b;obtain⟨n,hn⟩:∃n,n=cA d*78913/262144:=⟨_,rfl⟩;have e1:((cA d:Int)*78913/262144)=(n:Int):=by rw[hn];omega
 rw[e1]at q324;have hn20:n<20:=by omega
 have e2:fF d=if (10:Int)^n<=d then n+1 else n:=by unfold fF;rw[←hn]
 rw[e2];refine bB (by rw[C.ft];exact YR) (by simp) ?_;unfold KB;simp only[enter];repeat' first|(apply aiB;rfl;omega)|(apply aiC (n:=n);rfl;exact hn20)|apply abn|apply aM|apply abp|apply abC|apply abS|(apply afM;rfl;rfl)|(apply afC;rfl;rfl;omega)|(apply aco;rfl;rfl;first|exact q240 _|exact q324 _|exact q325a _|exact q325b _)|(apply abg;rfl;rfl)|(apply acn;rfl;rfl)|(intro _;omega)|intro _
 all_goals try omega
 . rename_i h1;rw[if_pos h1];exact⟨.inr rfl,rfl,_,rfl,rfl,rfl⟩
 . rename_i h1;rw[if_neg (by omega)];exact⟨.inr rfl,rfl,_,rfl,by simp[aW],rfl⟩
def iO:ao:=[48,48,48,49,48,50,48,51,48,52,48,53,48,54,48,55,48,56,48,57,49,48,49,49,49,50,49,51,49,52,49,53,49,54,49,55,49,56,49,57,50,48,50,49,50,50,50,51,50,52,50,53,50,54,50,55,50,56,50,57,51,48,51,49,51,50,51,51,51,52,51,53,51,54,51,55,51,56,51,57,52,48,52,49,52,50,52,51,52,52,52,53,52,54,52,55,52,56,52,57,53,48,53,49,53,50,53,51,53,52,53,53,53,54,53,55,53,56,53,57,54,48,54,49,54,50,54,51,54,52,54,53,54,54,54,55,54,56,54,57,55,48,55,49,55,50,55,51,55,52,55,53,55,54,55,55,55,56,55,57,56,48,56,49,56,50,56,51,56,52,56,53,56,54,56,55,56,56,56,57,57,48,57,49,57,50,57,51,57,52,57,53,57,54,57,55,57,56,57,57]
theorem xu:iO.length=200:=by decide +kernel
theorem KP:∀x:Fin 100,iO[x.val*2]! = dK (x.val/10)/\iO[x.val*2+1]! = dK (x.val%10):=by decide +kernel
theorem Zj {x:Int}(h:0<=x/\x<100):iO[(x*2).toNat]! = dK (x.toNat/10):=by
 obtain⟨k,rfl⟩:=Int.eq_ofNat_of_zero_le h.1;have:=(KP ⟨k,by omega⟩).1;rw[show ((k:Int)*2).toNat=k*2 by omega];exact this
theorem Zk {x:Int}(h:0<=x/\x<100):iO[(x*2+1).toNat]! = dK (x.toNat%10):=by
 obtain⟨k,rfl⟩:=Int.eq_ofNat_of_zero_le h.1;have:=(KP ⟨k,by omega⟩).2;rw[show ((k:Int)*2+1).toNat=k*2+1 by omega];exact this
end Go.Ab.Ch1

/-
  Own work: decimal texts of machine integers: numbers below a hundred; the digits of a number written into a block.
-/
namespace Go.Ab.Ch1
open Go.Ab.bj
variable {M:ax} {cap:Option Nat}
def ug:ao:=[48,49,50,51,52,53,54,55,56,57,97,98,99,100,101,102,103,104,105,106,107,108,109,110,111,112,113,114,115,116,117,118,119,120,121,122]
theorem Zl:∀x:Fin 10,(ug.drop x.val).take (x.val+1-x.val)=aP x.val:=by
 intro x;rw[gS x.isLt];revert x;decide +kernel
theorem Zm:∀x:Fin 100,10<=x.val->(iO.drop (x.val*2)).take (x.val*2+2-x.val*2)=aP x.val:=by
 intro x h;rw[jQ (by omega),gS (by omega)];revert x;decide +kernel
theorem ahL {t:Nat}{x y z:aO}{l:List aU}{pe:List AV}{lo:List (Nat×AV)}{hp:ab}{df wr:List Nat}{k k':IntKind}{s:ao}{a b:Int}{Q:aq->Prop}(hx:(St.mk pe lo hp df).aa x=some (.str s))(hy:(St.mk pe lo hp df).aa y=some (.int k a))(hz:(St.mk pe lo hp df).aa z=some (.int k' b))(hb:0<=a/\a<=b/\b<=s.length){r:ao}(hr:(s.drop a.toNat).take (b.toNat-a.toNat)=r)
 (h:WO M l ⟨⟨pe,(t,.str r)::lo,hp,df⟩,wr⟩ Q):WO M (⟨.l t,.slice .str 1 x (some y) (some z) none,none⟩::l) ⟨⟨pe,lo,hp,df⟩,wr⟩ Q:=by
 subst hr;refine abg (v:=.str ((s.drop a.toNat).take (b.toNat-a.toNat))) ?_ rfl h;simp only[aY,hx,St.dc,hy,hz,Option.map_some,jg,bP];have h1:0<=b/\b<=((s.length:Nat):Int):=⟨by omega,hb.2.2⟩;have h2:0<=a/\a<=((b.toNat:Nat):Int):=⟨hb.1,by omega⟩;simp only[if_pos h1,if_pos h2];rfl
set_option maxRecDepth 100000 in
theorem Zn (hft:M.FT=FT)(n:Nat)(hn:n<100):aT M 304 [.iV n] [] ⟨.str (aP n),[],[]⟩:=by
 have e1:(n:Int).toNat=n:=rfl;refine bB (by rw[hft];exact YP) (by simp) ?_;unfold Kz;simp only[enter];by_cases h:n<10
 . have hc:(ug.drop (n:Int).toNat).take (((n:Int)+1).toNat-(n:Int).toNat)=aP n:=by rw[show ((n:Int)+1).toNat=n+1 by omega];exact Zl ⟨n,h⟩
   have l1:ug.length=36:=rfl;exact gg5
 . have hc:(iO.drop ((n:Int)*2).toNat).take (((n:Int)*2+2).toNat-((n:Int)*2).toNat)=aP n:=by rw[show ((n:Int)*2+2).toNat=n*2+2 by omega,show ((n:Int)*2).toNat=n*2 by omega];exact Zm ⟨n,hn⟩ (by simp only;omega)
   have l1:=xu;exact gg5
def fC (L:ao)(off n i u:Nat):Prop:=L.length=24/\∀j,i<=j->j<n->L[off+j]! = dK (u/10^(n-1-j)%10)
theorem Dk {L:ao}{i k:Nat}{v:UInt8}(h:i<L.length):(L.set i v)[k]! = if k=i then v else L[k]! := by
 simp only[List.getElem!_eq_getElem?_getD,List.getElem?_set];by_cases hk:k=i
 . subst hk;simp[h]
 . simp[hk,show ¬i=k from fun e=>hk e.symm]
theorem fC.two {L:ao}{off n i u:Nat}{a b:Nat}{c d:UInt8}(h:fC L off n (i+2) u)(hn:off+n<=24)(hi:i+2<=n)(ha:a=off+i+1)(hb:b=off+i)(hc:c=dK (u/10^(n-(i+2))%10))(hd:d=dK (u/10^(n-(i+2))/10%10)):fC ((L.set a c).set b d) off n i u:=by
 subst ha;subst hb;refine⟨by simp[h.1],fun j h1 h2=>?_⟩;rw[Dk (by rw[List.length_set,h.1];omega),Dk (by rw[h.1];omega)];by_cases e1:j=i
 . subst e1;rw[if_pos rfl,hd,Nat.div_div_eq_div_mul,←Nat.pow_succ,show (n-(j+2)).succ=n-1-j by omega]
 . by_cases e2:j=i+1
   . subst e2;rw[if_neg (by omega),if_pos (by omega),hc,show n-(i+2)=n-1-(i+1) by omega]
   . rw[if_neg (by omega),if_neg (by omega)];exact h.2 j (by omega) h2
theorem fC.fin {L:ao}{off n u:Nat}(h:fC L off n 0 u)(hn:off+n<=24):(L.drop off).take n=cJ n u:=by
 refine KI (by rw[List.length_take,List.length_drop,h.1];omega) fun j hj=>?_
 rw[←h.2 j (Nat.zero_le _) hj];simp only[List.getElem!_eq_getElem?_getD,List.getElem?_take,if_pos hj,List.getElem?_drop]
end Go.Ab.Ch1

/-
  Own work: decimal texts of machine integers: eight digits at once.
-/
namespace Go.Ab.Ch1
open Go.Ab.bj
variable {M:ax} {cap:Option Nat} {e:TypeId}
theorem oF {u n j:Nat}(hj:j+2<=n):u/10^(n-j)=u/10^(n-(j+2))/100:=by
 rw[Nat.div_div_eq_div_mul,show (100:Nat)=10^2 by rfl,←Nat.pow_add,show n-(j+2)+2=n-j by omega]
theorem fC.mL {L:ao}{off n i u U:Nat}{a b:Nat}{x y:Int}(h:fC L off n (i+2) u)(hn:off+n<=24)(hi:i+2<=n)(hU:U=u/10^(n-(i+2)))(ha:a=off+i+1)(hb:b=off+i)(hx:x=(U%100:Nat)*2+1)(hy:y=(U%100:Nat)*2):fC ((L.set a iO[x.toNat]!).set b iO[y.toNat]!) off n i u:=by
 subst hx;subst hy;refine h.two hn hi ha hb ?_ ?_
 . rw[Zk (by omega),←hU];congr 1;omega
 . rw[Zj (by omega),←hU];congr 1;omega
set_option maxRecDepth 100000 in
theorem Zo (off n u0:Nat)(hn:off+n<=24)(hu:u0<18446744073709551616){Q:Ex->aq->Prop}(a10 a11 a12 a13 a14:AV)
 (hQ:∀L i a3 a4 a5 a6 a7 a8 a9 lo wr,i<=n->i<8->fC L off n i u0->gH 0 wr->Q (.exit 0) ⟨⟨[.sl 0 off n 1 cap,.uV ((u0/10^(n-i):Nat):Int),.iV (i:Nat),a3,a4,a5,a6,a7,a8,a9,a10,a11,a12,a13,a14],lo,[some (.cells (bx L) e)],[]⟩,wr⟩)
 (L:ao) (i:Nat) (a3 a4 a5 a6 a7 a8 a9:AV) (lo:List (Nat×AV)) (wr:List Nat) (hi:i<=n) (hL:fC L off n i u0) (hw:gH 0 wr) :
 W M (.loop xl) ⟨⟨[.sl 0 off n 1 cap,.uV ((u0/10^(n-i):Nat):Int),.iV (i:Nat),a3,a4,a5,a6,a7,a8,a9,a10,a11,a12,a13,a14],lo,[some (.cells (bx L) e)],[]⟩,wr⟩ Q:=by
 refine W.fT (fun m s=>∃L U iv a3 a4 a5 a6 a7 a8 a9 lo wr,s=⟨⟨[.sl 0 off n 1 cap,.uV U,.iV iv,a3,a4,a5,a6,a7,a8,a9,a10,a11,a12,a13,a14],lo,[some (.cells (bx L) e)],[]⟩,wr⟩/\U=((u0/10^(n-m):Nat):Int)/\iv=(m:Int)/\m<=n/\fC L off n m u0/\gH 0 wr)
  (fun m s ⟨L,U,iv,a3,a4,a5,a6,a7,a8,a9,lo,wr,hs,hU,hiv,hm,hL,hw⟩=>?_) (m:=i) ⟨L,_,_,a3,a4,a5,a6,a7,a8,a9,lo,wr,rfl,rfl,rfl,hi,hL,hw⟩
 subst hs;subst hU;subst hiv;have hl:=hL.1;have sl:=xu;have hUle:u0/10^(n-m)<=u0:=Nat.div_le_self _ _;by_cases h8:m<8
 . unfold xl;exact gg8
 . obtain⟨j,rfl⟩:∃j,m=j+8:=⟨m-8,by omega⟩;have s1:=oF (u:=u0) (n:=n) (j:=j+6) (by omega);have s2:=oF (u:=u0) (n:=n) (j:=j+4) (by omega);have s3:=oF (u:=u0) (n:=n) (j:=j+2) (by omega);have s4:=oF (u:=u0) (n:=n) (j:=j) (by omega);obtain⟨U,hU⟩:∃U,U=u0/10^(n-(j+8)):=⟨_,rfl⟩;rw[show j+6+2=j+8 by omega,←hU]at s1;rw[show j+4+2=j+6 by omega,s1]at s2;rw[show j+2+2=j+4 by omega,s2]at s3;rw[s3]at s4;rw[←hU]at hUle ⊢;unfold xl;refine gg17 ?_;refine dE ⟨j,by omega,_,_,_,_,_,_,_,_,_,_,_,_,rfl,?_,?_,by omega,?_,?_⟩
   . rw[s4];omega
   . omega
   . have g1:=fC.mL (L:=L) (i:=j+6) (U:=U) (a:=off+(((j+8:Nat):Int)-1).toNat*1) (b:=off+(((j+8:Nat):Int)-2).toNat*1) hL hn (by omega) hU (by omega) (by omega) rfl rfl;refine fC.mL (U:=U/100/100/100) (fC.mL (i:=j+2) (U:=U/100/100) (fC.mL (i:=j+4) (U:=U/100) (fC.mL (i:=j+6) (U:=U) hL hn (by omega) hU ?_ ?_ ?_ ?_) hn (by omega) s1.symm ?_ ?_ ?_ ?_) hn (by omega) s2.symm ?_ ?_ ?_ ?_) hn (by omega) s3.symm ?_ ?_ ?_ ?_;all_goals omega
   . exact .cons (.cons (.cons (.cons (.cons (.cons (.cons (.cons hw)))))))
end Go.Ab.Ch1

/-
  Own work: decimal texts of machine integers: the digits of a number, as many as a slice has room for.
-/
namespace Go.Ab.Ch1
open Go.Ab.bj
variable {M:ax} {cap:Option Nat} {e:TypeId}
set_option maxRecDepth 100000
def sR:an:=
 .seq (
       .region [zm 160 2,
         zc 161 .gtr 160 0])
       (
        .cond (.l 161)
        (.region [zm 162 0,
          zm 163 10,
          ⟨(.l 164),.bin .add (kW 48) (.l 163),none⟩,
          ⟨(.l 165),.dF .u8 (.l 164),none⟩,
          ⟨(.l 166),.dH none 1 (.l 162) (kI 0),none⟩,
          zS 1 166 165])
        (.skip))
def xw:an:=
 .seq (
       .region [zm 138 2,
         zc 139 .geq 138 2])
       (
        .cond (.l 139)
        (
         zR [zm 140 10,
           ⟨(.l 141),.bin .rem (.l 140) (kW 100),none⟩,
           ⟨(.l 142),.bin .mul (.l 141) (kW 2),none⟩,
           zw 14 142]
         (
          zR [zm 143 10,
            ⟨(.l 144),.bin .quo (.l 143) (kW 100),none⟩,
            zw 10 144]
          (
           .seq (.draw [(zm 145 0,[]),
             (zm 146 2,[0]),
             (zc 147 .sub 146 1,[0]),
             (zm 148 0,[0,1,2]),
             (zm 149 2,[0,1,2,3]),
             (zc 150 .sub 149 2,[0,1,2,3]),
             (zm 151 14,[0,1,2,3,4,5]),
             (⟨(.l 152),.bin .add (.l 151) (kW 1),none⟩,[0,1,2,3,4,5]),
             (⟨(.l 153),.index (.c (.str zD2)) (.l 152),none⟩,[0,1,2,3,4,5]),
             (zm 154 14,[0,1,2,3,4,5,6,7,8]),
             (⟨(.l 155),.index (.c (.str zD2)) (.l 154),none⟩,[0,1,2,3,4,5,6,7,8]),
             (za 156 1 145 147,[3,4,5,9,10]),
             (zS 1 156 153,[3,4,5,9,10]),
             (za 157 1 148 150,[]),
             (zS 1 157 155,[])])
           (.region [zm 158 2,
             zc 159 .sub 158 2,
             zw 2 159]))))
        (.skip))
def Dl:an:=
 zR [zm 98 2,
        zc 99 .geq 98 4]
      (
       .cond (.l 99)
       (
        zR [zm 100 10,
          ⟨(.l 101),.bin .rem (.l 100) (kW 10000),none⟩,
          zw 11 101]
        (
         zR [zm 102 10,
           ⟨(.l 103),.bin .quo (.l 102) (kW 10000),none⟩,
           zw 10 103]
         (
          zR [zm 104 11,
            ⟨(.l 105),.bin .quo (.l 104) (kW 100),none⟩,
            ⟨(.l 106),.bin .mul (.l 105) (kW 2),none⟩,
            zm 107 11,
            ⟨(.l 108),.bin .rem (.l 107) (kW 100),none⟩,
            ⟨(.l 109),.bin .mul (.l 108) (kW 2),none⟩,
            zw 12 106,
            zw 13 109]
          (
           .seq (.draw [(zm 110 0,[]),
             (zm 111 2,[0]),
             (zc 112 .sub 111 1,[0]),
             (zm 113 0,[0,1,2]),
             (zm 114 2,[0,1,2,3]),
             (zc 115 .sub 114 2,[0,1,2,3]),
             (zm 116 13,[0,1,2,3,4,5]),
             (⟨(.l 117),.bin .add (.l 116) (kW 1),none⟩,[0,1,2,3,4,5]),
             (⟨(.l 118),.index (.c (.str zD2)) (.l 117),none⟩,[0,1,2,3,4,5]),
             (zm 119 13,[0,1,2,3,4,5,6,7,8]),
             (⟨(.l 120),.index (.c (.str zD2)) (.l 119),none⟩,[0,1,2,3,4,5,6,7,8]),
             (za 121 1 110 112,[3,4,5,9,10]),
             (zS 1 121 118,[3,4,5,9,10]),
             (za 122 1 113 115,[]),
             (zS 1 122 120,[])])
           (
            .seq (.draw [(zm 123 0,[]),
              (zm 124 2,[0]),
              (zc 125 .sub 124 3,[0]),
              (zm 126 0,[0,1,2]),
              (zm 127 2,[0,1,2,3]),
              (zc 128 .sub 127 4,[0,1,2,3]),
              (zm 129 12,[0,1,2,3,4,5]),
              (⟨(.l 130),.bin .add (.l 129) (kW 1),none⟩,[0,1,2,3,4,5]),
              (⟨(.l 131),.index (.c (.str zD2)) (.l 130),none⟩,[0,1,2,3,4,5]),
              (zm 132 12,[0,1,2,3,4,5,6,7,8]),
              (⟨(.l 133),.index (.c (.str zD2)) (.l 132),none⟩,[0,1,2,3,4,5,6,7,8]),
              (za 134 1 123 125,[3,4,5,9,10]),
              (zS 1 134 131,[3,4,5,9,10]),
              (za 135 1 126 128,[]),
              (zS 1 135 133,[])])
            (.region [zm 136 2,
              zc 137 .sub 136 4,
              zw 2 137]))))))
       (.skip))
theorem Zp {g N:Nat}{aR:List Nat}{body:an}{ars:List AV}{L:ao}{P:ao->Prop}(hft:M.FT g=some ⟨N,aR,[],body⟩)(hN:ars.length<=N)
 (hW:W M body ⟨⟨aR.map (fun t=>(ars[t]?).getD cG),[],[some (.cells (bx L) e)],[]⟩,[]⟩ fun x s=>(x = .normal\/x = .ret)/\s.s.bZ=[]/\∃L',s.s.hp=[some (.cells (bx L') e)]/\gH 0 s.wr/\P L') :
 ∃L' wr,gH 0 wr/\P L'/\aT M g ars [some (.cells (bx L) e)] ⟨.au [],[some (.cells (bx L') e)],wr⟩:=by
 obtain⟨⟨n,x,s,h1,h2,h3,L',h4,h5,h6⟩⟩:=hW;have hb:0<([some (.cells (bx L) e)]:ab).length:=Nat.zero_lt_one;have hh:s.s.hp=ab.put [some (.cells (bx L) e)] 0 (some (.cells (bx L') e)):=h4;obtain⟨wr,hw,hr⟩:=Tg (c0:=bx L) hb hh h5 (KL L');exact⟨L',wr,hw,h6,vv hft hN ⟨⟨n,x,s,h1,h2,h3,[],rfl,hr⟩⟩⟩
def Dm (e:TypeId)(off n u0:Nat)(x:Ex)(s:aq):Prop:=(x = .normal\/x = .ret)/\s.s.bZ=[]/\∃L',s.s.hp=[some (.cells (bx L') e)]/\gH 0 s.wr/\fC L' off n 0 u0
theorem xy {u n i:Nat}(h:u<10^n)(hi:i<=n):u/10^(n-i)<10^i:=by
 refine Nat.div_lt_of_lt_mul ?_;rw[←Nat.pow_add,show n-i+i=n by omega];exact h
def Dn (L:ao)(off n u0:Nat)(k:Nat)(iv U:Int)(wr:List Nat):Prop:=∃i:Nat,i<k/\i<=n/\iv=(i:Int)/\U=((u0/10^(n-i):Nat):Int)/\fC L off n i u0/\gH 0 wr
theorem KQ {off n u0:Nat}(hn:off+n<=24)(hlt:u0<10^n){L:ao}{iv U:Int}{a1 a3 a4 a5 a6 a7 a8 a9 a11 a12 a13 a14:AV}{lo:List (Nat×AV)}{wr:List Nat}(h:Dn L off n u0 2 iv U wr) :
 W M sR ⟨⟨[.sl 0 off n 1 cap,a1,.iV iv,a3,a4,a5,a6,a7,a8,a9,.int .u32 U,a11,a12,a13,a14],lo,[some (.cells (bx L) e)],[]⟩,wr⟩ (Dm e off n u0):=by
 obtain⟨i,hi,hin,rfl,hU,hL,hw⟩:=h;have hl:=hL.1;have hr:=xy hlt hin;obtain⟨V,hV⟩:∃V,V=u0/10^(n-i):=⟨_,rfl⟩;rw[←hV]at hU hr;subst hU;by_cases h1:i=1
 . subst h1;have hV10:V<10:=by simpa using hr
   have hd:(dK V).toNat=48+V:=qG hV10;unfold sR;repeat' first|(apply ahf (c:=dK V);rfl;exact(congrArg (fun z:Int=>some (AV.int .u8 z)) (show (48+(V:Int))%256=((dK V).toNat:Int) by rw[hd];omega));omega)|(apply ahr;rfl;rfl;omega)|(apply ahZ;rfl)|apply abn|apply aM|apply abp|apply abC|(apply acL;rfl)|(apply aep;rfl;rfl)|(apply agK;rfl;rfl;omega)|(apply abg;rfl;rfl)|(intro _;omega)|intro _
   all_goals try omega
   refine⟨.inl rfl,rfl,_,rfl,.cons hw,by simp[hl],fun j h1 h2=>?_⟩;rw[Dk (by omega)];by_cases hj:j=0
   . subst hj;rw[if_pos (by omega),show n-1-0=n-1 by omega,←hV,Nat.mod_eq_of_lt hV10]
   . rw[if_neg (by omega)];exact hL.2 j (by omega) h2
 . obtain rfl:i=0:=by omega
   unfold sR;exact gg2
theorem KR {off n u0:Nat}(hn:off+n<=24)(hlt:u0<10^n){L:ao}{iv U:Int}{a1 a3 a4 a5 a6 a7 a8 a9 a11 a12 a13 a14:AV}{lo:List (Nat×AV)}{wr:List Nat}(h:Dn L off n u0 4 iv U wr) :
 W M (.seq xw sR) ⟨⟨[.sl 0 off n 1 cap,a1,.iV iv,a3,a4,a5,a6,a7,a8,a9,.int .u32 U,a11,a12,a13,a14],lo,[some (.cells (bx L) e)],[]⟩,wr⟩ (Dm e off n u0):=by
 obtain⟨i,hi,hin,rfl,hU,hL,hw⟩:=h;have hl:=hL.1;have sl:=xu;have hr:=xy hlt hin;by_cases h1:2<=i
 . obtain⟨j,rfl⟩:∃j,i=j+2:=⟨i-2,by omega⟩;have s1:=oF (u:=u0) (n:=n) (j:=j) hin;obtain⟨V,hV⟩:∃V,V=u0/10^(n-(j+2)):=⟨_,rfl⟩;rw[←hV]at hU hr s1;have hV4:V<10000:=Nat.lt_of_lt_of_le hr (Nat.le_trans (Nat.pow_le_pow_right (by decide) (show j+2<=4 by omega)) (by decide));subst hU;unfold xw;repeat' first|(apply KQ hn hlt)|(apply ahf;rfl;rfl;(first|omega|(simp only[List.length_set];omega)))|(apply ahF;rfl;rfl;omega;omega)|(apply ahG;rfl;rfl;omega;omega)|(apply ahH;rfl;rfl;omega)|(apply ahr;rfl;rfl;omega)|(apply agh (s:=iO);rfl;rfl;omega)|apply abn|apply aM|apply abp|apply abC|apply aet|apply afd|(apply afE;rfl)|(apply afI;rfl;(first|(simp only[nca];rfl)|rfl);(first|(simp only[nca];rfl)|rfl))|(apply acL;rfl)|(apply afM;rfl;rfl)|(apply afD;rfl;rfl;omega)|(apply agK;rfl;rfl;omega)|(apply abg;rfl;rfl)|(apply acn;rfl;rfl)|(intro _;omega)|intro _
   all_goals try omega
   refine⟨j,by omega,by omega,by omega,by rw[s1];omega,?_,.cons (.cons hw)⟩;refine fC.mL (U:=V) hL hn (by omega) hV ?_ ?_ ?_ ?_;all_goals omega
 . unfold xw;repeat' first|(apply KQ hn hlt)|apply abn|apply aM|apply abp|apply abC|apply acQ|(apply acS;rfl)|(apply afM;rfl;rfl)|(apply abg;rfl;rfl)|(intro _;omega)|intro _
   all_goals try omega
   exact⟨i,by omega,hin,rfl,hU,hL,hw⟩
theorem PU {off n u0:Nat}(hn:off+n<=24)(hlt:u0<10^n){L:ao}{iv U:Int}{a1 a3 a4 a5 a6 a7 a8 a9 a11 a12 a13 a14:AV}{lo:List (Nat×AV)}{wr:List Nat}(h:Dn L off n u0 8 iv U wr) :
 W M (.seq Dl (.seq xw sR)) ⟨⟨[.sl 0 off n 1 cap,a1,.iV iv,a3,a4,a5,a6,a7,a8,a9,.int .u32 U,a11,a12,a13,a14],lo,[some (.cells (bx L) e)],[]⟩,wr⟩ (Dm e off n u0):=by
 obtain⟨i,hi,hin,rfl,hU,hL,hw⟩:=h;have hl:=hL.1;have sl:=xu;have hr:=xy hlt hin;by_cases h1:4<=i
 . obtain⟨j,rfl⟩:∃j,i=j+4:=⟨i-4,by omega⟩;have s1:=oF (u:=u0) (n:=n) (j:=j+2) (by omega);have s2:=oF (u:=u0) (n:=n) (j:=j) (by omega);obtain⟨V,hV⟩:∃V,V=u0/10^(n-(j+4)):=⟨_,rfl⟩;rw[show j+2+2=j+4 by omega,←hV]at s1;rw[s1]at s2;rw[←hV]at hU hr;have hV8:V<100000000:=Nat.lt_of_lt_of_le hr (Nat.le_trans (Nat.pow_le_pow_right (by decide) (show j+4<=8 by omega)) (by decide));subst hU;unfold Dl;repeat' first|(apply KR hn hlt)|(apply ahf;rfl;rfl;(first|omega|(simp only[List.length_set];omega)))|(apply ahF;rfl;rfl;omega;omega)|(apply ahG;rfl;rfl;omega;omega)|(apply ahH;rfl;rfl;omega)|(apply ahr;rfl;rfl;omega)|(apply agh (s:=iO);rfl;rfl;omega)|apply abn|apply aM|apply abp|apply abC|apply aet|apply afd|(apply afE;rfl)|(apply afI;rfl;(first|(simp only[nca];rfl)|rfl);(first|(simp only[nca];rfl)|rfl))|(apply acL;rfl)|(apply afM;rfl;rfl)|(apply afD;rfl;rfl;omega)|(apply agK;rfl;rfl;omega)|(apply abg;rfl;rfl)|(apply acn;rfl;rfl)|(intro _;omega)|intro _
   all_goals try omega
   refine⟨j,by omega,by omega,by omega,by rw[s2];omega,?_,.cons (.cons (.cons (.cons hw)))⟩;refine fC.mL (U:=V/100) (fC.mL (i:=j+2) (U:=V) hL hn (by omega) hV ?_ ?_ ?_ ?_) hn (by omega) s1.symm ?_ ?_ ?_ ?_;all_goals omega
 . unfold Dl;repeat' first|(apply KR hn hlt)|apply abn|apply aM|apply abp|apply abC|apply acQ|(apply acS;rfl)|(apply afM;rfl;rfl)|(apply abg;rfl;rfl)|(intro _;omega)|intro _
   all_goals try omega
   exact⟨i,by omega,hin,rfl,hU,hL,hw⟩
theorem Zq (hft:M.FT=FT)(off n u0:Nat)(hn:off+n<=24)(hlt:u0<10^n)(hu:u0<18446744073709551616)(L:ao)(hL:L.length=24) :
 ∃L' wr,gH 0 wr/\fC L' off n 0 u0/\aT M 306 [.sl 0 off n 1 cap,.uV (u0:Nat)] [some (.cells (bx L) e)] ⟨.au [],[some (.cells (bx L') e)],wr⟩:=by
 refine Zp (P:=fun L'=>fC L' off n 0 u0) (by rw[hft];exact YS) (by simp) ?_;have lp:=fun Q a10 a11 a12 a13 a14 hQ a3 a4 a5 a6 a7 a8 a9 lo wr=>Zo (M:=M) (cap:=cap) (e:=e) off n u0 hn hu (Q:=Q) a10 a11 a12 a13 a14 hQ L n a3 a4 a5 a6 a7 a8 a9 lo wr (Nat.le_refl _) ⟨hL,fun j h1 h2=>by omega⟩
 simp only[Nat.sub_self,Nat.pow_zero,Nat.div_one]at lp;unfold KC;simp only[enter];refine gg13 ?_;refine lp _ _ _ _ _ _ (fun L i a3 a4 a5 a6 a7 a8 a9 lo wr hi h8 hL hw=>?_) _ _ _ _ _ _ _ _ _ gH.nil;have hr:=xy hlt hi;have hV:u0/10^(n-i)<4294967296:=Nat.lt_of_lt_of_le hr (Nat.le_trans (Nat.pow_le_pow_right (by decide) (show i<=8 by omega)) (by decide));obtain⟨V,hVe⟩:∃V,V=u0/10^(n-i):=⟨_,rfl⟩;rw[←hVe]at hr hV ⊢;exact gg7
end Go.Ab.Ch1

/-
  Own work: decimal texts of machine integers: Itoa, FormatUint.
-/
namespace Go.Ab.Ch1
open Go.Ab.bj
variable {M:ax} {cap:Option Nat}
section
variable {t:Nat} {x y:aO} {l:List aU} {pe:List AV} {lo:List (Nat×AV)} {df wr:List Nat} {k:IntKind} {a:Int} {Q:aq->Prop} {e:TypeId} {L:ao} {n:Nat}
theorem ahx (hx:(St.mk pe lo [some (.cells (bx L) e)] df).aa x=some (.ptr 0 0))(hl:L.length=24)(hy:(St.mk pe lo [some (.cells (bx L) e)] df).aa y=some (.int k a))(ha:a=(n:Int))(hn:n<=24)
 (h:WO M l ⟨⟨pe,(t,.sl 0 0 n 1 (some 24))::lo,[some (.cells (bx L) e)],df⟩,wr⟩ Q):WO M (⟨.l t,.iF 24 1 x none (some y),none⟩::l) ⟨⟨pe,lo,[some (.cells (bx L) e)],df⟩,wr⟩ Q:=by
 subst ha;refine WO.KM (i:=0) (j:=n) hx hl rfl ?_ (by decide) h;simp only[St.dc,hy,Option.map_some,Option.bind_some,bP];rw[if_pos (by omega)];rfl
theorem ahz (hx:(St.mk pe lo [some (.cells (bx L) e)] df).aa x=some (.ptr 0 0))(hl:L.length=24)(hy:(St.mk pe lo [some (.cells (bx L) e)] df).aa y=some (.int k a))(ha:a=1+(n:Int))(hn:n<24)
 (h:WO M l ⟨⟨pe,(t,.sl 0 1 n 1 (some 23))::lo,[some (.cells (bx L) e)],df⟩,wr⟩ Q):WO M (⟨.l t,.iF 24 1 x (some (.c (.iV 1))) (some y),none⟩::l) ⟨⟨pe,lo,[some (.cells (bx L) e)],df⟩,wr⟩ Q:=by
 subst ha;refine WO.KM (i:=1) (j:=n+1) hx hl ?_ ?_ (by decide) h
 . have e1:(St.mk pe lo [some (.cells (bx L) e)] df).aa (.c (.iV 1))=some (.iV 1):=rfl;simp only[St.dc,e1,Option.map_some,Option.bind_some,bP];rw[if_pos (by omega)];rfl
 . simp only[St.dc,hy,Option.map_some,Option.bind_some,bP];rw[if_pos (by omega)];congr 1;omega
theorem aih {hp:ab}{v:Int}(hx:(St.mk pe lo hp df).aa x=some (.uV a))(hv:(0-a)%18446744073709551616=v)
 (h:WO M l ⟨⟨pe,(t,.uV v)::lo,hp,df⟩,wr⟩ Q):WO M (⟨.l t,.un .neg x,none⟩::l) ⟨⟨pe,lo,hp,df⟩,wr⟩ Q:=
 abg (v:=.uV v) (by simp only[aY,hx,Option.bind_some,rj,nW,hv]) rfl h
end
def nh:ao:=List.replicate 24 0
def bQ (z:Int):ao:=if z<0 then 45::aP (-z).toNat else aP z.toNat
structure sS (M:ax):Prop where
 ft:M.FT=FT
 KS:∀ars h,M.ext 306 ars h=none
 Dp:∀(n:Nat) h,n<100->M.ext 304 [.iV n] h=some ⟨.str (aP n),h,[]⟩
 xz:∀(d:Int) h,(0<d/\d<18446744073709551616)->M.ext 305 [.uV d] h=some ⟨.iV (fF d),h,[]⟩
theorem sS.Dr (C:sS M){e:TypeId}{off:Nat}(u:Nat)(hu:0<u/\u<18446744073709551616)(ho:off<=4) :
 ∃L' wr,gH 0 wr/\L'.length=24/\(L'.drop off).take (fF u)=aP u/\CT M (iq 306) [.sl 0 off (fF u) 1 cap,.uV u] [some (.cells (bx nh) e)] ⟨.au [],[some (.cells (bx L') e)],wr⟩:=by
 obtain⟨k1,k2,k3,k4⟩:=xr hu;obtain⟨L',wr,hw,hD,hr⟩:=Zq (cap:=cap) (e:=e) C.ft off (fF u) u (by omega) k3 hu.2 nh rfl;obtain⟨m,hm⟩:∃m,fF u=m+1:=⟨fF u-1,by omega⟩;refine⟨L',wr,hw,hD.1,?_,CT.run (fi:=[]) (ca:=[]) (C.KS _ _) hr⟩;rw[hD.fin (by omega)];rw[hm]at k3 k4 ⊢;exact(xp k3 (by
  rcases k4 with k4|k4
  . exact .inl (by omega)
  . exact .inr (by simpa using k4))).symm
set_option maxRecDepth 100000 in
theorem Zr (C:sS M)(u:Nat)(hu:u<18446744073709551616):aT M 299 [.uV u,.iV 10] [] ⟨.str (aP u),[],[]⟩:=by
 refine bB (by rw[C.ft];exact YU) (by simp) ?_;unfold KE;simp only[enter];by_cases h:u<100
 . have q304:=fun hh=>C.Dp u hh h
   exact gg10
 . have q305:=fun hh=>C.xz u hh (by omega)
   obtain⟨k1,k2,k3,k4⟩:=xr (d:=u) (by omega);obtain⟨L',wr,hw,hl,hd,q306⟩:=C.Dr (cap:=some 24) (e:=301) (off:=0) u (by omega) (by decide);have hz:nh.length=24:=rfl;refine gg6 ?_;rw[hd];exact⟨.inr rfl,rfl,_,rfl,rfl,rfl⟩
set_option maxRecDepth 100000 in
theorem Zs (C:sS M)(z:Int)(hz : -9223372036854775808<=z/\z<9223372036854775808):aT M 267 [.iV z,.iV 10] [] ⟨.str (bQ z),[],[]⟩:=by
 have hz24:nh.length=24:=rfl;refine bB (by rw[C.ft];exact YQ) (by simp) ?_;unfold KA;simp only[enter];by_cases h:z<0
 . obtain⟨u,hu⟩:∃u:Nat,z = -(u:Int):=⟨(-z).toNat,by omega⟩;have q305:=fun hh=>C.xz u hh (by omega)
   obtain⟨k1,k2,k3,k4⟩:=xr (d:=u) (by omega);obtain⟨L',wr,hw,hl,hd,q306⟩:=C.Dr (cap:=some 23) (e:=301) (off:=1) u (by omega) (by decide);have e0:bQ z=45::aP u:=by unfold bQ;rw[if_pos h];congr 2;omega
   have e1:((L'.set (0+0*1) 45).drop 0).take (1+fF u)=45::aP u:=by
    cases L' with
    | nil=>simp at hl
    | cons c L'=>
     rw[←hd,Nat.add_comm 1];rfl
   rw[e0];refine gg6 ?_;rw[e1];exact⟨.inr rfl,rfl,_,rfl,rfl,rfl⟩
 . obtain⟨u,hu⟩:∃u:Nat,z=(u:Int):=⟨z.toNat,by omega⟩;have e0:bQ z=aP u:=by unfold bQ;rw[if_neg h];congr 1;omega
   rw[e0];subst hu;by_cases h1:u<100
   . have q304:=fun hh=>C.Dp u hh h1
     exact gg10
   . have q305:=fun hh=>C.xz u hh (by omega)
     obtain⟨k1,k2,k3,k4⟩:=xr (d:=u) (by omega);obtain⟨L',wr,hw,hl,hd,q306⟩:=C.Dr (cap:=some 23) (e:=301) (off:=1) u (by omega) (by decide);repeat' first|(apply ahz (L:=nh) (n:=fF u);rfl;exact hz24;rfl;rfl;omega)|(apply ahz (L:=L') (n:=fF u);rfl;exact hl;rfl;rfl;omega)|(apply ahy (L:=L');rfl;omega)|apply abn|apply aM|apply abp|apply abC|apply abS|apply acQ|apply cd|(apply acL;rfl)|(apply acS;rfl)|(apply aef;rfl)|(apply adf;rfl;rfl)|(apply agO;rfl;rfl)|(apply aer;rfl;rfl)|(apply ahc;rfl;omega)|(apply acZ;rfl;rfl)|(apply afC;rfl;rfl;omega)|(apply aco;rfl;rfl;first|exact q305 _)|(apply afL;rfl;rfl;first|exact q306)|(apply acY;rfl;rfl;rfl)|(apply abg;rfl;rfl)|(apply acn;rfl;rfl)|(intro _;omega)|intro _
     all_goals try omega
     rw[hd];exact⟨.inr rfl,rfl,_,rfl,rfl,rfl⟩
theorem Zt (hft:M.FT=FT)(z:Int)(q:∀h,M.ext 267 [.iV z,.iV 10] h=some ⟨.str (bQ z),h,[]⟩):aT M 226 [.iV z] [] ⟨.str (bQ z),[],[]⟩:=by
 refine bB (by rw[hft];exact YO) (by simp) ?_;unfold Ky;simp only[enter];exact gg5
theorem Zu (hft:M.FT=FT)(z:Int)(q:∀h,M.ext 226 [.iV z] h=some ⟨.str (bQ z),h,[]⟩):aT M 183 [.iV z] [] ⟨.str (bQ z),[],[]⟩:=by
 refine bB (by rw[hft];exact YN) (by simp) ?_;unfold Kx;simp only[enter];exact gg5
theorem Zv (hft:M.FT=FT)(u:Nat)(q:∀h,M.ext 299 [.uV u,.iV 10] h=some ⟨.str (aP u),h,[]⟩):aT M 263 [.uV u,.iV 10] [] ⟨.str (aP u),[],[]⟩:=by
 refine bB (by rw[hft];exact YT) (by simp) ?_;unfold KD;simp only[enter];exact gg5
end Go.Ab.Ch1

/-
  Own work: the code of functions: repeated texts, builders.
-/
namespace Go.Ab.Ch1
set_option maxRecDepth 1000000
def Zw:an:=.seq (zR [⟨.l 111,.call (kF 302) [(.p 7)],none⟩,zm 112 5,zb 113 .lss 111 112] (.cond (.l 113) (.skip) (.exit 3))) (.block 4 (zR [zm 114 5,⟨.l 115,.call (kF 302) [(.p 7)],none⟩,zb 116 .sub 114 115,⟨.l 117,.call (kF 302) [(.p 7)],none⟩,zm 118 6,⟨.l 119,.mm false [(.l 116),(.l 117),(.l 118)],none⟩,zw 8 119] (.region [⟨.l 120,.call (kF 266) [(.p 7)],none⟩,zm 121 8,⟨.l 122,.slice .str 1 (.l 120) none (some (.l 121)) none,none⟩,⟨.l 123,.call (kF 265) [(.p 7),(.l 122)],none⟩])))
def KT:an:=zR [⟨.p 2,.mv (.c (.str [])),none⟩] (.seq (zR [⟨.p 9,.mv (.p 1),none⟩] (.block 0 (zR [zq 13 .eql 9 0,zn 12 13] (.cond (.l 12) (zR [⟨.p 2,.mv (.c (.str [])),none⟩] (.ret)) (zR [zq 15 .eql 9 1,zn 14 15] (.cond (.l 14) (zR [zm 16 0,zw 2 16] (.ret)) (.skip))))))) (.seq (zR [zm 17 1,zc 18 .lss 17 0] (.cond (.l 18) (.bad) (.skip))) (zR [zm 21 0,zL 22 21,⟨.l 23,.dF .u64 (.l 22),none⟩,zm 24 1,⟨.l 25,.dF .u64 (.l 24),none⟩,z2 26 300 23 25,zn 20 26,ze 27 0 20,ze 28 1 20,zw 3 27,zw 4 28] (.seq (zR [zm 29 3,⟨.l 30,.bin .gtr (.l 29) (kU 0),none⟩,zn 31 30,zg (zm 32 4) 31 false,⟨.l 33,.bin .gtr (.l 32) (kU 9223372036854775807),some ((.l 31),false)⟩,zP 34 31 33] (.cond (.l 34) (.bad) (.skip))) (zR [zm 36 4,⟨.l 37,.dF .i64 (.l 36),none⟩,zw 5 37] (.seq (zR [zm 38 0,zL 39 38,zc 40 .eql 39 0] (.cond (.l 40) (zR [⟨.p 2,.mv (.c (.str [])),none⟩] (.ret)) (.skip))) (.seq (zR [zm 41 0,⟨.p 10,.index (.l 41) (kI 0),none⟩] (.block 1 (.seq (zR [⟨.l 44,.bin .eql (.p 10) (.c (.int .u8 (32))),none⟩,zw 11 44] (.cond (.p 11) (.skip) (zR [⟨.l 45,.bin .eql (.p 10) (.c (.int .u8 (45))),none⟩,zw 11 45] (.cond (.p 11) (.skip) (zR [⟨.l 46,.bin .eql (.p 10) (.c (.int .u8 (48))),none⟩,zw 11 46] (.cond (.p 11) (.skip) (zR [⟨.l 47,.bin .eql (.p 10) (.c (.int .u8 (61))),none⟩,zw 11 47] (.cond (.p 11) (.skip) (.region [⟨.l 48,.bin .eql (.p 10) (.c (.int .u8 (9))),none⟩,zw 11 48]))))))))) (.cond (.p 11) (.block 2 (zR [zm 50 5,zc 51 .leq 50 128,zn 52 51,zg (zm 53 0) 52 true,⟨.l 54,.call (kF 212) [(.c (.str zD3)),(.l 53)],some ((.l 52),true)⟩,zp 55 52 54,zn 49 55] (.cond (.l 49) (zR [zm 56 5,⟨.l 57,.slice .str 1 (.c (.str zD3)) none (some (.l 56)) none,none⟩,zw 2 57] (.ret)) (zR [zm 59 5,zc 60 .leq 59 128,zn 61 60,zg (zm 62 0) 61 true,⟨.l 63,.call (kF 212) [(.c (.str zD6)),(.l 62)],some ((.l 61),true)⟩,zp 64 61 63,zn 58 64] (.cond (.l 58) (zR [zm 65 5,⟨.l 66,.slice .str 1 (.c (.str zD6)) none (some (.l 65)) none,none⟩,zw 2 66] (.ret)) (zR [zm 68 5,zc 69 .leq 68 64,zn 70 69,zg (zm 71 0) 70 true,⟨.l 72,.call (kF 212) [(.c (.str zD5)),(.l 71)],some ((.l 70),true)⟩,zp 73 70 72,zn 67 73] (.cond (.l 67) (zR [zm 74 5,⟨.l 75,.slice .str 1 (.c (.str zD5)) none (some (.l 74)) none,none⟩,zw 2 75] (.ret)) (zR [zm 77 5,zc 78 .leq 77 128,zn 79 78,zg (zm 80 0) 79 true,⟨.l 81,.call (kF 212) [(.c (.str zD4)),(.l 80)],some ((.l 79),true)⟩,zp 82 79 81,zn 76 82] (.cond (.l 76) (zR [zm 83 5,⟨.l 84,.slice .str 1 (.c (.str zD4)) none (some (.l 83)) none,none⟩,zw 2 84] (.ret)) (zR [zm 86 5,zc 87 .leq 86 64,zn 88 87,zg (zm 89 0) 88 true,⟨.l 90,.call (kF 212) [(.c (.str zD7)),(.l 89)],some ((.l 88),true)⟩,zp 91 88 90,zn 85 91] (.cond (.l 85) (zR [zm 92 5,⟨.l 93,.slice .str 1 (.c (.str zD7)) none (some (.l 92)) none,none⟩,zw 2 93] (.ret)) (.skip)))))))))))) (.skip))))) (zR [zm 94 5,zw 6 94] (.seq (zR [zm 95 5,zc 96 .gtr 95 8192] (.cond (.l 96) (zR [zm 97 0,zL 98 97,⟨.l 99,.bin .quo (kI 8192) (.l 98),none⟩,zm 100 0,zL 101 100,zb 102 .mul 99 101,zw 6 102] (zR [zm 103 6,zc 104 .eql 103 0] (.cond (.l 104) (.region [zm 105 0,zL 106 105,zw 6 106]) (.skip)))) (.skip))) (zR [⟨.p 7,.alloc 269 [.dv,.ae],none⟩] (zR [zm 107 5,⟨.l 108,.call (kF 301) [(.p 7),(.l 107)],none⟩] (zR [zm 109 0,⟨.l 110,.call (kF 265) [(.p 7),(.l 109)],none⟩] (.seq (.block 3 (.loop Zw)) (zR [⟨.l 124,.call (kF 266) [(.p 7)],none⟩,zw 2 124] (.ret)))))))))))))))
theorem Zx:FT 264=some ⟨125,[0,1,4,5,6,7,8,9,10,11,42,43],[.var (.p 2)],KT⟩:=by kernel_rfl
def Ds:an:=zR [zi 2 0,⟨.p 3,.mv (.c (.db)),none⟩] (zR [zm 6 0,z1 7 303 6] (zR [zm 8 0,zm 9 0,⟨.l 10,.jA (.l 9),none⟩,⟨.l 11,.iM 1 (.l 10),none⟩,zd 12 1 11,zm 13 1,⟨.l 14,.append 5 1 1 (.l 12) (.l 13),none⟩,⟨.l 15,.jA (.l 8),none⟩,⟨.l 16,.iM 1 (.l 15),none⟩,zS 1 16 14] (zR [zm 17 1,zL 18 17,zw 2 18,⟨.p 3,.mv (.c (.db)),none⟩] (.ret))))
theorem KU:FT 265=some ⟨19,[0,1,4,5],[.var (.p 2),.var (.p 3)],Ds⟩:=by kernel_rfl
def KV:an:=zR [⟨.p 1,.mv (.c (.str [])),none⟩] (.seq (.draw [(zm 3 0,[]),(⟨.l 4,.jA (.l 3),none⟩,[]),(⟨.l 5,.iM 1 (.l 4),none⟩,[]),(zd 6 1 5,[]),(⟨.l 7,.qX (.l 6),none⟩,[]),(zm 8 0,[0,1,2,3,4]),(⟨.l 9,.jA (.l 8),none⟩,[0,1,2,3,4]),(⟨.l 10,.iM 1 (.l 9),none⟩,[0,1,2,3,4]),(zd 11 1 10,[0,1,2,3,4]),(zl 12 11,[0,1,2,3,4]),(⟨.l 13,.jz 5 (.l 7) (.l 12),none⟩,[]),(zw 1 13,[])]) (.ret))
theorem Zy:FT 266=some ⟨14,[0,2],[.var (.p 1)],KV⟩:=by kernel_rfl
def Dt:an:=zR [zm 2 0,⟨.l 3,.jA (.l 2),none⟩,⟨.l 4,.iM 0 (.l 3),none⟩,zd 5 1 4,⟨.l 6,.eq false (.ref .ptr) (.l 5) (.c (.dv)),none⟩] (.cond (.l 6) (.region [zm 7 0,zm 8 0,⟨.l 9,.jV none (.l 8),none⟩,z1 10 323 9,⟨.l 11,.jV (some (269,2)) (.l 10),none⟩,⟨.l 12,.jA (.l 7),none⟩,⟨.l 13,.iM 0 (.l 12),none⟩,zS 1 13 11]) (zR [zm 14 0,⟨.l 15,.jA (.l 14),none⟩,⟨.l 16,.iM 0 (.l 15),none⟩,zd 17 1 16,zm 18 0,⟨.l 19,.mV true (.l 17) (.l 18),none⟩] (.cond (.l 19) (.bad) (.skip))))
theorem KW:FT 303=some ⟨20,[0],[],Dt⟩:=by kernel_rfl
def KX:an:=zR [⟨.p 2,.mv (kU 0),none⟩,⟨.p 3,.mv (kU 0),none⟩] (.seq (.cond (.c (.bool false)) (zR [zm 11 0,⟨.l 12,.dF .u32 (.l 11),none⟩,zm 13 1,⟨.l 14,.dF .u32 (.l 13),none⟩,z2 15 321 12 14,zn 10 15,ze 16 0 10,ze 17 1 10,zw 4 16,zw 5 17] (zR [zm 18 4,⟨.l 19,.dF .u64 (.l 18),none⟩,zm 20 5,⟨.l 21,.dF .u64 (.l 20),none⟩,zw 2 19,zw 3 21] (.ret))) (.skip)) (zR [zm 23 0,zm 24 1,z2 25 244 23 24,zn 22 25,ze 26 0 22,ze 27 1 22,zw 6 26,zw 7 27] (zR [zm 28 6,zm 29 7,zw 2 28,zw 3 29] (.ret))))
theorem Zz:FT 300=some ⟨30,[0,1,4,5,6,7,8,9],[.var (.p 2),.var (.p 3)],KX⟩:=by kernel_rfl
end Go.Ab.Ch1

/-
  Own work: a builder of text.
-/
namespace Go.Ab.Ch1
variable {M:ax} {cap:Option Nat}
def oG (N:Nat)(hp:ab)(b:Nat)(acc:ao):Prop:=(acc=[]/\hp.at b=some (.cells [.dv,.ae] 269))\/(acc≠[]/\∃c,N<=c/\hp.at b=some (.cells [.ptr b 0,.sl c 0 acc.length 1 none] 269)/\hp.at c=some (.cells (bx acc) 5))
theorem Du {h:ab}{b:Nat}{x:Option bC}{n:Nat}(hn:h.length=n):(h.put b x).take n=h.put b x:=List.take_of_length_le (by rw[fw];omega)
theorem ZA {v:AV}{n b:Nat}{s:aq}{h:ab}{c:List AV}{e:TypeId}(hv:v.top=0)(hb:b<h.length)(hn:h.length=n)(hh:s.s.hp=h.put b (some (.cells c e)))(hw:∀x∈s.wr,x=b)(hc:br c<=n):dY v n s=⟨v,h.put b (some (.cells c e)),s.wr.filter (· < n)⟩:=by
 have ht:tight s.s.hp n s.wr=true:=by
  simp only[tight,List.all_eq_true];intro x hx;rw[hw x hx,hh,cW hb];simp[bC.top,hc]
 rw[Bo (by omega) ht,hh,Du hn]
theorem ZB (hft:M.FT=FT)(oH:∀b h,M.ext 323 [.ptr b 0] h=some ⟨.ptr b 0,h,[]⟩)(b:Nat)(hp:ab)(hb:hp.at b=some (.cells [.dv,.ae] 269)):aT M 303 [.ptr b 0] hp ⟨.au [],hp.put b (some (.cells [.ptr b 0,.ae] 269)),[b]⟩:=by
 have hlt:=eE hb;have q:=oH b hp;refine vv (by rw[hft];exact KW) (by simp) ?_;unfold Dt;simp only[enter];refine gg13 ?_;refine⟨.inl rfl,rfl,[],rfl,?_⟩;refine(ZA (v:=.au []) rfl hlt rfl rfl (by simp) ?_).trans ?_
 . show max (b+1) (max 0 0)<=_;omega
 . simp[hlt]
theorem ZC (hft:M.FT=FT)(b:Nat)(hp:ab)(v:AV)(hb:hp.at b=some (.cells [.ptr b 0,v] 269)):aT M 303 [.ptr b 0] hp ⟨.au [],hp,[]⟩:=by
 refine nM (by rw[hft];exact KW) (by simp) ?_;unfold Dt;simp only[enter];repeat' first|(apply agZ;rfl;exact hb;rfl)|(apply aiw;rfl;rfl;exact hb)|apply abn|apply aM|apply abp|apply abC|apply acQ|(apply acS;rfl)|(apply abg;rfl;rfl)
 exact⟨.inl rfl,rfl,rfl,rfl,[],rfl,rfl⟩
structure Kept (N b:Nat)(hp H:ab)(wr:List Nat):Prop where
 len:hp.length<=H.length
 at':∀a,a<N->a≠b->H[a]? = hp[a]?
 wr:∀x∈wr,x=b\/N<=x
theorem KY {h h':ab}{a:Nat}(e:h'[a]? = h[a]?):h'.at a=h.at a:=by simp only[ab.at,e]
theorem sV {h:ab}{a b:Nat}{x:Option bC}(hn:a≠b):(h.put b x)[a]? = h[a]? := by
 simp only[ab.put,List.getElem?_set,if_neg (fun e:b=a=>hn e.symm)]
theorem KZ {h l:ab}{a:Nat}(hn:a<h.length):(h++l)[a]? = h[a]? := List.getElem?_append_left hn
theorem La (hft:M.FT=FT)(qH:∀ars h,M.ext 303 ars h=none)(oH:∀b h,M.ext 323 [.ptr b 0] h=some ⟨.ptr b 0,h,[]⟩)(N b:Nat)(hp:ab)(acc s:ao)(hN:b<N/\N<=hp.length)(hs:s≠[])(hl:acc.length+s.length<1000000000)(hB:oG N hp b acc) :
 iB M 265 [.ptr b 0,.str s] hp fun r=>r.v = .au [.iV s.length,.db]/\oG N r.h b (acc++s)/\Kept N b hp r.h r.wr/\b∈r.wr/\r.h.at b=some (.cells [.ptr b 0,.sl hp.length 0 (acc++s).length 1 none] 269):=by
 have h0:0<s.length:=List.length_pos_iff.2 hs;have hne:acc++s≠[]:=by simp[hs]
 rcases hB with ⟨rfl,hb⟩|⟨ha,c,hc,hb,hcb⟩
 . have hlt:=eE hb;have q:=CT.run (fi:=[]) (ca:=[]) (ars:=[.ptr b 0]) (qH _ _) (ZB hft oH b hp hb);have hb1:(hp.put b (some (.cells [.ptr b 0,.ae] 269))).at b=some (.cells [.ptr b 0,.ae] 269):=cW hlt;have hb2:=bS (l:=[some (.cells (bx s) 5)]) hb1;have hsc:eO (hp.put b (some (.cells [.ptr b 0,.ae] 269))) (.str s)=some (bx s,s.length):=rfl;refine iB.rT (by rw[hft];exact KU) (by simp) ?_;unfold Ds;simp only[enter];refine gg14 ?_;refine⟨.inr rfl,_,rfl,[.iV s.length,.db],rfl,?_⟩;rw[Ij (n:=hp.length) rfl rfl ?_]
   . have hL:(hp.put b (some (bC.cells [.ptr b 0,.ae] 269))++[some (bC.cells (bx s) 5)]).length=hp.length+1:=by simp[fw]
     refine⟨rfl,.inr ⟨hne,hp.length,hN.2,?_,?_⟩,⟨?_,fun a h1 h2=>?_,?_⟩,by simp[hlt],?_⟩
     . simp only[cW (show b<_ by rw[hL];omega),fw,List.nil_append]
     . rw[List.nil_append];refine pR (by omega) ?_;have:=bX (h:=hp.put b (some (bC.cells [.ptr b 0,.ae] 269))) (x:=some (bC.cells (bx s) 5));rw[fw]at this;exact this
     . rw[fw,hL];omega
     . rw[sV h2,KZ (by rw[fw];omega),sV h2]
     . simp
     . simp only[cW (show b<_ by rw[hL];omega),fw,List.nil_append]
   . simp only[tight,List.all_eq_false];refine⟨b,by simp,?_⟩;rw[cW (by simp[fw];omega)];simp[bC.top,br,AV.top,fw];omega
 . have hlt:=eE hb;have q:=CT.run (fi:=[]) (ca:=[]) (ars:=[.ptr b 0]) (qH _ _) (ZC hft b hp _ hb);have hsc:eO hp (.str s)=some (bx s,s.length):=rfl;have hcl:=eE hcb;have hbc:b≠c:=by omega
   have hb2:ab.at (hp.put c none++[some (.cells (bx acc++bx s) 5)]) b=some (.cells [.ptr b 0,.sl c 0 acc.length 1 none] 269):=bS (pR hbc hb);refine iB.rT (by rw[hft];exact KU) (by simp) ?_;unfold Ds;simp only[enter];refine gg13 ?_;refine⟨.inr rfl,_,rfl,[.iV s.length,.db],rfl,?_⟩;rw[Ij (n:=hp.length) rfl rfl ?_]
   . have hL:(hp.put c none++[some (bC.cells (List.drop 0 (bx acc)++bx s) 5)]).length=hp.length+1:=by simp[fw]
     refine⟨rfl,.inr ⟨hne,hp.length,hN.2,?_,?_⟩,⟨?_,fun a h1 h2=>?_,?_⟩,by simp[hlt],?_⟩
     . simp only[cW (show b<_ by rw[hL];omega),List.length_append]
     . refine pR (by omega) ?_;have:=bX (h:=hp.put c none) (x:=some (bC.cells (List.drop 0 (bx acc)++bx s) 5));rw[fw]at this;rw[this,List.drop_zero,Za]
     . rw[fw,hL];omega
     . rw[sV h2,KZ (by rw[fw];omega),sV (by omega)]
     . intro x hx;simp at hx;omega
     . simp only[cW (show b<_ by rw[hL];omega),List.length_append]
   . simp only[tight,List.all_eq_false];refine⟨b,by simp,?_⟩;rw[cW (by simp[fw];omega)];simp[bC.top,br,AV.top];omega
theorem Lb (hft:M.FT=FT)(N b:Nat)(hp:ab)(acc:ao)(hB:oG N hp b acc)(hne:acc≠[])(hl:acc.length<1000000000)(hN:b<N/\N<=hp.length):iB M 266 [.ptr b 0] hp fun r=>r.v = .str acc/\Kept N b hp r.h r.wr:=by
 have h0:0<acc.length:=List.length_pos_iff.2 hne;rcases hB with ⟨rfl,hb⟩|⟨ha,c,hc,hb,hcb⟩
 . exact absurd rfl hne
 have hcl:=eE hcb;refine iB.rT (by rw[hft];exact Zy) (by simp) ?_;unfold KV;simp only[enter];have hcut:cut (bx acc) 0 ((acc.length:Int)).toNat=some (bx acc):=by
  rw[Int.toNat_natCast];simp[cut,kQ];exact List.take_of_length_le (by rw[kQ];exact Nat.le_refl _)
 refine gg13 ?_;refine⟨.inr rfl,_,rfl,[.str acc],rfl,?_⟩;rw[Tm (n:=hp.length) rfl rfl (Nat.zero_le _) ?_]
 . refine⟨rfl,?_,fun a h1 h2=>?_,?_⟩
   . simp only[Du rfl,fw];exact Nat.le_refl _
   . simp only[Du rfl];exact sV (by omega)
   . intro x hx;simp at hx;omega
 . have:ab.at (hp.put c none) c=none:=cW hcl;simp[tight,this]
end Go.Ab.Ch1

/-
  Own work: decimal texts in parts of 18 digits.
-/
namespace Go.Ab.bj
theorem xB:∀k,cJ k 0=List.replicate k 48
 | 0=>rfl
 | k+1=>by rw[cJ,xB k,List.replicate_succ'];rfl
theorem Lc:∀{k n:Nat},n<10^(k+1)->cJ (k+1) n=List.replicate (k+1-(aP n).length) 48++aP n
 | 0,n,h=>by
  have h:n<10:=by simpa using h
  rw[gS h];simp[cJ,Nat.mod_eq_of_lt h]
 | k+1,n,h=>by
  rw[cJ];by_cases h1:n<10
  . rw[gS h1,Nat.div_eq_of_lt h1,xB,Nat.mod_eq_of_lt h1];rfl
  . rw[Nat.pow_succ]at h;have hl:(aP n).length=(aP (n/10)).length+1:=by rw[jQ h1];simp
    rw[Lc (k:=k) (n:=n/10) (by omega),jQ h1,List.append_assoc];rw[show k+1+1-(aP (n/10)++[dK (n%10)]).length=k+1-(aP (n/10)).length by rw[←jQ h1,hl];omega]
def iK (n:Nat):List ao:=if n=0 then [] else if n<1000000000000000000 then [aP n] else cJ 18 (n%1000000000000000000)::iK (n/1000000000000000000)
termination_by n
decreasing_by omega
theorem qI:iK 0=[]:=by rw[iK,if_pos rfl]
theorem sW {n:Nat}(h0:n≠0)(h:n<1000000000000000000):iK n=[aP n]:=by rw[iK,if_neg h0,if_pos h]
theorem sX {n:Nat}(h:¬n<1000000000000000000):iK n=cJ 18 (n%1000000000000000000)::iK (n/1000000000000000000):=by
 rw[iK,if_neg (by omega),if_neg h]
theorem ZD {n:Nat}(h:n≠0):(iK n).reverse.flatten=aP n:=by
 induction n using Nat.strongRecOn with
 | _ n ih=>
  by_cases h1:n<1000000000000000000
  . rw[sW h h1];simp
  . rw[sX h1,List.reverse_cons,List.flatten_append,ih _ (by omega) (by omega)];have e:=Dh (k:=18) (a:=n/1000000000000000000) (b:=n%1000000000000000000) (by omega) (by rw[show (10:Nat)^18=1000000000000000000 by rfl];omega);rw[show (10:Nat)^18=1000000000000000000 by rfl,show n/1000000000000000000*1000000000000000000+n%1000000000000000000=n by omega]at e;rw[e];simp
theorem ZE {n:Nat}:∀x∈iK n,x≠[]:=by
 induction n using Nat.strongRecOn with
 | _ n ih=>
  by_cases h0:n=0
  . subst h0;rw[qI];simp
  . by_cases h1:n<1000000000000000000
    . rw[sW h0 h1];intro x hx;rw[List.mem_singleton.1 hx];exact ky _
    . rw[sX h1];intro x hx;rcases List.mem_cons.1 hx with h3|hx
      . rw[h3];exact fun e=>absurd (congrArg List.length e) (by rw[ku,List.length_nil];exact Nat.succ_ne_zero 17)
      . exact ih (n/1000000000000000000) (Nat.div_lt_self (Nat.pos_of_ne_zero h0) (by decide)) x hx
theorem ZF {n:Nat}:∀x∈iK n,x.length<=18:=by
 induction n using Nat.strongRecOn with
 | _ n ih=>
  by_cases h0:n=0
  . subst h0;rw[qI];simp
  . by_cases h1:n<1000000000000000000
    . rw[sW h0 h1];intro x hx;rw[List.mem_singleton.1 hx];exact oC (k:=18) h1 (by decide)
    . rw[sX h1];intro x hx;rcases List.mem_cons.1 hx with h3|hx
      . rw[h3,ku];exact Nat.le_refl _
      . exact ih (n/1000000000000000000) (Nat.div_lt_self (Nat.pos_of_ne_zero h0) (by decide)) x hx
theorem Ld:∀{k n:Nat},n<1000000000000000000^k->(iK n).length<=k
 | 0,n,h=>by
  obtain rfl:n=0:=by simpa using h
  rw[qI];exact Nat.le_refl _
 | k+1,n,h=>by
  by_cases h0:n=0
  . subst h0;rw[qI];exact Nat.zero_le _
  . by_cases h1:n<1000000000000000000
    . rw[sW h0 h1];exact Nat.succ_le_succ (Nat.zero_le _)
    . rw[sX h1,List.length_cons];rw[Nat.pow_succ]at h;have:=Ld (k:=k) (n:=n/1000000000000000000) (Nat.div_lt_of_lt_mul (by rw[Nat.mul_comm];exact h));omega
end Go.Ab.bj

/-
  Own work: the code of texts of integers and fractions.
-/
namespace Go.Ab.Ch1
set_option maxRecDepth 1000000
def mM:an:=.seq (zR [zm 24 4,zl 25 24,zc 26 .gtr 25 0] (.cond (.l 26) (.skip) (.exit 0))) (.block 1 (zR [zm 28 4,zm 29 5,z2 30 253 28 29,zn 27 30,ze 31 0 27,ze 32 1 27,zw 7 31,zw 8 32] (zR [⟨.p 9,.mv (.c (.str [48])),none⟩] (.seq (zR [zm 33 8,zl 34 33,zc 35 .gtr 34 0] (.cond (.l 35) (.region [zm 36 8,⟨.l 37,.dH none 1 (.l 36) (kI 0),none⟩,zd 38 1 37,⟨.l 39,.call (kF 263) [(.l 38),(kI 10)],none⟩,zw 9 39]) (.skip))) (.seq (zR [zm 40 7,zl 41 40,zc 42 .gtr 41 0] (.cond (.l 42) (.region [zm 43 9,zL 44 43,⟨.l 45,.bin .sub (kI 18) (.l 44),none⟩,⟨.l 46,.call (kF 264) [(.c (.str [48])),(.l 45)],none⟩,zm 47 9,zb 48 .add 46 47,zw 9 48]) (.skip))) (zR [zm 49 6,zm 50 9,⟨.l 51,.dQ 9 1 1 [.str []] [(0,1,(.l 50))],none⟩,⟨.l 52,.append 9 1 16 (.l 49) (.l 51),none⟩,zw 6 52] (.region [zm 53 7,zw 4 53])))))))
def xC:an:=.seq (zR [zm 59 11,zc 60 .geq 59 0] (.cond (.l 60) (.skip) (.exit 2))) (.seq (.block 3 (.region [zm 63 6,zm 64 11,za 65 1 63 64,zd 66 1 65,⟨.l 67,.call (kF 265) [(.p 10),(.l 66)],none⟩])) (.region [zm 61 11,zc 62 .sub 61 1,zw 11 62]))
def Dv:an:=zR [zx 1 131 2 0,⟨.p 2,.mv (.c (.str [])),none⟩] (.seq (zR [zf 12 1 1,zd 13 1 12,⟨.l 14,.eq false (.ref .slice) (.l 13) (.c (.ae)),none⟩] (.cond (.l 14) (zR [zf 15 0 1,zd 16 1 15,z1 17 183 16,zw 2 17] (.ret)) (.skip))) (zR [zt 19 2 1,z1 20 246 19,zn 18 20,ze 21 0 18,ze 22 1 18,zw 3 21,zw 4 22] (zR [⟨.l 23,.dQ 246 1 1 [.uV (0)] [(0,1,(kU 1000000000000000000))],none⟩,zw 5 23] (zR [⟨.p 6,.mv (.c (.ae)),none⟩] (.seq (.block 0 (.loop mM)) (zR [⟨.p 10,.alloc 269 [.dv,.ae],none⟩] (.seq (zR [zm 54 3] (.cond (.l 54) (.region [⟨.l 55,.call (kF 265) [(.p 10),(.c (.str [45]))],none⟩]) (.skip))) (.seq (zR [zm 56 6,zl 57 56,zc 58 .sub 57 1,zw 11 58] (.block 2 (.loop xC))) (zR [⟨.l 68,.call (kF 266) [(.p 10)],none⟩,zw 2 68] (.ret))))))))))
theorem Le:FT 224=some ⟨69,[0,1,2,3,4,5,6,7,8,9,10,11],[.var (.p 2)],Dv⟩:=by kernel_rfl
def Lf:an:=zR [zx 1 131 2 0,⟨.p 2,.mv (.c (.bool false)),none⟩] (zR [zt 3 2 1,z1 4 262 3,zc 5 .gtr 4 1800,zn 6 5,zg (zt 7 2 1) 6 true,zg (z1 8 224 7) 6 true,⟨.l 9,.call (kF 213) [(.l 8),(.c (.str [45]))],some ((.l 6),true)⟩,zg (zL 10 9) 6 true,zg (zc 11 .gtr 10 600) 6 true,zp 12 6 11,zw 2 12] (.ret))
theorem ZG:FT 223=some ⟨13,[0,1,2],[.var (.p 2)],Lf⟩:=by kernel_rfl
def xD:an:=.seq (zR [zm 13 0,zL 14 13,zc 15 .gtr 14 0] (.cond (.l 15) (.skip) (.exit 0))) (.block 1 (zR [zm 16 0,zL 17 16,⟨.l 18,.mm false [(kI 18),(.l 17)],none⟩,zw 4 18] (zR [zm 20 0,zm 21 4,⟨.l 22,.slice .str 1 (.l 20) none (some (.l 21)) none,none⟩,z1 23 214 22,zn 19 23,ze 24 0 19,ze 25 1 19,zw 5 24,zn 7 25] (.seq (.draw [(zt 26 2 3,[]),(⟨.l 27,.call (kF 168) [(kI 10)],none⟩,[0]),(zm 28 4,[0,1]),(z2 29 215 27 28,[0]),(z2 30 198 26 29,[]),(zm 31 5,[0,1,2,3,4]),(z1 32 168 31,[]),(z2 33 202 30 32,[]),(zs 2 3 33,[])]) (.region [zm 34 0,zm 35 4,⟨.l 36,.slice .str 1 (.l 34) (some (.l 35)) none none,none⟩,zw 0 36])))))
def Lg:an:=zR [⟨.p 1,.alloc 131 [.iV (0),.ae],none⟩] (zR [zm 8 0,⟨.l 9,.call (kF 212) [(.l 8),(.c (.str [45]))],none⟩,zw 2 9] (zR [zm 10 0,⟨.l 11,.call (kF 213) [(.l 10),(.c (.str [45]))],none⟩,zw 0 11] (zR [⟨.l 12,.build [.iV (0),.ae] [],none⟩,⟨.p 3,.alloc 131 [.iV (0),.ae],none⟩,zs 2 3 12] (.seq (.block 0 (.loop xD)) (.seq (zR [zm 37 2] (.cond (.l 37) (zR [zt 38 2 3,z1 39 216 38,zs 2 1 39] (.ret)) (.skip))) (zR [zt 40 2 3,zs 2 1 40] (.ret)))))))
theorem ZH:FT 166=some ⟨41,[0,2,3,4,5,6],[.cell 2 true (.p 1)],Lg⟩:=by kernel_rfl
def Lh:an:=zR [zx 1 133 4 0,⟨.p 2,.mv (.c (.bool false)),none⟩] (zR [zf 3 0 1,zT 4 2 3,z1 5 223 4,zn 6 5,zg (zf 7 2 1) 6 false,zg (zT 8 2 7) 6 false,zg (z1 9 223 8) 6 false,zP 10 6 9,zw 2 10] (.ret))
theorem ZI:FT 175=some ⟨11,[0,1,2],[.var (.p 2)],Lh⟩:=by kernel_rfl
def Li:an:=zR [zx 1 133 4 0,⟨.p 2,.mv (.c (.str [])),none⟩] (.seq (zR [zt 3 4 1,z1 4 201 3] (.cond (.l 4) (zR [zf 5 0 1,zT 6 2 5,z1 7 224 6,zw 2 7] (.ret)) (.skip))) (.seq (.draw [(zf 8 0 1,[]),(zT 9 2 8,[]),(z1 10 224 9,[]),(⟨.l 11,.bin .add (.l 10) (.c (.str [47])),none⟩,[]),(zf 12 2 1,[0,1,2,3]),(zT 13 2 12,[0,1,2,3]),(z1 14 224 13,[3]),(zb 15 .add 11 14,[]),(zw 2 15,[])]) (.ret)))
theorem ZJ:FT 176=some ⟨16,[0,1,2],[.var (.p 2)],Li⟩:=by kernel_rfl
def Dw:an:=zR [⟨.p 1,.alloc 133 [.iV (0),.ae,.iV (0),.ae],none⟩] (zR [zm 7 0,⟨.l 8,.call (kF 163) [(.l 7),(.c (.str [47]))],none⟩,zn 6 8,ze 9 0 6,ze 10 1 6,ze 11 2 6,zw 2 9,zw 3 10,zw 4 11] (.seq (zR [zm 12 4,zu 13 12] (.cond (.l 13) (zR [zm 14 2,z1 15 166 14,z1 16 159 15,zs 4 1 16] (.ret)) (.skip))) (zR [zm 17 2,z1 18 166 17,zm 19 3,z1 20 166 19,⟨.l 21,.build [.iV (0),.ae,.iV (0),.ae] [(0,2,(.l 18)),(2,2,(.l 20))],none⟩,zs 4 1 21] (.ret))))
theorem Lj:FT 103=some ⟨22,[0,2,3,4,5],[.cell 4 true (.p 1)],Dw⟩:=by kernel_rfl
end Go.Ab.Ch1

/-
  Own work: decimal texts of integers of any size: the parts.
-/
namespace Go.Ab.Ch1
open Go.Ab.bj
variable {M:ax} {cap:Option Nat} {N:Nat}
abbrev jh (s:ao):List AV:=[.str s]
structure xE (M:ax)(N:Nat):Prop extends CI M N where
 Lk:∀z h,(-9223372036854775808<=z/\z<9223372036854775808)->M.ext 183 [.iV z] h=some ⟨.str (bQ z),h,[]⟩
 Dx:∀(u:Nat) h,u<18446744073709551616->M.ext 263 [.uV u,.iV 10] h=some ⟨.str (aP u),h,[]⟩
 Ll:∀(k:Nat) h,k<=64->M.ext 264 [.str [48],.iV k] h=some ⟨.str (List.replicate k 48),h,[]⟩
 Lm:∀(l:List Int) (b:Nat) c h,okW wB l->aN l->l.length<=500000->WV wB l<1000000000000000000->h.at b=some (.cells (aj [1000000000000000000]) 246)->M.ext 253 [.vs (aj l) l.length none,.sl b 0 1 1 c] h=some ⟨.au [.ae,.vs (aj l) l.length none],h,[]⟩
 Ln:∀(l:List Int) (b:Nat) c h,okW wB l->aN l->l.length<=500000->¬WV wB l<1000000000000000000->h.at b=some (.cells (aj [1000000000000000000]) 246)->∃q r,okW wB q/\aN q/\okW wB r/\aN r/\WV wB q=WV wB l/1000000000000000000/\WV wB r=WV wB l%1000000000000000000/\M.ext 253 [.vs (aj l) l.length none,.sl b 0 1 1 c] h=some ⟨.au [.vs (aj q) q.length none,.vs (aj r) r.length none],h,[]⟩
 Dy:∀ars h,M.ext 265 ars h=none
 Dz:∀ars h,M.ext 266 ars h=none
 qH:∀ars h,M.ext 303 ars h=none
 oH:∀b h,M.ext 323 [.ptr b 0] h=some ⟨.ptr b 0,h,[]⟩
theorem DA {l:List Int}(ok:okW wB l)(nr:aN l)(h:WV wB l<wB):l=[]\/∃x,l=[x]/\x=WV wB l/\0<x:=by
 have h1:=fJ (b:=wB) (by decide) ok nr (n:=1) (by rw[Int.pow_one];exact h);match l,h1 with
 | [],_=>exact .inl rfl
 | [x],_=>
  refine .inr ⟨x,rfl,by simp[WV],?_⟩;have h2:=(ok x (by simp)).1;have h3:=(si (l:=[x]) (by simp)).1 nr;have h4:x≠0:=by simpa using h3
  omega
set_option maxRecDepth 100000 in
theorem ZK (C:xE M N){Q:Ex->aq->Prop}(a0 a2 a3 a10 a11:AV)(c5:Option Nat):∀(k:Nat) (l:List Int) (acc:List ao) (o:AV) (K:ab) (a7 a8 a9:AV) (lo:List (Nat×AV)) (wr:List Nat),okW wB l->aN l->l.length<=500000->WV wB l<1000000000000000000^k->acc.length+k<=10000000->cF jh 1 9 K o acc [1]->K.at 1=some (.cells (aj [1000000000000000000]) 246) ->
 (∀p4 o' K' a7 a8 a9 lo wr,cF jh 1 9 K' o' (acc++iK (WV wB l).toNat) [1]->Q (.exit 0) ⟨⟨[a0,.ptr 0 0,a2,a3,p4,.sl 1 0 1 1 c5,o',a7,a8,a9,a10,a11],lo,K',[]⟩,wr⟩) ->
 W M (.loop mM) ⟨⟨[a0,.ptr 0 0,a2,a3,.vs (aj l) l.length none,.sl 1 0 1 1 c5,o,a7,a8,a9,a10,a11],lo,K,[]⟩,wr⟩ Q:=by
 intro k;induction k with
 | zero=>
  intro l acc o K a7 a8 a9 lo wr ok nr hl hv hk ho hK hQ;have h0:=cC (b:=wB) (by decide) ok;rw[Int.pow_zero]at hv;have hz:WV wB l=0:=by omega
  have hln:l=[]:=by
   rcases DA ok nr (by rw[hz];decide) with h|⟨x,_,h1,h2⟩
   . exact h
   . omega
  subst hln;have e0:(WV wB ([]:List Int)).toNat=0:=rfl;rw[e0,qI,List.append_nil]at hQ;have hl0:([]:List Int).length=0:=rfl;refine W.loop ?_;unfold mM;exact gg1
 | succ k ih=>
  intro l acc o K a7 a8 a9 lo wr ok nr hl hv hk ho hK hQ;have h0:=cC (b:=wB) (by decide) ok;obtain⟨v,hvv⟩:∃v:Nat,WV wB l=(v:Int):=⟨(WV wB l).toNat,by omega⟩;have et:(WV wB l).toNat=v:=by omega
  rw[et]at hQ;have hroom:(acc.length+1)*16<=dG:=by unfold dG;omega
  have hK1:=eE hK;refine W.loop ?_;by_cases h1:WV wB l<1000000000000000000
  . rcases DA ok nr (Int.lt_trans h1 (by decide)) with rfl|⟨x,rfl,hx,hx0⟩
    . have hv0:v=0:=by simp[WV]at hvv;omega
      subst hv0;rw[qI,List.append_nil]at hQ;have hl0:([]:List Int).length=0:=rfl;unfold mM;exact gg1
    . have q253:=C.Lm [x] 1 c5 K ok nr hl h1 hK;have hxv:x=(v:Int):=by omega
      have q263:=fun h=>C.Dx v h (by omega)
      rw[←hxv]at q263;have el:(([x]:List Int)[(0:Int).toNat]!)=x:=rfl;rw[sW (by omega) (by omega)]at hQ;have hl1:([x]:List Int).length=1:=rfl;unfold mM;repeat' first|(refine cF.app (f:=jh) (m:=[aP v]) (S:=[1]) (fun _=>rfl) (fun _=>rfl) (by decide) (ho.grow [_]) (by simp;omega) rfl rfl (Sl.iN (f:=jh) (esz:=1) (l:=[aP v]) (e:=9) (fun _=>rfl) bX rfl) hroom (fun H w' o' ho' hk hlen=>?_))|apply abn|apply aM|apply abp|apply abC|apply ada|apply acQ|apply dx|(apply acL;rfl)|(apply acS;rfl)|(apply aep;rfl;rfl)|(apply aco;rfl;rfl;first|exact q253|exact q263 _)|(apply aga;rfl;rfl;omega)|(apply agd;rfl;exact fun _=>rfl;(first|omega|(simp only[List.length_set];omega)|(simp;omega));decide;rfl;case ia=>infer_instance)|(apply acT;rfl;rfl;rfl)|(apply abg;rfl;rfl)|(apply acn;rfl;rfl)|(intro _;omega)|intro _
      all_goals try omega
      refine fv (W.loop ?_);exact gg1
  . obtain⟨q,r,okq,nrq,okr,nrr,vq,vr,q253⟩:=C.Ln l 1 c5 K ok nr hl h1 hK;have hq0:0<WV wB q:=by rw[vq];omega
    have hqne:0<q.length:=List.length_pos_iff.2 (fun e=>by rw[e]at hq0;simp[WV]at hq0);have hlne:0<l.length:=List.length_pos_iff.2 (fun e=>by rw[e]at h1;exact h1 (by simp[WV]));have hql:q.length<=500000:=by
     refine Nat.le_trans (fJ (b:=wB) (by decide) okq nrq (n:=l.length) ?_) hl;have:=da (b:=wB) (by decide) ok;rw[vq];omega
    have hqv:WV wB q<1000000000000000000^k:=by
     rw[vq];rw[Int.pow_succ]at hv;exact Int.ediv_lt_of_lt_mul (by decide) hv
    obtain⟨R,hR⟩:∃R:Nat,WV wB r=(R:Int):=⟨(WV wB r).toNat,by omega⟩;have hRv:R=v%1000000000000000000:=by omega
    have hqn:(WV wB q).toNat=v/1000000000000000000:=by omega
    rw[sX (by omega),←hRv,←hqn]at hQ;have hpad:=Lc (k:=17) (n:=R) (by rw[hRv,show (10:Nat)^(17+1)=1000000000000000000 by rfl];omega);have hdl:(aP R).length<=18:=oC (k:=18) (by rw[hRv,show (10:Nat)^18=1000000000000000000 by rfl];omega) (by decide);have hdl0:0<(aP R).length:=List.length_pos_iff.2 (ky R);have q264:=fun h=>C.Ll (18-(aP R).length) h (by omega)
    have rY:((18-(aP R).length:Nat):Int)=18-((aP R).length:Int):=by omega
    rw[rY]at q264;have hrl:(List.replicate (18-(aP R).length) (48:UInt8)).length=18-(aP R).length:=by simp
    rw[show 17+1-(aP R).length=18-(aP R).length by omega]at hpad;rw[show 17+1=18 by rfl]at hpad;obtain⟨zs,hzs⟩:∃zs,zs=List.replicate (18-(aP R).length) (48:UInt8):=⟨_,rfl⟩;rw[←hzs]at hpad q264 hrl;rw[hpad]at hQ;have fin:∀H w' o' a7 a8 a9 lo,cF jh 1 9 H o' (acc++[zs++aP R]) [1]->H.at 1=some (.cells (aj [1000000000000000000]) 246)->LQ M mM Q .normal ⟨⟨[a0,.ptr 0 0,a2,a3,.vs (aj q) q.length none,.sl 1 0 1 1 c5,o',a7,a8,a9,a10,a11],lo,H,[]⟩,w'⟩:=fun H w' o' a7 a8 a9 lo ho' hH=>
     fv (ih q _ _ _ _ _ _ _ _ okq nrq hql hqv (by simp;omega) ho' hH (fun p4 o2 K2 a7 a8 a9 lo wr ho2=>hQ _ _ _ _ _ _ _ _ (by rw[List.append_assoc]at ho2;exact ho2)))
    rcases DA okr nrr (by
                                rw[vr];have:(1000000000000000000:Int)<wB:=by decide
                                omega) with rfl|⟨x,rfl,hx,hx0⟩
    . have hR0:R=0:=by simp[WV]at hR;omega
      subst hR0;have hd0:aP 0=[48]:=gS (by decide);rw[hd0]at fin hrl hdl q264 hdl0;have hr0:([]:List Int).length=0:=rfl;have h48:([48]:ao).length=1:=rfl;unfold mM;exact gg8
    . have hxv:x=(R:Int):=by omega
      have q263:=fun h=>C.Dx R h (by omega)
      rw[←hxv]at q263;have el:(([x]:List Int)[(0:Int).toNat]!)=x:=rfl;have hl1:([x]:List Int).length=1:=rfl;unfold mM;exact gg2
end Go.Ab.Ch1

/-
  Own work: decimal texts of integers of any size.
-/
namespace Go.Ab.Ch1
open Go.Ab.bj
variable {M:ax} {cap:Option Nat} {N:Nat}
def ju (l:List ao)(i:Nat):ao:=(l.drop i).reverse.flatten
theorem ZL {l:List ao}:ju l 0=l.reverse.flatten:=rfl
theorem Lo {l:List ao}:ju l l.length=[]:=by rw[ju,List.drop_length];rfl
theorem ZM {l:List ao}{i:Nat}(h:i<l.length):ju l i=ju l (i+1)++l[i]! := by
 rw[ju,ju,List.drop_eq_getElem_cons h,List.reverse_cons,List.flatten_append,getElem!_pos l i h];simp
theorem iB.ctx {g:Nat}{ars:List AV}{h:ab}{P:HR->Prop}(hn:M.ext g ars h=none)(hr:iB M g ars h P):∃v H wr,P ⟨v,H,wr⟩/\CT M (iq g) ars h ⟨v,H,wr⟩:=by
 obtain⟨⟨⟨v,H,wr⟩,h1,h2⟩⟩:=hr;exact⟨v,H,wr,h2,CT.run (fi:=[]) (ca:=[]) (by simpa using hn) (by simpa using h1)⟩
set_option maxRecDepth 100000 in
theorem Lp (C:xE M N){Q:Ex->aq->Prop}(parts:List ao)(hp0:∀x∈parts,x≠[])(hp18:∀x∈parts,x.length<=18)(hlen:parts.length<20000000)(c B:Nat)(hcB:c<B)(pre:ao)(hpre:pre.length<=1)(a0 a1 a2 a3 a4 a5 a7 a8 a9:AV)
 (hQ:∀K lo wr,oG (B+1) K B (pre++parts.reverse.flatten)->B+1<=K.length->Q (.exit 2) ⟨⟨[a0,a1,a2,a3,a4,a5,.sl c 0 parts.length 1 none,a7,a8,a9,.ptr B 0,.iV (-1)],lo,K,[]⟩,wr⟩) :
 ∀(i:Nat) (K:ab) (lo:List (Nat×AV)) (wr:List Nat),i<=parts.length->K.at c=some (.cells (arr jh parts) 9)->oG (B+1) K B (pre++ju parts i)->B+1<=K.length ->
 W M (.loop xC) ⟨⟨[a0,a1,a2,a3,a4,a5,.sl c 0 parts.length 1 none,a7,a8,a9,.ptr B 0,.iV ((i:Int)-1)],lo,K,[]⟩,wr⟩ Q:=by
 have tl:∀i,(ju parts i).length<=18*parts.length:=fun i=>by
  rw[ju,List.length_flatten];have:∀l:List ao,(∀x∈l,x.length<=18)->(l.map List.length).sum<=18*l.length:=by
   intro l;induction l with
   | nil=>intro _;simp
   | cons x l ih=>
    intro h;have h1:=h x (by simp);have h2:=ih fun y hy=>h y (by simp[hy])
    simp only[List.map_cons,List.sum_cons,List.length_cons];omega
  refine Nat.le_trans (this _ fun x hx=>hp18 x (List.mem_of_mem_drop (List.mem_reverse.1 hx))) ?_;simp;omega
 intro i;induction i with
 | zero=>
  intro K lo wr hi hc hB hK;rw[ZL]at hB;refine W.loop ?_;unfold xC;exact gg1
 | succ i ih=>
  intro K lo wr hi hc hB hK;have nE:i<parts.length:=by omega
  have e0:(((i+1:Nat):Int)-1)=(i:Int):=by omega
  rw[e0];have hx0:=hp0 parts[i]! (by rw[getElem!_pos parts i nE];exact List.getElem_mem nE);have hx18:=hp18 parts[i]! (by rw[getElem!_pos parts i nE];exact List.getElem_mem nE);have hal:(pre++ju parts (i+1)).length<900000000:=by
   have:=tl (i+1);rw[List.length_append];omega
  obtain⟨v,H,wr',⟨hv,hB',hk,hw,_⟩,q265⟩:=iB.ctx (C.Dy _ _) (La C.ft C.qH C.oH (B+1) B K (pre++ju parts (i+1)) parts[i]! ⟨by omega,hK⟩ hx0 (by omega) hB);simp only at hv hB' hk hw;subst hv;have hc':H.at c=some (.cells (arr jh parts) 9):=(KY (hk.at' c (by omega) (by omega))).trans hc;have hH:=hk.len;rw[List.append_assoc,←ZM nE]at hB';rw[show parts[i]! = parts[((i:Int)).toNat]! from rfl]at q265;refine W.loop ?_;unfold xC;exact gg5
theorem mN {z:Int}(h:z<0):bQ z=45::aP (ah z).toNat:=by
 rw[bQ,if_pos h];unfold ah;rw[if_pos h]
theorem kA {z:Int}(h:¬z<0):bQ z=aP (ah z).toNat:=by
 rw[bQ,if_neg h];unfold ah;rw[if_neg h]
set_option maxRecDepth 100000 in
theorem ZN (C:xE M N){v:AV}{z:Int}(hv:ay v z)(lz:ah z<wB^N):aT M 224 [v] [] ⟨.str (bQ z),[],[]⟩:=by
 cases hv with
 | small h=>
  have q183:=fun hh=>C.Lk z hh h
  refine bB (by rw[C.ft];exact Le) (by simp) ?_;unfold Dv;simp only[enter];exact gg0
 | @eH σ z w hs ok nr hw hz=>
  have hv:ay (.agg [.iV σ,.vs (aj w) w.length none]) z:=.eH hs ok nr hw hz;obtain⟨x,l,hx,ol,nl,hl,q246⟩:=C.kq _ z hv;have len:=C.len ol nl hl lz;have habs:ah z≠0:=by
   unfold ah;split <;> rcases hs with rfl|rfl <;> omega
  have hl0:l≠[]:=fun e=>by rw[e]at hl;exact habs (by simpa[WV] using hl.symm)
  have hxl:x = .vs (aj l) l.length none:=by
   rcases hx with h|⟨_,h⟩
   . exact h
   . exact absurd h hl0
  subst hxl;have hn0:(ah z).toNat≠0:=by have:=iD (x:=z);omega
  have hcat:=ZD hn0;have hlt:WV wB l<1000000000000000000^(2*N):=by
   rw[hl,Int.pow_mul];refine Int.lt_of_lt_of_le lz ?_;have:∀n:Nat,wB^n<=((1000000000000000000:Int)^2)^n:=by
    intro n;induction n with
    | zero=>decide
    | succ n ih=>
     rw[Int.pow_succ,Int.pow_succ];exact Int.mul_le_mul ih (by decide) (by decide) (Int.pow_nonneg (by decide))
   exact this N
  have hlN:=C.lN;cases w with
  | nil=>simp[WV]at hw
  | cons y w=>
  have pne:=ZE (n:=(ah z).toNat);have p18:=ZF (n:=(ah z).toNat);obtain⟨parts,hparts⟩:∃parts,parts=iK (ah z).toNat:=⟨_,rfl⟩;rw[←hparts]at hcat pne p18;have hltN:(ah z).toNat<1000000000000000000^(2*N):=by
   have h1:=hlt;rw[hl,←Int.toNat_of_nonneg (iD (x:=z))]at h1;obtain⟨n,hn⟩:∃n,n=(ah z).toNat:=⟨_,rfl⟩;obtain⟨m,hm⟩:∃m,m=2*N:=⟨_,rfl⟩;rw[←hn,←hm]at h1 ⊢;have h2:(1000000000000000000:Int)^m=((1000000000000000000^m:Nat):Int):=(Int.natCast_pow 1000000000000000000 m).symm;rw[h2]at h1;exact Int.ofNat_lt.1 h1
  have iQ:parts.length<20000000:=by
   have:=Ld (n:=(ah z).toNat) (k:=2*N) hltN;rw[←hparts]at this;omega
  have dlen:(aP (ah z).toNat).length<500000000:=by
   have:=oC (n:=(ah z).toNat) (k:=18*(2*N)+1) (by
    have h2:=hltN;rw[show (1000000000000000000:Nat)=10^18 by rfl,←Nat.pow_mul]at h2;exact Nat.lt_of_lt_of_le h2 (Nat.pow_le_pow_right (by decide) (by omega))) (by omega)
   omega
  have hpne:parts≠[]:=fun e=>by rw[e]at hcat;exact ky _ hcat.symm
  have lp:=fun (Q:Ex->aq->Prop) a0 a2 a3 a10 a11 c5 K hK a7 a8 a9 lo wr hQ=>ZK C (Q:=Q) a0 a2 a3 a10 a11 c5 (2*N) l [] .ae K a7 a8 a9 lo wr ol nl len hlt (by simp;omega) .nO hK hQ
  rw[hl,←hparts]at lp;refine bB (by rw[C.ft];exact Le) (by simp) ?_;unfold Dv;simp only[enter];by_cases hn:z<0
  . rw[decide_eq_true hn]at q246;rw[mN hn];refine gg6 ?_;refine lp _ _ _ _ _ _ _ _ rfl _ _ _ _ _ (fun p4 o K a7 a8 a9 lo wr ho=>?_);rw[List.nil_append]at ho;rcases ho with ⟨h1,_⟩|⟨c,cp,hc1,rfl,hc,hcap⟩
    . exact absurd h1 hpne
    obtain rfl:cp=none:=hcap.resolve_right fun h=>hpne h.1
    have hcl:=eE hc;have hB0:oG (K.length+1) (K++[some (.cells [.dv,.ae] 269)]) K.length []:=.inl ⟨rfl,bX⟩;obtain⟨v,H,wr',⟨hv',hB',hk,hw',_⟩,q265⟩:=iB.ctx (C.Dy _ _) (La C.ft C.qH C.oH (K.length+1) K.length _ [] [45] ⟨by omega,by rw[List.length_append];exact Nat.le_refl _⟩ (by decide) (by decide) hB0);simp only at hv' hB' hk hw';subst hv';have hc':H.at c=some (.cells (arr jh parts) 9):=(KY (hk.at' c (by omega) (by omega))).trans (bS hc);have hH:=hk.len;simp only[List.length_append,List.length_cons,List.length_nil]at hH;refine gg13 ?_;refine Lp C parts pne p18 iQ c K.length hcl [45] (by decide) _ _ _ _ _ _ _ _ _ (fun K2 lo wr hB2 hK2=>?_) parts.length H _ _ (Nat.le_refl _) hc' (by rw[Lo];exact hB') (by omega);rw[hcat]at hB2;obtain⟨v2,H2,wr2,⟨hv2,_⟩,q266⟩:=iB.ctx (C.Dz _ _) (Lb C.ft (K.length+1) K.length K2 _ hB2 (by simp) (by simp only[List.length_append,List.length_cons,List.length_nil];omega) ⟨by omega,hK2⟩);simp only at hv2;subst hv2;exact gg7
  . rw[decide_eq_false hn]at q246;rw[kA hn];refine gg6 ?_;refine lp _ _ _ _ _ _ _ _ rfl _ _ _ _ _ (fun p4 o K a7 a8 a9 lo wr ho=>?_);rw[List.nil_append]at ho;rcases ho with ⟨h1,_⟩|⟨c,cp,hc1,rfl,hc,hcap⟩
    . exact absurd h1 hpne
    obtain rfl:cp=none:=hcap.resolve_right fun h=>hpne h.1
    have hcl:=eE hc;have hB0:oG (K.length+1) (K++[some (.cells [.dv,.ae] 269)]) K.length []:=.inl ⟨rfl,bX⟩;refine gg12 ?_;refine Lp C parts pne p18 iQ c K.length hcl [] (by decide) _ _ _ _ _ _ _ _ _ (fun K2 lo wr hB2 hK2=>?_) parts.length _ _ _ (Nat.le_refl _) (bS hc) (by rw[Lo];exact hB0) (by rw[List.length_append];exact Nat.le_refl _);rw[hcat]at hB2;obtain⟨v2,H2,wr2,⟨hv2,_⟩,q266⟩:=iB.ctx (C.Dz _ _) (Lb C.ft (K.length+1) K.length K2 _ hB2 (by simp[ky]) (by simp only[List.length_append,List.length_cons,List.length_nil];omega) ⟨by omega,hK2⟩);simp only at hv2;subst hv2;exact gg7
end Go.Ab.Ch1

/-
  Own work: decimal texts of fractions; fractions that are not large.
-/
namespace Go.Ab.Ch1
open Go.Ab.bj
variable {M:ax} {cap:Option Nat} {N N2:Nat}
def ak (q:Rat):ao:=if q.den=1 then bQ q.num else bQ q.num++47::aP q.den
theorem ZO (hft:M.FT=FT){v:AV}{z:Int}(hv:ay v z)(lz:ah z<2^1800)(c262:∀h,M.ext 262 [v] h=some ⟨.iV (cA (ah z)),h,[]⟩):aT M 223 [v] [] ⟨.bool false,[],[]⟩:=by
 have hb:=oe (x:=ah z) (n:=1800) lz iD;obtain⟨s,w,rfl,o,_⟩:=hv.shape;obtain⟨k,hk⟩:∃k,k=cA (ah z):=⟨_,rfl⟩;rw[←hk]at hb c262;refine bB (by rw[hft];exact ZG) (by simp) ?_;unfold Lf;simp only[enter];exact gg2
theorem ZP (hft:M.FT=FT){v:AV}{q:Rat}(hv:bz v q)(l1:ah q.num<2^1800)(l2:(q.den:Int)<2^1800)(c223:∀v z h,ay v z->ah z<2^1800->M.ext 223 [v] h=some ⟨.bool false,h,[]⟩):aT M 175 [v] [] ⟨.bool false,[],[]⟩:=by
 obtain⟨s1,w1,s2,w2,rfl,h1,h2⟩:=hv;have dq:=den_pos (q:=q);have qa:=fun h=>c223 _ _ h h1 l1
 have qb:=fun h=>c223 _ _ h h2 (by rw[cD (by omega)];exact l2)
 refine bB (by rw[hft];exact ZI) (by simp) ?_;unfold Lh;simp only[enter];repeat' first|apply abn|apply aM|apply abp|apply abC|apply abS|(apply afN;rfl)|(apply aej;rfl;rfl)|(apply aco;rfl;rfl;first|exact qa _|exact qb _)|(apply acT;rfl;rfl;rfl)|(apply acY;rfl;rfl;rfl)|(apply abg;rfl;rfl)|(apply acn;rfl;rfl)
 all_goals exact⟨.inr rfl,rfl,_,rfl,rfl,rfl⟩
theorem ZQ (n:Nat):bQ (n:Int)=aP n:=by
 rw[bQ,if_neg (by omega)];rfl
theorem ZR (hft:M.FT=FT){v:AV}{q:Rat}(hv:bz v q)(hb:(bQ q.num).length<1000000000/\(aP q.den).length<1000000000)(mI:∀h,M.ext 201 [v] h=some ⟨.bool (decide (q.den=1)),h,[]⟩)(ca:∀v h,ay v q.num->M.ext 224 [v] h=some ⟨.str (bQ q.num),h,[]⟩)(cb:∀v h,ay v q.den->M.ext 224 [v] h=some ⟨.str (aP q.den),h,[]⟩):aT M 176 [v] [] ⟨.str (ak q),[],[]⟩:=by
 obtain⟨s1,w1,s2,w2,rfl,h1,h2⟩:=hv;have qa:=fun h=>ca _ h h1
 have qb:=fun h=>cb _ h h2
 have h47:([47]:ao).length=1:=rfl;refine bB (by rw[hft];exact ZJ) (by simp) ?_;unfold Li;simp only[enter];by_cases hd:q.den=1
 . rw[decide_eq_true hd]at mI;rw[ak,if_pos hd];repeat' first|(apply aco;rfl;rfl;first|exact qa _|exact qb _)|apply abn|apply aM|apply abp|apply abC|apply abS|apply cd|(apply acL;rfl)|(apply aco;rfl;rfl;first|exact mI _|exact qa _)|(apply acT;rfl;rfl;rfl)|(apply acY;rfl;rfl;rfl)|(apply abg;rfl;rfl)|(apply acn;rfl;rfl)
   all_goals exact⟨.inr rfl,rfl,_,rfl,rfl,rfl⟩
 . rw[decide_eq_false hd]at mI;rw[ak,if_neg hd];obtain⟨x,hx⟩:∃x,x=bQ q.num:=⟨_,rfl⟩;obtain⟨y,hy⟩:∃y,y=aP q.den:=⟨_,rfl⟩;rw[←hx]at qa hb ⊢;rw[←hy]at qb hb ⊢;have hxl:(x++[47]:ao).length=x.length+1:=by simp
   repeat' first|(apply afA;rfl;rfl;(first|(simp only[nca];rfl)|rfl);first|exact qa _|exact qb _)|apply abn|apply aM|apply abp|apply abC|apply abS|apply acQ|apply aet|apply afd|(apply afE;rfl)|(apply aft;rfl;rfl;(first|(simp only[nca];rfl)|rfl))|(apply acS;rfl)|(apply ahn;rfl;rfl;first|omega|(simp only[List.length_append,List.length_cons,List.length_nil];omega)|(simp;omega))|(apply aco;rfl;rfl;first|exact mI _)|(apply acT;rfl;rfl;rfl)|(apply acY;rfl;rfl;rfl)|(apply abg;rfl;rfl)|(apply acn;rfl;rfl)
   all_goals exact⟨.inr rfl,rfl,_,rfl,by simp[aW],rfl⟩
end Go.Ab.Ch1

/-
  Own work: the code of functions: prefixes, cuts, trimmed texts, read integers.
-/
namespace Go.Ab.Ch1
set_option maxRecDepth 1000000
def xF:List AV:=List.replicate 256 (.bool false)
def Lr:an:=zR [⟨.p 2,.mv (.c (.bool false)),none⟩] (zR [zm 5 0,zm 6 1,z2 7 255 5 6,zw 2 7] (.ret))
theorem ZS:FT 212=some ⟨8,[0,1,4],[.var (.p 2)],Lr⟩:=by kernel_rfl
def DB:an:=zR [⟨.p 2,.mv (.c (.bool false)),none⟩] (zR [zm 5 0,zL 6 5,zm 7 1,zL 8 7,zb 9 .geq 6 8,zn 10 9,zg (zm 11 0) 10 true,zg (zm 12 1) 10 true,zg (zL 13 12) 10 true,⟨.l 14,.slice .str 1 (.l 11) none (some (.l 13)) none,some ((.l 10),true)⟩,zg (zm 15 1) 10 true,zg (zb 16 .eql 14 15) 10 true,zp 17 10 16,zw 2 17] (.ret))
theorem ZT:FT 255=some ⟨18,[0,1,4],[.var (.p 2)],DB⟩:=by kernel_rfl
def Ls:an:=zR [⟨.p 2,.mv (.c (.str [])),none⟩] (zR [zm 5 0,zm 6 1,z2 7 258 5 6,zw 2 7] (.ret))
theorem ZU:FT 213=some ⟨8,[0,1,4],[.var (.p 2)],Ls⟩:=by kernel_rfl
def Lt:an:=zR [⟨.p 2,.mv (.c (.str [])),none⟩] (.seq (zR [zm 5 0,zm 6 1,z2 7 255 5 6] (.cond (.l 7) (zR [zm 8 0,zm 9 1,zL 10 9,⟨.l 11,.slice .str 1 (.l 8) (some (.l 10)) none none,none⟩,zw 2 11] (.ret)) (.skip))) (zR [zm 12 0,zw 2 12] (.ret)))
theorem ZV:FT 258=some ⟨13,[0,1,4],[.var (.p 2)],Lt⟩:=by kernel_rfl
def Lu:an:=zR [zi 1 0,⟨.p 2,.mv (.c (.db)),none⟩] (zR [zm 7 0,z1 8 259 7,zn 6 8,ze 9 0 6,ze 10 1 6,zw 3 9,zw 4 10] (.seq (zR [zm 11 4,⟨.l 12,.eq true (.iface false) (.l 11) (.c (.db)),none⟩] (.cond (.l 12) (zR [zm 13 3,zm 14 0,zm 15 4,⟨.l 16,.call (kF 260) [(.c (.str zD9)),(.l 14),(kI 0),(kI 0),(.l 15)],none⟩,zw 1 13,zw 2 16] (.ret)) (.skip))) (zR [zm 17 3,zw 1 17,⟨.p 2,.mv (.c (.db)),none⟩] (.ret))))
theorem ZW:FT 214=some ⟨18,[0,2,3,4,5],[.var (.p 1),.var (.p 2)],Lu⟩:=by kernel_rfl
def xG:an:=zR [zr 50 .lss 11 10] (.seq (.cond (.l 50) (.skip) (.exit 0)) (.seq (.block 1 (zR [⟨.l 51,.dH none 1 (.p 9) (.p 11),none⟩,zd 52 1 51,zw 6 52] (zR [zm 53 6,⟨.l 54,.bin .sub (.l 53) (.c (.int .u8 (48))),none⟩,zw 6 54] (.seq (zR [zm 55 6,⟨.l 56,.bin .gtr (.l 55) (.c (.int .u8 (9))),none⟩] (.cond (.l 56) (zR [⟨.l 57,.qZ 291 (kI 2),none⟩,zi 1 0,zw 2 57] (.ret)) (.skip))) (.region [zm 58 5,zc 59 .mul 58 10,zm 60 6,⟨.l 61,.dF .i64 (.l 60),none⟩,zb 62 .add 59 61,zw 5 62]))))) (.region [zq 63 .add 11 1,zw 11 63])))
def Lv:an:=zR [zi 1 0,⟨.p 2,.mv (.c (.db)),none⟩] (zR [zm 11 0,zL 12 11,zw 3 12] (.seq (zR [⟨.l 13,.mv (.c (.bool false)),none⟩,zg (zm 14 3) 13 true,⟨.l 15,.bin .lss (kI 0) (.l 14),some ((.l 13),true)⟩,zg (zn 16 15) 13 true,zg (zm 17 3) 16 true,zg (zc 18 .lss 17 10) 16 true,zg (zp 19 16 18) 13 true,zp 20 13 19,zn 21 20,⟨.l 22,.mv (.c (.bool true)),some ((.l 21),false)⟩,zg (zm 23 3) 22 true,⟨.l 24,.bin .lss (kI 0) (.l 23),some ((.l 22),true)⟩,zg (zn 25 24) 22 true,zg (zm 26 3) 25 true,zg (zc 27 .lss 26 19) 25 true,zg (zp 28 25 27) 22 true,zg (zp 29 22 28) 21 false,zP 30 21 29] (.cond (.l 30) (zR [zm 31 0,zw 4 31] (.seq (zR [zm 32 0,⟨.l 33,.index (.l 32) (kI 0),none⟩,⟨.l 34,.bin .eql (.l 33) (.c (.int .u8 (45))),none⟩,zn 35 34,zg (zm 36 0) 35 false,⟨.l 37,.index (.l 36) (kI 0),some ((.l 35),false)⟩,⟨.l 38,.bin .eql (.l 37) (.c (.int .u8 (43))),some ((.l 35),false)⟩,zP 39 35 38] (.cond (.l 39) (zR [zm 40 0,⟨.l 41,.slice .str 1 (.l 40) (some (kI 1)) none none,none⟩,zw 0 41] (zR [zm 42 0,zL 43 42,zc 44 .lss 43 1] (.cond (.l 44) (zR [⟨.l 45,.qZ 291 (kI 2),none⟩,zi 1 0,zw 2 45] (.ret)) (.skip)))) (.skip))) (zR [zi 5 0] (.seq (zR [zm 46 0,⟨.p 9,.pg 5 (.l 46),none⟩,⟨.p 10,.len .sl (.p 9),none⟩,zi 11 0] (.block 0 (.loop xG))) (.seq (zR [zm 64 4,⟨.l 65,.index (.l 64) (kI 0),none⟩,⟨.l 66,.bin .eql (.l 65) (.c (.int .u8 (45))),none⟩] (.cond (.l 66) (.region [zm 67 5,⟨.l 68,.un .neg (.l 67),none⟩,zw 5 68]) (.skip))) (zR [zm 69 5,zw 1 69,⟨.p 2,.mv (.c (.db)),none⟩] (.ret))))))) (.skip))) (zR [zm 71 0,⟨.l 72,.call (kF 293) [(.l 71),(kI 10),(kI 0)],none⟩,zn 70 72,ze 73 0 70,ze 74 1 70,zw 7 73,zw 8 74] (zR [zm 75 7,zm 76 8,zw 1 75,zw 2 76] (.ret)))))
theorem ZX:FT 259=some ⟨77,[0,2,3,4,5,6,8,9,10,47,48,49],[.var (.p 1),.var (.p 2)],Lv⟩:=by kernel_rfl
def Lw:an:=zR [⟨.p 2,.mv (.c (.str [])),none⟩,⟨.p 3,.mv (.c (.str [])),none⟩,⟨.p 4,.mv (.c (.bool false)),none⟩] (zR [zm 7 0,zm 8 1,z2 9 208 7 8,ze 10 0 9,ze 11 1 9,ze 12 2 9,zw 2 10,zw 3 11,zw 4 12] (.ret))
theorem ZY:FT 163=some ⟨13,[0,1,4,5,6],[.var (.p 2),.var (.p 3),.var (.p 4)],Lw⟩:=by kernel_rfl
def DC:an:=zR [⟨.p 2,.mv (.c (.str [])),none⟩,⟨.p 3,.mv (.c (.str [])),none⟩,⟨.p 4,.mv (.c (.bool false)),none⟩] (.seq (zR [zm 8 0,zm 9 1,z2 10 256 8 9,zw 5 10] (zR [zm 11 5,zc 12 .geq 11 0] (.cond (.l 12) (.seq (.draw [(zm 13 0,[]),(zm 14 5,[0]),(⟨.l 15,.slice .str 1 (.l 13) none (some (.l 14)) none,none⟩,[]),(zm 16 0,[0,1,2]),(zm 17 5,[0,1,2,3]),(zm 18 1,[0,1,2,3,4]),(zL 19 18,[0,1,2,3,4]),(zb 20 .add 17 19,[0,1,2,3]),(⟨.l 21,.slice .str 1 (.l 16) (some (.l 20)) none none,none⟩,[0,1,2]),(zw 2 15,[3,4,5,6,7,8]),(zw 3 21,[]),(⟨.p 4,.mv (.c (.bool true)),none⟩,[])]) (.ret)) (.skip)))) (zR [zm 22 0,zw 2 22,⟨.p 3,.mv (.c (.str [])),none⟩,⟨.p 4,.mv (.c (.bool false)),none⟩] (.ret)))
theorem ZZ:FT 208=some ⟨23,[0,1,4,5,6,7],[.var (.p 2),.var (.p 3),.var (.p 4)],DC⟩:=by kernel_rfl
def aaa:an:=.seq (zR [zm 57 6,zm 58 7,zb 59 .lss 57 58] (.cond (.l 59) (.skip) (.exit 1))) (.block 2 (.seq (zR [zm 60 0,zm 61 6,⟨.l 62,.index (.l 60) (.l 61),none⟩,zm 63 4,zb 64 .neq 62 63] (.cond (.l 64) (zR [zm 65 0,zm 66 6,zc 67 .add 66 1,zm 68 7,⟨.l 69,.slice .str 1 (.l 65) (some (.l 67)) (some (.l 68)) none,none⟩,zm 70 4,z2 71 282 69 70,zw 9 71] (.seq (zR [zm 72 9,zc 73 .lss 72 0] (.cond (.l 73) (zR [zi 2 (-1)] (.ret)) (.skip))) (.region [zm 74 6,zm 75 9,zc 76 .add 75 1,zb 77 .add 74 76,zw 6 77]))) (.skip))) (.seq (zR [zm 78 0,zm 79 6,zc 80 .add 79 1,⟨.l 81,.index (.l 78) (.l 80),none⟩,zm 82 5,zb 83 .eql 81 82,zn 84 83,zg (zm 85 0) 84 true,zg (zm 86 6) 84 true,zg (zm 87 6) 84 true,zg (zm 88 3) 84 true,zg (zb 89 .add 87 88) 84 true,⟨.l 90,.slice .str 1 (.l 85) (some (.l 86)) (some (.l 89)) none,some ((.l 84),true)⟩,zg (zm 91 1) 84 true,zg (zb 92 .eql 90 91) 84 true,zp 93 84 92] (.cond (.l 93) (zR [zm 94 6,zw 2 94] (.ret)) (.skip))) (zR [zm 95 6,zc 96 .add 95 1,zw 6 96] (zR [zm 97 8,zc 98 .add 97 1,zw 8 98] (.seq (.bad) (.cond (.l 107) (zR [zm 108 0,zm 109 6,⟨.l 110,.slice .str 1 (.l 108) (some (.l 109)) none none,none⟩,zm 111 1,z2 112 283 110 111,zw 10 112] (.seq (zR [zm 113 10,zc 114 .geq 113 0] (.cond (.l 114) (zR [zm 115 10,zm 116 6,zb 117 .add 115 116,zw 2 117] (.ret)) (.skip))) (zR [zi 2 (-1)] (.ret)))) (.seq (.bad) (.cond (.l 132) (zR [zm 133 0,zm 134 6,⟨.l 135,.slice .str 1 (.l 133) (some (.l 134)) none none,none⟩,zm 136 1,z2 137 285 135 136,zw 11 137] (.seq (zR [zm 138 11,zc 139 .lss 138 0] (.cond (.l 139) (zR [zi 2 (-1)] (.ret)) (.skip))) (zR [zm 140 6,zm 141 11,zb 142 .add 140 141,zw 2 142] (.ret)))) (.skip))))))))))
def Lx:an:=zR [zi 2 0] (zR [zm 14 1,zL 15 14,zw 3 15] (.seq (.block 0 (zR [zm 17 3,zc 18 .eql 17 0,zn 19 18,zg (zm 20 1) 19 false,zg (zm 21 0) 19 false,zg (zb 22 .eql 20 21) 19 false,zP 23 19 22,zn 16 23] (.cond (.l 16) (zR [zi 2 0] (.ret)) (zR [zm 25 3,zc 26 .eql 25 1,zn 24 26] (.cond (.l 24) (zR [zm 27 0,zm 28 1,⟨.l 29,.index (.l 28) (kI 0),none⟩,z2 30 282 27 29,zw 2 30] (.ret)) (zR [zm 32 3,zm 33 0,zL 34 33,zb 35 .geq 32 34,zn 31 35] (.cond (.l 31) (zR [zi 2 (-1)] (.ret)) (.seq (.bad) (.cond (.l 36) (zR [zm 45 0,zm 46 1,z2 47 283 45 46,zw 2 47] (.ret)) (.skip)))))))))) (zR [zm 48 1,⟨.l 49,.index (.l 48) (kI 0),none⟩,zw 4 49] (zR [zm 50 1,⟨.l 51,.index (.l 50) (kI 1),none⟩,zw 5 51] (zR [zi 6 0] (zR [zm 52 0,zL 53 52,zm 54 3,zb 55 .sub 53 54,zc 56 .add 55 1,zw 7 56] (zR [zi 8 0] (.seq (.block 1 (.loop aaa)) (zR [zi 2 (-1)] (.ret))))))))))
theorem aab:FT 256=some ⟨143,[0,1,4,5,6,7,8,9,10,11,12,13],[.var (.p 2)],Lx⟩:=by kernel_rfl
def Ly:an:=zR [zi 2 0] (zR [zm 5 0,zm 6 1,z2 7 312 5 6,zw 2 7] (.ret))
theorem aac:FT 282=some ⟨8,[0,1,4],[.var (.p 2)],Ly⟩:=by kernel_rfl
def Lz:an:=zR [⟨.p 2,.mv (.c (.str [])),none⟩,⟨.p 3,.mv (.c (.bool false)),none⟩] (zR [zm 6 0,zm 7 1,z2 8 207 6 7,ze 9 0 8,ze 10 1 8,zw 2 9,zw 3 10] (.ret))
theorem aad:FT 162=some ⟨11,[0,1,4,5],[.var (.p 2),.var (.p 3)],Lz⟩:=by kernel_rfl
def LA:an:=zR [⟨.p 2,.mv (.c (.str [])),none⟩,⟨.p 3,.mv (.c (.bool false)),none⟩] (.seq (zR [zm 6 0,zm 7 1,z2 8 255 6 7,zu 9 8] (.cond (.l 9) (zR [zm 10 0,zw 2 10,⟨.p 3,.mv (.c (.bool false)),none⟩] (.ret)) (.skip))) (zR [zm 11 0,zm 12 1,zL 13 12,⟨.l 14,.slice .str 1 (.l 11) (some (.l 13)) none none,none⟩,zw 2 14,⟨.p 3,.mv (.c (.bool true)),none⟩] (.ret)))
theorem aae:FT 207=some ⟨15,[0,1,4,5],[.var (.p 2),.var (.p 3)],LA⟩:=by kernel_rfl
def LB:an:=zR [⟨.p 1,.mv (.c (.bool false)),none⟩] (zR [zm 3 0,⟨.l 4,.bin .neq (.l 3) (.c (.str [])),none⟩,zn 5 4,zg (zm 6 0) 5 true,⟨.l 7,.call (kF 257) [(.l 6),(.c (.str zD8))],some ((.l 5),true)⟩,⟨.l 8,.bin .eql (.l 7) (.c (.str [])),some ((.l 5),true)⟩,zp 9 5 8,zw 1 9] (.ret))
theorem aaf:FT 209=some ⟨10,[0,2],[.var (.p 1)],LB⟩:=by kernel_rfl
def LC:an:=zR [⟨.p 2,.mv (.c (.str [])),none⟩] (.seq (zR [zm 7 0,⟨.l 8,.bin .eql (.l 7) (.c (.str [])),none⟩,zn 9 8,zg (zm 10 1) 9 false,⟨.l 11,.bin .eql (.l 10) (.c (.str [])),some ((.l 9),false)⟩,zP 12 9 11] (.cond (.l 12) (zR [zm 13 0,zw 2 13] (.ret)) (.skip))) (.seq (zR [zm 14 1,zL 15 14,zc 16 .eql 15 1,zn 17 16,zg (zm 18 1) 17 true,⟨.l 19,.index (.l 18) (kI 0),some ((.l 17),true)⟩,⟨.l 20,.bin .lss (.l 19) (.c (.int .u8 (128))),some ((.l 17),true)⟩,zp 21 17 20] (.cond (.l 21) (.seq (.draw [(zm 22 0,[]),(zm 23 1,[0]),(⟨.l 24,.index (.l 23) (kI 0),none⟩,[0]),(z2 25 287 22 24,[]),(zm 26 1,[0,1,2,3]),(⟨.l 27,.index (.l 26) (kI 0),none⟩,[0,1,2,3]),(z2 28 286 25 27,[]),(zw 2 28,[])]) (.ret)) (.skip))) (.seq (zR [zm 30 1,z1 31 288 30,zn 29 31,ze 32 0 29,ze 33 1 29,⟨.p 3,.alloc 286 xF,none⟩,zs 256 3 32,zw 4 33] (zR [zm 34 4] (.cond (.l 34) (zR [zm 35 0,⟨.l 36,.call (kF 290) [(.l 35),(.p 3)],none⟩,⟨.l 37,.call (kF 289) [(.l 36),(.p 3)],none⟩,zw 2 37] (.ret)) (.skip)))) (zR [zm 38 0,zm 39 1,z2 40 292 38 39,zm 41 1,z2 42 291 40 41,zw 2 42] (.ret)))))
theorem aag:FT 257=some ⟨43,[0,1,4,5,6],[.var (.p 2)],LC⟩:=by kernel_rfl
def aah:an:=.seq (zR [zm 6 3,zm 7 0,zL 8 7,zb 9 .lss 6 8] (.cond (.l 9) (.skip) (.exit 0))) (.seq (.block 1 (zR [zm 12 0,zm 13 3,⟨.l 14,.index (.l 12) (.l 13),none⟩,zw 4 14] (.seq (zR [zm 15 4,⟨.l 16,.bin .geq (.l 15) (.c (.int .u8 (128))),none⟩] (.cond (.l 16) (zR [zt 17 256 1,zs 256 1 17,⟨.p 2,.mv (.c (.bool false)),none⟩] (.ret)) (.skip))) (.region [zm 18 4,⟨.l 19,.dH (some 256) 1 (.p 1) (.l 18),none⟩,⟨.no,.store 1 (.l 19) (.c (.bool true)),none⟩])))) (.region [zm 10 3,zc 11 .add 10 1,zw 3 11]))
def DD:an:=zR [⟨.p 1,.alloc 286 xF,none⟩,⟨.p 2,.mv (.c (.bool false)),none⟩] (.seq (zR [zi 3 0] (.block 0 (.loop aah))) (zR [zt 20 256 1,zs 256 1 20,⟨.p 2,.mv (.c (.bool true)),none⟩] (.ret)))
theorem aai:FT 288=some ⟨21,[0,2,3,4,5],[.cell 256 true (.p 1),.var (.p 2)],DD⟩:=by kernel_rfl
def sY:an:=.seq (zR [zm 5 0,zL 6 5,zc 7 .gtr 6 0] (.cond (.l 7) (.skip) (.exit 0))) (.block 1 (.seq (zR [zm 8 1,zm 9 0,⟨.l 10,.index (.l 9) (kI 0),none⟩,z2 11 314 8 10,zu 12 11] (.cond (.l 12) (.exit 0) (.skip))) (.region [zm 13 0,⟨.l 14,.slice .str 1 (.l 13) (some (kI 1)) none none,none⟩,zw 0 14])))
def LD:an:=zR [⟨.p 2,.mv (.c (.str [])),none⟩] (.seq (.block 0 (.loop sY)) (zR [zm 15 0,zw 2 15] (.ret)))
theorem aaj:FT 289=some ⟨16,[0,1,4],[.var (.p 2)],LD⟩:=by kernel_rfl
def sZ:an:=.seq (zR [zm 5 0,zL 6 5,zc 7 .gtr 6 0] (.cond (.l 7) (.skip) (.exit 0))) (.block 1 (.seq (zR [zm 8 1,zm 9 0,zm 10 0,zL 11 10,zc 12 .sub 11 1,⟨.l 13,.index (.l 9) (.l 12),none⟩,z2 14 314 8 13,zu 15 14] (.cond (.l 15) (.exit 0) (.skip))) (.region [zm 16 0,zm 17 0,zL 18 17,zc 19 .sub 18 1,⟨.l 20,.slice .str 1 (.l 16) none (some (.l 19)) none,none⟩,zw 0 20])))
def LF:an:=zR [⟨.p 2,.mv (.c (.str [])),none⟩] (.seq (.block 0 (.loop sZ)) (zR [zm 21 0,zw 2 21] (.ret)))
theorem aak:FT 290=some ⟨22,[0,1,4],[.var (.p 2)],LF⟩:=by kernel_rfl
def LG:an:=zR [⟨.p 2,.mv (.c (.bool false)),none⟩] (zR [zm 5 0,zm 6 1,⟨.l 7,.jA (.l 5),none⟩,⟨.l 8,.dH (some 256) 1 (.l 7) (.l 6),none⟩,zd 9 1 8,zw 2 9] (.ret))
theorem aal:FT 314=some ⟨10,[0,1,4],[.var (.p 2)],LG⟩:=by kernel_rfl
def LH:an:=zR [⟨.p 1,.mv (.c (.bool false)),none⟩] (zR [zm 3 0,z1 4 209 3,zn 5 4,zg (zm 6 0) 5 true,⟨.l 7,.index (.l 6) (kI 0),some ((.l 5),true)⟩,⟨.l 8,.bin .neq (.l 7) (.c (.int .u8 (48))),some ((.l 5),true)⟩,zg (zn 9 8) 5 true,zg (zm 10 0) 9 false,⟨.l 11,.bin .eql (.l 10) (.c (.str [48])),some ((.l 9),false)⟩,zg (zP 12 9 11) 5 true,zp 13 5 12,zw 1 13] (.ret))
theorem aam:FT 164=some ⟨14,[0,2],[.var (.p 1)],LH⟩:=by kernel_rfl
end Go.Ab.Ch1

/-
  Own work: texts: the first place of a byte, cuts.
-/
namespace Go.Ab.Ch1
open Go.Ab.bj
variable {M:ax} {cap:Option Nat}
theorem aii {t esz n0:Nat}{x i:aO}{l:List aU}{pe:List AV}{lo:List (Nat×AV)}{hp:ab}{df wr:List Nat}{b o:Nat}{k:IntKind}{n:Int}{Q:aq->Prop}(hx:(St.mk pe lo hp df).aa x=some (.ptr b o))(hy:(St.mk pe lo hp df).aa i=some (.int k n))(hb:0<=n/\n<n0)
 (h:WO M l ⟨⟨pe,(t,.ptr b (o+n.toNat*esz))::lo,hp,df⟩,wr⟩ Q):WO M (⟨.l t,.dH (some n0) esz x i,none⟩::l) ⟨⟨pe,lo,hp,df⟩,wr⟩ Q:=
 abg (v:=.ptr b (o+n.toNat*esz)) (by simp[aY,hx,hy,mX,hb]) rfl h
theorem aiv {t:Nat}{x y:aO}{l:List aU}{pe:List AV}{lo:List (Nat×AV)}{hp:ab}{df wr:List Nat}{a b:Int}{Q:aq->Prop}(hx:(St.mk pe lo hp df).aa x=some (.int .u8 a))(hy:(St.mk pe lo hp df).aa y=some (.int .u8 b))(hr:0<=a-b/\a-b<256)
 (h:WO M l ⟨⟨pe,(t,.int .u8 (a-b))::lo,hp,df⟩,wr⟩ Q):WO M (⟨.l t,.bin .sub x y,none⟩::l) ⟨⟨pe,lo,hp,df⟩,wr⟩ Q:=
 abg (v:=.int .u8 (a-b)) (by
  have:IntKind.u8.wrap (a-b)=a-b:=by simp only[IntKind.wrap,IntKind.bits,IntKind.signed];simp;omega
  simp only[aY,hx,hy,cS,if_true,this]) rfl h
def hasB (c:Int)(s:ao):Bool:=s.any (fun b=>decide ((b.toNat:Int)=c))
theorem aan (s:ao)(b:UInt8):decide (0<=firstIdx ⟨s.toArray⟩ b)=hasB b.toNat s:=by
 unfold firstIdx hasB;have hsz:(ByteArray.mk s.toArray).size=s.length:=by simp[ByteArray.size]
 have hg:∀i,i<s.length->(ByteArray.mk s.toArray)[i]! = s[i]! := fun i hi=>by
  have h1:i<(ByteArray.mk s.toArray).size:=by rw[hsz];exact hi
  rw[getElem!_pos (ByteArray.mk s.toArray) i h1,getElem!_pos s i hi];rfl
 cases hf:(List.range (ByteArray.mk s.toArray).size).find? fun i=>(ByteArray.mk s.toArray)[i]! == b with
 | some i=>
  have h1:=List.find?_some hf;have h2:=List.mem_of_find?_eq_some hf;rw[List.mem_range,hsz]at h2;rw[hg i h2]at h1;symm
  simp only[decide_eq_true (show (0:Int)<=(i:Int) by omega)];rw[List.any_eq_true];refine⟨s[i],List.getElem_mem h2,?_⟩;rw[getElem!_pos s i h2]at h1;simp at h1;simp[h1]
 | none=>
  rw[List.find?_eq_none]at hf;symm
  rw[show decide ((0:Int) <= -1)=false from rfl];rw[List.any_eq_false];intro x hx;obtain⟨i,hi,rfl⟩:=List.mem_iff_getElem.1 hx;have:=hf i (by rw[List.mem_range,hsz];exact hi);rw[hg i hi,getElem!_pos s i hi]at this;simp at this;simp only[decide_eq_true_eq];intro e;exact this (UInt8.toNat_inj.1 (by omega))
structure tc (M:ax):Prop where
 ft:M.FT=FT
 LJ:∀ars h,M.ext 256 ars h=none
 LK:∀ars h,M.ext 282 ars h=none
 LL:∀(s:ao) (c:Int) h,M.ext 312 [.str s,.int .u8 c] h=some ⟨.iV (firstIdx ⟨s.toArray⟩ c.toNat.toUInt8),h,[]⟩
theorem aao (b:UInt8):((b.toNat:Int)).toNat.toUInt8=b:=by simp
theorem aap (C:tc M)(s:ao)(b:UInt8)(H:ab):CT M (iq 282) [.str s,.int .u8 b.toNat] H ⟨.iV (firstIdx ⟨s.toArray⟩ b),H,[]⟩:=by
 have hc:=C.LL s b.toNat H;rw[aao]at hc;refine CT.run (C.LK _ _) (nM (by rw[C.ft];exact aac) (by simp) ?_);simp only[List.nil_append,List.append_nil];unfold Ly;simp only[enter];exact gg7
theorem aaq (C:tc M)(s:ao)(b:UInt8)(H:ab):CT M (iq 256) [.str s,.str [b]] H ⟨.iV (firstIdx ⟨s.toArray⟩ b),H,[]⟩:=by
 have hc:=aap C s b H;have hn0:¬(([b]:ao).length:Int)=0:=by simp
 have hn:(([b]:ao).length:Int)=1:=rfl;refine CT.run (C.LJ _ _) (nM (by rw[C.ft];exact aab) (by simp) ?_);simp only[List.nil_append,List.append_nil];unfold Lx;simp only[enter];by_cases hs:([b]:ao)=s
 . subst hs;have e:firstIdx ⟨([b]:ao).toArray⟩ b=0:=by
    have h1:=aan [b] b;have h2:hasB b.toNat [b]=true:=by simp[hasB]
    rw[h2,decide_eq_true_eq]at h1;unfold firstIdx at h1 ⊢;rw[show (ByteArray.mk ([b]:ao).toArray).size=1 from rfl]at h1 ⊢;rw[show List.range 1=[0] from rfl]at h1 ⊢;have h3:((ByteArray.mk ([b]:ao).toArray)[0]! == b)=true:=by
     cases hq:((ByteArray.mk ([b]:ao).toArray)[0]! == b) with
     | true=>rfl
     | false=>simp[hq]at h1
    simp only[List.find?_cons,h3];rfl
   rw[e];exact gg4
 . repeat' first|(apply afz;rfl;rfl;all_goals first|(intro h;exact absurd h hs)|intro _)|apply abn|apply aM|apply abp|apply abC|apply ada|apply abS|apply cd|apply gg|(apply acL;rfl)|(apply acS;rfl)|(apply afN;rfl)|(apply aer;rfl;rfl)|(apply aej;rfl;rfl)|(apply afL;rfl;rfl;first|exact hc)|(apply agh;rfl;rfl;omega)|(apply abg;rfl;rfl)|(apply acn;rfl;rfl)|(intro _;omega)|intro _
   all_goals exact⟨.inr rfl,rfl,rfl,rfl,_,rfl,rfl⟩
def bG (b:UInt8):ao->ao×Option ao
 | []=>([],none)
 | c::s=>if c=b then ([],some s) else (c::(bG b s).1,(bG b s).2)
def mO (b:UInt8):ao->List ao
 | []=>[[]]
 | c::s=>if c=b then []::mO b s else match mO b s with
   | []=>[[c]]
   | x::l=>(c::x)::l
def lH (b:UInt8):ao->Nat
 | []=>0
 | c::s=>(if c=b then 1 else 0)+lH b s
theorem mP {b:UInt8}:∀{s:ao},(bG b s).2=none->(bG b s).1=s/\mO b s=[s]/\lH b s=0
 | [],_=>⟨rfl,rfl,rfl⟩
 | c::s,h=>by
  rw[bG]at h ⊢;by_cases hc:c=b
  . rw[if_pos hc]at h;cases h
  . rw[if_neg hc]at h ⊢;obtain⟨h1,h2,h3⟩:=mP (s:=s) h;refine⟨by simp only;rw[h1],?_,?_⟩
    . rw[mO,if_neg hc,h2]
    . rw[lH,if_neg hc,h3]
theorem qJ {b:UInt8}:∀{s y:ao},(bG b s).2=some y->s=(bG b s).1++b::y/\mO b s=(bG b s).1::mO b y/\lH b s=lH b y+1/\b∉(bG b s).1
 | [],y,h=>by cases h
 | c::s,y,h=>by
  rw[bG]at h ⊢;by_cases hc:c=b
  . rw[if_pos hc]at h ⊢;obtain rfl:s=y:=Option.some.inj h;subst hc;refine⟨rfl,?_,?_,by simp⟩
    . rw[mO,if_pos rfl]
    . rw[lH,if_pos rfl];omega
  . rw[if_neg hc]at h ⊢;obtain⟨h1,h2,h3,h4⟩:=qJ (s:=s) h;refine⟨by simp only[List.cons_append];rw[←h1],?_,?_,?_⟩
    . rw[mO,if_neg hc,h2]
    . rw[lH,if_neg hc,h3];omega
    . simp only[List.mem_cons,not_or];exact⟨fun e=>hc e.symm,h4⟩
theorem aar (s:ao)(b:UInt8):firstIdx ⟨s.toArray⟩ b=if (bG b s).2=none then -1 else ((bG b s).1.length:Int):=by
 have hsz:(ByteArray.mk s.toArray).size=s.length:=by simp[ByteArray.size]
 have hg:∀i,i<s.length->(ByteArray.mk s.toArray)[i]! = s[i]! := fun i hi=>by
  have h1:i<(ByteArray.mk s.toArray).size:=by rw[hsz];exact hi
  rw[getElem!_pos (ByteArray.mk s.toArray) i h1,getElem!_pos s i hi];rfl
 unfold firstIdx;cases hy:(bG b s).2 with
 | none=>
  rw[if_pos rfl];cases hf:(List.range (ByteArray.mk s.toArray).size).find? fun i=>(ByteArray.mk s.toArray)[i]! == b with
  | none=>rfl
  | some i=>
   exfalso;have h1:=List.find?_some hf;have h2:=List.mem_of_find?_eq_some hf;rw[List.mem_range,hsz]at h2;rw[hg i h2,getElem!_pos s i h2]at h1;have hm:b∈s:=by
    have:s[i]=b:=by simpa using h1
    rw[←this];exact List.getElem_mem h2
   have h0:=(mP hy).2.2;have:∀s:ao,b∈s->0<lH b s:=fun s=>by
    induction s with
    | nil=>intro h;cases h
    | cons c s ih=>
     intro h;rw[lH];rcases List.mem_cons.1 h with rfl|h
     . rw[if_pos rfl];omega
     . have:=ih h;omega
   have:=this s hm;omega
 | some y=>
  rw[if_neg (by simp)];obtain⟨h1,_,_,h4⟩:=qJ hy;generalize (bG b s).1=x at h1 h4 ⊢;have hl:x.length<s.length:=by rw[h1];simp
  have hf:((List.range (ByteArray.mk s.toArray).size).find? fun i=>(ByteArray.mk s.toArray)[i]! == b)=some x.length:=by
   rw[hsz,List.find?_range_eq_some];refine⟨?_,by simpa using hl,fun j hj=>?_⟩
   . rw[hg _ hl,getElem!_pos s _ hl];have:s[x.length]? = some b:=by rw[h1];simp
     rw[List.getElem?_eq_getElem hl]at this;simp[Option.some.inj this]
   . rw[hg j (by omega),getElem!_pos s j (by omega)];have:s[j]? = x[j]? := by rw[h1,List.getElem?_append_left hj]
     rw[List.getElem?_eq_getElem (by omega:j<s.length),List.getElem?_eq_getElem hj]at this;rw[Option.some.inj this];have hne:x[j]≠b:=fun e=>h4 (by rw[←e];exact List.getElem_mem hj)
     simp[hne]
  rw[hf]
def iH (b:UInt8)(s:ao):AV:=.au [.str (bG b s).1,.str ((bG b s).2.getD []),.bool (bG b s).2.isSome]
theorem td {b:UInt8}{s y:ao}(h:(bG b s).2=some y):s.length=(bG b s).1.length+1+y.length:=by
 have:=congrArg List.length (qJ h).1;simp only[List.length_append,List.length_cons]at this;omega
theorem DE {b:UInt8}{s y:ao}(h:(bG b s).2=some y):s.take (bG b s).1.length=(bG b s).1:=by
 have e:=(qJ h).1;generalize (bG b s).1=x at e ⊢;rw[e];simp
theorem LM {b:UInt8}{s y:ao}(h:(bG b s).2=some y):s.drop ((bG b s).1.length+1)=y:=by
 have e:=(qJ h).1;generalize (bG b s).1=x at e ⊢;rw[e];simp
theorem aas (n208:∀ars h,M.ext 208 ars h=none)(C:tc M)(s:ao)(b:UInt8)(hl:s.length<1000000)(H:ab):CT M (iq 208) [.str s,.str [b]] H ⟨iH b s,H,[]⟩:=by
 have hc:=aaq C s b H;have hn1:([b]:ao).length=1:=rfl;rw[aar]at hc;refine CT.run (n208 _ _) (nM (by rw[C.ft];exact ZZ) (by simp) ?_);simp only[List.nil_append,List.append_nil];cases hy:(bG b s).2 with
 | none=>
  rw[if_pos hy]at hc;have h1:=(mP hy).1;unfold DC;simp only[enter];refine gg12 ?_;refine⟨.inr rfl,rfl,rfl,rfl,_,rfl,?_⟩;simp only[iH,hy,h1];rfl
 | some y=>
  rw[if_neg (by rw[hy];simp)]at hc;have h1:=td hy;have h2:=DE hy;have h3:=LM hy;generalize hx:(bG b s).1=x at h1 h2 h3 hc;unfold DC;simp only[enter];refine gg16 ?_;refine⟨.inr rfl,rfl,rfl,rfl,_,rfl,?_⟩;simp only[iH,hy,hx];rfl
theorem aat (n208:∀ars h,M.ext 208 ars h=none)(C:tc M)(s:ao)(b:UInt8)(hl:s.length<1000000):aT M 163 [.str s,.str [b]] [] ⟨iH b s,[],[]⟩:=by
 have hc:=aas n208 C s b hl [];unfold iH at hc ⊢;refine bB (by rw[C.ft];exact ZY) (by simp) ?_;unfold Lw;simp only[enter];exact gg1
end Go.Ab.Ch1

/-
  Own work: texts: trimmed by the digits.
-/
namespace Go.Ab.Ch1
open Go.Ab.bj
variable {M:ax} {cap:Option Nat}
@[irreducible] def eL:List AV:=(List.range 256).map fun i=>.bool (xn i)
def mQ:ao:=[48,49,50,51,52,53,54,55,56,57]
set_option maxRecDepth 1000000 in
theorem aau (M:ax):gC (bm M.ext M.inv M.FT 100) (fun _=>some ⟨21,[0,2,3,4,5],[.cell 256 true (.p 1),.var (.p 2)],DD⟩) 288 [.str mQ] []=some ⟨.au [.agg eL,.bool true],[],[]⟩:=by
 kernel_rfl
theorem aav {run:an->aq->Option (Ex×aq)}{F G:FuncId->Option dg}{f:FuncId}(h:F f=G f)(ars:List AV)(hp:ab):gC run F f ars hp=gC run G f ars hp:=by
 simp only[gC,h]
theorem aaw (hft:M.FT=FT):aT M 288 [.str mQ] [] ⟨.au [.agg eL,.bool true],[],[]⟩:=by
 have h2:M.FT 288=(fun _=>some ⟨21,[0,2,3,4,5],[.cell 256 true (.p 1),.var (.p 2)],DD⟩:FuncId->Option dg) 288:=by rw[hft];exact aai
 exact⟨100,(aav h2 _ _).trans (aau M)⟩
structure oI (M:ax):Prop where
 ft:M.FT=FT
 LN:∀ars h,M.ext 314 ars h=none
 LO:∀ars h,M.ext 289 ars h=none
 LP:∀ars h,M.ext 290 ars h=none
 xH:∀h,M.ext 288 [.str mQ] h=some ⟨.au [.agg eL,.bool true],h,[]⟩
theorem aax {c:Nat}(h:c<256):eL[c]? = some (.bool (xn c)):=by
 simp[eL,h]
theorem PW {c:UInt8}:partOf (eL.drop (0+((c.toNat:Int)).toNat*1)) 0 1 false=some (.bool (bI c)):=by
 have hc:c.toNat<256:=c.toNat_lt;rw[HS,Int.toNat_natCast,Nat.zero_add,Nat.mul_one];simp only[partOf,Bool.false_eq_true,if_false];exact aax hc
theorem LR (C:oI M)(c:UInt8){H:ab}{b:Nat}(hb:H.at b=some (.cells eL 286)):CT M (iq 314) [.ptr b 0,.int .u8 c.toNat] H ⟨.bool (bI c),H,[]⟩:=by
 have hc:c.toNat<256:=c.toNat_lt;refine CT.run (C.LN _ _) (nM (by rw[C.ft];exact aal) (by simp) ?_);simp only[List.nil_append,List.append_nil];unfold LG;simp only[enter];exact gg7
def jR (s:ao):ao:=s.dropWhile bI
def iL (s:ao):ao:=(s.reverse.dropWhile bI).reverse
theorem LS (s:ao)(c:UInt8):iL (s++[c])=if bI c then iL s else s++[c]:=by
 unfold iL;rw[List.reverse_append,List.reverse_singleton,List.singleton_append,List.dropWhile_cons];split
 . rfl
 . simp
theorem aay (C:oI M){H:ab}{b:Nat}(hb:H.at b=some (.cells eL 286)){Q:Ex->aq->Prop}:∀(n:Nat) (s:ao) (lo:List (Nat×AV)) (wr:List Nat) (_:wr=[]),s.length=n->n<1000000 ->
 (∀lo,Q (.exit 0) ⟨⟨[.str (iL s),.ptr b 0,.str []],lo,H,[]⟩,[]⟩)->W M (.loop sZ) ⟨⟨[.str s,.ptr b 0,.str []],lo,H,[]⟩,wr⟩ Q:=by
 intro n;induction n with
 | zero=>
  intro s lo wr hw hs hn hQ;subst hw;obtain rfl:s=[]:=List.length_eq_zero_iff.1 hs;have h0:([]:ao).length=0:=rfl;refine W.loop ?_;unfold sZ;exact gg1
 | succ n ih=>
  intro s lo wr hw hs hn hQ;subst hw;rcases List.eq_nil_or_concat s with rfl|⟨t,c,e⟩
  . cases hs
  . rw[List.concat_eq_append]at e;subst e;have hl:(t++[c]).length=t.length+1:=by simp
    have hg:(t++[c])[(((t++[c]).length:Int)-1).toNat]! = c:=by
     rw[show (((t++[c]).length:Int)-1).toNat=t.length by omega,getElem!_pos _ _ (by simp)];simp
    have hc:=LR C c hb;rw[LS]at hQ;cases hd:bI c with
    | true=>
     rw[hd]at hc;rw[if_pos hd]at hQ;refine W.loop ?_;unfold sZ;refine gg12 ?_;refine fv ?_;exact ih t _ _ rfl (by omega) (by omega) hQ
    | false=>
     rw[hd]at hc;rw[if_neg (by rw[hd];simp)]at hQ;refine W.loop ?_;unfold sZ;exact gg1
theorem aaz (C:oI M){H:ab}{b:Nat}(hb:H.at b=some (.cells eL 286))(s:ao)(hl:s.length<1000000):CT M (iq 290) [.str s,.ptr b 0] H ⟨.str (iL s),H,[]⟩:=by
 refine CT.run (C.LP _ _) (nM (by rw[C.ft];exact aak) (by simp) ?_);simp only[List.nil_append,List.append_nil];unfold LF;simp only[enter];refine gg3 ?_;refine aay C hb s.length s _ _ rfl rfl hl fun lo=>?_
 exact gg7
theorem LU (C:oI M){H:ab}{b:Nat}(hb:H.at b=some (.cells eL 286)){Q:Ex->aq->Prop}:∀(s:ao) (lo:List (Nat×AV)) (wr:List Nat) (_:wr=[]),s.length<1000000 ->
 (∀lo,Q (.exit 0) ⟨⟨[.str (jR s),.ptr b 0,.str []],lo,H,[]⟩,[]⟩)->W M (.loop sY) ⟨⟨[.str s,.ptr b 0,.str []],lo,H,[]⟩,wr⟩ Q
 | [],lo,wr,hw,hn,hQ=>by
  subst hw;have h0:([]:ao).length=0:=rfl;refine W.loop ?_;unfold sY;exact gg1
 | c::s,lo,wr,hw,hn,hQ=>by
  subst hw;have hl:(c::s).length=s.length+1:=rfl;have hc:=LR C c hb;have e:jR (c::s)=if bI c then jR s else c::s:=List.dropWhile_cons ..
  rw[e]at hQ;cases hd:bI c with
  | true=>
   rw[hd]at hc;rw[if_pos hd]at hQ;refine W.loop ?_;unfold sY;refine gg12 ?_;refine fv ?_;exact LU C hb s _ _ rfl (by omega) hQ
  | false=>
   rw[hd]at hc;rw[if_neg (by rw[hd];simp)]at hQ;refine W.loop ?_;unfold sY;exact gg1
theorem aaA (C:oI M){H:ab}{b:Nat}(hb:H.at b=some (.cells eL 286))(s:ao)(hl:s.length<1000000):CT M (iq 289) [.str s,.ptr b 0] H ⟨.str (jR s),H,[]⟩:=by
 refine CT.run (C.LO _ _) (nM (by rw[C.ft];exact aaj) (by simp) ?_);simp only[List.nil_append,List.append_nil];unfold LD;simp only[enter];refine gg3 ?_;refine LU C hb s _ _ rfl hl fun lo=>?_
 exact gg7
theorem LV {p:UInt8->Bool}:∀s:ao,(s.dropWhile p).length<=s.length
 | []=>Nat.le_refl _
 | c::s=>by
  rw[List.dropWhile_cons];have:=LV (p:=p) s;split
  . rw[List.length_cons];omega
  . exact Nat.le_refl _
theorem aaB (s:ao):(iL s).length<=s.length:=by
 unfold iL;have:=LV (p:=bI) s.reverse;simpa using this
theorem LW:eL.length=256:=by simp[eL]
theorem aaC:eL.all cV=true:=by
 simp only[eL,List.all_map,List.all_eq_true];intro x _;rfl
theorem aaD {a b:List AV}(h:a.length=b.length):overwrite a 0 b=b:=by
 unfold overwrite;rw[List.take_zero,List.nil_append,List.drop_of_length_le (by omega),List.append_nil]
theorem LX:xF.length=256:=by kernel_rfl
theorem aaE:overwrite xF 0 eL=eL:=aaD (by rw[LW,LX])
theorem aaF (C:oI M)(s:ao)(hl:s.length<1000000):aT M 257 [.str s,.str mQ] [] ⟨.str (jR (iL s)),[],[]⟩:=by
 have hD:mQ.length=10:=rfl;have hT:=aaB s;have xH:=C.xH [];have hb:ab.at [some (.cells eL 286)] 0=some (.cells eL 286):=rfl;have q1:=aaz C hb s hl;have q2:=aaA C hb (iL s) (by omega);refine bB (by rw[C.ft];exact aag) (by simp) ?_;unfold LC;simp only[enter];by_cases h0:s=[]
 . subst h0;exact gg1
 . repeat' first|(apply afz;rfl;rfl;(intro h;first|exact absurd h h0|exact absurd h (by decide));intro _)|apply abn|apply aM|apply abp|apply abC|apply abS|apply acQ|apply cd|(apply acL;rfl)|(apply acS;rfl)|(apply afN;rfl)|(apply afP;rfl)|(apply aer;rfl;rfl)|(apply aej;rfl;rfl)|(apply aco;rfl;rfl;first|exact xH)|(apply adi (c':=eL);rfl;rfl;rfl;exact⟨LW,Nat.le_of_eq ((Nat.zero_add _).trans LX.symm),aaC⟩;exact aaE)|(apply afL;rfl;rfl;first|exact q1|exact q2)|(apply acY;rfl;rfl;rfl)|(apply abg;rfl;rfl)|(apply acn;rfl;rfl)|(intro _;omega)|intro _
   exact⟨.inr rfl,rfl,_,rfl,rfl,rfl⟩
end Go.Ab.Ch1

/-
  Own work: texts: Atoi of few digits.
-/
namespace Go.Ab.Ch1
open Go.Ab.bj
variable {M:ax} {cap:Option Nat}
structure LY (M:ax):Prop where
 ft:M.FT=FT
 aaG:∀ars h,M.ext 259 ars h=none
theorem aaH {s:ao}{i:Nat}(h:i<s.length):(bx s)[i]? = some (.int .u8 (s[i]!).toNat):=by
 rw[bx,List.getElem?_map,List.getElem?_eq_getElem h,getElem!_pos s i h];rfl
theorem aaI {H:ab}{c:Nat}(s:ao)(hb:H.at c=some (.cells (bx s) 5))(hs:s.length<=18)(hd:s.all bI=true)(cp:Option Nat)(a1 a2 a3 a4 a7 a8:AV){Q:Ex->aq->Prop}:∀(r i n:Nat) (a6:AV) (lo:List (Nat×AV)) (wr:List Nat),i+r=s.length->n<10^i ->
 (∀a6 lo,Q (.exit 0) ⟨⟨[.str s,a1,a2,a3,a4,.iV (az n (s.drop i)),a6,a7,a8,.sl c 0 s.length 1 cp,.iV s.length,.iV s.length],lo,H,[]⟩,wr⟩) ->
 W M (.loop xG) ⟨⟨[.str s,a1,a2,a3,a4,.iV n,a6,a7,a8,.sl c 0 s.length 1 cp,.iV s.length,.iV i],lo,H,[]⟩,wr⟩ Q:=by
 intro r;induction r with
 | zero=>
  intro i n a6 lo wr hi hn hQ;obtain rfl:i=s.length:=by omega
  rw[List.drop_length]at hQ;refine W.loop ?_;unfold xG;exact gg9
 | succ r ih=>
  intro i n a6 lo wr hi hn hQ;have hil:i<s.length:=by omega
  have hp:10^i<=10^17:=Nat.pow_le_pow_right (by decide) (by omega);have hg:s[i]! = s[i]:=getElem!_pos s i hil;have hm:=List.all_eq_true.1 hd (s[i]!) (by rw[hg];exact List.getElem_mem hil);have hx:=(kr _).1 hm;rw[List.drop_eq_getElem_cons hil,sP,←hg]at hQ;have hpart:partOf ((bx s).drop (0+((i:Int)).toNat*1)) 0 1 false=some (.int .u8 (s[i]!).toNat):=by
   rw[HS,Int.toNat_natCast,Nat.zero_add,Nat.mul_one];simp only[partOf,Bool.false_eq_true,if_false];exact aaH hil
  refine W.loop ?_;unfold xG;refine gg16 ?_;refine fv ?_;have hpow:10^(i+1)=10*10^i:=by rw[Nat.pow_succ,Nat.mul_comm]
  have e:=ih (i+1) (10*n+((s[i]!).toNat-48));rw[show (((10*n+((s[i]!).toNat-48):Nat):Int))=(n:Int)*10+(((s[i]!).toNat:Int)-48) by omega,show (((i+1:Nat):Int))=(i:Int)+1 by omega]at e;exact e _ _ _ (by omega) (by omega) hQ
theorem aaJ (C:LY M)(s:ao)(h0:s≠[])(hl:s.length<=18)(hd:s.all bI=true)(H:ab):aT M 259 [.str s] H ⟨.au [.iV (az 0 s),.db],H,[]⟩:=by
 have hpos:0<s.length:=List.length_pos_iff.2 h0;have hg:s[0]! = s[0]:=getElem!_pos s 0 hpos;have hx:48<=(s[Int.toNat 0]!).toNat/\(s[Int.toNat 0]!).toNat<58:=(kr _).1 (List.all_eq_true.1 hd (s[0]!) (by rw[hg];exact List.getElem_mem hpos));refine lf (by rw[C.ft];exact ZX) (by simp) (Nat.zero_le _) ?_;unfold Lv;simp only[enter];refine gg12 ?_;refine aaI (H:=H++[some (.cells (bx s) 5)]) (c:=H.length) s bX hl hd none _ _ _ _ _ _ s.length 0 0 _ _ _ (by omega) (by simp) (fun a6 lo=>?_);rw[List.drop_zero];exact gg9
theorem aaK (C:LY M)(s:ao)(h0:s≠[])(hl:s.length<=18)(hd:s.all bI=true):aT M 214 [.str s] [] ⟨.au [.iV (az 0 s),.db],[],[]⟩:=by
 have hc:=CT.run (fi:=[]) (ca:=[]) (ars:=[.str s]) (C.aaG _ _) (aaJ C s h0 hl hd []);refine bB (by rw[C.ft];exact ZW) (by simp) ?_;unfold Lu;simp only[enter];exact gg1
theorem dropWhile_nil {p:UInt8->Bool}:∀l:ao,l.dropWhile p=[]↔∀x∈l,p x=true
 | []=>by simp
 | c::l=>by
  rw[List.dropWhile_cons];split
  . rename_i h;rw[dropWhile_nil l];simp[h]
  . rename_i h;simp[h]
theorem LZ (s:ao):jR (iL s)=[]↔s.all bI=true:=by
 rcases List.eq_nil_or_concat s with rfl|⟨t,c,e⟩
 . simp[jR,iL]
 . rw[List.concat_eq_append]at e;subst e;have hlen:t.length<(t++[c]).length:=by simp
   rw[LS];split
   . rename_i h;rw[LZ t];simp only[List.all_append,List.all_cons,List.all_nil,h,Bool.and_true]
   . rename_i h;unfold jR;rw[dropWhile_nil,List.all_eq_true]
termination_by s.length
decreasing_by subst_vars;simp
end Go.Ab.Ch1

/-
  Own work: texts: prefixes of one byte.
-/
namespace Go.Ab.Ch1
open Go.Ab.bj
variable {M:ax} {cap:Option Nat}
def preB (b:UInt8)(s:ao):Bool:=decide (s.head? = some b)
def bL (b:UInt8)(s:ao):ao:=if s.head? = some b then s.tail else s
theorem qK (b:UInt8)(s:ao):(bL b s).length<=s.length:=by unfold bL;split <;> simp
theorem aaL (hft:M.FT=FT)(s:ao)(b:UInt8)(hl:s.length<1000000):aT M 255 [.str s,.str [b]] [] ⟨.bool (preB b s),[],[]⟩:=by
 have hn1:([b]:ao).length=1:=rfl;refine bB (by rw[hft];exact ZT) (by simp) ?_;cases s with
 | nil=>
  have h0:([]:ao).length=0:=rfl;unfold DB;simp only[enter];exact gg4
 | cons c t=>
  have hcl:(c::t).length=t.length+1:=rfl;have hd:(c::t).take (([b]:ao).length:Int).toNat=[c]:=rfl;have he:preB b (c::t)=decide (c=b):=by simp[preB]
  rw[he];unfold DB;simp only[enter];by_cases hc:c=b
  . subst hc;rw[decide_eq_true rfl];exact gg1
  . rw[decide_eq_false hc];repeat' first|(apply agt;rfl;rfl;omega;exact hd)|(apply afz;rfl;rfl;(intro h;exact absurd (List.cons.inj h).1 hc);intro _)|apply abn|apply aM|apply abp|apply abC|apply abS|(apply aef;rfl)|(apply afM;rfl;rfl)|(apply acZ;rfl;rfl)|(apply abg;rfl;rfl)|(apply acn;rfl;rfl)|(intro _;omega)|intro _
    all_goals try omega
    all_goals exact⟨.inr rfl,rfl,_,rfl,rfl,rfl⟩
theorem aaM (hft:M.FT=FT)(s:ao)(b:UInt8)(q:∀h,M.ext 255 [.str s,.str [b]] h=some ⟨.bool (preB b s),h,[]⟩):aT M 212 [.str s,.str [b]] [] ⟨.bool (preB b s),[],[]⟩:=by
 refine bB (by rw[hft];exact ZS) (by simp) ?_;unfold Lr;simp only[enter];exact gg5
theorem tf {b:UInt8}{s:ao}(h:preB b s=true):s.drop (([b]:ao).length:Int).toNat=bL b s/\1<=s.length:=by
 have h:=of_decide_eq_true h;unfold bL;rw[if_pos h];cases s with
 | nil=>simp at h
 | cons c t=>exact⟨rfl,by simp⟩
theorem jS {b:UInt8}{s:ao}(h:preB b s=false):bL b s=s:=if_neg (of_decide_eq_false h)
theorem aaN (hft:M.FT=FT)(s:ao)(b:UInt8)(hl:s.length<1000000)(q:∀h,M.ext 255 [.str s,.str [b]] h=some ⟨.bool (preB b s),h,[]⟩):aT M 258 [.str s,.str [b]] [] ⟨.str (bL b s),[],[]⟩:=by
 have hn1:([b]:ao).length=1:=rfl;refine bB (by rw[hft];exact ZV) (by simp) ?_;unfold Lt;simp only[enter];cases hp:preB b s with
 | true=>
  rw[hp]at q;obtain⟨h1,h2⟩:=tf hp;exact gg9
 | false=>
  rw[hp]at q;rw[jS hp];exact gg11
theorem aaO (hft:M.FT=FT)(s:ao)(b:UInt8)(q:∀h,M.ext 258 [.str s,.str [b]] h=some ⟨.str (bL b s),h,[]⟩):aT M 213 [.str s,.str [b]] [] ⟨.str (bL b s),[],[]⟩:=by
 refine bB (by rw[hft];exact ZU) (by simp) ?_;unfold Ls;simp only[enter];exact gg5
theorem aaP (hft:M.FT=FT)(s:ao)(b:UInt8)(hl:s.length<1000000)(q:∀h,M.ext 255 [.str s,.str [b]] h=some ⟨.bool (preB b s),h,[]⟩):aT M 207 [.str s,.str [b]] [] ⟨.au [.str (bL b s),.bool (preB b s)],[],[]⟩:=by
 have hn1:([b]:ao).length=1:=rfl;refine bB (by rw[hft];exact aae) (by simp) ?_;unfold LA;simp only[enter];cases hp:preB b s with
 | true=>
  rw[hp]at q;obtain⟨h1,h2⟩:=tf hp;exact gg9
 | false=>
  rw[hp]at q;rw[jS hp];exact gg9
theorem aaQ (hft:M.FT=FT)(s:ao)(b:UInt8)(q:∀h,M.ext 207 [.str s,.str [b]] h=some ⟨.au [.str (bL b s),.bool (preB b s)],h,[]⟩):aT M 162 [.str s,.str [b]] [] ⟨.au [.str (bL b s),.bool (preB b s)],[],[]⟩:=by
 refine bB (by rw[hft];exact aad) (by simp) ?_;unfold Lz;simp only[enter];exact gg5
end Go.Ab.Ch1

/-
  Own work: integers of any size are read.
-/
namespace Go.Ab.Ch1
open Go.Ab.bj
variable {M:ax} {cap:Option Nat} {N N2:Nat}
structure xI (M:ax)(N:Nat):Prop extends CF M N where
 Ma:∀(s:ao) h,s.length<1000000->M.ext 212 [.str s,.str [45]] h=some ⟨.bool (preB 45 s),h,[]⟩
 Mb:∀(s:ao) h,s.length<1000000->M.ext 213 [.str s,.str [45]] h=some ⟨.str (bL 45 s),h,[]⟩
 Mc:∀(s:ao) h,s≠[]->s.length<=18->s.all bI=true->M.ext 214 [.str s] h=some ⟨.au [.iV (az 0 s),.db],h,[]⟩
 Md:∀v A (K:Nat),ay v A->K<=18->K<=N->ah A<=10->∃v0,ay v0 (A^K)/\∀h,M.ext 215 [v,.iV K] h=some ⟨v0,h,[]⟩
theorem xJ (n:Nat):(10:Int)^n<=wB^n:=by
 induction n with
 | zero=>decide
 | succ n ih=>
  rw[Int.pow_succ,Int.pow_succ];exact Int.mul_le_mul ih (by decide) (by decide) (Int.pow_nonneg (by decide))
theorem oJ {s:ao}(h:s.all bI=true)(hl:s.length<=N):ah (az 0 s:Nat)<wB^N:=by
 have h1:=mK s h;rw[cD (by omega)];have h2:(az 0 s:Int)<(10:Int)^s.length:=by exact_mod_cast h1
 exact Int.lt_of_lt_of_le h2 (Int.le_trans (xJ _) (fP (by decide) hl))
theorem Me {s:ao}(h:s.all bI=true)(hl:s.length<=18):az 0 s<1000000000000000000:=
 Nat.lt_of_lt_of_le (mK s h) (Nat.le_trans (Nat.pow_le_pow_right (by decide) hl) (by decide))
def DG (so:Int)(wo:AV):ab:=[some (.cells [.iV 0,.ae] 131),some (.cells [.iV so,wo] 131)]
theorem aaR (C:xI M N){Q:Ex->aq->Prop}(full:ao)(hD:full.all bI=true)(hl:full.length<=N)(a2:AV)
 (hQ:∀so wo a4 a5 lo wr,ay (.agg [.iV so,wo]) (az 0 full:Nat)->Q (.exit 0) ⟨⟨[.str [],.ptr 0 0,a2,.ptr 1 0,a4,a5],lo,DG so wo,[]⟩,wr⟩)
 (a4 a5:AV) (lo:List (Nat×AV)) (wr:List Nat) :
 W M (.loop xD) ⟨⟨[.str full,.ptr 0 0,a2,.ptr 1 0,a4,a5],lo,DG 0 .ae,[]⟩,wr⟩ Q:=by
 have hlN:=C.lN;refine W.fT (fun m st=>∃t dn so wo a4 a5 lo wr,st=⟨⟨[.str t,.ptr 0 0,a2,.ptr 1 0,a4,a5],lo,DG so wo,[]⟩,wr⟩/\t.length=m/\full=dn++t/\ay (.agg [.iV so,wo]) (az 0 dn:Nat))
  (fun m st ⟨t,dn,so,wo,a4,a5,lo,wr,hst,hm,hf,hv⟩=>?_) (m:=full.length) ⟨full,[],0,.ae,a4,a5,lo,wr,rfl,rfl,rfl,.small (by decide)⟩
 subst hst;cases t with
 | nil=>
  rw[List.append_nil]at hf;subst hf;have h0:([]:ao).length=0:=rfl;unfold xD;exact gg10
 | cons c t=>
  obtain⟨t',ht'⟩:∃t',t'=c::t:=⟨_,rfl⟩;rw[←ht']at hm hf ⊢;have hpos:0<t'.length:=by rw[ht'];simp
  have hDt:t'.all bI=true:=by rw[hf,List.all_append,Bool.and_eq_true]at hD;exact hD.2
  have hDd:dn.all bI=true:=by rw[hf,List.all_append,Bool.and_eq_true]at hD;exact hD.1
  have hfl:full.length=dn.length+t'.length:=by rw[hf,List.length_append]
  obtain⟨n,hn,hn1⟩:∃n:Nat,((n:Int)=18/\(18:Int)<=t'.length\/(n:Int)=t'.length/\(t'.length:Int)<=18)/\0<n/\n<=18/\n<=t'.length:=by
   by_cases h:t'.length<=18
   . exact⟨t'.length,.inr ⟨rfl,by omega⟩,by omega,by omega,by omega⟩
   . exact⟨18,.inl ⟨rfl,by omega⟩,by omega,by omega,by omega⟩
  obtain⟨x,y,hxy,hxl⟩:∃x y,t'=x++y/\x.length=n:=⟨t'.take n,t'.drop n,(List.take_append_drop n t').symm,by rw[List.length_take];omega⟩;have hx0:x≠[]:=fun e=>by rw[e]at hxl;simp at hxl;omega
  have hDx:x.all bI=true:=by rw[hxy,List.all_append,Bool.and_eq_true]at hDt;exact hDt.1
  have htk:t'.take (n:Int).toNat=x:=by rw[hxy,Int.toNat_natCast,←hxl,List.take_left]
  have hdr:t'.drop (n:Int).toNat=y:=by rw[hxy,Int.toNat_natCast,←hxl,List.drop_left]
  have hyl:t'.length=n+y.length:=by rw[hxy,List.length_append,hxl]
  have q214:=fun h=>C.Mc x h hx0 (by omega) hDx
  have q168:=C.ot 10;obtain⟨v1,k1,q215⟩:=C.Md (.agg [.iV 10,.ae]) 10 n (.small (by decide)) hn1.2.1 (by omega) (by decide);have b1:=oJ (N:=N) hDd (by omega);have b2:ah ((10:Int)^n)<wB^N:=by
   rw[cD (Int.pow_nonneg (by decide))];have h1:=fP (b:=wB) (by decide) (m:=n) (n:=N) (by omega);have h2:=xJ n;have h3:(10:Int)^n<wB^n:=by
    obtain⟨k,rfl⟩:∃k,n=k+1:=⟨n-1,by omega⟩;have:=xJ k;have p0:(0:Int)<10^k:=Int.pow_pos (by decide);rw[Int.pow_succ,Int.pow_succ];have:(10:Int)^k*10<10^k*wB:=Int.mul_lt_mul_of_pos_left (by decide) p0;have h5:(10:Int)^k*wB<=wB^k*wB:=Int.mul_le_mul_of_nonneg_right (xJ k) (by decide);omega
   omega
  obtain⟨v2,k2,q198⟩:=C.jP _ _ _ _ hv k1 b1 b2;have e2:(az 0 dn:Int)*10^n=((az 0 (dn++List.replicate n 48):Nat):Int):=by
   have:az (az 0 dn) (List.replicate n 48)=az 0 dn*10^n:=by rw[←xB,KJ];simp
   rw[oz,this];push_cast;rfl
  have k2:ay v2 ((az 0 dn:Int)*10^n):=k2;have b3:ah ((az 0 dn:Int)*10^n)<wB^N:=by
   rw[e2];exact oJ (by rw[List.all_append,hDd,←xB,KH];rfl) (by rw[List.length_append,List.length_replicate];omega)
  have hxs:=Me hDx (by omega);have q168b:=C.ot (az 0 x:Nat);obtain⟨v3,k3,q202⟩:=C.qy v2 (.agg [.iV (az 0 x:Nat),.ae]) _ _ k2 (.small (by omega)) b3 (oJ hDx (by omega));have e3:(az 0 dn:Int)*10^n+(az 0 x:Nat)=((az 0 (dn++x):Nat):Int):=by
   rw[oz,xq x (az 0 dn),hxl];push_cast;rfl
  have k3:ay v3 ((az 0 (dn++x):Nat):Int):=by rw[←e3];exact k3
  obtain⟨s3,w3,rfl,o3,_⟩:=k3.shape;unfold xD;repeat' first|(apply aix (m:=(n:Int));rfl;rfl;exact hn)|(apply agt (s:=t') (r:=x);rfl;rfl;omega;exact htk)|(apply agf (s:=t') (r:=y);rfl;rfl;omega;exact hdr)|(apply aco;rfl;rfl;first|exact q214 _|exact q168 _|exact q215 _|exact q198 _|exact q168b _|exact q202 _)|(apply afA;rfl;rfl;(first|(simp only[nca];rfl)|rfl);first|exact q214 _|exact q168 _|exact q215 _|exact q198 _|exact q168b _|exact q202 _)|(apply adi;rfl;rfl;rfl;exact⟨rfl,Nat.le_refl _,by simp[overwrite,dU,fc,o3]⟩;rfl)|apply abn|apply aM|apply abp|apply abC|apply ada|apply acQ|apply dx|apply aet|apply afd|(apply afE;rfl)|(apply aft;rfl;rfl;(first|(simp only[nca];rfl)|rfl))|(apply afI;rfl;(first|(simp only[nca];rfl)|rfl);(first|(simp only[nca];rfl)|rfl))|(apply acL;rfl)|(apply aep;rfl;rfl)|(apply acT;rfl;rfl;rfl)|(apply abg;rfl;rfl)|(apply acn;rfl;rfl)|(intro _;omega)|intro _
  all_goals try omega
  all_goals exact dE ⟨y.length,by omega,y,dn++x,s3,w3,_,_,_,_,rfl,rfl,by rw[hf,hxy,List.append_assoc],k3⟩
theorem aaS (C:xI M N)(s:ao)(hl:s.length<=N)(hD:(bL 45 s).all bI=true):∃v0,ay v0 (if preB 45 s then -(az 0 (bL 45 s):Int) else (az 0 (bL 45 s):Nat))/\cN M 166 [.str s] v0:=by
 have hlN:=C.lN;have q212:=fun h=>C.Ma s h (by omega)
 have q213:=fun h=>C.Mb s h (by omega)
 have hcl:(bL 45 s).length<=N:=Nat.le_trans (qK 45 s) hl;have hb:=oJ (N:=N) hD hcl;obtain⟨v',hh,⟨v0,h0,ho⟩,hr⟩:=gQ (M:=M) (f:=166) (ars:=[.str s]) (P:=fun v hh=>∃v0,ay v0 (if preB 45 s then -(az 0 (bL 45 s):Int) else (az 0 (bL 45 s):Nat))/\fj v hh v0) (by rw[C.ft];exact ZH) (by simp) (by
  unfold Lg;simp only[enter];repeat' first|apply abn|apply aM|apply abp|apply abC|apply ada|(apply aco;rfl;rfl;first|exact q212 _|exact q213 _)|(apply acY;rfl;rfl;rfl)|(apply agF;rfl;rfl;rfl)|(apply abg;rfl;rfl)|(apply acn;rfl;rfl)
  refine aaR C (bL 45 s) hD hcl _ (fun so wo a4 a5 lo wr hv=>?_) _ _ _ _;cases hp:preB 45 s with
  | true=>
   rw[if_pos rfl];obtain⟨v1,k1,q216⟩:=C.lG _ _ hv hb;have k1:ay v1 (-(az 0 (bL 45 s):Int)):=k1;obtain⟨s1,w1,rfl,o1,_⟩:=k1.shape;repeat' first|(apply adi;rfl;rfl;rfl;exact⟨rfl,Nat.le_refl _,by simp[overwrite,dU,fc,o1]⟩;rfl)|apply abn|apply aM|apply abp|apply abC|apply abS|apply cd|apply gh|(apply acL;rfl)|(apply aco;rfl;rfl;first|exact q216 _)|(apply acT;rfl;rfl;rfl)|(apply abg;rfl;rfl)
   exact⟨.inr rfl,rfl,_,rfl,_,k1,k1.out⟩
  | false=>
   rw[if_neg (by decide)];obtain⟨o1,_⟩:=hv.one;repeat' first|(apply adi;rfl;rfl;rfl;exact⟨rfl,Nat.le_refl _,by simp[overwrite,dU,fc,o1]⟩;rfl)|apply abn|apply aM|apply abp|apply abC|apply abS|apply acQ|apply gh|(apply acS;rfl)|(apply acT;rfl;rfl;rfl)|(apply abg;rfl;rfl)
   exact⟨.inr rfl,rfl,_,rfl,_,hv,hv.out⟩)
 exact⟨v0,h0,v',hh,ho,hr⟩
end Go.Ab.Ch1

/-
  Own work: fractions are read.
-/
namespace Go.Ab.Ch1
open Go.Ab.bj
variable {M:ax} {cap:Option Nat} {N N2:Nat}
theorem Mf {s:ao}(h:s.all bI=true){c:UInt8}(hc:¬bI c=true):c∉s:=fun hm=>hc ((List.all_eq_true.1 h) c hm)
theorem Mg (n:Nat){c:UInt8}(hc:¬bI c=true):preB c (aP n)=false:=by
 rw[preB,decide_eq_false_iff_not];intro h;cases hd:aP n with
 | nil=>exact ky n hd
 | cons b t=>
  rw[hd]at h;have hb:b∈aP n:=by rw[hd];simp
  simp at h;exact hc (h ▸ (List.all_eq_true.1 (jt n)) b hb)
theorem aaT (z:Int):preB 45 (bQ z)=decide (z<0)/\bL 45 (bQ z)=aP (ah z).toNat:=by
 by_cases h:z<0
 . rw[mN h,decide_eq_true h];exact⟨rfl,rfl⟩
 . rw[kA h,decide_eq_false h];have:=Mg (ah z).toNat (c:=45) (by decide);exact⟨this,jS this⟩
theorem tg {b:UInt8}:∀{x:ao},b∉x->bG b x=(x,none)
 | [],_=>rfl
 | c::x,h=>by
  have h1:¬c=b:=fun e=>h (by rw[e];simp)
  have h2:b∉x:=fun e=>h (by simp[e])
  rw[bG,if_neg h1,tg h2]
theorem th {b:UInt8}{y:ao}:∀{x:ao},b∉x->bG b (x++b::y)=(x,some y)
 | [],_=>by rw[List.nil_append,bG,if_pos rfl]
 | c::x,h=>by
  have h1:¬c=b:=fun e=>h (by rw[e];simp)
  have h2:b∉x:=fun e=>h (by simp[e])
  rw[List.cons_append,bG,if_neg h1,th h2]
theorem xK (z:Int):(47:UInt8)∉bQ z:=by
 have h:=Mf (jt (ah z).toNat) (c:=47) (by decide);by_cases hz:z<0
 . rw[mN hz];simp[h]
 . rw[kA hz];exact h
theorem aaU (q:Rat):iH 47 (ak q)=if q.den=1 then .au [.str (bQ q.num),.str [],.bool false] else .au [.str (bQ q.num),.str (aP q.den),.bool true]:=by
 unfold iH ak;by_cases h:q.den=1
 . rw[if_pos h,if_pos h,tg (xK _)];rfl
 . rw[if_neg h,if_neg h,th (xK _)];rfl
def Lq (N:Nat)(q:Rat):Prop:=(bQ q.num).length<=N/\(aP q.den).length<=N
structure lI (M:ax)(N:Nat):Prop extends xI M N where
 DH:∀(s:ao) h,s.length<1000000->M.ext 163 [.str s,.str [47]] h=some ⟨iH 47 s,h,[]⟩
 DI:∀(s:ao),s.length<=N->(bL 45 s).all bI=true->∃v0,ay v0 (if preB 45 s then -(az 0 (bL 45 s):Int) else (az 0 (bL 45 s):Nat))/\∀h,M.ext 166 [.str s] h=some ⟨v0,h,[]⟩
theorem lI.Mh (C:lI M N)(z:Int)(hl:(bQ z).length<=N):∃v0,ay v0 z/\∀h,M.ext 166 [.str (bQ z)] h=some ⟨v0,h,[]⟩:=by
 obtain⟨h1,h2⟩:=aaT z;obtain⟨v0,h0,q⟩:=C.DI (bQ z) hl (by rw[h2];exact jt _);refine⟨v0,?_,q⟩;rw[h1,h2,jc]at h0;have ha:=iD (x:=z);have e:((ah z).toNat:Int)=ah z:=Int.toNat_of_nonneg ha;by_cases hz:z<0
 . rw[decide_eq_true hz,if_pos rfl,e]at h0;have e2:ah z = -z:=if_pos hz;rw[e2,Int.neg_neg]at h0;exact h0
 . rw[decide_eq_false hz,if_neg (by decide),e]at h0;have e2:ah z=z:=if_neg hz;rw[e2]at h0;exact h0
theorem lI.aaV (C:lI M N)(n:Nat)(hl:(aP n).length<=N):∃v0,ay v0 (n:Int)/\∀h,M.ext 166 [.str (aP n)] h=some ⟨v0,h,[]⟩:=by
 rw[←ZQ]at hl ⊢;exact C.Mh n hl
theorem mR {q:Rat}(h:Lq N q):(ak q).length<=2*N+1:=by
 unfold ak;split
 . have:=h.1;omega
 . have h1:=h.1;have h2:=h.2;simp;omega
theorem aaW (C:lI M N)(hN:N<=400000){q:Rat}(lq:Lq N q):∃v0,bz v0 q/\cN M 103 [.str (ak q)] v0:=by
 have sl:=mR lq;have q163:=fun h=>C.DH (ak q) h (by omega)
 have cs:=aaU q;rw[cs]at q163;obtain⟨va,ka,qa⟩:=C.Mh q.num lq.1;by_cases hd:q.den=1
 . rw[if_pos hd]at q163;obtain⟨v0,k0,q159⟩:=C.Cy _ _ ka;have k0:bz v0 q:=by
    have:=k0;unfold bz;rw[hd];exact this
   refine⟨v0,k0,cO (by rw[C.ft];exact Lj) (by simp) ?_⟩;have out:=fun hh=>k0.out (hh:=hh)
   obtain⟨s5,w5,s6,w6,rfl,h5,h6⟩:=k0;obtain⟨o5,_⟩:=h5.one;obtain⟨o6,_⟩:=h6.one;unfold Dw;simp only[enter];repeat' first|(apply adi;rfl;rfl;rfl;exact⟨rfl,Nat.le_refl _,by simp[overwrite,dU,fc,o5,o6]⟩;rfl)|apply abn|apply aM|apply abp|apply abC|apply abS|apply cd|(apply acL;rfl)|(apply aco;rfl;rfl;first|exact q163 _|exact qa _|exact q159 _)|(apply acY;rfl;rfl;rfl)|(apply abg;rfl;rfl)|(apply acn;rfl;rfl)
   all_goals exact cI rfl rfl (out _)
 . rw[if_neg hd]at q163;obtain⟨vb,kb,qb⟩:=C.aaV q.den lq.2;obtain⟨s5,w5,rfl,o5,_⟩:=ka.shape;obtain⟨s6,w6,rfl,o6,_⟩:=kb.shape;have k0:bz (.agg [.iV s5,w5,.iV s6,w6]) q:=⟨_,_,_,_,rfl,ka,kb⟩;refine⟨_,k0,cO (by rw[C.ft];exact Lj) (by simp) ?_⟩;have out:=fun hh=>k0.out (hh:=hh)
   unfold Dw;simp only[enter];repeat' first|(apply adi;rfl;rfl;rfl;exact⟨rfl,Nat.le_refl _,by simp[overwrite,dU,fc,o5,o6]⟩;rfl)|apply abn|apply aM|apply abp|apply abC|apply abS|apply acQ|(apply acS;rfl)|(apply aco;rfl;rfl;first|exact q163 _|exact qa _|exact qb _)|(apply acY;rfl;rfl;rfl)|(apply abg;rfl;rfl)|(apply acn;rfl;rfl)
   all_goals exact cI rfl rfl (out _)
end Go.Ab.Ch1

/-
  Own work: the code of functions: numbers: errors, operations.
-/
namespace Go.Ab.Ch1
set_option maxRecDepth 1000000
def Mi:an:=zR [zi 1 0] (zR [zm 12 0,⟨.l 13,.call (kF 162) [(.l 12),(.c (.str [45]))],none⟩,zn 11 13,ze 14 0 11,ze 15 1 11,zw 2 14,zw 3 15] (zR [zm 17 2,⟨.l 18,.call (kF 163) [(.l 17),(.c (.str [47]))],none⟩,zn 16 18,ze 19 0 16,ze 20 1 16,ze 21 2 16,zw 4 19,zw 5 20,zw 6 21] (zR [zm 22 4,z1 23 164 22,zn 24 23,zg (zm 25 3) 24 true,zg (zn 26 25) 24 true,zg (zm 27 4) 26 true,⟨.l 28,.bin .eql (.l 27) (.c (.str [48])),some ((.l 26),true)⟩,zg (zp 29 26 28) 24 true,zg (zu 30 29) 24 true,zp 31 24 30,zw 7 31] (.seq (zR [zm 32 6] (.cond (.l 32) (.region [zm 33 7,zn 34 33,zg (zm 35 5) 34 true,zg (z1 36 164 35) 34 true,zp 37 34 36,zn 38 37,zg (zm 39 5) 38 true,⟨.l 40,.bin .neq (.l 39) (.c (.str [48])),some ((.l 38),true)⟩,zp 41 38 40,zn 42 41,zg (zm 43 5) 42 true,⟨.l 44,.bin .neq (.l 43) (.c (.str [49])),some ((.l 42),true)⟩,zp 45 42 44,zw 7 45]) (.skip))) (.seq (zR [zm 46 7,zu 47 46,⟨.l 48,.call (kF 97) [(.l 47),(kI 1)],none⟩,zm 49 4,zL 50 49,zm 51 5,zL 52 51,⟨.l 53,.mm true [(.l 50),(.l 52)],none⟩,zc 54 .gtr 53 600,⟨.l 55,.call (kF 97) [(.l 54),(kI 4)],none⟩,⟨.l 56,.dQ 25 2 1 [.iV (0)] [(0,1,(.l 48)),(1,1,(.l 55))],none⟩,z1 57 96 56,zw 8 57] (zR [zm 58 8,zc 59 .neq 58 0,zn 60 59,zg (zm 61 6) 60 false,zg (zu 62 61) 60 false,zP 63 60 62] (.cond (.l 63) (zR [zm 64 8,zw 1 64] (.ret)) (.skip)))) (zR [zm 65 4,z1 66 166 65,zm 67 5,z1 68 166 67,z2 69 165 66 68,⟨.p 9,.alloc 131 [.iV (0),.ae],none⟩,zs 2 9 69] (.seq (.draw [(zt 70 2 9,[]),(⟨.l 71,.call (kF 168) [(kI 1)],none⟩,[0]),(z2 72 167 70 71,[]),(zc 73 .neq 72 0,[]),(⟨.l 74,.call (kF 97) [(.l 73),(kI 1)],none⟩,[]),(zw 1 74,[])]) (.ret))))))))
theorem aaX:FT 84=some ⟨75,[0,2,3,4,5,6,7,8,9,10],[.var (.p 1)],Mi⟩:=by kernel_rfl
def xL:an:=zR [zr 9 .lss 6 5] (.seq (.cond (.l 9) (.skip) (.exit 0)) (.seq (.block 1 (zR [⟨.l 10,.dH none 1 (.p 4) (.p 6),none⟩,zd 11 1 10,zw 2 11] (zR [zm 12 2,z1 13 84 12,zw 3 13] (zR [zm 14 3,zc 15 .neq 14 0] (.cond (.l 15) (zR [zm 16 3,zw 1 16] (.ret)) (.skip)))))) (.region [zq 17 .add 6 1,zw 6 17])))
def Mj:an:=zR [zi 1 0] (.seq (zR [⟨.p 4,.mv (.p 0),none⟩,⟨.p 5,.len .sl (.p 4),none⟩,zi 6 0] (.block 0 (.loop xL))) (zR [zi 1 0] (.ret)))
theorem aaY:FT 101=some ⟨18,[0,2,4,5,6,7,8],[.var (.p 1)],Mj⟩:=by kernel_rfl
def Mk:an:=zR [zx 1 133 4 0,⟨.p 2,.mv (.c (.str [])),none⟩,zi 3 0] (.seq (zR [zt 4 4 1,z1 5 175 4] (.cond (.l 5) (zR [⟨.p 2,.mv (.c (.str [])),none⟩,zi 3 4] (.ret)) (.skip))) (zR [zt 6 4 1,z1 7 176 6,zw 2 7,zi 3 0] (.ret)))
theorem aaZ:FT 105=some ⟨8,[0,1,2,3],[.var (.p 2),.var (.p 3)],Mk⟩:=by kernel_rfl
def DJ:an:=zR [⟨.p 3,.mv (.c (.str [])),none⟩,zi 4 0] (.seq (zR [zm 9 0,zm 10 1,⟨.l 11,.dQ 75 2 1 [.str []] [(0,1,(.l 9)),(1,1,(.l 10))],none⟩,z1 12 101 11,zw 5 12] (zR [zm 13 5,zc 14 .neq 13 0] (.cond (.l 14) (zR [zm 15 5,⟨.p 3,.mv (.c (.str [])),none⟩,zw 4 15] (.ret)) (.skip)))) (zR [zm 16 2,zm 17 0,z1 18 103 17,zm 19 1,z1 20 103 19,⟨.l 21,.call (.l 16) [(.l 18),(.l 20)],none⟩,z1 22 105 21,ze 23 0 22,ze 24 1 22,zw 3 23,zw 4 24] (.ret)))
theorem Ml:FT 169=some ⟨25,[0,1,2,6,7,8],[.var (.p 3),.var (.p 4)],DJ⟩:=by kernel_rfl
def Mm:an:=zR [⟨.p 2,.mv (.c (.str [])),none⟩,zi 3 0] (zR [zm 6 0,zm 7 1,⟨.l 8,.call (kF 169) [(.l 6),(.l 7),(kF 151)],none⟩,ze 9 0 8,ze 10 1 8,zw 2 9,zw 3 10] (.ret))
theorem aba:FT 85=some ⟨11,[0,1,4,5],[.var (.p 2),.var (.p 3)],Mm⟩:=by kernel_rfl
def Mn:an:=zR [⟨.p 2,.mv (.c (.str [])),none⟩,zi 3 0] (zR [zm 6 0,zm 7 1,⟨.l 8,.call (kF 169) [(.l 6),(.l 7),(kF 149)],none⟩,ze 9 0 8,ze 10 1 8,zw 2 9,zw 3 10] (.ret))
theorem abb:FT 86=some ⟨11,[0,1,4,5],[.var (.p 2),.var (.p 3)],Mn⟩:=by kernel_rfl
def Mo:an:=zR [⟨.p 2,.mv (.c (.str [])),none⟩,zi 3 0] (zR [zm 6 0,zm 7 1,⟨.l 8,.call (kF 169) [(.l 6),(.l 7),(kF 152)],none⟩,ze 9 0 8,ze 10 1 8,zw 2 9,zw 3 10] (.ret))
theorem abc:FT 87=some ⟨11,[0,1,4,5],[.var (.p 2),.var (.p 3)],Mo⟩:=by kernel_rfl
def xM:an:=zR [⟨.p 2,.mv (.c (.str [])),none⟩,zi 3 0] (.seq (zR [zm 7 0,zm 8 1,⟨.l 9,.dQ 75 2 1 [.str []] [(0,1,(.l 7)),(1,1,(.l 8))],none⟩,z1 10 101 9,zm 11 1,⟨.l 12,.bin .eql (.l 11) (.c (.str [48])),none⟩,⟨.l 13,.call (kF 97) [(.l 12),(kI 6)],none⟩,⟨.l 14,.dQ 25 2 1 [.iV (0)] [(0,1,(.l 10)),(1,1,(.l 13))],none⟩,z1 15 96 14,zw 4 15] (zR [zm 16 4,zc 17 .neq 16 0] (.cond (.l 17) (zR [zm 18 4,⟨.p 2,.mv (.c (.str [])),none⟩,zw 3 18] (.ret)) (.skip)))) (zR [zm 19 0,zm 20 1,⟨.l 21,.call (kF 169) [(.l 19),(.l 20),(kF 150)],none⟩,ze 22 0 21,ze 23 1 21,zw 2 22,zw 3 23] (.ret)))
theorem Mp:FT 88=some ⟨24,[0,1,4,5,6],[.var (.p 2),.var (.p 3)],xM⟩:=by kernel_rfl
def DK:an:=zR [zi 2 0,zi 3 0] (.seq (zR [zm 7 0,zm 8 1,⟨.l 9,.dQ 75 2 1 [.str []] [(0,1,(.l 7)),(1,1,(.l 8))],none⟩,z1 10 101 9,zw 4 10] (zR [zm 11 4,zc 12 .neq 11 0] (.cond (.l 12) (zR [zm 13 4,zi 2 0,zw 3 13] (.ret)) (.skip)))) (zR [zm 14 0,z1 15 103 14,zm 16 1,z1 17 103 16,z2 18 148 15 17,zw 2 18,zi 3 0] (.ret)))
theorem Mq:FT 89=some ⟨19,[0,1,4,5,6],[.var (.p 2),.var (.p 3)],DK⟩:=by kernel_rfl
end Go.Ab.Ch1

/-
  Own work: the error of a number.
-/
namespace Go.Ab.Ch1
open Go.Ab.bj
variable {M:ax} {cap:Option Nat} {N N2:Nat}
def dL (s:ao):Bool:=decide (s≠[]) && s.all bI && (decide (s[0]! ≠ 48) || decide (s=[48]))
theorem abd (hft:M.FT=FT)(s:ao)(q257:∀h,M.ext 257 [.str s,.str mQ] h=some ⟨.str (jR (iL s)),h,[]⟩):aT M 209 [.str s] [] ⟨.bool (decide (s≠[]) && s.all bI),[],[]⟩:=by
 refine bB (by rw[hft];exact aaf) (by simp) ?_;unfold LB;simp only[enter];by_cases h0:s=[]
 . rw[decide_eq_false (by simpa using h0),Bool.false_and];exact gg1
 . rw[decide_eq_true h0,Bool.true_and];have ht:=LZ s;cases hd:s.all bI with
   | true=>
    rw[ht.2 hd]at q257;repeat' first|(apply agQ;rfl;rfl;all_goals first|(intro h;exact absurd h h0)|intro _)|apply abn|apply aM|apply abp|apply abC|apply abS|(apply aef;rfl)|(apply acZ;rfl;rfl)|(apply aco;rfl;rfl;first|exact q257 _)|(apply afz;rfl;rfl;all_goals first|(intro h;exact absurd h (by decide))|(intro h;exact absurd rfl h)|(intro h;contradiction)|intro _)|(apply abg;rfl;rfl)|(apply acn;rfl;rfl)
    all_goals exact⟨.inr rfl,rfl,_,rfl,rfl,rfl⟩
   | false=>
    have hne:jR (iL s)≠[]:=fun e=>by rw[ht.1 e]at hd;cases hd
    exact gg9
theorem abe (hft:M.FT=FT)(s:ao)(q209:∀h,M.ext 209 [.str s] h=some ⟨.bool (decide (s≠[]) && s.all bI),h,[]⟩):aT M 164 [.str s] [] ⟨.bool (dL s),[],[]⟩:=by
 refine bB (by rw[hft];exact aam) (by simp) ?_;unfold dL;unfold LH;simp only[enter];cases hb:(decide (s≠[]) && s.all bI) with
 | false=>
  rw[hb]at q209;rw[Bool.false_and];exact gg10
 | true=>
  rw[hb]at q209;rw[Bool.true_and];have hne:s≠[]:=by
   rw[Bool.and_eq_true]at hb;exact of_decide_eq_true hb.1
  have hpos:0<s.length:=List.length_pos_iff.2 hne;by_cases h48:s[0]! = 48
  . rw[decide_eq_false (by simpa using h48),Bool.false_or];have e48:((s[(0:Int).toNat]!).toNat:Int)=48:=by rw[show s[(0:Int).toNat]! = s[0]! from rfl,h48];rfl
    by_cases hs:s=[48]
    . rw[decide_eq_true hs];repeat' first|(apply afz;rfl;rfl;all_goals first|(intro h;exact absurd hs h)|intro _)|apply abn|apply aM|apply abp|apply abC|apply abS|(apply aef;rfl)|(apply afN;rfl)|(apply afl;rfl;rfl)|(apply acZ;rfl;rfl)|(apply aej;rfl;rfl)|(apply aco;rfl;rfl;first|exact q209 _)|(apply agh;rfl;rfl;omega)|(apply abg;rfl;rfl)|(apply acn;rfl;rfl)|(intro _;omega)|intro _
      all_goals try omega
      all_goals exact⟨.inr rfl,rfl,_,rfl,rfl,rfl⟩
    . rw[decide_eq_false hs];repeat' first|(apply afz;rfl;rfl;all_goals first|(intro h;exact absurd h hs)|intro _)|apply abn|apply aM|apply abp|apply abC|apply abS|(apply aef;rfl)|(apply afN;rfl)|(apply afl;rfl;rfl)|(apply acZ;rfl;rfl)|(apply aej;rfl;rfl)|(apply aco;rfl;rfl;first|exact q209 _)|(apply agh;rfl;rfl;omega)|(apply abg;rfl;rfl)|(apply acn;rfl;rfl)|(intro _;omega)|intro _
      all_goals try omega
      all_goals exact⟨.inr rfl,rfl,_,rfl,rfl,rfl⟩
  . rw[decide_eq_true (show s[0]! ≠ 48 from h48),Bool.true_or];have e48:((s[(0:Int).toNat]!).toNat:Int)≠48:=fun e=>h48 (UInt8.toNat_inj.1 (by rw[show s[(0:Int).toNat]! = s[0]! from rfl]at e;have:(48:UInt8).toNat=48:=rfl;omega))
    exact gg0
end Go.Ab.Ch1

/-
  Own work: the error of a number: the whole function.
-/
namespace Go.Ab.Ch1
open Go.Ab.bj
variable {M:ax} {cap:Option Nat} {N N2:Nat}
theorem agY {t:Nat}{x y:aO}{l:List aU}{pe:List AV}{lo:List (Nat×AV)}{hp:ab}{df wr:List Nat}{k:IntKind}{a b:Int}{Q:aq->Prop}{m:Int}(hx:(St.mk pe lo hp df).aa x=some (.int k a))(hy:(St.mk pe lo hp df).aa y=some (.int k b))(hm:m=a/\b<=a\/m=b/\a<=b)
 (h:WO M l ⟨⟨pe,(t,.int k m)::lo,hp,df⟩,wr⟩ Q):WO M (⟨.l t,.mm true [x,y],none⟩::l) ⟨⟨pe,lo,hp,df⟩,wr⟩ Q:=by
 refine abg (v:=.int k m) ?_ rfl h;simp only[aY,St.cL,hx,hy];have e:(if a<b then b else a)=m:=by split <;> omega
 simp[mY,e]
def cQ (s:ao):ao:=(bG 47 (bL 45 s)).1
def dD (s:ao):ao:=(bG 47 (bL 45 s)).2.getD []
def gU (s:ao):Bool:=(bG 47 (bL 45 s)).2.isSome
def jd (s:ao):Bool:=dL (cQ s) && !(preB 45 s && decide (cQ s=[48])) && (!gU s || (dL (dD s) && decide (dD s≠[48]) && decide (dD s≠[49])))
def fM (a b:Nat):Bool:=!(Nat.gcd a b == 1)
def bR (s:ao):Int:=if jd s=false then 1 else if 600<(cQ s).length\/600<(dD s).length then 4 else if gU s=true/\fM (az 0 (cQ s)) (az 0 (dD s))=true then 1 else 0
structure DL (M:ax)(N:Nat):Prop extends lI M N where
 Mr:∀(s:ao) h,s.length<1000000->M.ext 162 [.str s,.str [45]] h=some ⟨.au [.str (bL 45 s),.bool (preB 45 s)],h,[]⟩
 DM:∀(s:ao) h,s.length<1000000->M.ext 164 [.str s] h=some ⟨.bool (dL s),h,[]⟩
 sC:∀a b x y,ay a x->ay b y->ah x<wB^N->ah y<wB^N->∃v0,ay v0 (Int.gcd x y:Nat)/\∀h,M.ext 165 [a,b] h=some ⟨v0,h,[]⟩
 kB:∀t (e:Int) h,M.ext 97 [.bool t,.iV e] h=some ⟨.iV (if t then e else 0),h,[]⟩
 kC:∀v h l,iI h v=some l->l.length<1000->M.ext 96 [v] h=some ⟨.iV (cg l),h,[]⟩
theorem ti {s:ao}(h:dL s=true):s≠[]/\s.all bI=true:=by
 simp only[dL,Bool.and_eq_true,decide_eq_true_eq]at h;exact h.1
theorem abf {s:ao}(h:s.all bI=true):preB 45 s=false:=by
 rw[preB,decide_eq_false_iff_not];intro e;cases s with
 | nil=>simp at e
 | cons c t=>
  simp at e;subst e;simp[List.all_cons]at h;exact absurd h.1 (by decide)
theorem lI.Ms (C:lI M N)(s:ao)(hl:s.length<=N)(h:s.all bI=true):∃v0,ay v0 (az 0 s:Nat)/\∀h,M.ext 166 [.str s] h=some ⟨v0,h,[]⟩:=by
 have hp:=abf h;have hc:=jS hp;obtain⟨v0,h0,q⟩:=C.DI s hl (by rw[hc];exact h);rw[hp,hc]at h0;exact⟨v0,h0,q⟩
theorem tj (b:UInt8)(s:ao):(bG b s).1.length<=s.length:=by
 cases h:(bG b s).2 with
 | none=>rw[(mP h).1];exact Nat.le_refl _
 | some y=>have:=td h;omega
theorem DN (b:UInt8)(s:ao):((bG b s).2.getD []).length<=s.length:=by
 cases h:(bG b s).2 with
 | none=>exact Nat.zero_le _
 | some y=>have:=td h;simp;omega
def qL:an:=
 zR [zm 46 7,
          zu 47 46,
          ⟨(.l 48),.call (kF 97) [(.l 47),(kI 1)],none⟩,
          zm 49 4,
          zL 50 49,
          zm 51 5,
          zL 52 51,
          ⟨(.l 53),.mm true [(.l 50),(.l 52)],none⟩,
          zc 54 .gtr 53 600,
          ⟨(.l 55),.call (kF 97) [(.l 54),(kI 4)],none⟩,
          ⟨(.l 56),.dQ 25 2 1 [.iV (0)] [(0,1,(.l 48)),(1,1,(.l 55))],none⟩,
          z1 57 96 56,
          zw 8 57]
        (
         zR [zm 58 8,
           zc 59 .neq 58 0,
           zn 60 59,
           zg (zm 61 6) 60 false,
           zg (zu 62 61) 60 false,
           zP 63 60 62]
         (
          .cond (.l 63)
          (
           zR [zm 64 8,
             zw 1 64]
           (.ret))
          (.skip)))
def qM:an:=
 zR [zm 65 4,
          z1 66 166 65,
          zm 67 5,
          z1 68 166 67,
          z2 69 165 66 68,
          ⟨(.p 9),.alloc 131 [.iV (0),.ae],none⟩,
          zs 2 9 69]
        (
         .seq (.draw [(zt 70 2 9,[]),
           (⟨(.l 71),.call (kF 168) [(kI 1)],none⟩,[0]),
           (z2 72 167 70 71,[]),
           (zc 73 .neq 72 0,[]),
           (⟨(.l 74),.call (kF 97) [(.l 73),(kI 1)],none⟩,[]),
           (zw 1 74,[])])
         (.ret))
def DO (res:List eM)(r:Int)(e:Ex)(s:aq):Prop:=(e = .normal\/e = .ret)/\s.s.bZ=[]/\∃vs,dh s.s res=some vs/\aW vs = .iV r/\(if (AV.iV r).top<=0 then [] else s.s.hp)=[]
theorem jD {res:List eM}{r r':Int}{e:Ex}{s:aq}{vs:List AV}(he:e = .normal\/e = .ret)(hd:s.s.bZ=[])(hv:dh s.s res=some vs)(ht:aW vs = .iV r')(hr:r'=r):DO res r e s:=by
 subst hr;exact⟨he,hd,vs,hv,ht,rfl⟩
theorem jk (C:DL M N)(hN:600<=N)(F B:Bool)(top bot:ao)(hl:top.length<1000000/\bot.length<1000000)(hd:F=true->top.all bI=true/\(B=true->bot.all bI=true))(a0 a1 a2 a3 a8 a9:AV)(lo:List (Nat×AV))(wr:List Nat) :
 W M (.seq qL qM) ⟨⟨[a0,a1,a2,a3,.str top,.str bot,.bool B,.bool F,a8,a9],lo,[],[]⟩,wr⟩ (DO [.var (.p 1)] (if F=false then 1 else if 600<top.length\/600<bot.length then 4 else if B=true/\fM (az 0 top) (az 0 bot)=true then 1 else 0)):=by
 have t1:∀h,M.ext 97 [.bool true,.iV 1] h=some ⟨.iV 1,h,[]⟩:=fun h=>C.kB true 1 h
 have f1:∀h,M.ext 97 [.bool false,.iV 1] h=some ⟨.iV 0,h,[]⟩:=fun h=>C.kB false 1 h
 have t4:∀h,M.ext 97 [.bool true,.iV 4] h=some ⟨.iV 4,h,[]⟩:=fun h=>C.kB true 4 h
 have f4:∀h,M.ext 97 [.bool false,.iV 4] h=some ⟨.iV 0,h,[]⟩:=fun h=>C.kB false 4 h
 have g14:∀v h,iI h v=some [1,4]->M.ext 96 [v] h=some ⟨.iV 1,h,[]⟩:=fun v h e=>C.kC v h _ e (by decide)
 have g10:∀v h,iI h v=some [1,0]->M.ext 96 [v] h=some ⟨.iV 1,h,[]⟩:=fun v h e=>C.kC v h _ e (by decide)
 have g04:∀v h,iI h v=some [0,4]->M.ext 96 [v] h=some ⟨.iV 4,h,[]⟩:=fun v h e=>C.kC v h _ e (by decide)
 have g00:∀v h,iI h v=some [0,0]->M.ext 96 [v] h=some ⟨.iV 0,h,[]⟩:=fun v h e=>C.kC v h _ e (by decide)
 obtain⟨m,hm⟩:∃m:Int,m=top.length/\(bot.length:Int)<=top.length\/m=bot.length/\(top.length:Int)<=bot.length:=by
  by_cases h:bot.length<=top.length
  . exact⟨_,.inl ⟨rfl,by omega⟩⟩
  . exact⟨_,.inr ⟨rfl,by omega⟩⟩
 cases F with
 | false=>
  rw[if_pos rfl];unfold qL qM;repeat' first|(apply agY (m:=m);rfl;rfl;exact hm)|apply abn|apply aM|apply abp|apply abC|apply abS|apply cd|(apply acL;rfl)|(apply agM;rfl)|(apply aep;rfl;rfl)|(apply afl;rfl;rfl)|(apply acZ;rfl;rfl)|(apply aco;rfl;rfl;first|exact t1 _|exact f1 _|exact t4 _|exact f4 _)|(apply aco;rfl;rfl;first|exact g14 _ _ rfl|exact g10 _ _ rfl)|(apply acT;rfl;rfl;rfl)|(apply abg;rfl;rfl)|(apply acn;rfl;rfl)|(intro _;omega)|intro _
  all_goals try omega
  all_goals exact jD (.inr rfl) rfl rfl rfl rfl
 | true=>
  rw[if_neg (by decide)];by_cases hb:600<top.length\/600<bot.length
  . rw[if_pos hb];unfold qL qM;repeat' first|(apply agY (m:=m);rfl;rfl;exact hm)|apply abn|apply aM|apply abp|apply abC|apply abS|apply cd|(apply acL;rfl)|(apply agM;rfl)|(apply aep;rfl;rfl)|(apply afl;rfl;rfl)|(apply acZ;rfl;rfl)|(apply aco;rfl;rfl;first|exact t1 _|exact f1 _|exact t4 _|exact f4 _)|(apply aco;rfl;rfl;first|exact g04 _ _ rfl|exact g00 _ _ rfl)|(apply acT;rfl;rfl;rfl)|(apply abg;rfl;rfl)|(apply acn;rfl;rfl)|(intro _;omega)|intro _
    all_goals try omega
    all_goals exact jD (.inr rfl) rfl rfl rfl rfl
  . rw[if_neg hb];cases B with
    | false=>
     rw[if_neg (by simp)];unfold qL qM;repeat' first|(apply agY (m:=m);rfl;rfl;exact hm)|apply abn|apply aM|apply abp|apply abC|apply abS|apply cd|(apply acL;rfl)|(apply afN;rfl)|(apply aep;rfl;rfl)|(apply afl;rfl;rfl)|(apply aej;rfl;rfl)|(apply aco;rfl;rfl;first|exact t1 _|exact f1 _|exact t4 _|exact f4 _)|(apply aco;rfl;rfl;first|exact g04 _ _ rfl|exact g00 _ _ rfl)|(apply acT;rfl;rfl;rfl)|(apply abg;rfl;rfl)|(apply acn;rfl;rfl)|(intro _;omega)|intro _
     all_goals try omega
     all_goals exact jD (.inr rfl) rfl rfl rfl rfl
    | true=>
     obtain⟨hta,hba⟩:=hd rfl;have hba:=hba rfl;obtain⟨va,ka,qa⟩:=C.Ms top (by omega) hta;obtain⟨vb,kb,qb⟩:=C.Ms bot (by omega) hba;have la:=oJ (N:=N) hta (by omega);have lb:=oJ (N:=N) hba (by omega);obtain⟨vg,kg,qg⟩:=C.sC va vb _ _ ka kb la lb;obtain⟨g,hg⟩:∃g,g=Nat.gcd (az 0 top) (az 0 bot):=⟨_,rfl⟩;have kg:ay vg (g:Int):=by rw[hg];exact kg
     have lg:ah (g:Int)<wB^N:=by
      rw[cD (by omega)]at la lb ⊢;rw[hg];rcases Nat.eq_zero_or_pos (az 0 top) with h0|h0
      . rw[h0,Nat.gcd_zero_left];exact lb
      . have:=Nat.gcd_le_left (az 0 bot) h0;omega
     have q168:=C.ot 1;have q167:=C.Cz _ (.agg [.iV 1,.ae]) _ 1 kg (.small (by decide)) lg (oJ (s:=[49]) (by decide) (by
                                                                                                                             have:([49]:ao).length=1:=rfl;omega))
     obtain⟨sg,wg,rfl,og,_⟩:=kg.shape;by_cases h1:g=1
     . have hc:fM (az 0 top) (az 0 bot)=false:=by rw[fM,←hg,h1];rfl
       rw[if_neg (by rw[hc];simp)];subst h1;rw[show bh (((1:Nat):Int)-1)=0 by rfl]at q167;unfold qL qM;repeat' first|(apply agY (m:=m);rfl;rfl;exact hm)|(apply aco;rfl;rfl;first|exact q168 _|exact q167 _|exact t1 _|exact f1 _)|(apply afA;rfl;rfl;(first|(simp only[nca];rfl)|rfl);first|exact q168 _|exact q167 _|exact t1 _|exact f1 _)|(apply adi;rfl;rfl;rfl;exact⟨rfl,Nat.le_refl _,by simp[overwrite,dU,fc,og]⟩;rfl)|apply abn|apply aM|apply abp|apply abC|apply abS|apply acQ|apply aet|apply afd|(apply afE;rfl)|(apply aft;rfl;rfl;(first|(simp only[nca];rfl)|rfl))|(apply acS;rfl)|(apply afN;rfl)|(apply aep;rfl;rfl)|(apply afl;rfl;rfl)|(apply aej;rfl;rfl)|(apply aco;rfl;rfl;first|exact t1 _|exact f1 _|exact t4 _|exact f4 _|exact qa _|exact qb _|exact qg _)|(apply aco;rfl;rfl;first|exact g04 _ _ rfl|exact g00 _ _ rfl)|(apply acT;rfl;rfl;rfl)|(apply acY;rfl;rfl;rfl)|(apply abg;rfl;rfl)|(apply acn;rfl;rfl)|(intro _;omega)|intro _
       all_goals try omega
       all_goals exact jD (.inr rfl) rfl rfl rfl rfl
     . have hc:fM (az 0 top) (az 0 bot)=true:=by rw[fM,←hg];simp[h1]
       rw[if_pos ⟨rfl,hc⟩];obtain⟨z,hz⟩:∃z,z=bh ((g:Int)-1):=⟨_,rfl⟩;have z0:z≠0:=by rw[hz];unfold bh;split <;> (first|omega|(split <;> omega))
       rw[←hz]at q167;unfold qL qM;repeat' first|(apply agY (m:=m);rfl;rfl;exact hm)|(apply aco;rfl;rfl;first|exact q168 _|exact q167 _|exact t1 _|exact f1 _)|(apply afA;rfl;rfl;(first|(simp only[nca];rfl)|rfl);first|exact q168 _|exact q167 _|exact t1 _|exact f1 _)|(apply adi;rfl;rfl;rfl;exact⟨rfl,Nat.le_refl _,by simp[overwrite,dU,fc,og]⟩;rfl)|apply abn|apply aM|apply abp|apply abC|apply abS|apply acQ|apply aet|apply afd|(apply afE;rfl)|(apply aft;rfl;rfl;(first|(simp only[nca];rfl)|rfl))|(apply acS;rfl)|(apply afN;rfl)|(apply aep;rfl;rfl)|(apply afl;rfl;rfl)|(apply aej;rfl;rfl)|(apply aco;rfl;rfl;first|exact t1 _|exact f1 _|exact t4 _|exact f4 _|exact qa _|exact qb _|exact qg _)|(apply aco;rfl;rfl;first|exact g04 _ _ rfl|exact g00 _ _ rfl)|(apply acT;rfl;rfl;rfl)|(apply acY;rfl;rfl;rfl)|(apply abg;rfl;rfl)|(apply acn;rfl;rfl)|(intro _;omega)|intro _
       all_goals try omega
       all_goals exact jD (.inr rfl) rfl rfl rfl rfl
theorem w84 (C:DL M N)(hN:600<=N)(s:ao)(hl:s.length<1000000):aT M 84 [.str s] [] ⟨.iV (bR s),[],[]⟩:=by
 have hcl:=qK 45 s;have htl:(cQ s).length<=s.length:=Nat.le_trans (tj 47 _) hcl;have hbl:(dD s).length<=s.length:=Nat.le_trans (DN 47 _) hcl;have q162:=fun h=>C.Mr s h hl
 have q163:=fun h=>C.DH (bL 45 s) h (by omega)
 have ecut:iH 47 (bL 45 s) = .au [.str (cQ s),.str (dD s),.bool (gU s)]:=rfl;rw[ecut]at q163;have q164a:=fun h=>C.DM (cQ s) h (by omega)
 have q164b:=fun h=>C.DM (dD s) h (by omega)
 have hform:jd s=(dL (cQ s) && !(preB 45 s && decide (cQ s=[48])) && (!gU s || (dL (dD s) && decide (dD s≠[48]) && decide (dD s≠[49])))):=rfl;have hchk:bR s=if jd s=false then 1 else if 600<(cQ s).length\/600<(dD s).length then 4 else if gU s=true/\fM (az 0 (cQ s)) (az 0 (dD s))=true then 1 else 0:=rfl
 have dA:=fun h=>(ti (s:=cQ s) h).2
 have dC:=fun h=>(ti (s:=dD s) h).2
 rw[hchk];clear hchk ecut;refine bB (by rw[C.ft];exact aaX) (by simp) ?_;generalize cQ s=top at *
 generalize dD s=bot at *
 generalize jd s=F at *
 generalize gU s=B at *
 generalize preB 45 s=P at *
 have ll:top.length<1000000/\bot.length<1000000:=⟨by omega,by omega⟩;unfold Mi;simp only[enter];cases hA:dL top with
 | false=>
  rw[hA]at q164a hform;simp only[Bool.false_and]at hform;subst hform;cases B;all_goals
  . exact gg10
 | true=>
  rw[hA]at q164a hform;simp only[Bool.true_and]at hform;have dA:=dA hA;by_cases hz:P=true/\top=[48]
  . obtain⟨rfl,hz⟩:=hz;rw[decide_eq_true hz]at hform;simp only[Bool.and_self,Bool.not_true,Bool.false_and]at hform;subst hform;cases B;all_goals
    . repeat' first|(exact jk C hN _ _ top bot ll (fun h=>by cases h) _ _ _ _ _ _ _ _)|(apply afz;rfl;rfl;all_goals first|(intro h;exact absurd hz h)|intro _)|apply abn|apply aM|apply abp|apply abC|apply acQ|(apply acL;rfl)|(apply acS;rfl)|(apply aef;rfl)|(apply afP;rfl)|(apply acZ;rfl;rfl)|(apply aej;rfl;rfl)|(apply aco;rfl;rfl;first|exact q162 _|exact q163 _|exact q164a _)|(apply abg;rfl;rfl)|(apply acn;rfl;rfl)
  . have hpz:(P && decide (top=[48]))=false:=by
     cases P with
     | false=>rfl
     | true=>rw[decide_eq_false (fun e=>hz ⟨rfl,e⟩)];rfl
    rw[hpz]at hform;simp only[Bool.not_false,Bool.true_and]at hform;cases B with
    | false=>
     simp only[Bool.not_false,Bool.true_or]at hform;subst hform;cases P with
     | false=>
      repeat' first|(exact jk C hN _ _ top bot ll (fun _=>⟨dA,fun h=>by cases h⟩) _ _ _ _ _ _ _ _)|apply abn|apply aM|apply abp|apply abC|apply acQ|(apply acS;rfl)|(apply aef;rfl)|(apply afP;rfl)|(apply acZ;rfl;rfl)|(apply aej;rfl;rfl)|(apply aco;rfl;rfl;first|exact q162 _|exact q163 _|exact q164a _)|(apply abg;rfl;rfl)|(apply acn;rfl;rfl)
     | true=>
      have hz:¬top=[48]:=fun e=>hz ⟨rfl,e⟩
      repeat' first|(exact jk C hN _ _ top bot ll (fun _=>⟨dA,fun h=>by cases h⟩) _ _ _ _ _ _ _ _)|(apply afz;rfl;rfl;all_goals first|(intro h;exact absurd h hz)|intro _)|apply abn|apply aM|apply abp|apply abC|apply acQ|(apply acS;rfl)|(apply aef;rfl)|(apply acZ;rfl;rfl)|(apply aco;rfl;rfl;first|exact q162 _|exact q163 _|exact q164a _)|(apply abg;rfl;rfl)|(apply acn;rfl;rfl)
    | true=>
     simp only[Bool.not_true,Bool.false_or]at hform;cases hC:dL bot with
     | false=>
      rw[hC]at q164b hform;simp only[Bool.false_and]at hform;subst hform;cases P with
      | false=>
       repeat' first|(exact jk C hN _ _ top bot ll (fun h=>by cases h) _ _ _ _ _ _ _ _)|apply abn|apply aM|apply abp|apply abC|(apply acL;rfl)|(apply aef;rfl)|(apply afP;rfl)|(apply acZ;rfl;rfl)|(apply aej;rfl;rfl)|(apply aco;rfl;rfl;first|exact q162 _|exact q163 _|exact q164a _|exact q164b _)|(apply abg;rfl;rfl)|(apply acn;rfl;rfl)
      | true=>
       have hz:¬top=[48]:=fun e=>hz ⟨rfl,e⟩
       repeat' first|(exact jk C hN _ _ top bot ll (fun h=>by cases h) _ _ _ _ _ _ _ _)|(apply afz;rfl;rfl;all_goals first|(intro h;exact absurd h hz)|intro _)|apply abn|apply aM|apply abp|apply abC|(apply acL;rfl)|(apply aef;rfl)|(apply afP;rfl)|(apply acZ;rfl;rfl)|(apply aej;rfl;rfl)|(apply aco;rfl;rfl;first|exact q162 _|exact q163 _|exact q164a _|exact q164b _)|(apply abg;rfl;rfl)|(apply acn;rfl;rfl)
     | true=>
      rw[hC]at q164b hform;simp only[Bool.true_and]at hform;have dC:=dC hC;by_cases h48:bot=[48]
      . rw[decide_eq_false (show ¬bot≠[48] from fun h=>h h48)]at hform;simp only[Bool.false_and]at hform;subst hform;cases P with
        | false=>
         repeat' first|(exact jk C hN _ _ top bot ll (fun h=>by cases h) _ _ _ _ _ _ _ _)|(apply agQ;rfl;rfl;all_goals first|(intro h;exact absurd h48 h)|intro _)|apply abn|apply aM|apply abp|apply abC|(apply acL;rfl)|(apply aef;rfl)|(apply afP;rfl)|(apply acZ;rfl;rfl)|(apply aej;rfl;rfl)|(apply aco;rfl;rfl;first|exact q162 _|exact q163 _|exact q164a _|exact q164b _)|(apply abg;rfl;rfl)|(apply acn;rfl;rfl)
        | true=>
         have hz:¬top=[48]:=fun e=>hz ⟨rfl,e⟩
         repeat' first|(exact jk C hN _ _ top bot ll (fun h=>by cases h) _ _ _ _ _ _ _ _)|(apply afz;rfl;rfl;all_goals first|(intro h;exact absurd h hz)|intro _)|(apply agQ;rfl;rfl;all_goals first|(intro h;exact absurd h48 h)|intro _)|apply abn|apply aM|apply abp|apply abC|(apply acL;rfl)|(apply aef;rfl)|(apply afP;rfl)|(apply acZ;rfl;rfl)|(apply aej;rfl;rfl)|(apply aco;rfl;rfl;first|exact q162 _|exact q163 _|exact q164a _|exact q164b _)|(apply abg;rfl;rfl)|(apply acn;rfl;rfl)
      . rw[decide_eq_true (show bot≠[48] from h48)]at hform;simp only[Bool.true_and]at hform;by_cases h49:bot=[49]
        . rw[decide_eq_false (show ¬bot≠[49] from fun h=>h h49)]at hform;subst hform;cases P with
          | false=>
           repeat' first|(exact jk C hN _ _ top bot ll (fun h=>by cases h) _ _ _ _ _ _ _ _)|(apply agQ;rfl;rfl;all_goals first|(intro h;exact absurd h h48)|(intro h;exact absurd h49 h)|intro _)|apply abn|apply aM|apply abp|apply abC|(apply acL;rfl)|(apply aef;rfl)|(apply afP;rfl)|(apply acZ;rfl;rfl)|(apply aej;rfl;rfl)|(apply aco;rfl;rfl;first|exact q162 _|exact q163 _|exact q164a _|exact q164b _)|(apply abg;rfl;rfl)|(apply acn;rfl;rfl)
          | true=>
           have hz:¬top=[48]:=fun e=>hz ⟨rfl,e⟩
           repeat' first|(exact jk C hN _ _ top bot ll (fun h=>by cases h) _ _ _ _ _ _ _ _)|(apply afz;rfl;rfl;all_goals first|(intro h;exact absurd h hz)|intro _)|(apply agQ;rfl;rfl;all_goals first|(intro h;exact absurd h h48)|(intro h;exact absurd h49 h)|intro _)|apply abn|apply aM|apply abp|apply abC|(apply acL;rfl)|(apply aef;rfl)|(apply acZ;rfl;rfl)|(apply aco;rfl;rfl;first|exact q162 _|exact q163 _|exact q164a _|exact q164b _)|(apply abg;rfl;rfl)|(apply acn;rfl;rfl)
        . rw[decide_eq_true (show bot≠[49] from h49)]at hform;subst hform;cases P with
          | false=>
           repeat' first|(exact jk C hN _ _ top bot ll (fun _=>⟨dA,fun _=>dC⟩) _ _ _ _ _ _ _ _)|(apply agQ;rfl;rfl;all_goals first|(intro h;exact absurd h h48)|(intro h;exact absurd h h49)|intro _)|apply abn|apply aM|apply abp|apply abC|(apply acL;rfl)|(apply aef;rfl)|(apply afP;rfl)|(apply acZ;rfl;rfl)|(apply aej;rfl;rfl)|(apply aco;rfl;rfl;first|exact q162 _|exact q163 _|exact q164a _|exact q164b _)|(apply abg;rfl;rfl)|(apply acn;rfl;rfl)
          | true=>
           have hz:¬top=[48]:=fun e=>hz ⟨rfl,e⟩
           repeat' first|(exact jk C hN _ _ top bot ll (fun _=>⟨dA,fun _=>dC⟩) _ _ _ _ _ _ _ _)|(apply afz;rfl;rfl;all_goals first|(intro h;exact absurd h hz)|intro _)|(apply agQ;rfl;rfl;all_goals first|(intro h;exact absurd h h48)|(intro h;exact absurd h h49)|intro _)|apply abn|apply aM|apply abp|apply abC|(apply acL;rfl)|(apply aef;rfl)|(apply acZ;rfl;rfl)|(apply aco;rfl;rfl;first|exact q162 _|exact q163 _|exact q164a _|exact q164b _)|(apply abg;rfl;rfl)|(apply acn;rfl;rfl)
end Go.Ab.Ch1

/-
  Own work: operations on numbers as texts.
-/
namespace Go.Ab.Ch1
open Go.Ab.bj
variable {M:ax} {cap:Option Nat} {N N2:Nat}
theorem iw {h:ab}{b:Nat}{a c:AV}{e:TypeId}{cp:Option Nat}(ha:pS a=true)(hc:pS c=true)(hb:h.at b=some (.cells [a,c] e)):cZ h (.sl b 0 2 1 cp) (.vs [a,c] 2 none):=
 .sl (m:=[a,c]) hb rfl rfl fun i x y hx hy=>by
  match i,hx,hy with
  | 0,hx,hy=>cases hx;cases hy;exact .atom ha
  | 1,hx,hy=>cases hx;cases hy;exact .atom hc
theorem abh (hft:M.FT=FT)(a b:ao)(ea eb:Int)(q84a:∀h,M.ext 84 [.str a] h=some ⟨.iV ea,h,[]⟩)(q84b:∀h,M.ext 84 [.str b] h=some ⟨.iV eb,h,[]⟩):aT M 101 [.vs [.str a,.str b] 2 cap] [] ⟨.iV (cg [ea,eb]),[],[]⟩:=by
 refine bB (by rw[hft];exact aaY) (by simp) ?_;unfold Mj;simp only[enter];by_cases ha:ea=0
 . rw[show cg [ea,eb]=cg [eb] by simp[cg,ha]];by_cases hb:eb=0
   . rw[show cg [eb]=0 by simp[cg,hb]];refine gg3 ?_;refine W.loop ?_;unfold xL;refine gg6 ?_;refine fv (W.loop ?_);refine gg6 ?_;refine fv (W.loop ?_);exact gg9
   . rw[show cg [eb]=eb by simp[cg,hb]];refine gg3 ?_;refine W.loop ?_;unfold xL;refine gg6 ?_;refine fv (W.loop ?_);exact gg0
 . rw[show cg [ea,eb]=ea by simp[cg,ha]];refine gg3 ?_;refine W.loop ?_;unfold xL;exact gg0
theorem abi (hft:M.FT=FT){v:AV}{q:Rat}(hv:bz v q)(q175:∀h,M.ext 175 [v] h=some ⟨.bool false,h,[]⟩)(q176:∀h,M.ext 176 [v] h=some ⟨.str (ak q),h,[]⟩):aT M 105 [v] [] ⟨.au [.str (ak q),.iV 0],[],[]⟩:=by
 obtain⟨s1,w1,s2,w2,rfl,h1,h2⟩:=hv;refine bB (by rw[hft];exact aaZ) (by simp) ?_;unfold Mk;simp only[enter];exact gg0
structure oK (M:ax)(N:Nat):Prop where
 ft:M.FT=FT
 lJ:∀v h a b,cZ h v (.vs [.str a,.str b] 2 none)->a.length<1000000->b.length<1000000->M.ext 101 [v] h=some ⟨.iV (cg [bR a,bR b]),h,[]⟩
 oM:∀q,Lq N q->∃v0,bz v0 q/\∀h,M.ext 103 [.str (ak q)] h=some ⟨v0,h,[]⟩
structure abj (M:ax)(g:Nat)(p q r:Rat):Prop where
 op:∀va vb,bz va p->bz vb q->∃v0,bz v0 r/\(∀h,M.ext g [va,vb] h=some ⟨v0,h,[]⟩)/\∀h,M.ext 105 [v0] h=some ⟨.au [.str (ak r),.iV 0],h,[]⟩
theorem abk (C:oK M N)(hN:N<=400000){g:Nat}{p q r:Rat}(lp:Lq N p)(lq:Lq N q)(hp:bR (ak p)=0)(hq:bR (ak q)=0)(T:abj M g p q r):aT M 169 [.str (ak p),.str (ak q),.fn (.func g) [] []] [] ⟨.au [.str (ak r),.iV 0],[],[]⟩:=by
 have l1:=mR lp;have l2:=mR lq;have q101:=fun v h hf=>C.lJ v h (ak p) (ak q) hf (by omega) (by omega)
 rw[hp,hq,show cg [0,0]=0 by rfl]at q101;obtain⟨va,ka,qa⟩:=C.oM p lp;obtain⟨vb,kb,qb⟩:=C.oM q lq;obtain⟨v0,k0,qo,qt⟩:=T.op va vb ka kb;refine bB (by rw[C.ft];exact Ml) (by simp) ?_;unfold DJ;simp only[enter];exact gg2
theorem abl (C:oK M N)(g:AV)(a b:ao)(ha:a.length<1000000)(hb:b.length<1000000)(he:cg [bR a,bR b]≠0):aT M 169 [.str a,.str b,g] [] ⟨.au [.str [],.iV (cg [bR a,bR b])],[],[]⟩:=by
 have q101:=fun v h hf=>C.lJ v h a b hf ha hb
 generalize cg [bR a,bR b]=e at *
 refine bB (by rw[C.ft];exact Ml) (by simp) ?_;unfold DJ;simp only[enter];exact gg0
theorem Mt (hft:M.FT=FT)(a b r:ao)(e:Int)(q:∀h,M.ext 169 [.str a,.str b,.fn (.func 151) [] []] h=some ⟨.au [.str r,.iV e],h,[]⟩):aT M 85 [.str a,.str b] [] ⟨.au [.str r,.iV e],[],[]⟩:=by
 refine bB (by rw[hft];exact aba) (by simp) ?_;unfold Mm;simp only[enter];exact gg5
theorem Mu (hft:M.FT=FT)(a b r:ao)(e:Int)(q:∀h,M.ext 169 [.str a,.str b,.fn (.func 149) [] []] h=some ⟨.au [.str r,.iV e],h,[]⟩):aT M 86 [.str a,.str b] [] ⟨.au [.str r,.iV e],[],[]⟩:=by
 refine bB (by rw[hft];exact abb) (by simp) ?_;unfold Mn;simp only[enter];exact gg5
theorem Mv (hft:M.FT=FT)(a b r:ao)(e:Int)(q:∀h,M.ext 169 [.str a,.str b,.fn (.func 152) [] []] h=some ⟨.au [.str r,.iV e],h,[]⟩):aT M 87 [.str a,.str b] [] ⟨.au [.str r,.iV e],[],[]⟩:=by
 refine bB (by rw[hft];exact abc) (by simp) ?_;unfold Mo;simp only[enter];exact gg5
structure DP (M:ax)(N:Nat):Prop extends oK M N where
 kB:∀t (e:Int) h,M.ext 97 [.bool t,.iV e] h=some ⟨.iV (if t then e else 0),h,[]⟩
 kC:∀v h l,iI h v=some l->l.length<1000->M.ext 96 [v] h=some ⟨.iV (cg l),h,[]⟩
def mS (a b:ao):Int:=cg [cg [bR a,bR b],if b=[48] then 6 else 0]
theorem abm (C:DP M N)(a b:ao)(ha:a.length<1000000)(hb:b.length<1000000)(he:mS a b≠0):aT M 88 [.str a,.str b] [] ⟨.au [.str [],.iV (mS a b)],[],[]⟩:=by
 have q101:=fun v h hf=>C.lJ v h a b hf ha hb
 have t6:∀h,M.ext 97 [.bool true,.iV 6] h=some ⟨.iV 6,h,[]⟩:=fun h=>C.kB true 6 h
 have f6:∀h,M.ext 97 [.bool false,.iV 6] h=some ⟨.iV 0,h,[]⟩:=fun h=>C.kB false 6 h
 unfold mS at *
 generalize cg [bR a,bR b]=e at *
 refine bB (by rw[C.ft];exact Mp) (by simp) ?_;by_cases h48:b=[48]
 . rw[if_pos h48]at he ⊢;have q96:=fun v h hi=>C.kC v h [e,6] hi (by simp)
   generalize cg [e,6]=r at *
   unfold xM;simp only[enter];repeat' first|(apply afz;rfl;rfl;all_goals first|(intro h;exact absurd h48 h)|intro _)|apply abn|apply aM|apply abp|apply abC|apply abS|apply cd|(apply acL;rfl)|(apply afl;rfl;rfl)|(apply aco;rfl;rfl;first|exact t6 _|exact f6 _)|(apply aco;rfl;rfl;first|exact q101 _ _ (iw rfl rfl rfl)|exact q96 _ _ rfl)|(apply acT;rfl;rfl;rfl)|(apply abg;rfl;rfl)|(apply acn;rfl;rfl)|(intro _;omega)|intro _
   all_goals try omega
   all_goals exact⟨.inr rfl,rfl,_,rfl,rfl,rfl⟩
 . rw[if_neg h48]at he ⊢;have q96:=fun v h hi=>C.kC v h [e,0] hi (by simp)
   generalize cg [e,0]=r at *
   unfold xM;simp only[enter];repeat' first|(apply afz;rfl;rfl;all_goals first|(intro h;exact absurd h h48)|intro _)|apply abn|apply aM|apply abp|apply abC|apply abS|apply cd|(apply acL;rfl)|(apply afl;rfl;rfl)|(apply aco;rfl;rfl;first|exact t6 _|exact f6 _)|(apply aco;rfl;rfl;first|exact q101 _ _ (iw rfl rfl rfl)|exact q96 _ _ rfl)|(apply acT;rfl;rfl;rfl)|(apply abg;rfl;rfl)|(apply acn;rfl;rfl)|(intro _;omega)|intro _
   all_goals try omega
   all_goals exact⟨.inr rfl,rfl,_,rfl,rfl,rfl⟩
theorem w88 (C:DP M N)(a b r:ao)(ha:a.length<1000000)(hb:b.length<1000000)(h0:cg [bR a,bR b]=0)(h48:b≠[48])(q:∀h,M.ext 169 [.str a,.str b,.fn (.func 150) [] []] h=some ⟨.au [.str r,.iV 0],h,[]⟩):aT M 88 [.str a,.str b] [] ⟨.au [.str r,.iV 0],[],[]⟩:=by
 have q101:=fun v h hf=>C.lJ v h a b hf ha hb
 rw[h0]at q101;have f6:∀h,M.ext 97 [.bool false,.iV 6] h=some ⟨.iV 0,h,[]⟩:=fun h=>C.kB false 6 h
 have q96:∀v h,iI h v=some [0,0]->M.ext 96 [v] h=some ⟨.iV 0,h,[]⟩:=fun v h hi=>C.kC v h [0,0] hi (by decide)
 refine bB (by rw[C.ft];exact Mp) (by simp) ?_;unfold xM;simp only[enter];repeat' first|(apply afz;rfl;rfl;all_goals first|(intro h;exact absurd h h48)|intro _)|apply abn|apply aM|apply abp|apply abC|apply abS|apply acQ|(apply acS;rfl)|(apply afl;rfl;rfl)|(apply aco;rfl;rfl;first|exact f6 _|exact q _)|(apply aco;rfl;rfl;first|exact q101 _ _ (iw rfl rfl rfl)|exact q96 _ _ rfl)|(apply acT;rfl;rfl;rfl)|(apply abg;rfl;rfl)|(apply acn;rfl;rfl)|(intro _;omega)|intro _
 all_goals try omega
 all_goals exact⟨.inr rfl,rfl,_,rfl,rfl,rfl⟩
theorem abo (C:oK M N)(a b:ao)(ha:a.length<1000000)(hb:b.length<1000000)(he:cg [bR a,bR b]≠0):aT M 89 [.str a,.str b] [] ⟨.au [.iV 0,.iV (cg [bR a,bR b])],[],[]⟩:=by
 have q101:=fun v h hf=>C.lJ v h a b hf ha hb
 generalize cg [bR a,bR b]=e at *
 refine bB (by rw[C.ft];exact Mq) (by simp) ?_;unfold DK;simp only[enter];exact gg0
theorem w89 (C:oK M N)(hN:N<=400000){p q:Rat}{s:Int}(lp:Lq N p)(lq:Lq N q)(hp:bR (ak p)=0)(hq:bR (ak q)=0)(hc:∀va vb,bz va p->bz vb q->∀h,M.ext 148 [va,vb] h=some ⟨.iV s,h,[]⟩):aT M 89 [.str (ak p),.str (ak q)] [] ⟨.au [.iV s,.iV 0],[],[]⟩:=by
 have l1:=mR lp;have l2:=mR lq;have q101:=fun v h hf=>C.lJ v h (ak p) (ak q) hf (by omega) (by omega)
 rw[hp,hq,show cg [0,0]=0 by rfl]at q101;obtain⟨va,ka,qa⟩:=C.oM p lp;obtain⟨vb,kb,qb⟩:=C.oM q lq;have qc:=hc va vb ka kb;refine bB (by rw[C.ft];exact Mq) (by simp) ?_;unfold DK;simp only[enter];repeat' first|apply abn|apply aM|apply abp|apply abC|apply abS|apply acQ|(apply acS;rfl)|(apply afl;rfl;rfl)|(apply aco;rfl;rfl;first|exact qa _|exact qb _|exact qc _)|(apply aco;rfl;rfl;exact q101 _ _ (iw rfl rfl rfl))|(apply acT;rfl;rfl;rfl)|(apply abg;rfl;rfl)|(apply acn;rfl;rfl)|(intro _;omega)|intro _
 all_goals try omega
 all_goals exact⟨.inr rfl,rfl,_,rfl,rfl,rfl⟩
end Go.Ab.Ch1
