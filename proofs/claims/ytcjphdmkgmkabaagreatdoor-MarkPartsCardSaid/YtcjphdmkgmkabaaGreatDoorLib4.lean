/-
  Own work: integers of any size: greatest common divisors.
-/
import Derived.Test.YtcjphdmkgmkabaaGreatDoorLib3
import Derived.Test.YtcjphdmkgmkabaaGreatDoorCh1Base
import Derived.Test.YtcjphdmkgmkabaaGreatDoorLib2
import Derived.Test.YtcjphdmkgmkabaaGreatDoorLib1
import Derived.Lib.Bytealg
set_option maxHeartbeats 8000000
set_option maxRecDepth 20000
namespace Go.Ab.Ch1
open Go.Ab.aY
variable {M:ax} {cap:Option Nat} {N:Nat}
section
variable {t n m:Nat} {x y:aL} {l:List aU} {pe:List AV} {lo:List (Nat×AV)} {H:ab} {df wr:List Nat} {c c' new:List AV} {e:TypeId} {a:Option bw} {Q:ao->Prop}
theorem aho (hx:(St.mk pe lo (H++[some (.cells c e)]++[a]) df).aa x=some (.ptr H.length 0))(hy:((St.mk pe lo (H++[some (.cells c e)]++[a]) df).aa y).bind AV.cells=some new)(hn:new.length=n/\0+n<=c.length/\new.all cS=true)(hc:overwrite c 0 new=c')
 (h:WO M l ⟨⟨pe,lo,H++[some (.cells c' e)]++[a],df⟩,H.length::wr⟩ Q):WO M (⟨.no,.store n x y,none⟩::l) ⟨⟨pe,lo,H++[some (.cells c e)]++[a],df⟩,wr⟩ Q:=by
 refine ade hx hy (bT bW) hn hc ?_;have:ab.put (H++[some (.cells c e)]++[a]) H.length (some (.cells c' e))=H++[some (.cells c' e)]++[a]:=by
  simp[ab.put]
 rw[this];exact h
theorem ahp (hx:(St.mk pe lo (H++[a]++[some (.cells c e)]) df).aa x=some (.ptr m 0))(hy:((St.mk pe lo (H++[a]++[some (.cells c e)]) df).aa y).bind AV.cells=some new)(hm:m=H.length+1)(hn:new.length=n/\0+n<=c.length/\new.all cS=true)(hc:overwrite c 0 new=c')
 (h:WO M l ⟨⟨pe,lo,H++[a]++[some (.cells c' e)],df⟩,m::wr⟩ Q):WO M (⟨.no,.store n x y,none⟩::l) ⟨⟨pe,lo,H++[a]++[some (.cells c e)],df⟩,wr⟩ Q:=by
 subst hm;have hl:H.length+1=(H++[a]).length:=by simp
 rw[hl]at hx h;refine ade hx hy bW hn hc ?_;have:ab.put (H++[a]++[some (.cells c e)]) (H++[a]).length (some (.cells c' e))=H++[a]++[some (.cells c' e)]:=Ia;rw[this];exact h
theorem ahq {ag:Bool}{v:AV}(hx:(St.mk pe lo (H++[a]++[some (.cells c e)]) df).aa x=some (.ptr m 0))(hm:m=H.length+1)(hv:partOf (c.drop 0) 0 n ag=some v)
 (h:WO M l ⟨⟨pe,(t,v)::lo,H++[a]++[some (.cells c e)],df⟩,wr⟩ Q):WO M (⟨.l t,.load n ag x,none⟩::l) ⟨⟨pe,lo,H++[a]++[some (.cells c e)],df⟩,wr⟩ Q:=by
 subst hm;have hl:H.length+1=(H++[a]).length:=by simp
 rw[hl]at hx;exact afO hx bW hv h
end
theorem BW {x y:Int}:Int.gcd y (x%y)=Int.gcd x y:=by
 have h:=Int.gcd_add_mul_left_right y (x%y) (x/y);rw[Int.emod_add_mul_ediv]at h;rw[←h,Int.gcd_comm]
def rZ (s s':Int)(w w':AV)(J:ab):ab:=[some (.cells [.iV s,w] 131),some (.cells [.iV s',w'] 131),some (.cells [.iV 0,.ae] 131)]++J
theorem Vx (C:CQ M N){G:Nat}{Q:Ex->ao->Prop}(a0 a1:AV)
 (hQ:∀s s' w w' J p5 lo wr (x:Int),aw (.agg [.iV s,w]) x->x=G->Q (.exit 0) ⟨⟨[a0,a1,.ptr 0 0,.ptr 1 0,.ptr 2 0,p5],lo,rZ s s' w w' J,[]⟩,wr⟩)
 (s s':Int) (w w':AV) (J:ab) (p5:AV) (lo:List (Nat×AV)) (wr:List Nat) (x y:Int) (hx:aw (.agg [.iV s,w]) x) (hy:aw (.agg [.iV s',w']) y) (x0:0<=x/\x<wB^N) (y0:0<=y/\y<wB^N) (hG:Int.gcd x y=G) :
 W M (.loop vw) ⟨⟨[a0,a1,.ptr 0 0,.ptr 1 0,.ptr 2 0,p5],lo,rZ s s' w w' J,[]⟩,wr⟩ Q:=by
 refine W.fE (fun m st=>∃s s' w w' J p5 lo wr x y,st=⟨⟨[a0,a1,.ptr 0 0,.ptr 1 0,.ptr 2 0,p5],lo,rZ s s' w w' J,[]⟩,wr⟩/\m=y.toNat/\aw (.agg [.iV s,w]) x/\aw (.agg [.iV s',w']) y/\(0<=x/\x<wB^N)/\(0<=y/\y<wB^N)/\Int.gcd x y=G)
  (fun m st ⟨s,s',w,w',J,p5,lo,wr,x,y,hst,hm,hx,hy,x0,y0,hG⟩=>?_) (m:=y.toNat) ⟨s,s',w,w',J,p5,lo,wr,x,y,rfl,rfl,hx,hy,x0,y0,hG⟩
 subst hst;subst hm;have q211:=C.od _ y hy;by_cases h0:y=0
 . subst h0;have e:x=G:=by rw[←hG,Int.gcd_zero];omega
   rw[show bD 0=0 from rfl]at q211;unfold vw;exact gg7
 . rw[show bD y=1 by unfold bD;rw[if_neg (by omega),if_pos (by omega)]]at q211;obtain⟨q,r,hq,hr,q205⟩:=C.rY _ _ x y hx hy (by rw[cV x0.1];exact x0.2) (by rw[cV y0.1];exact y0.2) (by omega);obtain⟨o1,_⟩:=hx.one;obtain⟨o2,_⟩:=hy.one;obtain⟨s1,w1,rfl,o3,_⟩:=hq.shape;obtain⟨s2,w2,rfl,o4,_⟩:=hr.shape;have r0:=Int.emod_nonneg x (show y≠0 by omega);have r1:=Int.emod_lt_of_pos x (show 0<y by omega);have next:∀J p5 lo wr,LI (fun st=>∃m',m'<y.toNat/\∃s s' w w' J p5 lo wr x y,st=⟨⟨[a0,a1,.ptr 0 0,.ptr 1 0,.ptr 2 0,p5],lo,rZ s s' w w' J,[]⟩,wr⟩/\m'=y.toNat/\aw (.agg [.iV s,w]) x/\aw (.agg [.iV s',w']) y/\(0<=x/\x<wB^N)/\(0<=y/\y<wB^N)/\Int.gcd x y=G) Q .normal ⟨⟨[a0,a1,.ptr 0 0,.ptr 1 0,.ptr 2 0,p5],lo,rZ s' s2 w' w2 J,[]⟩,wr⟩:=fun J p5 lo wr=>
    da ⟨(x%y).toNat,by omega,_,_,_,_,J,p5,lo,wr,y,x%y,rfl,rfl,hy,hr,y0,⟨r0,by omega⟩,by rw[BW,hG]⟩
   unfold vw;repeat' first|(apply aho;rfl;rfl;exact⟨rfl,Nat.le_refl _,by simp[overwrite,dG,o3]⟩;rfl)|(apply ahp;rfl;rfl;simp;exact⟨rfl,Nat.le_refl _,by simp[overwrite,dG,o4]⟩;rfl)|(apply ahq;rfl;simp;rfl)|(apply ade;rfl;rfl;rfl;exact⟨rfl,Nat.le_refl _,by simp[overwrite,dG,o2,o4]⟩;rfl)|apply aap|apply aM|apply aaF|apply aaY|apply acS|apply abJ|apply cX|apply aeb|apply aem|(apply aeJ;rfl;rfl;(first|(simp only[nca];rfl)|rfl))|(apply aeU;rfl;(first|(simp only[nca];rfl)|rfl);(first|(simp only[nca];rfl)|rfl))|(apply abz;rfl)|(apply aef;rfl;rfl)|(apply abD;rfl;rfl;first|exact q211 _|exact q205 _)|(apply acb;rfl;rfl;rfl)|(apply acK;rfl;rfl;rfl)|(apply aab;rfl;rfl)|(intro _;omega)|intro _
   all_goals try omega
   all_goals exact next _ _ _ _
structure CG (M:ax)(N:Nat):Prop extends CQ M N where
 BX:Op1 M N 210 ak
theorem Vy {x y:Int}:Int.gcd (ak x) (ak y)=Int.gcd x y:=by
 have h:∀z:Int,(ak z).natAbs=z.natAbs:=fun z=>by unfold ak;split <;> omega
 show Nat.gcd _ _=Nat.gcd _ _;rw[h,h]
theorem Vz (C:CG M N){a b:AV}{x y:Int}(ha:aw a x)(hb:aw b y)(lx:ak x<wB^N)(ly:ak y<wB^N):∃v0,aw v0 (Int.gcd x y:Nat)/\cK M 165 [a,b] v0:=by
 obtain⟨va,h1,q210a⟩:=C.BX a x ha lx;obtain⟨vb,h2,q210b⟩:=C.BX b y hb ly;obtain⟨sa,wa,rfl,o1,_⟩:=ha.shape;obtain⟨sb,wb,rfl,o2,_⟩:=hb.shape;obtain⟨s1,w1,rfl,o3,_⟩:=h1.shape;obtain⟨s2,w2,rfl,o4,_⟩:=h2.shape;obtain⟨v,hh,⟨v0,h0,ho⟩,hr⟩:=fZ (M:=M) (f:=165) (ars:=[.agg [.iV sa,wa],.agg [.iV sb,wb]]) (P:=fun v hh=>∃v0,aw v0 (Int.gcd x y:Nat)/\fa v hh v0) (by rw[C.ft];exact UL) (by simp) (by
  unfold Iv;simp only[enter];repeat' first|(apply aeS;rfl;rfl;(first|(simp only[nca];rfl)|rfl);first|exact q210a _|exact q210b _)|(apply ade;rfl;rfl;rfl;exact⟨rfl,Nat.le_refl _,by simp[overwrite,dG,o3,o4]⟩;rfl)|apply aap|apply aM|apply aaF|apply aaY|apply acS|apply aeb|apply aem|(apply aeJ;rfl;rfl;(first|(simp only[nca];rfl)|rfl))|(apply aeU;rfl;(first|(simp only[nca];rfl)|rfl);(first|(simp only[nca];rfl)|rfl))|(apply acb;rfl;rfl;rfl)|(apply acK;rfl;rfl;rfl)
  refine Vx C.toCQ (G:=Int.gcd x y) _ _ (fun s s' w w' J p5 lo wr g hg eg=>?_) s1 s2 w1 w2 [] _ _ _ (ak x) (ak y) h1 h2 ⟨iD,lx⟩ ⟨iD,ly⟩ Vy;obtain⟨o5,t5,k5⟩:=hg.one;refine gg14 ?_;rw[eg]at hg;exact⟨.inr rfl,rfl,_,rfl,_,hg,hg.out⟩)
 exact⟨v0,h0,v,hh,ho,hr⟩
end Go.Ab.Ch1

/-
  Own work: fractions in lowest terms.
-/
namespace Go.Ab.Ch1
open Go.Ab.aY
variable {M:ax} {cap:Option Nat} {N:Nat}
def bI (v:AV)(q:Rat):Prop:=iE v q.num q.den
structure CR (M:ax)(N:Nat):Prop extends CG M N where
 sc:∀a b x y,aw a x->aw b y->ak x<wB^N->ak y<wB^N->∃v0,aw v0 (Int.gcd x y:Nat)/\∀h,M.ext 165 [a,b] h=some ⟨v0,h,[]⟩
 BY:∀a b x y k,aw a x->aw b y->ak x<wB^N->ak y<wB^N->y≠0->x=y*k->∃v0,aw v0 k/\∀h,M.ext 252 [a,b] h=some ⟨v0,h,[]⟩
def t203:al:=
 .seq (zR [zf 13 1 3,
       zd 14 1 13,
       ⟨(.l 15),.eq false (.ref .slice) (.l 14) (.c (.ae)),none⟩,
       zn 16 15,
       zg (zf 17 0 3) 16 true,
       zg (zd 18 1 17) 16 true,
       zg (zc 19 .eql 18 1) 16 true,
       zp 20 16 19]
     (
      .cond (.l 20)
      (
       zR [zt 21 2 2,
         zt 22 2 3,
         ⟨(.l 23),.build [.iV (0),.ae,.iV (0),.ae] [(0,2,(.l 21)),(2,2,(.l 22))],none⟩,
         zs 4 4 23]
       (.ret))
      (.skip)))
    (
     zR [zt 24 2 2,
       zt 25 2 3,
       z2 26 165 24 25,
       ⟨(.p 5),.alloc 131 [.iV (0),.ae],none⟩,
       zs 2 5 26]
     (
      .seq (.draw [(zt 27 2 2,[]),
        (zt 28 2 5,[0]),
        (z2 29 252 27 28,[]),
        (zt 30 2 3,[0,1,2]),
        (zt 31 2 5,[0,1,2,3]),
        (z2 32 252 30 31,[]),
        (⟨(.l 33),.build [.iV (0),.ae,.iV (0),.ae] [(0,2,(.l 29)),(2,2,(.l 32))],none⟩,[]),
        (zs 4 4 33,[])])
      (.ret)))
theorem lH {n:Int}:(Rat.divInt n 1).num=n/\(Rat.divInt n 1).den=1:=by
 refine⟨?_,?_⟩
 . rw[Rat.num_divInt];simp
 . rw[Rat.den_divInt];simp
theorem vB {n d:Int}(h:0<d):∃k1 k2:Int,n=(Int.gcd n d:Nat)*k1/\d=(Int.gcd n d:Nat)*k2/\(Rat.divInt n d).num=k1/\((Rat.divInt n d).den:Int)=k2:=by
 have g0:(Int.gcd n d:Int)≠0:=by
  have:=Int.gcd_pos_of_ne_zero_right n (show d≠0 by omega);omega
 obtain⟨k1,h1⟩:=Int.gcd_dvd_left n d;obtain⟨k2,h2⟩:=Int.gcd_dvd_right n d;refine⟨k1,k2,h1,h2,?_,?_⟩
 . rw[Rat.num_divInt,Int.sign_eq_one_of_pos h,Int.one_mul,Int.gcd_comm d n];exact Int.ediv_eq_of_eq_mul_right g0 h1
 . rw[Rat.den_divInt,if_neg (by omega),Int.gcd_comm d n];have e:((d.natAbs/Int.gcd n d:Nat):Int)=d/(Int.gcd n d:Int):=by
    rw[Int.natCast_ediv,Int.natAbs_of_nonneg (by omega)]
   rw[e];exact Int.ediv_eq_of_eq_mul_right g0 h2
theorem VA {x y:Int}(h:0<y):ak (Int.gcd x y:Nat)<=ak y:=by
 have:=Int.le_of_dvd h (Int.gcd_dvd_right x y);rw[cV (by omega),cV (by omega)];exact this
theorem IQ (C:CR M N){s s' n d:Int}{w w':AV}(hn:aw (.agg [.iV s,w]) n)(hd:aw (.agg [.iV s',w']) d)(ln:ak n<wB^N)(ld:ak d<wB^N)(d0:0<d) :
 ∃v0,bI v0 (Rat.divInt n d)/\∀a0 a1 p5 lo wr,W M t203 ⟨⟨[a0,a1,.ptr 0 0,.ptr 1 0,.ptr 2 0,p5],lo,[some (.cells [.iV s,w] 131),some (.cells [.iV s',w'] 131),some (.cells [.iV 0,.ae,.iV 0,.ae] 133)],[]⟩,wr⟩ (lE v0 [.cell 4 true (.p 4)]):=by
 obtain⟨o1,_⟩:=hn.one;by_cases h1:d=1/\w' = .ae
 . obtain⟨rfl,rfl⟩:=h1;have hs:s'=1:=by cases hd;rfl
   subst hs;have hf:bI (.agg [.iV s,w,.iV 1,.ae]) (Rat.divInt n 1):=by
    unfold bI;rw[lH.1,lH.2];exact⟨_,_,_,_,rfl,hn,hd⟩
   refine⟨_,hf,fun a0 a1 p5 lo wr=>?_⟩;have out:=fun hh=>hf.out (hh:=hh)
   unfold t203;repeat' first|(apply ade;rfl;rfl;rfl;exact⟨rfl,Nat.le_refl _,by simp[overwrite,dG,ek,o1]⟩;rfl)|apply aap|apply aM|apply aaF|apply aaY|apply abu|apply bZ|(apply abz;rfl)|(apply acY;rfl)|(apply adE;rfl;rfl)|(apply acR;rfl;rfl)|(apply acb;rfl;rfl;rfl)|(apply aab;rfl;rfl)|(intro _;omega)|intro _
   all_goals try omega
   all_goals exact cD rfl rfl (out _)
 . obtain⟨k1,k2,e1,e2,e3,e4⟩:=vB (n:=n) d0;obtain⟨vg,hg,q165⟩:=C.sc _ _ n d hn hd ln ld;have lg:ak (Int.gcd n d:Nat)<wB^N:=Int.lt_of_le_of_lt (VA d0) ld;have g0:(Int.gcd n d:Int)≠0:=by
    have:=Int.gcd_pos_of_ne_zero_right n (show d≠0 by omega);omega
   obtain⟨v1,hv1,q252a⟩:=C.BY _ vg n _ k1 hn hg ln lg g0 e1;obtain⟨v2,hv2,q252b⟩:=C.BY _ vg d _ k2 hd hg ld lg g0 e2;obtain⟨sg,wg,rfl,og,_⟩:=hg.shape;obtain⟨s1,w1,rfl,o3,_⟩:=hv1.shape;obtain⟨s2,w2,rfl,o4,_⟩:=hv2.shape;have hf:bI (.agg [.iV s1,w1,.iV s2,w2]) (Rat.divInt n d):=by
    unfold bI;rw[e3,e4];exact⟨_,_,_,_,rfl,hv1,hv2⟩
   refine⟨_,hf,fun a0 a1 p5 lo wr=>?_⟩;have out:=fun hh=>hf.out (hh:=hh)
   unfold t203;cases hd with
   | small h=>
    have h2:s'≠1:=fun e=>h1 ⟨e,rfl⟩
    repeat' first|(apply abD;rfl;rfl;first|exact q165 _|exact q252a _|exact q252b _)|(apply aeS;rfl;rfl;(first|(simp only[nca];rfl)|rfl);first|exact q165 _|exact q252a _|exact q252b _)|(apply ade;rfl;rfl;rfl;exact⟨rfl,Nat.le_refl _,by simp[overwrite,dG,ek,og,o3,o4]⟩;rfl)|apply aap|apply aM|apply aaF|apply aaY|apply abu|apply abJ|apply aeb|apply aem|(apply aeZ;rfl)|(apply aeJ;rfl;rfl;(first|(simp only[nca];rfl)|rfl))|(apply aeU;rfl;(first|(simp only[nca];rfl)|rfl);(first|(simp only[nca];rfl)|rfl))|(apply abF;rfl)|(apply acY;rfl)|(apply adE;rfl;rfl)|(apply acR;rfl;rfl)|(apply acb;rfl;rfl;rfl)|(apply acK;rfl;rfl;rfl)|(apply aab;rfl;rfl)|(intro _;omega)|intro _
    all_goals try omega
    all_goals exact cD rfl rfl (out _)
   | @eZ σ z ww hs ok nr hw hz=>
    cases ww with
    | nil=>simp[WV]at hw
    | cons y ww=>
    repeat' first|(apply abD;rfl;rfl;first|exact q165 _|exact q252a _|exact q252b _)|(apply aeS;rfl;rfl;(first|(simp only[nca];rfl)|rfl);first|exact q165 _|exact q252a _|exact q252b _)|(apply ade;rfl;rfl;rfl;exact⟨rfl,Nat.le_refl _,by simp[overwrite,dG,ek,og,o3,o4]⟩;rfl)|apply aap|apply aM|apply aaF|apply aaY|apply abu|apply abJ|apply aeb|apply aem|(apply aeZ;rfl)|(apply aeJ;rfl;rfl;(first|(simp only[nca];rfl)|rfl))|(apply aeU;rfl;(first|(simp only[nca];rfl)|rfl);(first|(simp only[nca];rfl)|rfl))|(apply abF;rfl)|(apply aeM;rfl)|(apply adM;rfl;rfl)|(apply acb;rfl;rfl;rfl)|(apply acK;rfl;rfl;rfl)|(apply aab;rfl;rfl)
    all_goals try omega
    all_goals exact cD rfl rfl (out _)
end Go.Ab.Ch1

/-
  Own work: fractions: made, their operations.
-/
namespace Go.Ab.Ch1
open Go.Ab.aY
variable {M:ax} {cap:Option Nat} {N:Nat}
theorem VB (C:CR M N){a b:AV}{n d:Int}(ha:aw a n)(hb:aw b d)(ln:ak n<wB^N)(ld:ak d<wB^N)(d0:d≠0):∃v0,bI v0 (Rat.divInt n d)/\cK M 203 [a,b] v0:=by
 have q211:=C.od b d hb;by_cases hn:d<0
 . rw[show bD d = -1 from if_pos hn]at q211;obtain⟨va,h1,q216a⟩:=C.lF a n ha ln;obtain⟨vb,h2,q216b⟩:=C.lF b d hb ld;have h1:aw va (-n):=h1;have h2:aw vb (-d):=h2;obtain⟨_,_,rfl,o1,_⟩:=ha.shape;obtain⟨_,_,rfl,o2,_⟩:=hb.shape;obtain⟨_,_,rfl,o3,_⟩:=h1.shape;obtain⟨_,_,rfl,o4,_⟩:=h2.shape;obtain⟨v0,hf,tl⟩:=IQ C h1 h2 (by rw[iW];exact ln) (by rw[iW];exact ld) (by omega);rw[Rat.neg_divInt_neg]at hf;refine⟨v0,hf,cI (by rw[C.ft];exact IG) (by simp) ?_⟩;unfold BU;simp only[enter];repeat' first|(exact tl _ _ _ _ _)|(apply abD;rfl;rfl;first|exact q211 _|exact q216a _|exact q216b _)|(apply aeS;rfl;rfl;(first|(simp only[nca];rfl)|rfl);first|exact q211 _|exact q216a _|exact q216b _)|(apply ade;rfl;rfl;rfl;exact⟨rfl,Nat.le_refl _,by simp[overwrite,dG,ek,o3,o4]⟩;rfl)|apply aap|apply aM|apply aaF|apply aaY|apply aeb|apply aem|(apply aeJ;rfl;rfl;(first|(simp only[nca];rfl)|rfl))|(apply aeU;rfl;(first|(simp only[nca];rfl)|rfl);(first|(simp only[nca];rfl)|rfl))|(apply abz;rfl)|(apply ada;rfl;rfl)|(apply acb;rfl;rfl;rfl)|(apply acK;rfl;rfl;rfl)|(intro _;omega)|intro _
   all_goals try omega
 . obtain⟨g,hg⟩:∃g,g=bD d:=⟨_,rfl⟩;have g0:0<=g:=by rw[hg];unfold bD;split <;> (first|omega|(split <;> omega))
   rw[←hg]at q211;obtain⟨_,_,rfl,o1,_⟩:=ha.shape;obtain⟨_,_,rfl,o2,_⟩:=hb.shape;obtain⟨v0,hf,tl⟩:=IQ C ha hb ln ld (by omega);refine⟨v0,hf,cI (by rw[C.ft];exact IG) (by simp) ?_⟩;unfold BU;simp only[enter];exact gg5
def Bq (N:Nat)(q:Rat):Prop:=ak q.num<wB^N/\(q.den:Int)<wB^N
structure CS (M:ax)(N N2:Nat):Prop extends CF M N where
 eZ:CF M N2
 hN:2*N+1<=N2
 vC:∀a b n d,aw a n->aw b d->ak n<wB^N2->ak d<wB^N2->d≠0->∃v0,bI v0 (Rat.divInt n d)/\∀h,M.ext 203 [a,b] h=some ⟨v0,h,[]⟩
theorem den_pos {q:Rat}:0<(q.den:Int):=by have:=q.den_pos;omega
theorem sd {x y:Int}:ak (x*y)=ak x*ak y:=by
 have h:∀z:Int,ak z=(z.natAbs:Int):=fun z=>by unfold ak;split <;> omega
 rw[h,h,h,Int.natAbs_mul,Int.natCast_mul]
variable {N2:Nat}
theorem CS.se (C:CS M N N2){x y:Int}(hx:ak x<wB^N)(hy:ak y<wB^N):ak (x*y)<wB^N2:=by
 rw[sd];have h1:=Int.mul_le_mul_of_nonneg_left (Int.le_of_lt hy) (iD (x:=x));have hp:(0:Int)<wB^N:=Int.pow_pos (by decide);have h2:=Int.mul_lt_mul_of_pos_right hx hp;have h3:=gJ (b:=wB) (by decide) (m:=N+N) (n:=N2) (by have:=C.hN;omega);rw[Int.pow_add]at h3;omega
theorem VC (C:CS M N N2){a b:AV}{p q:Rat}(ha:bI a p)(hb:bI b q)(lp:Bq N p)(lq:Bq N q):∃v0,bI v0 (p*q)/\cK M 152 [a,b] v0:=by
 obtain⟨s1,w1,s2,w2,rfl,h1,h2⟩:=ha;obtain⟨s3,w3,s4,w4,rfl,h3,h4⟩:=hb;have dp:=den_pos (q:=p);have dq:=den_pos (q:=q);obtain⟨v1,k1,q198a⟩:=C.lG _ _ _ _ h1 h3 lp.1 lq.1;obtain⟨v2,k2,q198b⟩:=C.lG _ _ _ _ h2 h4 (by rw[cV (by omega)];exact lp.2) (by rw[cV (by omega)];exact lq.2);obtain⟨v0,k0,q203⟩:=C.vC v1 v2 _ _ k1 k2 (C.se lp.1 lq.1) (C.se (by rw[cV (by omega)];exact lp.2) (by rw[cV (by omega)];exact lq.2)) (Int.ne_of_gt (Int.mul_pos dp dq));have k0:bI v0 (p*q):=by
  have e:=Rat.divInt_mul_divInt p.num q.num (d₁:=p.den) (d₂:=q.den);rw[Rat.num_divInt_den,Rat.num_divInt_den]at e;rw[e];exact k0
 refine⟨v0,k0,cI (by rw[C.ft];exact Vo) (by simp) ?_⟩;have out:=fun hh=>k0.out (hh:=hh)
 obtain⟨s5,w5,s6,w6,rfl,h5,h6⟩:=k0;obtain⟨o5,_⟩:=h5.one;obtain⟨o6,_⟩:=h6.one;unfold IL;simp only[enter];repeat' first|(apply aeS;rfl;rfl;(first|(simp only[nca];rfl)|rfl);first|exact q198a _|exact q198b _|exact q203 _)|(apply ade;rfl;rfl;rfl;exact⟨rfl,Nat.le_refl _,by simp[overwrite,dG,ek,o5,o6]⟩;rfl)|apply aap|apply aM|apply aaF|apply aaY|apply abu|apply aeb|apply aem|(apply aeZ;rfl)|(apply aeJ;rfl;rfl;(first|(simp only[nca];rfl)|rfl))|(apply aeU;rfl;(first|(simp only[nca];rfl)|rfl);(first|(simp only[nca];rfl)|rfl))|(apply acb;rfl;rfl;rfl)|(apply acK;rfl;rfl;rfl)|(apply aab;rfl;rfl)
 all_goals exact cD rfl rfl (out _)
end Go.Ab.Ch1

/-
  Own work: fractions: whole ones, inverses, sums, differences, quotients, comparisons.
-/
namespace Go.Ab.Ch1
open Go.Ab.aY
variable {M:ax} {cap:Option Nat} {N N2:Nat}
theorem VD (hft:M.FT=FT){v:AV}{q:Rat}(hv:bI v q):cK M 201 [v] (.bool (decide (q.den=1))):=by
 obtain⟨s1,w1,s2,w2,rfl,h1,h2⟩:=hv;generalize hd:(q.den:Int)=d at h2;refine cI (by rw[hft];exact Vn) (by simp) ?_;unfold IJ;simp only[enter];cases h2 with
 | small h=>
  by_cases h1:q.den=1
  . rw[decide_eq_true h1];exact gg2
  . rw[decide_eq_false h1];exact gg2
 | @eZ σ z w hs ok nr hw hz=>
  have hz:=hz;have h1:q.den≠1:=by
   have:=den_pos (q:=q);rcases hs with rfl|rfl <;> omega
  rw[decide_eq_false h1];cases w with
  | nil=>simp[WV]at hw
  | cons y w=>
  exact gg7
structure BZ (M:ax)(N N2:Nat):Prop extends CS M N N2 where
 mI:∀v q,bI v q->∀h,M.ext 201 [v] h=some ⟨.bool (decide (q.den=1)),h,[]⟩
theorem bI.one {v:AV}{n:Int}(h:iE v n 1):bI v (Rat.divInt n 1):=by
 unfold bI;rw[lH.1,lH.2];exact h
theorem IS (p q:Rat):p+q=Rat.divInt (p.num*q.den+q.num*p.den) (p.den*q.den):=by
 have dp:=den_pos (q:=p);have dq:=den_pos (q:=q);have e:=Rat.divInt_add_divInt p.num q.num (d₁:=p.den) (d₂:=q.den) (by omega) (by omega);rwa [Rat.num_divInt_den,Rat.num_divInt_den]at e
theorem CS.VE (C:CS M N N2){x y x' y':Int}(hx:ak x<wB^N)(hy:ak y<wB^N)(hx':ak x'<wB^N)(hy':ak y'<wB^N):ak (x*y+x'*y')<wB^N2:=by
 have hp:(0:Int)<wB^N:=Int.pow_pos (by decide);have key:∀{x y:Int},ak x<wB^N->ak y<wB^N->ak (x*y)<wB^(N+N):=fun {x y} hx hy=>by
  rw[sd,Int.pow_add];have h1:=Int.mul_le_mul_of_nonneg_left (Int.le_of_lt hy) (iD (x:=x));have h2:=Int.mul_lt_mul_of_pos_right hx hp;omega
 have k1:=key hx hy;have k2:=key hx' hy';have k3:ak (x*y+x'*y')<=ak (x*y)+ak (x'*y'):=by unfold ak;split <;> split <;> split <;> omega
 have h3:=gJ (b:=wB) (by decide) (m:=N+N+1) (n:=N2) (by have:=C.hN;omega);have hq:(0:Int)<wB^(N+N):=Int.pow_pos (by decide);have e:wB^(N+N+1)=wB^(N+N)*18446744073709551616:=Int.pow_succ _ _;omega
theorem VF (C:BZ M N N2){a b:AV}{p q:Rat}(ha:bI a p)(hb:bI b q)(lp:Bq N p)(lq:Bq N q):∃v0,bI v0 (p+q)/\cK M 151 [a,b] v0:=by
 have q201a:=C.mI a p ha;have q201b:=C.mI b q hb;obtain⟨s1,w1,s2,w2,rfl,h1,h2⟩:=ha;obtain⟨s3,w3,s4,w4,rfl,h3,h4⟩:=hb;have dp:=den_pos (q:=p);have dq:=den_pos (q:=q);have hdp:ak (p.den:Int)<wB^N:=by rw[cV (by omega)];exact lp.2
 have hdq:ak (q.den:Int)<wB^N:=by rw[cV (by omega)];exact lq.2
 by_cases hw:p.den=1/\q.den=1
 . obtain⟨v1,k1,q202⟩:=C.qi _ _ _ _ h1 h3 lp.1 lq.1;obtain⟨v0,k0,q159⟩:=C.vz _ _ k1;have k0:bI v0 (p+q):=by
    have:=bI.one k0;rw[IS,hw.1,hw.2];simpa using this
   refine⟨v0,k0,cI (by rw[C.ft];exact IK) (by simp) ?_⟩;have out:=fun hh=>k0.out (hh:=hh)
   obtain⟨s5,w5,s6,w6,rfl,h5,h6⟩:=k0;obtain⟨o5,_⟩:=h5.one;obtain⟨o6,_⟩:=h6.one;rw[decide_eq_true hw.1]at q201a;rw[decide_eq_true hw.2]at q201b;unfold BV;simp only[enter];repeat' first|(apply abD;rfl;rfl;first|exact q201a _|exact q201b _|exact q202 _|exact q159 _)|(apply ade;rfl;rfl;rfl;exact⟨rfl,Nat.le_refl _,by simp[overwrite,dG,ek,o5,o6]⟩;rfl)|apply aap|apply aM|apply aaF|apply aaY|apply abu|apply bZ|(apply abz;rfl)|(apply acY;rfl)|(apply acR;rfl;rfl)|(apply acb;rfl;rfl;rfl)|(apply acK;rfl;rfl;rfl)|(apply aab;rfl;rfl)
   all_goals exact cD rfl rfl (out _)
 . obtain⟨v1,k1,q198a⟩:=C.lG _ _ _ _ h1 h4 lp.1 hdq;obtain⟨v2,k2,q198b⟩:=C.lG _ _ _ _ h3 h2 lq.1 hdp;obtain⟨v3,k3,q202⟩:=C.eZ.qi v1 v2 _ _ k1 k2 (C.se lp.1 hdq) (C.se lq.1 hdp);obtain⟨v4,k4,q198c⟩:=C.lG _ _ _ _ h2 h4 hdp hdq;obtain⟨v0,k0,q203⟩:=C.vC v3 v4 _ _ k3 k4 (C.VE lp.1 hdq lq.1 hdp) (C.se hdp hdq) (Int.ne_of_gt (Int.mul_pos dp dq));have k0:bI v0 (p+q):=by rw[IS];exact k0
   refine⟨v0,k0,cI (by rw[C.ft];exact IK) (by simp) ?_⟩;have out:=fun hh=>k0.out (hh:=hh)
   obtain⟨s5,w5,s6,w6,rfl,h5,h6⟩:=k0;obtain⟨o5,_⟩:=h5.one;obtain⟨o6,_⟩:=h6.one;unfold BV;simp only[enter];by_cases hp1:p.den=1
   . have hq1:q.den≠1:=fun e=>hw ⟨hp1,e⟩
     rw[decide_eq_true hp1]at q201a;rw[decide_eq_false hq1]at q201b;repeat' first|(apply abD;rfl;rfl;first|exact q201a _|exact q201b _|exact q198a _|exact q198b _|exact q198c _|exact q202 _|exact q203 _)|(apply aeS;rfl;rfl;(first|(simp only[nca];rfl)|rfl);first|exact q201a _|exact q201b _|exact q198a _|exact q198b _|exact q198c _|exact q202 _|exact q203 _)|(apply ade;rfl;rfl;rfl;exact⟨rfl,Nat.le_refl _,by simp[overwrite,dG,ek,o5,o6]⟩;rfl)|apply aap|apply aM|apply aaF|apply aaY|apply abu|apply abJ|apply aeb|apply aem|(apply aeZ;rfl)|(apply aeJ;rfl;rfl;(first|(simp only[nca];rfl)|rfl))|(apply aeU;rfl;(first|(simp only[nca];rfl)|rfl);(first|(simp only[nca];rfl)|rfl))|(apply abF;rfl)|(apply acY;rfl)|(apply acR;rfl;rfl)|(apply acb;rfl;rfl;rfl)|(apply acK;rfl;rfl;rfl)|(apply aab;rfl;rfl)
     all_goals exact cD rfl rfl (out _)
   . rw[decide_eq_false hp1]at q201a;repeat' first|(apply abD;rfl;rfl;first|exact q201a _|exact q198a _|exact q198b _|exact q198c _|exact q202 _|exact q203 _)|(apply aeS;rfl;rfl;(first|(simp only[nca];rfl)|rfl);first|exact q201a _|exact q198a _|exact q198b _|exact q198c _|exact q202 _|exact q203 _)|(apply ade;rfl;rfl;rfl;exact⟨rfl,Nat.le_refl _,by simp[overwrite,dG,ek,o5,o6]⟩;rfl)|apply aap|apply aM|apply aaF|apply aaY|apply abu|apply abJ|apply aeb|apply aem|(apply aeZ;rfl)|(apply aeJ;rfl;rfl;(first|(simp only[nca];rfl)|rfl))|(apply aeU;rfl;(first|(simp only[nca];rfl)|rfl);(first|(simp only[nca];rfl)|rfl))|(apply abF;rfl)|(apply aeM;rfl)|(apply adM;rfl;rfl)|(apply acb;rfl;rfl;rfl)|(apply acK;rfl;rfl;rfl)|(apply aab;rfl;rfl)
     all_goals exact cD rfl rfl (out _)
end Go.Ab.Ch1

/-
  Own work: fractions: opposites, inverses, differences, quotients, comparisons, whole parts.
-/
namespace Go.Ab.Ch1
open Go.Ab.aY
variable {M:ax} {cap:Option Nat} {N N2:Nat}
theorem VG (C:CJ M N){v:AV}{q:Rat}(hv:bI v q)(lq:Bq N q):∃v0,bI v0 (-q)/\cK M 199 [v] v0:=by
 obtain⟨v0,h0,hr⟩:=Vt C hv lq.1;exact⟨v0,h0,hr⟩
structure CU (M:ax)(N N2:Nat):Prop extends BZ M N N2 where
 VH:∀v q,bI v q->Bq N q->∃v0,bI v0 (-q)/\∀h,M.ext 199 [v] h=some ⟨v0,h,[]⟩
 IT:∀v q,bI v q->Bq N q->q≠0->∃v0,bI v0 q⁻¹/\∀h,M.ext 200 [v] h=some ⟨v0,h,[]⟩
 VI:∀a b p q,bI a p->bI b q->Bq N p->Bq N q->∃v0,bI v0 (p+q)/\∀h,M.ext 151 [a,b] h=some ⟨v0,h,[]⟩
 IU:∀a b p q,bI a p->bI b q->Bq N p->Bq N q->∃v0,bI v0 (p*q)/\∀h,M.ext 152 [a,b] h=some ⟨v0,h,[]⟩
theorem Bq.neg {q:Rat}(h:Bq N q):Bq N (-q):=⟨by rw[Rat.neg_num,iW];exact h.1,h.2⟩
theorem VJ (C:CS M N N2){v:AV}{q:Rat}(hv:bI v q)(lq:Bq N q)(h0:q≠0):∃v0,bI v0 q⁻¹/\cK M 200 [v] v0:=by
 obtain⟨s1,w1,s2,w2,rfl,h1,h2⟩:=hv;have dq:=den_pos (q:=q);have hN:=C.hN;have hle:=gJ (b:=wB) (by decide) (m:=N) (n:=N2) (by omega);obtain⟨v0,k0,q203⟩:=C.vC _ _ _ _ h2 h1 (by rw[cV (by omega)];exact Int.lt_of_lt_of_le lq.2 hle) (Int.lt_of_lt_of_le lq.1 hle) (fun e=>h0 (Rat.num_eq_zero.1 e));rw[←Rat.inv_def]at k0;refine⟨v0,k0,cI (by rw[C.ft];exact Vm) (by simp) ?_⟩;have out:=fun hh=>k0.out (hh:=hh)
 obtain⟨s5,w5,s6,w6,rfl,h5,h6⟩:=k0;obtain⟨o5,_⟩:=h5.one;obtain⟨o6,_⟩:=h6.one;unfold II;simp only[enter];repeat' first|(apply abD;rfl;rfl;first|exact q203 _)|(apply ade;rfl;rfl;rfl;exact⟨rfl,Nat.le_refl _,by simp[overwrite,dG,ek,o5,o6]⟩;rfl)|apply aap|apply aM|apply aaF|apply aaY|apply abu|(apply acb;rfl;rfl;rfl)|(apply acK;rfl;rfl;rfl)|(apply aab;rfl;rfl)
 all_goals exact cD rfl rfl (out _)
theorem VK (C:CU M N N2){a b:AV}{p q:Rat}(ha:bI a p)(hb:bI b q)(lp:Bq N p)(lq:Bq N q)(li:Bq N q⁻¹)(h0:q≠0):∃v0,bI v0 (p*q⁻¹)/\cK M 150 [a,b] v0:=by
 obtain⟨v1,k1,q200⟩:=C.IT b q hb lq h0;obtain⟨v0,k0,q152⟩:=C.IU a v1 p _ ha k1 lp li;refine⟨v0,k0,cI (by rw[C.ft];exact Vp) (by simp) ?_⟩;have out:=fun hh=>k0.out (hh:=hh)
 obtain⟨s1,w1,s2,w2,rfl,h1,h2⟩:=ha;obtain⟨s3,w3,s4,w4,rfl,h3,h4⟩:=hb;obtain⟨s5,w5,s6,w6,rfl,h5,h6⟩:=k0;obtain⟨o5,_⟩:=h5.one;obtain⟨o6,_⟩:=h6.one;unfold IM;simp only[enter];repeat' first|(apply aeS;rfl;rfl;(first|(simp only[nca];rfl)|rfl);first|exact q200 _|exact q152 _)|(apply ade;rfl;rfl;rfl;exact⟨rfl,Nat.le_refl _,by simp[overwrite,dG,ek,o5,o6]⟩;rfl)|apply aap|apply aM|apply aaF|apply aaY|apply abu|apply aeb|apply aem|(apply aeJ;rfl;rfl;(first|(simp only[nca];rfl)|rfl))|(apply aeU;rfl;(first|(simp only[nca];rfl)|rfl);(first|(simp only[nca];rfl)|rfl))|(apply acb;rfl;rfl;rfl)|(apply acK;rfl;rfl;rfl)
 all_goals exact cD rfl rfl (out _)
end Go.Ab.Ch1

/-
  Own work: integers of any size: binary digits, whole parts of fractions.
-/
namespace Go.Ab.Ch1
open Go.Ab.aY
variable {M:ax} {cap:Option Nat} {N N2:Nat}
theorem VM (C:CS M N N2){v:AV}{q:Rat}(hv:bI v q)(lq:Bq N q):∃v0,aw v0 (q.num/q.den)/\cK M 160 [v] v0:=by
 obtain⟨s1,w1,s2,w2,rfl,h1,h2⟩:=hv;have dq:=den_pos (q:=q);have hdq:ak (q.den:Int)<wB^N:=by rw[cV (by omega)];exact lq.2
 obtain⟨v0,r,k0,kr,q205⟩:=C.rY _ _ _ _ h1 h2 lq.1 hdq dq;refine⟨v0,k0,cI (by rw[C.ft];exact Vq) (by simp) ?_⟩;have out:=fun hh=>k0.out (hh:=hh)
 obtain⟨s5,w5,rfl,o5,_⟩:=k0.shape;obtain⟨s6,w6,rfl,o6,_⟩:=kr.shape;unfold IN;simp only[enter];repeat' first|(apply abD;rfl;rfl;first|exact q205 _)|(apply ade;rfl;rfl;rfl;exact⟨rfl,Nat.le_refl _,by simp[overwrite,dG,ek,o5,o6]⟩;rfl)|apply aap|apply aM|apply aaF|apply aaY|apply abu|(apply acb;rfl;rfl;rfl)|(apply acK;rfl;rfl;rfl)|(apply aab;rfl;rfl)
 all_goals exact cD rfl rfl (out _)
theorem VN {l:List Int}(ok:okW wB l)(nr:az l)(h0:l≠[]):cj (WV wB l)=64*(l.length-1)+cj l[l.length-1]! := by
 have hl:0<l.length:=List.length_pos_iff.2 h0;obtain⟨n,hn⟩:∃n,l.length=n+1:=⟨l.length-1,by omega⟩;have t0:=lv nr hl;rw[hn,show n+1-1=n by omega]at t0 ⊢;have gt:=bY ok (i:=n) (by omega);have gt:0<=l[n]! /\ l[n]! < 18446744073709551616:=gt;obtain⟨s1,s2,s3⟩:=pU (x:=l[n]!) (by omega);obtain⟨t,ht⟩:∃t,t=l[n]! := ⟨_,rfl⟩;have e0:=iU (b:=wB) (l:=l) (n:=n) (by omega);rw[←ht]at t0 gt s1 s2 s3 e0 ⊢;obtain⟨k,hk⟩:∃k,cj t=k+1:=⟨cj t-1,by omega⟩;rw[hk]at s2 s3 ⊢;rw[show k+1-1=k by omega]at s2;have l0:=cn (b:=wB) (by decide) (dm ok n);have l1:=dr (b:=wB) (by decide) (dm ok n);rw[List.length_take,Nat.min_eq_left (by omega)]at l1;have hP:0<wB^n:=Int.pow_pos (by decide);have eP:wB^n=2^(64*n):=by rw[Int.pow_mul];rfl
 have m1:=Int.mul_le_mul_of_nonneg_left s2 (Int.le_of_lt hP);have m2:=Int.mul_le_mul_of_nonneg_left (show t+1<=2^(k+1) by omega) (Int.le_of_lt hP);rw[Int.mul_add,Int.mul_one]at m2;refine HY (n:=64*n+k) ⟨?_,?_⟩
 . rw[Int.pow_add,←eP,e0];omega
 . rw[show 64*n+k+1=64*n+(k+1) by omega,Int.pow_add,←eP,e0];omega
theorem VP (C:CI M N)(rP:∀(x:Int) h,(0<=x/\x<18446744073709551616)->M.ext 240 [.uV x] h=some ⟨.iV (cj x),h,[]⟩){v:AV}{z:Int}(hv:aw v z)(lz:ak z<wB^N):cK M 262 [v] (.iV (cj (ak z))):=by
 obtain⟨x,l,hx,ok,nr,hl,q246⟩:=C.km v z hv;have len:=C.len ok nr hl lz;obtain⟨s,w,rfl,o,_⟩:=hv.shape;refine cI (by rw[C.ft];exact Vh) (by simp) ?_;rw[←hl];unfold IC;simp only[enter];rcases hx with rfl|⟨rfl,rfl⟩
 . by_cases h0:l.length=0
   . have e:cj (WV wB l)=0:=by rw[List.eq_nil_of_length_eq_zero h0];rfl
     rw[e];exact gg2
   . have hne:l≠[]:=fun e=>h0 (by rw[e];rfl)
     have gt:=bY ok (i:=((l.length:Int)-1).toNat) (by omega);have q240:=fun h=>rP l[((l.length:Int)-1).toNat]! h gt
     have e:=VN ok nr hne;have hb:=oc (x:=l[((l.length:Int)-1).toNat]!) (n:=64) (by have:=gt.2;exact this) gt.1;rw[show l.length-1=((l.length:Int)-1).toNat by omega]at e;obtain⟨t,ht⟩:∃t,t=cj l[((l.length:Int)-1).toNat]! := ⟨_,rfl⟩;rw[←ht]at q240 e hb;have e2:(64*((l.length:Int)-1)+(t:Int))=((cj (WV wB l):Nat):Int):=by rw[e];omega
     rw[←e2];repeat' first|apply aap|apply aM|apply aaF|apply aaY|apply abu|apply abJ|(apply abF;rfl)|(apply adE;rfl;rfl)|(apply ael;rfl;rfl;omega)|(apply aes;rfl;rfl;omega)|(apply afF;rfl;rfl;omega)|(apply abD;rfl;rfl;first|exact q246 _|exact q240 _)|(apply aeX;rfl;rfl;omega)|(apply afu;rfl;exact fun _=>rfl;(first|omega|(simp only[List.length_set];omega)|(simp;omega));decide;rfl;case ia=>infer_instance)|(apply acb;rfl;rfl;rfl)|(apply acK;rfl;rfl;rfl)|(apply aab;rfl;rfl)|(apply aaZ;rfl;rfl)|(intro _;omega)|intro _
     all_goals try omega
     all_goals exact cD rfl rfl (.same rfl rfl)
 . have e:cj (WV wB [])=0:=rfl;rw[e];exact gg2
end Go.Ab.Ch1

/-
  Own work: integers of any size: powers.
-/
namespace Go.Ab.Ch1
open Go.Ab.aY
variable {M:ax} {cap:Option Nat} {N N2:Nat}
section
variable {t:Nat} {x y:aL} {l:List aU} {pe:List AV} {lo:List (Nat×AV)} {hp:ab} {df wr:List Nat} {a:Int} {k:IntKind} {Q:ao->Prop}
theorem agj (hx:(St.mk pe lo hp df).aa x=some (.iV a))
 (h:WO M l ⟨⟨pe,(t,.iV (a/2))::lo,hp,df⟩,wr⟩ Q):WO M (⟨.l t,.bin .shr x (.c (.int k 1)),none⟩::l) ⟨⟨pe,lo,hp,df⟩,wr⟩ Q:=by
 refine WO.op (WP.pure (v:=.iV (a/2)) rfl ?_ h);have:a.fdiv (2^min (Int.toNat 1) IntKind.i64.bits)=a/2:=by
  show a.fdiv 2=a/2;rw[Int.fdiv_eq_ediv_of_nonneg _ (by omega)]
 have e:(St.mk pe lo hp df).aa (.c (.int k 1))=some (.int k 1):=rfl;simp only[aW,hx,e,cN,this];rfl
theorem agi (hx:(St.mk pe lo hp df).aa x=some (.iV a))(hy:(St.mk pe lo hp df).aa y=some (.iV 1))(ha:0<=a/\a<9223372036854775808)
 (h:WO M l ⟨⟨pe,(t,.iV (a%2))::lo,hp,df⟩,wr⟩ Q):WO M (⟨.l t,.bin .and x y,none⟩::l) ⟨⟨pe,lo,hp,df⟩,wr⟩ Q:=by
 refine aab (v:=.iV (a%2)) ?_ rfl h;obtain⟨n,rfl⟩:=Int.eq_ofNat_of_zero_le ha.1;have e:(BitVec.ofInt 64 (n:Int) &&& BitVec.ofInt 64 1).toNat=n%2:=by
  rw[pN,show (1:Int)=((1:Nat):Int) from rfl,pN,BitVec.toNat_and,BitVec.toNat_ofNat,BitVec.toNat_ofNat,Nat.mod_eq_of_lt (show n<2^64 by omega),Nat.mod_eq_of_lt (show 1<2^64 by decide)];exact Nat.and_two_pow_sub_one_eq_mod n 1
 simp only[aW,hx,hy,cN,if_true];show some (AV.iV (IntKind.i64.wrap ((BitVec.ofInt 64 (n:Int) &&& BitVec.ofInt 64 1).toNat:Int)))=_;rw[e,nI (by omega)];rfl
end
def sf (s so:Int)(w wo:AV):ab:=[some (.cells [.iV s,w] 131),some (.cells [.iV 0,.ae] 131),some (.cells [.iV so,wo] 131)]
theorem VQ (C:CF M N){A:Int}{K:Nat}(hK:K<1000000)(hB:∀i,i<=K->ak (A^i)<wB^N){Q:Ex->ao->Prop}(a0:AV)
 (hQ:∀s so w wo p1 lo wr,aw (.agg [.iV so,wo]) (A^K)->Q (.exit 0) ⟨⟨[a0,p1,.ptr 0 0,.ptr 1 0,.ptr 2 0],lo,sf s so w wo,[]⟩,wr⟩)
 (s so:Int) (w wo:AV) (lo:List (Nat×AV)) (wr:List Nat) (hs:aw (.agg [.iV s,w]) A) (ho:aw (.agg [.iV so,wo]) 1) :
 W M (.loop qj) ⟨⟨[a0,.iV K,.ptr 0 0,.ptr 1 0,.ptr 2 0],lo,sf s so w wo,[]⟩,wr⟩ Q:=by
 refine W.fE (fun m st=>∃s so w wo kv lo wr i j,st=⟨⟨[a0,.iV kv,.ptr 0 0,.ptr 1 0,.ptr 2 0],lo,sf s so w wo,[]⟩,wr⟩/\kv=(m:Int)/\aw (.agg [.iV s,w]) (A^i)/\aw (.agg [.iV so,wo]) (A^j)/\j+i*m=K/\m<=K)
  (fun m st ⟨s,so,w,wo,kv,lo,wr,i,j,hst,hkv,hs,ho,hj,hmK⟩=>?_) (m:=K) ⟨s,so,w,wo,_,lo,wr,1,0,rfl,rfl,by rw[Int.pow_one];exact hs,by rw[Int.pow_zero];exact ho,by omega,Nat.le_refl _⟩
 subst hst;subst hkv;by_cases h0:m=0
 . subst h0;have ej:j=K:=by omega
   subst ej;unfold qj;exact gg9
 . obtain⟨q,b,hqb,hb⟩:∃q b:Nat,m=2*q+b/\b<2:=⟨m/2,m%2,by omega,by omega⟩;have him:i*m=2*(i*q)+i*b:=by rw[hqb,Nat.mul_add,←Nat.mul_assoc,Nat.mul_comm i 2,Nat.mul_assoc]
   have hdiv:(m:Int)/2=(q:Int):=by omega
   have hmod:(m:Int)%2=(b:Int):=by omega
   have hi:i<=K:=by
    have:i*1<=i*m:=Nat.mul_le_mul_left i (by omega);omega
   have hjK:j<=K:=by omega
   obtain⟨o1,_⟩:=hs.one;obtain⟨o2,_⟩:=ho.one;have fin:∀s so w wo lo wr i' j',aw (.agg [.iV s,w]) (A^i')->aw (.agg [.iV so,wo]) (A^j')->j'+i'*q=K->LI (fun st=>∃m',m'<m/\∃s so w wo kv lo wr i j,st=⟨⟨[a0,.iV kv,.ptr 0 0,.ptr 1 0,.ptr 2 0],lo,sf s so w wo,[]⟩,wr⟩/\kv=(m':Int)/\aw (.agg [.iV s,w]) (A^i)/\aw (.agg [.iV so,wo]) (A^j)/\j+i*m'=K/\m'<=K) Q .normal ⟨⟨[a0,.iV ((m:Int)/2),.ptr 0 0,.ptr 1 0,.ptr 2 0],lo,sf s so w wo,[]⟩,wr⟩:=fun s so w wo lo wr i' j' h1 h2 h3=>
    da ⟨q,by omega,s,so,w,wo,_,lo,wr,i',j',rfl,hdiv,h1,h2,h3,by omega⟩
   have sq:q≠0->∃v,aw v (A^(i+i))/\∀h,M.ext 198 [.agg [.iV s,w],.agg [.iV s,w]] h=some ⟨v,h,[]⟩:=fun hq=>by
    obtain⟨v,h1,h2⟩:=C.lG _ _ _ _ hs hs (hB i hi) (hB i hi);exact⟨v,by rw[Int.pow_add];exact h1,h2⟩
   by_cases hodd:b=1
   . subst hodd;obtain⟨v1,h1,q1⟩:=C.lG _ _ _ _ ho hs (hB j hjK) (hB i hi);have h1:aw v1 (A^(j+i)):=by rw[Int.pow_add];exact h1
     obtain⟨s1,w1,rfl,o3,_⟩:=h1.shape;by_cases hq:q=0
     . subst hq;unfold qj;repeat' first|(apply agi;rfl;rfl;omega)|(apply agj;rfl)|(apply ade;rfl;rfl;rfl;exact⟨rfl,Nat.le_refl _,by simp[overwrite,dG,ek,o3]⟩;rfl)|apply aap|apply aM|apply aaF|apply aaY|apply acS|apply abJ|apply cX|(apply abz;rfl)|(apply abF;rfl)|(apply adU;rfl;rfl)|(apply adE;rfl;rfl)|(apply abD;rfl;rfl;first|exact q1 _)|(apply acb;rfl;rfl;rfl)|(apply aab;rfl;rfl)|(apply aaZ;rfl;rfl)|(intro _;omega)|intro _
       all_goals try omega
       all_goals exact fin s s1 w w1 _ _ i (j+i) hs h1 (by omega)
     . obtain⟨v2,h2,q2⟩:=sq hq;obtain⟨s2,w2,rfl,o4,_⟩:=h2.shape;unfold qj;exact gg0
   . obtain⟨v2,h2,q2⟩:=sq (by omega);obtain⟨s2,w2,rfl,o4,_⟩:=h2.shape;have hb0:b=0:=by omega
     subst hb0;unfold qj;repeat' first|(apply agi;rfl;rfl;omega)|(apply agj;rfl)|(apply ade;rfl;rfl;rfl;exact⟨rfl,Nat.le_refl _,by simp[overwrite,dG,ek,o4]⟩;rfl)|apply aap|apply aM|apply aaF|apply aaY|apply acS|apply abJ|apply cX|(apply abz;rfl)|(apply abF;rfl)|(apply adU;rfl;rfl)|(apply adE;rfl;rfl)|(apply abD;rfl;rfl;first|exact q2 _)|(apply acb;rfl;rfl;rfl)|(apply aab;rfl;rfl)|(apply aaZ;rfl;rfl)|(intro _;omega)|intro _
     all_goals try omega
     all_goals exact fin s2 so w2 wo _ _ (i+i) j h2 ho (by rw[Nat.add_mul];omega)
theorem VR (C:CF M N){v:AV}{A:Int}{K:Nat}(hv:aw v A)(hK:K<1000000)(hB:∀i,i<=K->ak (A^i)<wB^N):∃v0,aw v0 (A^K)/\cK M 215 [v,.iV K] v0:=by
 have q168:=C.mH 1;obtain⟨s,w,rfl,o1,_⟩:=hv.shape;obtain⟨v',hh,⟨v0,h0,ho⟩,hr⟩:=fZ (M:=M) (f:=215) (ars:=[.agg [.iV s,w],.iV K]) (P:=fun v hh=>∃v0,aw v0 (A^K)/\fa v hh v0) (by rw[C.ft];exact Vi) (by simp) (by
  unfold ID;simp only[enter];repeat' first|apply aap|apply aM|apply aaF|apply aaY|apply acS|(apply abD;rfl;rfl;first|exact q168 _)|(apply acK;rfl;rfl;rfl)|(apply afx;rfl;rfl;rfl)
  refine VQ C hK hB _ (fun s so w wo p1 lo wr hg=>?_) s 1 w .ae _ _ hv (.small (by decide));obtain⟨o5,_⟩:=hg.one;refine gg14 ?_;exact⟨.inr rfl,rfl,_,rfl,_,hg,hg.out⟩)
 exact⟨v0,h0,v',hh,ho,hr⟩
end Go.Ab.Ch1

/-
  Own work: runs of integers' operations as contracts.
-/
namespace Go.Ab.Ch1
open Go.Ab.aY
variable {P:Program} {T:List (Nat×Spec)} {g:Nat}
theorem cK.runK {ars:List AV}{v0:AV}(h:cK (aX P FT T) g ars v0)(ht:bk ars=0):AU P FT T g ars v0:=by
 obtain⟨v,hh,⟨v1,h1,h2,h3⟩,hr⟩:=h;exact⟨v,hh,v1,hr,h1,ht,h2,h3⟩
theorem cK.eq {ars:List AV}{v0:AV}{hp:ab}(h:cK (aX P FT T) g ars v0)(ht:bk ars=0):pK P FT T g ars hp=some ⟨v0,hp,[]⟩:=rF (h.runK ht)
theorem pT.eq {ars as0:List AV}{z:Int}(h:pT (aX P FT T) g as0 z):∃r,okW wB r/\az r/\WV wB r=z/\∀hp,fM hp ars as0->rE P FT T g ars hp=some ⟨.vs (ah r) r.length none,hp,[]⟩:=by
 obtain⟨r,⟨h1,h2,h3⟩,v,hh,⟨v1,f,t,c⟩,hr⟩:=h;exact⟨r,h1,h2,h3,fun hp hf=>lh hf ⟨v,hh,v1,hr,f,t,c⟩⟩
theorem rS.eq {ars:List AV}{x y:Int}(h:rS (aX P FT T) g ars x y)(ht:bk ars=0):∃qv q rv r,db qv q/\db rv r/\okW wB q/\az q/\okW wB r/\az r/\WV wB q=x/y/\WV wB r=x%y/\∀hp,pK P FT T g ars hp=some ⟨.aq [qv,rv],hp,[]⟩:=by
 obtain⟨q,r,⟨h1,h2,h3⟩,⟨h4,h5,h6⟩,v,hh,⟨v1,qv,rv,f,t,c,k1,k2⟩,hr⟩:=h;exact⟨qv,q,rv,r,k1,k2,h1,h2,h4,h5,h3,h6,fun hp=>rF ⟨v,hh,v1,hr,f,ht,t,c⟩⟩
theorem db.top {x:AV}{l:List Int}(h:db x l):x.top=0:=by
 rcases h with rfl|⟨rfl,rfl⟩
 . exact fV l
 . rfl
theorem aw.top {v:AV}{z:Int}(h:aw v z):v.top=0:=by
 obtain⟨s,w,rfl,_,t,_⟩:=h.shape;simp[AV.top,bk,t]
theorem bI.top {v:AV}{q:Rat}(h:bI v q):v.top=0:=by
 obtain⟨s,w,s',w',rfl,h1,h2⟩:=h;have t1:=h1.one.2.1;have t2:=h2.one.2.1;simp[AV.top,bk,t1,t2]
end Go.Ab.Ch1

/-
  Own work: the contracts of words, integers and fractions as tables.
-/
namespace Go.Ab.Ch1
open Go.Proofs Go.Ab.aY
variable {T:List (Nat×Spec)}
noncomputable abbrev sK (T:List (Nat×Spec))(g:Nat):Spec:=pK Tryz.prog FT T g
noncomputable abbrev sL (T:List (Nat×Spec))(g:Nat):Spec:=rE Tryz.prog FT T g
theorem bg {g:Nat}(hT:cA Tryz.prog gl (bm T)):aS Tryz.prog gl g (sK T g):=Sj nU hT
theorem iX {g:Nat}(hT:cA Tryz.prog gl (bm T)):aS Tryz.prog gl g (sL T g):=Sh nU hT
theorem gM {v:AV}(h:v.top=0):bk [v]=0:=by simp[bk,h]
theorem fq {v w:AV}(h:v.top=0)(k:w.top=0):bk [v,w]=0:=by simp[bk,h,k]
theorem dx {ars:List AV}{v0:AV}{g:Nat}(h:cK (aX Tryz.prog FT T) g ars v0)(ht:bk ars=0):∀hp,sK T g ars hp=some ⟨v0,hp,[]⟩:=fun _=>h.eq ht
def IV:List (Nat×Spec):=[(275,my .py),(277,my .pz)]
theorem VT:cA Tryz.prog gl (bm IV):=aP (uA Hu) (aP (uA Hv) bx)
structure Ca (T:List (Nat×Spec)):Prop where
 VU:∀ar h,bm T 275 ar h=my .py ar h
 VV:∀ar h,bm T 277 ar h=my .pz ar h
 vh:∀ar h,bm T 276 ar h=none
theorem Ca.c (E:Ca T):mC (aX Tryz.prog FT T) where
 ft:=bj
 vh:=E.vh
 mD x y c h hx hy h0 h1:=by
  refine(E.VU _ _).trans ?_;show Option.map _ (if _ then _ else _)=_;rw[if_pos ⟨hx,hy,h0,h1⟩];rfl
 vi x y c h hx hx1 hy hy1 h0 h1:=by
  refine(E.VV _ _).trans ?_;show Option.map _ (if _ then _ else _)=_;rw[if_pos ⟨hx,hy,h0,h1⟩];have e1:(((x.toNat+18446744073709551616-y.toNat-c.toNat)%18446744073709551616:Nat):Int)=(x-y-c)%18446744073709551616:=by omega
  have e2:((if x.toNat<y.toNat+c.toNat then 1 else 0:Nat):Int)=if x<y+c then 1 else 0:=by
   by_cases hc:x<y+c
   . rw[if_pos hc,if_pos (by omega)];rfl
   . rw[if_neg hc,if_neg (by omega)];rfl
  show some (HR.mk (.aq [.uV _,.uV _]) h [])=_;rw[e1,e2]
noncomputable def mJ:Spec:=sK [] 244
theorem Cb:aS Tryz.prog gl 244 mJ:=bg bx
theorem Cc:∀(x y:Int) h,(0<=x/\x<18446744073709551616)->(0<=y/\y<18446744073709551616)->mJ [.uV x,.uV y] h=some ⟨.aq [.uV (x*y/18446744073709551616),.uV (x*y%18446744073709551616)],h,[]⟩:=fun x y h hx hy=>bP (TK bj x y hx hy) rfl rfl rfl h
noncomputable def qk:List (Nat×Spec):=(244,mJ)::IV
theorem vD:cA Tryz.prog gl (bm qk):=aP Cb VT
structure vE (T:List (Nat×Spec)):Prop extends Ca T where
 Cd:∀ar h,bm T 244 ar h=mJ ar h
theorem vE.c (E:vE T):mE (aX Tryz.prog FT T):={ E.toCa.c with nZ:=fun x y h hx hy=>(E.Cd _ _).trans (Cc x y h hx hy) }
theorem Ce:vE qk:=by repeat' first|exact fun _ _=>rfl|constructor
noncomputable def sh:Spec:=sK [] 240
theorem Cf:aS Tryz.prog gl 240 sh:=bg bx
theorem Cg:∀(x:Int) h,(0<=x/\x<18446744073709551616)->sh [.uV x] h=some ⟨.iV (cj x),h,[]⟩:=fun x h hx=>bP (Uc bj x hx) rfl rfl rfl h
noncomputable def IW:List (Nat×Spec):=[(240,sh)]
noncomputable def si:Spec:=sK IW 279
theorem IX:aS Tryz.prog gl 279 si:=bg (aP Cf bx)
theorem IY:∀(y:Int) h,(0<=y/\y<18446744073709551616)->si [.uV y] h=some ⟨.iV (64-cj y:Nat),h,[]⟩:=fun x h hx=>bP (Ud (M:=aX Tryz.prog FT IW) bj x hx fun h=>Cg x h hx) rfl rfl rfl h
noncomputable def IZ:List (Nat×Spec):=[(279,si)]
noncomputable def vF:Spec:=sK IZ 278
theorem VW:aS Tryz.prog gl 278 vF:=bg (aP IX bx)
theorem VX:∀(hi lo y:Int) h,(0<y/\y<18446744073709551616)->(0<=hi/\hi<y)->(0<=lo/\lo<18446744073709551616)->vF [.uV hi,.uV lo,.uV y] h=some ⟨.aq [.uV ((hi*18446744073709551616+lo)/y),.uV ((hi*18446744073709551616+lo)%y)],h,[]⟩:=fun hi lo y h hy hh hl=>
 bP (Uh (M:=aX Tryz.prog FT IZ) bj hi lo y hy hh hl fun h=>IY y h ⟨by omega,hy.2⟩) rfl rfl rfl h
noncomputable def vG:Spec:=sL qk 249
noncomputable def vH:Spec:=sL qk 251
noncomputable def vI:Spec:=sL qk 248
noncomputable def oe:Spec:=sL [] 250
theorem VY:aS Tryz.prog gl 249 vG:=iX vD
theorem VZ:aS Tryz.prog gl 251 vH:=iX vD
theorem Wa:aS Tryz.prog gl 248 vI:=iX vD
theorem Ja:aS Tryz.prog gl 250 oe:=iX bx
theorem Wb:∀x l y m,db x l->db y m->okW wB l->okW wB m->l.length<=500000->m.length<=500000->∃r,okW wB r/\az r/\WV wB r=WV wB l+WV wB m/\∀h,vG [x,y] h=some ⟨.vs (ah r) r.length none,h,[]⟩:=fun x l y m hx hy o1 o2 l1 l2=>by
 obtain⟨r,h1,h2,h3,h4⟩:=(TP (c1:=none) (c2:=none) Ce.c.tomC l m o1 o2 (by omega) (by omega)).eq;exact⟨r,h1,h2,h3,fun h=>h4 h (.cons hx.gB (.cons hy.gB .nil))⟩
theorem Wc:∀x l y m,db x l->db y m->okW wB l->okW wB m->az l->az m->l.length<=500000->m.length<=500000->WV wB m<=WV wB l->∃r,okW wB r/\az r/\WV wB r=WV wB l-WV wB m/\∀h,vH [x,y] h=some ⟨.vs (ah r) r.length none,h,[]⟩:=fun x l y m hx hy o1 o2 n1 n2 l1 l2 hle=>by
 have hlen:m.length<=l.length:=by
  rcases Nat.lt_or_ge l.length m.length with h|h
  . have:=nY (b:=wB) (by decide) o1 o2 n2 h;omega
  . exact h
 obtain⟨r,h1,h2,h3,h4⟩:=(TV (c1:=none) (c2:=none) Ce.c.tomC l m o1 o2 (by omega) hlen hle).eq;exact⟨r,h1,h2,h3,fun h=>h4 h (.cons hx.gB (.cons hy.gB .nil))⟩
theorem Wd:∀x l y m,db x l->db y m->okW wB l->okW wB m->l.length<=500000->m.length<=500000->∃r,okW wB r/\az r/\WV wB r=WV wB l*WV wB m/\∀h,vI [x,y] h=some ⟨.vs (ah r) r.length none,h,[]⟩:=fun x l y m hx hy o1 o2 l1 l2=>by
 obtain⟨r,h1,h2,h3,h4⟩:=(TX (c1:=none) (c2:=none) Ce.c l m o1 o2 (by omega) (by omega)).eq;exact⟨r,h1,h2,h3,fun h=>h4 h (.cons hx.gB (.cons hy.gB .nil))⟩
theorem Ch {x y:AV}{l m:List Int}{c1 c2:Option Nat}{h:ab}(hx:cT h x (.vs (ah l) l.length c1))(hy:cT h y (.vs (ah m) m.length c2))(o1:okW wB l)(o2:okW wB m)(n1:az l)(n2:az m)(l1:l.length<1000000000)(l2:m.length<1000000000):oe [x,y] h=some ⟨.iV (bD (WV wB l-WV wB m)),h,[]⟩:=
 pL (TO bj l m o1 o2 n1 n2 l1 l2) rfl rfl rfl (.cons hx (.cons hy .nil))
theorem Jb:∀x l y m,db x l->db y m->okW wB l->okW wB m->az l->az m->l.length<=500000->m.length<=500000->∀h,oe [x,y] h=some ⟨.iV (bD (WV wB l-WV wB m)),h,[]⟩:=fun x l y m hx hy o1 o2 n1 n2 l1 l2 h=>
 Ch hx.gB hy.gB o1 o2 n1 n2 (by omega) (by omega)
noncomputable def ql:List (Nat×Spec):=(278,vF)::(250,oe)::(279,si)::qk
theorem Ci:cA Tryz.prog gl (bm ql):=aP VW (aP Ja (aP IX vD))
structure Cj (T:List (Nat×Spec)):Prop extends vE T where
 We:∀ar h,bm T 278 ar h=vF ar h
 Ck:∀ar h,bm T 250 ar h=oe ar h
 Wf:∀ar h,bm T 279 ar h=si ar h
 rR:∀ar h,bm T 280 ar h=none
 vu:∀ar h,bm T 281 ar h=none
theorem Cj.c (E:Cj T):BI (aX Tryz.prog FT T):={ E.tovE.c with
 BG:=fun hi lo y h h1 h2 h3=>(E.We _ _).trans (VX hi lo y h h1 h2 h3)
 pZ:=fun a b c1 c2 h o1 o2 n1 n2 l1 l2=>(E.Ck _ _).trans (Ch (.mA (rT a)) (.mA (rT b)) o1 o2 n1 n2 l1 l2)
 vo:=fun y h hy=>(E.Wf _ _).trans (IY y h hy)
 rR:=E.rR
 vu:=E.vu }
theorem Jc:Cj ql:=by repeat' first|exact fun _ _=>rfl|constructor
noncomputable def vJ:Spec:=sK ql 253
theorem Wg:aS Tryz.prog gl 253 vJ:=bg Ci
theorem Wh:∀x l y m,db x l->db y m->okW wB l->okW wB m->az l->az m->l.length<=500000->m.length<=500000->m≠[]->∃qv q rv r,db qv q/\db rv r/\okW wB q/\az q/\okW wB r/\az r/\WV wB q=WV wB l/WV wB m/\WV wB r=WV wB l%WV wB m/\∀h,vJ [x,y] h=some ⟨.aq [qv,rv],h,[]⟩:=fun x l y m hx hy o1 o2 n1 n2 l1 l2 hm=>by
 have hy':y = .vs (ah m) m.length none:=by
  rcases hy with h|⟨_,h⟩
  . exact h
  . exact absurd h hm
 subst hy';rcases hx with rfl|⟨rfl,rfl⟩
 . exact(Uz Jc.c l m o1 o2 n1 n2 (by omega) (by omega) hm).eq (fq (fV l) (fV m))
 . have hv:=(iu (b:=wB) (by decide) o2 n2).2 hm;have q250:∀h,(aX Tryz.prog FT ql).ext 250 [.ae,.vs (ah m) m.length none] h=some ⟨.iV (-1),h,[]⟩:=fun h=>by
    have:=Jb .ae [] _ m (.inr ⟨rfl,rfl⟩) (.inl rfl) o1 o2 n1 n2 l1 l2 h;rw[show bD (WV wB []-WV wB m) = -1 from if_pos (by simp[WV];omega)]at this;exact this
   exact(UA bj m o2 n2 hm q250).eq (fq rfl (fV m))
def Wi (ar:List AV):Prop:=∃l c y,ar=[.vs (ah l) l.length c,y]/\WV wB l<1000000000000000000
noncomputable def qm:Spec:=rG Wi (AW Tryz.prog FT ql 253) (sL ql 253)
theorem Wj:aS Tryz.prog gl 253 qm:=So (Sm nU Ci) (iX Ci)
theorem Jd {h:ab}{b:Nat}{a:AV}{e:TypeId}{cp:Option Nat}(ha:uH a=true)(hb:h.at b=some (.cells [a] e)):cT h (.sl b 0 1 1 cp) (.vs [a] 1 none):=
 .sl (m:=[a]) hb rfl rfl fun i x y hx hy=>by
  match i,hx,hy with
  | 0,hx,hy=>cases hx;cases hy;exact .atom ha
def eW:List Int:=[1000000000000000000]
theorem oh:okW wB eW/\az eW/\WV wB eW=1000000000000000000:=⟨by intro x hx;rw[List.mem_singleton.1 hx];decide,(rN (l:=eW) (by simp[eW])).2 (by simp[eW]),by decide⟩
theorem Wk:∀(l:List Int) (b:Nat) c h,okW wB l->az l->l.length<=500000->WV wB l<1000000000000000000->h.at b=some (.cells (ah [1000000000000000000]) 246)->qm [.vs (ah l) l.length none,.sl b 0 1 1 c] h=some ⟨.aq [.ae,.vs (ah l) l.length none],h,[]⟩:=fun l b c h ok nr hl hv hb=>by
 unfold qm;rw[Sp ⟨l,none,_,rfl,hv⟩];refine Sn (UB bj l _ h ?_);have:=Ch (x:=.vs (ah l) l.length none) (y:=.sl b 0 1 1 c) (l:=l) (m:=eW) (c1:=none) (c2:=none) (h:=h) (.mA (rT l)) (Jd rfl hb) ok oh.1 nr oh.2.1 (by omega) (by decide);rw[oh.2.2,show bD (WV wB l-1000000000000000000) = -1 from if_pos (by omega)]at this;exact this
theorem Wl:∀(l:List Int) (b:Nat) c h,okW wB l->az l->l.length<=500000->¬WV wB l<1000000000000000000->h.at b=some (.cells (ah [1000000000000000000]) 246)->∃q r,okW wB q/\az q/\okW wB r/\az r/\WV wB q=WV wB l/1000000000000000000/\WV wB r=WV wB l%1000000000000000000/\qm [.vs (ah l) l.length none,.sl b 0 1 1 c] h=some ⟨.aq [.vs (ah q) q.length none,.vs (ah r) r.length none],h,[]⟩:=fun l b c h ok nr hl hv hb=>by
 obtain⟨q,r,⟨h1,h2,h3⟩,⟨h4,h5,h6⟩,v,hh,⟨v1,f,t,k⟩,hr⟩:=UD (c1:=none) (c2:=none) Jc.c l eW ok oh.1 nr oh.2.1 (by omega) rfl (by rw[oh.2.2];exact hv);rw[oh.2.2]at h3 h6;refine⟨q,r,h1,h2,h4,h5,h3,h6,?_⟩;unfold qm;rw[Sq]
 . exact lh (.cons (.mA (rT l)) (.cons (Jd rfl hb) .nil)) ⟨v,hh,v1,hr,f,t,k⟩
 . rintro⟨l',c',y,e,hlt⟩;simp only[List.cons.injEq,AV.vs.injEq]at e;have:=Hj (f:=uC) (esz:=1) (fun _=>rfl) (fun a b hab=>by simpa[uC] using hab) e.1.2.1 e.1.1;subst this;exact hv hlt
noncomputable def sm:Spec:=sK [] 245
theorem Je:aS Tryz.prog gl 245 sm:=bg bx
theorem Jf:∀s h,(-9223372036854775808<=s/\s<9223372036854775808)->sm [.iV s] h=some ⟨.uV (ak s),h,[]⟩:=fun s h hs=>bP (UE bj s hs) rfl rfl rfl h
noncomputable def Jg:List (Nat×Spec):=[(245,sm)]
noncomputable def vK:Spec:=sK Jg 246
theorem Wm:aS Tryz.prog gl 246 vK:=bg (aP Je bx)
theorem Wn:∀v z,aw v z->∃x l,db x l/\okW wB l/\az l/\WV wB l=ak z/\∀h,vK [v] h=some ⟨.aq [.bool (decide (z<0)),x],h,[]⟩:=fun v z hv=>by
 obtain⟨x,l,h1,h2,h3,h4,h5⟩:=UF (M:=aX Tryz.prog FT Jg) bj (fun s h hs=>Jf s h hs) hv;exact⟨x,l,h1,h2,h3,h4,dx h5 (gM hv.top)⟩
noncomputable def vM:Spec:=sK [] 247
theorem Wo:aS Tryz.prog gl 247 vM:=bg bx
theorem Wp:∀neg x l,db x l->okW wB l->az l->l.length<=1000001->∃v0,aw v0 (fK neg (WV wB l))/\∀h,vM [.bool neg,x] h=some ⟨v0,h,[]⟩:=fun neg x l hx ok nr hl=>by
 obtain⟨v0,h1,h2⟩:=UG (M:=aX Tryz.prog FT []) bj neg hx ok nr (by omega);exact⟨v0,h1,dx h2 (fq rfl hx.top)⟩
noncomputable def TI:List (Nat×Spec):=[(245,sm),(244,mJ),(246,vK),(247,vM),(249,vG),(251,vH),(248,vI),(250,oe)]
theorem qn:cA Tryz.prog gl (bm TI):=aP Je (aP Cb (aP Wm (aP Wo (aP VY (aP VZ (aP Wa (aP Ja bx)))))))
structure EI (T:List (Nat×Spec)):Prop where
 Wq:∀ar h,bm T 245 ar h=sm ar h
 Cd:∀ar h,bm T 244 ar h=mJ ar h
 Wr:∀ar h,bm T 246 ar h=vK ar h
 Ws:∀ar h,bm T 247 ar h=vM ar h
 Wt:∀ar h,bm T 249 ar h=vG ar h
 Wu:∀ar h,bm T 251 ar h=vH ar h
 Wv:∀ar h,bm T 248 ar h=vI ar h
 Ck:∀ar h,bm T 250 ar h=oe ar h
theorem EI.c (E:EI T){N:Nat}(hN:N<=500000):CI (aX Tryz.prog FT T) N where
 ft:=bj
 lN:=hN
 rU:=by simp only[fN,E.Wq];exact Jf
 nZ:=by simp only[fN,E.Cd];exact Cc
 km:=by simp only[fN,E.Wr];exact Wn
 jJ:=by simp only[fN,E.Ws];exact Wp
 Iw:=by simp only[fN,E.Wt];exact Wb
 BN:=by simp only[fN,E.Wu];exact Wc
 Ix:=by simp only[fN,E.Wv];exact Wd
 pZ:=by simp only[fN,E.Ck];exact Jb
theorem eI:EI TI:=by repeat' first|exact fun _ _=>rfl|constructor
noncomputable def vN:Spec:=sK TI 216
noncomputable def vO:Spec:=sK TI 202
noncomputable def vP:Spec:=sK TI 198
noncomputable def vW:Spec:=sK [] 211
noncomputable def vY:Spec:=sK [] 168
theorem Ww:aS Tryz.prog gl 216 vN:=bg qn
theorem Wx:aS Tryz.prog gl 202 vO:=bg qn
theorem Wy:aS Tryz.prog gl 198 vP:=bg qn
theorem Wz:aS Tryz.prog gl 211 vW:=bg bx
theorem WA:aS Tryz.prog gl 168 vY:=bg bx
def P1 (sp:Spec)(N:Nat)(f:Int->Int):Prop:=∀v z,aw v z->ak z<wB^N->∃v0,aw v0 (f z)/\∀h,sp [v] h=some ⟨v0,h,[]⟩
def P2 (sp:Spec)(N:Nat)(f:Int->Int->Int):Prop:=∀a b x y,aw a x->aw b y->ak x<wB^N->ak y<wB^N->∃v0,aw v0 (f x y)/\∀h,sp [a,b] h=some ⟨v0,h,[]⟩
theorem P1.op {sp:Spec}{N g:Nat}{f:Int->Int}(p:P1 sp N f)(e:∀ar h,bm T g ar h=sp ar h):Op1 (aX Tryz.prog FT T) N g f:=fun v z hv hz=>by
 obtain⟨v0,h1,h2⟩:=p v z hv hz;exact⟨v0,h1,fun h=>(e _ _).trans (h2 h)⟩
theorem P2.op {sp:Spec}{N g:Nat}{f:Int->Int->Int}(p:P2 sp N f)(e:∀ar h,bm T g ar h=sp ar h):vy (aX Tryz.prog FT T) N g f:=fun a b x y ha hb hx hy=>by
 obtain⟨v0,h1,h2⟩:=p a b x y ha hb hx hy;exact⟨v0,h1,fun h=>(e _ _).trans (h2 h)⟩
theorem WB {N:Nat}(hN:N<=500000):P1 vN N (fun z=>-z):=fun v z hv hz=>by
 obtain⟨v0,h1,h2⟩:=UM (eI.c hN) hv hz;exact⟨v0,h1,dx h2 (gM hv.top)⟩
theorem WE {N:Nat}(hN:N<=500000):P2 vO N (· + ·):=fun a b x y ha hb hx hy=>by
 obtain⟨v0,h1,h2⟩:=US (eI.c hN) ha hb hx hy;exact⟨v0,h1,dx h2 (fq ha.top hb.top)⟩
theorem WG {N:Nat}(hN:N<=500000):P2 vP N (· * ·):=fun a b x y ha hb hx hy=>by
 obtain⟨v0,h1,h2⟩:=Va (eI.c hN) ha hb hx hy;exact⟨v0,h1,dx h2 (fq ha.top hb.top)⟩
theorem WH:∀v z,aw v z->∀h,vW [v] h=some ⟨.iV (bD z),h,[]⟩:=fun v z hv h=>bP (UN bj hv) (gM hv.top) rfl rfl h
theorem WI:∀s h,vY [.iV s] h=some ⟨.agg [.iV s,.ae],h,[]⟩:=fun s h=>(UX bj s).eq rfl
noncomputable def vZ:List (Nat×Spec):=(216,vN)::(202,vO)::TI
theorem Jh:cA Tryz.prog gl (bm vZ):=aP Ww (aP Wx qn)
structure wc (T:List (Nat×Spec)):Prop extends EI T where
 WJ:∀ar h,bm T 216 ar h=vN ar h
 WK:∀ar h,bm T 202 ar h=vO ar h
theorem wc.c (E:wc T){N:Nat}(hN:N<=500000):BO (aX Tryz.prog FT T) N:={ E.toEI.c hN with lF:=(WB hN).op E.WJ,qi:=(WE hN).op E.WK }
theorem WL:wc vZ:=by repeat' first|exact fun _ _=>rfl|constructor
noncomputable def we:Spec:=sK vZ 217
theorem WM:aS Tryz.prog gl 217 we:=bg Jh
theorem WN {N:Nat}(hN:N<=500000):P2 we N (· - ·):=fun a b x y ha hb hx hy=>by
 obtain⟨v0,h1,h2⟩:=UT (WL.c hN) ha hb hx hy;exact⟨v0,h1,dx h2 (fq ha.top hb.top)⟩
noncomputable def TJ:List (Nat×Spec):=(217,we)::(211,vW)::vZ
theorem wh:cA Tryz.prog gl (bm TJ):=aP WM (aP Wz Jh)
structure EJ (T:List (Nat×Spec)):Prop extends wc T where
 WQ:∀ar h,bm T 217 ar h=we ar h
 WR:∀ar h,bm T 211 ar h=vW ar h
theorem EJ.c (E:EJ T){N:Nat}(hN:N<=500000):CJ (aX Tryz.prog FT T) N:={ E.towc.c hN with BP:=(WN hN).op E.WQ,od:=fun v z hv h=>(E.WR _ _).trans (WH v z hv h) }
theorem eJ:EJ TJ:=by repeat' first|exact fun _ _=>rfl|constructor
noncomputable def wi:Spec:=sK TJ 210
noncomputable def wj:Spec:=sK TJ 167
noncomputable def wk:Spec:=sK TJ 199
theorem WS:aS Tryz.prog gl 210 wi:=bg wh
theorem WT:aS Tryz.prog gl 167 wj:=bg wh
theorem WU:aS Tryz.prog gl 199 wk:=bg wh
theorem WW {N:Nat}(hN:N<=500000):P1 wi N ak:=fun v z hv hz=>by
 obtain⟨v0,h1,h2⟩:=UU (eJ.c hN) hv hz;exact⟨v0,h1,dx h2 (gM hv.top)⟩
theorem WX {N:Nat}(hN:N<=500000):∀a b x y,aw a x->aw b y->ak x<wB^N->ak y<wB^N->∀h,wj [a,b] h=some ⟨.iV (bD (x-y)),h,[]⟩:=fun a b x y ha hb hx hy=>
 dx (UW (eJ.c hN) ha hb hx hy) (fq ha.top hb.top)
theorem WY {N:Nat}(hN:N<=500000):∀v q,bI v q->Bq N q->∃v0,bI v0 (-q)/\∀h,wk [v] h=some ⟨v0,h,[]⟩:=fun v q hv lq=>by
 obtain⟨v0,h1,h2⟩:=VG (eJ.c hN) hv lq;exact⟨v0,h1,dx h2 (gM hv.top)⟩
noncomputable def TD:List (Nat×Spec):=(168,vY)::(253,vJ)::TJ
theorem Cl:cA Tryz.prog gl (bm TD):=aP WA (aP Wg wh)
structure ED (T:List (Nat×Spec)):Prop extends EJ T where
 WZ:∀ar h,bm T 168 ar h=vY ar h
 Xa:∀ar h,bm T 253 ar h=vJ ar h
theorem ED.c (E:ED T){N:Nat}(h1:1<=N)(hN:N<=500000):CD (aX Tryz.prog FT T) N:={ E.toEJ.c hN with
 n1:=h1
 mH:=fun s h=>(E.WZ _ _).trans (WI s h)
 IB:=by simp only[fN,E.Xa];exact Wh }
theorem eD:ED TD:=by repeat' first|exact fun _ _=>rfl|constructor
noncomputable def wm:Spec:=sK TD 205
noncomputable def sn:Spec:=sK TD 159
theorem Xb:aS Tryz.prog gl 205 wm:=bg Cl
theorem Ji:aS Tryz.prog gl 159 sn:=bg Cl
theorem Xc {N:Nat}(h1:1<=N)(hN:N<=500000):∀a b x y,aw a x->aw b y->ak x<wB^N->ak y<wB^N->0<y->∃q r,aw q (x/y)/\aw r (x%y)/\∀h,wm [a,b] h=some ⟨.aq [q,r],h,[]⟩:=fun a b x y ha hb hx hy h0=>by
 obtain⟨q,r,k1,k2,k3⟩:=Vf (eD.c h1 hN) ha hb hx hy h0;exact⟨q,r,k1,k2,dx k3 (fq ha.top hb.top)⟩
theorem iE.top {v:AV}{n d:Int}(h:iE v n d):v.top=0:=by
 obtain⟨s,w,s',w',rfl,h1,h2⟩:=h;have t1:=h1.one.2.1;have t2:=h2.one.2.1;simp[AV.top,bk,t1,t2]
theorem Jj:∀v z,aw v z->∃v0,iE v0 z 1/\∀h,sn [v] h=some ⟨v0,h,[]⟩:=fun v z hv=>by
 obtain⟨v0,h1,h2⟩:=Vr (eD.c (N:=1) (by decide) (by decide)) hv;exact⟨v0,h1,dx h2 (gM hv.top)⟩
noncomputable def TQ:List (Nat×Spec):=(205,wm)::TD
theorem Cm:cA Tryz.prog gl (bm TQ):=aP Xb Cl
structure EQ (T:List (Nat×Spec)):Prop extends ED T where
 Xd:∀ar h,bm T 205 ar h=wm ar h
theorem EQ.c (E:EQ T){N:Nat}(h1:1<=N)(hN:N<=500000):CQ (aX Tryz.prog FT T) N:={ E.toED.c h1 hN with rY:=by simp only[fN,E.Xd];exact Xc h1 hN }
theorem eQ:EQ TQ:=by repeat' first|exact fun _ _=>rfl|constructor
noncomputable def wq:Spec:=sK TQ 252
theorem Xe:aS Tryz.prog gl 252 wq:=bg Cm
theorem Xf {N:Nat}(h1:1<=N)(hN:N<=500000):∀a b x y k,aw a x->aw b y->ak x<wB^N->ak y<wB^N->y≠0->x=y*k->∃v0,aw v0 k/\∀h,wq [a,b] h=some ⟨v0,h,[]⟩:=fun a b x y k ha hb hx hy h0 hk=>by
 obtain⟨v0,k1,k2⟩:=Vg (eQ.c h1 hN) ha hb hx hy h0 hk;exact⟨v0,k1,dx k2 (fq ha.top hb.top)⟩
noncomputable def TF:List (Nat×Spec):=(159,sn)::(167,wj)::(198,vP)::TQ
theorem wu:cA Tryz.prog gl (bm TF):=aP Ji (aP WT (aP Wy Cm))
structure EF (T:List (Nat×Spec)):Prop extends EQ T where
 Xg:∀ar h,bm T 159 ar h=sn ar h
 Xh:∀ar h,bm T 167 ar h=wj ar h
 Xi:∀ar h,bm T 198 ar h=vP ar h
theorem EF.c (E:EF T){N:Nat}(h1:1<=N)(hN:N<=500000):CF (aX Tryz.prog FT T) N:={ E.toEQ.c h1 hN with
 vz:=by simp only[fN,E.Xg];exact Jj
 IP:=by simp only[fN,E.Xh];exact WX hN
 lG:=(WG hN).op E.Xi }
theorem eF:EF TF:=by repeat' first|exact fun _ _=>rfl|constructor
noncomputable def TG:List (Nat×Spec):=(210,wi)::TQ
theorem Jk:cA Tryz.prog gl (bm TG):=aP WS Cm
structure EG (T:List (Nat×Spec)):Prop extends EQ T where
 Xj:∀ar h,bm T 210 ar h=wi ar h
theorem EG.c (E:EG T){N:Nat}(h1:1<=N)(hN:N<=500000):CG (aX Tryz.prog FT T) N:={ E.toEQ.c h1 hN with BX:=(WW hN).op E.Xj }
theorem eG:EG TG:=by repeat' first|exact fun _ _=>rfl|constructor
noncomputable def sr:Spec:=sK TG 165
theorem Jl:aS Tryz.prog gl 165 sr:=bg Jk
theorem Jm {N:Nat}(h1:1<=N)(hN:N<=500000):∀a b x y,aw a x->aw b y->ak x<wB^N->ak y<wB^N->∃v0,aw v0 (Int.gcd x y:Nat)/\∀h,sr [a,b] h=some ⟨v0,h,[]⟩:=fun a b x y ha hb hx hy=>by
 obtain⟨v0,k1,k2⟩:=Vz (eG.c h1 hN) ha hb hx hy;exact⟨v0,k1,dx k2 (fq ha.top hb.top)⟩
noncomputable def TR:List (Nat×Spec):=(165,sr)::(252,wq)::TG
theorem Xk:cA Tryz.prog gl (bm TR):=aP Jl (aP Xe Jk)
structure ER (T:List (Nat×Spec)):Prop extends EG T where
 Xl:∀ar h,bm T 165 ar h=sr ar h
 Xm:∀ar h,bm T 252 ar h=wq ar h
theorem ER.c (E:ER T){N:Nat}(h1:1<=N)(hN:N<=500000):CR (aX Tryz.prog FT T) N:={ E.toEG.c h1 hN with
 sc:=by simp only[fN,E.Xl];exact Jm h1 hN
 BY:=by simp only[fN,E.Xm];exact Xf h1 hN }
theorem eR:ER TR:=by repeat' first|exact fun _ _=>rfl|constructor
noncomputable def wv:Spec:=sK TR 203
theorem Xn:aS Tryz.prog gl 203 wv:=bg Xk
theorem Xo {N:Nat}(h1:1<=N)(hN:N<=500000):∀a b n d,aw a n->aw b d->ak n<wB^N->ak d<wB^N->d≠0->∃v0,bI v0 (Rat.divInt n d)/\∀h,wv [a,b] h=some ⟨v0,h,[]⟩:=fun a b n d ha hb hn hd h0=>by
 obtain⟨v0,k1,k2⟩:=VB (eR.c h1 hN) ha hb hn hd h0;exact⟨v0,k1,dx k2 (fq ha.top hb.top)⟩
noncomputable def TS:List (Nat×Spec):=(203,wv)::TF
theorem wx:cA Tryz.prog gl (bm TS):=aP Xn wu
structure ES (T:List (Nat×Spec)):Prop extends EF T where
 Xp:∀ar h,bm T 203 ar h=wv ar h
theorem ES.c (E:ES T){N:Nat}(h1:1<=N)(hN:N<=200000):CS (aX Tryz.prog FT T) N (2*N+1):={ E.toEF.c h1 (show N<=500000 by omega) with
  eZ:=E.toEF.c (by omega) (by omega)
  hN:=Nat.le_refl _
  vC:=by simp only[fN,E.Xp];exact Xo (by omega) (by omega) }
theorem eS:ES TS:=by repeat' first|exact fun _ _=>rfl|constructor
noncomputable def wy:Spec:=sK TS 152
noncomputable def Cn:Spec:=sK TS 160
noncomputable def wz:Spec:=sK TS 200
noncomputable def ss:Spec:=sK [] 201
theorem Xq:aS Tryz.prog gl 152 wy:=bg wx
theorem Xr:aS Tryz.prog gl 160 Cn:=bg wx
theorem Xs:aS Tryz.prog gl 200 wz:=bg wx
theorem Jn:aS Tryz.prog gl 201 ss:=bg bx
theorem Xt {N:Nat}(h1:1<=N)(hN:N<=200000):∀a b p q,bI a p->bI b q->Bq N p->Bq N q->∃v0,bI v0 (p*q)/\∀h,wy [a,b] h=some ⟨v0,h,[]⟩:=fun a b p q ha hb lp lq=>by
 obtain⟨v0,k1,k2⟩:=VC (eS.c h1 hN) ha hb lp lq;exact⟨v0,k1,dx k2 (fq ha.top hb.top)⟩
theorem Xu {N:Nat}(h1:1<=N)(hN:N<=200000):∀v q,bI v q->Bq N q->∃v0,aw v0 (q.num/q.den)/\∀h,Cn [v] h=some ⟨v0,h,[]⟩:=fun v q hv lq=>by
 obtain⟨v0,k1,k2⟩:=VM (eS.c h1 hN) hv lq;exact⟨v0,k1,dx k2 (gM hv.top)⟩
theorem Xv {N:Nat}(h1:1<=N)(hN:N<=200000):∀v q,bI v q->Bq N q->q≠0->∃v0,bI v0 q⁻¹/\∀h,wz [v] h=some ⟨v0,h,[]⟩:=fun v q hv lq h0=>by
 obtain⟨v0,k1,k2⟩:=VJ (eS.c h1 hN) hv lq h0;exact⟨v0,k1,dx k2 (gM hv.top)⟩
theorem Jo:∀v q,bI v q->∀h,ss [v] h=some ⟨.bool (decide (q.den=1)),h,[]⟩:=fun v q hv=>dx (VD bj hv) (gM hv.top)
noncomputable def wA:List (Nat×Spec):=(201,ss)::TS
theorem Jp:cA Tryz.prog gl (bm wA):=aP Jn wx
structure wC (T:List (Nat×Spec)):Prop extends ES T where
 Xw:∀ar h,bm T 201 ar h=ss ar h
theorem wC.c (E:wC T){N:Nat}(h1:1<=N)(hN:N<=200000):BZ (aX Tryz.prog FT T) N (2*N+1):={ E.toES.c h1 hN with mI:=by simp only[fN,E.Xw];exact Jo }
theorem Xx:wC wA:=by repeat' first|exact fun _ _=>rfl|constructor
noncomputable def wD:Spec:=sK wA 151
theorem Xy:aS Tryz.prog gl 151 wD:=bg Jp
theorem Xz {N:Nat}(h1:1<=N)(hN:N<=200000):∀a b p q,bI a p->bI b q->Bq N p->Bq N q->∃v0,bI v0 (p+q)/\∀h,wD [a,b] h=some ⟨v0,h,[]⟩:=fun a b p q ha hb lp lq=>by
 obtain⟨v0,k1,k2⟩:=VF (Xx.c h1 hN) ha hb lp lq;exact⟨v0,k1,dx k2 (fq ha.top hb.top)⟩
noncomputable def TU:List (Nat×Spec):=(199,wk)::(200,wz)::(151,wD)::(152,wy)::wA
theorem XA:cA Tryz.prog gl (bm TU):=aP WU (aP Xs (aP Xy (aP Xq Jp)))
structure EU (T:List (Nat×Spec)):Prop extends wC T where
 XB:∀ar h,bm T 199 ar h=wk ar h
 XC:∀ar h,bm T 200 ar h=wz ar h
 XD:∀ar h,bm T 151 ar h=wD ar h
 XE:∀ar h,bm T 152 ar h=wy ar h
theorem EU.c (E:EU T){N:Nat}(h1:1<=N)(hN:N<=200000):CU (aX Tryz.prog FT T) N (2*N+1):={ E.towC.c h1 hN with
 VH:=by simp only[fN,E.XB];exact WY (by omega)
 IT:=by simp only[fN,E.XC];exact Xv h1 hN
 VI:=by simp only[fN,E.XD];exact Xz h1 hN
 IU:=by simp only[fN,E.XE];exact Xt h1 hN }
theorem eU:EU TU:=by repeat' first|exact fun _ _=>rfl|constructor
noncomputable def Co:Spec:=sK TU 150
theorem XF:aS Tryz.prog gl 150 Co:=bg XA
theorem XG {N:Nat}(h1:1<=N)(hN:N<=200000):∀a b p q,bI a p->bI b q->Bq N p->Bq N q->Bq N q⁻¹->q≠0->∃v0,bI v0 (p*q⁻¹)/\∀h,Co [a,b] h=some ⟨v0,h,[]⟩:=fun a b p q ha hb lp lq li h0=>by
 obtain⟨v0,k1,k2⟩:=VK (eU.c h1 hN) ha hb lp lq li h0;exact⟨v0,k1,dx k2 (fq ha.top hb.top)⟩
end Go.Ab.Ch1

/-
  Own work: the code of functions: decimal texts of machine integers.
-/
namespace Go.Ab.Ch1
set_option maxRecDepth 1000000
def Jq:al:=zR [⟨.p 1,.mv (.c (.str [])),none⟩] (zR [zm 3 0,z1 4 226 3,zw 1 4] (.ret))
theorem XH:FT 183=some ⟨5,[0,2],[.var (.p 1)],Jq⟩:=by kernel_rfl
def Jr:al:=zR [⟨.p 1,.mv (.c (.str [])),none⟩] (zR [zm 3 0,⟨.l 4,.call (kF 267) [(.l 3),(kI 10)],none⟩,zw 1 4] (.ret))
theorem XI:FT 226=some ⟨5,[0,2],[.var (.p 1)],Jr⟩:=by kernel_rfl
def Js:al:=zR [⟨.p 1,.mv (.c (.str [])),none⟩] (.seq (zR [zm 3 0,zc 4 .lss 3 10] (.cond (.l 4) (zR [zm 5 0,zm 6 0,zc 7 .add 6 1,⟨.l 8,.slice .str 1 (.c (.str zD2)) (some (.l 5)) (some (.l 7)) none,none⟩,zw 1 8] (.ret)) (.skip))) (zR [zm 9 0,zc 10 .mul 9 2,zm 11 0,zc 12 .mul 11 2,zc 13 .add 12 2,⟨.l 14,.slice .str 1 (.c (.str zD1)) (some (.l 10)) (some (.l 13)) none,none⟩,zw 1 14] (.ret)))
theorem XJ:FT 304=some ⟨15,[0,2],[.var (.p 1)],Js⟩:=by kernel_rfl
def Jt:al:=zR [⟨.p 2,.mv (.c (.str [])),none⟩] (.seq (zR [zm 10 1,zc 11 .eql 10 10] (.cond (.l 11) (.seq (zR [zm 12 0,⟨.l 13,.bin .leq (kI 0) (.l 12),none⟩,zn 14 13,zg (zm 15 0) 14 true,zg (zc 16 .lss 15 100) 14 true,zp 17 14 16] (.cond (.l 17) (zR [zm 18 0,z1 19 304 18,zw 2 19] (.ret)) (.skip))) (zR [⟨.p 3,.alloc 301 [.int .u8 (0),.int .u8 (0),.int .u8 (0),.int .u8 (0),.int .u8 (0),.int .u8 (0),.int .u8 (0),.int .u8 (0),.int .u8 (0),.int .u8 (0),.int .u8 (0),.int .u8 (0),.int .u8 (0),.int .u8 (0),.int .u8 (0),.int .u8 (0),.int .u8 (0),.int .u8 (0),.int .u8 (0),.int .u8 (0),.int .u8 (0),.int .u8 (0),.int .u8 (0),.int .u8 (0)],none⟩] (zR [zm 20 0,⟨.l 21,.dz .u64 (.l 20),none⟩,zw 4 21] (.seq (zR [zm 22 0,zc 23 .lss 22 0] (.cond (.l 23) (.region [zm 24 4,⟨.l 25,.un .neg (.l 24),none⟩,zw 4 25]) (.skip))) (zR [zm 26 4,z1 27 305 26,zw 5 27] (zR [zm 28 5,⟨.l 29,.bin .add (kI 1) (.l 28),none⟩,⟨.l 30,.ix 24 1 (.p 3) (some (kI 1)) (some (.l 29)),none⟩,zm 31 4,z2 32 306 30 31] (.seq (zR [zm 33 0,zc 34 .lss 33 0] (.cond (.l 34) (zR [⟨.l 35,.cP (some 24) 1 (.p 3) (kI 0),none⟩,⟨.no,.store 1 (.l 35) (.c (.int .u8 (45))),none⟩] (zR [zm 36 5,⟨.l 37,.bin .add (kI 1) (.l 36),none⟩,⟨.l 38,.ix 24 1 (.p 3) none (some (.l 37)),none⟩,⟨.l 39,.kE (.l 38),none⟩,zw 2 39] (.ret))) (.skip))) (zR [zm 40 5,⟨.l 41,.bin .add (kI 1) (.l 40),none⟩,⟨.l 42,.ix 24 1 (.p 3) (some (kI 1)) (some (.l 41)),none⟩,⟨.l 43,.kE (.l 42),none⟩,zw 2 43] (.ret))))))))) (.skip))) (zR [zm 45 0,⟨.l 46,.dz .u64 (.l 45),none⟩,zm 47 1,zm 48 0,zc 49 .lss 48 0,⟨.l 50,.call (kF 307) [(.c (.ae)),(.l 46),(.l 47),(.l 49),(.c (.bool false))],none⟩,zn 44 50,ze 51 0 44,ze 52 1 44,zn 8 51,zw 6 52] (zR [zm 53 6,zw 2 53] (.ret))))
theorem XL:FT 267=some ⟨54,[0,1,4,5,6,7,9],[.var (.p 2)],Jt⟩:=by kernel_rfl
def Ju:al:=zR [zi 1 0] (zR [zm 4 0,z1 5 240 4,z1 6 324 5,zw 2 6] (zR [zm 7 2,zm 8 0,zm 9 2,⟨.l 10,.cP (some 20) 1 (.c (.vp [.uV (1),.uV (10),.uV (100),.uV (1000),.uV (10000),.uV (100000),.uV (1000000),.uV (10000000),.uV (100000000),.uV (1000000000),.uV (10000000000),.uV (100000000000),.uV (1000000000000),.uV (10000000000000),.uV (100000000000000),.uV (1000000000000000),.uV (10000000000000000),.uV (100000000000000000),.uV (1000000000000000000),.uV (10000000000000000000)])) (.l 9),none⟩,zd 11 1 10,zb 12 .geq 8 11,z1 13 325 12,zb 14 .add 7 13,zw 1 14] (.ret)))
theorem XM:FT 305=some ⟨15,[0,2,3],[.var (.p 1)],Ju⟩:=by kernel_rfl
def wE:al:=.seq (zR [zm 19 2,zc 20 .geq 19 8] (.cond (.l 20) (.skip) (.exit 0))) (.block 1 (zR [zm 21 1,⟨.l 22,.bin .rem (.l 21) (kU 100000000),none⟩,⟨.l 23,.dz .u32 (.l 22),none⟩,zw 3 23] (zR [zm 24 1,⟨.l 25,.bin .quo (.l 24) (kU 100000000),none⟩,zw 1 25] (zR [zm 26 3,⟨.l 27,.bin .quo (.l 26) (kW 10000),none⟩,zm 28 3,⟨.l 29,.bin .rem (.l 28) (kW 10000),none⟩,zw 4 27,zw 5 29] (zR [zm 30 5,⟨.l 31,.bin .quo (.l 30) (kW 100),none⟩,⟨.l 32,.bin .mul (.l 31) (kW 2),none⟩,zm 33 5,⟨.l 34,.bin .rem (.l 33) (kW 100),none⟩,⟨.l 35,.bin .mul (.l 34) (kW 2),none⟩,zw 6 32,zw 7 35] (zR [zm 36 4,⟨.l 37,.bin .quo (.l 36) (kW 100),none⟩,⟨.l 38,.bin .mul (.l 37) (kW 2),none⟩,zm 39 4,⟨.l 40,.bin .rem (.l 39) (kW 100),none⟩,⟨.l 41,.bin .mul (.l 40) (kW 2),none⟩,zw 8 38,zw 9 41] (.seq (.draw [(zm 42 0,[]),(zm 43 2,[0]),(zc 44 .sub 43 1,[0]),(zm 45 0,[0,1,2]),(zm 46 2,[0,1,2,3]),(zc 47 .sub 46 2,[0,1,2,3]),(zm 48 7,[0,1,2,3,4,5]),(⟨.l 49,.bin .add (.l 48) (kW 1),none⟩,[0,1,2,3,4,5]),(⟨.l 50,.index (.c (.str zD1)) (.l 49),none⟩,[0,1,2,3,4,5]),(zm 51 7,[0,1,2,3,4,5,6,7,8]),(⟨.l 52,.index (.c (.str zD1)) (.l 51),none⟩,[0,1,2,3,4,5,6,7,8]),(za 53 1 42 44,[3,4,5,9,10]),(zS 1 53 50,[3,4,5,9,10]),(za 54 1 45 47,[]),(zS 1 54 52,[])]) (.seq (.draw [(zm 55 0,[]),(zm 56 2,[0]),(zc 57 .sub 56 3,[0]),(zm 58 0,[0,1,2]),(zm 59 2,[0,1,2,3]),(zc 60 .sub 59 4,[0,1,2,3]),(zm 61 6,[0,1,2,3,4,5]),(⟨.l 62,.bin .add (.l 61) (kW 1),none⟩,[0,1,2,3,4,5]),(⟨.l 63,.index (.c (.str zD1)) (.l 62),none⟩,[0,1,2,3,4,5]),(zm 64 6,[0,1,2,3,4,5,6,7,8]),(⟨.l 65,.index (.c (.str zD1)) (.l 64),none⟩,[0,1,2,3,4,5,6,7,8]),(za 66 1 55 57,[3,4,5,9,10]),(zS 1 66 63,[3,4,5,9,10]),(za 67 1 58 60,[]),(zS 1 67 65,[])]) (.seq (.draw [(zm 68 0,[]),(zm 69 2,[0]),(zc 70 .sub 69 5,[0]),(zm 71 0,[0,1,2]),(zm 72 2,[0,1,2,3]),(zc 73 .sub 72 6,[0,1,2,3]),(zm 74 9,[0,1,2,3,4,5]),(⟨.l 75,.bin .add (.l 74) (kW 1),none⟩,[0,1,2,3,4,5]),(⟨.l 76,.index (.c (.str zD1)) (.l 75),none⟩,[0,1,2,3,4,5]),(zm 77 9,[0,1,2,3,4,5,6,7,8]),(⟨.l 78,.index (.c (.str zD1)) (.l 77),none⟩,[0,1,2,3,4,5,6,7,8]),(za 79 1 68 70,[3,4,5,9,10]),(zS 1 79 76,[3,4,5,9,10]),(za 80 1 71 73,[]),(zS 1 80 78,[])]) (.seq (.draw [(zm 81 0,[]),(zm 82 2,[0]),(zc 83 .sub 82 7,[0]),(zm 84 0,[0,1,2]),(zm 85 2,[0,1,2,3]),(zc 86 .sub 85 8,[0,1,2,3]),(zm 87 8,[0,1,2,3,4,5]),(⟨.l 88,.bin .add (.l 87) (kW 1),none⟩,[0,1,2,3,4,5]),(⟨.l 89,.index (.c (.str zD1)) (.l 88),none⟩,[0,1,2,3,4,5]),(zm 90 8,[0,1,2,3,4,5,6,7,8]),(⟨.l 91,.index (.c (.str zD1)) (.l 90),none⟩,[0,1,2,3,4,5,6,7,8]),(za 92 1 81 83,[3,4,5,9,10]),(zS 1 92 89,[3,4,5,9,10]),(za 93 1 84 86,[]),(zS 1 93 91,[])]) (.region [zm 94 2,zc 95 .sub 94 8,zw 2 95])))))))))))
def Jv:al:=zR [zm 17 0,zl 18 17,zw 2 18] (.seq (.block 0 (.loop wE)) (zR [zm 96 1,⟨.l 97,.dz .u32 (.l 96),none⟩,zw 10 97] (.seq (zR [zm 98 2,zc 99 .geq 98 4] (.cond (.l 99) (zR [zm 100 10,⟨.l 101,.bin .rem (.l 100) (kW 10000),none⟩,zw 11 101] (zR [zm 102 10,⟨.l 103,.bin .quo (.l 102) (kW 10000),none⟩,zw 10 103] (zR [zm 104 11,⟨.l 105,.bin .quo (.l 104) (kW 100),none⟩,⟨.l 106,.bin .mul (.l 105) (kW 2),none⟩,zm 107 11,⟨.l 108,.bin .rem (.l 107) (kW 100),none⟩,⟨.l 109,.bin .mul (.l 108) (kW 2),none⟩,zw 12 106,zw 13 109] (.seq (.draw [(zm 110 0,[]),(zm 111 2,[0]),(zc 112 .sub 111 1,[0]),(zm 113 0,[0,1,2]),(zm 114 2,[0,1,2,3]),(zc 115 .sub 114 2,[0,1,2,3]),(zm 116 13,[0,1,2,3,4,5]),(⟨.l 117,.bin .add (.l 116) (kW 1),none⟩,[0,1,2,3,4,5]),(⟨.l 118,.index (.c (.str zD1)) (.l 117),none⟩,[0,1,2,3,4,5]),(zm 119 13,[0,1,2,3,4,5,6,7,8]),(⟨.l 120,.index (.c (.str zD1)) (.l 119),none⟩,[0,1,2,3,4,5,6,7,8]),(za 121 1 110 112,[3,4,5,9,10]),(zS 1 121 118,[3,4,5,9,10]),(za 122 1 113 115,[]),(zS 1 122 120,[])]) (.seq (.draw [(zm 123 0,[]),(zm 124 2,[0]),(zc 125 .sub 124 3,[0]),(zm 126 0,[0,1,2]),(zm 127 2,[0,1,2,3]),(zc 128 .sub 127 4,[0,1,2,3]),(zm 129 12,[0,1,2,3,4,5]),(⟨.l 130,.bin .add (.l 129) (kW 1),none⟩,[0,1,2,3,4,5]),(⟨.l 131,.index (.c (.str zD1)) (.l 130),none⟩,[0,1,2,3,4,5]),(zm 132 12,[0,1,2,3,4,5,6,7,8]),(⟨.l 133,.index (.c (.str zD1)) (.l 132),none⟩,[0,1,2,3,4,5,6,7,8]),(za 134 1 123 125,[3,4,5,9,10]),(zS 1 134 131,[3,4,5,9,10]),(za 135 1 126 128,[]),(zS 1 135 133,[])]) (.region [zm 136 2,zc 137 .sub 136 4,zw 2 137])))))) (.skip))) (.seq (zR [zm 138 2,zc 139 .geq 138 2] (.cond (.l 139) (zR [zm 140 10,⟨.l 141,.bin .rem (.l 140) (kW 100),none⟩,⟨.l 142,.bin .mul (.l 141) (kW 2),none⟩,zw 14 142] (zR [zm 143 10,⟨.l 144,.bin .quo (.l 143) (kW 100),none⟩,zw 10 144] (.seq (.draw [(zm 145 0,[]),(zm 146 2,[0]),(zc 147 .sub 146 1,[0]),(zm 148 0,[0,1,2]),(zm 149 2,[0,1,2,3]),(zc 150 .sub 149 2,[0,1,2,3]),(zm 151 14,[0,1,2,3,4,5]),(⟨.l 152,.bin .add (.l 151) (kW 1),none⟩,[0,1,2,3,4,5]),(⟨.l 153,.index (.c (.str zD1)) (.l 152),none⟩,[0,1,2,3,4,5]),(zm 154 14,[0,1,2,3,4,5,6,7,8]),(⟨.l 155,.index (.c (.str zD1)) (.l 154),none⟩,[0,1,2,3,4,5,6,7,8]),(za 156 1 145 147,[3,4,5,9,10]),(zS 1 156 153,[3,4,5,9,10]),(za 157 1 148 150,[]),(zS 1 157 155,[])]) (.region [zm 158 2,zc 159 .sub 158 2,zw 2 159])))) (.skip))) (zR [zm 160 2,zc 161 .gtr 160 0] (.cond (.l 161) (.region [zm 162 0,zm 163 10,⟨.l 164,.bin .add (kW 48) (.l 163),none⟩,⟨.l 165,.dz .u8 (.l 164),none⟩,⟨.l 166,.cP none 1 (.l 162) (kI 0),none⟩,zS 1 166 165]) (.skip)))))))
theorem XO:FT 306=some ⟨167,[0,1,4,5,6,7,8,9,10,11,12,13,14,15,16],[],Jv⟩:=by kernel_rfl
def Jw:al:=zR [⟨.p 2,.mv (.c (.str [])),none⟩] (zR [zm 5 0,zm 6 1,z2 7 299 5 6,zw 2 7] (.ret))
theorem XP:FT 263=some ⟨8,[0,1,4],[.var (.p 2)],Jw⟩:=by kernel_rfl
def Jx:al:=zR [⟨.p 2,.mv (.c (.str [])),none⟩] (.seq (zR [zm 9 1,zc 10 .eql 9 10] (.cond (.l 10) (.seq (zR [zm 11 0,⟨.l 12,.bin .lss (.l 11) (kU 100),none⟩] (.cond (.l 12) (zR [zm 13 0,⟨.l 14,.dz .i64 (.l 13),none⟩,z1 15 304 14,zw 2 15] (.ret)) (.skip))) (zR [⟨.p 3,.alloc 301 [.int .u8 (0),.int .u8 (0),.int .u8 (0),.int .u8 (0),.int .u8 (0),.int .u8 (0),.int .u8 (0),.int .u8 (0),.int .u8 (0),.int .u8 (0),.int .u8 (0),.int .u8 (0),.int .u8 (0),.int .u8 (0),.int .u8 (0),.int .u8 (0),.int .u8 (0),.int .u8 (0),.int .u8 (0),.int .u8 (0),.int .u8 (0),.int .u8 (0),.int .u8 (0),.int .u8 (0)],none⟩] (zR [zm 16 0,z1 17 305 16,zw 4 17] (zR [zm 18 4,⟨.l 19,.ix 24 1 (.p 3) none (some (.l 18)),none⟩,zm 20 0,z2 21 306 19 20] (zR [zm 22 4,⟨.l 23,.ix 24 1 (.p 3) none (some (.l 22)),none⟩,⟨.l 24,.kE (.l 23),none⟩,zw 2 24] (.ret)))))) (.skip))) (zR [zm 26 0,zm 27 1,⟨.l 28,.call (kF 307) [(.c (.ae)),(.l 26),(.l 27),(.c (.bool false)),(.c (.bool false))],none⟩,zn 25 28,ze 29 0 25,ze 30 1 25,zn 7 29,zw 5 30] (zR [zm 31 5,zw 2 31] (.ret))))
theorem XQ:FT 299=some ⟨32,[0,1,4,5,6,8],[.var (.p 2)],Jx⟩:=by kernel_rfl
def Jy:al:=zR [zi 1 0] (zR [zm 3 0,zc 4 .mul 3 78913,⟨.l 5,.bin .shr (.l 4) (kU 18),none⟩,zw 1 5] (.ret))
theorem XR:FT 324=some ⟨6,[0,2],[.var (.p 1)],Jy⟩:=by kernel_rfl
def Jz:al:=zR [zi 1 0] (.seq (zR [zm 3 0] (.cond (.l 3) (zR [zi 1 1] (.ret)) (.skip))) (zR [zi 1 0] (.ret)))
theorem XS:FT 325=some ⟨4,[0,2],[.var (.p 1)],Jz⟩:=by kernel_rfl
end Go.Ab.Ch1

/-
  Own work: decimal texts of natural numbers: digits, texts, values.
-/
namespace Go.Ab.aY
def dE (d:Nat):UInt8:=UInt8.ofNat (48+d)
def cE:Nat->Nat->an
 | 0,_=>[]
 | k+1,n=>cE k (n/10)++[dE (n%10)]
def aR (n:Nat):an:=if n<10 then [dE n] else aR (n/10)++[dE (n%10)]
termination_by n
decreasing_by omega
def ay (n:Nat)(s:an):Nat:=s.foldl (fun n b=>10*n+(b.toNat-48)) n
def wF (c:Nat):Bool:=48<=c && c<58
abbrev bF (b:UInt8):Bool:=wF b.toNat
theorem kn (b:UInt8):bF b=true↔48<=b.toNat/\b.toNat<58:=by simp[bF,wF]
theorem qo {d:Nat}(h:d<10):(dE d).toNat=48+d:=by simp[dE];omega
theorem Cp {d:Nat}(h:d<10):bF (dE d)=true:=by rw[kn,qo h];omega
theorem XT {b:UInt8}(h:bF b=true):dE (b.toNat-48)=b:=by
 rw[kn]at h;apply UInt8.toNat_inj.1;rw[qo (by omega)];omega
theorem ko:∀(k n:Nat),(cE k n).length=k
 | 0,_=>rfl
 | k+1,n=>by simp[cE,ko k]
theorem JA:∀(k n:Nat),(cE k n).all bF=true
 | 0,_=>rfl
 | k+1,n=>by simp only[cE,List.all_append,JA k,List.all_cons,List.all_nil,Cp (Nat.mod_lt n (show 10 > 0 by decide)),Bool.and_self]
theorem Cq:∀{k n j:Nat},j<k->(cE k n)[j]! = dE (n/10^(k-1-j)%10)
 | k+1,n,j,h=>by
  rw[cE];by_cases hj:j<k
  . have h1:j<(cE k (n/10)).length:=by rw[ko];exact hj
    have e:(cE k (n/10)++[dE (n%10)])[j]! = (cE k (n/10))[j]! := by
     simp only[List.getElem!_eq_getElem?_getD,List.getElem?_append_left h1]
    rw[e,Cq hj,show k+1-1-j=(k-1-j)+1 by omega,Nat.pow_succ,Nat.mul_comm,←Nat.div_div_eq_div_mul]
  . obtain rfl:j=k:=by omega
    have e:(cE j (n/10)++[dE (n%10)])[j]! = dE (n%10):=by
     simp only[List.getElem!_eq_getElem?_getD];rw[List.getElem?_append_right (by rw[ko];exact Nat.le_refl _),ko];simp
    rw[e];simp
theorem JB {k n:Nat}{s:an}(hl:s.length=k)(h:∀j,j<k->s[j]! = dE (n/10^(k-1-j)%10)):s=cE k n:=by
 apply List.ext_getElem (by rw[hl,ko]);intro i h1 h2;have e1:=h i (by omega);have e2:=Cq (n:=n) (show i<k by omega);rw[←e2]at e1;simpa[List.getElem!_eq_getElem?_getD,List.getElem?_eq_getElem h1,List.getElem?_eq_getElem h2] using e1
theorem gN {n:Nat}(h:n<10):aR n=[dE n]:=by rw[aR,if_pos h]
theorem jK {n:Nat}(h:¬n<10):aR n=aR (n/10)++[dE (n%10)]:=by rw[aR,if_neg h]
theorem wG:∀{k n:Nat},n<10^(k+1)->(k=0\/10^k<=n)->aR n=cE (k+1) n
 | 0,n,h,_=>by
  have h:n<10:=by simpa using h
  rw[gN h];simp[cE,Nat.mod_eq_of_lt h]
 | k+1,n,h,h2=>by
  have h2:10^(k+1)<=n:=h2.resolve_left (by omega);rw[Nat.pow_succ]at h h2;have hp:0<10^k:=Nat.pow_pos (by decide);rw[jK (by omega),wG (k:=k) (n:=n/10) (by omega) (.inr (by omega))];rfl
theorem Cr:∀{k a b:Nat},0<a->b<10^k->aR (a*10^k+b)=aR a++cE k b
 | 0,a,b,_,hb=>by
  obtain rfl:b=0:=by simpa using hb
  simp[cE]
 | k+1,a,b,ha,hb=>by
  rw[Nat.pow_succ]at hb ⊢;have hp:0<10^k:=Nat.pow_pos (by decide);have h1:10<=a*(10^k*10)+b:=by
   have:=Nat.mul_le_mul ha (Nat.mul_le_mul_right 10 hp);omega
  have e1:(a*(10^k*10)+b)/10=a*10^k+b/10:=by
   rw[←Nat.mul_assoc];omega
  have e2:(a*(10^k*10)+b)%10=b%10:=by
   rw[←Nat.mul_assoc];omega
  rw[jK (by omega),e1,e2,Cr ha (by omega),cE,List.append_assoc]
theorem ot (n:Nat)(s t:an):ay n (s++t)=ay (ay n s) t:=by simp[ay,List.foldl_append]
theorem su (n:Nat)(b:UInt8)(s:an):ay n (b::s)=ay (10*n+(b.toNat-48)) s:=by rw[ay,ay,List.foldl_cons]
theorem sv (n:Nat)(b:UInt8):ay n [b]=10*n+(b.toNat-48):=by rw[ay,List.foldl_cons,List.foldl_nil]
theorem wH (s:an):∀(n:Nat),ay n s=n*10^s.length+ay 0 s:=by
 induction s with
 | nil=>intro n;simp[ay]
 | cons b s ih=>
  intro n;rw[su,su,ih,ih (10*0+_),List.length_cons,Nat.pow_succ,Nat.add_mul];have:10*n*10^s.length=n*(10^s.length*10):=by rw[Nat.mul_comm 10 n,Nat.mul_assoc,Nat.mul_comm 10]
  rw[this];simp only[Nat.mul_zero,Nat.zero_add];omega
theorem ou (s:an):s.all bF=true->ay 0 s<10^s.length:=by
 induction s with
 | nil=>intro _;simp[ay]
 | cons b s ih=>
  intro h;simp only[List.all_cons,Bool.and_eq_true]at h;have hb:=(kn b).1 h.1;have:=ih h.2;rw[su,wH,List.length_cons,Nat.pow_succ];have h2:(10*0+(b.toNat-48))*10^s.length<=9*10^s.length:=Nat.mul_le_mul_right _ (by omega);omega
theorem JC:∀(k n m:Nat),ay m (cE k n)=m*10^k+n%10^k
 | 0,n,m=>by simp[ay,cE,Nat.mod_one]
 | k+1,n,m=>by
  rw[cE,ot,JC k,sv,qo (Nat.mod_lt _ (by decide)),Nat.pow_succ];have e:n%(10^k*10)=n%10+10*(n/10%10^k):=by rw[Nat.mul_comm (10^k) 10,Nat.mod_mul]
  rw[e,Nat.mul_add,←Nat.mul_assoc m,Nat.mul_comm 10 (m*10^k)];omega
theorem kp (n:Nat):ay 0 (aR n)=n:=by
 induction n using Nat.strongRecOn with
 | _ n ih=>
  by_cases h:n<10
  . rw[gN h,sv,qo h];omega
  . rw[jK h,ot,ih _ (by omega),sv,qo (Nat.mod_lt _ (by decide))];omega
theorem mK (n:Nat):(aR n).all bF=true:=by
 induction n using Nat.strongRecOn with
 | _ n ih=>
  by_cases h:n<10
  . rw[gN h];simp[Cp h]
  . rw[jK h,List.all_append,ih _ (by omega)];simp[Cp (Nat.mod_lt n (show 10 > 0 by decide))]
theorem kq (n:Nat):aR n≠[]:=by
 by_cases h:n<10
 . rw[gN h];simp
 . rw[jK h];simp
def Cs (s:an):Prop:=s≠[]/\s.all bF=true/\(s.head? = some 48->s.length=1)
theorem XU {s:an}(h:s.all bF=true):cE s.length (ay 0 s)=s:=by
 have key:∀(k:Nat) (s:an),s.length=k->s.all bF=true->cE s.length (ay 0 s)=s:=by
  intro k;induction k with
  | zero=>intro s hs _;rw[List.eq_nil_of_length_eq_zero hs];rfl
  | succ k ih=>
   intro s hs h;rcases List.eq_nil_or_concat s with rfl|⟨t,c,e⟩
   . simp at hs
   . rw[List.concat_eq_append]at e;subst e;simp only[List.length_append,List.length_cons,List.length_nil]at hs ⊢;simp only[List.all_append,List.all_cons,List.all_nil,Bool.and_true,Bool.and_eq_true]at h;have hc:=(kn c).1 h.2;rw[show t.length+(0+1)=t.length+1 by omega,cE,ot,sv];rw[show (10*ay 0 t+(c.toNat-48))/10=ay 0 t by omega,show (10*ay 0 t+(c.toNat-48))%10=c.toNat-48 by omega,ih t (by omega) h.1,XT h.2]
 exact key _ s rfl h
theorem JD {s:an}(h:Cs s):aR (ay 0 s)=s:=by
 obtain⟨h0,h1,h2⟩:=h;cases s with
 | nil=>exact absurd rfl h0
 | cons b t=>
  have lt:=ou _ h1;rw[List.length_cons]at lt;refine(wG lt ?_).trans (XU h1);cases t with
  | nil=>exact .inl rfl
  | cons c t=>
   right;have hb:b≠48:=fun e=>by
    have:=h2 (by rw[e];rfl);simp at this
   simp only[List.all_cons,Bool.and_eq_true]at h1;have hb1:=(kn b).1 h1.1;have hb2:49<=b.toNat:=by
    have:b.toNat≠48:=fun e=>hb (UInt8.toNat_inj.1 e)
    omega
   rw[su,wH];have:=Nat.mul_le_mul_right (10^(c::t).length) (show 1<=10*0+(b.toNat-48) by omega);omega
theorem XV (n:Nat):Cs (aR n):=by
 refine⟨kq n,mK n,?_⟩;induction n using Nat.strongRecOn with
 | _ n ih=>
  by_cases h:n<10
  . rw[gN h];intro _;rfl
  . rw[jK h];intro e;have e2:(aR (n/10)).head? = some 48:=by
     cases hd:aR (n/10) with
     | nil=>exact absurd hd (kq _)
     | cons b t=>rw[hd]at e;exact e
    have l1:=ih _ (show n/10<n by omega) e2;exfalso;have e3:aR (n/10)=[48]:=by
     cases hd:aR (n/10) with
     | nil=>exact absurd hd (kq _)
     | cons b t=>
      rw[hd]at e2 l1;simp at l1 e2;rw[e2,l1]
    have:=kp (n/10);rw[e3]at this;simp[ay]at this;omega
theorem ox {n k:Nat}(h:n<10^k)(hk:0<k):(aR n).length<=k:=by
 induction k generalizing n with
 | zero=>omega
 | succ k ih=>
  by_cases h1:n<10
  . rw[gN h1];simp
  . rw[jK h1,List.length_append];rw[Nat.pow_succ]at h;have h0:0<k:=by
     rcases Nat.eq_zero_or_pos k with rfl|hp
     . simp at h;omega
     . exact hp
    have:=ih (n:=n/10) (by omega) h0;simp;omega
end Go.Ab.aY

/-
  Own work: decimal texts of machine integers: bytes, the number of digits, texts of two digits.
-/
namespace Go.Ab.Ch1
open Go.Ab.aY
variable {M:ax} {cap:Option Nat}
abbrev ib (k:Nat):AV:=.fn (.func k) [] []
def br (s:an):List AV:=s.map fun c=>.int .u8 c.toNat
theorem XW (a b:an):br (a++b)=br a++br b:=by simp[br]
theorem kP (a:an):(br a).length=a.length:=by simp[br]
theorem Fx (a:an):(br a).all cS=true:=by simp[br,cS]
theorem JE:∀a:an,bk (br a)=0
 | []=>rfl
 | c::a=>by
  have:=JE a;simp only[br]at this;simp only[br,List.map_cons,bk,this];rfl
theorem yW:∀a:an,bytesOf (br a)=some a
 | []=>rfl
 | c::a=>by
  have h:=yW a;simp only[br]at h;simp only[br,List.map_cons,bytesOf,h];rw[show ((c.toNat:Int)).toNat=c.toNat from rfl,UInt8.ofNat_toNat]
theorem XX {L:an}{m:Nat}{c:UInt8}(h:m<L.length):overwrite (br L) m [.int .u8 c.toNat]=br (L.set m c):=by
 apply List.ext_getElem?;intro i;simp only[overwrite,br,List.length_cons,List.length_nil];rw[←List.map_take,←List.map_drop];by_cases h1:i<m
 . rw[List.append_assoc,List.getElem?_append_left (by simp;omega)];simp[h1,show ¬m=i by omega]
 . by_cases h2:i=m
   . subst h2;rw[List.append_assoc,List.getElem?_append_right (by simp;omega)];simp[List.length_take,Nat.min_eq_left (Nat.le_of_lt h),h]
   . rw[List.append_assoc,List.getElem?_append_right (by simp;omega)];have e:i-min m L.length=(i-m-1)+1:=by omega
     simp only[List.length_map,List.length_take,e,List.cons_append,List.nil_append,List.getElem?_cons_succ,List.map_drop,List.getElem?_drop,List.getElem?_map,List.getElem?_set,show ¬m=i by omega,if_false];rw[show m+(0+1)+(i-m-1)=i by omega]
section
variable {t:Nat} {x y:aL} {l:List aU} {pe:List AV} {lo:List (Nat×AV)} {hp:ab} {df wr:List Nat} {k:IntKind} {a b:Int} {Q:ao->Prop} {e:TypeId} {L:an} {m:Nat}
theorem afV {c:UInt8}(hx:(St.mk pe lo [some (.cells (br L) e)] df).aa x=some (.ptr 0 m))(hy:(St.mk pe lo [some (.cells (br L) e)] df).aa y=some (.int .u8 c.toNat))(hi:m<L.length)
 (h:WO M l ⟨⟨pe,lo,[some (.cells (br (L.set m c)) e)],df⟩,0::wr⟩ Q):WO M (⟨.no,.store 1 x y,none⟩::l) ⟨⟨pe,lo,[some (.cells (br L) e)],df⟩,wr⟩ Q:=by
 refine ade (c:=br L) (new:=[.int .u8 c.toNat]) hx (by rw[hy];rfl) rfl ⟨rfl,by rw[kP];omega,rfl⟩ (XX hi) ?_;exact h
theorem WO.JF {n i j:Nat}{lo' hi':Option aL}(hx:(St.mk pe lo [some (.cells (br L) e)] df).aa x=some (.ptr 0 0))(hl:L.length=n)(hlo:((St.mk pe lo [some (.cells (br L) e)] df).cZ lo').bind (fun v=>bM v 0 j)=some i)(hhi:((St.mk pe lo [some (.cells (br L) e)] df).cZ hi').bind (fun v=>bM v n n)=some j)(hij:i<n)
 (h:WO M l ⟨⟨pe,(t,.sl 0 i (j-i) 1 (some (n-i)))::lo,[some (.cells (br L) e)],df⟩,wr⟩ Q):WO M (⟨.l t,.ix n 1 x lo' hi',none⟩::l) ⟨⟨pe,lo,[some (.cells (br L) e)],df⟩,wr⟩ Q:=by
 refine acb (v:=.sl 0 i (j-i) 1 (some (n-i))) (h':=[some (.cells (br L) e)]) (w':=[]) ?_ rfl rfl h;have h0:ab.at [some (bw.cells (br L) e)] 0=some (.cells (br L) e):=rfl;cases ho:(St.mk pe lo [some (.cells (br L) e)] df).cZ lo' with
 | none=>rw[ho]at hlo;simp at hlo
 | some v=>
  cases ho':(St.mk pe lo [some (.cells (br L) e)] df).cZ hi' with
  | none=>rw[ho']at hhi;simp at hhi
  | some v'=>
   rw[ho]at hlo;rw[ho']at hhi;simp only[Option.bind_some]at hlo hhi;simp only[bB,hx,ho,ho',h0,kP,hl,hhi,hlo,Nat.zero_add,Nat.mul_one];rw[if_pos (Nat.le_refl _),if_pos hij]
theorem agn {i j:Nat}{c:Option Nat}(hx:(St.mk pe lo [some (.cells (br L) e)] df).aa x=some (.sl 0 i j 1 c))(hij:i+j<=L.length)
 (h:WO M l ⟨⟨pe,(t,.str ((L.drop i).take j))::lo,[some (.cells (br L) e)],df⟩,wr⟩ Q):WO M (⟨.l t,.kE x,none⟩::l) ⟨⟨pe,lo,[some (.cells (br L) e)],df⟩,wr⟩ Q:=by
 refine acb (v:=.str ((L.drop i).take j)) (h':=[some (.cells (br L) e)]) (w':=[]) ?_ rfl rfl h;have h0:ab.at [some (bw.cells (br L) e)] 0=some (.cells (br L) e):=rfl;have hc:eA [some (.cells (br L) e)] (.sl 0 i j 1 c)=some (br ((L.drop i).take j),j):=by
  simp only[eA,h0,cut,Nat.mul_one];rw[if_pos (by rw[List.length_take,List.length_drop,kP];omega)];simp[br,List.map_drop,List.map_take]
 simp only[bB,hx,hc,kP,yW];rw[if_pos (by simp;omega)]
theorem wrap32 {a:Int}(h:0<=a/\a<4294967296):IntKind.u32.wrap a=a:=by
 simp only[IntKind.wrap,IntKind.bits,IntKind.signed];simp;omega
theorem agh (hx:(St.mk pe lo hp df).aa x=some (.int .u32 a))(hy:(St.mk pe lo hp df).aa y=some (.int .u32 b))(hr:0<=a+b/\a+b<4294967296)
 (h:WO M l ⟨⟨pe,(t,.int .u32 (a+b))::lo,hp,df⟩,wr⟩ Q):WO M (⟨.l t,.bin .add x y,none⟩::l) ⟨⟨pe,lo,hp,df⟩,wr⟩ Q:=
 aab (v:=.int .u32 (a+b)) (by simp[aW,hx,hy,cN,wrap32 hr]) rfl h
theorem agx (hx:(St.mk pe lo hp df).aa x=some (.int .u32 a))(hy:(St.mk pe lo hp df).aa y=some (.int .u32 b))(hr:0<=a*b/\a*b<4294967296)
 (h:WO M l ⟨⟨pe,(t,.int .u32 (a*b))::lo,hp,df⟩,wr⟩ Q):WO M (⟨.l t,.bin .mul x y,none⟩::l) ⟨⟨pe,lo,hp,df⟩,wr⟩ Q:=
 aab (v:=.int .u32 (a*b)) (by simp[aW,hx,hy,cN,wrap32 hr]) rfl h
theorem agv (hx:(St.mk pe lo hp df).aa x=some (.int .u32 a))(hy:(St.mk pe lo hp df).aa y=some (.int .u32 b))(ha:0<=a/\a<4294967296)(hb:0<b)
 (h:WO M l ⟨⟨pe,(t,.int .u32 (a/b))::lo,hp,df⟩,wr⟩ Q):WO M (⟨.l t,.bin .quo x y,none⟩::l) ⟨⟨pe,lo,hp,df⟩,wr⟩ Q:=by
 refine aab (v:=.int .u32 (a/b)) ?_ rfl h;have h1:0<=a/b:=Int.ediv_nonneg ha.1 (Int.le_of_lt hb);have h2:a/b<=a:=Int.ediv_le_self _ ha.1;have h3:¬b=0:=by omega
 simp only[aW,hx,hy,cN,if_true,if_neg h3];rw[Int.tdiv_eq_ediv_of_nonneg ha.1,wrap32 ⟨h1,by omega⟩]
theorem agw (hx:(St.mk pe lo hp df).aa x=some (.int .u32 a))(hy:(St.mk pe lo hp df).aa y=some (.int .u32 b))(ha:0<=a)(hb:0<b)
 (h:WO M l ⟨⟨pe,(t,.int .u32 (a%b))::lo,hp,df⟩,wr⟩ Q):WO M (⟨.l t,.bin .rem x y,none⟩::l) ⟨⟨pe,lo,hp,df⟩,wr⟩ Q:=by
 refine aab (v:=.int .u32 (a%b)) ?_ rfl h;have h3:¬b=0:=by omega
 simp only[aW,hx,hy,cN,if_true,if_neg h3];rw[Int.tmod_eq_emod_of_nonneg ha]
theorem agD (hx:(St.mk pe lo hp df).aa x=some (.int k a))(hr:0<=a/\a<4294967296)(h:WO M l ⟨⟨pe,(t,.int .u32 a)::lo,hp,df⟩,wr⟩ Q):WO M (⟨.l t,.dz .u32 x,none⟩::l) ⟨⟨pe,lo,hp,df⟩,wr⟩ Q:=
 aab (v:=.int .u32 a) (by simp only[aW,hx,Option.bind_some,lO,wrap32 hr]) rfl h
theorem agR (hx:(St.mk pe lo hp df).aa x=some (.iV a))
 (h:WO M l ⟨⟨pe,(t,.iV (a/262144))::lo,hp,df⟩,wr⟩ Q):WO M (⟨.l t,.bin .shr x (.c (.int k 18)),none⟩::l) ⟨⟨pe,lo,hp,df⟩,wr⟩ Q:=by
 refine WO.op (WP.pure (v:=.iV (a/262144)) rfl ?_ h);have:a.fdiv (2^min (Int.toNat 18) IntKind.i64.bits)=a/262144:=by
  show a.fdiv 262144=a/262144;rw[Int.fdiv_eq_ediv_of_nonneg _ (by omega)]
 have e:(St.mk pe lo hp df).aa (.c (.int k 18))=some (.int k 18):=rfl;simp only[aW,hx,e,cN,this];rfl
end
theorem XY (hft:M.FT=FT)(x:Int)(hx:0<=x/\x<=64):aT M 324 [.iV x] [] ⟨.iV (x*78913/262144),[],[]⟩:=by
 refine bH (by rw[hft];exact XR) (by simp) ?_;unfold Jy;simp only[enter];exact gg4
theorem XZ (hft:M.FT=FT)(x:Bool):aT M 325 [.bool x] [] ⟨.iV (if x then 1 else 0),[],[]⟩:=by
 refine bH (by rw[hft];exact XS) (by simp) ?_;unfold Jz;simp only[enter];cases x;all_goals
 . exact gg2
theorem Ya (bl:Fin 65):1<=bl.val->bl.val*78913/262144<20/\(bl.val*78913/262144=0\/10^(bl.val*78913/262144-1)<=2^(bl.val-1))/\2^bl.val<=10^(bl.val*78913/262144+1):=by
 revert bl;decide +kernel
def fB (d:Int):Nat:=if (10:Int)^(cj d*78913/262144)<=d then cj d*78913/262144+1 else cj d*78913/262144
theorem wI {d:Nat}(h:0<d/\d<18446744073709551616):1<=fB d/\fB d<=20/\d<10^fB d/\(fB d=1\/10^(fB d-1)<=d):=by
 obtain⟨h1,h2,h3⟩:=pU (x:=(d:Int)) (by omega);have h4:=oc (x:=(d:Int)) (n:=64) (by show (d:Int)<18446744073709551616;omega) (by omega);obtain⟨g0,g1,g2⟩:=Ya ⟨cj d,by omega⟩ h1;simp only at g0 g1 g2;have h2:2^(cj (d:Int)-1)<=d:=by exact_mod_cast h2
 have h3:d<2^cj (d:Int):=by exact_mod_cast h3
 unfold fB;obtain⟨n,hn⟩:∃n,n=cj (d:Int)*78913/262144:=⟨_,rfl⟩;rw[←hn]at g0 g1 g2 ⊢;by_cases hc:(10:Int)^n<=d
 . rw[if_pos hc];have hc:10^n<=d:=by exact_mod_cast hc
   exact⟨by omega,by omega,by omega,.inr (by rw[Nat.add_sub_cancel];exact hc)⟩
 . rw[if_neg hc];have hc:d<10^n:=by
    rcases Nat.lt_or_ge d (10^n) with h|h
    . exact h
    . exact absurd (by exact_mod_cast h) hc
   have hn0:n≠0:=by
    rintro rfl;simp at hc;omega
   refine⟨by omega,by omega,hc,?_⟩;rcases g1 with g1|g1
   . omega
   . exact .inr (by omega)
def oy:List AV:=[.uV (1),.uV (10),.uV (100),.uV (1000),.uV (10000),.uV (100000),.uV (1000000),.uV (10000000),.uV (100000000),.uV (1000000000),.uV (10000000000),.uV (100000000000),.uV (1000000000000),.uV (10000000000000),.uV (100000000000000),.uV (1000000000000000),.uV (10000000000000000),.uV (100000000000000000),.uV (1000000000000000000),.uV (10000000000000000000)]
theorem Yb:∀k:Nat,k<20->partOf (oy.drop (k*1)) 0 1 false=some (.uV (10^k))
 | 0,_=>rfl|1,_=>rfl|2,_=>rfl|3,_=>rfl|4,_=>rfl|5,_=>rfl|6,_=>rfl|7,_=>rfl|8,_=>rfl|9,_=>rfl
 | 10,_=>rfl|11,_=>rfl|12,_=>rfl|13,_=>rfl|14,_=>rfl|15,_=>rfl|16,_=>rfl|17,_=>rfl|18,_=>rfl|19,_=>rfl
 | k+20,h=>by omega
theorem ahr {t:Nat}{i:aL}{l:List aU}{pe:List AV}{lo:List (Nat×AV)}{hp:ab}{df wr:List Nat}{k:IntKind}{n:Int}{Q:ao->Prop}(hy:(St.mk pe lo hp df).aa i=some (.int k n))(hb:0<=n/\n<20)
 (h:WO M l ⟨⟨pe,(t,.vp (oy.drop (n.toNat*1)))::lo,hp,df⟩,wr⟩ Q):WO M (⟨.l t,.cP (some 20) 1 (.c (.vp oy)) i,none⟩::l) ⟨⟨pe,lo,hp,df⟩,wr⟩ Q:=
 WO.op (WP.pure (v:=.vp (oy.drop (n.toNat*1))) rfl (by
  have e:(St.mk pe lo hp df).aa (.c (.vp oy))=some (.vp oy):=rfl;have h2:0<=n/\n<((20:Nat):Int):=hb;simp only[aW,e,hy,mV,if_pos h2]) h)
theorem ahs {t:Nat}{x:aL}{l:List aU}{pe:List AV}{lo:List (Nat×AV)}{hp:ab}{df wr:List Nat}{n:Nat}{Q:ao->Prop}(hx:(St.mk pe lo hp df).aa x=some (.vp (oy.drop (n*1))))(hb:n<20)
 (h:WO M l ⟨⟨pe,(t,.uV (10^n))::lo,hp,df⟩,wr⟩ Q):WO M (⟨.l t,.load 1 false x,none⟩::l) ⟨⟨pe,lo,hp,df⟩,wr⟩ Q:=
 acb (v:=.uV (10^n)) (h':=hp) (w':=[]) (by simp only[bB,hx,Option.bind_some,fg,Yb n hb]) rfl rfl h
structure JG (M:ax):Prop where
 ft:M.FT=FT
 rP:∀(x:Int) h,(0<=x/\x<18446744073709551616)->M.ext 240 [.uV x] h=some ⟨.iV (cj x),h,[]⟩
 JH:∀(x:Int) h,(0<=x/\x<=64)->M.ext 324 [.iV x] h=some ⟨.iV (x*78913/262144),h,[]⟩
 Ct:∀(x:Bool) h,M.ext 325 [.bool x] h=some ⟨.iV (if x then 1 else 0),h,[]⟩
theorem Ye (C:JG M)(d:Int)(hd:0<d/\d<18446744073709551616):aT M 305 [.uV d] [] ⟨.iV (fB d),[],[]⟩:=by
 have h4:=oc (x:=d) (n:=64) (by exact hd.2) (by omega);have q240:=fun h=>C.rP d h ⟨by omega,hd.2⟩
 have q324:=fun h=>C.JH (cj d) h ⟨by omega,by omega⟩
 have q325a:=fun h=>C.Ct true h
 have q325b:=fun h=>C.Ct false h
 simp only[if_true]at q325a;simp only[Bool.false_eq_true,if_false]at q325b;obtain⟨n,hn⟩:∃n,n=cj d*78913/262144:=⟨_,rfl⟩;have e1:((cj d:Int)*78913/262144)=(n:Int):=by rw[hn];omega
 rw[e1]at q324;have hn20:n<20:=by omega
 have e2:fB d=if (10:Int)^n<=d then n+1 else n:=by unfold fB;rw[←hn]
 rw[e2];refine bH (by rw[C.ft];exact XM) (by simp) ?_;unfold Ju;simp only[enter];repeat' first|(apply ahr;rfl;omega)|(apply ahs (n:=n);rfl;exact hn20)|apply aap|apply aM|apply aaF|apply aaY|apply abu|(apply aeN;rfl;rfl)|(apply ael;rfl;rfl;omega)|(apply abD;rfl;rfl;first|exact q240 _|exact q324 _|exact q325a _|exact q325b _)|(apply aab;rfl;rfl)|(apply aaZ;rfl;rfl)|(intro _;omega)|intro _
 all_goals try omega
 . rename_i h1;rw[if_pos h1];exact⟨.inr rfl,rfl,_,rfl,rfl,rfl⟩
 . rename_i h1;rw[if_neg (by omega)];exact⟨.inr rfl,rfl,_,rfl,by simp[aV],rfl⟩
def iK:an:=[48,48,48,49,48,50,48,51,48,52,48,53,48,54,48,55,48,56,48,57,49,48,49,49,49,50,49,51,49,52,49,53,49,54,49,55,49,56,49,57,50,48,50,49,50,50,50,51,50,52,50,53,50,54,50,55,50,56,50,57,51,48,51,49,51,50,51,51,51,52,51,53,51,54,51,55,51,56,51,57,52,48,52,49,52,50,52,51,52,52,52,53,52,54,52,55,52,56,52,57,53,48,53,49,53,50,53,51,53,52,53,53,53,54,53,55,53,56,53,57,54,48,54,49,54,50,54,51,54,52,54,53,54,54,54,55,54,56,54,57,55,48,55,49,55,50,55,51,55,52,55,53,55,54,55,55,55,56,55,57,56,48,56,49,56,50,56,51,56,52,56,53,56,54,56,55,56,56,56,57,57,48,57,49,57,50,57,51,57,52,57,53,57,54,57,55,57,56,57,57]
theorem wJ:iK.length=200:=by decide +kernel
theorem JI:∀x:Fin 100,iK[x.val*2]! = dE (x.val/10)/\iK[x.val*2+1]! = dE (x.val%10):=by decide +kernel
theorem Yf {x:Int}(h:0<=x/\x<100):iK[(x*2).toNat]! = dE (x.toNat/10):=by
 obtain⟨k,rfl⟩:=Int.eq_ofNat_of_zero_le h.1;have:=(JI ⟨k,by omega⟩).1;rw[show ((k:Int)*2).toNat=k*2 by omega];exact this
theorem Yg {x:Int}(h:0<=x/\x<100):iK[(x*2+1).toNat]! = dE (x.toNat%10):=by
 obtain⟨k,rfl⟩:=Int.eq_ofNat_of_zero_le h.1;have:=(JI ⟨k,by omega⟩).2;rw[show ((k:Int)*2+1).toNat=k*2+1 by omega];exact this
end Go.Ab.Ch1

/-
  Own work: decimal texts of machine integers: numbers below a hundred; the digits of a number written into a block.
-/
namespace Go.Ab.Ch1
open Go.Ab.aY
variable {M:ax} {cap:Option Nat}
def tw:an:=[48,49,50,51,52,53,54,55,56,57,97,98,99,100,101,102,103,104,105,106,107,108,109,110,111,112,113,114,115,116,117,118,119,120,121,122]
theorem Yh:∀x:Fin 10,(tw.drop x.val).take (x.val+1-x.val)=aR x.val:=by
 intro x;rw[gN x.isLt];revert x;decide +kernel
theorem Yi:∀x:Fin 100,10<=x.val->(iK.drop (x.val*2)).take (x.val*2+2-x.val*2)=aR x.val:=by
 intro x h;rw[jK (by omega),gN (by omega)];revert x;decide +kernel
theorem agA {t:Nat}{x y z:aL}{l:List aU}{pe:List AV}{lo:List (Nat×AV)}{hp:ab}{df wr:List Nat}{k k':IntKind}{s:an}{a b:Int}{Q:ao->Prop}(hx:(St.mk pe lo hp df).aa x=some (.str s))(hy:(St.mk pe lo hp df).aa y=some (.int k a))(hz:(St.mk pe lo hp df).aa z=some (.int k' b))(hb:0<=a/\a<=b/\b<=s.length){r:an}(hr:(s.drop a.toNat).take (b.toNat-a.toNat)=r)
 (h:WO M l ⟨⟨pe,(t,.str r)::lo,hp,df⟩,wr⟩ Q):WO M (⟨.l t,.slice .str 1 x (some y) (some z) none,none⟩::l) ⟨⟨pe,lo,hp,df⟩,wr⟩ Q:=by
 subst hr;refine aab (v:=.str ((s.drop a.toNat).take (b.toNat-a.toNat))) ?_ rfl h;simp only[aW,hx,St.cZ,hy,hz,Option.map_some,jc,bM];have h1:0<=b/\b<=((s.length:Nat):Int):=⟨by omega,hb.2.2⟩;have h2:0<=a/\a<=((b.toNat:Nat):Int):=⟨hb.1,by omega⟩;simp only[if_pos h1,if_pos h2];rfl
set_option maxRecDepth 100000 in
theorem Yj (hft:M.FT=FT)(n:Nat)(hn:n<100):aT M 304 [.iV n] [] ⟨.str (aR n),[],[]⟩:=by
 have e1:(n:Int).toNat=n:=rfl;refine bH (by rw[hft];exact XJ) (by simp) ?_;unfold Js;simp only[enter];by_cases h:n<10
 . have hc:(tw.drop (n:Int).toNat).take (((n:Int)+1).toNat-(n:Int).toNat)=aR n:=by rw[show ((n:Int)+1).toNat=n+1 by omega];exact Yh ⟨n,h⟩
   have l1:tw.length=36:=rfl;exact gg4
 . have hc:(iK.drop ((n:Int)*2).toNat).take (((n:Int)*2+2).toNat-((n:Int)*2).toNat)=aR n:=by rw[show ((n:Int)*2+2).toNat=n*2+2 by omega,show ((n:Int)*2).toNat=n*2 by omega];exact Yi ⟨n,hn⟩ (by simp only;omega)
   have l1:=wJ;exact gg13
def fu (L:an)(off n i u:Nat):Prop:=L.length=24/\∀j,i<=j->j<n->L[off+j]! = dE (u/10^(n-1-j)%10)
theorem Cu {L:an}{i k:Nat}{v:UInt8}(h:i<L.length):(L.set i v)[k]! = if k=i then v else L[k]! := by
 simp only[List.getElem!_eq_getElem?_getD,List.getElem?_set];by_cases hk:k=i
 . subst hk;simp[h]
 . simp[hk,show ¬i=k from fun e=>hk e.symm]
theorem fu.two {L:an}{off n i u:Nat}{a b:Nat}{c d:UInt8}(h:fu L off n (i+2) u)(hn:off+n<=24)(hi:i+2<=n)(ha:a=off+i+1)(hb:b=off+i)(hc:c=dE (u/10^(n-(i+2))%10))(hd:d=dE (u/10^(n-(i+2))/10%10)):fu ((L.set a c).set b d) off n i u:=by
 subst ha;subst hb;refine⟨by simp[h.1],fun j h1 h2=>?_⟩;rw[Cu (by rw[List.length_set,h.1];omega),Cu (by rw[h.1];omega)];by_cases e1:j=i
 . subst e1;rw[if_pos rfl,hd,Nat.div_div_eq_div_mul,←Nat.pow_succ,show (n-(j+2)).succ=n-1-j by omega]
 . by_cases e2:j=i+1
   . subst e2;rw[if_neg (by omega),if_pos (by omega),hc,show n-(i+2)=n-1-(i+1) by omega]
   . rw[if_neg (by omega),if_neg (by omega)];exact h.2 j (by omega) h2
theorem fu.fin {L:an}{off n u:Nat}(h:fu L off n 0 u)(hn:off+n<=24):(L.drop off).take n=cE n u:=by
 refine JB (by rw[List.length_take,List.length_drop,h.1];omega) fun j hj=>?_
 rw[←h.2 j (Nat.zero_le _) hj];simp only[List.getElem!_eq_getElem?_getD,List.getElem?_take,if_pos hj,List.getElem?_drop]
end Go.Ab.Ch1

/-
  Own work: decimal texts of machine integers: eight digits at once.
-/
namespace Go.Ab.Ch1
open Go.Ab.aY
variable {M:ax} {cap:Option Nat} {e:TypeId}
theorem oz {u n j:Nat}(hj:j+2<=n):u/10^(n-j)=u/10^(n-(j+2))/100:=by
 rw[Nat.div_div_eq_div_mul,show (100:Nat)=10^2 by rfl,←Nat.pow_add,show n-(j+2)+2=n-j by omega]
theorem fu.mL {L:an}{off n i u U:Nat}{a b:Nat}{x y:Int}(h:fu L off n (i+2) u)(hn:off+n<=24)(hi:i+2<=n)(hU:U=u/10^(n-(i+2)))(ha:a=off+i+1)(hb:b=off+i)(hx:x=(U%100:Nat)*2+1)(hy:y=(U%100:Nat)*2):fu ((L.set a iK[x.toNat]!).set b iK[y.toNat]!) off n i u:=by
 subst hx;subst hy;refine h.two hn hi ha hb ?_ ?_
 . rw[Yg (by omega),←hU];congr 1;omega
 . rw[Yf (by omega),←hU];congr 1;omega
set_option maxRecDepth 100000 in
theorem Yk (off n u0:Nat)(hn:off+n<=24)(hu:u0<18446744073709551616){Q:Ex->ao->Prop}(a10 a11 a12 a13 a14:AV)
 (hQ:∀L i a3 a4 a5 a6 a7 a8 a9 lo wr,i<=n->i<8->fu L off n i u0->gw 0 wr->Q (.exit 0) ⟨⟨[.sl 0 off n 1 cap,.uV ((u0/10^(n-i):Nat):Int),.iV (i:Nat),a3,a4,a5,a6,a7,a8,a9,a10,a11,a12,a13,a14],lo,[some (.cells (br L) e)],[]⟩,wr⟩)
 (L:an) (i:Nat) (a3 a4 a5 a6 a7 a8 a9:AV) (lo:List (Nat×AV)) (wr:List Nat) (hi:i<=n) (hL:fu L off n i u0) (hw:gw 0 wr) :
 W M (.loop wE) ⟨⟨[.sl 0 off n 1 cap,.uV ((u0/10^(n-i):Nat):Int),.iV (i:Nat),a3,a4,a5,a6,a7,a8,a9,a10,a11,a12,a13,a14],lo,[some (.cells (br L) e)],[]⟩,wr⟩ Q:=by
 refine W.fE (fun m s=>∃L U iv a3 a4 a5 a6 a7 a8 a9 lo wr,s=⟨⟨[.sl 0 off n 1 cap,.uV U,.iV iv,a3,a4,a5,a6,a7,a8,a9,a10,a11,a12,a13,a14],lo,[some (.cells (br L) e)],[]⟩,wr⟩/\U=((u0/10^(n-m):Nat):Int)/\iv=(m:Int)/\m<=n/\fu L off n m u0/\gw 0 wr)
  (fun m s ⟨L,U,iv,a3,a4,a5,a6,a7,a8,a9,lo,wr,hs,hU,hiv,hm,hL,hw⟩=>?_) (m:=i) ⟨L,_,_,a3,a4,a5,a6,a7,a8,a9,lo,wr,rfl,rfl,rfl,hi,hL,hw⟩
 subst hs;subst hU;subst hiv;have hl:=hL.1;have sl:=wJ;have hUle:u0/10^(n-m)<=u0:=Nat.div_le_self _ _;by_cases h8:m<8
 . unfold wE;exact gg4
 . obtain⟨j,rfl⟩:∃j,m=j+8:=⟨m-8,by omega⟩;have s1:=oz (u:=u0) (n:=n) (j:=j+6) (by omega);have s2:=oz (u:=u0) (n:=n) (j:=j+4) (by omega);have s3:=oz (u:=u0) (n:=n) (j:=j+2) (by omega);have s4:=oz (u:=u0) (n:=n) (j:=j) (by omega);obtain⟨U,hU⟩:∃U,U=u0/10^(n-(j+8)):=⟨_,rfl⟩;rw[show j+6+2=j+8 by omega,←hU]at s1;rw[show j+4+2=j+6 by omega,s1]at s2;rw[show j+2+2=j+4 by omega,s2]at s3;rw[s3]at s4;rw[←hU]at hUle ⊢;unfold wE;refine gg18 ?_;refine da ⟨j,by omega,_,_,_,_,_,_,_,_,_,_,_,_,rfl,?_,?_,by omega,?_,?_⟩
   . rw[s4];omega
   . omega
   . have g1:=fu.mL (L:=L) (i:=j+6) (U:=U) (a:=off+(((j+8:Nat):Int)-1).toNat*1) (b:=off+(((j+8:Nat):Int)-2).toNat*1) hL hn (by omega) hU (by omega) (by omega) rfl rfl;refine fu.mL (U:=U/100/100/100) (fu.mL (i:=j+2) (U:=U/100/100) (fu.mL (i:=j+4) (U:=U/100) (fu.mL (i:=j+6) (U:=U) hL hn (by omega) hU ?_ ?_ ?_ ?_) hn (by omega) s1.symm ?_ ?_ ?_ ?_) hn (by omega) s2.symm ?_ ?_ ?_ ?_) hn (by omega) s3.symm ?_ ?_ ?_ ?_;all_goals omega
   . exact .cons (.cons (.cons (.cons (.cons (.cons (.cons (.cons hw)))))))
end Go.Ab.Ch1

/-
  Own work: decimal texts of machine integers: the digits of a number, as many as a slice has room for.
-/
namespace Go.Ab.Ch1
open Go.Ab.aY
variable {M:ax} {cap:Option Nat} {e:TypeId}
set_option maxRecDepth 100000
def sw:al:=
 .seq (
       .region [zm 160 2,
         zc 161 .gtr 160 0])
       (
        .cond (.l 161)
        (.region [zm 162 0,
          zm 163 10,
          ⟨(.l 164),.bin .add (kW 48) (.l 163),none⟩,
          ⟨(.l 165),.dz .u8 (.l 164),none⟩,
          ⟨(.l 166),.cP none 1 (.l 162) (kI 0),none⟩,
          zS 1 166 165])
        (.skip))
def wK:al:=
 .seq (
       .region [zm 138 2,
         zc 139 .geq 138 2])
       (
        .cond (.l 139)
        (
         zR [zm 140 10,
           ⟨(.l 141),.bin .rem (.l 140) (kW 100),none⟩,
           ⟨(.l 142),.bin .mul (.l 141) (kW 2),none⟩,
           zw 14 142]
         (
          zR [zm 143 10,
            ⟨(.l 144),.bin .quo (.l 143) (kW 100),none⟩,
            zw 10 144]
          (
           .seq (.draw [(zm 145 0,[]),
             (zm 146 2,[0]),
             (zc 147 .sub 146 1,[0]),
             (zm 148 0,[0,1,2]),
             (zm 149 2,[0,1,2,3]),
             (zc 150 .sub 149 2,[0,1,2,3]),
             (zm 151 14,[0,1,2,3,4,5]),
             (⟨(.l 152),.bin .add (.l 151) (kW 1),none⟩,[0,1,2,3,4,5]),
             (⟨(.l 153),.index (.c (.str zD1)) (.l 152),none⟩,[0,1,2,3,4,5]),
             (zm 154 14,[0,1,2,3,4,5,6,7,8]),
             (⟨(.l 155),.index (.c (.str zD1)) (.l 154),none⟩,[0,1,2,3,4,5,6,7,8]),
             (za 156 1 145 147,[3,4,5,9,10]),
             (zS 1 156 153,[3,4,5,9,10]),
             (za 157 1 148 150,[]),
             (zS 1 157 155,[])])
           (.region [zm 158 2,
             zc 159 .sub 158 2,
             zw 2 159]))))
        (.skip))
def Cv:al:=
 zR [zm 98 2,
        zc 99 .geq 98 4]
      (
       .cond (.l 99)
       (
        zR [zm 100 10,
          ⟨(.l 101),.bin .rem (.l 100) (kW 10000),none⟩,
          zw 11 101]
        (
         zR [zm 102 10,
           ⟨(.l 103),.bin .quo (.l 102) (kW 10000),none⟩,
           zw 10 103]
         (
          zR [zm 104 11,
            ⟨(.l 105),.bin .quo (.l 104) (kW 100),none⟩,
            ⟨(.l 106),.bin .mul (.l 105) (kW 2),none⟩,
            zm 107 11,
            ⟨(.l 108),.bin .rem (.l 107) (kW 100),none⟩,
            ⟨(.l 109),.bin .mul (.l 108) (kW 2),none⟩,
            zw 12 106,
            zw 13 109]
          (
           .seq (.draw [(zm 110 0,[]),
             (zm 111 2,[0]),
             (zc 112 .sub 111 1,[0]),
             (zm 113 0,[0,1,2]),
             (zm 114 2,[0,1,2,3]),
             (zc 115 .sub 114 2,[0,1,2,3]),
             (zm 116 13,[0,1,2,3,4,5]),
             (⟨(.l 117),.bin .add (.l 116) (kW 1),none⟩,[0,1,2,3,4,5]),
             (⟨(.l 118),.index (.c (.str zD1)) (.l 117),none⟩,[0,1,2,3,4,5]),
             (zm 119 13,[0,1,2,3,4,5,6,7,8]),
             (⟨(.l 120),.index (.c (.str zD1)) (.l 119),none⟩,[0,1,2,3,4,5,6,7,8]),
             (za 121 1 110 112,[3,4,5,9,10]),
             (zS 1 121 118,[3,4,5,9,10]),
             (za 122 1 113 115,[]),
             (zS 1 122 120,[])])
           (
            .seq (.draw [(zm 123 0,[]),
              (zm 124 2,[0]),
              (zc 125 .sub 124 3,[0]),
              (zm 126 0,[0,1,2]),
              (zm 127 2,[0,1,2,3]),
              (zc 128 .sub 127 4,[0,1,2,3]),
              (zm 129 12,[0,1,2,3,4,5]),
              (⟨(.l 130),.bin .add (.l 129) (kW 1),none⟩,[0,1,2,3,4,5]),
              (⟨(.l 131),.index (.c (.str zD1)) (.l 130),none⟩,[0,1,2,3,4,5]),
              (zm 132 12,[0,1,2,3,4,5,6,7,8]),
              (⟨(.l 133),.index (.c (.str zD1)) (.l 132),none⟩,[0,1,2,3,4,5,6,7,8]),
              (za 134 1 123 125,[3,4,5,9,10]),
              (zS 1 134 131,[3,4,5,9,10]),
              (za 135 1 126 128,[]),
              (zS 1 135 133,[])])
            (.region [zm 136 2,
              zc 137 .sub 136 4,
              zw 2 137]))))))
       (.skip))
theorem Yl {g N:Nat}{aO:List Nat}{body:al}{ars:List AV}{L:an}{P:an->Prop}(hft:M.FT g=some ⟨N,aO,[],body⟩)(hN:ars.length<=N)
 (hW:W M body ⟨⟨aO.map (fun t=>(ars[t]?).getD cB),[],[some (.cells (br L) e)],[]⟩,[]⟩ fun x s=>(x = .normal\/x = .ret)/\s.s.bX=[]/\∃L',s.s.hp=[some (.cells (br L') e)]/\gw 0 s.wr/\P L') :
 ∃L' wr,gw 0 wr/\P L'/\aT M g ars [some (.cells (br L) e)] ⟨.aq [],[some (.cells (br L') e)],wr⟩:=by
 obtain⟨⟨n,x,s,h1,h2,h3,L',h4,h5,h6⟩⟩:=hW;have hb:0<([some (.cells (br L) e)]:ab).length:=Nat.zero_lt_one;have hh:s.s.hp=ab.put [some (.cells (br L) e)] 0 (some (.cells (br L') e)):=h4;obtain⟨wr,hw,hr⟩:=RN (c0:=br L) hb hh h5 (JE L');exact⟨L',wr,hw,h6,uF hft hN ⟨⟨n,x,s,h1,h2,h3,[],rfl,hr⟩⟩⟩
def Cw (e:TypeId)(off n u0:Nat)(x:Ex)(s:ao):Prop:=(x = .normal\/x = .ret)/\s.s.bX=[]/\∃L',s.s.hp=[some (.cells (br L') e)]/\gw 0 s.wr/\fu L' off n 0 u0
theorem wL {u n i:Nat}(h:u<10^n)(hi:i<=n):u/10^(n-i)<10^i:=by
 refine Nat.div_lt_of_lt_mul ?_;rw[←Nat.pow_add,show n-i+i=n by omega];exact h
def Cy (L:an)(off n u0:Nat)(k:Nat)(iv U:Int)(wr:List Nat):Prop:=∃i:Nat,i<k/\i<=n/\iv=(i:Int)/\U=((u0/10^(n-i):Nat):Int)/\fu L off n i u0/\gw 0 wr
theorem JJ {off n u0:Nat}(hn:off+n<=24)(hlt:u0<10^n){L:an}{iv U:Int}{a1 a3 a4 a5 a6 a7 a8 a9 a11 a12 a13 a14:AV}{lo:List (Nat×AV)}{wr:List Nat}(h:Cy L off n u0 2 iv U wr) :
 W M sw ⟨⟨[.sl 0 off n 1 cap,a1,.iV iv,a3,a4,a5,a6,a7,a8,a9,.int .u32 U,a11,a12,a13,a14],lo,[some (.cells (br L) e)],[]⟩,wr⟩ (Cw e off n u0):=by
 obtain⟨i,hi,hin,rfl,hU,hL,hw⟩:=h;have hl:=hL.1;have hr:=wL hlt hin;obtain⟨V,hV⟩:∃V,V=u0/10^(n-i):=⟨_,rfl⟩;rw[←hV]at hU hr;subst hU;by_cases h1:i=1
 . subst h1;have hV10:V<10:=by simpa using hr
   have hd:(dE V).toNat=48+V:=qo hV10;unfold sw;repeat' first|(apply afV (c:=dE V);rfl;exact(congrArg (fun z:Int=>some (AV.int .u8 z)) (show (48+(V:Int))%256=((dE V).toNat:Int) by rw[hd];omega));omega)|(apply agh;rfl;rfl;omega)|(apply agP;rfl)|apply aap|apply aM|apply aaF|apply aaY|(apply abz;rfl)|(apply adU;rfl;rfl)|(apply afv;rfl;rfl;omega)|(apply aab;rfl;rfl)|(intro _;omega)|intro _
   all_goals try omega
   refine⟨.inl rfl,rfl,_,rfl,.cons hw,by simp[hl],fun j h1 h2=>?_⟩;rw[Cu (by omega)];by_cases hj:j=0
   . subst hj;rw[if_pos (by omega),show n-1-0=n-1 by omega,←hV,Nat.mod_eq_of_lt hV10]
   . rw[if_neg (by omega)];exact hL.2 j (by omega) h2
 . obtain rfl:i=0:=by omega
   unfold sw;exact gg0
theorem JK {off n u0:Nat}(hn:off+n<=24)(hlt:u0<10^n){L:an}{iv U:Int}{a1 a3 a4 a5 a6 a7 a8 a9 a11 a12 a13 a14:AV}{lo:List (Nat×AV)}{wr:List Nat}(h:Cy L off n u0 4 iv U wr) :
 W M (.seq wK sw) ⟨⟨[.sl 0 off n 1 cap,a1,.iV iv,a3,a4,a5,a6,a7,a8,a9,.int .u32 U,a11,a12,a13,a14],lo,[some (.cells (br L) e)],[]⟩,wr⟩ (Cw e off n u0):=by
 obtain⟨i,hi,hin,rfl,hU,hL,hw⟩:=h;have hl:=hL.1;have sl:=wJ;have hr:=wL hlt hin;by_cases h1:2<=i
 . obtain⟨j,rfl⟩:∃j,i=j+2:=⟨i-2,by omega⟩;have s1:=oz (u:=u0) (n:=n) (j:=j) hin;obtain⟨V,hV⟩:∃V,V=u0/10^(n-(j+2)):=⟨_,rfl⟩;rw[←hV]at hU hr s1;have hV4:V<10000:=Nat.lt_of_lt_of_le hr (Nat.le_trans (Nat.pow_le_pow_right (by decide) (show j+2<=4 by omega)) (by decide));subst hU;unfold wK;repeat' first|(apply JJ hn hlt)|(apply afV;rfl;rfl;(first|omega|(simp only[List.length_set];omega)))|(apply agv;rfl;rfl;omega;omega)|(apply agw;rfl;rfl;omega;omega)|(apply agx;rfl;rfl;omega)|(apply agh;rfl;rfl;omega)|(apply afb (s:=iK);rfl;rfl;omega)|apply aap|apply aM|apply aaF|apply aaY|apply aeb|apply aem|(apply aeZ;rfl)|(apply aeU;rfl;(first|(simp only[nca];rfl)|rfl);(first|(simp only[nca];rfl)|rfl))|(apply abz;rfl)|(apply aeN;rfl;rfl)|(apply aes;rfl;rfl;omega)|(apply afv;rfl;rfl;omega)|(apply aab;rfl;rfl)|(apply aaZ;rfl;rfl)|(intro _;omega)|intro _
   all_goals try omega
   refine⟨j,by omega,by omega,by omega,by rw[s1];omega,?_,.cons (.cons hw)⟩;refine fu.mL (U:=V) hL hn (by omega) hV ?_ ?_ ?_ ?_;all_goals omega
 . unfold wK;repeat' first|(apply JJ hn hlt)|apply aap|apply aM|apply aaF|apply aaY|apply abJ|(apply abF;rfl)|(apply aeN;rfl;rfl)|(apply aab;rfl;rfl)|(intro _;omega)|intro _
   all_goals try omega
   exact⟨i,by omega,hin,rfl,hU,hL,hw⟩
theorem OC {off n u0:Nat}(hn:off+n<=24)(hlt:u0<10^n){L:an}{iv U:Int}{a1 a3 a4 a5 a6 a7 a8 a9 a11 a12 a13 a14:AV}{lo:List (Nat×AV)}{wr:List Nat}(h:Cy L off n u0 8 iv U wr) :
 W M (.seq Cv (.seq wK sw)) ⟨⟨[.sl 0 off n 1 cap,a1,.iV iv,a3,a4,a5,a6,a7,a8,a9,.int .u32 U,a11,a12,a13,a14],lo,[some (.cells (br L) e)],[]⟩,wr⟩ (Cw e off n u0):=by
 obtain⟨i,hi,hin,rfl,hU,hL,hw⟩:=h;have hl:=hL.1;have sl:=wJ;have hr:=wL hlt hin;by_cases h1:4<=i
 . obtain⟨j,rfl⟩:∃j,i=j+4:=⟨i-4,by omega⟩;have s1:=oz (u:=u0) (n:=n) (j:=j+2) (by omega);have s2:=oz (u:=u0) (n:=n) (j:=j) (by omega);obtain⟨V,hV⟩:∃V,V=u0/10^(n-(j+4)):=⟨_,rfl⟩;rw[show j+2+2=j+4 by omega,←hV]at s1;rw[s1]at s2;rw[←hV]at hU hr;have hV8:V<100000000:=Nat.lt_of_lt_of_le hr (Nat.le_trans (Nat.pow_le_pow_right (by decide) (show j+4<=8 by omega)) (by decide));subst hU;unfold Cv;repeat' first|(apply JK hn hlt)|(apply afV;rfl;rfl;(first|omega|(simp only[List.length_set];omega)))|(apply agv;rfl;rfl;omega;omega)|(apply agw;rfl;rfl;omega;omega)|(apply agx;rfl;rfl;omega)|(apply agh;rfl;rfl;omega)|(apply afb (s:=iK);rfl;rfl;omega)|apply aap|apply aM|apply aaF|apply aaY|apply aeb|apply aem|(apply aeZ;rfl)|(apply aeU;rfl;(first|(simp only[nca];rfl)|rfl);(first|(simp only[nca];rfl)|rfl))|(apply abz;rfl)|(apply aeN;rfl;rfl)|(apply aes;rfl;rfl;omega)|(apply afv;rfl;rfl;omega)|(apply aab;rfl;rfl)|(apply aaZ;rfl;rfl)|(intro _;omega)|intro _
   all_goals try omega
   refine⟨j,by omega,by omega,by omega,by rw[s2];omega,?_,.cons (.cons (.cons (.cons hw)))⟩;refine fu.mL (U:=V/100) (fu.mL (i:=j+2) (U:=V) hL hn (by omega) hV ?_ ?_ ?_ ?_) hn (by omega) s1.symm ?_ ?_ ?_ ?_;all_goals omega
 . unfold Cv;repeat' first|(apply JK hn hlt)|apply aap|apply aM|apply aaF|apply aaY|apply abJ|(apply abF;rfl)|(apply aeN;rfl;rfl)|(apply aab;rfl;rfl)|(intro _;omega)|intro _
   all_goals try omega
   exact⟨i,by omega,hin,rfl,hU,hL,hw⟩
theorem Ym (hft:M.FT=FT)(off n u0:Nat)(hn:off+n<=24)(hlt:u0<10^n)(hu:u0<18446744073709551616)(L:an)(hL:L.length=24) :
 ∃L' wr,gw 0 wr/\fu L' off n 0 u0/\aT M 306 [.sl 0 off n 1 cap,.uV (u0:Nat)] [some (.cells (br L) e)] ⟨.aq [],[some (.cells (br L') e)],wr⟩:=by
 refine Yl (P:=fun L'=>fu L' off n 0 u0) (by rw[hft];exact XO) (by simp) ?_;have lp:=fun Q a10 a11 a12 a13 a14 hQ a3 a4 a5 a6 a7 a8 a9 lo wr=>Yk (M:=M) (cap:=cap) (e:=e) off n u0 hn hu (Q:=Q) a10 a11 a12 a13 a14 hQ L n a3 a4 a5 a6 a7 a8 a9 lo wr (Nat.le_refl _) ⟨hL,fun j h1 h2=>by omega⟩
 simp only[Nat.sub_self,Nat.pow_zero,Nat.div_one]at lp;unfold Jv;simp only[enter];refine gg14 ?_;refine lp _ _ _ _ _ _ (fun L i a3 a4 a5 a6 a7 a8 a9 lo wr hi h8 hL hw=>?_) _ _ _ _ _ _ _ _ _ gw.nil;have hr:=wL hlt hi;have hV:u0/10^(n-i)<4294967296:=Nat.lt_of_lt_of_le hr (Nat.le_trans (Nat.pow_le_pow_right (by decide) (show i<=8 by omega)) (by decide));obtain⟨V,hVe⟩:∃V,V=u0/10^(n-i):=⟨_,rfl⟩;rw[←hVe]at hr hV ⊢;exact gg8
end Go.Ab.Ch1

/-
  Own work: decimal texts of machine integers: Itoa, FormatUint.
-/
namespace Go.Ab.Ch1
open Go.Ab.aY
variable {M:ax} {cap:Option Nat}
section
variable {t:Nat} {x y:aL} {l:List aU} {pe:List AV} {lo:List (Nat×AV)} {df wr:List Nat} {k:IntKind} {a:Int} {Q:ao->Prop} {e:TypeId} {L:an} {n:Nat}
theorem agm (hx:(St.mk pe lo [some (.cells (br L) e)] df).aa x=some (.ptr 0 0))(hl:L.length=24)(hy:(St.mk pe lo [some (.cells (br L) e)] df).aa y=some (.int k a))(ha:a=(n:Int))(hn:n<=24)
 (h:WO M l ⟨⟨pe,(t,.sl 0 0 n 1 (some 24))::lo,[some (.cells (br L) e)],df⟩,wr⟩ Q):WO M (⟨.l t,.ix 24 1 x none (some y),none⟩::l) ⟨⟨pe,lo,[some (.cells (br L) e)],df⟩,wr⟩ Q:=by
 subst ha;refine WO.JF (i:=0) (j:=n) hx hl rfl ?_ (by decide) h;simp only[St.cZ,hy,Option.map_some,Option.bind_some,bM];rw[if_pos (by omega)];rfl
theorem ago (hx:(St.mk pe lo [some (.cells (br L) e)] df).aa x=some (.ptr 0 0))(hl:L.length=24)(hy:(St.mk pe lo [some (.cells (br L) e)] df).aa y=some (.int k a))(ha:a=1+(n:Int))(hn:n<24)
 (h:WO M l ⟨⟨pe,(t,.sl 0 1 n 1 (some 23))::lo,[some (.cells (br L) e)],df⟩,wr⟩ Q):WO M (⟨.l t,.ix 24 1 x (some (.c (.iV 1))) (some y),none⟩::l) ⟨⟨pe,lo,[some (.cells (br L) e)],df⟩,wr⟩ Q:=by
 subst ha;refine WO.JF (i:=1) (j:=n+1) hx hl ?_ ?_ (by decide) h
 . have e1:(St.mk pe lo [some (.cells (br L) e)] df).aa (.c (.iV 1))=some (.iV 1):=rfl;simp only[St.cZ,e1,Option.map_some,Option.bind_some,bM];rw[if_pos (by omega)];rfl
 . simp only[St.cZ,hy,Option.map_some,Option.bind_some,bM];rw[if_pos (by omega)];congr 1;omega
theorem agU {hp:ab}{v:Int}(hx:(St.mk pe lo hp df).aa x=some (.uV a))(hv:(0-a)%18446744073709551616=v)
 (h:WO M l ⟨⟨pe,(t,.uV v)::lo,hp,df⟩,wr⟩ Q):WO M (⟨.l t,.un .neg x,none⟩::l) ⟨⟨pe,lo,hp,df⟩,wr⟩ Q:=
 aab (v:=.uV v) (by simp only[aW,hx,Option.bind_some,qL,nS,hv]) rfl h
end
def nd:an:=List.replicate 24 0
def bL (z:Int):an:=if z<0 then 45::aR (-z).toNat else aR z.toNat
structure sx (M:ax):Prop where
 ft:M.FT=FT
 JL:∀ars h,M.ext 306 ars h=none
 Cz:∀(n:Nat) h,n<100->M.ext 304 [.iV n] h=some ⟨.str (aR n),h,[]⟩
 wM:∀(d:Int) h,(0<d/\d<18446744073709551616)->M.ext 305 [.uV d] h=some ⟨.iV (fB d),h,[]⟩
theorem sx.CA (C:sx M){e:TypeId}{off:Nat}(u:Nat)(hu:0<u/\u<18446744073709551616)(ho:off<=4) :
 ∃L' wr,gw 0 wr/\L'.length=24/\(L'.drop off).take (fB u)=aR u/\CT M (ib 306) [.sl 0 off (fB u) 1 cap,.uV u] [some (.cells (br nd) e)] ⟨.aq [],[some (.cells (br L') e)],wr⟩:=by
 obtain⟨k1,k2,k3,k4⟩:=wI hu;obtain⟨L',wr,hw,hD,hr⟩:=Ym (cap:=cap) (e:=e) C.ft off (fB u) u (by omega) k3 hu.2 nd rfl;obtain⟨m,hm⟩:∃m,fB u=m+1:=⟨fB u-1,by omega⟩;refine⟨L',wr,hw,hD.1,?_,CT.run (fi:=[]) (ca:=[]) (C.JL _ _) hr⟩;rw[hD.fin (by omega)];rw[hm]at k3 k4 ⊢;exact(wG k3 (by
  rcases k4 with k4|k4
  . exact .inl (by omega)
  . exact .inr (by simpa using k4))).symm
set_option maxRecDepth 100000 in
theorem Yn (C:sx M)(u:Nat)(hu:u<18446744073709551616):aT M 299 [.uV u,.iV 10] [] ⟨.str (aR u),[],[]⟩:=by
 refine bH (by rw[C.ft];exact XQ) (by simp) ?_;unfold Jx;simp only[enter];by_cases h:u<100
 . have q304:=fun hh=>C.Cz u hh h
   exact gg11
 . have q305:=fun hh=>C.wM u hh (by omega)
   obtain⟨k1,k2,k3,k4⟩:=wI (d:=u) (by omega);obtain⟨L',wr,hw,hl,hd,q306⟩:=C.CA (cap:=some 24) (e:=301) (off:=0) u (by omega) (by decide);have hz:nd.length=24:=rfl;refine gg6 ?_;rw[hd];exact⟨.inr rfl,rfl,_,rfl,rfl,rfl⟩
set_option maxRecDepth 100000 in
theorem Yo (C:sx M)(z:Int)(hz : -9223372036854775808<=z/\z<9223372036854775808):aT M 267 [.iV z,.iV 10] [] ⟨.str (bL z),[],[]⟩:=by
 have hz24:nd.length=24:=rfl;refine bH (by rw[C.ft];exact XL) (by simp) ?_;unfold Jt;simp only[enter];by_cases h:z<0
 . obtain⟨u,hu⟩:∃u:Nat,z = -(u:Int):=⟨(-z).toNat,by omega⟩;have q305:=fun hh=>C.wM u hh (by omega)
   obtain⟨k1,k2,k3,k4⟩:=wI (d:=u) (by omega);obtain⟨L',wr,hw,hl,hd,q306⟩:=C.CA (cap:=some 23) (e:=301) (off:=1) u (by omega) (by decide);have e0:bL z=45::aR u:=by unfold bL;rw[if_pos h];congr 2;omega
   have e1:((L'.set (0+0*1) 45).drop 0).take (1+fB u)=45::aR u:=by
    cases L' with
    | nil=>simp at hl
    | cons c L'=>
     rw[←hd,Nat.add_comm 1];rfl
   rw[e0];refine gg6 ?_;rw[e1];exact⟨.inr rfl,rfl,_,rfl,rfl,rfl⟩
 . obtain⟨u,hu⟩:∃u:Nat,z=(u:Int):=⟨z.toNat,by omega⟩;have e0:bL z=aR u:=by unfold bL;rw[if_neg h];congr 1;omega
   rw[e0];subst hu;by_cases h1:u<100
   . have q304:=fun hh=>C.Cz u hh h1
     exact gg11
   . have q305:=fun hh=>C.wM u hh (by omega)
     obtain⟨k1,k2,k3,k4⟩:=wI (d:=u) (by omega);obtain⟨L',wr,hw,hl,hd,q306⟩:=C.CA (cap:=some 23) (e:=301) (off:=1) u (by omega) (by decide);repeat' first|(apply ago (L:=nd) (n:=fB u);rfl;exact hz24;rfl;rfl;omega)|(apply ago (L:=L') (n:=fB u);rfl;exact hl;rfl;rfl;omega)|(apply agn (L:=L');rfl;omega)|apply aap|apply aM|apply aaF|apply aaY|apply abu|apply abJ|apply bZ|(apply abz;rfl)|(apply abF;rfl)|(apply acY;rfl)|(apply ada;rfl;rfl)|(apply afy;rfl;rfl)|(apply adE;rfl;rfl)|(apply afT;rfl;omega)|(apply acR;rfl;rfl)|(apply ael;rfl;rfl;omega)|(apply abD;rfl;rfl;first|exact q305 _)|(apply aeq;rfl;rfl;first|exact q306)|(apply acK;rfl;rfl;rfl)|(apply aab;rfl;rfl)|(apply aaZ;rfl;rfl)|(intro _;omega)|intro _
     all_goals try omega
     rw[hd];exact⟨.inr rfl,rfl,_,rfl,rfl,rfl⟩
theorem Yp (hft:M.FT=FT)(z:Int)(q:∀h,M.ext 267 [.iV z,.iV 10] h=some ⟨.str (bL z),h,[]⟩):aT M 226 [.iV z] [] ⟨.str (bL z),[],[]⟩:=by
 refine bH (by rw[hft];exact XI) (by simp) ?_;unfold Jr;simp only[enter];exact gg0
theorem Yq (hft:M.FT=FT)(z:Int)(q:∀h,M.ext 226 [.iV z] h=some ⟨.str (bL z),h,[]⟩):aT M 183 [.iV z] [] ⟨.str (bL z),[],[]⟩:=by
 refine bH (by rw[hft];exact XH) (by simp) ?_;unfold Jq;simp only[enter];exact gg0
theorem Yr (hft:M.FT=FT)(u:Nat)(q:∀h,M.ext 299 [.uV u,.iV 10] h=some ⟨.str (aR u),h,[]⟩):aT M 263 [.uV u,.iV 10] [] ⟨.str (aR u),[],[]⟩:=by
 refine bH (by rw[hft];exact XP) (by simp) ?_;unfold Jw;simp only[enter];exact gg0
end Go.Ab.Ch1

/-
  Own work: the code of functions: repeated texts, builders.
-/
namespace Go.Ab.Ch1
set_option maxRecDepth 1000000
def Ys:al:=.seq (zR [⟨.l 111,.call (kF 302) [(.p 7)],none⟩,zm 112 5,zb 113 .lss 111 112] (.cond (.l 113) (.skip) (.exit 3))) (.block 4 (zR [zm 114 5,⟨.l 115,.call (kF 302) [(.p 7)],none⟩,zb 116 .sub 114 115,⟨.l 117,.call (kF 302) [(.p 7)],none⟩,zm 118 6,⟨.l 119,.mm false [(.l 116),(.l 117),(.l 118)],none⟩,zw 8 119] (.region [⟨.l 120,.call (kF 266) [(.p 7)],none⟩,zm 121 8,⟨.l 122,.slice .str 1 (.l 120) none (some (.l 121)) none,none⟩,⟨.l 123,.call (kF 265) [(.p 7),(.l 122)],none⟩])))
def JM:al:=zR [⟨.p 2,.mv (.c (.str [])),none⟩] (.seq (zR [⟨.p 9,.mv (.p 1),none⟩] (.block 0 (zR [zq 13 .eql 9 0,zn 12 13] (.cond (.l 12) (zR [⟨.p 2,.mv (.c (.str [])),none⟩] (.ret)) (zR [zq 15 .eql 9 1,zn 14 15] (.cond (.l 14) (zR [zm 16 0,zw 2 16] (.ret)) (.skip))))))) (.seq (zR [zm 17 1,zc 18 .lss 17 0] (.cond (.l 18) (.bad) (.skip))) (zR [zm 21 0,zL 22 21,⟨.l 23,.dz .u64 (.l 22),none⟩,zm 24 1,⟨.l 25,.dz .u64 (.l 24),none⟩,z2 26 300 23 25,zn 20 26,ze 27 0 20,ze 28 1 20,zw 3 27,zw 4 28] (.seq (zR [zm 29 3,⟨.l 30,.bin .gtr (.l 29) (kU 0),none⟩,zn 31 30,zg (zm 32 4) 31 false,⟨.l 33,.bin .gtr (.l 32) (kU 9223372036854775807),some ((.l 31),false)⟩,zP 34 31 33] (.cond (.l 34) (.bad) (.skip))) (zR [zm 36 4,⟨.l 37,.dz .i64 (.l 36),none⟩,zw 5 37] (.seq (zR [zm 38 0,zL 39 38,zc 40 .eql 39 0] (.cond (.l 40) (zR [⟨.p 2,.mv (.c (.str [])),none⟩] (.ret)) (.skip))) (.seq (zR [zm 41 0,⟨.p 10,.index (.l 41) (kI 0),none⟩] (.block 1 (.seq (zR [⟨.l 44,.bin .eql (.p 10) (.c (.int .u8 (32))),none⟩,zw 11 44] (.cond (.p 11) (.skip) (zR [⟨.l 45,.bin .eql (.p 10) (.c (.int .u8 (45))),none⟩,zw 11 45] (.cond (.p 11) (.skip) (zR [⟨.l 46,.bin .eql (.p 10) (.c (.int .u8 (48))),none⟩,zw 11 46] (.cond (.p 11) (.skip) (zR [⟨.l 47,.bin .eql (.p 10) (.c (.int .u8 (61))),none⟩,zw 11 47] (.cond (.p 11) (.skip) (.region [⟨.l 48,.bin .eql (.p 10) (.c (.int .u8 (9))),none⟩,zw 11 48]))))))))) (.cond (.p 11) (.block 2 (zR [zm 50 5,zc 51 .leq 50 128,zn 52 51,zg (zm 53 0) 52 true,⟨.l 54,.call (kF 212) [(.c (.str zD7)),(.l 53)],some ((.l 52),true)⟩,zp 55 52 54,zn 49 55] (.cond (.l 49) (zR [zm 56 5,⟨.l 57,.slice .str 1 (.c (.str zD7)) none (some (.l 56)) none,none⟩,zw 2 57] (.ret)) (zR [zm 59 5,zc 60 .leq 59 128,zn 61 60,zg (zm 62 0) 61 true,⟨.l 63,.call (kF 212) [(.c (.str zD4)),(.l 62)],some ((.l 61),true)⟩,zp 64 61 63,zn 58 64] (.cond (.l 58) (zR [zm 65 5,⟨.l 66,.slice .str 1 (.c (.str zD4)) none (some (.l 65)) none,none⟩,zw 2 66] (.ret)) (zR [zm 68 5,zc 69 .leq 68 64,zn 70 69,zg (zm 71 0) 70 true,⟨.l 72,.call (kF 212) [(.c (.str zD6)),(.l 71)],some ((.l 70),true)⟩,zp 73 70 72,zn 67 73] (.cond (.l 67) (zR [zm 74 5,⟨.l 75,.slice .str 1 (.c (.str zD6)) none (some (.l 74)) none,none⟩,zw 2 75] (.ret)) (zR [zm 77 5,zc 78 .leq 77 128,zn 79 78,zg (zm 80 0) 79 true,⟨.l 81,.call (kF 212) [(.c (.str zD5)),(.l 80)],some ((.l 79),true)⟩,zp 82 79 81,zn 76 82] (.cond (.l 76) (zR [zm 83 5,⟨.l 84,.slice .str 1 (.c (.str zD5)) none (some (.l 83)) none,none⟩,zw 2 84] (.ret)) (zR [zm 86 5,zc 87 .leq 86 64,zn 88 87,zg (zm 89 0) 88 true,⟨.l 90,.call (kF 212) [(.c (.str zD3)),(.l 89)],some ((.l 88),true)⟩,zp 91 88 90,zn 85 91] (.cond (.l 85) (zR [zm 92 5,⟨.l 93,.slice .str 1 (.c (.str zD3)) none (some (.l 92)) none,none⟩,zw 2 93] (.ret)) (.skip)))))))))))) (.skip))))) (zR [zm 94 5,zw 6 94] (.seq (zR [zm 95 5,zc 96 .gtr 95 8192] (.cond (.l 96) (zR [zm 97 0,zL 98 97,⟨.l 99,.bin .quo (kI 8192) (.l 98),none⟩,zm 100 0,zL 101 100,zb 102 .mul 99 101,zw 6 102] (zR [zm 103 6,zc 104 .eql 103 0] (.cond (.l 104) (.region [zm 105 0,zL 106 105,zw 6 106]) (.skip)))) (.skip))) (zR [⟨.p 7,.alloc 269 [.du,.ae],none⟩] (zR [zm 107 5,⟨.l 108,.call (kF 301) [(.p 7),(.l 107)],none⟩] (zR [zm 109 0,⟨.l 110,.call (kF 265) [(.p 7),(.l 109)],none⟩] (.seq (.block 3 (.loop Ys)) (zR [⟨.l 124,.call (kF 266) [(.p 7)],none⟩,zw 2 124] (.ret)))))))))))))))
theorem Yt:FT 264=some ⟨125,[0,1,4,5,6,7,8,9,10,11,42,43],[.var (.p 2)],JM⟩:=by kernel_rfl
def CB:al:=zR [zi 2 0,⟨.p 3,.mv (.c (.cY)),none⟩] (zR [zm 6 0,z1 7 303 6] (zR [zm 8 0,zm 9 0,⟨.l 10,.ju (.l 9),none⟩,⟨.l 11,.iI 1 (.l 10),none⟩,zd 12 1 11,zm 13 1,⟨.l 14,.append 5 1 1 (.l 12) (.l 13),none⟩,⟨.l 15,.ju (.l 8),none⟩,⟨.l 16,.iI 1 (.l 15),none⟩,zS 1 16 14] (zR [zm 17 1,zL 18 17,zw 2 18,⟨.p 3,.mv (.c (.cY)),none⟩] (.ret))))
theorem JN:FT 265=some ⟨19,[0,1,4,5],[.var (.p 2),.var (.p 3)],CB⟩:=by kernel_rfl
def JO:al:=zR [⟨.p 1,.mv (.c (.str [])),none⟩] (.seq (.draw [(zm 3 0,[]),(⟨.l 4,.ju (.l 3),none⟩,[]),(⟨.l 5,.iI 1 (.l 4),none⟩,[]),(zd 6 1 5,[]),(⟨.l 7,.qF (.l 6),none⟩,[]),(zm 8 0,[0,1,2,3,4]),(⟨.l 9,.ju (.l 8),none⟩,[0,1,2,3,4]),(⟨.l 10,.iI 1 (.l 9),none⟩,[0,1,2,3,4]),(zd 11 1 10,[0,1,2,3,4]),(zl 12 11,[0,1,2,3,4]),(⟨.l 13,.jt 5 (.l 7) (.l 12),none⟩,[]),(zw 1 13,[])]) (.ret))
theorem Yu:FT 266=some ⟨14,[0,2],[.var (.p 1)],JO⟩:=by kernel_rfl
def CC:al:=zR [zm 2 0,⟨.l 3,.ju (.l 2),none⟩,⟨.l 4,.iI 0 (.l 3),none⟩,zd 5 1 4,⟨.l 6,.eq false (.ref .ptr) (.l 5) (.c (.du)),none⟩] (.cond (.l 6) (.region [zm 7 0,zm 8 0,⟨.l 9,.jP none (.l 8),none⟩,z1 10 323 9,⟨.l 11,.jP (some (269,2)) (.l 10),none⟩,⟨.l 12,.ju (.l 7),none⟩,⟨.l 13,.iI 0 (.l 12),none⟩,zS 1 13 11]) (zR [zm 14 0,⟨.l 15,.ju (.l 14),none⟩,⟨.l 16,.iI 0 (.l 15),none⟩,zd 17 1 16,zm 18 0,⟨.l 19,.mT true (.l 17) (.l 18),none⟩] (.cond (.l 19) (.bad) (.skip))))
theorem JP:FT 303=some ⟨20,[0],[],CC⟩:=by kernel_rfl
def JQ:al:=zR [⟨.p 2,.mv (kU 0),none⟩,⟨.p 3,.mv (kU 0),none⟩] (.seq (.cond (.c (.bool false)) (zR [zm 11 0,⟨.l 12,.dz .u32 (.l 11),none⟩,zm 13 1,⟨.l 14,.dz .u32 (.l 13),none⟩,z2 15 321 12 14,zn 10 15,ze 16 0 10,ze 17 1 10,zw 4 16,zw 5 17] (zR [zm 18 4,⟨.l 19,.dz .u64 (.l 18),none⟩,zm 20 5,⟨.l 21,.dz .u64 (.l 20),none⟩,zw 2 19,zw 3 21] (.ret))) (.skip)) (zR [zm 23 0,zm 24 1,z2 25 244 23 24,zn 22 25,ze 26 0 22,ze 27 1 22,zw 6 26,zw 7 27] (zR [zm 28 6,zm 29 7,zw 2 28,zw 3 29] (.ret))))
theorem Yv:FT 300=some ⟨30,[0,1,4,5,6,7,8,9],[.var (.p 2),.var (.p 3)],JQ⟩:=by kernel_rfl
end Go.Ab.Ch1

/-
  Own work: a builder of text.
-/
namespace Go.Ab.Ch1
variable {M:ax} {cap:Option Nat}
def oC (N:Nat)(hp:ab)(b:Nat)(acc:an):Prop:=(acc=[]/\hp.at b=some (.cells [.du,.ae] 269))\/(acc≠[]/\∃c,N<=c/\hp.at b=some (.cells [.ptr b 0,.sl c 0 acc.length 1 none] 269)/\hp.at c=some (.cells (br acc) 5))
theorem CE {h:ab}{b:Nat}{x:Option bw}{n:Nat}(hn:h.length=n):(h.put b x).take n=h.put b x:=List.take_of_length_le (by rw[fj];omega)
theorem Yw {v:AV}{n b:Nat}{s:ao}{h:ab}{c:List AV}{e:TypeId}(hv:v.top=0)(hb:b<h.length)(hn:h.length=n)(hh:s.s.hp=h.put b (some (.cells c e)))(hw:∀x∈s.wr,x=b)(hc:bk c<=n):dR v n s=⟨v,h.put b (some (.cells c e)),s.wr.filter (· < n)⟩:=by
 have ht:tight s.s.hp n s.wr=true:=by
  simp only[tight,List.all_eq_true];intro x hx;rw[hw x hx,hh,dg hb];simp[bw.top,hc]
 rw[AM (by omega) ht,hh,CE hn]
theorem Yx (hft:M.FT=FT)(oE:∀b h,M.ext 323 [.ptr b 0] h=some ⟨.ptr b 0,h,[]⟩)(b:Nat)(hp:ab)(hb:hp.at b=some (.cells [.du,.ae] 269)):aT M 303 [.ptr b 0] hp ⟨.aq [],hp.put b (some (.cells [.ptr b 0,.ae] 269)),[b]⟩:=by
 have hlt:=eo hb;have q:=oE b hp;refine uF (by rw[hft];exact JP) (by simp) ?_;unfold CC;simp only[enter];refine gg14 ?_;refine⟨.inl rfl,rfl,[],rfl,?_⟩;refine(Yw (v:=.aq []) rfl hlt rfl rfl (by simp) ?_).trans ?_
 . show max (b+1) (max 0 0)<=_;omega
 . simp[hlt]
theorem Yy (hft:M.FT=FT)(b:Nat)(hp:ab)(v:AV)(hb:hp.at b=some (.cells [.ptr b 0,v] 269)):aT M 303 [.ptr b 0] hp ⟨.aq [],hp,[]⟩:=by
 refine nK (by rw[hft];exact JP) (by simp) ?_;unfold CC;simp only[enter];exact gg8
structure Kept (N b:Nat)(hp H:ab)(wr:List Nat):Prop where
 len:hp.length<=H.length
 at':∀a,a<N->a≠b->H[a]? = hp[a]?
 wr:∀x∈wr,x=b\/N<=x
theorem JR {h h':ab}{a:Nat}(e:h'[a]? = h[a]?):h'.at a=h.at a:=by simp only[ab.at,e]
theorem sy {h:ab}{a b:Nat}{x:Option bw}(hn:a≠b):(h.put b x)[a]? = h[a]? := by
 simp only[ab.put,List.getElem?_set,if_neg (fun e:b=a=>hn e.symm)]
theorem JS {h l:ab}{a:Nat}(hn:a<h.length):(h++l)[a]? = h[a]? := List.getElem?_append_left hn
theorem JT (hft:M.FT=FT)(qp:∀ars h,M.ext 303 ars h=none)(oE:∀b h,M.ext 323 [.ptr b 0] h=some ⟨.ptr b 0,h,[]⟩)(N b:Nat)(hp:ab)(acc s:an)(hN:b<N/\N<=hp.length)(hs:s≠[])(hl:acc.length+s.length<1000000000)(hB:oC N hp b acc) :
 ir M 265 [.ptr b 0,.str s] hp fun r=>r.v = .aq [.iV s.length,.cY]/\oC N r.h b (acc++s)/\Kept N b hp r.h r.wr/\b∈r.wr/\r.h.at b=some (.cells [.ptr b 0,.sl hp.length 0 (acc++s).length 1 none] 269):=by
 have h0:0<s.length:=List.length_pos_iff.2 hs;have hne:acc++s≠[]:=by simp[hs]
 rcases hB with ⟨rfl,hb⟩|⟨ha,c,hc,hb,hcb⟩
 . have hlt:=eo hb;have q:=CT.run (fi:=[]) (ca:=[]) (ars:=[.ptr b 0]) (qp _ _) (Yx hft oE b hp hb);have hb1:(hp.put b (some (.cells [.ptr b 0,.ae] 269))).at b=some (.cells [.ptr b 0,.ae] 269):=dg hlt;have hb2:=bT (l:=[some (.cells (br s) 5)]) hb1;have hsc:eA (hp.put b (some (.cells [.ptr b 0,.ae] 269))) (.str s)=some (br s,s.length):=rfl;refine ir.rC (by rw[hft];exact JN) (by simp) ?_;unfold CB;simp only[enter];refine gg15 ?_;refine⟨.inr rfl,_,rfl,[.iV s.length,.cY],rfl,?_⟩;rw[Hi (n:=hp.length) rfl rfl ?_]
   . have hL:(hp.put b (some (bw.cells [.ptr b 0,.ae] 269))++[some (bw.cells (br s) 5)]).length=hp.length+1:=by simp[fj]
     refine⟨rfl,.inr ⟨hne,hp.length,hN.2,?_,?_⟩,⟨?_,fun a h1 h2=>?_,?_⟩,by simp[hlt],?_⟩
     . simp only[dg (show b<_ by rw[hL];omega),fj,List.nil_append]
     . rw[List.nil_append];refine pH (by omega) ?_;have:=bW (h:=hp.put b (some (bw.cells [.ptr b 0,.ae] 269))) (x:=some (bw.cells (br s) 5));rw[fj]at this;exact this
     . rw[fj,hL];omega
     . rw[sy h2,JS (by rw[fj];omega),sy h2]
     . simp
     . simp only[dg (show b<_ by rw[hL];omega),fj,List.nil_append]
   . simp only[tight,List.all_eq_false];refine⟨b,by simp,?_⟩;rw[dg (by simp[fj];omega)];simp[bw.top,bk,AV.top,fj];omega
 . have hlt:=eo hb;have q:=CT.run (fi:=[]) (ca:=[]) (ars:=[.ptr b 0]) (qp _ _) (Yy hft b hp _ hb);have hsc:eA hp (.str s)=some (br s,s.length):=rfl;have hcl:=eo hcb;have hbc:b≠c:=by omega
   have hb2:ab.at (hp.put c none++[some (.cells (br acc++br s) 5)]) b=some (.cells [.ptr b 0,.sl c 0 acc.length 1 none] 269):=bT (pH hbc hb);refine ir.rC (by rw[hft];exact JN) (by simp) ?_;unfold CB;simp only[enter];refine gg14 ?_;refine⟨.inr rfl,_,rfl,[.iV s.length,.cY],rfl,?_⟩;rw[Hi (n:=hp.length) rfl rfl ?_]
   . have hL:(hp.put c none++[some (bw.cells (List.drop 0 (br acc)++br s) 5)]).length=hp.length+1:=by simp[fj]
     refine⟨rfl,.inr ⟨hne,hp.length,hN.2,?_,?_⟩,⟨?_,fun a h1 h2=>?_,?_⟩,by simp[hlt],?_⟩
     . simp only[dg (show b<_ by rw[hL];omega),List.length_append]
     . refine pH (by omega) ?_;have:=bW (h:=hp.put c none) (x:=some (bw.cells (List.drop 0 (br acc)++br s) 5));rw[fj]at this;rw[this,List.drop_zero,XW]
     . rw[fj,hL];omega
     . rw[sy h2,JS (by rw[fj];omega),sy (by omega)]
     . intro x hx;simp at hx;omega
     . simp only[dg (show b<_ by rw[hL];omega),List.length_append]
   . simp only[tight,List.all_eq_false];refine⟨b,by simp,?_⟩;rw[dg (by simp[fj];omega)];simp[bw.top,bk,AV.top];omega
theorem JU (hft:M.FT=FT)(N b:Nat)(hp:ab)(acc:an)(hB:oC N hp b acc)(hne:acc≠[])(hl:acc.length<1000000000)(hN:b<N/\N<=hp.length):ir M 266 [.ptr b 0] hp fun r=>r.v = .str acc/\Kept N b hp r.h r.wr:=by
 have h0:0<acc.length:=List.length_pos_iff.2 hne;rcases hB with ⟨rfl,hb⟩|⟨ha,c,hc,hb,hcb⟩
 . exact absurd rfl hne
 have hcl:=eo hcb;refine ir.rC (by rw[hft];exact Yu) (by simp) ?_;unfold JO;simp only[enter];have hcut:cut (br acc) 0 ((acc.length:Int)).toNat=some (br acc):=by
  rw[Int.toNat_natCast];simp[cut,kP];exact List.take_of_length_le (by rw[kP];exact Nat.le_refl _)
 refine gg14 ?_;refine⟨.inr rfl,_,rfl,[.str acc],rfl,?_⟩;rw[RV (n:=hp.length) rfl rfl (Nat.zero_le _) ?_]
 . refine⟨rfl,?_,fun a h1 h2=>?_,?_⟩
   . simp only[CE rfl,fj];exact Nat.le_refl _
   . simp only[CE rfl];exact sy (by omega)
   . intro x hx;simp at hx;omega
 . have:ab.at (hp.put c none) c=none:=dg hcl;simp[tight,this]
end Go.Ab.Ch1

/-
  Own work: decimal texts in parts of 18 digits.
-/
namespace Go.Ab.aY
theorem wN:∀k,cE k 0=List.replicate k 48
 | 0=>rfl
 | k+1=>by rw[cE,wN k,List.replicate_succ'];rfl
theorem JV:∀{k n:Nat},n<10^(k+1)->cE (k+1) n=List.replicate (k+1-(aR n).length) 48++aR n
 | 0,n,h=>by
  have h:n<10:=by simpa using h
  rw[gN h];simp[cE,Nat.mod_eq_of_lt h]
 | k+1,n,h=>by
  rw[cE];by_cases h1:n<10
  . rw[gN h1,Nat.div_eq_of_lt h1,wN,Nat.mod_eq_of_lt h1];rfl
  . rw[Nat.pow_succ]at h;have hl:(aR n).length=(aR (n/10)).length+1:=by rw[jK h1];simp
    rw[JV (k:=k) (n:=n/10) (by omega),jK h1,List.append_assoc];rw[show k+1+1-(aR (n/10)++[dE (n%10)]).length=k+1-(aR (n/10)).length by rw[←jK h1,hl];omega]
def iF (n:Nat):List an:=if n=0 then [] else if n<1000000000000000000 then [aR n] else cE 18 (n%1000000000000000000)::iF (n/1000000000000000000)
termination_by n
decreasing_by omega
theorem qq:iF 0=[]:=by rw[iF,if_pos rfl]
theorem sA {n:Nat}(h0:n≠0)(h:n<1000000000000000000):iF n=[aR n]:=by rw[iF,if_neg h0,if_pos h]
theorem sB {n:Nat}(h:¬n<1000000000000000000):iF n=cE 18 (n%1000000000000000000)::iF (n/1000000000000000000):=by
 rw[iF,if_neg (by omega),if_neg h]
theorem Yz {n:Nat}(h:n≠0):(iF n).reverse.flatten=aR n:=by
 induction n using Nat.strongRecOn with
 | _ n ih=>
  by_cases h1:n<1000000000000000000
  . rw[sA h h1];simp
  . rw[sB h1,List.reverse_cons,List.flatten_append,ih _ (by omega) (by omega)];have e:=Cr (k:=18) (a:=n/1000000000000000000) (b:=n%1000000000000000000) (by omega) (by rw[show (10:Nat)^18=1000000000000000000 by rfl];omega);rw[show (10:Nat)^18=1000000000000000000 by rfl,show n/1000000000000000000*1000000000000000000+n%1000000000000000000=n by omega]at e;rw[e];simp
theorem YA {n:Nat}:∀x∈iF n,x≠[]:=by
 induction n using Nat.strongRecOn with
 | _ n ih=>
  by_cases h0:n=0
  . subst h0;rw[qq];simp
  . by_cases h1:n<1000000000000000000
    . rw[sA h0 h1];intro x hx;rw[List.mem_singleton.1 hx];exact kq _
    . rw[sB h1];intro x hx;rcases List.mem_cons.1 hx with h3|hx
      . rw[h3];exact fun e=>absurd (congrArg List.length e) (by rw[ko,List.length_nil];exact Nat.succ_ne_zero 17)
      . exact ih (n/1000000000000000000) (Nat.div_lt_self (Nat.pos_of_ne_zero h0) (by decide)) x hx
theorem YB {n:Nat}:∀x∈iF n,x.length<=18:=by
 induction n using Nat.strongRecOn with
 | _ n ih=>
  by_cases h0:n=0
  . subst h0;rw[qq];simp
  . by_cases h1:n<1000000000000000000
    . rw[sA h0 h1];intro x hx;rw[List.mem_singleton.1 hx];exact ox (k:=18) h1 (by decide)
    . rw[sB h1];intro x hx;rcases List.mem_cons.1 hx with h3|hx
      . rw[h3,ko];exact Nat.le_refl _
      . exact ih (n/1000000000000000000) (Nat.div_lt_self (Nat.pos_of_ne_zero h0) (by decide)) x hx
theorem JW:∀{k n:Nat},n<1000000000000000000^k->(iF n).length<=k
 | 0,n,h=>by
  obtain rfl:n=0:=by simpa using h
  rw[qq];exact Nat.le_refl _
 | k+1,n,h=>by
  by_cases h0:n=0
  . subst h0;rw[qq];exact Nat.zero_le _
  . by_cases h1:n<1000000000000000000
    . rw[sA h0 h1];exact Nat.succ_le_succ (Nat.zero_le _)
    . rw[sB h1,List.length_cons];rw[Nat.pow_succ]at h;have:=JW (k:=k) (n:=n/1000000000000000000) (Nat.div_lt_of_lt_mul (by rw[Nat.mul_comm];exact h));omega
end Go.Ab.aY

/-
  Own work: the code of texts of integers and fractions.
-/
namespace Go.Ab.Ch1
set_option maxRecDepth 1000000
def mM:al:=.seq (zR [zm 24 4,zl 25 24,zc 26 .gtr 25 0] (.cond (.l 26) (.skip) (.exit 0))) (.block 1 (zR [zm 28 4,zm 29 5,z2 30 253 28 29,zn 27 30,ze 31 0 27,ze 32 1 27,zw 7 31,zw 8 32] (zR [⟨.p 9,.mv (.c (.str [48])),none⟩] (.seq (zR [zm 33 8,zl 34 33,zc 35 .gtr 34 0] (.cond (.l 35) (.region [zm 36 8,⟨.l 37,.cP none 1 (.l 36) (kI 0),none⟩,zd 38 1 37,⟨.l 39,.call (kF 263) [(.l 38),(kI 10)],none⟩,zw 9 39]) (.skip))) (.seq (zR [zm 40 7,zl 41 40,zc 42 .gtr 41 0] (.cond (.l 42) (.region [zm 43 9,zL 44 43,⟨.l 45,.bin .sub (kI 18) (.l 44),none⟩,⟨.l 46,.call (kF 264) [(.c (.str [48])),(.l 45)],none⟩,zm 47 9,zb 48 .add 46 47,zw 9 48]) (.skip))) (zR [zm 49 6,zm 50 9,⟨.l 51,.dZ 9 1 1 [.str []] [(0,1,(.l 50))],none⟩,⟨.l 52,.append 9 1 16 (.l 49) (.l 51),none⟩,zw 6 52] (.region [zm 53 7,zw 4 53])))))))
def wO:al:=.seq (zR [zm 59 11,zc 60 .geq 59 0] (.cond (.l 60) (.skip) (.exit 2))) (.seq (.block 3 (.region [zm 63 6,zm 64 11,za 65 1 63 64,zd 66 1 65,⟨.l 67,.call (kF 265) [(.p 10),(.l 66)],none⟩])) (.region [zm 61 11,zc 62 .sub 61 1,zw 11 62]))
def CH:al:=zR [zx 1 131 2 0,⟨.p 2,.mv (.c (.str [])),none⟩] (.seq (zR [zf 12 1 1,zd 13 1 12,⟨.l 14,.eq false (.ref .slice) (.l 13) (.c (.ae)),none⟩] (.cond (.l 14) (zR [zf 15 0 1,zd 16 1 15,z1 17 183 16,zw 2 17] (.ret)) (.skip))) (zR [zt 19 2 1,z1 20 246 19,zn 18 20,ze 21 0 18,ze 22 1 18,zw 3 21,zw 4 22] (zR [⟨.l 23,.dZ 246 1 1 [.uV (0)] [(0,1,(kU 1000000000000000000))],none⟩,zw 5 23] (zR [⟨.p 6,.mv (.c (.ae)),none⟩] (.seq (.block 0 (.loop mM)) (zR [⟨.p 10,.alloc 269 [.du,.ae],none⟩] (.seq (zR [zm 54 3] (.cond (.l 54) (.region [⟨.l 55,.call (kF 265) [(.p 10),(.c (.str [45]))],none⟩]) (.skip))) (.seq (zR [zm 56 6,zl 57 56,zc 58 .sub 57 1,zw 11 58] (.block 2 (.loop wO))) (zR [⟨.l 68,.call (kF 266) [(.p 10)],none⟩,zw 2 68] (.ret))))))))))
theorem JX:FT 224=some ⟨69,[0,1,2,3,4,5,6,7,8,9,10,11],[.var (.p 2)],CH⟩:=by kernel_rfl
def JY:al:=zR [zx 1 131 2 0,⟨.p 2,.mv (.c (.bool false)),none⟩] (zR [zt 3 2 1,z1 4 262 3,zc 5 .gtr 4 1800,zn 6 5,zg (zt 7 2 1) 6 true,zg (z1 8 224 7) 6 true,⟨.l 9,.call (kF 213) [(.l 8),(.c (.str [45]))],some ((.l 6),true)⟩,zg (zL 10 9) 6 true,zg (zc 11 .gtr 10 600) 6 true,zp 12 6 11,zw 2 12] (.ret))
theorem YC:FT 223=some ⟨13,[0,1,2],[.var (.p 2)],JY⟩:=by kernel_rfl
def wP:al:=.seq (zR [zm 13 0,zL 14 13,zc 15 .gtr 14 0] (.cond (.l 15) (.skip) (.exit 0))) (.block 1 (zR [zm 16 0,zL 17 16,⟨.l 18,.mm false [(kI 18),(.l 17)],none⟩,zw 4 18] (zR [zm 20 0,zm 21 4,⟨.l 22,.slice .str 1 (.l 20) none (some (.l 21)) none,none⟩,z1 23 214 22,zn 19 23,ze 24 0 19,ze 25 1 19,zw 5 24,zn 7 25] (.seq (.draw [(zt 26 2 3,[]),(⟨.l 27,.call (kF 168) [(kI 10)],none⟩,[0]),(zm 28 4,[0,1]),(z2 29 215 27 28,[0]),(z2 30 198 26 29,[]),(zm 31 5,[0,1,2,3,4]),(z1 32 168 31,[]),(z2 33 202 30 32,[]),(zs 2 3 33,[])]) (.region [zm 34 0,zm 35 4,⟨.l 36,.slice .str 1 (.l 34) (some (.l 35)) none none,none⟩,zw 0 36])))))
def JZ:al:=zR [⟨.p 1,.alloc 131 [.iV (0),.ae],none⟩] (zR [zm 8 0,⟨.l 9,.call (kF 212) [(.l 8),(.c (.str [45]))],none⟩,zw 2 9] (zR [zm 10 0,⟨.l 11,.call (kF 213) [(.l 10),(.c (.str [45]))],none⟩,zw 0 11] (zR [⟨.l 12,.build [.iV (0),.ae] [],none⟩,⟨.p 3,.alloc 131 [.iV (0),.ae],none⟩,zs 2 3 12] (.seq (.block 0 (.loop wP)) (.seq (zR [zm 37 2] (.cond (.l 37) (zR [zt 38 2 3,z1 39 216 38,zs 2 1 39] (.ret)) (.skip))) (zR [zt 40 2 3,zs 2 1 40] (.ret)))))))
theorem YD:FT 166=some ⟨41,[0,2,3,4,5,6],[.cell 2 true (.p 1)],JZ⟩:=by kernel_rfl
def Ka:al:=zR [zx 1 133 4 0,⟨.p 2,.mv (.c (.bool false)),none⟩] (zR [zf 3 0 1,zT 4 2 3,z1 5 223 4,zn 6 5,zg (zf 7 2 1) 6 false,zg (zT 8 2 7) 6 false,zg (z1 9 223 8) 6 false,zP 10 6 9,zw 2 10] (.ret))
theorem YE:FT 175=some ⟨11,[0,1,2],[.var (.p 2)],Ka⟩:=by kernel_rfl
def Kb:al:=zR [zx 1 133 4 0,⟨.p 2,.mv (.c (.str [])),none⟩] (.seq (zR [zt 3 4 1,z1 4 201 3] (.cond (.l 4) (zR [zf 5 0 1,zT 6 2 5,z1 7 224 6,zw 2 7] (.ret)) (.skip))) (.seq (.draw [(zf 8 0 1,[]),(zT 9 2 8,[]),(z1 10 224 9,[]),(⟨.l 11,.bin .add (.l 10) (.c (.str [47])),none⟩,[]),(zf 12 2 1,[0,1,2,3]),(zT 13 2 12,[0,1,2,3]),(z1 14 224 13,[3]),(zb 15 .add 11 14,[]),(zw 2 15,[])]) (.ret)))
theorem YF:FT 176=some ⟨16,[0,1,2],[.var (.p 2)],Kb⟩:=by kernel_rfl
def CK:al:=zR [⟨.p 1,.alloc 133 [.iV (0),.ae,.iV (0),.ae],none⟩] (zR [zm 7 0,⟨.l 8,.call (kF 163) [(.l 7),(.c (.str [47]))],none⟩,zn 6 8,ze 9 0 6,ze 10 1 6,ze 11 2 6,zw 2 9,zw 3 10,zw 4 11] (.seq (zR [zm 12 4,zu 13 12] (.cond (.l 13) (zR [zm 14 2,z1 15 166 14,z1 16 159 15,zs 4 1 16] (.ret)) (.skip))) (zR [zm 17 2,z1 18 166 17,zm 19 3,z1 20 166 19,⟨.l 21,.build [.iV (0),.ae,.iV (0),.ae] [(0,2,(.l 18)),(2,2,(.l 20))],none⟩,zs 4 1 21] (.ret))))
theorem Kc:FT 103=some ⟨22,[0,2,3,4,5],[.cell 4 true (.p 1)],CK⟩:=by kernel_rfl
end Go.Ab.Ch1

/-
  Own work: decimal texts of integers of any size: the parts.
-/
namespace Go.Ab.Ch1
open Go.Ab.aY
variable {M:ax} {cap:Option Nat} {N:Nat}
abbrev jh (s:an):List AV:=[.str s]
structure wQ (M:ax)(N:Nat):Prop extends CI M N where
 Kd:∀z h,(-9223372036854775808<=z/\z<9223372036854775808)->M.ext 183 [.iV z] h=some ⟨.str (bL z),h,[]⟩
 CL:∀(u:Nat) h,u<18446744073709551616->M.ext 263 [.uV u,.iV 10] h=some ⟨.str (aR u),h,[]⟩
 Ke:∀(k:Nat) h,k<=64->M.ext 264 [.str [48],.iV k] h=some ⟨.str (List.replicate k 48),h,[]⟩
 Kf:∀(l:List Int) (b:Nat) c h,okW wB l->az l->l.length<=500000->WV wB l<1000000000000000000->h.at b=some (.cells (ah [1000000000000000000]) 246)->M.ext 253 [.vs (ah l) l.length none,.sl b 0 1 1 c] h=some ⟨.aq [.ae,.vs (ah l) l.length none],h,[]⟩
 Kg:∀(l:List Int) (b:Nat) c h,okW wB l->az l->l.length<=500000->¬WV wB l<1000000000000000000->h.at b=some (.cells (ah [1000000000000000000]) 246)->∃q r,okW wB q/\az q/\okW wB r/\az r/\WV wB q=WV wB l/1000000000000000000/\WV wB r=WV wB l%1000000000000000000/\M.ext 253 [.vs (ah l) l.length none,.sl b 0 1 1 c] h=some ⟨.aq [.vs (ah q) q.length none,.vs (ah r) r.length none],h,[]⟩
 CM:∀ars h,M.ext 265 ars h=none
 CN:∀ars h,M.ext 266 ars h=none
 qp:∀ars h,M.ext 303 ars h=none
 oE:∀b h,M.ext 323 [.ptr b 0] h=some ⟨.ptr b 0,h,[]⟩
theorem CO {l:List Int}(ok:okW wB l)(nr:az l)(h:WV wB l<wB):l=[]\/∃x,l=[x]/\x=WV wB l/\0<x:=by
 have h1:=fQ (b:=wB) (by decide) ok nr (n:=1) (by rw[Int.pow_one];exact h);match l,h1 with
 | [],_=>exact .inl rfl
 | [x],_=>
  refine .inr ⟨x,rfl,by simp[WV],?_⟩;have h2:=(ok x (by simp)).1;have h3:=(rN (l:=[x]) (by simp)).1 nr;have h4:x≠0:=by simpa using h3
  omega
set_option maxRecDepth 100000 in
theorem YG (C:wQ M N){Q:Ex->ao->Prop}(a0 a2 a3 a10 a11:AV)(c5:Option Nat):∀(k:Nat) (l:List Int) (acc:List an) (o:AV) (K:ab) (a7 a8 a9:AV) (lo:List (Nat×AV)) (wr:List Nat),okW wB l->az l->l.length<=500000->WV wB l<1000000000000000000^k->acc.length+k<=10000000->cz jh 1 9 K o acc [1]->K.at 1=some (.cells (ah [1000000000000000000]) 246) ->
 (∀p4 o' K' a7 a8 a9 lo wr,cz jh 1 9 K' o' (acc++iF (WV wB l).toNat) [1]->Q (.exit 0) ⟨⟨[a0,.ptr 0 0,a2,a3,p4,.sl 1 0 1 1 c5,o',a7,a8,a9,a10,a11],lo,K',[]⟩,wr⟩) ->
 W M (.loop mM) ⟨⟨[a0,.ptr 0 0,a2,a3,.vs (ah l) l.length none,.sl 1 0 1 1 c5,o,a7,a8,a9,a10,a11],lo,K,[]⟩,wr⟩ Q:=by
 intro k;induction k with
 | zero=>
  intro l acc o K a7 a8 a9 lo wr ok nr hl hv hk ho hK hQ;have h0:=cn (b:=wB) (by decide) ok;rw[Int.pow_zero]at hv;have hz:WV wB l=0:=by omega
  have hln:l=[]:=by
   rcases CO ok nr (by rw[hz];decide) with h|⟨x,_,h1,h2⟩
   . exact h
   . omega
  subst hln;have e0:(WV wB ([]:List Int)).toNat=0:=rfl;rw[e0,qq,List.append_nil]at hQ;have hl0:([]:List Int).length=0:=rfl;refine W.loop ?_;unfold mM;exact gg12
 | succ k ih=>
  intro l acc o K a7 a8 a9 lo wr ok nr hl hv hk ho hK hQ;have h0:=cn (b:=wB) (by decide) ok;obtain⟨v,hvv⟩:∃v:Nat,WV wB l=(v:Int):=⟨(WV wB l).toNat,by omega⟩;have et:(WV wB l).toNat=v:=by omega
  rw[et]at hQ;have hroom:(acc.length+1)*16<=dD:=by unfold dD;omega
  have hK1:=eo hK;refine W.loop ?_;by_cases h1:WV wB l<1000000000000000000
  . rcases CO ok nr (Int.lt_trans h1 (by decide)) with rfl|⟨x,rfl,hx,hx0⟩
    . have hv0:v=0:=by simp[WV]at hvv;omega
      subst hv0;rw[qq,List.append_nil]at hQ;have hl0:([]:List Int).length=0:=rfl;unfold mM;exact gg12
    . have q253:=C.Kf [x] 1 c5 K ok nr hl h1 hK;have hxv:x=(v:Int):=by omega
      have q263:=fun h=>C.CL v h (by omega)
      rw[←hxv]at q263;have el:(([x]:List Int)[(0:Int).toNat]!)=x:=rfl;rw[sA (by omega) (by omega)]at hQ;have hl1:([x]:List Int).length=1:=rfl;unfold mM;repeat' first|(refine cz.app (f:=jh) (m:=[aR v]) (S:=[1]) (fun _=>rfl) (fun _=>rfl) (by decide) (ho.grow [_]) (by simp;omega) rfl rfl (Sl.iJ (f:=jh) (esz:=1) (l:=[aR v]) (e:=9) (fun _=>rfl) bW rfl) hroom (fun H w' o' ho' hk hlen=>?_))|apply aap|apply aM|apply aaF|apply aaY|apply acS|apply abJ|apply cX|(apply abz;rfl)|(apply abF;rfl)|(apply adU;rfl;rfl)|(apply abD;rfl;rfl;first|exact q253|exact q263 _)|(apply aeX;rfl;rfl;omega)|(apply afu;rfl;exact fun _=>rfl;(first|omega|(simp only[List.length_set];omega)|(simp;omega));decide;rfl;case ia=>infer_instance)|(apply acb;rfl;rfl;rfl)|(apply aab;rfl;rfl)|(apply aaZ;rfl;rfl)|(intro _;omega)|intro _
      all_goals try omega
      refine fT (W.loop ?_);exact gg12
  . obtain⟨q,r,okq,nrq,okr,nrr,vq,vr,q253⟩:=C.Kg l 1 c5 K ok nr hl h1 hK;have hq0:0<WV wB q:=by rw[vq];omega
    have hqne:0<q.length:=List.length_pos_iff.2 (fun e=>by rw[e]at hq0;simp[WV]at hq0);have hlne:0<l.length:=List.length_pos_iff.2 (fun e=>by rw[e]at h1;exact h1 (by simp[WV]));have hql:q.length<=500000:=by
     refine Nat.le_trans (fQ (b:=wB) (by decide) okq nrq (n:=l.length) ?_) hl;have:=dr (b:=wB) (by decide) ok;rw[vq];omega
    have hqv:WV wB q<1000000000000000000^k:=by
     rw[vq];rw[Int.pow_succ]at hv;exact Int.ediv_lt_of_lt_mul (by decide) hv
    obtain⟨R,hR⟩:∃R:Nat,WV wB r=(R:Int):=⟨(WV wB r).toNat,by omega⟩;have hRv:R=v%1000000000000000000:=by omega
    have hqn:(WV wB q).toNat=v/1000000000000000000:=by omega
    rw[sB (by omega),←hRv,←hqn]at hQ;have hpad:=JV (k:=17) (n:=R) (by rw[hRv,show (10:Nat)^(17+1)=1000000000000000000 by rfl];omega);have hdl:(aR R).length<=18:=ox (k:=18) (by rw[hRv,show (10:Nat)^18=1000000000000000000 by rfl];omega) (by decide);have hdl0:0<(aR R).length:=List.length_pos_iff.2 (kq R);have q264:=fun h=>C.Ke (18-(aR R).length) h (by omega)
    have rH:((18-(aR R).length:Nat):Int)=18-((aR R).length:Int):=by omega
    rw[rH]at q264;have hrl:(List.replicate (18-(aR R).length) (48:UInt8)).length=18-(aR R).length:=by simp
    rw[show 17+1-(aR R).length=18-(aR R).length by omega]at hpad;rw[show 17+1=18 by rfl]at hpad;obtain⟨zs,hzs⟩:∃zs,zs=List.replicate (18-(aR R).length) (48:UInt8):=⟨_,rfl⟩;rw[←hzs]at hpad q264 hrl;rw[hpad]at hQ;have fin:∀H w' o' a7 a8 a9 lo,cz jh 1 9 H o' (acc++[zs++aR R]) [1]->H.at 1=some (.cells (ah [1000000000000000000]) 246)->LQ M mM Q .normal ⟨⟨[a0,.ptr 0 0,a2,a3,.vs (ah q) q.length none,.sl 1 0 1 1 c5,o',a7,a8,a9,a10,a11],lo,H,[]⟩,w'⟩:=fun H w' o' a7 a8 a9 lo ho' hH=>
     fT (ih q _ _ _ _ _ _ _ _ okq nrq hql hqv (by simp;omega) ho' hH (fun p4 o2 K2 a7 a8 a9 lo wr ho2=>hQ _ _ _ _ _ _ _ _ (by rw[List.append_assoc]at ho2;exact ho2)))
    rcases CO okr nrr (by
                                rw[vr];have:(1000000000000000000:Int)<wB:=by decide
                                omega) with rfl|⟨x,rfl,hx,hx0⟩
    . have hR0:R=0:=by simp[WV]at hR;omega
      subst hR0;have hd0:aR 0=[48]:=gN (by decide);rw[hd0]at fin hrl hdl q264 hdl0;have hr0:([]:List Int).length=0:=rfl;have h48:([48]:an).length=1:=rfl;unfold mM;exact gg9
    . have hxv:x=(R:Int):=by omega
      have q263:=fun h=>C.CL R h (by omega)
      rw[←hxv]at q263;have el:(([x]:List Int)[(0:Int).toNat]!)=x:=rfl;have hl1:([x]:List Int).length=1:=rfl;unfold mM;exact gg9
end Go.Ab.Ch1

/-
  Own work: decimal texts of integers of any size.
-/
namespace Go.Ab.Ch1
open Go.Ab.aY
variable {M:ax} {cap:Option Nat} {N:Nat}
def jq (l:List an)(i:Nat):an:=(l.drop i).reverse.flatten
theorem YH {l:List an}:jq l 0=l.reverse.flatten:=rfl
theorem Kh {l:List an}:jq l l.length=[]:=by rw[jq,List.drop_length];rfl
theorem YI {l:List an}{i:Nat}(h:i<l.length):jq l i=jq l (i+1)++l[i]! := by
 rw[jq,jq,List.drop_eq_getElem_cons h,List.reverse_cons,List.flatten_append,getElem!_pos l i h];simp
theorem ir.ctx {g:Nat}{ars:List AV}{h:ab}{P:HR->Prop}(hn:M.ext g ars h=none)(hr:ir M g ars h P):∃v H wr,P ⟨v,H,wr⟩/\CT M (ib g) ars h ⟨v,H,wr⟩:=by
 obtain⟨⟨⟨v,H,wr⟩,h1,h2⟩⟩:=hr;exact⟨v,H,wr,h2,CT.run (fi:=[]) (ca:=[]) (by simpa using hn) (by simpa using h1)⟩
set_option maxRecDepth 100000 in
theorem Ki (C:wQ M N){Q:Ex->ao->Prop}(parts:List an)(hp0:∀x∈parts,x≠[])(hp18:∀x∈parts,x.length<=18)(hlen:parts.length<20000000)(c B:Nat)(hcB:c<B)(pre:an)(hpre:pre.length<=1)(a0 a1 a2 a3 a4 a5 a7 a8 a9:AV)
 (hQ:∀K lo wr,oC (B+1) K B (pre++parts.reverse.flatten)->B+1<=K.length->Q (.exit 2) ⟨⟨[a0,a1,a2,a3,a4,a5,.sl c 0 parts.length 1 none,a7,a8,a9,.ptr B 0,.iV (-1)],lo,K,[]⟩,wr⟩) :
 ∀(i:Nat) (K:ab) (lo:List (Nat×AV)) (wr:List Nat),i<=parts.length->K.at c=some (.cells (arr jh parts) 9)->oC (B+1) K B (pre++jq parts i)->B+1<=K.length ->
 W M (.loop wO) ⟨⟨[a0,a1,a2,a3,a4,a5,.sl c 0 parts.length 1 none,a7,a8,a9,.ptr B 0,.iV ((i:Int)-1)],lo,K,[]⟩,wr⟩ Q:=by
 have tl:∀i,(jq parts i).length<=18*parts.length:=fun i=>by
  rw[jq,List.length_flatten];have:∀l:List an,(∀x∈l,x.length<=18)->(l.map List.length).sum<=18*l.length:=by
   intro l;induction l with
   | nil=>intro _;simp
   | cons x l ih=>
    intro h;have h1:=h x (by simp);have h2:=ih fun y hy=>h y (by simp[hy])
    simp only[List.map_cons,List.sum_cons,List.length_cons];omega
  refine Nat.le_trans (this _ fun x hx=>hp18 x (List.mem_of_mem_drop (List.mem_reverse.1 hx))) ?_;simp;omega
 intro i;induction i with
 | zero=>
  intro K lo wr hi hc hB hK;rw[YH]at hB;refine W.loop ?_;unfold wO;exact gg4
 | succ i ih=>
  intro K lo wr hi hc hB hK;have nC:i<parts.length:=by omega
  have e0:(((i+1:Nat):Int)-1)=(i:Int):=by omega
  rw[e0];have hx0:=hp0 parts[i]! (by rw[getElem!_pos parts i nC];exact List.getElem_mem nC);have hx18:=hp18 parts[i]! (by rw[getElem!_pos parts i nC];exact List.getElem_mem nC);have hal:(pre++jq parts (i+1)).length<900000000:=by
   have:=tl (i+1);rw[List.length_append];omega
  obtain⟨v,H,wr',⟨hv,hB',hk,hw,_⟩,q265⟩:=ir.ctx (C.CM _ _) (JT C.ft C.qp C.oE (B+1) B K (pre++jq parts (i+1)) parts[i]! ⟨by omega,hK⟩ hx0 (by omega) hB);simp only at hv hB' hk hw;subst hv;have hc':H.at c=some (.cells (arr jh parts) 9):=(JR (hk.at' c (by omega) (by omega))).trans hc;have hH:=hk.len;rw[List.append_assoc,←YI nC]at hB';rw[show parts[i]! = parts[((i:Int)).toNat]! from rfl]at q265;refine W.loop ?_;unfold wO;exact gg12
theorem mN {z:Int}(h:z<0):bL z=45::aR (ak z).toNat:=by
 rw[bL,if_pos h];unfold ak;rw[if_pos h]
theorem ku {z:Int}(h:¬z<0):bL z=aR (ak z).toNat:=by
 rw[bL,if_neg h];unfold ak;rw[if_neg h]
set_option maxRecDepth 100000 in
theorem YJ (C:wQ M N){v:AV}{z:Int}(hv:aw v z)(lz:ak z<wB^N):aT M 224 [v] [] ⟨.str (bL z),[],[]⟩:=by
 cases hv with
 | small h=>
  have q183:=fun hh=>C.Kd z hh h
  refine bH (by rw[C.ft];exact JX) (by simp) ?_;unfold CH;simp only[enter];exact gg2
 | @eZ σ z w hs ok nr hw hz=>
  have hv:aw (.agg [.iV σ,.vs (ah w) w.length none]) z:=.eZ hs ok nr hw hz;obtain⟨x,l,hx,ol,nl,hl,q246⟩:=C.km _ z hv;have len:=C.len ol nl hl lz;have habs:ak z≠0:=by
   unfold ak;split <;> rcases hs with rfl|rfl <;> omega
  have hl0:l≠[]:=fun e=>by rw[e]at hl;exact habs (by simpa[WV] using hl.symm)
  have hxl:x = .vs (ah l) l.length none:=by
   rcases hx with h|⟨_,h⟩
   . exact h
   . exact absurd h hl0
  subst hxl;have hn0:(ak z).toNat≠0:=by have:=iD (x:=z);omega
  have hcat:=Yz hn0;have hlt:WV wB l<1000000000000000000^(2*N):=by
   rw[hl,Int.pow_mul];refine Int.lt_of_lt_of_le lz ?_;have:∀n:Nat,wB^n<=((1000000000000000000:Int)^2)^n:=by
    intro n;induction n with
    | zero=>decide
    | succ n ih=>
     rw[Int.pow_succ,Int.pow_succ];exact Int.mul_le_mul ih (by decide) (by decide) (Int.pow_nonneg (by decide))
   exact this N
  have hlN:=C.lN;cases w with
  | nil=>simp[WV]at hw
  | cons y w=>
  have pne:=YA (n:=(ak z).toNat);have p18:=YB (n:=(ak z).toNat);obtain⟨parts,hparts⟩:∃parts,parts=iF (ak z).toNat:=⟨_,rfl⟩;rw[←hparts]at hcat pne p18;have hltN:(ak z).toNat<1000000000000000000^(2*N):=by
   have h1:=hlt;rw[hl,←Int.toNat_of_nonneg (iD (x:=z))]at h1;obtain⟨n,hn⟩:∃n,n=(ak z).toNat:=⟨_,rfl⟩;obtain⟨m,hm⟩:∃m,m=2*N:=⟨_,rfl⟩;rw[←hn,←hm]at h1 ⊢;have h2:(1000000000000000000:Int)^m=((1000000000000000000^m:Nat):Int):=(Int.natCast_pow 1000000000000000000 m).symm;rw[h2]at h1;exact Int.ofNat_lt.1 h1
  have iN:parts.length<20000000:=by
   have:=JW (n:=(ak z).toNat) (k:=2*N) hltN;rw[←hparts]at this;omega
  have dlen:(aR (ak z).toNat).length<500000000:=by
   have:=ox (n:=(ak z).toNat) (k:=18*(2*N)+1) (by
    have h2:=hltN;rw[show (1000000000000000000:Nat)=10^18 by rfl,←Nat.pow_mul]at h2;exact Nat.lt_of_lt_of_le h2 (Nat.pow_le_pow_right (by decide) (by omega))) (by omega)
   omega
  have hpne:parts≠[]:=fun e=>by rw[e]at hcat;exact kq _ hcat.symm
  have lp:=fun (Q:Ex->ao->Prop) a0 a2 a3 a10 a11 c5 K hK a7 a8 a9 lo wr hQ=>YG C (Q:=Q) a0 a2 a3 a10 a11 c5 (2*N) l [] .ae K a7 a8 a9 lo wr ol nl len hlt (by simp;omega) .nM hK hQ
  rw[hl,←hparts]at lp;refine bH (by rw[C.ft];exact JX) (by simp) ?_;unfold CH;simp only[enter];by_cases hn:z<0
  . rw[decide_eq_true hn]at q246;rw[mN hn];refine gg6 ?_;refine lp _ _ _ _ _ _ _ _ rfl _ _ _ _ _ (fun p4 o K a7 a8 a9 lo wr ho=>?_);rw[List.nil_append]at ho;rcases ho with ⟨h1,_⟩|⟨c,cp,hc1,rfl,hc,hcap⟩
    . exact absurd h1 hpne
    obtain rfl:cp=none:=hcap.resolve_right fun h=>hpne h.1
    have hcl:=eo hc;have hB0:oC (K.length+1) (K++[some (.cells [.du,.ae] 269)]) K.length []:=.inl ⟨rfl,bW⟩;obtain⟨v,H,wr',⟨hv',hB',hk,hw',_⟩,q265⟩:=ir.ctx (C.CM _ _) (JT C.ft C.qp C.oE (K.length+1) K.length _ [] [45] ⟨by omega,by rw[List.length_append];exact Nat.le_refl _⟩ (by decide) (by decide) hB0);simp only at hv' hB' hk hw';subst hv';have hc':H.at c=some (.cells (arr jh parts) 9):=(JR (hk.at' c (by omega) (by omega))).trans (bT hc);have hH:=hk.len;simp only[List.length_append,List.length_cons,List.length_nil]at hH;refine gg14 ?_;refine Ki C parts pne p18 iN c K.length hcl [45] (by decide) _ _ _ _ _ _ _ _ _ (fun K2 lo wr hB2 hK2=>?_) parts.length H _ _ (Nat.le_refl _) hc' (by rw[Kh];exact hB') (by omega);rw[hcat]at hB2;obtain⟨v2,H2,wr2,⟨hv2,_⟩,q266⟩:=ir.ctx (C.CN _ _) (JU C.ft (K.length+1) K.length K2 _ hB2 (by simp) (by simp only[List.length_append,List.length_cons,List.length_nil];omega) ⟨by omega,hK2⟩);simp only at hv2;subst hv2;exact gg8
  . rw[decide_eq_false hn]at q246;rw[ku hn];refine gg6 ?_;refine lp _ _ _ _ _ _ _ _ rfl _ _ _ _ _ (fun p4 o K a7 a8 a9 lo wr ho=>?_);rw[List.nil_append]at ho;rcases ho with ⟨h1,_⟩|⟨c,cp,hc1,rfl,hc,hcap⟩
    . exact absurd h1 hpne
    obtain rfl:cp=none:=hcap.resolve_right fun h=>hpne h.1
    have hcl:=eo hc;have hB0:oC (K.length+1) (K++[some (.cells [.du,.ae] 269)]) K.length []:=.inl ⟨rfl,bW⟩;refine gg10 ?_;refine Ki C parts pne p18 iN c K.length hcl [] (by decide) _ _ _ _ _ _ _ _ _ (fun K2 lo wr hB2 hK2=>?_) parts.length _ _ _ (Nat.le_refl _) (bT hc) (by rw[Kh];exact hB0) (by rw[List.length_append];exact Nat.le_refl _);rw[hcat]at hB2;obtain⟨v2,H2,wr2,⟨hv2,_⟩,q266⟩:=ir.ctx (C.CN _ _) (JU C.ft (K.length+1) K.length K2 _ hB2 (by simp[kq]) (by simp only[List.length_append,List.length_cons,List.length_nil];omega) ⟨by omega,hK2⟩);simp only at hv2;subst hv2;exact gg8
end Go.Ab.Ch1

/-
  Own work: decimal texts of fractions; fractions that are not large.
-/
namespace Go.Ab.Ch1
open Go.Ab.aY
variable {M:ax} {cap:Option Nat} {N N2:Nat}
def aQ (q:Rat):an:=if q.den=1 then bL q.num else bL q.num++47::aR q.den
theorem YK (hft:M.FT=FT){v:AV}{z:Int}(hv:aw v z)(lz:ak z<2^1800)(c262:∀h,M.ext 262 [v] h=some ⟨.iV (cj (ak z)),h,[]⟩):aT M 223 [v] [] ⟨.bool false,[],[]⟩:=by
 have hb:=oc (x:=ak z) (n:=1800) lz iD;obtain⟨s,w,rfl,o,_⟩:=hv.shape;obtain⟨k,hk⟩:∃k,k=cj (ak z):=⟨_,rfl⟩;rw[←hk]at hb c262;refine bH (by rw[hft];exact YC) (by simp) ?_;unfold JY;simp only[enter];exact gg2
theorem YL (hft:M.FT=FT){v:AV}{q:Rat}(hv:bI v q)(l1:ak q.num<2^1800)(l2:(q.den:Int)<2^1800)(c223:∀v z h,aw v z->ak z<2^1800->M.ext 223 [v] h=some ⟨.bool false,h,[]⟩):aT M 175 [v] [] ⟨.bool false,[],[]⟩:=by
 obtain⟨s1,w1,s2,w2,rfl,h1,h2⟩:=hv;have dq:=den_pos (q:=q);have qa:=fun h=>c223 _ _ h h1 l1
 have qb:=fun h=>c223 _ _ h h2 (by rw[cV (by omega)];exact l2)
 refine bH (by rw[hft];exact YE) (by simp) ?_;unfold Ka;simp only[enter];repeat' first|apply aap|apply aM|apply aaF|apply aaY|apply abu|(apply aeP;rfl)|(apply adM;rfl;rfl)|(apply abD;rfl;rfl;first|exact qa _|exact qb _)|(apply acb;rfl;rfl;rfl)|(apply acK;rfl;rfl;rfl)|(apply aab;rfl;rfl)|(apply aaZ;rfl;rfl)
 all_goals exact⟨.inr rfl,rfl,_,rfl,rfl,rfl⟩
theorem YM (n:Nat):bL (n:Int)=aR n:=by
 rw[bL,if_neg (by omega)];rfl
theorem YN (hft:M.FT=FT){v:AV}{q:Rat}(hv:bI v q)(hb:(bL q.num).length<1000000000/\(aR q.den).length<1000000000)(mI:∀h,M.ext 201 [v] h=some ⟨.bool (decide (q.den=1)),h,[]⟩)(ca:∀v h,aw v q.num->M.ext 224 [v] h=some ⟨.str (bL q.num),h,[]⟩)(cb:∀v h,aw v q.den->M.ext 224 [v] h=some ⟨.str (aR q.den),h,[]⟩):aT M 176 [v] [] ⟨.str (aQ q),[],[]⟩:=by
 obtain⟨s1,w1,s2,w2,rfl,h1,h2⟩:=hv;have qa:=fun h=>ca _ h h1
 have qb:=fun h=>cb _ h h2
 have h47:([47]:an).length=1:=rfl;refine bH (by rw[hft];exact YF) (by simp) ?_;unfold Kb;simp only[enter];by_cases hd:q.den=1
 . rw[decide_eq_true hd]at mI;rw[aQ,if_pos hd];repeat' first|(apply abD;rfl;rfl;first|exact qa _|exact qb _)|apply aap|apply aM|apply aaF|apply aaY|apply abu|apply bZ|(apply abz;rfl)|(apply abD;rfl;rfl;first|exact mI _|exact qa _)|(apply acb;rfl;rfl;rfl)|(apply acK;rfl;rfl;rfl)|(apply aab;rfl;rfl)|(apply aaZ;rfl;rfl)
   all_goals exact⟨.inr rfl,rfl,_,rfl,rfl,rfl⟩
 . rw[decide_eq_false hd]at mI;rw[aQ,if_neg hd];obtain⟨x,hx⟩:∃x,x=bL q.num:=⟨_,rfl⟩;obtain⟨y,hy⟩:∃y,y=aR q.den:=⟨_,rfl⟩;rw[←hx]at qa hb ⊢;rw[←hy]at qb hb ⊢;have hxl:(x++[47]:an).length=x.length+1:=by simp
   repeat' first|(apply aeS;rfl;rfl;(first|(simp only[nca];rfl)|rfl);first|exact qa _|exact qb _)|apply aap|apply aM|apply aaF|apply aaY|apply abu|apply abJ|apply aeb|apply aem|(apply aeZ;rfl)|(apply aeJ;rfl;rfl;(first|(simp only[nca];rfl)|rfl))|(apply abF;rfl)|(apply aga;rfl;rfl;first|omega|(simp only[List.length_append,List.length_cons,List.length_nil];omega)|(simp;omega))|(apply abD;rfl;rfl;first|exact mI _)|(apply acb;rfl;rfl;rfl)|(apply acK;rfl;rfl;rfl)|(apply aab;rfl;rfl)|(apply aaZ;rfl;rfl)
   all_goals exact⟨.inr rfl,rfl,_,rfl,by simp[aV],rfl⟩
end Go.Ab.Ch1

/-
  Own work: the code of functions: prefixes, cuts, trimmed texts, read integers.
-/
namespace Go.Ab.Ch1
set_option maxRecDepth 1000000
def wR:List AV:=List.replicate 256 (.bool false)
def Kj:al:=zR [⟨.p 2,.mv (.c (.bool false)),none⟩] (zR [zm 5 0,zm 6 1,z2 7 255 5 6,zw 2 7] (.ret))
theorem YO:FT 212=some ⟨8,[0,1,4],[.var (.p 2)],Kj⟩:=by kernel_rfl
def CP:al:=zR [⟨.p 2,.mv (.c (.bool false)),none⟩] (zR [zm 5 0,zL 6 5,zm 7 1,zL 8 7,zb 9 .geq 6 8,zn 10 9,zg (zm 11 0) 10 true,zg (zm 12 1) 10 true,zg (zL 13 12) 10 true,⟨.l 14,.slice .str 1 (.l 11) none (some (.l 13)) none,some ((.l 10),true)⟩,zg (zm 15 1) 10 true,zg (zb 16 .eql 14 15) 10 true,zp 17 10 16,zw 2 17] (.ret))
theorem YP:FT 255=some ⟨18,[0,1,4],[.var (.p 2)],CP⟩:=by kernel_rfl
def Kk:al:=zR [⟨.p 2,.mv (.c (.str [])),none⟩] (zR [zm 5 0,zm 6 1,z2 7 258 5 6,zw 2 7] (.ret))
theorem YQ:FT 213=some ⟨8,[0,1,4],[.var (.p 2)],Kk⟩:=by kernel_rfl
def Kl:al:=zR [⟨.p 2,.mv (.c (.str [])),none⟩] (.seq (zR [zm 5 0,zm 6 1,z2 7 255 5 6] (.cond (.l 7) (zR [zm 8 0,zm 9 1,zL 10 9,⟨.l 11,.slice .str 1 (.l 8) (some (.l 10)) none none,none⟩,zw 2 11] (.ret)) (.skip))) (zR [zm 12 0,zw 2 12] (.ret)))
theorem YR:FT 258=some ⟨13,[0,1,4],[.var (.p 2)],Kl⟩:=by kernel_rfl
def Km:al:=zR [zi 1 0,⟨.p 2,.mv (.c (.cY)),none⟩] (zR [zm 7 0,z1 8 259 7,zn 6 8,ze 9 0 6,ze 10 1 6,zw 3 9,zw 4 10] (.seq (zR [zm 11 4,⟨.l 12,.eq true (.iface false) (.l 11) (.c (.cY)),none⟩] (.cond (.l 12) (zR [zm 13 3,zm 14 0,zm 15 4,⟨.l 16,.call (kF 260) [(.c (.str zD8)),(.l 14),(kI 0),(kI 0),(.l 15)],none⟩,zw 1 13,zw 2 16] (.ret)) (.skip))) (zR [zm 17 3,zw 1 17,⟨.p 2,.mv (.c (.cY)),none⟩] (.ret))))
theorem YS:FT 214=some ⟨18,[0,2,3,4,5],[.var (.p 1),.var (.p 2)],Km⟩:=by kernel_rfl
def wS:al:=zR [zr 50 .lss 11 10] (.seq (.cond (.l 50) (.skip) (.exit 0)) (.seq (.block 1 (zR [⟨.l 51,.cP none 1 (.p 9) (.p 11),none⟩,zd 52 1 51,zw 6 52] (zR [zm 53 6,⟨.l 54,.bin .sub (.l 53) (.c (.int .u8 (48))),none⟩,zw 6 54] (.seq (zR [zm 55 6,⟨.l 56,.bin .gtr (.l 55) (.c (.int .u8 (9))),none⟩] (.cond (.l 56) (zR [⟨.l 57,.qH 291 (kI 2),none⟩,zi 1 0,zw 2 57] (.ret)) (.skip))) (.region [zm 58 5,zc 59 .mul 58 10,zm 60 6,⟨.l 61,.dz .i64 (.l 60),none⟩,zb 62 .add 59 61,zw 5 62]))))) (.region [zq 63 .add 11 1,zw 11 63])))
def Kn:al:=zR [zi 1 0,⟨.p 2,.mv (.c (.cY)),none⟩] (zR [zm 11 0,zL 12 11,zw 3 12] (.seq (zR [⟨.l 13,.mv (.c (.bool false)),none⟩,zg (zm 14 3) 13 true,⟨.l 15,.bin .lss (kI 0) (.l 14),some ((.l 13),true)⟩,zg (zn 16 15) 13 true,zg (zm 17 3) 16 true,zg (zc 18 .lss 17 10) 16 true,zg (zp 19 16 18) 13 true,zp 20 13 19,zn 21 20,⟨.l 22,.mv (.c (.bool true)),some ((.l 21),false)⟩,zg (zm 23 3) 22 true,⟨.l 24,.bin .lss (kI 0) (.l 23),some ((.l 22),true)⟩,zg (zn 25 24) 22 true,zg (zm 26 3) 25 true,zg (zc 27 .lss 26 19) 25 true,zg (zp 28 25 27) 22 true,zg (zp 29 22 28) 21 false,zP 30 21 29] (.cond (.l 30) (zR [zm 31 0,zw 4 31] (.seq (zR [zm 32 0,⟨.l 33,.index (.l 32) (kI 0),none⟩,⟨.l 34,.bin .eql (.l 33) (.c (.int .u8 (45))),none⟩,zn 35 34,zg (zm 36 0) 35 false,⟨.l 37,.index (.l 36) (kI 0),some ((.l 35),false)⟩,⟨.l 38,.bin .eql (.l 37) (.c (.int .u8 (43))),some ((.l 35),false)⟩,zP 39 35 38] (.cond (.l 39) (zR [zm 40 0,⟨.l 41,.slice .str 1 (.l 40) (some (kI 1)) none none,none⟩,zw 0 41] (zR [zm 42 0,zL 43 42,zc 44 .lss 43 1] (.cond (.l 44) (zR [⟨.l 45,.qH 291 (kI 2),none⟩,zi 1 0,zw 2 45] (.ret)) (.skip)))) (.skip))) (zR [zi 5 0] (.seq (zR [zm 46 0,⟨.p 9,.oT 5 (.l 46),none⟩,⟨.p 10,.len .sl (.p 9),none⟩,zi 11 0] (.block 0 (.loop wS))) (.seq (zR [zm 64 4,⟨.l 65,.index (.l 64) (kI 0),none⟩,⟨.l 66,.bin .eql (.l 65) (.c (.int .u8 (45))),none⟩] (.cond (.l 66) (.region [zm 67 5,⟨.l 68,.un .neg (.l 67),none⟩,zw 5 68]) (.skip))) (zR [zm 69 5,zw 1 69,⟨.p 2,.mv (.c (.cY)),none⟩] (.ret))))))) (.skip))) (zR [zm 71 0,⟨.l 72,.call (kF 293) [(.l 71),(kI 10),(kI 0)],none⟩,zn 70 72,ze 73 0 70,ze 74 1 70,zw 7 73,zw 8 74] (zR [zm 75 7,zm 76 8,zw 1 75,zw 2 76] (.ret)))))
theorem YT:FT 259=some ⟨77,[0,2,3,4,5,6,8,9,10,47,48,49],[.var (.p 1),.var (.p 2)],Kn⟩:=by kernel_rfl
def Ko:al:=zR [⟨.p 2,.mv (.c (.str [])),none⟩,⟨.p 3,.mv (.c (.str [])),none⟩,⟨.p 4,.mv (.c (.bool false)),none⟩] (zR [zm 7 0,zm 8 1,z2 9 208 7 8,ze 10 0 9,ze 11 1 9,ze 12 2 9,zw 2 10,zw 3 11,zw 4 12] (.ret))
theorem YU:FT 163=some ⟨13,[0,1,4,5,6],[.var (.p 2),.var (.p 3),.var (.p 4)],Ko⟩:=by kernel_rfl
def CV:al:=zR [⟨.p 2,.mv (.c (.str [])),none⟩,⟨.p 3,.mv (.c (.str [])),none⟩,⟨.p 4,.mv (.c (.bool false)),none⟩] (.seq (zR [zm 8 0,zm 9 1,z2 10 256 8 9,zw 5 10] (zR [zm 11 5,zc 12 .geq 11 0] (.cond (.l 12) (.seq (.draw [(zm 13 0,[]),(zm 14 5,[0]),(⟨.l 15,.slice .str 1 (.l 13) none (some (.l 14)) none,none⟩,[]),(zm 16 0,[0,1,2]),(zm 17 5,[0,1,2,3]),(zm 18 1,[0,1,2,3,4]),(zL 19 18,[0,1,2,3,4]),(zb 20 .add 17 19,[0,1,2,3]),(⟨.l 21,.slice .str 1 (.l 16) (some (.l 20)) none none,none⟩,[0,1,2]),(zw 2 15,[3,4,5,6,7,8]),(zw 3 21,[]),(⟨.p 4,.mv (.c (.bool true)),none⟩,[])]) (.ret)) (.skip)))) (zR [zm 22 0,zw 2 22,⟨.p 3,.mv (.c (.str [])),none⟩,⟨.p 4,.mv (.c (.bool false)),none⟩] (.ret)))
theorem YV:FT 208=some ⟨23,[0,1,4,5,6,7],[.var (.p 2),.var (.p 3),.var (.p 4)],CV⟩:=by kernel_rfl
def YW:al:=.seq (zR [zm 57 6,zm 58 7,zb 59 .lss 57 58] (.cond (.l 59) (.skip) (.exit 1))) (.block 2 (.seq (zR [zm 60 0,zm 61 6,⟨.l 62,.index (.l 60) (.l 61),none⟩,zm 63 4,zb 64 .neq 62 63] (.cond (.l 64) (zR [zm 65 0,zm 66 6,zc 67 .add 66 1,zm 68 7,⟨.l 69,.slice .str 1 (.l 65) (some (.l 67)) (some (.l 68)) none,none⟩,zm 70 4,z2 71 282 69 70,zw 9 71] (.seq (zR [zm 72 9,zc 73 .lss 72 0] (.cond (.l 73) (zR [zi 2 (-1)] (.ret)) (.skip))) (.region [zm 74 6,zm 75 9,zc 76 .add 75 1,zb 77 .add 74 76,zw 6 77]))) (.skip))) (.seq (zR [zm 78 0,zm 79 6,zc 80 .add 79 1,⟨.l 81,.index (.l 78) (.l 80),none⟩,zm 82 5,zb 83 .eql 81 82,zn 84 83,zg (zm 85 0) 84 true,zg (zm 86 6) 84 true,zg (zm 87 6) 84 true,zg (zm 88 3) 84 true,zg (zb 89 .add 87 88) 84 true,⟨.l 90,.slice .str 1 (.l 85) (some (.l 86)) (some (.l 89)) none,some ((.l 84),true)⟩,zg (zm 91 1) 84 true,zg (zb 92 .eql 90 91) 84 true,zp 93 84 92] (.cond (.l 93) (zR [zm 94 6,zw 2 94] (.ret)) (.skip))) (zR [zm 95 6,zc 96 .add 95 1,zw 6 96] (zR [zm 97 8,zc 98 .add 97 1,zw 8 98] (.seq (.bad) (.cond (.l 107) (zR [zm 108 0,zm 109 6,⟨.l 110,.slice .str 1 (.l 108) (some (.l 109)) none none,none⟩,zm 111 1,z2 112 283 110 111,zw 10 112] (.seq (zR [zm 113 10,zc 114 .geq 113 0] (.cond (.l 114) (zR [zm 115 10,zm 116 6,zb 117 .add 115 116,zw 2 117] (.ret)) (.skip))) (zR [zi 2 (-1)] (.ret)))) (.seq (.bad) (.cond (.l 132) (zR [zm 133 0,zm 134 6,⟨.l 135,.slice .str 1 (.l 133) (some (.l 134)) none none,none⟩,zm 136 1,z2 137 285 135 136,zw 11 137] (.seq (zR [zm 138 11,zc 139 .lss 138 0] (.cond (.l 139) (zR [zi 2 (-1)] (.ret)) (.skip))) (zR [zm 140 6,zm 141 11,zb 142 .add 140 141,zw 2 142] (.ret)))) (.skip))))))))))
def Kp:al:=zR [zi 2 0] (zR [zm 14 1,zL 15 14,zw 3 15] (.seq (.block 0 (zR [zm 17 3,zc 18 .eql 17 0,zn 19 18,zg (zm 20 1) 19 false,zg (zm 21 0) 19 false,zg (zb 22 .eql 20 21) 19 false,zP 23 19 22,zn 16 23] (.cond (.l 16) (zR [zi 2 0] (.ret)) (zR [zm 25 3,zc 26 .eql 25 1,zn 24 26] (.cond (.l 24) (zR [zm 27 0,zm 28 1,⟨.l 29,.index (.l 28) (kI 0),none⟩,z2 30 282 27 29,zw 2 30] (.ret)) (zR [zm 32 3,zm 33 0,zL 34 33,zb 35 .geq 32 34,zn 31 35] (.cond (.l 31) (zR [zi 2 (-1)] (.ret)) (.seq (.bad) (.cond (.l 36) (zR [zm 45 0,zm 46 1,z2 47 283 45 46,zw 2 47] (.ret)) (.skip)))))))))) (zR [zm 48 1,⟨.l 49,.index (.l 48) (kI 0),none⟩,zw 4 49] (zR [zm 50 1,⟨.l 51,.index (.l 50) (kI 1),none⟩,zw 5 51] (zR [zi 6 0] (zR [zm 52 0,zL 53 52,zm 54 3,zb 55 .sub 53 54,zc 56 .add 55 1,zw 7 56] (zR [zi 8 0] (.seq (.block 1 (.loop YW)) (zR [zi 2 (-1)] (.ret))))))))))
theorem YX:FT 256=some ⟨143,[0,1,4,5,6,7,8,9,10,11,12,13],[.var (.p 2)],Kp⟩:=by kernel_rfl
def Kq:al:=zR [zi 2 0] (zR [zm 5 0,zm 6 1,z2 7 312 5 6,zw 2 7] (.ret))
theorem YY:FT 282=some ⟨8,[0,1,4],[.var (.p 2)],Kq⟩:=by kernel_rfl
def Kr:al:=zR [⟨.p 2,.mv (.c (.str [])),none⟩,⟨.p 3,.mv (.c (.bool false)),none⟩] (zR [zm 6 0,zm 7 1,z2 8 207 6 7,ze 9 0 8,ze 10 1 8,zw 2 9,zw 3 10] (.ret))
theorem YZ:FT 162=some ⟨11,[0,1,4,5],[.var (.p 2),.var (.p 3)],Kr⟩:=by kernel_rfl
def Ks:al:=zR [⟨.p 2,.mv (.c (.str [])),none⟩,⟨.p 3,.mv (.c (.bool false)),none⟩] (.seq (zR [zm 6 0,zm 7 1,z2 8 255 6 7,zu 9 8] (.cond (.l 9) (zR [zm 10 0,zw 2 10,⟨.p 3,.mv (.c (.bool false)),none⟩] (.ret)) (.skip))) (zR [zm 11 0,zm 12 1,zL 13 12,⟨.l 14,.slice .str 1 (.l 11) (some (.l 13)) none none,none⟩,zw 2 14,⟨.p 3,.mv (.c (.bool true)),none⟩] (.ret)))
theorem Za:FT 207=some ⟨15,[0,1,4,5],[.var (.p 2),.var (.p 3)],Ks⟩:=by kernel_rfl
def Kt:al:=zR [⟨.p 1,.mv (.c (.bool false)),none⟩] (zR [zm 3 0,⟨.l 4,.bin .neq (.l 3) (.c (.str [])),none⟩,zn 5 4,zg (zm 6 0) 5 true,⟨.l 7,.call (kF 257) [(.l 6),(.c (.str zD9))],some ((.l 5),true)⟩,⟨.l 8,.bin .eql (.l 7) (.c (.str [])),some ((.l 5),true)⟩,zp 9 5 8,zw 1 9] (.ret))
theorem Zb:FT 209=some ⟨10,[0,2],[.var (.p 1)],Kt⟩:=by kernel_rfl
def Ku:al:=zR [⟨.p 2,.mv (.c (.str [])),none⟩] (.seq (zR [zm 7 0,⟨.l 8,.bin .eql (.l 7) (.c (.str [])),none⟩,zn 9 8,zg (zm 10 1) 9 false,⟨.l 11,.bin .eql (.l 10) (.c (.str [])),some ((.l 9),false)⟩,zP 12 9 11] (.cond (.l 12) (zR [zm 13 0,zw 2 13] (.ret)) (.skip))) (.seq (zR [zm 14 1,zL 15 14,zc 16 .eql 15 1,zn 17 16,zg (zm 18 1) 17 true,⟨.l 19,.index (.l 18) (kI 0),some ((.l 17),true)⟩,⟨.l 20,.bin .lss (.l 19) (.c (.int .u8 (128))),some ((.l 17),true)⟩,zp 21 17 20] (.cond (.l 21) (.seq (.draw [(zm 22 0,[]),(zm 23 1,[0]),(⟨.l 24,.index (.l 23) (kI 0),none⟩,[0]),(z2 25 287 22 24,[]),(zm 26 1,[0,1,2,3]),(⟨.l 27,.index (.l 26) (kI 0),none⟩,[0,1,2,3]),(z2 28 286 25 27,[]),(zw 2 28,[])]) (.ret)) (.skip))) (.seq (zR [zm 30 1,z1 31 288 30,zn 29 31,ze 32 0 29,ze 33 1 29,⟨.p 3,.alloc 286 wR,none⟩,zs 256 3 32,zw 4 33] (zR [zm 34 4] (.cond (.l 34) (zR [zm 35 0,⟨.l 36,.call (kF 290) [(.l 35),(.p 3)],none⟩,⟨.l 37,.call (kF 289) [(.l 36),(.p 3)],none⟩,zw 2 37] (.ret)) (.skip)))) (zR [zm 38 0,zm 39 1,z2 40 292 38 39,zm 41 1,z2 42 291 40 41,zw 2 42] (.ret)))))
theorem Zc:FT 257=some ⟨43,[0,1,4,5,6],[.var (.p 2)],Ku⟩:=by kernel_rfl
def Zd:al:=.seq (zR [zm 6 3,zm 7 0,zL 8 7,zb 9 .lss 6 8] (.cond (.l 9) (.skip) (.exit 0))) (.seq (.block 1 (zR [zm 12 0,zm 13 3,⟨.l 14,.index (.l 12) (.l 13),none⟩,zw 4 14] (.seq (zR [zm 15 4,⟨.l 16,.bin .geq (.l 15) (.c (.int .u8 (128))),none⟩] (.cond (.l 16) (zR [zt 17 256 1,zs 256 1 17,⟨.p 2,.mv (.c (.bool false)),none⟩] (.ret)) (.skip))) (.region [zm 18 4,⟨.l 19,.cP (some 256) 1 (.p 1) (.l 18),none⟩,⟨.no,.store 1 (.l 19) (.c (.bool true)),none⟩])))) (.region [zm 10 3,zc 11 .add 10 1,zw 3 11]))
def CW:al:=zR [⟨.p 1,.alloc 286 wR,none⟩,⟨.p 2,.mv (.c (.bool false)),none⟩] (.seq (zR [zi 3 0] (.block 0 (.loop Zd))) (zR [zt 20 256 1,zs 256 1 20,⟨.p 2,.mv (.c (.bool true)),none⟩] (.ret)))
theorem Ze:FT 288=some ⟨21,[0,2,3,4,5],[.cell 256 true (.p 1),.var (.p 2)],CW⟩:=by kernel_rfl
def sC:al:=.seq (zR [zm 5 0,zL 6 5,zc 7 .gtr 6 0] (.cond (.l 7) (.skip) (.exit 0))) (.block 1 (.seq (zR [zm 8 1,zm 9 0,⟨.l 10,.index (.l 9) (kI 0),none⟩,z2 11 314 8 10,zu 12 11] (.cond (.l 12) (.exit 0) (.skip))) (.region [zm 13 0,⟨.l 14,.slice .str 1 (.l 13) (some (kI 1)) none none,none⟩,zw 0 14])))
def Kv:al:=zR [⟨.p 2,.mv (.c (.str [])),none⟩] (.seq (.block 0 (.loop sC)) (zR [zm 15 0,zw 2 15] (.ret)))
theorem Zf:FT 289=some ⟨16,[0,1,4],[.var (.p 2)],Kv⟩:=by kernel_rfl
def sD:al:=.seq (zR [zm 5 0,zL 6 5,zc 7 .gtr 6 0] (.cond (.l 7) (.skip) (.exit 0))) (.block 1 (.seq (zR [zm 8 1,zm 9 0,zm 10 0,zL 11 10,zc 12 .sub 11 1,⟨.l 13,.index (.l 9) (.l 12),none⟩,z2 14 314 8 13,zu 15 14] (.cond (.l 15) (.exit 0) (.skip))) (.region [zm 16 0,zm 17 0,zL 18 17,zc 19 .sub 18 1,⟨.l 20,.slice .str 1 (.l 16) none (some (.l 19)) none,none⟩,zw 0 20])))
def Kw:al:=zR [⟨.p 2,.mv (.c (.str [])),none⟩] (.seq (.block 0 (.loop sD)) (zR [zm 21 0,zw 2 21] (.ret)))
theorem Zg:FT 290=some ⟨22,[0,1,4],[.var (.p 2)],Kw⟩:=by kernel_rfl
def Kx:al:=zR [⟨.p 2,.mv (.c (.bool false)),none⟩] (zR [zm 5 0,zm 6 1,⟨.l 7,.ju (.l 5),none⟩,⟨.l 8,.cP (some 256) 1 (.l 7) (.l 6),none⟩,zd 9 1 8,zw 2 9] (.ret))
theorem Zh:FT 314=some ⟨10,[0,1,4],[.var (.p 2)],Kx⟩:=by kernel_rfl
def Ky:al:=zR [⟨.p 1,.mv (.c (.bool false)),none⟩] (zR [zm 3 0,z1 4 209 3,zn 5 4,zg (zm 6 0) 5 true,⟨.l 7,.index (.l 6) (kI 0),some ((.l 5),true)⟩,⟨.l 8,.bin .neq (.l 7) (.c (.int .u8 (48))),some ((.l 5),true)⟩,zg (zn 9 8) 5 true,zg (zm 10 0) 9 false,⟨.l 11,.bin .eql (.l 10) (.c (.str [48])),some ((.l 9),false)⟩,zg (zP 12 9 11) 5 true,zp 13 5 12,zw 1 13] (.ret))
theorem Zi:FT 164=some ⟨14,[0,2],[.var (.p 1)],Ky⟩:=by kernel_rfl
end Go.Ab.Ch1

/-
  Own work: texts: the first place of a byte, cuts.
-/
namespace Go.Ab.Ch1
open Go.Ab.aY
variable {M:ax} {cap:Option Nat}
theorem agV {t esz n0:Nat}{x i:aL}{l:List aU}{pe:List AV}{lo:List (Nat×AV)}{hp:ab}{df wr:List Nat}{b o:Nat}{k:IntKind}{n:Int}{Q:ao->Prop}(hx:(St.mk pe lo hp df).aa x=some (.ptr b o))(hy:(St.mk pe lo hp df).aa i=some (.int k n))(hb:0<=n/\n<n0)
 (h:WO M l ⟨⟨pe,(t,.ptr b (o+n.toNat*esz))::lo,hp,df⟩,wr⟩ Q):WO M (⟨.l t,.cP (some n0) esz x i,none⟩::l) ⟨⟨pe,lo,hp,df⟩,wr⟩ Q:=
 aab (v:=.ptr b (o+n.toNat*esz)) (by simp[aW,hx,hy,mV,hb]) rfl h
theorem ahl {t:Nat}{x y:aL}{l:List aU}{pe:List AV}{lo:List (Nat×AV)}{hp:ab}{df wr:List Nat}{a b:Int}{Q:ao->Prop}(hx:(St.mk pe lo hp df).aa x=some (.int .u8 a))(hy:(St.mk pe lo hp df).aa y=some (.int .u8 b))(hr:0<=a-b/\a-b<256)
 (h:WO M l ⟨⟨pe,(t,.int .u8 (a-b))::lo,hp,df⟩,wr⟩ Q):WO M (⟨.l t,.bin .sub x y,none⟩::l) ⟨⟨pe,lo,hp,df⟩,wr⟩ Q:=
 aab (v:=.int .u8 (a-b)) (by
  have:IntKind.u8.wrap (a-b)=a-b:=by simp only[IntKind.wrap,IntKind.bits,IntKind.signed];simp;omega
  simp only[aW,hx,hy,cN,if_true,this]) rfl h
def hasB (c:Int)(s:an):Bool:=s.any (fun b=>decide ((b.toNat:Int)=c))
theorem Zj (s:an)(b:UInt8):decide (0<=firstIdx ⟨s.toArray⟩ b)=hasB b.toNat s:=by
 unfold firstIdx hasB;have hsz:(ByteArray.mk s.toArray).size=s.length:=by simp[ByteArray.size]
 have hg:∀i,i<s.length->(ByteArray.mk s.toArray)[i]! = s[i]! := fun i hi=>by
  have h1:i<(ByteArray.mk s.toArray).size:=by rw[hsz];exact hi
  rw[getElem!_pos (ByteArray.mk s.toArray) i h1,getElem!_pos s i hi];rfl
 cases hf:(List.range (ByteArray.mk s.toArray).size).find? fun i=>(ByteArray.mk s.toArray)[i]! == b with
 | some i=>
  have h1:=List.find?_some hf;have h2:=List.mem_of_find?_eq_some hf;rw[List.mem_range,hsz]at h2;rw[hg i h2]at h1;symm
  simp only[decide_eq_true (show (0:Int)<=(i:Int) by omega)];rw[List.any_eq_true];refine⟨s[i],List.getElem_mem h2,?_⟩;rw[getElem!_pos s i h2]at h1;simp at h1;simp[h1]
 | none=>
  rw[List.find?_eq_none]at hf;symm
  rw[show decide ((0:Int) <= -1)=false from rfl];rw[List.any_eq_false];intro x hx;obtain⟨i,hi,rfl⟩:=List.mem_iff_getElem.1 hx;have:=hf i (by rw[List.mem_range,hsz];exact hi);rw[hg i hi,getElem!_pos s i hi]at this;simp at this;simp only[decide_eq_true_eq];intro e;exact this (UInt8.toNat_inj.1 (by omega))
structure sE (M:ax):Prop where
 ft:M.FT=FT
 Kz:∀ars h,M.ext 256 ars h=none
 KA:∀ars h,M.ext 282 ars h=none
 KB:∀(s:an) (c:Int) h,M.ext 312 [.str s,.int .u8 c] h=some ⟨.iV (firstIdx ⟨s.toArray⟩ c.toNat.toUInt8),h,[]⟩
theorem Zk (b:UInt8):((b.toNat:Int)).toNat.toUInt8=b:=by simp
theorem Zl (C:sE M)(s:an)(b:UInt8)(H:ab):CT M (ib 282) [.str s,.int .u8 b.toNat] H ⟨.iV (firstIdx ⟨s.toArray⟩ b),H,[]⟩:=by
 have hc:=C.KB s b.toNat H;rw[Zk]at hc;refine CT.run (C.KA _ _) (nK (by rw[C.ft];exact YY) (by simp) ?_);simp only[List.nil_append,List.append_nil];unfold Kq;simp only[enter];exact gg19
theorem Zm (C:sE M)(s:an)(b:UInt8)(H:ab):CT M (ib 256) [.str s,.str [b]] H ⟨.iV (firstIdx ⟨s.toArray⟩ b),H,[]⟩:=by
 have hc:=Zl C s b H;have hn0:¬(([b]:an).length:Int)=0:=by simp
 have hn:(([b]:an).length:Int)=1:=rfl;refine CT.run (C.Kz _ _) (nK (by rw[C.ft];exact YX) (by simp) ?_);simp only[List.nil_append,List.append_nil];unfold Kp;simp only[enter];by_cases hs:([b]:an)=s
 . subst hs;have e:firstIdx ⟨([b]:an).toArray⟩ b=0:=by
    have h1:=Zj [b] b;have h2:hasB b.toNat [b]=true:=by simp[hasB]
    rw[h2,decide_eq_true_eq]at h1;unfold firstIdx at h1 ⊢;rw[show (ByteArray.mk ([b]:an).toArray).size=1 from rfl]at h1 ⊢;rw[show List.range 1=[0] from rfl]at h1 ⊢;have h3:((ByteArray.mk ([b]:an).toArray)[0]! == b)=true:=by
     cases hq:((ByteArray.mk ([b]:an).toArray)[0]! == b) with
     | true=>rfl
     | false=>simp[hq]at h1
    simp only[List.find?_cons,h3];rfl
   rw[e];exact gg7
 . repeat' first|(apply aeK;rfl;rfl;all_goals first|(intro h;exact absurd h hs)|intro _)|apply aap|apply aM|apply aaF|apply aaY|apply acS|apply abu|apply bZ|apply fx|(apply abz;rfl)|(apply abF;rfl)|(apply aeP;rfl)|(apply adE;rfl;rfl)|(apply adM;rfl;rfl)|(apply aeq;rfl;rfl;first|exact hc)|(apply afb;rfl;rfl;omega)|(apply aab;rfl;rfl)|(apply aaZ;rfl;rfl)|(intro _;omega)|intro _
   all_goals exact⟨.inr rfl,rfl,rfl,rfl,_,rfl,rfl⟩
def bE (b:UInt8):an->an×Option an
 | []=>([],none)
 | c::s=>if c=b then ([],some s) else (c::(bE b s).1,(bE b s).2)
def mO (b:UInt8):an->List an
 | []=>[[]]
 | c::s=>if c=b then []::mO b s else match mO b s with
   | []=>[[c]]
   | x::l=>(c::x)::l
def lI (b:UInt8):an->Nat
 | []=>0
 | c::s=>(if c=b then 1 else 0)+lI b s
theorem mP {b:UInt8}:∀{s:an},(bE b s).2=none->(bE b s).1=s/\mO b s=[s]/\lI b s=0
 | [],_=>⟨rfl,rfl,rfl⟩
 | c::s,h=>by
  rw[bE]at h ⊢;by_cases hc:c=b
  . rw[if_pos hc]at h;cases h
  . rw[if_neg hc]at h ⊢;obtain⟨h1,h2,h3⟩:=mP (s:=s) h;refine⟨by simp only;rw[h1],?_,?_⟩
    . rw[mO,if_neg hc,h2]
    . rw[lI,if_neg hc,h3]
theorem qs {b:UInt8}:∀{s y:an},(bE b s).2=some y->s=(bE b s).1++b::y/\mO b s=(bE b s).1::mO b y/\lI b s=lI b y+1/\b∉(bE b s).1
 | [],y,h=>by cases h
 | c::s,y,h=>by
  rw[bE]at h ⊢;by_cases hc:c=b
  . rw[if_pos hc]at h ⊢;obtain rfl:s=y:=Option.some.inj h;subst hc;refine⟨rfl,?_,?_,by simp⟩
    . rw[mO,if_pos rfl]
    . rw[lI,if_pos rfl];omega
  . rw[if_neg hc]at h ⊢;obtain⟨h1,h2,h3,h4⟩:=qs (s:=s) h;refine⟨by simp only[List.cons_append];rw[←h1],?_,?_,?_⟩
    . rw[mO,if_neg hc,h2]
    . rw[lI,if_neg hc,h3];omega
    . simp only[List.mem_cons,not_or];exact⟨fun e=>hc e.symm,h4⟩
theorem Zn (s:an)(b:UInt8):firstIdx ⟨s.toArray⟩ b=if (bE b s).2=none then -1 else ((bE b s).1.length:Int):=by
 have hsz:(ByteArray.mk s.toArray).size=s.length:=by simp[ByteArray.size]
 have hg:∀i,i<s.length->(ByteArray.mk s.toArray)[i]! = s[i]! := fun i hi=>by
  have h1:i<(ByteArray.mk s.toArray).size:=by rw[hsz];exact hi
  rw[getElem!_pos (ByteArray.mk s.toArray) i h1,getElem!_pos s i hi];rfl
 unfold firstIdx;cases hy:(bE b s).2 with
 | none=>
  rw[if_pos rfl];cases hf:(List.range (ByteArray.mk s.toArray).size).find? fun i=>(ByteArray.mk s.toArray)[i]! == b with
  | none=>rfl
  | some i=>
   exfalso;have h1:=List.find?_some hf;have h2:=List.mem_of_find?_eq_some hf;rw[List.mem_range,hsz]at h2;rw[hg i h2,getElem!_pos s i h2]at h1;have hm:b∈s:=by
    have:s[i]=b:=by simpa using h1
    rw[←this];exact List.getElem_mem h2
   have h0:=(mP hy).2.2;have:∀s:an,b∈s->0<lI b s:=fun s=>by
    induction s with
    | nil=>intro h;cases h
    | cons c s ih=>
     intro h;rw[lI];rcases List.mem_cons.1 h with rfl|h
     . rw[if_pos rfl];omega
     . have:=ih h;omega
   have:=this s hm;omega
 | some y=>
  rw[if_neg (by simp)];obtain⟨h1,_,_,h4⟩:=qs hy;generalize (bE b s).1=x at h1 h4 ⊢;have hl:x.length<s.length:=by rw[h1];simp
  have hf:((List.range (ByteArray.mk s.toArray).size).find? fun i=>(ByteArray.mk s.toArray)[i]! == b)=some x.length:=by
   rw[hsz,List.find?_range_eq_some];refine⟨?_,by simpa using hl,fun j hj=>?_⟩
   . rw[hg _ hl,getElem!_pos s _ hl];have:s[x.length]? = some b:=by rw[h1];simp
     rw[List.getElem?_eq_getElem hl]at this;simp[Option.some.inj this]
   . rw[hg j (by omega),getElem!_pos s j (by omega)];have:s[j]? = x[j]? := by rw[h1,List.getElem?_append_left hj]
     rw[List.getElem?_eq_getElem (by omega:j<s.length),List.getElem?_eq_getElem hj]at this;rw[Option.some.inj this];have hne:x[j]≠b:=fun e=>h4 (by rw[←e];exact List.getElem_mem hj)
     simp[hne]
  rw[hf]
def iB (b:UInt8)(s:an):AV:=.aq [.str (bE b s).1,.str ((bE b s).2.getD []),.bool (bE b s).2.isSome]
theorem sG {b:UInt8}{s y:an}(h:(bE b s).2=some y):s.length=(bE b s).1.length+1+y.length:=by
 have:=congrArg List.length (qs h).1;simp only[List.length_append,List.length_cons]at this;omega
theorem CX {b:UInt8}{s y:an}(h:(bE b s).2=some y):s.take (bE b s).1.length=(bE b s).1:=by
 have e:=(qs h).1;generalize (bE b s).1=x at e ⊢;rw[e];simp
theorem KC {b:UInt8}{s y:an}(h:(bE b s).2=some y):s.drop ((bE b s).1.length+1)=y:=by
 have e:=(qs h).1;generalize (bE b s).1=x at e ⊢;rw[e];simp
theorem Zo (n208:∀ars h,M.ext 208 ars h=none)(C:sE M)(s:an)(b:UInt8)(hl:s.length<1000000)(H:ab):CT M (ib 208) [.str s,.str [b]] H ⟨iB b s,H,[]⟩:=by
 have hc:=Zm C s b H;have hn1:([b]:an).length=1:=rfl;rw[Zn]at hc;refine CT.run (n208 _ _) (nK (by rw[C.ft];exact YV) (by simp) ?_);simp only[List.nil_append,List.append_nil];cases hy:(bE b s).2 with
 | none=>
  rw[if_pos hy]at hc;have h1:=(mP hy).1;unfold CV;simp only[enter];refine gg10 ?_;refine⟨.inr rfl,rfl,rfl,rfl,_,rfl,?_⟩;simp only[iB,hy,h1];rfl
 | some y=>
  rw[if_neg (by rw[hy];simp)]at hc;have h1:=sG hy;have h2:=CX hy;have h3:=KC hy;generalize hx:(bE b s).1=x at h1 h2 h3 hc;unfold CV;simp only[enter];refine gg17 ?_;refine⟨.inr rfl,rfl,rfl,rfl,_,rfl,?_⟩;simp only[iB,hy,hx];rfl
theorem Zp (n208:∀ars h,M.ext 208 ars h=none)(C:sE M)(s:an)(b:UInt8)(hl:s.length<1000000):aT M 163 [.str s,.str [b]] [] ⟨iB b s,[],[]⟩:=by
 have hc:=Zo n208 C s b hl [];unfold iB at hc ⊢;refine bH (by rw[C.ft];exact YU) (by simp) ?_;unfold Ko;simp only[enter];exact gg8
end Go.Ab.Ch1

/-
  Own work: texts: trimmed by the digits.
-/
namespace Go.Ab.Ch1
open Go.Ab.aY
variable {M:ax} {cap:Option Nat}
@[irreducible] def eu:List AV:=(List.range 256).map fun i=>.bool (wF i)
def mQ:an:=[48,49,50,51,52,53,54,55,56,57]
set_option maxRecDepth 1000000 in
theorem Zq (M:ax):gk (bh M.ext M.inv M.FT 100) (fun _=>some ⟨21,[0,2,3,4,5],[.cell 256 true (.p 1),.var (.p 2)],CW⟩) 288 [.str mQ] []=some ⟨.aq [.agg eu,.bool true],[],[]⟩:=by
 kernel_rfl
theorem Zr {run:al->ao->Option (Ex×ao)}{F G:FuncId->Option dc}{f:FuncId}(h:F f=G f)(ars:List AV)(hp:ab):gk run F f ars hp=gk run G f ars hp:=by
 simp only[gk,h]
theorem Zs (hft:M.FT=FT):aT M 288 [.str mQ] [] ⟨.aq [.agg eu,.bool true],[],[]⟩:=by
 have h2:M.FT 288=(fun _=>some ⟨21,[0,2,3,4,5],[.cell 256 true (.p 1),.var (.p 2)],CW⟩:FuncId->Option dc) 288:=by rw[hft];exact Ze
 exact⟨100,(Zr h2 _ _).trans (Zq M)⟩
structure oF (M:ax):Prop where
 ft:M.FT=FT
 KD:∀ars h,M.ext 314 ars h=none
 KE:∀ars h,M.ext 289 ars h=none
 KF:∀ars h,M.ext 290 ars h=none
 wT:∀h,M.ext 288 [.str mQ] h=some ⟨.aq [.agg eu,.bool true],h,[]⟩
theorem Zt {c:Nat}(h:c<256):eu[c]? = some (.bool (wF c)):=by
 simp[eu,h]
theorem OE {c:UInt8}:partOf (eu.drop (0+((c.toNat:Int)).toNat*1)) 0 1 false=some (.bool (bF c)):=by
 have hc:c.toNat<256:=c.toNat_lt;rw[GS,Int.toNat_natCast,Nat.zero_add,Nat.mul_one];simp only[partOf,Bool.false_eq_true,if_false];exact Zt hc
theorem KG (C:oF M)(c:UInt8){H:ab}{b:Nat}(hb:H.at b=some (.cells eu 286)):CT M (ib 314) [.ptr b 0,.int .u8 c.toNat] H ⟨.bool (bF c),H,[]⟩:=by
 have hc:c.toNat<256:=c.toNat_lt;refine CT.run (C.KD _ _) (nK (by rw[C.ft];exact Zh) (by simp) ?_);simp only[List.nil_append,List.append_nil];unfold Kx;simp only[enter];exact gg8
def jL (s:an):an:=s.dropWhile bF
def iG (s:an):an:=(s.reverse.dropWhile bF).reverse
theorem KH (s:an)(c:UInt8):iG (s++[c])=if bF c then iG s else s++[c]:=by
 unfold iG;rw[List.reverse_append,List.reverse_singleton,List.singleton_append,List.dropWhile_cons];split
 . rfl
 . simp
theorem Zu (C:oF M){H:ab}{b:Nat}(hb:H.at b=some (.cells eu 286)){Q:Ex->ao->Prop}:∀(n:Nat) (s:an) (lo:List (Nat×AV)) (wr:List Nat) (_:wr=[]),s.length=n->n<1000000 ->
 (∀lo,Q (.exit 0) ⟨⟨[.str (iG s),.ptr b 0,.str []],lo,H,[]⟩,[]⟩)->W M (.loop sD) ⟨⟨[.str s,.ptr b 0,.str []],lo,H,[]⟩,wr⟩ Q:=by
 intro n;induction n with
 | zero=>
  intro s lo wr hw hs hn hQ;subst hw;obtain rfl:s=[]:=List.length_eq_zero_iff.1 hs;have h0:([]:an).length=0:=rfl;refine W.loop ?_;unfold sD;exact gg12
 | succ n ih=>
  intro s lo wr hw hs hn hQ;subst hw;rcases List.eq_nil_or_concat s with rfl|⟨t,c,e⟩
  . cases hs
  . rw[List.concat_eq_append]at e;subst e;have hl:(t++[c]).length=t.length+1:=by simp
    have hg:(t++[c])[(((t++[c]).length:Int)-1).toNat]! = c:=by
     rw[show (((t++[c]).length:Int)-1).toNat=t.length by omega,getElem!_pos _ _ (by simp)];simp
    have hc:=KG C c hb;rw[KH]at hQ;cases hd:bF c with
    | true=>
     rw[hd]at hc;rw[if_pos hd]at hQ;refine W.loop ?_;unfold sD;refine gg10 ?_;refine fT ?_;exact ih t _ _ rfl (by omega) (by omega) hQ
    | false=>
     rw[hd]at hc;rw[if_neg (by rw[hd];simp)]at hQ;refine W.loop ?_;unfold sD;exact gg12
theorem Zv (C:oF M){H:ab}{b:Nat}(hb:H.at b=some (.cells eu 286))(s:an)(hl:s.length<1000000):CT M (ib 290) [.str s,.ptr b 0] H ⟨.str (iG s),H,[]⟩:=by
 refine CT.run (C.KF _ _) (nK (by rw[C.ft];exact Zg) (by simp) ?_);simp only[List.nil_append,List.append_nil];unfold Kw;simp only[enter];refine gg3 ?_;refine Zu C hb s.length s _ _ rfl rfl hl fun lo=>?_
 exact gg8
theorem KI (C:oF M){H:ab}{b:Nat}(hb:H.at b=some (.cells eu 286)){Q:Ex->ao->Prop}:∀(s:an) (lo:List (Nat×AV)) (wr:List Nat) (_:wr=[]),s.length<1000000 ->
 (∀lo,Q (.exit 0) ⟨⟨[.str (jL s),.ptr b 0,.str []],lo,H,[]⟩,[]⟩)->W M (.loop sC) ⟨⟨[.str s,.ptr b 0,.str []],lo,H,[]⟩,wr⟩ Q
 | [],lo,wr,hw,hn,hQ=>by
  subst hw;have h0:([]:an).length=0:=rfl;refine W.loop ?_;unfold sC;exact gg12
 | c::s,lo,wr,hw,hn,hQ=>by
  subst hw;have hl:(c::s).length=s.length+1:=rfl;have hc:=KG C c hb;have e:jL (c::s)=if bF c then jL s else c::s:=List.dropWhile_cons ..
  rw[e]at hQ;cases hd:bF c with
  | true=>
   rw[hd]at hc;rw[if_pos hd]at hQ;refine W.loop ?_;unfold sC;refine gg10 ?_;refine fT ?_;exact KI C hb s _ _ rfl (by omega) hQ
  | false=>
   rw[hd]at hc;rw[if_neg (by rw[hd];simp)]at hQ;refine W.loop ?_;unfold sC;exact gg12
theorem Zw (C:oF M){H:ab}{b:Nat}(hb:H.at b=some (.cells eu 286))(s:an)(hl:s.length<1000000):CT M (ib 289) [.str s,.ptr b 0] H ⟨.str (jL s),H,[]⟩:=by
 refine CT.run (C.KE _ _) (nK (by rw[C.ft];exact Zf) (by simp) ?_);simp only[List.nil_append,List.append_nil];unfold Kv;simp only[enter];refine gg3 ?_;refine KI C hb s _ _ rfl hl fun lo=>?_
 exact gg8
theorem KJ {p:UInt8->Bool}:∀s:an,(s.dropWhile p).length<=s.length
 | []=>Nat.le_refl _
 | c::s=>by
  rw[List.dropWhile_cons];have:=KJ (p:=p) s;split
  . rw[List.length_cons];omega
  . exact Nat.le_refl _
theorem Zx (s:an):(iG s).length<=s.length:=by
 unfold iG;have:=KJ (p:=bF) s.reverse;simpa using this
theorem KK:eu.length=256:=by simp[eu]
theorem Zy:eu.all cS=true:=by
 simp only[eu,List.all_map,List.all_eq_true];intro x _;rfl
theorem Zz {a b:List AV}(h:a.length=b.length):overwrite a 0 b=b:=by
 unfold overwrite;rw[List.take_zero,List.nil_append,List.drop_of_length_le (by omega),List.append_nil]
theorem KL:wR.length=256:=by kernel_rfl
theorem ZA:overwrite wR 0 eu=eu:=Zz (by rw[KK,KL])
theorem ZB (C:oF M)(s:an)(hl:s.length<1000000):aT M 257 [.str s,.str mQ] [] ⟨.str (jL (iG s)),[],[]⟩:=by
 have hD:mQ.length=10:=rfl;have hT:=Zx s;have wT:=C.wT [];have hb:ab.at [some (.cells eu 286)] 0=some (.cells eu 286):=rfl;have q1:=Zv C hb s hl;have q2:=Zw C hb (iG s) (by omega);refine bH (by rw[C.ft];exact Zc) (by simp) ?_;unfold Ku;simp only[enter];by_cases h0:s=[]
 . subst h0;exact gg4
 . repeat' first|(apply aeK;rfl;rfl;(intro h;first|exact absurd h h0|exact absurd h (by decide));intro _)|apply aap|apply aM|apply aaF|apply aaY|apply abu|apply abJ|apply bZ|(apply abz;rfl)|(apply abF;rfl)|(apply aeP;rfl)|(apply aeM;rfl)|(apply adE;rfl;rfl)|(apply adM;rfl;rfl)|(apply abD;rfl;rfl;first|exact wT)|(apply ade (c':=eu);rfl;rfl;rfl;exact⟨KK,Nat.le_of_eq ((Nat.zero_add _).trans KL.symm),Zy⟩;exact ZA)|(apply aeq;rfl;rfl;first|exact q1|exact q2)|(apply acK;rfl;rfl;rfl)|(apply aab;rfl;rfl)|(apply aaZ;rfl;rfl)|(intro _;omega)|intro _
   exact⟨.inr rfl,rfl,_,rfl,rfl,rfl⟩
end Go.Ab.Ch1

/-
  Own work: texts: Atoi of few digits.
-/
namespace Go.Ab.Ch1
open Go.Ab.aY
variable {M:ax} {cap:Option Nat}
structure KM (M:ax):Prop where
 ft:M.FT=FT
 ZC:∀ars h,M.ext 259 ars h=none
theorem ZD {s:an}{i:Nat}(h:i<s.length):(br s)[i]? = some (.int .u8 (s[i]!).toNat):=by
 rw[br,List.getElem?_map,List.getElem?_eq_getElem h,getElem!_pos s i h];rfl
theorem ZE {H:ab}{c:Nat}(s:an)(hb:H.at c=some (.cells (br s) 5))(hs:s.length<=18)(hd:s.all bF=true)(cp:Option Nat)(a1 a2 a3 a4 a7 a8:AV){Q:Ex->ao->Prop}:∀(r i n:Nat) (a6:AV) (lo:List (Nat×AV)) (wr:List Nat),i+r=s.length->n<10^i ->
 (∀a6 lo,Q (.exit 0) ⟨⟨[.str s,a1,a2,a3,a4,.iV (ay n (s.drop i)),a6,a7,a8,.sl c 0 s.length 1 cp,.iV s.length,.iV s.length],lo,H,[]⟩,wr⟩) ->
 W M (.loop wS) ⟨⟨[.str s,a1,a2,a3,a4,.iV n,a6,a7,a8,.sl c 0 s.length 1 cp,.iV s.length,.iV i],lo,H,[]⟩,wr⟩ Q:=by
 intro r;induction r with
 | zero=>
  intro i n a6 lo wr hi hn hQ;obtain rfl:i=s.length:=by omega
  rw[List.drop_length]at hQ;refine W.loop ?_;unfold wS;exact gg13
 | succ r ih=>
  intro i n a6 lo wr hi hn hQ;have hil:i<s.length:=by omega
  have hp:10^i<=10^17:=Nat.pow_le_pow_right (by decide) (by omega);have hg:s[i]! = s[i]:=getElem!_pos s i hil;have hm:=List.all_eq_true.1 hd (s[i]!) (by rw[hg];exact List.getElem_mem hil);have hx:=(kn _).1 hm;rw[List.drop_eq_getElem_cons hil,su,←hg]at hQ;have hpart:partOf ((br s).drop (0+((i:Int)).toNat*1)) 0 1 false=some (.int .u8 (s[i]!).toNat):=by
   rw[GS,Int.toNat_natCast,Nat.zero_add,Nat.mul_one];simp only[partOf,Bool.false_eq_true,if_false];exact ZD hil
  refine W.loop ?_;unfold wS;refine gg17 ?_;refine fT ?_;have hpow:10^(i+1)=10*10^i:=by rw[Nat.pow_succ,Nat.mul_comm]
  have e:=ih (i+1) (10*n+((s[i]!).toNat-48));rw[show (((10*n+((s[i]!).toNat-48):Nat):Int))=(n:Int)*10+(((s[i]!).toNat:Int)-48) by omega,show (((i+1:Nat):Int))=(i:Int)+1 by omega]at e;exact e _ _ _ (by omega) (by omega) hQ
theorem ZF (C:KM M)(s:an)(h0:s≠[])(hl:s.length<=18)(hd:s.all bF=true)(H:ab):aT M 259 [.str s] H ⟨.aq [.iV (ay 0 s),.cY],H,[]⟩:=by
 have hpos:0<s.length:=List.length_pos_iff.2 h0;have hg:s[0]! = s[0]:=getElem!_pos s 0 hpos;have hx:48<=(s[Int.toNat 0]!).toNat/\(s[Int.toNat 0]!).toNat<58:=(kn _).1 (List.all_eq_true.1 hd (s[0]!) (by rw[hg];exact List.getElem_mem hpos));refine lf (by rw[C.ft];exact YT) (by simp) (Nat.zero_le _) ?_;unfold Kn;simp only[enter];refine gg10 ?_;refine ZE (H:=H++[some (.cells (br s) 5)]) (c:=H.length) s bW hl hd none _ _ _ _ _ _ s.length 0 0 _ _ _ (by omega) (by simp) (fun a6 lo=>?_);rw[List.drop_zero];repeat' first|apply aap|apply aM|apply aaF|apply aaY|apply abu|apply abJ|apply bZ|apply fy|(apply abF;rfl)|(apply adE;rfl;rfl)|(apply afb;rfl;rfl;omega)|(apply aab;rfl;rfl)|(apply aaZ;rfl;rfl)|(intro _;omega)|intro _
 exact⟨.inr rfl,rfl,⟨_,rfl⟩,fun x h=>by simp at h,_,rfl,rfl⟩
theorem ZG (C:KM M)(s:an)(h0:s≠[])(hl:s.length<=18)(hd:s.all bF=true):aT M 214 [.str s] [] ⟨.aq [.iV (ay 0 s),.cY],[],[]⟩:=by
 have hc:=CT.run (fi:=[]) (ca:=[]) (ars:=[.str s]) (C.ZC _ _) (ZF C s h0 hl hd []);refine bH (by rw[C.ft];exact YS) (by simp) ?_;unfold Km;simp only[enter];exact gg8
theorem dropWhile_nil {p:UInt8->Bool}:∀l:an,l.dropWhile p=[]↔∀x∈l,p x=true
 | []=>by simp
 | c::l=>by
  rw[List.dropWhile_cons];split
  . rename_i h;rw[dropWhile_nil l];simp[h]
  . rename_i h;simp[h]
theorem KN (s:an):jL (iG s)=[]↔s.all bF=true:=by
 rcases List.eq_nil_or_concat s with rfl|⟨t,c,e⟩
 . simp[jL,iG]
 . rw[List.concat_eq_append]at e;subst e;have hlen:t.length<(t++[c]).length:=by simp
   rw[KH];split
   . rename_i h;rw[KN t];simp only[List.all_append,List.all_cons,List.all_nil,h,Bool.and_true]
   . rename_i h;unfold jL;rw[dropWhile_nil,List.all_eq_true]
termination_by s.length
decreasing_by subst_vars;simp
end Go.Ab.Ch1

/-
  Own work: texts: prefixes of one byte.
-/
namespace Go.Ab.Ch1
open Go.Ab.aY
variable {M:ax} {cap:Option Nat}
def preB (b:UInt8)(s:an):Bool:=decide (s.head? = some b)
def bJ (b:UInt8)(s:an):an:=if s.head? = some b then s.tail else s
theorem sH (b:UInt8)(s:an):(bJ b s).length<=s.length:=by unfold bJ;split <;> simp
theorem ZH (hft:M.FT=FT)(s:an)(b:UInt8)(hl:s.length<1000000):aT M 255 [.str s,.str [b]] [] ⟨.bool (preB b s),[],[]⟩:=by
 have hn1:([b]:an).length=1:=rfl;refine bH (by rw[hft];exact YP) (by simp) ?_;cases s with
 | nil=>
  have h0:([]:an).length=0:=rfl;unfold CP;simp only[enter];exact gg2
 | cons c t=>
  have hcl:(c::t).length=t.length+1:=rfl;have hd:(c::t).take (([b]:an).length:Int).toNat=[c]:=rfl;have he:preB b (c::t)=decide (c=b):=by simp[preB]
  rw[he];unfold CP;simp only[enter];by_cases hc:c=b
  . subst hc;rw[decide_eq_true rfl];exact gg4
  . rw[decide_eq_false hc];repeat' first|(apply afC;rfl;rfl;omega;exact hd)|(apply aeK;rfl;rfl;(intro h;exact absurd (List.cons.inj h).1 hc);intro _)|apply aap|apply aM|apply aaF|apply aaY|apply abu|(apply acY;rfl)|(apply aeN;rfl;rfl)|(apply acR;rfl;rfl)|(apply aab;rfl;rfl)|(apply aaZ;rfl;rfl)|(intro _;omega)|intro _
    all_goals try omega
    all_goals exact⟨.inr rfl,rfl,_,rfl,rfl,rfl⟩
theorem ZI (hft:M.FT=FT)(s:an)(b:UInt8)(q:∀h,M.ext 255 [.str s,.str [b]] h=some ⟨.bool (preB b s),h,[]⟩):aT M 212 [.str s,.str [b]] [] ⟨.bool (preB b s),[],[]⟩:=by
 refine bH (by rw[hft];exact YO) (by simp) ?_;unfold Kj;simp only[enter];exact gg0
theorem wU {b:UInt8}{s:an}(h:preB b s=true):s.drop (([b]:an).length:Int).toNat=bJ b s/\1<=s.length:=by
 have h:=of_decide_eq_true h;unfold bJ;rw[if_pos h];cases s with
 | nil=>simp at h
 | cons c t=>exact⟨rfl,by simp⟩
theorem ky {b:UInt8}{s:an}(h:preB b s=false):bJ b s=s:=if_neg (of_decide_eq_false h)
theorem ZJ (hft:M.FT=FT)(s:an)(b:UInt8)(hl:s.length<1000000)(q:∀h,M.ext 255 [.str s,.str [b]] h=some ⟨.bool (preB b s),h,[]⟩):aT M 258 [.str s,.str [b]] [] ⟨.str (bJ b s),[],[]⟩:=by
 have hn1:([b]:an).length=1:=rfl;refine bH (by rw[hft];exact YR) (by simp) ?_;unfold Kl;simp only[enter];cases hp:preB b s with
 | true=>
  rw[hp]at q;obtain⟨h1,h2⟩:=wU hp;exact gg0
 | false=>
  rw[hp]at q;rw[ky hp];exact gg7
theorem ZK (hft:M.FT=FT)(s:an)(b:UInt8)(q:∀h,M.ext 258 [.str s,.str [b]] h=some ⟨.str (bJ b s),h,[]⟩):aT M 213 [.str s,.str [b]] [] ⟨.str (bJ b s),[],[]⟩:=by
 refine bH (by rw[hft];exact YQ) (by simp) ?_;unfold Kk;simp only[enter];exact gg0
theorem ZL (hft:M.FT=FT)(s:an)(b:UInt8)(hl:s.length<1000000)(q:∀h,M.ext 255 [.str s,.str [b]] h=some ⟨.bool (preB b s),h,[]⟩):aT M 207 [.str s,.str [b]] [] ⟨.aq [.str (bJ b s),.bool (preB b s)],[],[]⟩:=by
 have hn1:([b]:an).length=1:=rfl;refine bH (by rw[hft];exact Za) (by simp) ?_;unfold Ks;simp only[enter];cases hp:preB b s with
 | true=>
  rw[hp]at q;obtain⟨h1,h2⟩:=wU hp;exact gg0
 | false=>
  rw[hp]at q;rw[ky hp];exact gg0
theorem ZM (hft:M.FT=FT)(s:an)(b:UInt8)(q:∀h,M.ext 207 [.str s,.str [b]] h=some ⟨.aq [.str (bJ b s),.bool (preB b s)],h,[]⟩):aT M 162 [.str s,.str [b]] [] ⟨.aq [.str (bJ b s),.bool (preB b s)],[],[]⟩:=by
 refine bH (by rw[hft];exact YZ) (by simp) ?_;unfold Kr;simp only[enter];exact gg0
end Go.Ab.Ch1

/-
  Own work: integers of any size are read.
-/
namespace Go.Ab.Ch1
open Go.Ab.aY
variable {M:ax} {cap:Option Nat} {N N2:Nat}
structure wV (M:ax)(N:Nat):Prop extends CF M N where
 KO:∀(s:an) h,s.length<1000000->M.ext 212 [.str s,.str [45]] h=some ⟨.bool (preB 45 s),h,[]⟩
 KP:∀(s:an) h,s.length<1000000->M.ext 213 [.str s,.str [45]] h=some ⟨.str (bJ 45 s),h,[]⟩
 KQ:∀(s:an) h,s≠[]->s.length<=18->s.all bF=true->M.ext 214 [.str s] h=some ⟨.aq [.iV (ay 0 s),.cY],h,[]⟩
 KR:∀v A (K:Nat),aw v A->K<=18->K<=N->ak A<=10->∃v0,aw v0 (A^K)/\∀h,M.ext 215 [v,.iV K] h=some ⟨v0,h,[]⟩
theorem wW (n:Nat):(10:Int)^n<=wB^n:=by
 induction n with
 | zero=>decide
 | succ n ih=>
  rw[Int.pow_succ,Int.pow_succ];exact Int.mul_le_mul ih (by decide) (by decide) (Int.pow_nonneg (by decide))
theorem oG {s:an}(h:s.all bF=true)(hl:s.length<=N):ak (ay 0 s:Nat)<wB^N:=by
 have h1:=ou s h;rw[cV (by omega)];have h2:(ay 0 s:Int)<(10:Int)^s.length:=by exact_mod_cast h1
 exact Int.lt_of_lt_of_le h2 (Int.le_trans (wW _) (gJ (by decide) hl))
theorem KS {s:an}(h:s.all bF=true)(hl:s.length<=18):ay 0 s<1000000000000000000:=
 Nat.lt_of_lt_of_le (ou s h) (Nat.le_trans (Nat.pow_le_pow_right (by decide) hl) (by decide))
def CY (so:Int)(wo:AV):ab:=[some (.cells [.iV 0,.ae] 131),some (.cells [.iV so,wo] 131)]
theorem ZN (C:wV M N){Q:Ex->ao->Prop}(full:an)(hD:full.all bF=true)(hl:full.length<=N)(a2:AV)
 (hQ:∀so wo a4 a5 lo wr,aw (.agg [.iV so,wo]) (ay 0 full:Nat)->Q (.exit 0) ⟨⟨[.str [],.ptr 0 0,a2,.ptr 1 0,a4,a5],lo,CY so wo,[]⟩,wr⟩)
 (a4 a5:AV) (lo:List (Nat×AV)) (wr:List Nat) :
 W M (.loop wP) ⟨⟨[.str full,.ptr 0 0,a2,.ptr 1 0,a4,a5],lo,CY 0 .ae,[]⟩,wr⟩ Q:=by
 have hlN:=C.lN;refine W.fE (fun m st=>∃t dn so wo a4 a5 lo wr,st=⟨⟨[.str t,.ptr 0 0,a2,.ptr 1 0,a4,a5],lo,CY so wo,[]⟩,wr⟩/\t.length=m/\full=dn++t/\aw (.agg [.iV so,wo]) (ay 0 dn:Nat))
  (fun m st ⟨t,dn,so,wo,a4,a5,lo,wr,hst,hm,hf,hv⟩=>?_) (m:=full.length) ⟨full,[],0,.ae,a4,a5,lo,wr,rfl,rfl,rfl,.small (by decide)⟩
 subst hst;cases t with
 | nil=>
  rw[List.append_nil]at hf;subst hf;have h0:([]:an).length=0:=rfl;unfold wP;exact gg9
 | cons c t=>
  obtain⟨t',ht'⟩:∃t',t'=c::t:=⟨_,rfl⟩;rw[←ht']at hm hf ⊢;have hpos:0<t'.length:=by rw[ht'];simp
  have hDt:t'.all bF=true:=by rw[hf,List.all_append,Bool.and_eq_true]at hD;exact hD.2
  have hDd:dn.all bF=true:=by rw[hf,List.all_append,Bool.and_eq_true]at hD;exact hD.1
  have hfl:full.length=dn.length+t'.length:=by rw[hf,List.length_append]
  obtain⟨n,hn,hn1⟩:∃n:Nat,((n:Int)=18/\(18:Int)<=t'.length\/(n:Int)=t'.length/\(t'.length:Int)<=18)/\0<n/\n<=18/\n<=t'.length:=by
   by_cases h:t'.length<=18
   . exact⟨t'.length,.inr ⟨rfl,by omega⟩,by omega,by omega,by omega⟩
   . exact⟨18,.inl ⟨rfl,by omega⟩,by omega,by omega,by omega⟩
  obtain⟨x,y,hxy,hxl⟩:∃x y,t'=x++y/\x.length=n:=⟨t'.take n,t'.drop n,(List.take_append_drop n t').symm,by rw[List.length_take];omega⟩;have hx0:x≠[]:=fun e=>by rw[e]at hxl;simp at hxl;omega
  have hDx:x.all bF=true:=by rw[hxy,List.all_append,Bool.and_eq_true]at hDt;exact hDt.1
  have htk:t'.take (n:Int).toNat=x:=by rw[hxy,Int.toNat_natCast,←hxl,List.take_left]
  have hdr:t'.drop (n:Int).toNat=y:=by rw[hxy,Int.toNat_natCast,←hxl,List.drop_left]
  have hyl:t'.length=n+y.length:=by rw[hxy,List.length_append,hxl]
  have q214:=fun h=>C.KQ x h hx0 (by omega) hDx
  have q168:=C.mH 10;obtain⟨v1,k1,q215⟩:=C.KR (.agg [.iV 10,.ae]) 10 n (.small (by decide)) hn1.2.1 (by omega) (by decide);have b1:=oG (N:=N) hDd (by omega);have b2:ak ((10:Int)^n)<wB^N:=by
   rw[cV (Int.pow_nonneg (by decide))];have h1:=gJ (b:=wB) (by decide) (m:=n) (n:=N) (by omega);have h2:=wW n;have h3:(10:Int)^n<wB^n:=by
    obtain⟨k,rfl⟩:∃k,n=k+1:=⟨n-1,by omega⟩;have:=wW k;have p0:(0:Int)<10^k:=Int.pow_pos (by decide);rw[Int.pow_succ,Int.pow_succ];have:(10:Int)^k*10<10^k*wB:=Int.mul_lt_mul_of_pos_left (by decide) p0;have h5:(10:Int)^k*wB<=wB^k*wB:=Int.mul_le_mul_of_nonneg_right (wW k) (by decide);omega
   omega
  obtain⟨v2,k2,q198⟩:=C.lG _ _ _ _ hv k1 b1 b2;have e2:(ay 0 dn:Int)*10^n=((ay 0 (dn++List.replicate n 48):Nat):Int):=by
   have:ay (ay 0 dn) (List.replicate n 48)=ay 0 dn*10^n:=by rw[←wN,JC];simp
   rw[ot,this];push_cast;rfl
  have k2:aw v2 ((ay 0 dn:Int)*10^n):=k2;have b3:ak ((ay 0 dn:Int)*10^n)<wB^N:=by
   rw[e2];exact oG (by rw[List.all_append,hDd,←wN,JA];rfl) (by rw[List.length_append,List.length_replicate];omega)
  have hxs:=KS hDx (by omega);have q168b:=C.mH (ay 0 x:Nat);obtain⟨v3,k3,q202⟩:=C.qi v2 (.agg [.iV (ay 0 x:Nat),.ae]) _ _ k2 (.small (by omega)) b3 (oG hDx (by omega));have e3:(ay 0 dn:Int)*10^n+(ay 0 x:Nat)=((ay 0 (dn++x):Nat):Int):=by
   rw[ot,wH x (ay 0 dn),hxl];push_cast;rfl
  have k3:aw v3 ((ay 0 (dn++x):Nat):Int):=by rw[←e3];exact k3
  obtain⟨s3,w3,rfl,o3,_⟩:=k3.shape;unfold wP;repeat' first|(apply ahn (m:=(n:Int));rfl;rfl;exact hn)|(apply afC (s:=t') (r:=x);rfl;rfl;omega;exact htk)|(apply afh (s:=t') (r:=y);rfl;rfl;omega;exact hdr)|(apply abD;rfl;rfl;first|exact q214 _|exact q168 _|exact q215 _|exact q198 _|exact q168b _|exact q202 _)|(apply aeS;rfl;rfl;(first|(simp only[nca];rfl)|rfl);first|exact q214 _|exact q168 _|exact q215 _|exact q198 _|exact q168b _|exact q202 _)|(apply ade;rfl;rfl;rfl;exact⟨rfl,Nat.le_refl _,by simp[overwrite,dG,ek,o3]⟩;rfl)|apply aap|apply aM|apply aaF|apply aaY|apply acS|apply abJ|apply cX|apply aeb|apply aem|(apply aeZ;rfl)|(apply aeJ;rfl;rfl;(first|(simp only[nca];rfl)|rfl))|(apply aeU;rfl;(first|(simp only[nca];rfl)|rfl);(first|(simp only[nca];rfl)|rfl))|(apply abz;rfl)|(apply adU;rfl;rfl)|(apply acb;rfl;rfl;rfl)|(apply aab;rfl;rfl)|(apply aaZ;rfl;rfl)|(intro _;omega)|intro _
  all_goals try omega
  all_goals exact da ⟨y.length,by omega,y,dn++x,s3,w3,_,_,_,_,rfl,rfl,by rw[hf,hxy,List.append_assoc],k3⟩
theorem ZO (C:wV M N)(s:an)(hl:s.length<=N)(hD:(bJ 45 s).all bF=true):∃v0,aw v0 (if preB 45 s then -(ay 0 (bJ 45 s):Int) else (ay 0 (bJ 45 s):Nat))/\cK M 166 [.str s] v0:=by
 have hlN:=C.lN;have q212:=fun h=>C.KO s h (by omega)
 have q213:=fun h=>C.KP s h (by omega)
 have hcl:(bJ 45 s).length<=N:=Nat.le_trans (sH 45 s) hl;have hb:=oG (N:=N) hD hcl;obtain⟨v',hh,⟨v0,h0,ho⟩,hr⟩:=fZ (M:=M) (f:=166) (ars:=[.str s]) (P:=fun v hh=>∃v0,aw v0 (if preB 45 s then -(ay 0 (bJ 45 s):Int) else (ay 0 (bJ 45 s):Nat))/\fa v hh v0) (by rw[C.ft];exact YD) (by simp) (by
  unfold JZ;simp only[enter];repeat' first|apply aap|apply aM|apply aaF|apply aaY|apply acS|(apply abD;rfl;rfl;first|exact q212 _|exact q213 _)|(apply acK;rfl;rfl;rfl)|(apply afx;rfl;rfl;rfl)|(apply aab;rfl;rfl)|(apply aaZ;rfl;rfl)
  refine ZN C (bJ 45 s) hD hcl _ (fun so wo a4 a5 lo wr hv=>?_) _ _ _ _;cases hp:preB 45 s with
  | true=>
   rw[if_pos rfl];obtain⟨v1,k1,q216⟩:=C.lF _ _ hv hb;have k1:aw v1 (-(ay 0 (bJ 45 s):Int)):=k1;obtain⟨s1,w1,rfl,o1,_⟩:=k1.shape;repeat' first|(apply ade;rfl;rfl;rfl;exact⟨rfl,Nat.le_refl _,by simp[overwrite,dG,ek,o1]⟩;rfl)|apply aap|apply aM|apply aaF|apply aaY|apply abu|apply bZ|apply fy|(apply abz;rfl)|(apply abD;rfl;rfl;first|exact q216 _)|(apply acb;rfl;rfl;rfl)|(apply aab;rfl;rfl)
   exact⟨.inr rfl,rfl,_,rfl,_,k1,k1.out⟩
  | false=>
   rw[if_neg (by decide)];obtain⟨o1,_⟩:=hv.one;repeat' first|(apply ade;rfl;rfl;rfl;exact⟨rfl,Nat.le_refl _,by simp[overwrite,dG,ek,o1]⟩;rfl)|apply aap|apply aM|apply aaF|apply aaY|apply abu|apply abJ|apply fy|(apply abF;rfl)|(apply acb;rfl;rfl;rfl)|(apply aab;rfl;rfl)
   exact⟨.inr rfl,rfl,_,rfl,_,hv,hv.out⟩)
 exact⟨v0,h0,v',hh,ho,hr⟩
end Go.Ab.Ch1

/-
  Own work: fractions are read.
-/
namespace Go.Ab.Ch1
open Go.Ab.aY
variable {M:ax} {cap:Option Nat} {N N2:Nat}
theorem KT {s:an}(h:s.all bF=true){c:UInt8}(hc:¬bF c=true):c∉s:=fun hm=>hc ((List.all_eq_true.1 h) c hm)
theorem KU (n:Nat){c:UInt8}(hc:¬bF c=true):preB c (aR n)=false:=by
 rw[preB,decide_eq_false_iff_not];intro h;cases hd:aR n with
 | nil=>exact kq n hd
 | cons b t=>
  rw[hd]at h;have hb:b∈aR n:=by rw[hd];simp
  simp at h;exact hc (h ▸ (List.all_eq_true.1 (mK n)) b hb)
theorem ZP (z:Int):preB 45 (bL z)=decide (z<0)/\bJ 45 (bL z)=aR (ak z).toNat:=by
 by_cases h:z<0
 . rw[mN h,decide_eq_true h];exact⟨rfl,rfl⟩
 . rw[ku h,decide_eq_false h];have:=KU (ak z).toNat (c:=45) (by decide);exact⟨this,ky this⟩
theorem wX {b:UInt8}:∀{x:an},b∉x->bE b x=(x,none)
 | [],_=>rfl
 | c::x,h=>by
  have h1:¬c=b:=fun e=>h (by rw[e];simp)
  have h2:b∉x:=fun e=>h (by simp[e])
  rw[bE,if_neg h1,wX h2]
theorem wY {b:UInt8}{y:an}:∀{x:an},b∉x->bE b (x++b::y)=(x,some y)
 | [],_=>by rw[List.nil_append,bE,if_pos rfl]
 | c::x,h=>by
  have h1:¬c=b:=fun e=>h (by rw[e];simp)
  have h2:b∉x:=fun e=>h (by simp[e])
  rw[List.cons_append,bE,if_neg h1,wY h2]
theorem wZ (z:Int):(47:UInt8)∉bL z:=by
 have h:=KT (mK (ak z).toNat) (c:=47) (by decide);by_cases hz:z<0
 . rw[mN hz];simp[h]
 . rw[ku hz];exact h
theorem ZQ (q:Rat):iB 47 (aQ q)=if q.den=1 then .aq [.str (bL q.num),.str [],.bool false] else .aq [.str (bL q.num),.str (aR q.den),.bool true]:=by
 unfold iB aQ;by_cases h:q.den=1
 . rw[if_pos h,if_pos h,wX (wZ _)];rfl
 . rw[if_neg h,if_neg h,wY (wZ _)];rfl
def Lq (N:Nat)(q:Rat):Prop:=(bL q.num).length<=N/\(aR q.den).length<=N
structure lJ (M:ax)(N:Nat):Prop extends wV M N where
 CZ:∀(s:an) h,s.length<1000000->M.ext 163 [.str s,.str [47]] h=some ⟨iB 47 s,h,[]⟩
 Da:∀(s:an),s.length<=N->(bJ 45 s).all bF=true->∃v0,aw v0 (if preB 45 s then -(ay 0 (bJ 45 s):Int) else (ay 0 (bJ 45 s):Nat))/\∀h,M.ext 166 [.str s] h=some ⟨v0,h,[]⟩
theorem lJ.KV (C:lJ M N)(z:Int)(hl:(bL z).length<=N):∃v0,aw v0 z/\∀h,M.ext 166 [.str (bL z)] h=some ⟨v0,h,[]⟩:=by
 obtain⟨h1,h2⟩:=ZP z;obtain⟨v0,h0,q⟩:=C.Da (bL z) hl (by rw[h2];exact mK _);refine⟨v0,?_,q⟩;rw[h1,h2,kp]at h0;have ha:=iD (x:=z);have e:((ak z).toNat:Int)=ak z:=Int.toNat_of_nonneg ha;by_cases hz:z<0
 . rw[decide_eq_true hz,if_pos rfl,e]at h0;have e2:ak z = -z:=if_pos hz;rw[e2,Int.neg_neg]at h0;exact h0
 . rw[decide_eq_false hz,if_neg (by decide),e]at h0;have e2:ak z=z:=if_neg hz;rw[e2]at h0;exact h0
theorem lJ.ZR (C:lJ M N)(n:Nat)(hl:(aR n).length<=N):∃v0,aw v0 (n:Int)/\∀h,M.ext 166 [.str (aR n)] h=some ⟨v0,h,[]⟩:=by
 rw[←YM]at hl ⊢;exact C.KV n hl
theorem Db {q:Rat}(h:Lq N q):(aQ q).length<=2*N+1:=by
 unfold aQ;split
 . have:=h.1;omega
 . have h1:=h.1;have h2:=h.2;simp;omega
theorem ZS (C:lJ M N)(hN:N<=400000){q:Rat}(lq:Lq N q):∃v0,bI v0 q/\cK M 103 [.str (aQ q)] v0:=by
 have sl:=Db lq;have q163:=fun h=>C.CZ (aQ q) h (by omega)
 have cs:=ZQ q;rw[cs]at q163;obtain⟨va,ka,qa⟩:=C.KV q.num lq.1;by_cases hd:q.den=1
 . rw[if_pos hd]at q163;obtain⟨v0,k0,q159⟩:=C.vz _ _ ka;have k0:bI v0 q:=by
    have:=k0;unfold bI;rw[hd];exact this
   refine⟨v0,k0,cI (by rw[C.ft];exact Kc) (by simp) ?_⟩;have out:=fun hh=>k0.out (hh:=hh)
   obtain⟨s5,w5,s6,w6,rfl,h5,h6⟩:=k0;obtain⟨o5,_⟩:=h5.one;obtain⟨o6,_⟩:=h6.one;unfold CK;simp only[enter];repeat' first|(apply ade;rfl;rfl;rfl;exact⟨rfl,Nat.le_refl _,by simp[overwrite,dG,ek,o5,o6]⟩;rfl)|apply aap|apply aM|apply aaF|apply aaY|apply abu|apply bZ|(apply abz;rfl)|(apply abD;rfl;rfl;first|exact q163 _|exact qa _|exact q159 _)|(apply acK;rfl;rfl;rfl)|(apply aab;rfl;rfl)|(apply aaZ;rfl;rfl)
   all_goals exact cD rfl rfl (out _)
 . rw[if_neg hd]at q163;obtain⟨vb,kb,qb⟩:=C.ZR q.den lq.2;obtain⟨s5,w5,rfl,o5,_⟩:=ka.shape;obtain⟨s6,w6,rfl,o6,_⟩:=kb.shape;have k0:bI (.agg [.iV s5,w5,.iV s6,w6]) q:=⟨_,_,_,_,rfl,ka,kb⟩;refine⟨_,k0,cI (by rw[C.ft];exact Kc) (by simp) ?_⟩;have out:=fun hh=>k0.out (hh:=hh)
   unfold CK;simp only[enter];repeat' first|(apply ade;rfl;rfl;rfl;exact⟨rfl,Nat.le_refl _,by simp[overwrite,dG,ek,o5,o6]⟩;rfl)|apply aap|apply aM|apply aaF|apply aaY|apply abu|apply abJ|(apply abF;rfl)|(apply abD;rfl;rfl;first|exact q163 _|exact qa _|exact qb _)|(apply acK;rfl;rfl;rfl)|(apply aab;rfl;rfl)|(apply aaZ;rfl;rfl)
   all_goals exact cD rfl rfl (out _)
end Go.Ab.Ch1

/-
  Own work: the code of functions: numbers: errors, operations.
-/
namespace Go.Ab.Ch1
set_option maxRecDepth 1000000
def KW:al:=zR [zi 1 0] (zR [zm 12 0,⟨.l 13,.call (kF 162) [(.l 12),(.c (.str [45]))],none⟩,zn 11 13,ze 14 0 11,ze 15 1 11,zw 2 14,zw 3 15] (zR [zm 17 2,⟨.l 18,.call (kF 163) [(.l 17),(.c (.str [47]))],none⟩,zn 16 18,ze 19 0 16,ze 20 1 16,ze 21 2 16,zw 4 19,zw 5 20,zw 6 21] (zR [zm 22 4,z1 23 164 22,zn 24 23,zg (zm 25 3) 24 true,zg (zn 26 25) 24 true,zg (zm 27 4) 26 true,⟨.l 28,.bin .eql (.l 27) (.c (.str [48])),some ((.l 26),true)⟩,zg (zp 29 26 28) 24 true,zg (zu 30 29) 24 true,zp 31 24 30,zw 7 31] (.seq (zR [zm 32 6] (.cond (.l 32) (.region [zm 33 7,zn 34 33,zg (zm 35 5) 34 true,zg (z1 36 164 35) 34 true,zp 37 34 36,zn 38 37,zg (zm 39 5) 38 true,⟨.l 40,.bin .neq (.l 39) (.c (.str [48])),some ((.l 38),true)⟩,zp 41 38 40,zn 42 41,zg (zm 43 5) 42 true,⟨.l 44,.bin .neq (.l 43) (.c (.str [49])),some ((.l 42),true)⟩,zp 45 42 44,zw 7 45]) (.skip))) (.seq (zR [zm 46 7,zu 47 46,⟨.l 48,.call (kF 97) [(.l 47),(kI 1)],none⟩,zm 49 4,zL 50 49,zm 51 5,zL 52 51,⟨.l 53,.mm true [(.l 50),(.l 52)],none⟩,zc 54 .gtr 53 600,⟨.l 55,.call (kF 97) [(.l 54),(kI 4)],none⟩,⟨.l 56,.dZ 25 2 1 [.iV (0)] [(0,1,(.l 48)),(1,1,(.l 55))],none⟩,z1 57 96 56,zw 8 57] (zR [zm 58 8,zc 59 .neq 58 0,zn 60 59,zg (zm 61 6) 60 false,zg (zu 62 61) 60 false,zP 63 60 62] (.cond (.l 63) (zR [zm 64 8,zw 1 64] (.ret)) (.skip)))) (zR [zm 65 4,z1 66 166 65,zm 67 5,z1 68 166 67,z2 69 165 66 68,⟨.p 9,.alloc 131 [.iV (0),.ae],none⟩,zs 2 9 69] (.seq (.draw [(zt 70 2 9,[]),(⟨.l 71,.call (kF 168) [(kI 1)],none⟩,[0]),(z2 72 167 70 71,[]),(zc 73 .neq 72 0,[]),(⟨.l 74,.call (kF 97) [(.l 73),(kI 1)],none⟩,[]),(zw 1 74,[])]) (.ret))))))))
theorem ZT:FT 84=some ⟨75,[0,2,3,4,5,6,7,8,9,10],[.var (.p 1)],KW⟩:=by kernel_rfl
def KX:al:=zR [zx 1 133 4 0,⟨.p 2,.mv (.c (.str [])),none⟩,zi 3 0] (.seq (zR [zt 4 4 1,z1 5 175 4] (.cond (.l 5) (zR [⟨.p 2,.mv (.c (.str [])),none⟩,zi 3 4] (.ret)) (.skip))) (zR [zt 6 4 1,z1 7 176 6,zw 2 7,zi 3 0] (.ret)))
theorem ZU:FT 105=some ⟨8,[0,1,2,3],[.var (.p 2),.var (.p 3)],KX⟩:=by kernel_rfl
def Dc:al:=zR [⟨.p 1,.mv (.c (.str [])),none⟩,zi 2 0] (.seq (zR [zm 5 0,z1 6 84 5,zw 3 6] (zR [zm 7 3,zc 8 .neq 7 0] (.cond (.l 8) (zR [zm 9 3,⟨.p 1,.mv (.c (.str [])),none⟩,zw 2 9] (.ret)) (.skip)))) (zR [zm 10 0,z1 11 103 10,z1 12 160 11,z1 13 159 12,z1 14 105 13,ze 15 0 14,ze 16 1 14,zw 1 15,zw 2 16] (.ret)))
theorem KY:FT 79=some ⟨17,[0,2,3,4],[.var (.p 1),.var (.p 2)],Dc⟩:=by kernel_rfl
end Go.Ab.Ch1

/-
  Own work: the error of a number.
-/
namespace Go.Ab.Ch1
open Go.Ab.aY
variable {M:ax} {cap:Option Nat} {N N2:Nat}
def dF (s:an):Bool:=decide (s≠[]) && s.all bF && (decide (s[0]! ≠ 48) || decide (s=[48]))
theorem ZV (hft:M.FT=FT)(s:an)(q257:∀h,M.ext 257 [.str s,.str mQ] h=some ⟨.str (jL (iG s)),h,[]⟩):aT M 209 [.str s] [] ⟨.bool (decide (s≠[]) && s.all bF),[],[]⟩:=by
 refine bH (by rw[hft];exact Zb) (by simp) ?_;unfold Kt;simp only[enter];by_cases h0:s=[]
 . rw[decide_eq_false (by simpa using h0),Bool.false_and];exact gg4
 . rw[decide_eq_true h0,Bool.true_and];have ht:=KN s;cases hd:s.all bF with
   | true=>
    rw[ht.2 hd]at q257;repeat' first|(apply afE;rfl;rfl;all_goals first|(intro h;exact absurd h h0)|intro _)|apply aap|apply aM|apply aaF|apply aaY|apply abu|(apply acY;rfl)|(apply acR;rfl;rfl)|(apply abD;rfl;rfl;first|exact q257 _)|(apply aeK;rfl;rfl;all_goals first|(intro h;exact absurd h (by decide))|(intro h;exact absurd rfl h)|(intro h;contradiction)|intro _)|(apply aab;rfl;rfl)|(apply aaZ;rfl;rfl)
    all_goals exact⟨.inr rfl,rfl,_,rfl,rfl,rfl⟩
   | false=>
    have hne:jL (iG s)≠[]:=fun e=>by rw[ht.1 e]at hd;cases hd
    exact gg0
theorem ZW (hft:M.FT=FT)(s:an)(q209:∀h,M.ext 209 [.str s] h=some ⟨.bool (decide (s≠[]) && s.all bF),h,[]⟩):aT M 164 [.str s] [] ⟨.bool (dF s),[],[]⟩:=by
 refine bH (by rw[hft];exact Zi) (by simp) ?_;unfold dF;unfold Ky;simp only[enter];cases hb:(decide (s≠[]) && s.all bF) with
 | false=>
  rw[hb]at q209;rw[Bool.false_and];exact gg11
 | true=>
  rw[hb]at q209;rw[Bool.true_and];have hne:s≠[]:=by
   rw[Bool.and_eq_true]at hb;exact of_decide_eq_true hb.1
  have hpos:0<s.length:=List.length_pos_iff.2 hne;by_cases h48:s[0]! = 48
  . rw[decide_eq_false (by simpa using h48),Bool.false_or];have e48:((s[(0:Int).toNat]!).toNat:Int)=48:=by rw[show s[(0:Int).toNat]! = s[0]! from rfl,h48];rfl
    by_cases hs:s=[48]
    . rw[decide_eq_true hs];repeat' first|(apply aeK;rfl;rfl;all_goals first|(intro h;exact absurd hs h)|intro _)|apply aap|apply aM|apply aaF|apply aaY|apply abu|(apply acY;rfl)|(apply aeP;rfl)|(apply aef;rfl;rfl)|(apply acR;rfl;rfl)|(apply adM;rfl;rfl)|(apply abD;rfl;rfl;first|exact q209 _)|(apply afb;rfl;rfl;omega)|(apply aab;rfl;rfl)|(apply aaZ;rfl;rfl)|(intro _;omega)|intro _
      all_goals try omega
      all_goals exact⟨.inr rfl,rfl,_,rfl,rfl,rfl⟩
    . rw[decide_eq_false hs];repeat' first|(apply aeK;rfl;rfl;all_goals first|(intro h;exact absurd h hs)|intro _)|apply aap|apply aM|apply aaF|apply aaY|apply abu|(apply acY;rfl)|(apply aeP;rfl)|(apply aef;rfl;rfl)|(apply acR;rfl;rfl)|(apply adM;rfl;rfl)|(apply abD;rfl;rfl;first|exact q209 _)|(apply afb;rfl;rfl;omega)|(apply aab;rfl;rfl)|(apply aaZ;rfl;rfl)|(intro _;omega)|intro _
      all_goals try omega
      all_goals exact⟨.inr rfl,rfl,_,rfl,rfl,rfl⟩
  . rw[decide_eq_true (show s[0]! ≠ 48 from h48),Bool.true_or];have e48:((s[(0:Int).toNat]!).toNat:Int)≠48:=fun e=>h48 (UInt8.toNat_inj.1 (by rw[show s[(0:Int).toNat]! = s[0]! from rfl]at e;have:(48:UInt8).toNat=48:=rfl;omega))
    exact gg5
end Go.Ab.Ch1

/-
  Own work: the error of a number: the whole function.
-/
namespace Go.Ab.Ch1
open Go.Ab.aY
variable {M:ax} {cap:Option Nat} {N N2:Nat}
theorem afM {t:Nat}{x y:aL}{l:List aU}{pe:List AV}{lo:List (Nat×AV)}{hp:ab}{df wr:List Nat}{k:IntKind}{a b:Int}{Q:ao->Prop}{m:Int}(hx:(St.mk pe lo hp df).aa x=some (.int k a))(hy:(St.mk pe lo hp df).aa y=some (.int k b))(hm:m=a/\b<=a\/m=b/\a<=b)
 (h:WO M l ⟨⟨pe,(t,.int k m)::lo,hp,df⟩,wr⟩ Q):WO M (⟨.l t,.mm true [x,y],none⟩::l) ⟨⟨pe,lo,hp,df⟩,wr⟩ Q:=by
 refine aab (v:=.int k m) ?_ rfl h;simp only[aW,St.cH,hx,hy];have e:(if a<b then b else a)=m:=by split <;> omega
 simp[mW,e]
def cL (s:an):an:=(bE 47 (bJ 45 s)).1
def dy (s:an):an:=(bE 47 (bJ 45 s)).2.getD []
def gO (s:an):Bool:=(bE 47 (bJ 45 s)).2.isSome
def iY (s:an):Bool:=dF (cL s) && !(preB 45 s && decide (cL s=[48])) && (!gO s || (dF (dy s) && decide (dy s≠[48]) && decide (dy s≠[49])))
def fI (a b:Nat):Bool:=!(Nat.gcd a b == 1)
def gC (s:an):Int:=if iY s=false then 1 else if 600<(cL s).length\/600<(dy s).length then 4 else if gO s=true/\fI (ay 0 (cL s)) (ay 0 (dy s))=true then 1 else 0
structure Dd (M:ax)(N:Nat):Prop extends lJ M N where
 KZ:∀(s:an) h,s.length<1000000->M.ext 162 [.str s,.str [45]] h=some ⟨.aq [.str (bJ 45 s),.bool (preB 45 s)],h,[]⟩
 De:∀(s:an) h,s.length<1000000->M.ext 164 [.str s] h=some ⟨.bool (dF s),h,[]⟩
 sc:∀a b x y,aw a x->aw b y->ak x<wB^N->ak y<wB^N->∃v0,aw v0 (Int.gcd x y:Nat)/\∀h,M.ext 165 [a,b] h=some ⟨v0,h,[]⟩
 sI:∀t (e:Int) h,M.ext 97 [.bool t,.iV e] h=some ⟨.iV (if t then e else 0),h,[]⟩
 sJ:∀v h l,kZ h v=some l->l.length<1000->M.ext 96 [v] h=some ⟨.iV (ik l),h,[]⟩
theorem sM {s:an}(h:dF s=true):s≠[]/\s.all bF=true:=by
 simp only[dF,Bool.and_eq_true,decide_eq_true_eq]at h;exact h.1
theorem ZX {s:an}(h:s.all bF=true):preB 45 s=false:=by
 rw[preB,decide_eq_false_iff_not];intro e;cases s with
 | nil=>simp at e
 | cons c t=>
  simp at e;subst e;simp[List.all_cons]at h;exact absurd h.1 (by decide)
theorem lJ.La (C:lJ M N)(s:an)(hl:s.length<=N)(h:s.all bF=true):∃v0,aw v0 (ay 0 s:Nat)/\∀h,M.ext 166 [.str s] h=some ⟨v0,h,[]⟩:=by
 have hp:=ZX h;have hc:=ky hp;obtain⟨v0,h0,q⟩:=C.Da s hl (by rw[hc];exact h);rw[hp,hc]at h0;exact⟨v0,h0,q⟩
theorem sN (b:UInt8)(s:an):(bE b s).1.length<=s.length:=by
 cases h:(bE b s).2 with
 | none=>rw[(mP h).1];exact Nat.le_refl _
 | some y=>have:=sG h;omega
theorem Df (b:UInt8)(s:an):((bE b s).2.getD []).length<=s.length:=by
 cases h:(bE b s).2 with
 | none=>exact Nat.zero_le _
 | some y=>have:=sG h;simp;omega
def qt:al:=
 zR [zm 46 7,
          zu 47 46,
          ⟨(.l 48),.call (kF 97) [(.l 47),(kI 1)],none⟩,
          zm 49 4,
          zL 50 49,
          zm 51 5,
          zL 52 51,
          ⟨(.l 53),.mm true [(.l 50),(.l 52)],none⟩,
          zc 54 .gtr 53 600,
          ⟨(.l 55),.call (kF 97) [(.l 54),(kI 4)],none⟩,
          ⟨(.l 56),.dZ 25 2 1 [.iV (0)] [(0,1,(.l 48)),(1,1,(.l 55))],none⟩,
          z1 57 96 56,
          zw 8 57]
        (
         zR [zm 58 8,
           zc 59 .neq 58 0,
           zn 60 59,
           zg (zm 61 6) 60 false,
           zg (zu 62 61) 60 false,
           zP 63 60 62]
         (
          .cond (.l 63)
          (
           zR [zm 64 8,
             zw 1 64]
           (.ret))
          (.skip)))
def qu:al:=
 zR [zm 65 4,
          z1 66 166 65,
          zm 67 5,
          z1 68 166 67,
          z2 69 165 66 68,
          ⟨(.p 9),.alloc 131 [.iV (0),.ae],none⟩,
          zs 2 9 69]
        (
         .seq (.draw [(zt 70 2 9,[]),
           (⟨(.l 71),.call (kF 168) [(kI 1)],none⟩,[0]),
           (z2 72 167 70 71,[]),
           (zc 73 .neq 72 0,[]),
           (⟨(.l 74),.call (kF 97) [(.l 73),(kI 1)],none⟩,[]),
           (zw 1 74,[])])
         (.ret))
def Dg (res:List ew)(r:Int)(e:Ex)(s:ao):Prop:=(e = .normal\/e = .ret)/\s.s.bX=[]/\∃vs,de s.s res=some vs/\aV vs = .iV r/\(if (AV.iV r).top<=0 then [] else s.s.hp)=[]
theorem jz {res:List ew}{r r':Int}{e:Ex}{s:ao}{vs:List AV}(he:e = .normal\/e = .ret)(hd:s.s.bX=[])(hv:de s.s res=some vs)(ht:aV vs = .iV r')(hr:r'=r):Dg res r e s:=by
 subst hr;exact⟨he,hd,vs,hv,ht,rfl⟩
theorem ji (C:Dd M N)(hN:600<=N)(F B:Bool)(top bot:an)(hl:top.length<1000000/\bot.length<1000000)(hd:F=true->top.all bF=true/\(B=true->bot.all bF=true))(a0 a1 a2 a3 a8 a9:AV)(lo:List (Nat×AV))(wr:List Nat) :
 W M (.seq qt qu) ⟨⟨[a0,a1,a2,a3,.str top,.str bot,.bool B,.bool F,a8,a9],lo,[],[]⟩,wr⟩ (Dg [.var (.p 1)] (if F=false then 1 else if 600<top.length\/600<bot.length then 4 else if B=true/\fI (ay 0 top) (ay 0 bot)=true then 1 else 0)):=by
 have t1:∀h,M.ext 97 [.bool true,.iV 1] h=some ⟨.iV 1,h,[]⟩:=fun h=>C.sI true 1 h
 have f1:∀h,M.ext 97 [.bool false,.iV 1] h=some ⟨.iV 0,h,[]⟩:=fun h=>C.sI false 1 h
 have t4:∀h,M.ext 97 [.bool true,.iV 4] h=some ⟨.iV 4,h,[]⟩:=fun h=>C.sI true 4 h
 have f4:∀h,M.ext 97 [.bool false,.iV 4] h=some ⟨.iV 0,h,[]⟩:=fun h=>C.sI false 4 h
 have g14:∀v h,kZ h v=some [1,4]->M.ext 96 [v] h=some ⟨.iV 1,h,[]⟩:=fun v h e=>C.sJ v h _ e (by decide)
 have g10:∀v h,kZ h v=some [1,0]->M.ext 96 [v] h=some ⟨.iV 1,h,[]⟩:=fun v h e=>C.sJ v h _ e (by decide)
 have g04:∀v h,kZ h v=some [0,4]->M.ext 96 [v] h=some ⟨.iV 4,h,[]⟩:=fun v h e=>C.sJ v h _ e (by decide)
 have g00:∀v h,kZ h v=some [0,0]->M.ext 96 [v] h=some ⟨.iV 0,h,[]⟩:=fun v h e=>C.sJ v h _ e (by decide)
 obtain⟨m,hm⟩:∃m:Int,m=top.length/\(bot.length:Int)<=top.length\/m=bot.length/\(top.length:Int)<=bot.length:=by
  by_cases h:bot.length<=top.length
  . exact⟨_,.inl ⟨rfl,by omega⟩⟩
  . exact⟨_,.inr ⟨rfl,by omega⟩⟩
 cases F with
 | false=>
  rw[if_pos rfl];unfold qt qu;repeat' first|(apply afM (m:=m);rfl;rfl;exact hm)|apply aap|apply aM|apply aaF|apply aaY|apply abu|apply bZ|(apply abz;rfl)|(apply afz;rfl)|(apply adU;rfl;rfl)|(apply aef;rfl;rfl)|(apply acR;rfl;rfl)|(apply abD;rfl;rfl;first|exact t1 _|exact f1 _|exact t4 _|exact f4 _)|(apply abD;rfl;rfl;first|exact g14 _ _ rfl|exact g10 _ _ rfl)|(apply acb;rfl;rfl;rfl)|(apply aab;rfl;rfl)|(apply aaZ;rfl;rfl)|(intro _;omega)|intro _
  all_goals try omega
  all_goals exact jz (.inr rfl) rfl rfl rfl rfl
 | true=>
  rw[if_neg (by decide)];by_cases hb:600<top.length\/600<bot.length
  . rw[if_pos hb];unfold qt qu;repeat' first|(apply afM (m:=m);rfl;rfl;exact hm)|apply aap|apply aM|apply aaF|apply aaY|apply abu|apply bZ|(apply abz;rfl)|(apply afz;rfl)|(apply adU;rfl;rfl)|(apply aef;rfl;rfl)|(apply acR;rfl;rfl)|(apply abD;rfl;rfl;first|exact t1 _|exact f1 _|exact t4 _|exact f4 _)|(apply abD;rfl;rfl;first|exact g04 _ _ rfl|exact g00 _ _ rfl)|(apply acb;rfl;rfl;rfl)|(apply aab;rfl;rfl)|(apply aaZ;rfl;rfl)|(intro _;omega)|intro _
    all_goals try omega
    all_goals exact jz (.inr rfl) rfl rfl rfl rfl
  . rw[if_neg hb];cases B with
    | false=>
     rw[if_neg (by simp)];unfold qt qu;repeat' first|(apply afM (m:=m);rfl;rfl;exact hm)|apply aap|apply aM|apply aaF|apply aaY|apply abu|apply bZ|(apply abz;rfl)|(apply aeP;rfl)|(apply adU;rfl;rfl)|(apply aef;rfl;rfl)|(apply adM;rfl;rfl)|(apply abD;rfl;rfl;first|exact t1 _|exact f1 _|exact t4 _|exact f4 _)|(apply abD;rfl;rfl;first|exact g04 _ _ rfl|exact g00 _ _ rfl)|(apply acb;rfl;rfl;rfl)|(apply aab;rfl;rfl)|(apply aaZ;rfl;rfl)|(intro _;omega)|intro _
     all_goals try omega
     all_goals exact jz (.inr rfl) rfl rfl rfl rfl
    | true=>
     obtain⟨hta,hba⟩:=hd rfl;have hba:=hba rfl;obtain⟨va,ka,qa⟩:=C.La top (by omega) hta;obtain⟨vb,kb,qb⟩:=C.La bot (by omega) hba;have la:=oG (N:=N) hta (by omega);have lb:=oG (N:=N) hba (by omega);obtain⟨vg,kg,qg⟩:=C.sc va vb _ _ ka kb la lb;obtain⟨g,hg⟩:∃g,g=Nat.gcd (ay 0 top) (ay 0 bot):=⟨_,rfl⟩;have kg:aw vg (g:Int):=by rw[hg];exact kg
     have lg:ak (g:Int)<wB^N:=by
      rw[cV (by omega)]at la lb ⊢;rw[hg];rcases Nat.eq_zero_or_pos (ay 0 top) with h0|h0
      . rw[h0,Nat.gcd_zero_left];exact lb
      . have:=Nat.gcd_le_left (ay 0 bot) h0;omega
     have q168:=C.mH 1;have q167:=C.IP _ (.agg [.iV 1,.ae]) _ 1 kg (.small (by decide)) lg (oG (s:=[49]) (by decide) (by
                                                                                                                             have:([49]:an).length=1:=rfl;omega))
     obtain⟨sg,wg,rfl,og,_⟩:=kg.shape;by_cases h1:g=1
     . have hc:fI (ay 0 top) (ay 0 bot)=false:=by rw[fI,←hg,h1];rfl
       rw[if_neg (by rw[hc];simp)];subst h1;rw[show bD (((1:Nat):Int)-1)=0 by rfl]at q167;unfold qt qu;repeat' first|(apply afM (m:=m);rfl;rfl;exact hm)|(apply abD;rfl;rfl;first|exact q168 _|exact q167 _|exact t1 _|exact f1 _)|(apply aeS;rfl;rfl;(first|(simp only[nca];rfl)|rfl);first|exact q168 _|exact q167 _|exact t1 _|exact f1 _)|(apply ade;rfl;rfl;rfl;exact⟨rfl,Nat.le_refl _,by simp[overwrite,dG,ek,og]⟩;rfl)|apply aap|apply aM|apply aaF|apply aaY|apply abu|apply abJ|apply aeb|apply aem|(apply aeZ;rfl)|(apply aeJ;rfl;rfl;(first|(simp only[nca];rfl)|rfl))|(apply abF;rfl)|(apply aeP;rfl)|(apply adU;rfl;rfl)|(apply aef;rfl;rfl)|(apply adM;rfl;rfl)|(apply abD;rfl;rfl;first|exact t1 _|exact f1 _|exact t4 _|exact f4 _|exact qa _|exact qb _|exact qg _)|(apply abD;rfl;rfl;first|exact g04 _ _ rfl|exact g00 _ _ rfl)|(apply acb;rfl;rfl;rfl)|(apply acK;rfl;rfl;rfl)|(apply aab;rfl;rfl)|(apply aaZ;rfl;rfl)|(intro _;omega)|intro _
       all_goals try omega
       all_goals exact jz (.inr rfl) rfl rfl rfl rfl
     . have hc:fI (ay 0 top) (ay 0 bot)=true:=by rw[fI,←hg];simp[h1]
       rw[if_pos ⟨rfl,hc⟩];obtain⟨z,hz⟩:∃z,z=bD ((g:Int)-1):=⟨_,rfl⟩;have z0:z≠0:=by rw[hz];unfold bD;split <;> (first|omega|(split <;> omega))
       rw[←hz]at q167;unfold qt qu;repeat' first|(apply afM (m:=m);rfl;rfl;exact hm)|(apply abD;rfl;rfl;first|exact q168 _|exact q167 _|exact t1 _|exact f1 _)|(apply aeS;rfl;rfl;(first|(simp only[nca];rfl)|rfl);first|exact q168 _|exact q167 _|exact t1 _|exact f1 _)|(apply ade;rfl;rfl;rfl;exact⟨rfl,Nat.le_refl _,by simp[overwrite,dG,ek,og]⟩;rfl)|apply aap|apply aM|apply aaF|apply aaY|apply abu|apply abJ|apply aeb|apply aem|(apply aeZ;rfl)|(apply aeJ;rfl;rfl;(first|(simp only[nca];rfl)|rfl))|(apply abF;rfl)|(apply aeP;rfl)|(apply adU;rfl;rfl)|(apply aef;rfl;rfl)|(apply adM;rfl;rfl)|(apply abD;rfl;rfl;first|exact t1 _|exact f1 _|exact t4 _|exact f4 _|exact qa _|exact qb _|exact qg _)|(apply abD;rfl;rfl;first|exact g04 _ _ rfl|exact g00 _ _ rfl)|(apply acb;rfl;rfl;rfl)|(apply acK;rfl;rfl;rfl)|(apply aab;rfl;rfl)|(apply aaZ;rfl;rfl)|(intro _;omega)|intro _
       all_goals try omega
       all_goals exact jz (.inr rfl) rfl rfl rfl rfl
theorem ZY (C:Dd M N)(hN:600<=N)(s:an)(hl:s.length<1000000):aT M 84 [.str s] [] ⟨.iV (gC s),[],[]⟩:=by
 have hcl:=sH 45 s;have htl:(cL s).length<=s.length:=Nat.le_trans (sN 47 _) hcl;have hbl:(dy s).length<=s.length:=Nat.le_trans (Df 47 _) hcl;have q162:=fun h=>C.KZ s h hl
 have q163:=fun h=>C.CZ (bJ 45 s) h (by omega)
 have ecut:iB 47 (bJ 45 s) = .aq [.str (cL s),.str (dy s),.bool (gO s)]:=rfl;rw[ecut]at q163;have q164a:=fun h=>C.De (cL s) h (by omega)
 have q164b:=fun h=>C.De (dy s) h (by omega)
 have hform:iY s=(dF (cL s) && !(preB 45 s && decide (cL s=[48])) && (!gO s || (dF (dy s) && decide (dy s≠[48]) && decide (dy s≠[49])))):=rfl;have hchk:gC s=if iY s=false then 1 else if 600<(cL s).length\/600<(dy s).length then 4 else if gO s=true/\fI (ay 0 (cL s)) (ay 0 (dy s))=true then 1 else 0:=rfl
 have dA:=fun h=>(sM (s:=cL s) h).2
 have dC:=fun h=>(sM (s:=dy s) h).2
 rw[hchk];clear hchk ecut;refine bH (by rw[C.ft];exact ZT) (by simp) ?_;generalize cL s=top at *
 generalize dy s=bot at *
 generalize iY s=F at *
 generalize gO s=B at *
 generalize preB 45 s=P at *
 have ll:top.length<1000000/\bot.length<1000000:=⟨by omega,by omega⟩;unfold KW;simp only[enter];cases hA:dF top with
 | false=>
  rw[hA]at q164a hform;simp only[Bool.false_and]at hform;subst hform;cases B;all_goals
  . exact gg11
 | true=>
  rw[hA]at q164a hform;simp only[Bool.true_and]at hform;have dA:=dA hA;by_cases hz:P=true/\top=[48]
  . obtain⟨rfl,hz⟩:=hz;rw[decide_eq_true hz]at hform;simp only[Bool.and_self,Bool.not_true,Bool.false_and]at hform;subst hform;cases B;all_goals
    . repeat' first|(exact ji C hN _ _ top bot ll (fun h=>by cases h) _ _ _ _ _ _ _ _)|(apply aeK;rfl;rfl;all_goals first|(intro h;exact absurd hz h)|intro _)|apply aap|apply aM|apply aaF|apply aaY|apply abJ|(apply abz;rfl)|(apply abF;rfl)|(apply acY;rfl)|(apply aeM;rfl)|(apply acR;rfl;rfl)|(apply adM;rfl;rfl)|(apply abD;rfl;rfl;first|exact q162 _|exact q163 _|exact q164a _)|(apply aab;rfl;rfl)|(apply aaZ;rfl;rfl)
  . have hpz:(P && decide (top=[48]))=false:=by
     cases P with
     | false=>rfl
     | true=>rw[decide_eq_false (fun e=>hz ⟨rfl,e⟩)];rfl
    rw[hpz]at hform;simp only[Bool.not_false,Bool.true_and]at hform;cases B with
    | false=>
     simp only[Bool.not_false,Bool.true_or]at hform;subst hform;cases P with
     | false=>
      repeat' first|(exact ji C hN _ _ top bot ll (fun _=>⟨dA,fun h=>by cases h⟩) _ _ _ _ _ _ _ _)|apply aap|apply aM|apply aaF|apply aaY|apply abJ|(apply abF;rfl)|(apply acY;rfl)|(apply aeM;rfl)|(apply acR;rfl;rfl)|(apply adM;rfl;rfl)|(apply abD;rfl;rfl;first|exact q162 _|exact q163 _|exact q164a _)|(apply aab;rfl;rfl)|(apply aaZ;rfl;rfl)
     | true=>
      have hz:¬top=[48]:=fun e=>hz ⟨rfl,e⟩
      repeat' first|(exact ji C hN _ _ top bot ll (fun _=>⟨dA,fun h=>by cases h⟩) _ _ _ _ _ _ _ _)|(apply aeK;rfl;rfl;all_goals first|(intro h;exact absurd h hz)|intro _)|apply aap|apply aM|apply aaF|apply aaY|apply abJ|(apply abF;rfl)|(apply acY;rfl)|(apply acR;rfl;rfl)|(apply abD;rfl;rfl;first|exact q162 _|exact q163 _|exact q164a _)|(apply aab;rfl;rfl)|(apply aaZ;rfl;rfl)
    | true=>
     simp only[Bool.not_true,Bool.false_or]at hform;cases hC:dF bot with
     | false=>
      rw[hC]at q164b hform;simp only[Bool.false_and]at hform;subst hform;cases P with
      | false=>
       repeat' first|(exact ji C hN _ _ top bot ll (fun h=>by cases h) _ _ _ _ _ _ _ _)|apply aap|apply aM|apply aaF|apply aaY|(apply abz;rfl)|(apply acY;rfl)|(apply aeM;rfl)|(apply acR;rfl;rfl)|(apply adM;rfl;rfl)|(apply abD;rfl;rfl;first|exact q162 _|exact q163 _|exact q164a _|exact q164b _)|(apply aab;rfl;rfl)|(apply aaZ;rfl;rfl)
      | true=>
       have hz:¬top=[48]:=fun e=>hz ⟨rfl,e⟩
       repeat' first|(exact ji C hN _ _ top bot ll (fun h=>by cases h) _ _ _ _ _ _ _ _)|(apply aeK;rfl;rfl;all_goals first|(intro h;exact absurd h hz)|intro _)|apply aap|apply aM|apply aaF|apply aaY|(apply abz;rfl)|(apply acY;rfl)|(apply aeM;rfl)|(apply acR;rfl;rfl)|(apply adM;rfl;rfl)|(apply abD;rfl;rfl;first|exact q162 _|exact q163 _|exact q164a _|exact q164b _)|(apply aab;rfl;rfl)|(apply aaZ;rfl;rfl)
     | true=>
      rw[hC]at q164b hform;simp only[Bool.true_and]at hform;have dC:=dC hC;by_cases h48:bot=[48]
      . rw[decide_eq_false (show ¬bot≠[48] from fun h=>h h48)]at hform;simp only[Bool.false_and]at hform;subst hform;cases P with
        | false=>
         repeat' first|(exact ji C hN _ _ top bot ll (fun h=>by cases h) _ _ _ _ _ _ _ _)|(apply afE;rfl;rfl;all_goals first|(intro h;exact absurd h48 h)|intro _)|apply aap|apply aM|apply aaF|apply aaY|(apply abz;rfl)|(apply acY;rfl)|(apply aeM;rfl)|(apply acR;rfl;rfl)|(apply adM;rfl;rfl)|(apply abD;rfl;rfl;first|exact q162 _|exact q163 _|exact q164a _|exact q164b _)|(apply aab;rfl;rfl)|(apply aaZ;rfl;rfl)
        | true=>
         have hz:¬top=[48]:=fun e=>hz ⟨rfl,e⟩
         repeat' first|(exact ji C hN _ _ top bot ll (fun h=>by cases h) _ _ _ _ _ _ _ _)|(apply aeK;rfl;rfl;all_goals first|(intro h;exact absurd h hz)|intro _)|(apply afE;rfl;rfl;all_goals first|(intro h;exact absurd h48 h)|intro _)|apply aap|apply aM|apply aaF|apply aaY|(apply abz;rfl)|(apply acY;rfl)|(apply aeM;rfl)|(apply acR;rfl;rfl)|(apply adM;rfl;rfl)|(apply abD;rfl;rfl;first|exact q162 _|exact q163 _|exact q164a _|exact q164b _)|(apply aab;rfl;rfl)|(apply aaZ;rfl;rfl)
      . rw[decide_eq_true (show bot≠[48] from h48)]at hform;simp only[Bool.true_and]at hform;by_cases h49:bot=[49]
        . rw[decide_eq_false (show ¬bot≠[49] from fun h=>h h49)]at hform;subst hform;cases P with
          | false=>
           repeat' first|(exact ji C hN _ _ top bot ll (fun h=>by cases h) _ _ _ _ _ _ _ _)|(apply afE;rfl;rfl;all_goals first|(intro h;exact absurd h h48)|(intro h;exact absurd h49 h)|intro _)|apply aap|apply aM|apply aaF|apply aaY|(apply abz;rfl)|(apply acY;rfl)|(apply aeM;rfl)|(apply acR;rfl;rfl)|(apply adM;rfl;rfl)|(apply abD;rfl;rfl;first|exact q162 _|exact q163 _|exact q164a _|exact q164b _)|(apply aab;rfl;rfl)|(apply aaZ;rfl;rfl)
          | true=>
           have hz:¬top=[48]:=fun e=>hz ⟨rfl,e⟩
           repeat' first|(exact ji C hN _ _ top bot ll (fun h=>by cases h) _ _ _ _ _ _ _ _)|(apply aeK;rfl;rfl;all_goals first|(intro h;exact absurd h hz)|intro _)|(apply afE;rfl;rfl;all_goals first|(intro h;exact absurd h h48)|(intro h;exact absurd h49 h)|intro _)|apply aap|apply aM|apply aaF|apply aaY|(apply abz;rfl)|(apply acY;rfl)|(apply acR;rfl;rfl)|(apply abD;rfl;rfl;first|exact q162 _|exact q163 _|exact q164a _|exact q164b _)|(apply aab;rfl;rfl)|(apply aaZ;rfl;rfl)
        . rw[decide_eq_true (show bot≠[49] from h49)]at hform;subst hform;cases P with
          | false=>
           repeat' first|(exact ji C hN _ _ top bot ll (fun _=>⟨dA,fun _=>dC⟩) _ _ _ _ _ _ _ _)|(apply afE;rfl;rfl;all_goals first|(intro h;exact absurd h h48)|(intro h;exact absurd h h49)|intro _)|apply aap|apply aM|apply aaF|apply aaY|(apply abz;rfl)|(apply acY;rfl)|(apply aeM;rfl)|(apply acR;rfl;rfl)|(apply adM;rfl;rfl)|(apply abD;rfl;rfl;first|exact q162 _|exact q163 _|exact q164a _|exact q164b _)|(apply aab;rfl;rfl)|(apply aaZ;rfl;rfl)
          | true=>
           have hz:¬top=[48]:=fun e=>hz ⟨rfl,e⟩
           repeat' first|(exact ji C hN _ _ top bot ll (fun _=>⟨dA,fun _=>dC⟩) _ _ _ _ _ _ _ _)|(apply aeK;rfl;rfl;all_goals first|(intro h;exact absurd h hz)|intro _)|(apply afE;rfl;rfl;all_goals first|(intro h;exact absurd h h48)|(intro h;exact absurd h h49)|intro _)|apply aap|apply aM|apply aaF|apply aaY|(apply abz;rfl)|(apply acY;rfl)|(apply acR;rfl;rfl)|(apply abD;rfl;rfl;first|exact q162 _|exact q163 _|exact q164a _|exact q164b _)|(apply aab;rfl;rfl)|(apply aaZ;rfl;rfl)
end Go.Ab.Ch1

/-
  Own work: operations on numbers as texts.
-/
namespace Go.Ab.Ch1
open Go.Ab.aY
variable {M:ax} {cap:Option Nat} {N N2:Nat}
theorem ZZ (hft:M.FT=FT){v:AV}{q:Rat}(hv:bI v q)(q175:∀h,M.ext 175 [v] h=some ⟨.bool false,h,[]⟩)(q176:∀h,M.ext 176 [v] h=some ⟨.str (aQ q),h,[]⟩):aT M 105 [v] [] ⟨.aq [.str (aQ q),.iV 0],[],[]⟩:=by
 obtain⟨s1,w1,s2,w2,rfl,h1,h2⟩:=hv;refine bH (by rw[hft];exact ZU) (by simp) ?_;unfold KX;simp only[enter];exact gg2
theorem aaa (hft:M.FT=FT)(a:an)(e:Int)(he:e≠0)(q84:∀h,M.ext 84 [.str a] h=some ⟨.iV e,h,[]⟩):aT M 79 [.str a] [] ⟨.aq [.str [],.iV e],[],[]⟩:=by
 refine bH (by rw[hft];exact KY) (by simp) ?_;unfold Dc;simp only[enter];exact gg0
theorem w79 (hft:M.FT=FT){p:Rat}{r:an}(q84:∀h,M.ext 84 [.str (aQ p)] h=some ⟨.iV 0,h,[]⟩){v1 v2 v3:AV}(q103:∀h,M.ext 103 [.str (aQ p)] h=some ⟨v1,h,[]⟩)(q160:∀h,M.ext 160 [v1] h=some ⟨v2,h,[]⟩)(q159:∀h,M.ext 159 [v2] h=some ⟨v3,h,[]⟩)(q105:∀h,M.ext 105 [v3] h=some ⟨.aq [.str r,.iV 0],h,[]⟩):aT M 79 [.str (aQ p)] [] ⟨.aq [.str r,.iV 0],[],[]⟩:=by
 refine bH (by rw[hft];exact KY) (by simp) ?_;unfold Dc;simp only[enter];exact gg5
end Go.Ab.Ch1

/-
  Own work: rational numbers: bounds of sums and products, signs, whole parts; their texts have no error.
-/
namespace Go.Ab.Ch1
open Go.Ab.aY
def Dq (k:Nat)(q:Rat):Prop:=ak q.num<10^k/\(q.den:Int)<10^k
theorem qw (k:Nat):(0:Int)<10^k:=Int.pow_pos (by decide)
theorem oH {m n:Nat}(h:m<=n):(10:Int)^m<=10^n:=gJ (by decide) h
theorem Dq.mono {m n:Nat}{q:Rat}(h:Dq m q)(hl:m<=n):Dq n q:=⟨Int.lt_of_lt_of_le h.1 (oH hl),Int.lt_of_lt_of_le h.2 (oH hl)⟩
theorem aac {n d:Int}(h:0<d):∃c:Int,0<c/\n=c*(Rat.divInt n d).num/\d=c*((Rat.divInt n d).den:Int):=by
 obtain⟨k1,k2,h1,h2,h3,h4⟩:=vB (n:=n) h;refine⟨(Int.gcd n d:Nat),?_,by rw[h3];exact h1,by rw[h4];exact h2⟩;have:=Int.gcd_pos_of_ne_zero_right n (show d≠0 by omega);omega
theorem aad {c x:Int}(hc:0<c):ak x<=ak (c*x):=by
 rw[sd,cV (Int.le_of_lt hc)];have:=Int.mul_le_mul_of_nonneg_right (show 1<=c by omega) (iD (x:=x));omega
theorem Dq.divInt {k:Nat}{n d:Int}(hd:0<d)(h1:ak n<10^k)(h2:d<10^k):Dq k (Rat.divInt n d):=by
 obtain⟨c,hc,e1,e2⟩:=aac (n:=n) hd;refine⟨Int.lt_of_le_of_lt ?_ h1,Int.lt_of_le_of_lt ?_ h2⟩
 . have:=aad (x:=(Rat.divInt n d).num) hc;rw[←e1]at this;exact this
 . have h0:(0:Int)<=((Rat.divInt n d).den:Int):=by omega
   have:=Int.mul_le_mul_of_nonneg_right (show 1<=c by omega) h0;rw[←e2]at this;omega
theorem Lb {x y:Int}{m n:Nat}(hx:ak x<10^m)(hy:ak y<10^n):ak (x*y)<10^(m+n):=by
 rw[sd,Int.pow_add];have h1:=Int.mul_le_mul_of_nonneg_left (Int.le_of_lt hy) (iD (x:=x));have h2:=Int.mul_lt_mul_of_pos_right hx (qw n);omega
theorem aae (p q:Rat):p*q=Rat.divInt (p.num*q.num) (p.den*q.den):=by
 have e:=Rat.divInt_mul_divInt p.num q.num (d₁:=p.den) (d₂:=q.den);rw[Rat.num_divInt_den,Rat.num_divInt_den]at e;exact e
theorem Dq.mul {m n:Nat}{p q:Rat}(hp:Dq m p)(hq:Dq n q):Dq (m+n) (p*q):=by
 rw[aae];have dp:=den_pos (q:=p);have dq:=den_pos (q:=q);have a1:=Lb hp.1 hq.1;have a3:=Lb (show ak (p.den:Int)<10^m by rw[cV (by omega)];exact hp.2) (show ak (q.den:Int)<10^n by rw[cV (by omega)];exact hq.2);have hd:=Int.mul_pos dp dq;rw[cV (Int.le_of_lt hd)]at a3;exact .divInt hd a1 a3
theorem Dq.neg {m:Nat}{p:Rat}(hp:Dq m p):Dq m (-p):=by
 refine⟨?_,?_⟩
 . rw[Rat.neg_num,iW];exact hp.1
 . rw[Rat.neg_den];exact hp.2
theorem inv_divInt {q:Rat}:q⁻¹=Rat.divInt q.den q.num:=by
 rw[Rat.inv_def]
theorem Dq.inv {m:Nat}{q:Rat}(hq:Dq m q)(h0:q≠0):Dq m q⁻¹:=by
 have hn:q.num≠0:=fun e=>h0 (Rat.num_eq_zero.1 e)
 have dq:=den_pos (q:=q);rw[inv_divInt];by_cases hs:0<q.num
 . have a:=hq.1;rw[cV (by omega)]at a;exact .divInt hs (by rw[cV (by omega)];exact hq.2) a
 . rw[←Rat.neg_divInt_neg];have a:=hq.1;have e:ak q.num = -q.num:=if_pos (by omega);rw[e]at a;exact .divInt (by omega) (by rw[iW,cV (by omega)];exact hq.2) a
def lK (p:Rat):Rat:=Rat.divInt (p.num/p.den) 1
theorem xc (p:Rat):(lK p).num=p.num/p.den/\(lK p).den=1:=lH
theorem Dq.floor {m:Nat}{p:Rat}(hp:Dq m p):Dq (m+1) (lK p):=by
 have dp:=den_pos (q:=p);refine .divInt (by decide) ?_ ?_
 . have h1:=Int.mul_ediv_add_emod p.num p.den;have h2:=Int.emod_nonneg p.num (show (p.den:Int)≠0 by omega);have h3:=Int.emod_lt_of_pos p.num dp;have e:(10:Int)^(m+1)=10^m*10:=Int.pow_succ _ _;have h4:=qw m;have hn:=hp.1;have hd:=hp.2;have key:ak (p.num/p.den)<=ak p.num+1:=by
    by_cases hs:0<=p.num
    . have a1:=Int.ediv_nonneg hs (Int.le_of_lt dp);have a2:=Int.ediv_le_self (b:=(p.den:Int)) hs;rw[cV a1,cV hs];omega
    . have a0:ak p.num = -p.num:=if_pos (by omega);have a1:p.num/p.den<0:=Int.ediv_neg_of_neg_of_pos (by omega) dp;have a2:ak (p.num/p.den) = -(p.num/p.den):=if_pos a1;rw[a0,a2];have hm:=Int.mul_le_mul_of_nonpos_left (show p.num<=0 by omega) (show (1:Int)<=p.den by omega);rw[Int.mul_one]at hm;have:p.num<=p.num/p.den:=Int.le_ediv_of_mul_le dp hm;omega
   omega
 . have:=qw m;have e:(10:Int)^(m+1)=10^m*10:=Int.pow_succ _ _;omega
theorem qx {z:Int}{k:Nat}(hk:0<k)(h:ak z<10^k):(aR (ak z).toNat).length<=k:=by
 refine ox ?_ hk;have h0:=iD (x:=z);have e:((10^k:Nat):Int)=(10:Int)^k:=Int.natCast_pow _ _;rw[←e]at h;omega
theorem Lc {z:Int}{k:Nat}(hk:0<k)(h:ak z<10^k):(bL z).length<=k+1:=by
 have:=qx hk h;by_cases hz:z<0
 . rw[mN hz,List.length_cons];omega
 . rw[ku hz];omega
theorem Ld {q:Rat}{k:Nat}(hk:0<k)(h:Dq k q):(aR q.den).length<=k:=by
 have:=qx (z:=(q.den:Int)) hk (by rw[cV (by omega)];exact h.2);rw[cV (by omega)]at this;exact this
theorem Dq.lq {q:Rat}{k N:Nat}(hk:0<k)(h:Dq k q)(hN:k+1<=N):Lq N q:=
 ⟨Nat.le_trans (Lc hk h.1) hN,Nat.le_trans (Ld hk h) (by omega)⟩
theorem Le (n:Nat):dF (aR n)=true:=by
 obtain⟨h1,h2,h3⟩:=XV n;unfold dF;rw[decide_eq_true h1,h2,Bool.true_and];cases hd:aR n with
 | nil=>exact absurd hd h1
 | cons b t=>
  rw[hd]at h3;by_cases hb:b=48
  . subst hb;have ht:=h3 rfl;have:t=[]:=List.eq_nil_of_length_eq_zero (by simpa using ht);subst this;rfl
  . have e:(b::t)[0]! = b:=rfl;rw[e,decide_eq_true (show b≠48 from hb)];rfl
theorem xe (q:Rat):preB 45 (aQ q)=decide (q.num<0)/\bJ 45 (aQ q)=(if q.den=1 then aR (ak q.num).toNat else aR (ak q.num).toNat++47::aR q.den):=by
 by_cases hn:q.num<0
 . rw[decide_eq_true hn];unfold aQ;split
   . rw[mN hn];exact⟨rfl,rfl⟩
   . rw[mN hn];exact⟨rfl,rfl⟩
 . rw[decide_eq_false hn];unfold aQ;rw[ku hn];have hp:=KU (ak q.num).toNat (c:=45) (by decide);split
   . exact⟨hp,ky hp⟩
   . have hp2:preB 45 (aR (ak q.num).toNat++47::aR q.den)=false:=by
      cases hd:aR (ak q.num).toNat with
      | nil=>exact absurd hd (kq _)
      | cons b t=>rw[hd]at hp;exact hp
     exact⟨hp2,ky hp2⟩
theorem Lf (q:Rat):cL (aQ q)=aR (ak q.num).toNat/\dy (aQ q)=(if q.den=1 then [] else aR q.den)/\gO (aQ q)=decide (q.den≠1):=by
 have hn:=KT (mK (ak q.num).toNat) (c:=47) (by decide);unfold cL dy gO;rw[(xe q).2];by_cases h:q.den=1
 . rw[if_pos h,if_pos h,wX hn,decide_eq_false (by simpa using h)];exact⟨rfl,rfl,rfl⟩
 . rw[if_neg h,if_neg h,wY hn,decide_eq_true h];exact⟨rfl,rfl,rfl⟩
theorem Lg (z:Int):(ak z).toNat=z.natAbs:=by unfold ak;split <;> omega
theorem aaf {q:Rat}{k:Nat}(hk:0<k)(h6:k<=600)(h:Dq k q):gC (aQ q)=0:=by
 obtain⟨e1,e2,e3⟩:=Lf q;have l1:=qx hk h.1;have l2:=Ld hk h;have hpre:=(xe q).1;have hz:(preB 45 (aQ q) && decide (aR (ak q.num).toNat=[48]))=false:=by
  rw[hpre];by_cases hn:q.num<0
  . rw[decide_eq_true hn,Bool.true_and,decide_eq_false_iff_not];intro e;have:=kp (ak q.num).toNat;rw[e]at this;have h2:ak q.num = -q.num:=if_pos hn;simp[ay]at this;omega
  . rw[decide_eq_false hn,Bool.false_and]
 have dp:=q.den_pos;have hform:iY (aQ q)=true:=by
  unfold iY;rw[e1,e2,e3,Le,hz];by_cases hd:q.den=1
  . rw[decide_eq_false (by simpa using hd)];rfl
  . rw[decide_eq_true hd,if_neg hd,Le];have n0:aR q.den≠[48]:=fun e=>by
     have:=kp q.den;rw[e]at this;simp[ay]at this;omega
    have n1:aR q.den≠[49]:=fun e=>by
     have:=kp q.den;rw[e]at this;simp[ay]at this;omega
    rw[decide_eq_true n0,decide_eq_true n1];rfl
 unfold gC;rw[hform,if_neg (by decide),e1,e2,e3];by_cases hd:q.den=1
 . rw[if_pos hd,if_neg (by simp;omega),if_neg (by simp[hd])]
 . rw[if_neg hd,if_neg (by omega),kp,kp,if_neg];rintro⟨_,h2⟩;rw[Lg]at h2;have:=q.reduced;unfold Nat.Coprime at this;rw[fI,this]at h2;exact absurd h2 (by decide)
theorem Lh {s:an}(h:dF s=true):Cs s:=by
 obtain⟨h1,h2⟩:=sM h;refine⟨h1,h2,fun h3=>?_⟩;simp only[dF,Bool.and_eq_true,Bool.or_eq_true,decide_eq_true_eq]at h;cases s with
 | nil=>exact absurd rfl h1
 | cons b t=>
  simp at h3;subst h3;rcases h.2 with h4|h4
  . exact absurd rfl h4
  . rw[h4];rfl
theorem Li {s:an}{k:Nat}(h:s.all bF=true)(hl:s.length<=k):((ay 0 s:Nat):Int)<10^k:=by
 have h1:=ou s h;have h2:(ay 0 s:Int)<(10:Int)^s.length:=by exact_mod_cast h1
 exact Int.lt_of_lt_of_le h2 (oH hl)
theorem aag {s:an}{k:Nat}(h:gC s=0)(hl:s.length<=k):∃q,s=aQ q/\Dq k q:=by
 have hform:iY s=true:=by
  cases hf:iY s with
  | true=>rfl
  | false=>unfold gC at h;rw[hf,if_pos rfl]at h;exact absurd h (by decide)
 have hcop:¬(gO s=true/\fI (ay 0 (cL s)) (ay 0 (dy s))=true):=fun hc=>by
  unfold gC at h;rw[hform,if_neg (by decide)]at h;split at h
  . exact absurd h (by decide)
  . exact absurd h (by decide)
 unfold iY at hform;rw[Bool.and_eq_true,Bool.and_eq_true]at hform;obtain⟨⟨f1,f2⟩,f3⟩:=hform;have hcl:=sH 45 s;have htl:(cL s).length<=k:=Nat.le_trans (Nat.le_trans (sN 47 _) hcl) hl;have hbl:(dy s).length<=k:=Nat.le_trans (Nat.le_trans (Df 47 _) hcl) hl;have hT:=Lh f1;have eT:=JD hT;have hs:s=if preB 45 s=true then 45::bJ 45 s else bJ 45 s:=by
  cases hp:preB 45 s with
  | false=>rw[if_neg (by decide),ky hp]
  | true=>
   rw[if_pos rfl];have hh:=of_decide_eq_true hp;unfold bJ;rw[if_pos hh];cases s with
   | nil=>simp at hh
   | cons c t=>simp at hh;rw[hh];rfl
 obtain⟨z,hz⟩:∃z:Int,z=if preB 45 s=true then -(ay 0 (cL s):Int) else (ay 0 (cL s):Nat):=⟨_,rfl⟩
 have hza:ak z=(ay 0 (cL s):Nat):=by
  rw[hz];unfold ak;cases preB 45 s with
  | false=>simp only[Bool.false_eq_true,↓reduceIte];exact if_neg (by omega)
  | true=>simp only[↓reduceIte];split <;> omega
 have hzn:preB 45 s=decide (z<0):=by
  cases hp:preB 45 s with
  | false=>
   rw[hp,if_neg (by decide)]at hz;exact(decide_eq_false (by omega)).symm
  | true=>
   rw[hp,if_pos rfl]at hz;rw[hp]at f2;have n0:ay 0 (cL s)≠0:=fun e=>by
    rw[e,gN (by decide)]at eT;rw[←eT]at f2;exact absurd f2 (by decide)
   rw[decide_eq_true (by omega)]
 have hzt:bL z=if preB 45 s=true then 45::cL s else cL s:=by
  rw[hzn];by_cases hn:z<0
  . rw[mN hn,hza,decide_eq_true hn,if_pos rfl];show 45::aR (ay 0 (cL s))=_;rw[eT]
  . rw[ku hn,hza,decide_eq_false hn,if_neg (by decide)];exact eT
 have hzb:ak z<10^k:=by rw[hza];exact Li hT.2.1 htl
 have k1:(1:Int)<10^k:=by
  have h0:0<(cL s).length:=List.length_pos_iff.2 hT.1;have:=oH (show 1<=k by omega);rw[Int.pow_one]at this;omega
 cases hb:gO s with
 | false=>
  have hn:(bE 47 (bJ 45 s)).2=none:=by
   unfold gO at hb;cases h:(bE 47 (bJ 45 s)).2 with
   | none=>rfl
   | some y=>rw[h]at hb;cases hb
  have e:cL s=bJ 45 s:=(mP hn).1;refine⟨Rat.divInt z 1,?_,?_⟩
  . unfold aQ;rw[lH.1,lH.2,if_pos rfl,hzt,e];exact hs
  . exact⟨by rw[lH.1];exact hzb,by rw[lH.2];exact k1⟩
 | true=>
  rw[hb]at f3 hcop;simp only[Bool.not_true,Bool.false_or,Bool.and_eq_true,decide_eq_true_eq]at f3;have hB:=Lh f3.1.1;have eB:=JD hB;have hd2:ay 0 (dy s)≠0/\ay 0 (dy s)≠1:=by
   refine⟨fun e=>?_,fun e=>?_⟩
   . rw[e,gN (by decide)]at eB;exact f3.1.2 eB.symm
   . rw[e,gN (by decide)]at eB;exact f3.2 eB.symm
  have hco:z.natAbs.Coprime (ay 0 (dy s)):=by
   have h2:fI (ay 0 (cL s)) (ay 0 (dy s))=false:=by
    cases hc:fI (ay 0 (cL s)) (ay 0 (dy s)) with
    | false=>rfl
    | true=>exact absurd ⟨rfl,hc⟩ hcop
   have:z.natAbs=ay 0 (cL s):=by rw[←Lg,hza];rfl
   rw[this];simpa[fI] using h2
  refine⟨⟨z,ay 0 (dy s),hd2.1,hco⟩,?_,hzb,Li hB.2.1 hbl⟩;unfold gO at hb;obtain⟨y,hy⟩:=Option.isSome_iff_exists.1 hb;have e:=(qs hy).1;have eb:dy s=y:=by unfold dy;rw[hy];rfl
  have et:(bE 47 (bJ 45 s)).1=cL s:=rfl;rw[et,←eb]at e;unfold aQ;rw[if_neg hd2.2,hzt];show s=_++47::aR (ay 0 (dy s));rw[eB];cases hp:preB 45 s with
  | false=>rw[hp,if_neg (by decide),e]at hs;rw[if_neg (by decide)];exact hs
  | true=>rw[hp,if_pos rfl,e]at hs;rw[if_pos rfl];exact hs
theorem aah:aQ 0=[48]:=by
 show (if (1:Nat)=1 then bL 0 else _)=_;rw[if_pos rfl,ku (by decide)];exact gN (by decide)
theorem aai {q:Rat}(h:aQ q=[48]):q=0:=by
 obtain⟨e1,e2,e3⟩:=Lf q;rw[h]at e1 e3;have a1:cL [48]=[48]:=rfl;have a3:gO [48]=false:=rfl;rw[a1]at e1;have:=kp (ak q.num).toNat;rw[←e1]at this;simp[ay]at this;have h0:=iD (x:=q.num);refine Rat.num_eq_zero.1 ?_;unfold ak at this h0;split at this <;> omega
end Go.Ab.Ch1

/-
  Own work: texts: zeros repeated a few times.
-/
namespace Go.Ab.Ch1
open Go.Ab.aY
variable {M:ax} {cap:Option Nat}
theorem aaj (hft:M.FT=FT)(k:Nat)(q:∀h,M.ext 244 [.uV 1,.uV k] h=some ⟨.aq [.uV 0,.uV k],h,[]⟩):aT M 300 [.uV 1,.uV k] [] ⟨.aq [.uV 0,.uV k],[],[]⟩:=by
 refine bH (by rw[hft];exact Yv) (by simp) ?_;unfold JQ;simp only[enter];exact gg7
def nf:an:=[48,48,48,48,48,48,48,48,48,48,48,48,48,48,48,48,48,48,48,48,48,48,48,48,48,48,48,48,48,48,48,48,48,48,48,48,48,48,48,48,48,48,48,48,48,48,48,48,48,48,48,48,48,48,48,48,48,48,48,48,48,48,48,48]
def Lj:an:=[32,32,32,32,32,32,32,32,32,32,32,32,32,32,32,32,32,32,32,32,32,32,32,32,32,32,32,32,32,32,32,32,32,32,32,32,32,32,32,32,32,32,32,32,32,32,32,32,32,32,32,32,32,32,32,32,32,32,32,32,32,32,32,32,32,32,32,32,32,32,32,32,32,32,32,32,32,32,32,32,32,32,32,32,32,32,32,32,32,32,32,32,32,32,32,32,32,32,32,32,32,32,32,32,32,32,32,32,32,32,32,32,32,32,32,32,32,32,32,32,32,32,32,32,32,32,32,32]
def Lk:an:=[45,45,45,45,45,45,45,45,45,45,45,45,45,45,45,45,45,45,45,45,45,45,45,45,45,45,45,45,45,45,45,45,45,45,45,45,45,45,45,45,45,45,45,45,45,45,45,45,45,45,45,45,45,45,45,45,45,45,45,45,45,45,45,45,45,45,45,45,45,45,45,45,45,45,45,45,45,45,45,45,45,45,45,45,45,45,45,45,45,45,45,45,45,45,45,45,45,45,45,45,45,45,45,45,45,45,45,45,45,45,45,45,45,45,45,45,45,45,45,45,45,45,45,45,45,45,45,45]
theorem aak {k:Nat}(h:k<=64):nf.take k=List.replicate k 48:=by
 have:nf=List.replicate 64 48:=rfl;rw[this,List.take_replicate,Nat.min_eq_left h]
set_option maxRecDepth 100000 in
theorem aal (hft:M.FT=FT)(k:Nat)(hk:k<=64)(q300:∀h,M.ext 300 [.uV 1,.uV k] h=some ⟨.aq [.uV 0,.uV k],h,[]⟩)(q212:∀h,M.ext 212 [.str nf,.str [48]] h=some ⟨.bool true,h,[]⟩)(q32:∀h,M.ext 212 [.str Lj,.str [48]] h=some ⟨.bool false,h,[]⟩)(q45:∀h,M.ext 212 [.str Lk,.str [48]] h=some ⟨.bool false,h,[]⟩):aT M 264 [.str [48],.iV k] [] ⟨.str (List.replicate k 48),[],[]⟩:=by
 have hn1:([48]:an).length=1:=rfl;have hz:nf.length=64:=rfl;have e48:(([48]:an)[(0:Int).toNat]!).toNat=48:=rfl;refine bH (by rw[hft];exact Yt) (by simp) ?_;unfold JM;simp only[enter];by_cases h0:k=0
 . subst h0;exact gg0
 . by_cases h1:k=1
   . subst h1;exact gg1
   . have hd:nf.take (k:Int).toNat=List.replicate k 48:=aak hk;exact gg11
end Go.Ab.Ch1
