/-
  Own work: integers of any size: quotients and rests.
-/
import Derived.Test.YtcjphdmkgmkabaaGreatDoorLib7
import Derived.Test.YtcjphdmkgmkabaaGreatDoorCh1Base
import Derived.Test.YtcjphdmkgmkabaaGreatDoorLib6
import Derived.Test.YtcjphdmkgmkabaaGreatDoorLib5
import Derived.Test.YtcjphdmkgmkabaaGreatDoorLib4
set_option maxHeartbeats 8000000
set_option maxRecDepth 20000
namespace Go.Ab.Ch1
open Go.Ab.aW
variable {M:aw} {cap:Option Nat} {N:Nat}
structure CD (M:aw)(N:Nat):Prop extends CJ M N where
 n1:1<=N
 oH:∀s h,M.ext 168 [.iV s] h=some ⟨.agg [.iV s,.aa],h,[]⟩
 Kr:∀x l y m,cV x l->cV y m->okW wB l->okW wB m->aM l->aM m->l.length<=500000->m.length<=500000->m≠[]->∃qv q rv r,cV qv q/\cV rv r/\okW wB q/\aM q/\okW wB r/\aM r/\WV wB q=WV wB l/WV wB m/\WV wB r=WV wB l%WV wB m/\∀h,M.ext 253 [x,y] h=some ⟨.au [qv,rv],h,[]⟩
def t205:an:=
 zR [zt 52 2 2,
      z1 53 246 52,
      zn 51 53,
      ze 54 0 51,
      ze 55 1 51,
      zw 8 54,
      zw 9 55]
    (
     zR [zt 57 2 3,
       z1 58 246 57,
       zn 56 58,
       ze 59 0 56,
       ze 60 1 56,
       zn 10 59,
       zw 10 60]
     (
      zR [zm 62 9,
        zm 63 10,
        z2 64 253 62 63,
        zn 61 64,
        ze 65 0 61,
        ze 66 1 61,
        zw 11 65,
        zw 12 66]
      (
       zR [zm 67 8,
         zm 68 11,
         z2 69 247 67 68,
         zm 70 8,
         zm 71 12,
         z2 72 247 70 71,
         ⟨(.p 13),.alloc 131 [.iV (0),.aa],none⟩,
         ⟨(.p 14),.alloc 131 [.iV (0),.aa],none⟩,
         zs 2 13 69,
         zs 2 14 72]
       (
        .seq (zR [zt 73 2 14,
           z1 74 211 73,
           zc 75 .lss 74 0]
         (
          .cond (.l 75)
          (.draw [(zt 76 2 13,[]),
            (⟨(.l 77),.call (kF 168) [(kI 1)],none⟩,[0]),
            (z2 78 217 76 77,[]),
            (zt 79 2 14,[0,1,2]),
            (zt 80 2 3,[0,1,2,3]),
            (z2 81 202 79 80,[]),
            (zs 2 13 78,[]),
            (zs 2 14 81,[])])
          (.skip)))
        (
         .seq (.draw [(zt 82 2 13,[]),
           (zt 83 2 14,[0]),
           (zs 2 4 82,[1]),
           (zs 2 5 83,[])])
         (.ret))))))
theorem XB {x y:Int}(hy:0<y):(x.tmod y<0->x/y=x.tdiv y-1/\x%y=x.tmod y+y)/\(0<=x.tmod y->x/y=x.tdiv y/\x%y=x.tmod y)/\(-y<x.tmod y/\x.tmod y<y):=by
 have e:=Int.mul_tdiv_add_tmod x y;have hb : -y<x.tmod y/\x.tmod y<y:=by
  rcases Int.le_total 0 x with h|h
  . rw[Int.tmod_eq_emod_of_nonneg h];have:=Int.emod_nonneg x (show y≠0 by omega);have:=Int.emod_lt_of_pos x hy;omega
  . have e:x.tmod y = -(-x%y):=by
     rw[←Int.tmod_eq_emod_of_nonneg (show 0 <= -x by omega),Int.neg_tmod];omega
    have:=Int.emod_nonneg (-x) (show y≠0 by omega);have:=Int.emod_lt_of_pos (-x) hy;omega
 refine⟨fun h=>?_,fun h=>?_,hb⟩
 . obtain⟨h1,h2⟩:=mS (x:=x) (y:=y) (q:=x.tdiv y-1) (r:=x.tmod y+y) (by rw[Int.mul_sub,Int.mul_one];omega) (by omega) (by omega);exact⟨h1.symm,h2.symm⟩
 . obtain⟨h1,h2⟩:=mS (x:=x) (y:=y) (q:=x.tdiv y) (r:=x.tmod y) (by omega) h hb.2;exact⟨h1.symm,h2.symm⟩
theorem XC {x y q r:Int}(hy:0<y)(hx:x<0)(hq:q = -x/y)(hr:r = -x%y):(r=0->x/y = -q/\x%y=0)/\(r≠0->x/y = -q-1/\x%y=y-r)/\(0<=r/\r<y)/\0<=q/\q <= -x:=by
 have e:=Int.mul_ediv_add_emod (-x) y;have r0:=Int.emod_nonneg (-x) (show y≠0 by omega);have r1:=Int.emod_lt_of_pos (-x) hy;have q0:0 <= -x/y:=Int.ediv_nonneg (by omega) (by omega);have q1 : -x/y <= -x:=Int.ediv_le_self _ (by omega);rw[←hq,←hr]at e;rw[←hr]at r0 r1;rw[←hq]at q0 q1;refine⟨fun h=>?_,fun h=>?_,⟨r0,r1⟩,q0,q1⟩
 . obtain⟨h1,h2⟩:=mS (x:=x) (y:=y) (q:=-q) (r:=0) (by rw[Int.mul_neg];omega) (by omega) hy;exact⟨h1.symm,h2.symm⟩
 . obtain⟨h1,h2⟩:=mS (x:=x) (y:=y) (q:=-q-1) (r:=y-r) (by rw[Int.mul_sub,Int.mul_neg,Int.mul_one];omega) (by omega) (by omega);exact⟨h1.symm,h2.symm⟩
theorem Du {a b:AV}{x y:Int}{hh:ab}(ha:ay a x)(hb:ay b y):ew (aU [a,b]) hh (.au [a,b]):=by
 cases ha;all_goals
 . cases hb;all_goals exact .same (by simp[aU,AV.top,bh,fU]) (by simp[aU,bG,cA,kY])
theorem ck {x:Int}(h:0<=x):aj x=x:=if_neg (by omega)
theorem XD (C:CD M N):(1:Int)<wB^N:=by
 have h:=fR (b:=wB) (by decide) (m:=1) (n:=N) C.n1;have h3:wB^1=18446744073709551616:=rfl;omega
theorem XE (C:CD M N){s s' za zb:Int}{wa wb:AV}(ha:ay (.agg [.iV s,wa]) za)(hb:ay (.agg [.iV s',wb]) zb)(lza:aj za<wB^N)(lzb:aj zb<wB^N)(hpos:0<zb) :
 ∃q r,ay q (za/zb)/\ay r (za%zb)/\∀a0 a1 a6 a7 a8 a9 aA aB aC aD aE lo wr,W M t205 ⟨⟨[a0,a1,.ptr 0 0,.ptr 1 0,.ptr 2 0,.ptr 3 0,a6,a7,a8,a9,aA,aB,aC,aD,aE],lo,[some (.cells [.iV s,wa] 131),some (.cells [.iV s',wb] 131),some (.cells [.iV 0,.aa] 131),some (.cells [.iV 0,.aa] 131)],[]⟩,wr⟩ (lK (.au [q,r]) [.cell 2 true (.p 4),.cell 2 true (.p 5)]):=by
 obtain⟨x,l,hx,okl,nrl,vl,q246a⟩:=C.kG _ za ha;obtain⟨y,m,hy,okm,nrm',vm,q246b⟩:=C.kG _ zb hb;have ll:=C.len okl nrl vl lza;have lm:=C.len okm nrm' vm lzb;have hb0:¬zb<0:=by omega
 rw[ck (by omega)]at vm lzb;have mne:m≠[]:=fun e=>by rw[e]at vm;simp[WV]at vm;omega
 obtain⟨qv,q,rv,r,hq,hr,okq,nrq,okr,nrr,vq,vr,q253⟩:=C.Kr x l y m hx hy okl okm nrl nrm' ll lm mne;rw[vl,vm]at vq vr;have q0:=cg (b:=wB) (by decide) okq;have r0:=cg (b:=wB) (by decide) okr;have a0:=iD (x:=za);have q1:WV wB q<=aj za:=by rw[vq];exact Int.ediv_le_self _ a0
 have r1:WV wB r<zb:=by rw[vr];exact Int.emod_lt_of_pos _ hpos
 have lN:=C.lN;have lq:q.length<=1000001:=Nat.le_trans (fL (b:=wB) (by decide) okq nrq (n:=N) (by omega)) (by omega);have lr:r.length<=1000001:=Nat.le_trans (fL (b:=wB) (by decide) okr nrr (n:=N) (by omega)) (by omega);simp only[hb0,decide_false]at q246b;by_cases hn:za<0
 . simp only[hn,decide_true]at q246a;rw[show aj za = -za from if_pos hn]at vq vr q1 lza;obtain⟨d1,d2,d3,d4,d5⟩:=XC hpos hn vq vr;obtain⟨vQ,hQ,q247q⟩:=C.jV true qv q hq okq nrq lq;obtain⟨vR,hR,q247r⟩:=C.jV true rv r hr okr nrr lr;have hQ:ay vQ (-WV wB q):=hQ;have hR:ay vR (-WV wB r):=hR;have q211:=C.oG vR _ hR;by_cases hz:WV wB r=0
   . obtain⟨e1,e2⟩:=d1 hz;rw[show bg (-WV wB r)=0 by rw[hz];rfl]at q211;refine⟨vQ,vR,by rw[e1];exact hQ,by rw[e2];rw[hz]at hR;exact hR,fun a0 a1 a6 a7 a8 a9 aA aB aC aD aE lo wr=>?_⟩;have out:=fun hh=>Du (hh:=hh) hQ hR
     unfold t205;cases hQ;all_goals
     . cases hR;all_goals
       . repeat' first|(apply abt;rfl;rfl)|refine gd0 ?_|refine gc ?_|(intro _;omega)|intro _
         all_goals try omega
         all_goals exact cn rfl rfl (out _)
   . obtain⟨e1,e2⟩:=d2 hz;rw[show bg (-WV wB r) = -1 from if_pos (by omega)]at q211;have q168:=C.oH 1;have h1:=XD C;obtain⟨vS,hS,q217⟩:=C.Dt vQ _ _ 1 hQ (.small (by decide)) (by rw[jh,ck q0];omega) h1;obtain⟨vT,hT,q202⟩:=C.qE vR _ _ zb hR hb (by rw[jh,ck r0];omega) (by rw[ck (by omega)];exact lzb);have hS:ay vS (za/zb):=by rw[e1];exact hS
     have hT:ay vT (za%zb):=by rw[e2,show zb-WV wB r = -WV wB r+zb by omega];exact hT
     refine⟨vS,vT,hS,hT,fun a0 a1 a6 a7 a8 a9 aA aB aC aD aE lo wr=>?_⟩;have out:=fun hh=>Du (hh:=hh) hS hT
     unfold t205;cases hQ;all_goals
     . cases hR;all_goals
       . cases hS;all_goals
         . cases hT;all_goals
           . repeat' first|refine gd1 ?_|(apply abt;rfl;rfl)|refine gd0 ?_|refine gc ?_|(intro _;omega)|intro _
             all_goals try omega
             all_goals exact cn rfl rfl (out _)
 . simp only[hn,decide_false]at q246a;rw[show aj za=za from if_neg hn]at vq vr;obtain⟨vQ,hQ,q247q⟩:=C.jV false qv q hq okq nrq lq;obtain⟨vR,hR,q247r⟩:=C.jV false rv r hr okr nrr lr;have hQ:ay vQ (za/zb):=by rw[←vq];exact hQ
   have q211:=C.oG vR _ hR;have hR:ay vR (za%zb):=by rw[←vr];exact hR
   obtain⟨g,hg⟩:∃g,g=bg (fS false (WV wB r)):=⟨_,rfl⟩;have g0:0<=g:=by rw[hg];unfold bg fS;simp;split <;> omega
   rw[←hg]at q211;refine⟨vQ,vR,hQ,hR,fun a0 a1 a6 a7 a8 a9 aA aB aC aD aE lo wr=>?_⟩;have out:=fun hh=>Du (hh:=hh) hQ hR
   unfold t205;cases hQ;all_goals
   . cases hR;all_goals
     . repeat' first|(apply abt;rfl;rfl)|refine gd0 ?_|refine gc ?_|(intro _;omega)|intro _
       all_goals try omega
       all_goals exact cn rfl rfl (out _)
theorem XF (C:CD M N){a b:AV}{za zb:Int}(ha:ay a za)(hb:ay b zb)(lza:aj za<wB^N)(lzb:aj zb<wB^N)(hpos:0<zb):∃q r,ay q (za/zb)/\ay r (za%zb)/\cD M 205 [a,b] (.au [q,r]):=by
 have main:∀{s s':Int} {wa wb:AV},a = .agg [.iV s,wa]->b = .agg [.iV s',wb]->∃q r,ay q (za/zb)/\ay r (za%zb)/\∀a0 a1 a6 a7 a8 a9 aA aB aC aD aE lo wr,W M t205 ⟨⟨[a0,a1,.ptr 0 0,.ptr 1 0,.ptr 2 0,.ptr 3 0,a6,a7,a8,a9,aA,aB,aC,aD,aE],lo,[some (.cells [.iV s,wa] 131),some (.cells [.iV s',wb] 131),some (.cells [.iV 0,.aa] 131),some (.cells [.iV 0,.aa] 131)],[]⟩,wr⟩ (lK (.au [q,r]) [.cell 2 true (.p 4),.cell 2 true (.p 5)]):=
  fun e1 e2=>XE C (e1 ▸ ha) (e2 ▸ hb) lza lzb hpos
 cases ha with
 | small h=>
  cases hb with
  | small h'=>
   by_cases hmin:za = -9223372036854775808
   . obtain⟨q,r,hq,hr,tl⟩:=main rfl rfl;refine⟨q,r,hq,hr,cH (by rw[C.ft];exact sR) (by simp) ?_⟩;unfold qC;simp only[enter];exact gg17
   . obtain⟨d1,d2,d3⟩:=XB (x:=za) hpos;have hq : -9223372036854775807<=za.tdiv zb/\za.tdiv zb<=9223372036854775807:=by
      have h1:(za.tdiv zb).natAbs<=za.natAbs:=by rw[Int.natAbs_tdiv];exact Nat.div_le_self _ _
      omega
     by_cases hr:za.tmod zb<0
     . obtain⟨e1,e2⟩:=d1 hr;refine⟨_,_,by rw[e1];exact .small (by omega),by rw[e2];exact .small (by omega),cH (by rw[C.ft];exact sR) (by simp) ?_⟩;unfold qC;simp only[enter];repeat' first|(apply abt;rfl;rfl)|(apply adW;rfl;rfl)|(apply aix;rfl;rfl;omega)|(apply aiw;rfl;rfl;omega;omega)|refine gc ?_|(intro _;omega)|intro _
       all_goals try omega
       all_goals exact cn rfl rfl (.same rfl rfl)
     . obtain⟨e1,e2⟩:=d2 (by omega);refine⟨_,_,by rw[e1];exact .small (by omega),by rw[e2];exact .small (by omega),cH (by rw[C.ft];exact sR) (by simp) ?_⟩;unfold qC;simp only[enter];repeat' first|(apply abt;rfl;rfl)|(apply adW;rfl;rfl)|(apply aix;rfl;rfl;omega)|(apply aiw;rfl;rfl;omega;omega)|refine gc ?_|(intro _;omega)|intro _
       all_goals try omega
       all_goals exact cn rfl rfl (.same rfl rfl)
  | @eO σ z w hs ok nr hw hz=>
   cases w with
   | nil=>simp[WV]at hw
   | cons y w=>
   obtain⟨q,r,hq,hr,tl⟩:=main rfl rfl;refine⟨q,r,hq,hr,cH (by rw[C.ft];exact sR) (by simp) ?_⟩;unfold qC;simp only[enter];exact gg17
 | @eO σ z w hs ok nr hw hz=>
  cases w with
  | nil=>simp[WV]at hw
  | cons y w=>
  cases hb;all_goals
  . obtain⟨q,r,hq,hr,tl⟩:=main rfl rfl;refine⟨q,r,hq,hr,cH (by rw[C.ft];exact sR) (by simp) ?_⟩;unfold qC;simp only[enter];exact gg17
structure CQ (M:aw)(N:Nat):Prop extends CD M N where
 xc:∀a b x y,ay a x->ay b y->aj x<wB^N->aj y<wB^N->0<y->∃q r,ay q (x/y)/\ay r (x%y)/\∀h,M.ext 205 [a,b] h=some ⟨.au [q,r],h,[]⟩
theorem fO {k:IntKind}{n:Int}:cG (.int k n)=true:=rfl
theorem iR:cG .aa=true:=rfl
theorem ay.shape {v:AV}{z:Int}(h:ay v z):∃s w,v = .agg [.iV s,w]/\cG w=true/\w.top=0/\bG w=w:=by
 cases h with
 | small=>exact⟨_,_,rfl,rfl,rfl,rfl⟩
 | @eO σ z w=>exact⟨_,_,rfl,rfl,fU _,by rw[bG,kY]⟩
theorem ay.one {s:Int}{w:AV}{z:Int}(h:ay (.agg [.iV s,w]) z):cG w=true/\w.top=0/\bG w=w:=by
 obtain⟨s',w',e,h⟩:=h.shape;cases e;exact h
theorem XG (C:CQ M N){a b:AV}{x y k:Int}(ha:ay a x)(hb:ay b y)(lx:aj x<wB^N)(ly:aj y<wB^N)(hy:y≠0)(hk:x=y*k):∃v0,ay v0 k/\cD M 252 [a,b] v0:=by
 have q211:=C.oG b y hb;by_cases hn:y<0
 . rw[show bg y = -1 from if_pos hn]at q211;obtain⟨va,h1,q216a⟩:=C.lM a x ha lx;obtain⟨vb,h2,q216b⟩:=C.lM b y hb ly;have h1:ay va (-x):=h1;have h2:ay vb (-y):=h2;obtain⟨q,r,hq,hr,q205⟩:=C.xc va vb _ _ h1 h2 (by rw[jh];exact lx) (by rw[jh];exact ly) (by omega);have hq:ay q k:=by
    have : -x / -y=k:=by rw[hk,←Int.neg_mul,Int.mul_ediv_cancel_left _ (by omega)]
    rw[←this];exact hq
   refine⟨q,hq,cH (by rw[C.ft];exact Kk) (by simp) ?_⟩;have out:=fun hh=>hq.out (hh:=hh)
   obtain⟨_,_,rfl,o1,_⟩:=ha.shape;obtain⟨_,_,rfl,o2,_⟩:=hb.shape;obtain⟨_,_,rfl,o3,_⟩:=hq.shape;obtain⟨_,_,rfl,o4,_⟩:=hr.shape;obtain⟨_,_,rfl,o5,_⟩:=h1.shape;obtain⟨_,_,rfl,o6,_⟩:=h2.shape;unfold Dp;simp only[enter];exact gg13
 . obtain⟨g,hg⟩:∃g,g=bg y:=⟨_,rfl⟩;have g0:0<=g:=by rw[hg];unfold bg;split <;> (first|omega|(split <;> omega))
   rw[←hg]at q211;obtain⟨q,r,hq,hr,q205⟩:=C.xc a b _ _ ha hb lx ly (by omega);have hq:ay q k:=by
    have:x/y=k:=by rw[hk,Int.mul_ediv_cancel_left _ (by omega)]
    rw[←this];exact hq
   refine⟨q,hq,cH (by rw[C.ft];exact Kk) (by simp) ?_⟩;have out:=fun hh=>hq.out (hh:=hh)
   obtain⟨_,_,rfl,o1,_⟩:=ha.shape;obtain⟨_,_,rfl,o2,_⟩:=hb.shape;obtain⟨_,_,rfl,o3,_⟩:=hq.shape;obtain⟨_,_,rfl,o4,_⟩:=hr.shape;unfold Dp;simp only[enter];repeat' first|refine gd0 ?_|(apply adX;rfl;rfl;rfl;exact⟨rfl,Nat.le_refl _,by simp[overwrite,fO,o3,o4]⟩;rfl)|(apply abt;rfl;rfl)|refine gc ?_|(intro _;omega)|intro _
   all_goals try omega
   all_goals exact cn rfl rfl (out _)
set_option maxRecDepth 1000000
def Ks:an:=zR [zx 1 131 2 0,zi 2 0] (zR [zt 6 2 1,z1 7 246 6,zn 5 7,ze 8 0 5,ze 9 1 5,zn 3 8,zw 3 9] (.seq (zR [zm 10 3,zl 11 10,zc 12 .eql 11 0] (.cond (.l 12) (zR [zi 2 0] (.ret)) (.skip))) (zR [zm 13 3,zl 14 13,zc 15 .sub 14 1,⟨.l 16,.bin .mul (kI 64) (.l 15),none⟩,zm 17 3,zm 18 3,zl 19 18,zc 20 .sub 19 1,za 21 1 17 20,zd 22 1 21,z1 23 240 22,zb 24 .add 16 23,zw 2 24] (.ret))))
theorem XH:FT 262=some ⟨25,[0,1,2,4],[.var (.p 2)],Ks⟩:=by kernel_rfl
def qF:an:=.seq (zR [zm 7 1,zc 8 .gtr 7 0] (.cond (.l 8) (.skip) (.exit 0))) (.seq (.block 1 (.seq (zR [zm 11 1,zc 12 .and 11 1,zc 13 .eql 12 1] (.cond (.l 13) (.region [zt 14 2 4,zt 15 2 2,z2 16 198 14 15,zs 2 4 16]) (.skip))) (zR [zm 17 1,zc 18 .gtr 17 1] (.cond (.l 18) (.region [zt 19 2 2,zt 20 2 2,z2 21 198 19 20,zs 2 2 21]) (.skip))))) (.region [zm 9 1,⟨.l 10,.bin .shr (.l 9) (kU 1),none⟩,zw 1 10]))
def Kt:an:=zR [zx 2 131 2 0,⟨.p 3,.alloc 131 [.iV (0),.aa],none⟩] (zR [⟨.l 6,.call (kF 168) [(kI 1)],none⟩,⟨.p 4,.alloc 131 [.iV (0),.aa],none⟩,zs 2 4 6] (.seq (.block 0 (.loop qF)) (zR [zt 22 2 4,zs 2 3 22] (.ret))))
theorem XI:FT 215=some ⟨23,[0,1,2,4,5],[.cell 2 true (.p 3)],Kt⟩:=by kernel_rfl
def Ku:an:=zR [zx 1 131 2 0,⟨.p 2,.alloc 133 [.iV (0),.aa,.iV (0),.aa],none⟩] (.seq (.draw [(zt 3 2 1,[]),(⟨.l 4,.call (kF 168) [(kI 1)],none⟩,[0]),(⟨.l 5,.build [.iV (0),.aa,.iV (0),.aa] [(0,2,(.l 3)),(2,2,(.l 4))],none⟩,[]),(zs 4 2 5,[])]) (.ret))
theorem XJ:FT 159=some ⟨6,[0,1,2],[.cell 4 true (.p 2)],Ku⟩:=by kernel_rfl
def Dv:an:=zR [zx 2 131 2 0,zx 3 131 2 1,⟨.p 4,.alloc 133 [.iV (0),.aa,.iV (0),.aa],none⟩] (.seq (zR [zt 6 2 3,z1 7 211 6,zc 8 .lss 7 0] (.cond (.l 8) (.draw [(zt 9 2 2,[]),(z1 10 216 9,[]),(zt 11 2 3,[0,1]),(z1 12 216 11,[]),(zs 2 2 10,[]),(zs 2 3 12,[])]) (.skip))) (.seq (zR [zf 13 1 3,zd 14 1 13,⟨.l 15,.eq false (.ref .slice) (.l 14) (.c (.aa)),none⟩,zn 16 15,zg (zf 17 0 3) 16 true,zg (zd 18 1 17) 16 true,zg (zc 19 .eql 18 1) 16 true,zp 20 16 19] (.cond (.l 20) (zR [zt 21 2 2,zt 22 2 3,⟨.l 23,.build [.iV (0),.aa,.iV (0),.aa] [(0,2,(.l 21)),(2,2,(.l 22))],none⟩,zs 4 4 23] (.ret)) (.skip))) (zR [zt 24 2 2,zt 25 2 3,z2 26 165 24 25,⟨.p 5,.alloc 131 [.iV (0),.aa],none⟩,zs 2 5 26] (.seq (.draw [(zt 27 2 2,[]),(zt 28 2 5,[0]),(z2 29 252 27 28,[]),(zt 30 2 3,[0,1,2]),(zt 31 2 5,[0,1,2,3]),(z2 32 252 30 31,[]),(⟨.l 33,.build [.iV (0),.aa,.iV (0),.aa] [(0,2,(.l 29)),(2,2,(.l 32))],none⟩,[]),(zs 4 4 33,[])]) (.ret)))))
theorem Kv:FT 203=some ⟨34,[0,1,2,3,4,5],[.cell 4 true (.p 4)],Dv⟩:=by kernel_rfl
def Kw:an:=zR [zx 1 133 4 0,⟨.p 2,.alloc 133 [.iV (0),.aa,.iV (0),.aa],none⟩] (.seq (.draw [(zf 3 0 1,[]),(zT 4 2 3,[]),(z1 5 216 4,[]),(zf 6 2 1,[0,1,2]),(zT 7 2 6,[0,1,2]),(⟨.l 8,.build [.iV (0),.aa,.iV (0),.aa] [(0,2,(.l 5)),(2,2,(.l 7))],none⟩,[]),(zs 4 2 8,[])]) (.ret))
theorem XL:FT 199=some ⟨9,[0,1,2],[.cell 4 true (.p 2)],Kw⟩:=by kernel_rfl
def Kx:an:=zR [zx 1 133 4 0,⟨.p 2,.alloc 133 [.iV (0),.aa,.iV (0),.aa],none⟩] (zR [zf 3 2 1,zT 4 2 3,zf 5 0 1,zT 6 2 5,z2 7 203 4 6,zs 4 2 7] (.ret))
theorem XM:FT 200=some ⟨8,[0,1,2],[.cell 4 true (.p 2)],Kx⟩:=by kernel_rfl
def Ky:an:=zR [zx 1 133 4 0,⟨.p 2,.mv (.c (.bool false)),none⟩] (zR [zf 3 2 1,⟨.l 4,.dH 1 (.l 3),none⟩,zd 5 1 4,⟨.l 6,.eq false (.ref .slice) (.l 5) (.c (.aa)),none⟩,zn 7 6,zg (zf 8 2 1) 7 true,⟨.l 9,.dH 0 (.l 8),some ((.l 7),true)⟩,zg (zd 10 1 9) 7 true,zg (zc 11 .eql 10 1) 7 true,zp 12 7 11,zw 2 12] (.ret))
theorem XO:FT 201=some ⟨13,[0,1,2],[.var (.p 2)],Ky⟩:=by kernel_rfl
def Dw:an:=zR [zx 2 133 4 0,zx 3 133 4 1,⟨.p 4,.alloc 133 [.iV (0),.aa,.iV (0),.aa],none⟩] (.seq (zR [zt 5 4 2,z1 6 201 5,zn 7 6,zg (zt 8 4 3) 7 true,zg (z1 9 201 8) 7 true,zp 10 7 9] (.cond (.l 10) (zR [zf 11 0 2,zT 12 2 11,zf 13 0 3,zT 14 2 13,z2 15 202 12 14,z1 16 159 15,zs 4 4 16] (.ret)) (.skip))) (.seq (.draw [(zf 17 0 2,[]),(zT 18 2 17,[]),(zf 19 2 3,[0,1]),(zT 20 2 19,[0,1]),(z2 21 198 18 20,[]),(zf 22 0 3,[0,1,2,3,4]),(zT 23 2 22,[0,1,2,3,4]),(zf 24 2 2,[0,1,2,3,4,5,6]),(zT 25 2 24,[0,1,2,3,4,5,6]),(z2 26 198 23 25,[]),(z2 27 202 21 26,[]),(zf 28 2 2,[0,1,2,3,4,5,6,7,8,9,10]),(zT 29 2 28,[0,1,2,3,4,5,6,7,8,9,10]),(zf 30 2 3,[0,1,2,3,4,5,6,7,8,9,10,11,12]),(zT 31 2 30,[0,1,2,3,4,5,6,7,8,9,10,11,12]),(z2 32 198 29 31,[]),(z2 33 203 27 32,[]),(zs 4 4 33,[])]) (.ret)))
theorem Kz:FT 151=some ⟨34,[0,1,2,3,4],[.cell 4 true (.p 4)],Dw⟩:=by kernel_rfl
def KA:an:=zR [zx 2 133 4 0,zx 3 133 4 1,⟨.p 4,.alloc 133 [.iV (0),.aa,.iV (0),.aa],none⟩] (.seq (.draw [(zt 5 4 2,[]),(zt 6 4 3,[0]),(z1 7 199 6,[0]),(z2 8 151 5 7,[]),(zs 4 4 8,[])]) (.ret))
theorem XP:FT 149=some ⟨9,[0,1,2,3,4],[.cell 4 true (.p 4)],KA⟩:=by kernel_rfl
def KB:an:=zR [zx 2 133 4 0,zx 3 133 4 1,⟨.p 4,.alloc 133 [.iV (0),.aa,.iV (0),.aa],none⟩] (.seq (.draw [(zf 5 0 2,[]),(zT 6 2 5,[]),(zf 7 0 3,[0,1]),(zT 8 2 7,[0,1]),(z2 9 198 6 8,[]),(zf 10 2 2,[0,1,2,3,4]),(zT 11 2 10,[0,1,2,3,4]),(zf 12 2 3,[0,1,2,3,4,5,6]),(zT 13 2 12,[0,1,2,3,4,5,6]),(z2 14 198 11 13,[]),(z2 15 203 9 14,[]),(zs 4 4 15,[])]) (.ret))
theorem XQ:FT 152=some ⟨16,[0,1,2,3,4],[.cell 4 true (.p 4)],KB⟩:=by kernel_rfl
def KC:an:=zR [zx 2 133 4 0,zx 3 133 4 1,⟨.p 4,.alloc 133 [.iV (0),.aa,.iV (0),.aa],none⟩] (.seq (.draw [(zt 5 4 2,[]),(zt 6 4 3,[0]),(z1 7 200 6,[0]),(z2 8 152 5 7,[]),(zs 4 4 8,[])]) (.ret))
theorem XR:FT 150=some ⟨9,[0,1,2,3,4],[.cell 4 true (.p 4)],KC⟩:=by kernel_rfl
def KD:an:=zR [zx 2 133 4 0,zx 3 133 4 1,zi 4 0] (.seq (.draw [(zf 5 0 2,[]),(zT 6 2 5,[]),(zf 7 2 3,[0,1]),(zT 8 2 7,[0,1]),(z2 9 198 6 8,[]),(zf 10 0 3,[0,1,2,3,4]),(zT 11 2 10,[0,1,2,3,4]),(zf 12 2 2,[0,1,2,3,4,5,6]),(zT 13 2 12,[0,1,2,3,4,5,6]),(z2 14 198 11 13,[]),(z2 15 167 9 14,[]),(zw 4 15,[])]) (.ret))
theorem XS:FT 148=some ⟨16,[0,1,2,3,4],[.var (.p 4)],KD⟩:=by kernel_rfl
def ji (v:AV)(n d:Int):Prop:=∃s w s' w',v = .agg [.iV s,w,.iV s',w']/\ay (.agg [.iV s,w]) n/\ay (.agg [.iV s',w']) d
theorem ji.out {v:AV}{n d:Int}{hh:ab}(h:ji v n d):ew (aU [v]) hh v:=by
 obtain⟨s,w,s',w',rfl,h1,h2⟩:=h;obtain⟨_,t1,c1⟩:=h1.one;obtain⟨_,t2,c2⟩:=h2.one;exact .same (by simp[aU,AV.top,bh,t1,t2]) (by simp[aU,bG,cA,c1,c2])
structure CF (M:aw)(N:Nat):Prop extends CQ M N where
 Dx:∀v z,ay v z->∃v0,ji v0 z 1/\∀h,M.ext 159 [v] h=some ⟨v0,h,[]⟩
 Dy:∀a b x y,ay a x->ay b y->aj x<wB^N->aj y<wB^N->∀h,M.ext 167 [a,b] h=some ⟨.iV (bg (x-y)),h,[]⟩
 jW:wZ M N 198 (· * ·)
theorem XT (C:CD M N){v:AV}{z:Int}(hv:ay v z):∃v0,ji v0 z 1/\cD M 159 [v] v0:=by
 obtain⟨s,w,rfl,o1,_⟩:=hv.shape;have q168:=C.oH 1;have hf:ji (.agg [.iV s,w,.iV 1,.aa]) z 1:=⟨_,_,_,_,rfl,hv,.small (by decide)⟩;refine⟨_,hf,cH (by rw[C.ft];exact XJ) (by simp) ?_⟩;have out:=fun hh=>hf.out (hh:=hh)
 unfold Ku;simp only[enter];repeat' first|refine gd1 ?_|refine gd21 ?_|refine gc ?_|fail
 exact cn rfl rfl (out _)
theorem XU (C:CJ M N){v:AV}{n d:Int}(hv:ji v n d)(ln:aj n<wB^N):∃v0,ji v0 (-n) d/\cD M 199 [v] v0:=by
 obtain⟨s1,w,s',w',rfl,h1,h2⟩:=hv;obtain⟨v1,h3,q216⟩:=C.lM _ n h1 ln;obtain⟨s3,w3,rfl,o3,_⟩:=h3.shape;obtain⟨o1,_⟩:=h1.one;obtain⟨o2,_⟩:=h2.one;have hf:ji (.agg [.iV s3,w3,.iV s',w']) (-n) d:=⟨_,_,_,_,rfl,h3,h2⟩;refine⟨_,hf,cH (by rw[C.ft];exact XL) (by simp) ?_⟩;have out:=fun hh=>hf.out (hh:=hh)
 unfold Kw;simp only[enter];repeat' first|refine gd1 ?_|(apply adX;rfl;rfl;rfl;exact⟨rfl,Nat.le_refl _,by simp[overwrite,fO,o2,o3]⟩;rfl)|refine gc ?_|fail
 exact cn rfl rfl (out _)
section
variable {t n m:Nat} {x y:aN} {l:List aT} {pe:List AV} {lo:List (Nat×AV)} {H:ab} {df wr:List Nat} {c c' new:List AV} {e:TypeId} {a:Option bw} {Q:aq->Prop}
theorem ajt (hx:(St.mk pe lo (H++[some (.cells c e)]++[a]) df).ae x=some (.ptr H.length 0))(hy:((St.mk pe lo (H++[some (.cells c e)]++[a]) df).ae y).bind AV.cells=some new)(hn:new.length=n/\0+n<=c.length/\new.all cG=true)(hc:overwrite c 0 new=c')
 (h:WO M l ⟨⟨pe,lo,H++[some (.cells c' e)]++[a],df⟩,H.length::wr⟩ Q):WO M (⟨.no,.store n x y,none⟩::l) ⟨⟨pe,lo,H++[some (.cells c e)]++[a],df⟩,wr⟩ Q:=by
 refine adX hx hy (dL cU) hn hc ?_;have:ab.put (H++[some (.cells c e)]++[a]) H.length (some (.cells c' e))=H++[some (.cells c' e)]++[a]:=by
  simp[ab.put]
 rw[this];exact h
theorem aju (hx:(St.mk pe lo (H++[a]++[some (.cells c e)]) df).ae x=some (.ptr m 0))(hy:((St.mk pe lo (H++[a]++[some (.cells c e)]) df).ae y).bind AV.cells=some new)(hm:m=H.length+1)(hn:new.length=n/\0+n<=c.length/\new.all cG=true)(hc:overwrite c 0 new=c')
 (h:WO M l ⟨⟨pe,lo,H++[a]++[some (.cells c' e)],df⟩,m::wr⟩ Q):WO M (⟨.no,.store n x y,none⟩::l) ⟨⟨pe,lo,H++[a]++[some (.cells c e)],df⟩,wr⟩ Q:=by
 subst hm;have hl:H.length+1=(H++[a]).length:=by simp
 rw[hl]at hx h;refine adX hx hy cU hn hc ?_;have:ab.put (H++[a]++[some (.cells c e)]) (H++[a]).length (some (.cells c' e))=H++[a]++[some (.cells c' e)]:=JR;rw[this];exact h
theorem ajW {ag:Bool}{v:AV}(hx:(St.mk pe lo (H++[a]++[some (.cells c e)]) df).ae x=some (.ptr m 0))(hm:m=H.length+1)(hv:partOf (c.drop 0) 0 n ag=some v)
 (h:WO M l ⟨⟨pe,(t,v)::lo,H++[a]++[some (.cells c e)],df⟩,wr⟩ Q):WO M (⟨.l t,.load n ag x,none⟩::l) ⟨⟨pe,lo,H++[a]++[some (.cells c e)],df⟩,wr⟩ Q:=by
 subst hm;have hl:H.length+1=(H++[a]).length:=by simp
 rw[hl]at hx;exact aiD hx cU hv h
end
theorem Dz {x y:Int}:Int.gcd y (x%y)=Int.gcd x y:=by
 have h:=Int.gcd_add_mul_left_right y (x%y) (x/y);rw[Int.emod_add_mul_ediv]at h;rw[←h,Int.gcd_comm]
def sS (s s':Int)(w w':AV)(J:ab):ab:=[some (.cells [.iV s,w] 131),some (.cells [.iV s',w'] 131),some (.cells [.iV 0,.aa] 131)]++J
theorem XV (C:CQ M N){G:Nat}{Q:Ex->aq->Prop}(a0 a1:AV)
 (hQ:∀s s' w w' J p5 lo wr (x:Int),ay (.agg [.iV s,w]) x->x=G->Q (.exit 0) ⟨⟨[a0,a1,.ptr 0 0,.ptr 1 0,.ptr 2 0,p5],lo,sS s s' w w' J,[]⟩,wr⟩)
 (s s':Int) (w w':AV) (J:ab) (p5:AV) (lo:List (Nat×AV)) (wr:List Nat) (x y:Int) (hx:ay (.agg [.iV s,w]) x) (hy:ay (.agg [.iV s',w']) y) (x0:0<=x/\x<wB^N) (y0:0<=y/\y<wB^N) (hG:Int.gcd x y=G) :
 W M (.loop wY) ⟨⟨[a0,a1,.ptr 0 0,.ptr 1 0,.ptr 2 0,p5],lo,sS s s' w w' J,[]⟩,wr⟩ Q:=by
 refine W.fV (fun m st=>∃s s' w w' J p5 lo wr x y,st=⟨⟨[a0,a1,.ptr 0 0,.ptr 1 0,.ptr 2 0,p5],lo,sS s s' w w' J,[]⟩,wr⟩/\m=y.toNat/\ay (.agg [.iV s,w]) x/\ay (.agg [.iV s',w']) y/\(0<=x/\x<wB^N)/\(0<=y/\y<wB^N)/\Int.gcd x y=G)
  (fun m st ⟨s,s',w,w',J,p5,lo,wr,x,y,hst,hm,hx,hy,x0,y0,hG⟩=>?_) (m:=y.toNat) ⟨s,s',w,w',J,p5,lo,wr,x,y,rfl,rfl,hx,hy,x0,y0,hG⟩
 subst hst;subst hm;have q211:=C.oG _ y hy;by_cases h0:y=0
 . subst h0;have e:x=G:=by rw[←hG,Int.gcd_zero];omega
   rw[show bg 0=0 from rfl]at q211;unfold wY;exact gg4
 . rw[show bg y=1 by unfold bg;rw[if_neg (by omega),if_pos (by omega)]]at q211;obtain⟨q,r,hq,hr,q205⟩:=C.xc _ _ x y hx hy (by rw[ck x0.1];exact x0.2) (by rw[ck y0.1];exact y0.2) (by omega);obtain⟨o1,_⟩:=hx.one;obtain⟨o2,_⟩:=hy.one;obtain⟨s1,w1,rfl,o3,_⟩:=hq.shape;obtain⟨s2,w2,rfl,o4,_⟩:=hr.shape;have r0:=Int.emod_nonneg x (show y≠0 by omega);have r1:=Int.emod_lt_of_pos x (show 0<y by omega);have next:∀J p5 lo wr,LI (fun st=>∃m',m'<y.toNat/\∃s s' w w' J p5 lo wr x y,st=⟨⟨[a0,a1,.ptr 0 0,.ptr 1 0,.ptr 2 0,p5],lo,sS s s' w w' J,[]⟩,wr⟩/\m'=y.toNat/\ay (.agg [.iV s,w]) x/\ay (.agg [.iV s',w']) y/\(0<=x/\x<wB^N)/\(0<=y/\y<wB^N)/\Int.gcd x y=G) Q .normal ⟨⟨[a0,a1,.ptr 0 0,.ptr 1 0,.ptr 2 0,p5],lo,sS s' s2 w' w2 J,[]⟩,wr⟩:=fun J p5 lo wr=>
    cN ⟨(x%y).toNat,by omega,_,_,_,_,J,p5,lo,wr,y,x%y,rfl,rfl,hy,hr,y0,⟨r0,by omega⟩,by rw[Dz,hG]⟩
   unfold wY;exact gg17
structure CG (M:aw)(N:Nat):Prop extends CQ M N where
 DA:Op1 M N 210 aj
theorem XW {x y:Int}:Int.gcd (aj x) (aj y)=Int.gcd x y:=by
 have h:∀z:Int,(aj z).natAbs=z.natAbs:=fun z=>by unfold aj;split <;> omega
 show Nat.gcd _ _=Nat.gcd _ _;rw[h,h]
theorem XX (C:CG M N){a b:AV}{x y:Int}(ha:ay a x)(hb:ay b y)(lx:aj x<wB^N)(ly:aj y<wB^N):∃v0,ay v0 (Int.gcd x y:Nat)/\cD M 165 [a,b] v0:=by
 obtain⟨va,h1,q210a⟩:=C.DA a x ha lx;obtain⟨vb,h2,q210b⟩:=C.DA b y hb ly;obtain⟨sa,wa,rfl,o1,_⟩:=ha.shape;obtain⟨sb,wb,rfl,o2,_⟩:=hb.shape;obtain⟨s1,w1,rfl,o3,_⟩:=h1.shape;obtain⟨s2,w2,rfl,o4,_⟩:=h2.shape;obtain⟨v,hh,⟨v0,h0,ho⟩,hr⟩:=gH (M:=M) (f:=165) (ars:=[.agg [.iV sa,wa],.agg [.iV sb,wb]]) (P:=fun v hh=>∃v0,ay v0 (Int.gcd x y:Nat)/\ew v hh v0) (by rw[C.ft];exact Xm) (by simp) (by
  unfold Kl;simp only[enter];refine gg18 ?_;refine XV C.toCQ (G:=Int.gcd x y) _ _ (fun s s' w w' J p5 lo wr g hg eg=>?_) s1 s2 w1 w2 [] _ _ _ (aj x) (aj y) h1 h2 ⟨iD,lx⟩ ⟨iD,ly⟩ XW;obtain⟨o5,t5,k5⟩:=hg.one;repeat' first|(apply adX;rfl;rfl;rfl;exact⟨rfl,Nat.le_refl _,by simp[fO,o5]⟩;rfl)|refine gc ?_|fail
  rw[eg]at hg;exact⟨.inr rfl,rfl,_,rfl,_,hg,hg.out⟩)
 exact⟨v0,h0,v,hh,ho,hr⟩
def aZ (v:AV)(q:Rat):Prop:=ji v q.num q.den
structure CR (M:aw)(N:Nat):Prop extends CG M N where
 sV:∀a b x y,ay a x->ay b y->aj x<wB^N->aj y<wB^N->∃v0,ay v0 (Int.gcd x y:Nat)/\∀h,M.ext 165 [a,b] h=some ⟨v0,h,[]⟩
 DB:∀a b x y k,ay a x->ay b y->aj x<wB^N->aj y<wB^N->y≠0->x=y*k->∃v0,ay v0 k/\∀h,M.ext 252 [a,b] h=some ⟨v0,h,[]⟩
def t203:an:=
 .seq (zR [zf 13 1 3,
       zd 14 1 13,
       ⟨(.l 15),.eq false (.ref .slice) (.l 14) (.c (.aa)),none⟩,
       zn 16 15,
       zg (zf 17 0 3) 16 true,
       zg (zd 18 1 17) 16 true,
       zg (zc 19 .eql 18 1) 16 true,
       zp 20 16 19]
     (
      .cond (.l 20)
      (
       zR [zt 21 2 2,
         zt 22 2 3,
         ⟨(.l 23),.build [.iV (0),.aa,.iV (0),.aa] [(0,2,(.l 21)),(2,2,(.l 22))],none⟩,
         zs 4 4 23]
       (.ret))
      (.skip)))
    (
     zR [zt 24 2 2,
       zt 25 2 3,
       z2 26 165 24 25,
       ⟨(.p 5),.alloc 131 [.iV (0),.aa],none⟩,
       zs 2 5 26]
     (
      .seq (.draw [(zt 27 2 2,[]),
        (zt 28 2 5,[0]),
        (z2 29 252 27 28,[]),
        (zt 30 2 3,[0,1,2]),
        (zt 31 2 5,[0,1,2,3]),
        (z2 32 252 30 31,[]),
        (⟨(.l 33),.build [.iV (0),.aa,.iV (0),.aa] [(0,2,(.l 29)),(2,2,(.l 32))],none⟩,[]),
        (zs 4 4 33,[])])
      (.ret)))
theorem mT {n:Int}:(Rat.divInt n 1).num=n/\(Rat.divInt n 1).den=1:=by
 refine⟨?_,?_⟩
 . rw[Rat.num_divInt];simp
 . rw[Rat.den_divInt];simp
theorem xe {n d:Int}(h:0<d):∃k1 k2:Int,n=(Int.gcd n d:Nat)*k1/\d=(Int.gcd n d:Nat)*k2/\(Rat.divInt n d).num=k1/\((Rat.divInt n d).den:Int)=k2:=by
 have g0:(Int.gcd n d:Int)≠0:=by
  have:=Int.gcd_pos_of_ne_zero_right n (show d≠0 by omega);omega
 obtain⟨k1,h1⟩:=Int.gcd_dvd_left n d;obtain⟨k2,h2⟩:=Int.gcd_dvd_right n d;refine⟨k1,k2,h1,h2,?_,?_⟩
 . rw[Rat.num_divInt,Int.sign_eq_one_of_pos h,Int.one_mul,Int.gcd_comm d n];exact Int.ediv_eq_of_eq_mul_right g0 h1
 . rw[Rat.den_divInt,if_neg (by omega),Int.gcd_comm d n];have e:((d.natAbs/Int.gcd n d:Nat):Int)=d/(Int.gcd n d:Int):=by
    rw[Int.natCast_ediv,Int.natAbs_of_nonneg (by omega)]
   rw[e];exact Int.ediv_eq_of_eq_mul_right g0 h2
theorem XY {x y:Int}(h:0<y):aj (Int.gcd x y:Nat)<=aj y:=by
 have:=Int.le_of_dvd h (Int.gcd_dvd_right x y);rw[ck (by omega),ck (by omega)];exact this
theorem KE (C:CR M N){s s' n d:Int}{w w':AV}(hn:ay (.agg [.iV s,w]) n)(hd:ay (.agg [.iV s',w']) d)(ln:aj n<wB^N)(ld:aj d<wB^N)(d0:0<d) :
 ∃v0,aZ v0 (Rat.divInt n d)/\∀a0 a1 p5 lo wr,W M t203 ⟨⟨[a0,a1,.ptr 0 0,.ptr 1 0,.ptr 2 0,p5],lo,[some (.cells [.iV s,w] 131),some (.cells [.iV s',w'] 131),some (.cells [.iV 0,.aa,.iV 0,.aa] 133)],[]⟩,wr⟩ (lK v0 [.cell 4 true (.p 4)]):=by
 obtain⟨o1,_⟩:=hn.one;by_cases h1:d=1/\w' = .aa
 . obtain⟨rfl,rfl⟩:=h1;have hs:s'=1:=by cases hd;rfl
   subst hs;have hf:aZ (.agg [.iV s,w,.iV 1,.aa]) (Rat.divInt n 1):=by
    unfold aZ;rw[mT.1,mT.2];exact⟨_,_,_,_,rfl,hn,hd⟩
   refine⟨_,hf,fun a0 a1 p5 lo wr=>?_⟩;have out:=fun hh=>hf.out (hh:=hh)
   unfold t203;repeat' first|refine gd21 ?_|(apply acJ;rfl;rfl)|refine gc ?_|(intro _;omega)|intro _
   all_goals try omega
   all_goals exact cn rfl rfl (out _)
 . obtain⟨k1,k2,e1,e2,e3,e4⟩:=xe (n:=n) d0;obtain⟨vg,hg,q165⟩:=C.sV _ _ n d hn hd ln ld;have lg:aj (Int.gcd n d:Nat)<wB^N:=Int.lt_of_le_of_lt (XY d0) ld;have g0:(Int.gcd n d:Int)≠0:=by
    have:=Int.gcd_pos_of_ne_zero_right n (show d≠0 by omega);omega
   obtain⟨v1,hv1,q252a⟩:=C.DB _ vg n _ k1 hn hg ln lg g0 e1;obtain⟨v2,hv2,q252b⟩:=C.DB _ vg d _ k2 hd hg ld lg g0 e2;obtain⟨sg,wg,rfl,og,_⟩:=hg.shape;obtain⟨s1,w1,rfl,o3,_⟩:=hv1.shape;obtain⟨s2,w2,rfl,o4,_⟩:=hv2.shape;have hf:aZ (.agg [.iV s1,w1,.iV s2,w2]) (Rat.divInt n d):=by
    unfold aZ;rw[e3,e4];exact⟨_,_,_,_,rfl,hv1,hv2⟩
   refine⟨_,hf,fun a0 a1 p5 lo wr=>?_⟩;have out:=fun hh=>hf.out (hh:=hh)
   unfold t203;cases hd with
   | small h=>
    have h2:s'≠1:=fun e=>h1 ⟨e,rfl⟩
    exact gg4
   | @eO σ z ww hs ok nr hw hz=>
    cases ww with
    | nil=>simp[WV]at hw
    | cons y ww=>
    exact gg4
theorem XZ (C:CR M N){a b:AV}{n d:Int}(ha:ay a n)(hb:ay b d)(ln:aj n<wB^N)(ld:aj d<wB^N)(d0:d≠0):∃v0,aZ v0 (Rat.divInt n d)/\cD M 203 [a,b] v0:=by
 have q211:=C.oG b d hb;by_cases hn:d<0
 . rw[show bg d = -1 from if_pos hn]at q211;obtain⟨va,h1,q216a⟩:=C.lM a n ha ln;obtain⟨vb,h2,q216b⟩:=C.lM b d hb ld;have h1:ay va (-n):=h1;have h2:ay vb (-d):=h2;obtain⟨_,_,rfl,o1,_⟩:=ha.shape;obtain⟨_,_,rfl,o2,_⟩:=hb.shape;obtain⟨_,_,rfl,o3,_⟩:=h1.shape;obtain⟨_,_,rfl,o4,_⟩:=h2.shape;obtain⟨v0,hf,tl⟩:=KE C h1 h2 (by rw[jh];exact ln) (by rw[jh];exact ld) (by omega);rw[Rat.neg_divInt_neg]at hf;refine⟨v0,hf,cH (by rw[C.ft];exact Kv) (by simp) ?_⟩;unfold Dv;simp only[enter];repeat' first|(exact tl _ _ _ _ _)|refine gd0 ?_|refine gd1 ?_|(apply adX;rfl;rfl;rfl;exact⟨rfl,Nat.le_refl _,by simp[fO,o3,o4]⟩;rfl)|(apply abt;rfl;rfl)|refine gc ?_|(intro _;omega)|intro _
   all_goals try omega
 . obtain⟨g,hg⟩:∃g,g=bg d:=⟨_,rfl⟩;have g0:0<=g:=by rw[hg];unfold bg;split <;> (first|omega|(split <;> omega))
   rw[←hg]at q211;obtain⟨_,_,rfl,o1,_⟩:=ha.shape;obtain⟨_,_,rfl,o2,_⟩:=hb.shape;obtain⟨v0,hf,tl⟩:=KE C ha hb ln ld (by omega);refine⟨v0,hf,cH (by rw[C.ft];exact Kv) (by simp) ?_⟩;unfold Dv;simp only[enter];exact gg13
def Bq (N:Nat)(q:Rat):Prop:=aj q.num<wB^N/\(q.den:Int)<wB^N
structure CS (M:aw)(N N2:Nat):Prop extends CF M N where
 eO:CF M N2
 hN:2*N+1<=N2
 xf:∀a b n d,ay a n->ay b d->aj n<wB^N2->aj d<wB^N2->d≠0->∃v0,aZ v0 (Rat.divInt n d)/\∀h,M.ext 203 [a,b] h=some ⟨v0,h,[]⟩
theorem den_pos {q:Rat}:0<(q.den:Int):=by have:=q.den_pos;omega
theorem sW {x y:Int}:aj (x*y)=aj x*aj y:=by
 have h:∀z:Int,aj z=(z.natAbs:Int):=fun z=>by unfold aj;split <;> omega
 rw[h,h,h,Int.natAbs_mul,Int.natCast_mul]
variable {N2:Nat}
theorem CS.oI (C:CS M N N2){x y:Int}(hx:aj x<wB^N)(hy:aj y<wB^N):aj (x*y)<wB^N2:=by
 rw[sW];have h1:=Int.mul_le_mul_of_nonneg_left (Int.le_of_lt hy) (iD (x:=x));have hp:(0:Int)<wB^N:=Int.pow_pos (by decide);have h2:=Int.mul_lt_mul_of_pos_right hx hp;have h3:=fR (b:=wB) (by decide) (m:=N+N) (n:=N2) (by have:=C.hN;omega);rw[Int.pow_add]at h3;omega
theorem Ya (C:CS M N N2){a b:AV}{p q:Rat}(ha:aZ a p)(hb:aZ b q)(lp:Bq N p)(lq:Bq N q):∃v0,aZ v0 (p*q)/\cD M 152 [a,b] v0:=by
 obtain⟨s1,w1,s2,w2,rfl,h1,h2⟩:=ha;obtain⟨s3,w3,s4,w4,rfl,h3,h4⟩:=hb;have dp:=den_pos (q:=p);have dq:=den_pos (q:=q);obtain⟨v1,k1,q198a⟩:=C.jW _ _ _ _ h1 h3 lp.1 lq.1;obtain⟨v2,k2,q198b⟩:=C.jW _ _ _ _ h2 h4 (by rw[ck (by omega)];exact lp.2) (by rw[ck (by omega)];exact lq.2);obtain⟨v0,k0,q203⟩:=C.xf v1 v2 _ _ k1 k2 (C.oI lp.1 lq.1) (C.oI (by rw[ck (by omega)];exact lp.2) (by rw[ck (by omega)];exact lq.2)) (Int.ne_of_gt (Int.mul_pos dp dq));have k0:aZ v0 (p*q):=by
  have e:=Rat.divInt_mul_divInt p.num q.num (d₁:=p.den) (d₂:=q.den);rw[Rat.num_divInt_den,Rat.num_divInt_den]at e;rw[e];exact k0
 refine⟨v0,k0,cH (by rw[C.ft];exact XQ) (by simp) ?_⟩;have out:=fun hh=>k0.out (hh:=hh)
 obtain⟨s5,w5,s6,w6,rfl,h5,h6⟩:=k0;obtain⟨o5,_⟩:=h5.one;obtain⟨o6,_⟩:=h6.one;unfold KB;simp only[enter];repeat' first|refine gd1 ?_|refine gd7 ?_|refine gc ?_|fail
 all_goals exact cn rfl rfl (out _)
theorem Yb (hft:M.FT=FT){v:AV}{q:Rat}(hv:aZ v q):cD M 201 [v] (.bool (decide (q.den=1))):=by
 obtain⟨s1,w1,s2,w2,rfl,h1,h2⟩:=hv;generalize hd:(q.den:Int)=d at h2;refine cH (by rw[hft];exact XO) (by simp) ?_;unfold Ky;simp only[enter];cases h2 with
 | small h=>
  by_cases h1:q.den=1
  . rw[decide_eq_true h1];exact gg6
  . rw[decide_eq_false h1];exact gg6
 | @eO σ z w hs ok nr hw hz=>
  have hz:=hz;have h1:q.den≠1:=by
   have:=den_pos (q:=q);rcases hs with rfl|rfl <;> omega
  rw[decide_eq_false h1];cases w with
  | nil=>simp[WV]at hw
  | cons y w=>
  repeat' first|refine gc ?_|fail
  all_goals try omega
  all_goals exact cn rfl rfl (.same rfl rfl)
structure DC (M:aw)(N N2:Nat):Prop extends CS M N N2 where
 mU:∀v q,aZ v q->∀h,M.ext 201 [v] h=some ⟨.bool (decide (q.den=1)),h,[]⟩
theorem aZ.one {v:AV}{n:Int}(h:ji v n 1):aZ v (Rat.divInt n 1):=by
 unfold aZ;rw[mT.1,mT.2];exact h
theorem qG (p q:Rat):p+q=Rat.divInt (p.num*q.den+q.num*p.den) (p.den*q.den):=by
 have dp:=den_pos (q:=p);have dq:=den_pos (q:=q);have e:=Rat.divInt_add_divInt p.num q.num (d₁:=p.den) (d₂:=q.den) (by omega) (by omega);rwa [Rat.num_divInt_den,Rat.num_divInt_den]at e
theorem CS.Yc (C:CS M N N2){x y x' y':Int}(hx:aj x<wB^N)(hy:aj y<wB^N)(hx':aj x'<wB^N)(hy':aj y'<wB^N):aj (x*y+x'*y')<wB^N2:=by
 have hp:(0:Int)<wB^N:=Int.pow_pos (by decide);have key:∀{x y:Int},aj x<wB^N->aj y<wB^N->aj (x*y)<wB^(N+N):=fun {x y} hx hy=>by
  rw[sW,Int.pow_add];have h1:=Int.mul_le_mul_of_nonneg_left (Int.le_of_lt hy) (iD (x:=x));have h2:=Int.mul_lt_mul_of_pos_right hx hp;omega
 have k1:=key hx hy;have k2:=key hx' hy';have k3:aj (x*y+x'*y')<=aj (x*y)+aj (x'*y'):=by unfold aj;split <;> split <;> split <;> omega
 have h3:=fR (b:=wB) (by decide) (m:=N+N+1) (n:=N2) (by have:=C.hN;omega);have hq:(0:Int)<wB^(N+N):=Int.pow_pos (by decide);have e:wB^(N+N+1)=wB^(N+N)*18446744073709551616:=Int.pow_succ _ _;omega
theorem Yd (C:DC M N N2){a b:AV}{p q:Rat}(ha:aZ a p)(hb:aZ b q)(lp:Bq N p)(lq:Bq N q):∃v0,aZ v0 (p+q)/\cD M 151 [a,b] v0:=by
 have q201a:=C.mU a p ha;have q201b:=C.mU b q hb;obtain⟨s1,w1,s2,w2,rfl,h1,h2⟩:=ha;obtain⟨s3,w3,s4,w4,rfl,h3,h4⟩:=hb;have dp:=den_pos (q:=p);have dq:=den_pos (q:=q);have hdp:aj (p.den:Int)<wB^N:=by rw[ck (by omega)];exact lp.2
 have hdq:aj (q.den:Int)<wB^N:=by rw[ck (by omega)];exact lq.2
 by_cases hw:p.den=1/\q.den=1
 . obtain⟨v1,k1,q202⟩:=C.qE _ _ _ _ h1 h3 lp.1 lq.1;obtain⟨v0,k0,q159⟩:=C.Dx _ _ k1;have k0:aZ v0 (p+q):=by
    have:=aZ.one k0;rw[qG,hw.1,hw.2];simpa using this
   refine⟨v0,k0,cH (by rw[C.ft];exact Kz) (by simp) ?_⟩;have out:=fun hh=>k0.out (hh:=hh)
   obtain⟨s5,w5,s6,w6,rfl,h5,h6⟩:=k0;obtain⟨o5,_⟩:=h5.one;obtain⟨o6,_⟩:=h6.one;rw[decide_eq_true hw.1]at q201a;rw[decide_eq_true hw.2]at q201b;unfold Dw;simp only[enter];repeat' first|refine gd0 ?_|refine gd7 ?_|refine gc ?_|fail
   all_goals exact cn rfl rfl (out _)
 . obtain⟨v1,k1,q198a⟩:=C.jW _ _ _ _ h1 h4 lp.1 hdq;obtain⟨v2,k2,q198b⟩:=C.jW _ _ _ _ h3 h2 lq.1 hdp;obtain⟨v3,k3,q202⟩:=C.eO.qE v1 v2 _ _ k1 k2 (C.oI lp.1 hdq) (C.oI lq.1 hdp);obtain⟨v4,k4,q198c⟩:=C.jW _ _ _ _ h2 h4 hdp hdq;obtain⟨v0,k0,q203⟩:=C.xf v3 v4 _ _ k3 k4 (C.Yc lp.1 hdq lq.1 hdp) (C.oI hdp hdq) (Int.ne_of_gt (Int.mul_pos dp dq));have k0:aZ v0 (p+q):=by rw[qG];exact k0
   refine⟨v0,k0,cH (by rw[C.ft];exact Kz) (by simp) ?_⟩;have out:=fun hh=>k0.out (hh:=hh)
   obtain⟨s5,w5,s6,w6,rfl,h5,h6⟩:=k0;obtain⟨o5,_⟩:=h5.one;obtain⟨o6,_⟩:=h6.one;unfold Dw;simp only[enter];by_cases hp1:p.den=1
   . have hq1:q.den≠1:=fun e=>hw ⟨hp1,e⟩
     rw[decide_eq_true hp1]at q201a;rw[decide_eq_false hq1]at q201b;repeat' first|refine gd0 ?_|refine gd1 ?_|refine gd7 ?_|refine gc ?_|fail
     all_goals exact cn rfl rfl (out _)
   . rw[decide_eq_false hp1]at q201a;repeat' first|refine gd0 ?_|refine gd1 ?_|refine gd7 ?_|refine gc ?_|fail
     all_goals exact cn rfl rfl (out _)
theorem Ye (C:CJ M N){v:AV}{q:Rat}(hv:aZ v q)(lq:Bq N q):∃v0,aZ v0 (-q)/\cD M 199 [v] v0:=by
 obtain⟨v0,h0,hr⟩:=XU C hv lq.1;exact⟨v0,h0,hr⟩
structure CU (M:aw)(N N2:Nat):Prop extends DC M N N2 where
 KF:∀v q,aZ v q->Bq N q->∃v0,aZ v0 (-q)/\∀h,M.ext 199 [v] h=some ⟨v0,h,[]⟩
 KG:∀v q,aZ v q->Bq N q->q≠0->∃v0,aZ v0 q⁻¹/\∀h,M.ext 200 [v] h=some ⟨v0,h,[]⟩
 sX:∀a b p q,aZ a p->aZ b q->Bq N p->Bq N q->∃v0,aZ v0 (p+q)/\∀h,M.ext 151 [a,b] h=some ⟨v0,h,[]⟩
 sY:∀a b p q,aZ a p->aZ b q->Bq N p->Bq N q->∃v0,aZ v0 (p*q)/\∀h,M.ext 152 [a,b] h=some ⟨v0,h,[]⟩
theorem Bq.neg {q:Rat}(h:Bq N q):Bq N (-q):=⟨by rw[Rat.neg_num,jh];exact h.1,h.2⟩
theorem Yf (C:CS M N N2){v:AV}{q:Rat}(hv:aZ v q)(lq:Bq N q)(h0:q≠0):∃v0,aZ v0 q⁻¹/\cD M 200 [v] v0:=by
 obtain⟨s1,w1,s2,w2,rfl,h1,h2⟩:=hv;have dq:=den_pos (q:=q);have hN:=C.hN;have hle:=fR (b:=wB) (by decide) (m:=N) (n:=N2) (by omega);obtain⟨v0,k0,q203⟩:=C.xf _ _ _ _ h2 h1 (by rw[ck (by omega)];exact Int.lt_of_lt_of_le lq.2 hle) (Int.lt_of_lt_of_le lq.1 hle) (fun e=>h0 (Rat.num_eq_zero.1 e));rw[←Rat.inv_def]at k0;refine⟨v0,k0,cH (by rw[C.ft];exact XM) (by simp) ?_⟩;have out:=fun hh=>k0.out (hh:=hh)
 obtain⟨s5,w5,s6,w6,rfl,h5,h6⟩:=k0;obtain⟨o5,_⟩:=h5.one;obtain⟨o6,_⟩:=h6.one;unfold Kx;simp only[enter];repeat' first|refine gd0 ?_|refine gd7 ?_|refine gc ?_|fail
 all_goals exact cn rfl rfl (out _)
theorem Yg (C:CU M N N2){a b:AV}{p q:Rat}(ha:aZ a p)(hb:aZ b q)(lp:Bq N p)(lq:Bq N q):∃v0,aZ v0 (p-q)/\cD M 149 [a,b] v0:=by
 obtain⟨v1,k1,q199⟩:=C.KF b q hb lq;obtain⟨v0,k0,q151⟩:=C.sX a v1 p _ ha k1 lp lq.neg;rw[←Rat.sub_eq_add_neg]at k0;refine⟨v0,k0,cH (by rw[C.ft];exact XP) (by simp) ?_⟩;have out:=fun hh=>k0.out (hh:=hh)
 obtain⟨s1,w1,s2,w2,rfl,h1,h2⟩:=ha;obtain⟨s3,w3,s4,w4,rfl,h3,h4⟩:=hb;obtain⟨s5,w5,s6,w6,rfl,h5,h6⟩:=k0;obtain⟨o5,_⟩:=h5.one;obtain⟨o6,_⟩:=h6.one;unfold KA;simp only[enter];repeat' first|refine gd1 ?_|refine gd7 ?_|refine gc ?_|fail
 all_goals exact cn rfl rfl (out _)
theorem Yh (C:CU M N N2){a b:AV}{p q:Rat}(ha:aZ a p)(hb:aZ b q)(lp:Bq N p)(lq:Bq N q)(li:Bq N q⁻¹)(h0:q≠0):∃v0,aZ v0 (p*q⁻¹)/\cD M 150 [a,b] v0:=by
 obtain⟨v1,k1,q200⟩:=C.KG b q hb lq h0;obtain⟨v0,k0,q152⟩:=C.sY a v1 p _ ha k1 lp li;refine⟨v0,k0,cH (by rw[C.ft];exact XR) (by simp) ?_⟩;have out:=fun hh=>k0.out (hh:=hh)
 obtain⟨s1,w1,s2,w2,rfl,h1,h2⟩:=ha;obtain⟨s3,w3,s4,w4,rfl,h3,h4⟩:=hb;obtain⟨s5,w5,s6,w6,rfl,h5,h6⟩:=k0;obtain⟨o5,_⟩:=h5.one;obtain⟨o6,_⟩:=h6.one;unfold KC;simp only[enter];repeat' first|refine gd1 ?_|refine gd7 ?_|refine gc ?_|fail
 all_goals exact cn rfl rfl (out _)
theorem Yi (C:CS M N N2){a b:AV}{p q:Rat}(ha:aZ a p)(hb:aZ b q)(lp:Bq N p)(lq:Bq N q):cD M 148 [a,b] (.iV (bg (p.num*q.den-q.num*p.den))):=by
 obtain⟨s1,w1,s2,w2,rfl,h1,h2⟩:=ha;obtain⟨s3,w3,s4,w4,rfl,h3,h4⟩:=hb;have dp:=den_pos (q:=p);have dq:=den_pos (q:=q);have hdp:aj (p.den:Int)<wB^N:=by rw[ck (by omega)];exact lp.2
 have hdq:aj (q.den:Int)<wB^N:=by rw[ck (by omega)];exact lq.2
 obtain⟨v1,k1,q198a⟩:=C.jW _ _ _ _ h1 h4 lp.1 hdq;obtain⟨v2,k2,q198b⟩:=C.jW _ _ _ _ h3 h2 lq.1 hdp;have q167:=C.eO.Dy v1 v2 _ _ k1 k2 (C.oI lp.1 hdq) (C.oI lq.1 hdp);refine cH (by rw[C.ft];exact XS) (by simp) ?_;unfold KD;simp only[enter];exact gg0
theorem Yj {l:List Int}(ok:okW wB l)(nr:aM l)(h0:l≠[]):bY (WV wB l)=64*(l.length-1)+bY l[l.length-1]! := by
 have hl:0<l.length:=List.length_pos_iff.2 h0;obtain⟨n,hn⟩:∃n,l.length=n+1:=⟨l.length-1,by omega⟩;have t0:=lI nr hl;rw[hn,show n+1-1=n by omega]at t0 ⊢;have gt:=bT ok (i:=n) (by omega);have gt:0<=l[n]! /\ l[n]! < 18446744073709551616:=gt;obtain⟨s1,s2,s3⟩:=qt (x:=l[n]!) (by omega);obtain⟨t,ht⟩:∃t,t=l[n]! := ⟨_,rfl⟩;have e0:=jg (b:=wB) (l:=l) (n:=n) (by omega);rw[←ht]at t0 gt s1 s2 s3 e0 ⊢;obtain⟨k,hk⟩:∃k,bY t=k+1:=⟨bY t-1,by omega⟩;rw[hk]at s2 s3 ⊢;rw[show k+1-1=k by omega]at s2;have l0:=cg (b:=wB) (by decide) (di ok n);have l1:=cR (b:=wB) (by decide) (di ok n);rw[List.length_take,Nat.min_eq_left (by omega)]at l1;have hP:0<wB^n:=Int.pow_pos (by decide);have eP:wB^n=2^(64*n):=by rw[Int.pow_mul];rfl
 have m1:=Int.mul_le_mul_of_nonneg_left s2 (Int.le_of_lt hP);have m2:=Int.mul_le_mul_of_nonneg_left (show t+1<=2^(k+1) by omega) (Int.le_of_lt hP);rw[Int.mul_add,Int.mul_one]at m2;refine JP (n:=64*n+k) ⟨?_,?_⟩
 . rw[Int.pow_add,←eP,e0];omega
 . rw[show 64*n+k+1=64*n+(k+1) by omega,Int.pow_add,←eP,e0];omega
theorem Yk (C:CI M N)(sH:∀(x:Int) h,(0<=x/\x<18446744073709551616)->M.ext 240 [.uV x] h=some ⟨.iV (bY x),h,[]⟩){v:AV}{z:Int}(hv:ay v z)(lz:aj z<wB^N):cD M 262 [v] (.iV (bY (aj z))):=by
 obtain⟨x,l,hx,ok,nr,hl,q246⟩:=C.kG v z hv;have len:=C.len ok nr hl lz;obtain⟨s,w,rfl,o,_⟩:=hv.shape;refine cH (by rw[C.ft];exact XH) (by simp) ?_;rw[←hl];unfold Ks;simp only[enter];rcases hx with rfl|⟨rfl,rfl⟩
 . by_cases h0:l.length=0
   . have e:bY (WV wB l)=0:=by rw[List.eq_nil_of_length_eq_zero h0];rfl
     rw[e];exact gg4
   . have hne:l≠[]:=fun e=>h0 (by rw[e];rfl)
     have gt:=bT ok (i:=((l.length:Int)-1).toNat) (by omega);have q240:=fun h=>sH l[((l.length:Int)-1).toNat]! h gt
     have e:=Yj ok nr hne;have hb:=oF (x:=l[((l.length:Int)-1).toNat]!) (n:=64) (by have:=gt.2;exact this) gt.1;rw[show l.length-1=((l.length:Int)-1).toNat by omega]at e;obtain⟨t,ht⟩:∃t,t=bY l[((l.length:Int)-1).toNat]! := ⟨_,rfl⟩;rw[←ht]at q240 e hb;have e2:(64*((l.length:Int)-1)+(t:Int))=((bY (WV wB l):Nat):Int):=by rw[e];omega
     rw[←e2];repeat' first|apply ads|apply dw|apply adt|apply adP|apply afP|apply afX|(apply agf;rfl)|(apply acJ;rfl;rfl)|(apply aip;rfl;rfl;omega)|(apply ahc;rfl;rfl;omega)|(apply ajj;rfl;rfl;omega)|(apply aal;rfl;rfl;first|exact q246 _|exact q240 _)|(apply aiq;rfl;rfl;omega)|(apply aiB;rfl;exact fun _=>rfl;(first|omega|(simp only[List.length_set];omega)|(simp;omega));decide;rfl;case ia=>infer_instance)|(apply ade;rfl;rfl;rfl)|(apply agt;rfl;rfl;rfl)|(apply aak;rfl;rfl)|(apply adU;rfl;rfl)|(intro _;omega)|intro _
     all_goals try omega
     all_goals exact cn rfl rfl (.same rfl rfl)
 . have e:bY (WV wB [])=0:=rfl;rw[e];exact gg4
section
variable {t:Nat} {x y:aN} {l:List aT} {pe:List AV} {lo:List (Nat×AV)} {hp:ab} {df wr:List Nat} {a:Int} {k:IntKind} {Q:aq->Prop}
theorem aiR (hx:(St.mk pe lo hp df).ae x=some (.iV a))
 (h:WO M l ⟨⟨pe,(t,.iV (a/2))::lo,hp,df⟩,wr⟩ Q):WO M (⟨.l t,.bin .shr x (.c (.int k 1)),none⟩::l) ⟨⟨pe,lo,hp,df⟩,wr⟩ Q:=by
 refine WO.op (WP.pure (v:=.iV (a/2)) rfl ?_ h);have:a.fdiv (2^min (Int.toNat 1) IntKind.i64.bits)=a/2:=by
  show a.fdiv 2=a/2;rw[Int.fdiv_eq_ediv_of_nonneg _ (by omega)]
 have e:(St.mk pe lo hp df).ae (.c (.int k 1))=some (.int k 1):=rfl;simp only[aV,hx,e,cK,this];rfl
theorem aiQ (hx:(St.mk pe lo hp df).ae x=some (.iV a))(hy:(St.mk pe lo hp df).ae y=some (.iV 1))(ha:0<=a/\a<9223372036854775808)
 (h:WO M l ⟨⟨pe,(t,.iV (a%2))::lo,hp,df⟩,wr⟩ Q):WO M (⟨.l t,.bin .and x y,none⟩::l) ⟨⟨pe,lo,hp,df⟩,wr⟩ Q:=by
 refine aak (v:=.iV (a%2)) ?_ rfl h;obtain⟨n,rfl⟩:=Int.eq_ofNat_of_zero_le ha.1;have e:(BitVec.ofInt 64 (n:Int) &&& BitVec.ofInt 64 1).toNat=n%2:=by
  rw[ql,show (1:Int)=((1:Nat):Int) from rfl,ql,BitVec.toNat_and,BitVec.toNat_ofNat,BitVec.toNat_ofNat,Nat.mod_eq_of_lt (show n<2^64 by omega),Nat.mod_eq_of_lt (show 1<2^64 by decide)];exact Nat.and_two_pow_sub_one_eq_mod n 1
 simp only[aV,hx,hy,cK,if_true];show some (AV.iV (IntKind.i64.wrap ((BitVec.ofInt 64 (n:Int) &&& BitVec.ofInt 64 1).toNat:Int)))=_;rw[e,nY (by omega)];rfl
end
def sZ (s so:Int)(w wo:AV):ab:=[some (.cells [.iV s,w] 131),some (.cells [.iV 0,.aa] 131),some (.cells [.iV so,wo] 131)]
theorem Yl (C:CF M N){A:Int}{K:Nat}(hK:K<1000000)(hB:∀i,i<=K->aj (A^i)<wB^N){Q:Ex->aq->Prop}(a0:AV)
 (hQ:∀s so w wo p1 lo wr,ay (.agg [.iV so,wo]) (A^K)->Q (.exit 0) ⟨⟨[a0,p1,.ptr 0 0,.ptr 1 0,.ptr 2 0],lo,sZ s so w wo,[]⟩,wr⟩)
 (s so:Int) (w wo:AV) (lo:List (Nat×AV)) (wr:List Nat) (hs:ay (.agg [.iV s,w]) A) (ho:ay (.agg [.iV so,wo]) 1) :
 W M (.loop qF) ⟨⟨[a0,.iV K,.ptr 0 0,.ptr 1 0,.ptr 2 0],lo,sZ s so w wo,[]⟩,wr⟩ Q:=by
 refine W.fV (fun m st=>∃s so w wo kv lo wr i j,st=⟨⟨[a0,.iV kv,.ptr 0 0,.ptr 1 0,.ptr 2 0],lo,sZ s so w wo,[]⟩,wr⟩/\kv=(m:Int)/\ay (.agg [.iV s,w]) (A^i)/\ay (.agg [.iV so,wo]) (A^j)/\j+i*m=K/\m<=K)
  (fun m st ⟨s,so,w,wo,kv,lo,wr,i,j,hst,hkv,hs,ho,hj,hmK⟩=>?_) (m:=K) ⟨s,so,w,wo,_,lo,wr,1,0,rfl,rfl,by rw[Int.pow_one];exact hs,by rw[Int.pow_zero];exact ho,by omega,Nat.le_refl _⟩
 subst hst;subst hkv;by_cases h0:m=0
 . subst h0;have ej:j=K:=by omega
   subst ej;unfold qF;exact gg3
 . obtain⟨q,b,hqb,hb⟩:∃q b:Nat,m=2*q+b/\b<2:=⟨m/2,m%2,by omega,by omega⟩;have him:i*m=2*(i*q)+i*b:=by rw[hqb,Nat.mul_add,←Nat.mul_assoc,Nat.mul_comm i 2,Nat.mul_assoc]
   have hdiv:(m:Int)/2=(q:Int):=by omega
   have hmod:(m:Int)%2=(b:Int):=by omega
   have hi:i<=K:=by
    have:i*1<=i*m:=Nat.mul_le_mul_left i (by omega);omega
   have hjK:j<=K:=by omega
   obtain⟨o1,_⟩:=hs.one;obtain⟨o2,_⟩:=ho.one;have fin:∀s so w wo lo wr i' j',ay (.agg [.iV s,w]) (A^i')->ay (.agg [.iV so,wo]) (A^j')->j'+i'*q=K->LI (fun st=>∃m',m'<m/\∃s so w wo kv lo wr i j,st=⟨⟨[a0,.iV kv,.ptr 0 0,.ptr 1 0,.ptr 2 0],lo,sZ s so w wo,[]⟩,wr⟩/\kv=(m':Int)/\ay (.agg [.iV s,w]) (A^i)/\ay (.agg [.iV so,wo]) (A^j)/\j+i*m'=K/\m'<=K) Q .normal ⟨⟨[a0,.iV ((m:Int)/2),.ptr 0 0,.ptr 1 0,.ptr 2 0],lo,sZ s so w wo,[]⟩,wr⟩:=fun s so w wo lo wr i' j' h1 h2 h3=>
    cN ⟨q,by omega,s,so,w,wo,_,lo,wr,i',j',rfl,hdiv,h1,h2,h3,by omega⟩
   have sq:q≠0->∃v,ay v (A^(i+i))/\∀h,M.ext 198 [.agg [.iV s,w],.agg [.iV s,w]] h=some ⟨v,h,[]⟩:=fun hq=>by
    obtain⟨v,h1,h2⟩:=C.jW _ _ _ _ hs hs (hB i hi) (hB i hi);exact⟨v,by rw[Int.pow_add];exact h1,h2⟩
   by_cases hodd:b=1
   . subst hodd;obtain⟨v1,h1,q1⟩:=C.jW _ _ _ _ ho hs (hB j hjK) (hB i hi);have h1:ay v1 (A^(j+i)):=by rw[Int.pow_add];exact h1
     obtain⟨s1,w1,rfl,o3,_⟩:=h1.shape;by_cases hq:q=0
     . subst hq;unfold qF;repeat' first|(apply aiQ;rfl;rfl;omega)|(apply aiR;rfl)|(apply adX;rfl;rfl;rfl;exact⟨rfl,Nat.le_refl _,by simp[fO,o3]⟩;rfl)|(apply acs;rfl;rfl)|(apply acJ;rfl;rfl)|refine gd0 ?_|refine gc ?_|(intro _;omega)|intro _
       all_goals try omega
       all_goals exact fin s s1 w w1 _ _ i (j+i) hs h1 (by omega)
     . obtain⟨v2,h2,q2⟩:=sq hq;obtain⟨s2,w2,rfl,o4,_⟩:=h2.shape;unfold qF;repeat' first|(apply aiQ;rfl;rfl;omega)|(apply aiR;rfl)|(apply adX;rfl;rfl;rfl;exact⟨rfl,Nat.le_refl _,by simp[fO,o3,o4]⟩;rfl)|(apply acs;rfl;rfl)|(apply acJ;rfl;rfl)|refine gd0 ?_|refine gc ?_|(intro _;omega)|intro _
       all_goals try omega
       all_goals exact fin s2 s1 w2 w1 _ _ (i+i) (j+i) h2 h1 (by rw[Nat.add_mul];omega)
   . obtain⟨v2,h2,q2⟩:=sq (by omega);obtain⟨s2,w2,rfl,o4,_⟩:=h2.shape;have hb0:b=0:=by omega
     subst hb0;unfold qF;exact gg1
theorem Ym (C:CF M N){v:AV}{A:Int}{K:Nat}(hv:ay v A)(hK:K<1000000)(hB:∀i,i<=K->aj (A^i)<wB^N):∃v0,ay v0 (A^K)/\cD M 215 [v,.iV K] v0:=by
 have q168:=C.oH 1;obtain⟨s,w,rfl,o1,_⟩:=hv.shape;obtain⟨v',hh,⟨v0,h0,ho⟩,hr⟩:=gH (M:=M) (f:=215) (ars:=[.agg [.iV s,w],.iV K]) (P:=fun v hh=>∃v0,ay v0 (A^K)/\ew v hh v0) (by rw[C.ft];exact XI) (by simp) (by
  unfold Kt;simp only[enter];repeat' first|refine gd0 ?_|refine gc ?_|fail
  refine Yl C hK hB _ (fun s so w wo p1 lo wr hg=>?_) s 1 w .aa _ _ hv (.small (by decide));obtain⟨o5,_⟩:=hg.one;repeat' first|(apply adX;rfl;rfl;rfl;exact⟨rfl,Nat.le_refl _,by simp[fO,o5]⟩;rfl)|refine gc ?_|fail
  exact⟨.inr rfl,rfl,_,rfl,_,hg,hg.out⟩)
 exact⟨v0,h0,v',hh,ho,hr⟩
variable {P:Program} {T:List (Nat×Spec)} {g:Nat}
theorem cD.runK {ars:List AV}{v0:AV}(h:cD (aY P FT T) g ars v0)(ht:bh ars=0):Cj P FT T g ars v0:=by
 obtain⟨v,hh,⟨v1,h1,h2,h3⟩,hr⟩:=h;exact⟨v,hh,v1,hr,h1,ht,h2,h3⟩
theorem cD.eq {ars:List AV}{v0:AV}{hp:ab}(h:cD (aY P FT T) g ars v0)(ht:bh ars=0):qj P FT T g ars hp=some ⟨v0,hp,[]⟩:=sr (h.runK ht)
theorem qs.eq {ars as0:List AV}{z:Int}(h:qs (aY P FT T) g as0 z):∃r,okW wB r/\aM r/\WV wB r=z/\∀hp,fW hp ars as0->sn P FT T g ars hp=some ⟨.vs (ak r) r.length none,hp,[]⟩:=by
 obtain⟨r,⟨h1,h2,h3⟩,v,hh,⟨v1,f,t,c⟩,hr⟩:=h;exact⟨r,h1,h2,h3,fun hp hf=>lG hf ⟨v,hh,v1,hr,f,t,c⟩⟩
theorem sM.eq {ars:List AV}{x y:Int}(h:sM (aY P FT T) g ars x y)(ht:bh ars=0):∃qv q rv r,cV qv q/\cV rv r/\okW wB q/\aM q/\okW wB r/\aM r/\WV wB q=x/y/\WV wB r=x%y/\∀hp,qj P FT T g ars hp=some ⟨.au [qv,rv],hp,[]⟩:=by
 obtain⟨q,r,⟨h1,h2,h3⟩,⟨h4,h5,h6⟩,v,hh,⟨v1,qv,rv,f,t,c,k1,k2⟩,hr⟩:=h;exact⟨qv,q,rv,r,k1,k2,h1,h2,h4,h5,h3,h6,fun hp=>sr ⟨v,hh,v1,hr,f,ht,t,c⟩⟩
theorem cV.top {x:AV}{l:List Int}(h:cV x l):x.top=0:=by
 rcases h with rfl|⟨rfl,rfl⟩
 . exact fU l
 . rfl
theorem ay.top {v:AV}{z:Int}(h:ay v z):v.top=0:=by
 obtain⟨s,w,rfl,_,t,_⟩:=h.shape;simp[AV.top,bh,t]
theorem aZ.top {v:AV}{q:Rat}(h:aZ v q):v.top=0:=by
 obtain⟨s,w,s',w',rfl,h1,h2⟩:=h;have t1:=h1.one.2.1;have t2:=h2.one.2.1;simp[AV.top,bh,t1,t2]
open Go.Proofs
noncomputable abbrev sK (T:List (Nat×Spec))(g:Nat):Spec:=qj Tryz.prog FT T g
noncomputable abbrev sL (T:List (Nat×Spec))(g:Nat):Spec:=sn Tryz.prog FT T g
theorem bc {g:Nat}(hT:cf Tryz.prog gl (bk T)):aR Tryz.prog gl g (sK T g):=UR qm hT
theorem iL {g:Nat}(hT:cf Tryz.prog gl (bk T)):aR Tryz.prog gl g (sL T g):=UP qm hT
theorem gw {v:AV}(h:v.top=0):bh [v]=0:=by simp[bh,h]
theorem eA {v w:AV}(h:v.top=0)(k:w.top=0):bh [v,w]=0:=by simp[bh,h,k]
theorem cY {ars:List AV}{v0:AV}{g:Nat}(h:cD (aY Tryz.prog FT T) g ars v0)(ht:bh ars=0):∀hp,sK T g ars hp=some ⟨v0,hp,[]⟩:=fun _=>h.eq ht
def KH:List (Nat×Spec):=[(275,mH .pR),(277,mH .pS)]
theorem Yn:cf Tryz.prog gl (bk KH):=aL (vW Jj) (aL (vW Jk) bx)
structure DD (T:List (Nat×Spec)):Prop where
 Yo:∀ar h,bk T 275 ar h=mH .pR ar h
 Yp:∀ar h,bk T 277 ar h=mH .pS ar h
 wP:∀ar h,bk T 276 ar h=none
theorem DD.c (E:DD T):mO (aY Tryz.prog FT T) where
 ft:=bm
 wP:=E.wP
 mP x y c h hx hy h0 h1:=by
  refine(E.Yo _ _).trans ?_;show Option.map _ (if _ then _ else _)=_;rw[if_pos ⟨hx,hy,h0,h1⟩];rfl
 wQ x y c h hx hx1 hy hy1 h0 h1:=by
  refine(E.Yp _ _).trans ?_;show Option.map _ (if _ then _ else _)=_;rw[if_pos ⟨hx,hy,h0,h1⟩];have e1:(((x.toNat+18446744073709551616-y.toNat-c.toNat)%18446744073709551616:Nat):Int)=(x-y-c)%18446744073709551616:=by omega
  have e2:((if x.toNat<y.toNat+c.toNat then 1 else 0:Nat):Int)=if x<y+c then 1 else 0:=by
   by_cases hc:x<y+c
   . rw[if_pos hc,if_pos (by omega)];rfl
   . rw[if_neg hc,if_neg (by omega)];rfl
  show some (HR.mk (.au [.uV _,.uV _]) h [])=_;rw[e1,e2]
noncomputable def mV:Spec:=sK [] 244
theorem DE:aR Tryz.prog gl 244 mV:=bc bx
theorem DG:∀(x y:Int) h,(0<=x/\x<18446744073709551616)->(0<=y/\y<18446744073709551616)->mV [.uV x,.uV y] h=some ⟨.au [.uV (x*y/18446744073709551616),.uV (x*y%18446744073709551616)],h,[]⟩:=fun x y h hx hy=>bL (Wj bm x y hx hy) rfl rfl rfl h
noncomputable def qH:List (Nat×Spec):=(244,mV)::KH
theorem xg:cf Tryz.prog gl (bk qH):=aL DE Yn
structure xh (T:List (Nat×Spec)):Prop extends DD T where
 DH:∀ar h,bk T 244 ar h=mV ar h
theorem xh.c (E:xh T):mQ (aY Tryz.prog FT T):={ E.toDD.c with oE:=fun x y h hx hy=>(E.DH _ _).trans (DG x y h hx hy) }
theorem DI:xh qH:=by repeat' first|exact fun _ _=>rfl|constructor
noncomputable def tc:Spec:=sK [] 240
theorem DJ:aR Tryz.prog gl 240 tc:=bc bx
theorem DK:∀(x:Int) h,(0<=x/\x<18446744073709551616)->tc [.uV x] h=some ⟨.iV (bY x),h,[]⟩:=fun x h hx=>bL (Wx bm x hx) rfl rfl rfl h
noncomputable def KI:List (Nat×Spec):=[(240,tc)]
noncomputable def td:Spec:=sK KI 279
theorem KJ:aR Tryz.prog gl 279 td:=bc (aL DJ bx)
theorem KK:∀(y:Int) h,(0<=y/\y<18446744073709551616)->td [.uV y] h=some ⟨.iV (64-bY y:Nat),h,[]⟩:=fun x h hx=>bL (Wy (M:=aY Tryz.prog FT KI) bm x hx fun h=>DK x h hx) rfl rfl rfl h
noncomputable def KL:List (Nat×Spec):=[(279,td)]
noncomputable def xi:Spec:=sK KL 278
theorem Yq:aR Tryz.prog gl 278 xi:=bc (aL KJ bx)
theorem Yr:∀(hi lo y:Int) h,(0<y/\y<18446744073709551616)->(0<=hi/\hi<y)->(0<=lo/\lo<18446744073709551616)->xi [.uV hi,.uV lo,.uV y] h=some ⟨.au [.uV ((hi*18446744073709551616+lo)/y),.uV ((hi*18446744073709551616+lo)%y)],h,[]⟩:=fun hi lo y h hy hh hl=>
 bL (WE (M:=aY Tryz.prog FT KL) bm hi lo y hy hh hl fun h=>KK y h ⟨by omega,hy.2⟩) rfl rfl rfl h
noncomputable def xj:Spec:=sL qH 249
noncomputable def xk:Spec:=sL qH 251
noncomputable def xl:Spec:=sL qH 248
noncomputable def oJ:Spec:=sL [] 250
theorem Ys:aR Tryz.prog gl 249 xj:=iL xg
theorem Yt:aR Tryz.prog gl 251 xk:=iL xg
theorem Yu:aR Tryz.prog gl 248 xl:=iL xg
theorem KM:aR Tryz.prog gl 250 oJ:=iL bx
theorem Yv:∀x l y m,cV x l->cV y m->okW wB l->okW wB m->l.length<=500000->m.length<=500000->∃r,okW wB r/\aM r/\WV wB r=WV wB l+WV wB m/\∀h,xj [x,y] h=some ⟨.vs (ak r) r.length none,h,[]⟩:=fun x l y m hx hy o1 o2 l1 l2=>by
 obtain⟨r,h1,h2,h3,h4⟩:=(Wo (c1:=none) (c2:=none) DI.c.tomO l m o1 o2 (by omega) (by omega)).eq;exact⟨r,h1,h2,h3,fun h=>h4 h (.cons hx.gu (.cons hy.gu .nil))⟩
theorem Yw:∀x l y m,cV x l->cV y m->okW wB l->okW wB m->aM l->aM m->l.length<=500000->m.length<=500000->WV wB m<=WV wB l->∃r,okW wB r/\aM r/\WV wB r=WV wB l-WV wB m/\∀h,xk [x,y] h=some ⟨.vs (ak r) r.length none,h,[]⟩:=fun x l y m hx hy o1 o2 n1 n2 l1 l2 hle=>by
 have hlen:m.length<=l.length:=by
  rcases Nat.lt_or_ge l.length m.length with h|h
  . have:=oC (b:=wB) (by decide) o1 o2 n2 h;omega
  . exact h
 obtain⟨r,h1,h2,h3,h4⟩:=(Wq (c1:=none) (c2:=none) DI.c.tomO l m o1 o2 (by omega) hlen hle).eq;exact⟨r,h1,h2,h3,fun h=>h4 h (.cons hx.gu (.cons hy.gu .nil))⟩
theorem Yx:∀x l y m,cV x l->cV y m->okW wB l->okW wB m->l.length<=500000->m.length<=500000->∃r,okW wB r/\aM r/\WV wB r=WV wB l*WV wB m/\∀h,xl [x,y] h=some ⟨.vs (ak r) r.length none,h,[]⟩:=fun x l y m hx hy o1 o2 l1 l2=>by
 obtain⟨r,h1,h2,h3,h4⟩:=(Ws (c1:=none) (c2:=none) DI.c l m o1 o2 (by omega) (by omega)).eq;exact⟨r,h1,h2,h3,fun h=>h4 h (.cons hx.gu (.cons hy.gu .nil))⟩
theorem DL {x y:AV}{l m:List Int}{c1 c2:Option Nat}{h:ab}(hx:cO h x (.vs (ak l) l.length c1))(hy:cO h y (.vs (ak m) m.length c2))(o1:okW wB l)(o2:okW wB m)(n1:aM l)(n2:aM m)(l1:l.length<1000000000)(l2:m.length<1000000000):oJ [x,y] h=some ⟨.iV (bg (WV wB l-WV wB m)),h,[]⟩:=
 ot (Wn bm l m o1 o2 n1 n2 l1 l2) rfl rfl rfl (.cons hx (.cons hy .nil))
theorem KN:∀x l y m,cV x l->cV y m->okW wB l->okW wB m->aM l->aM m->l.length<=500000->m.length<=500000->∀h,oJ [x,y] h=some ⟨.iV (bg (WV wB l-WV wB m)),h,[]⟩:=fun x l y m hx hy o1 o2 n1 n2 l1 l2 h=>
 DL hx.gu hy.gu o1 o2 n1 n2 (by omega) (by omega)
noncomputable def qI:List (Nat×Spec):=(278,xi)::(250,oJ)::(279,td)::qH
theorem DM:cf Tryz.prog gl (bk qI):=aL Yq (aL KM (aL KJ xg))
structure DN (T:List (Nat×Spec)):Prop extends xh T where
 Yy:∀ar h,bk T 278 ar h=xi ar h
 DO:∀ar h,bk T 250 ar h=oJ ar h
 Yz:∀ar h,bk T 279 ar h=td ar h
 sJ:∀ar h,bk T 280 ar h=none
 wW:∀ar h,bk T 281 ar h=none
theorem DN.c (E:DN T):Dk (aY Tryz.prog FT T):={ E.toxh.c with
 Di:=fun hi lo y h h1 h2 h3=>(E.Yy _ _).trans (Yr hi lo y h h1 h2 h3)
 qx:=fun a b _c1 _c2 h o1 o2 n1 n2 l1 l2=>(E.DO _ _).trans (DL (.mM (sN a)) (.mM (sN b)) o1 o2 n1 n2 l1 l2)
 wU:=fun y h hy=>(E.Yz _ _).trans (KK y h hy)
 sJ:=E.sJ
 wW:=E.wW }
theorem KO:DN qI:=by repeat' first|exact fun _ _=>rfl|constructor
noncomputable def xn:Spec:=sK qI 253
theorem YA:aR Tryz.prog gl 253 xn:=bc DM
theorem YB:∀x l y m,cV x l->cV y m->okW wB l->okW wB m->aM l->aM m->l.length<=500000->m.length<=500000->m≠[]->∃qv q rv r,cV qv q/\cV rv r/\okW wB q/\aM q/\okW wB r/\aM r/\WV wB q=WV wB l/WV wB m/\WV wB r=WV wB l%WV wB m/\∀h,xn [x,y] h=some ⟨.au [qv,rv],h,[]⟩:=fun x l y m hx hy o1 o2 n1 n2 l1 l2 hm=>by
 have hy':y = .vs (ak m) m.length none:=by
  rcases hy with h|⟨_,h⟩
  . exact h
  . exact absurd h hm
 subst hy';rcases hx with rfl|⟨rfl,rfl⟩
 . exact(Xa KO.c l m o1 o2 n1 n2 (by omega) (by omega) hm).eq (eA (fU l) (fU m))
 . have hv:=(jd (b:=wB) (by decide) o2 n2).2 hm;have q250:∀h,(aY Tryz.prog FT qI).ext 250 [.aa,.vs (ak m) m.length none] h=some ⟨.iV (-1),h,[]⟩:=fun h=>by
    have:=KN .aa [] _ m (.inr ⟨rfl,rfl⟩) (.inl rfl) o1 o2 n1 n2 l1 l2 h;rw[show bg (WV wB []-WV wB m) = -1 from if_pos (by simp[WV];omega)]at this;exact this
   exact(Xb bm m o2 n2 hm q250).eq (eA rfl (fU m))
def YC (ar:List AV):Prop:=∃l c y,ar=[.vs (ak l) l.length c,y]/\WV wB l<1000000000000000000
noncomputable def qJ:Spec:=ss YC (Ck Tryz.prog FT qI 253) (sL qI 253)
theorem YD:aR Tryz.prog gl 253 qJ:=UX (UU qm DM) (iL DM)
theorem KP {h:ab}{b:Nat}{a:AV}{e:TypeId}{cp:Option Nat}(ha:qf a=true)(hb:h.at b=some (.cells [a] e)):cO h (.sl b 0 1 1 cp) (.vs [a] 1 none):=
 .sl (m:=[a]) hb rfl rfl fun i x y hx hy=>by
  match i,hx,hy with
  | 0,hx,hy=>cases hx;cases hy;exact .atom ha
def eW:List Int:=[1000000000000000000]
theorem oK:okW wB eW/\aM eW/\WV wB eW=1000000000000000000:=⟨by intro x hx;rw[List.mem_singleton.1 hx];decide,(sE (l:=eW) (by simp[eW])).2 (by simp[eW]),by decide⟩
theorem YE:∀(l:List Int) (b:Nat) c h,okW wB l->aM l->l.length<=500000->WV wB l<1000000000000000000->h.at b=some (.cells (ak [1000000000000000000]) 246)->qJ [.vs (ak l) l.length none,.sl b 0 1 1 c] h=some ⟨.au [.aa,.vs (ak l) l.length none],h,[]⟩:=fun l b c h ok nr hl hv hb=>by
 unfold qJ;rw[UY ⟨l,none,_,rfl,hv⟩];refine UW (Xc bm l _ h ?_);have:=DL (x:=.vs (ak l) l.length none) (y:=.sl b 0 1 1 c) (l:=l) (m:=eW) (c1:=none) (c2:=none) (h:=h) (.mM (sN l)) (KP rfl hb) ok oK.1 nr oK.2.1 (by omega) (by decide);rw[oK.2.2,show bg (WV wB l-1000000000000000000) = -1 from if_pos (by omega)]at this;exact this
theorem YF:∀(l:List Int) (b:Nat) c h,okW wB l->aM l->l.length<=500000->¬WV wB l<1000000000000000000->h.at b=some (.cells (ak [1000000000000000000]) 246)->∃q r,okW wB q/\aM q/\okW wB r/\aM r/\WV wB q=WV wB l/1000000000000000000/\WV wB r=WV wB l%1000000000000000000/\qJ [.vs (ak l) l.length none,.sl b 0 1 1 c] h=some ⟨.au [.vs (ak q) q.length none,.vs (ak r) r.length none],h,[]⟩:=fun l b c h ok nr hl hv hb=>by
 obtain⟨q,r,⟨h1,h2,h3⟩,⟨h4,h5,h6⟩,v,hh,⟨v1,f,t,k⟩,hr⟩:=Xe (c1:=none) (c2:=none) KO.c l eW ok oK.1 nr oK.2.1 (by omega) rfl (by rw[oK.2.2];exact hv);rw[oK.2.2]at h3 h6;refine⟨q,r,h1,h2,h4,h5,h3,h6,?_⟩;unfold qJ;rw[UZ]
 . exact lG (.cons (.mM (sN l)) (.cons (KP rfl hb) .nil)) ⟨v,hh,v1,hr,f,t,k⟩
 . rintro⟨l',c',y,e,hlt⟩;simp only[List.cons.injEq,AV.vs.injEq]at e;have:=IT (f:=uC) (esz:=1) (fun _=>rfl) (fun a b hab=>by simpa[uC] using hab) e.1.2.1 e.1.1;subst this;exact hv hlt
noncomputable def tf:Spec:=sK [] 245
theorem KQ:aR Tryz.prog gl 245 tf:=bc bx
theorem KR:∀s h,(-9223372036854775808<=s/\s<9223372036854775808)->tf [.iV s] h=some ⟨.uV (aj s),h,[]⟩:=fun s h hs=>bL (Xf bm s hs) rfl rfl rfl h
noncomputable def KS:List (Nat×Spec):=[(245,tf)]
noncomputable def xp:Spec:=sK KS 246
theorem YG:aR Tryz.prog gl 246 xp:=bc (aL KQ bx)
theorem YH:∀v z,ay v z->∃x l,cV x l/\okW wB l/\aM l/\WV wB l=aj z/\∀h,xp [v] h=some ⟨.au [.bool (decide (z<0)),x],h,[]⟩:=fun v z hv=>by
 obtain⟨x,l,h1,h2,h3,h4,h5⟩:=Xg (M:=aY Tryz.prog FT KS) bm (fun s h hs=>KR s h hs) hv;exact⟨x,l,h1,h2,h3,h4,cY h5 (gw hv.top)⟩
noncomputable def xq:Spec:=sK [] 247
theorem YI:aR Tryz.prog gl 247 xq:=bc bx
theorem YJ:∀neg x l,cV x l->okW wB l->aM l->l.length<=1000001->∃v0,ay v0 (fS neg (WV wB l))/\∀h,xq [.bool neg,x] h=some ⟨v0,h,[]⟩:=fun neg x l hx ok nr hl=>by
 obtain⟨v0,h1,h2⟩:=Xh (M:=aY Tryz.prog FT []) bm neg hx ok nr (by omega);exact⟨v0,h1,cY h2 (eA rfl hx.top)⟩
noncomputable def TI:List (Nat×Spec):=[(245,tf),(244,mV),(246,xp),(247,xq),(249,xj),(251,xk),(248,xl),(250,oJ)]
theorem qK:cf Tryz.prog gl (bk TI):=aL KQ (aL DE (aL YG (aL YI (aL Ys (aL Yt (aL Yu (aL KM bx)))))))
structure EI (T:List (Nat×Spec)):Prop where
 YK:∀ar h,bk T 245 ar h=tf ar h
 DH:∀ar h,bk T 244 ar h=mV ar h
 YL:∀ar h,bk T 246 ar h=xp ar h
 YM:∀ar h,bk T 247 ar h=xq ar h
 YN:∀ar h,bk T 249 ar h=xj ar h
 YO:∀ar h,bk T 251 ar h=xk ar h
 YP:∀ar h,bk T 248 ar h=xl ar h
 DO:∀ar h,bk T 250 ar h=oJ ar h
theorem EI.c (E:EI T){N:Nat}(hN:N<=500000):CI (aY Tryz.prog FT T) N where
 ft:=bm
 lN:=hN
 sO:=by simp only[E.YK];exact KR
 oE:=by simp only[E.DH];exact DG
 kG:=by simp only[E.YL];exact YH
 jV:=by simp only[E.YM];exact YJ
 Km:=by simp only[E.YN];exact Yv
 Dr:=by simp only[E.YO];exact Yw
 Kn:=by simp only[E.YP];exact Yx
 qx:=by simp only[E.DO];exact KN
theorem eI:EI TI:=by repeat' first|exact fun _ _=>rfl|constructor
noncomputable def xr:Spec:=sK TI 216
noncomputable def xu:Spec:=sK TI 202
noncomputable def xw:Spec:=sK TI 198
noncomputable def xy:Spec:=sK [] 211
noncomputable def xz:Spec:=sK [] 168
theorem YQ:aR Tryz.prog gl 216 xr:=bc qK
theorem YR:aR Tryz.prog gl 202 xu:=bc qK
theorem YS:aR Tryz.prog gl 198 xw:=bc qK
theorem YT:aR Tryz.prog gl 211 xy:=bc bx
theorem YU:aR Tryz.prog gl 168 xz:=bc bx
def P1 (sp:Spec)(N:Nat)(f:Int->Int):Prop:=∀v z,ay v z->aj z<wB^N->∃v0,ay v0 (f z)/\∀h,sp [v] h=some ⟨v0,h,[]⟩
def P2 (sp:Spec)(N:Nat)(f:Int->Int->Int):Prop:=∀a b x y,ay a x->ay b y->aj x<wB^N->aj y<wB^N->∃v0,ay v0 (f x y)/\∀h,sp [a,b] h=some ⟨v0,h,[]⟩
theorem P1.op {sp:Spec}{N g:Nat}{f:Int->Int}(p:P1 sp N f)(e:∀ar h,bk T g ar h=sp ar h):Op1 (aY Tryz.prog FT T) N g f:=fun v z hv hz=>by
 obtain⟨v0,h1,h2⟩:=p v z hv hz;exact⟨v0,h1,fun h=>(e _ _).trans (h2 h)⟩
theorem P2.op {sp:Spec}{N g:Nat}{f:Int->Int->Int}(p:P2 sp N f)(e:∀ar h,bk T g ar h=sp ar h):wZ (aY Tryz.prog FT T) N g f:=fun a b x y ha hb hx hy=>by
 obtain⟨v0,h1,h2⟩:=p a b x y ha hb hx hy;exact⟨v0,h1,fun h=>(e _ _).trans (h2 h)⟩
theorem YV {N:Nat}(hN:N<=500000):P1 xr N (fun z=>-z):=fun v z hv hz=>by
 obtain⟨v0,h1,h2⟩:=Xn (eI.c hN) hv hz;exact⟨v0,h1,cY h2 (gw hv.top)⟩
theorem YW {N:Nat}(hN:N<=500000):P2 xu N (· + ·):=fun a b x y ha hb hx hy=>by
 obtain⟨v0,h1,h2⟩:=Xt (eI.c hN) ha hb hx hy;exact⟨v0,h1,cY h2 (eA ha.top hb.top)⟩
theorem YX {N:Nat}(hN:N<=500000):P2 xw N (· * ·):=fun a b x y ha hb hx hy=>by
 obtain⟨v0,h1,h2⟩:=XA (eI.c hN) ha hb hx hy;exact⟨v0,h1,cY h2 (eA ha.top hb.top)⟩
theorem YY:∀v z,ay v z->∀h,xy [v] h=some ⟨.iV (bg z),h,[]⟩:=fun v z hv h=>bL (Xo bm hv) (gw hv.top) rfl rfl h
theorem YZ:∀s h,xz [.iV s] h=some ⟨.agg [.iV s,.aa],h,[]⟩:=fun s h=>(Xx bm s).eq rfl
noncomputable def xB:List (Nat×Spec):=(216,xr)::(202,xu)::TI
theorem KT:cf Tryz.prog gl (bk xB):=aL YQ (aL YR qK)
structure xC (T:List (Nat×Spec)):Prop extends EI T where
 Za:∀ar h,bk T 216 ar h=xr ar h
 Zb:∀ar h,bk T 202 ar h=xu ar h
theorem xC.c (E:xC T){N:Nat}(hN:N<=500000):Ds (aY Tryz.prog FT T) N:={ E.toEI.c hN with lM:=(YV hN).op E.Za,qE:=(YW hN).op E.Zb }
theorem Zc:xC xB:=by repeat' first|exact fun _ _=>rfl|constructor
noncomputable def xD:Spec:=sK xB 217
theorem Zd:aR Tryz.prog gl 217 xD:=bc KT
theorem Ze {N:Nat}(hN:N<=500000):P2 xD N (· - ·):=fun a b x y ha hb hx hy=>by
 obtain⟨v0,h1,h2⟩:=Xu (Zc.c hN) ha hb hx hy;exact⟨v0,h1,cY h2 (eA ha.top hb.top)⟩
noncomputable def TJ:List (Nat×Spec):=(217,xD)::(211,xy)::xB
theorem xE:cf Tryz.prog gl (bk TJ):=aL Zd (aL YT KT)
structure EJ (T:List (Nat×Spec)):Prop extends xC T where
 Zf:∀ar h,bk T 217 ar h=xD ar h
 Zg:∀ar h,bk T 211 ar h=xy ar h
theorem EJ.c (E:EJ T){N:Nat}(hN:N<=500000):CJ (aY Tryz.prog FT T) N:={ E.toxC.c hN with Dt:=(Ze hN).op E.Zf,oG:=fun v z hv h=>(E.Zg _ _).trans (YY v z hv h) }
theorem eJ:EJ TJ:=by repeat' first|exact fun _ _=>rfl|constructor
noncomputable def xF:Spec:=sK TJ 210
noncomputable def xG:Spec:=sK TJ 167
noncomputable def xH:Spec:=sK TJ 199
theorem Zh:aR Tryz.prog gl 210 xF:=bc xE
theorem Zi:aR Tryz.prog gl 167 xG:=bc xE
theorem Zj:aR Tryz.prog gl 199 xH:=bc xE
theorem Zk {N:Nat}(hN:N<=500000):P1 xF N aj:=fun v z hv hz=>by
 obtain⟨v0,h1,h2⟩:=Xv (eJ.c hN) hv hz;exact⟨v0,h1,cY h2 (gw hv.top)⟩
theorem Zl {N:Nat}(hN:N<=500000):∀a b x y,ay a x->ay b y->aj x<wB^N->aj y<wB^N->∀h,xG [a,b] h=some ⟨.iV (bg (x-y)),h,[]⟩:=fun a b x y ha hb hx hy=>
 cY (Xw (eJ.c hN) ha hb hx hy) (eA ha.top hb.top)
theorem Zm {N:Nat}(hN:N<=500000):∀v q,aZ v q->Bq N q->∃v0,aZ v0 (-q)/\∀h,xH [v] h=some ⟨v0,h,[]⟩:=fun v q hv lq=>by
 obtain⟨v0,h1,h2⟩:=Ye (eJ.c hN) hv lq;exact⟨v0,h1,cY h2 (gw hv.top)⟩
noncomputable def TD:List (Nat×Spec):=(168,xz)::(253,xn)::TJ
theorem DP:cf Tryz.prog gl (bk TD):=aL YU (aL YA xE)
structure ED (T:List (Nat×Spec)):Prop extends EJ T where
 Zn:∀ar h,bk T 168 ar h=xz ar h
 Zo:∀ar h,bk T 253 ar h=xn ar h
theorem ED.c (E:ED T){N:Nat}(h1:1<=N)(hN:N<=500000):CD (aY Tryz.prog FT T) N:={ E.toEJ.c hN with
 n1:=h1
 oH:=fun s h=>(E.Zn _ _).trans (YZ s h)
 Kr:=by simp only[E.Zo];exact YB }
theorem eD:ED TD:=by repeat' first|exact fun _ _=>rfl|constructor
noncomputable def xI:Spec:=sK TD 205
noncomputable def xJ:Spec:=sK TD 159
theorem Zp:aR Tryz.prog gl 205 xI:=bc DP
theorem Zq:aR Tryz.prog gl 159 xJ:=bc DP
theorem Zr {N:Nat}(h1:1<=N)(hN:N<=500000):∀a b x y,ay a x->ay b y->aj x<wB^N->aj y<wB^N->0<y->∃q r,ay q (x/y)/\ay r (x%y)/\∀h,xI [a,b] h=some ⟨.au [q,r],h,[]⟩:=fun a b x y ha hb hx hy h0=>by
 obtain⟨q,r,k1,k2,k3⟩:=XF (eD.c h1 hN) ha hb hx hy h0;exact⟨q,r,k1,k2,cY k3 (eA ha.top hb.top)⟩
theorem ji.top {v:AV}{n d:Int}(h:ji v n d):v.top=0:=by
 obtain⟨s,w,s',w',rfl,h1,h2⟩:=h;have t1:=h1.one.2.1;have t2:=h2.one.2.1;simp[AV.top,bh,t1,t2]
theorem Zs:∀v z,ay v z->∃v0,ji v0 z 1/\∀h,xJ [v] h=some ⟨v0,h,[]⟩:=fun v z hv=>by
 obtain⟨v0,h1,h2⟩:=XT (eD.c (N:=1) (by decide) (by decide)) hv;exact⟨v0,h1,cY h2 (gw hv.top)⟩
noncomputable def TQ:List (Nat×Spec):=(205,xI)::TD
theorem DQ:cf Tryz.prog gl (bk TQ):=aL Zp DP
structure EQ (T:List (Nat×Spec)):Prop extends ED T where
 Zt:∀ar h,bk T 205 ar h=xI ar h
theorem EQ.c (E:EQ T){N:Nat}(h1:1<=N)(hN:N<=500000):CQ (aY Tryz.prog FT T) N:={ E.toED.c h1 hN with xc:=by simp only[E.Zt];exact Zr h1 hN }
theorem eQ:EQ TQ:=by repeat' first|exact fun _ _=>rfl|constructor
noncomputable def xK:Spec:=sK TQ 252
theorem Zu:aR Tryz.prog gl 252 xK:=bc DQ
theorem Zv {N:Nat}(h1:1<=N)(hN:N<=500000):∀a b x y k,ay a x->ay b y->aj x<wB^N->aj y<wB^N->y≠0->x=y*k->∃v0,ay v0 k/\∀h,xK [a,b] h=some ⟨v0,h,[]⟩:=fun a b x y k ha hb hx hy h0 hk=>by
 obtain⟨v0,k1,k2⟩:=XG (eQ.c h1 hN) ha hb hx hy h0 hk;exact⟨v0,k1,cY k2 (eA ha.top hb.top)⟩
noncomputable def TF:List (Nat×Spec):=(159,xJ)::(167,xG)::(198,xw)::TQ
theorem DR:cf Tryz.prog gl (bk TF):=aL Zq (aL Zi (aL YS DQ))
structure EF (T:List (Nat×Spec)):Prop extends EQ T where
 Zw:∀ar h,bk T 159 ar h=xJ ar h
 Zx:∀ar h,bk T 167 ar h=xG ar h
 Zy:∀ar h,bk T 198 ar h=xw ar h
theorem EF.c (E:EF T){N:Nat}(h1:1<=N)(hN:N<=500000):CF (aY Tryz.prog FT T) N:={ E.toEQ.c h1 hN with
 Dx:=by simp only[E.Zw];exact Zs
 Dy:=by simp only[E.Zx];exact Zl hN
 jW:=(YX hN).op E.Zy }
theorem eF:EF TF:=by repeat' first|exact fun _ _=>rfl|constructor
noncomputable def TG:List (Nat×Spec):=(210,xF)::TQ
theorem KU:cf Tryz.prog gl (bk TG):=aL Zh DQ
structure EG (T:List (Nat×Spec)):Prop extends EQ T where
 Zz:∀ar h,bk T 210 ar h=xF ar h
theorem EG.c (E:EG T){N:Nat}(h1:1<=N)(hN:N<=500000):CG (aY Tryz.prog FT T) N:={ E.toEQ.c h1 hN with DA:=(Zk hN).op E.Zz }
theorem eG:EG TG:=by repeat' first|exact fun _ _=>rfl|constructor
noncomputable def tg:Spec:=sK TG 165
theorem KV:aR Tryz.prog gl 165 tg:=bc KU
theorem KW {N:Nat}(h1:1<=N)(hN:N<=500000):∀a b x y,ay a x->ay b y->aj x<wB^N->aj y<wB^N->∃v0,ay v0 (Int.gcd x y:Nat)/\∀h,tg [a,b] h=some ⟨v0,h,[]⟩:=fun a b x y ha hb hx hy=>by
 obtain⟨v0,k1,k2⟩:=XX (eG.c h1 hN) ha hb hx hy;exact⟨v0,k1,cY k2 (eA ha.top hb.top)⟩
noncomputable def TR:List (Nat×Spec):=(165,tg)::(252,xK)::TG
theorem ZA:cf Tryz.prog gl (bk TR):=aL KV (aL Zu KU)
structure ER (T:List (Nat×Spec)):Prop extends EG T where
 ZB:∀ar h,bk T 165 ar h=tg ar h
 ZC:∀ar h,bk T 252 ar h=xK ar h
theorem ER.c (E:ER T){N:Nat}(h1:1<=N)(hN:N<=500000):CR (aY Tryz.prog FT T) N:={ E.toEG.c h1 hN with
 sV:=by simp only[E.ZB];exact KW h1 hN
 DB:=by simp only[E.ZC];exact Zv h1 hN }
theorem eR:ER TR:=by repeat' first|exact fun _ _=>rfl|constructor
noncomputable def xL:Spec:=sK TR 203
theorem ZD:aR Tryz.prog gl 203 xL:=bc ZA
theorem ZE {N:Nat}(h1:1<=N)(hN:N<=500000):∀a b n d,ay a n->ay b d->aj n<wB^N->aj d<wB^N->d≠0->∃v0,aZ v0 (Rat.divInt n d)/\∀h,xL [a,b] h=some ⟨v0,h,[]⟩:=fun a b n d ha hb hn hd h0=>by
 obtain⟨v0,k1,k2⟩:=XZ (eR.c h1 hN) ha hb hn hd h0;exact⟨v0,k1,cY k2 (eA ha.top hb.top)⟩
noncomputable def TS:List (Nat×Spec):=(203,xL)::TF
theorem xM:cf Tryz.prog gl (bk TS):=aL ZD DR
structure ES (T:List (Nat×Spec)):Prop extends EF T where
 ZF:∀ar h,bk T 203 ar h=xL ar h
theorem ES.c (E:ES T){N:Nat}(h1:1<=N)(hN:N<=200000):CS (aY Tryz.prog FT T) N (2*N+1):={ E.toEF.c h1 (show N<=500000 by omega) with
  eO:=E.toEF.c (by omega) (by omega)
  hN:=Nat.le_refl _
  xf:=by simp only[E.ZF];exact ZE (by omega) (by omega) }
theorem eS:ES TS:=by repeat' first|exact fun _ _=>rfl|constructor
noncomputable def th:Spec:=sK TS 152
noncomputable def xN:Spec:=sK TS 148
noncomputable def xO:Spec:=sK TS 200
noncomputable def ti:Spec:=sK [] 201
theorem KX:aR Tryz.prog gl 152 th:=bc xM
theorem KY:aR Tryz.prog gl 148 xN:=bc xM
theorem ZG:aR Tryz.prog gl 200 xO:=bc xM
theorem KZ:aR Tryz.prog gl 201 ti:=bc bx
theorem La {N:Nat}(h1:1<=N)(hN:N<=200000):∀a b p q,aZ a p->aZ b q->Bq N p->Bq N q->∃v0,aZ v0 (p*q)/\∀h,th [a,b] h=some ⟨v0,h,[]⟩:=fun a b p q ha hb lp lq=>by
 obtain⟨v0,k1,k2⟩:=Ya (eS.c h1 hN) ha hb lp lq;exact⟨v0,k1,cY k2 (eA ha.top hb.top)⟩
theorem Lb {N:Nat}(h1:1<=N)(hN:N<=200000):∀a b p q,aZ a p->aZ b q->Bq N p->Bq N q->∀h,xN [a,b] h=some ⟨.iV (bg (p.num*q.den-q.num*p.den)),h,[]⟩:=fun a b p q ha hb lp lq=>
 cY (Yi (eS.c h1 hN) ha hb lp lq) (eA ha.top hb.top)
theorem ZH {N:Nat}(h1:1<=N)(hN:N<=200000):∀v q,aZ v q->Bq N q->q≠0->∃v0,aZ v0 q⁻¹/\∀h,xO [v] h=some ⟨v0,h,[]⟩:=fun v q hv lq h0=>by
 obtain⟨v0,k1,k2⟩:=Yf (eS.c h1 hN) hv lq h0;exact⟨v0,k1,cY k2 (gw hv.top)⟩
theorem Lc:∀v q,aZ v q->∀h,ti [v] h=some ⟨.bool (decide (q.den=1)),h,[]⟩:=fun v q hv=>cY (Yb bm hv) (gw hv.top)
noncomputable def xP:List (Nat×Spec):=(201,ti)::TS
theorem Ld:cf Tryz.prog gl (bk xP):=aL KZ xM
structure xQ (T:List (Nat×Spec)):Prop extends ES T where
 ZI:∀ar h,bk T 201 ar h=ti ar h
theorem xQ.c (E:xQ T){N:Nat}(h1:1<=N)(hN:N<=200000):DC (aY Tryz.prog FT T) N (2*N+1):={ E.toES.c h1 hN with mU:=by simp only[E.ZI];exact Lc }
theorem ZJ:xQ xP:=by repeat' first|exact fun _ _=>rfl|constructor
noncomputable def tj:Spec:=sK xP 151
theorem Le:aR Tryz.prog gl 151 tj:=bc Ld
theorem Lf {N:Nat}(h1:1<=N)(hN:N<=200000):∀a b p q,aZ a p->aZ b q->Bq N p->Bq N q->∃v0,aZ v0 (p+q)/\∀h,tj [a,b] h=some ⟨v0,h,[]⟩:=fun a b p q ha hb lp lq=>by
 obtain⟨v0,k1,k2⟩:=Yd (ZJ.c h1 hN) ha hb lp lq;exact⟨v0,k1,cY k2 (eA ha.top hb.top)⟩
noncomputable def TU:List (Nat×Spec):=(199,xH)::(200,xO)::(151,tj)::(152,th)::xP
theorem Lg:cf Tryz.prog gl (bk TU):=aL Zj (aL ZG (aL Le (aL KX Ld)))
structure EU (T:List (Nat×Spec)):Prop extends xQ T where
 ZK:∀ar h,bk T 199 ar h=xH ar h
 ZL:∀ar h,bk T 200 ar h=xO ar h
 ZM:∀ar h,bk T 151 ar h=tj ar h
 ZN:∀ar h,bk T 152 ar h=th ar h
theorem EU.c (E:EU T){N:Nat}(h1:1<=N)(hN:N<=200000):CU (aY Tryz.prog FT T) N (2*N+1):={ E.toxQ.c h1 hN with
 KF:=by simp only[E.ZK];exact Zm (by omega)
 KG:=by simp only[E.ZL];exact ZH h1 hN
 sX:=by simp only[E.ZM];exact Lf h1 hN
 sY:=by simp only[E.ZN];exact La h1 hN }
theorem eU:EU TU:=by repeat' first|exact fun _ _=>rfl|constructor
noncomputable def DS:Spec:=sK TU 149
noncomputable def DT:Spec:=sK TU 150
theorem ZO:aR Tryz.prog gl 149 DS:=bc Lg
theorem ZP:aR Tryz.prog gl 150 DT:=bc Lg
theorem ZQ {N:Nat}(h1:1<=N)(hN:N<=200000):∀a b p q,aZ a p->aZ b q->Bq N p->Bq N q->∃v0,aZ v0 (p-q)/\∀h,DS [a,b] h=some ⟨v0,h,[]⟩:=fun a b p q ha hb lp lq=>by
 obtain⟨v0,k1,k2⟩:=Yg (eU.c h1 hN) ha hb lp lq;exact⟨v0,k1,cY k2 (eA ha.top hb.top)⟩
theorem ZR {N:Nat}(h1:1<=N)(hN:N<=200000):∀a b p q,aZ a p->aZ b q->Bq N p->Bq N q->Bq N q⁻¹->q≠0->∃v0,aZ v0 (p*q⁻¹)/\∀h,DT [a,b] h=some ⟨v0,h,[]⟩:=fun a b p q ha hb lp lq li h0=>by
 obtain⟨v0,k1,k2⟩:=Yh (eU.c h1 hN) ha hb lp lq li h0;exact⟨v0,k1,cY k2 (eA ha.top hb.top)⟩
def Lh:an:=zR [⟨.p 1,.mv (.c (.str [])),none⟩] (zR [zm 3 0,z1 4 226 3,zw 1 4] (.ret))
theorem ZS:FT 183=some ⟨5,[0,2],[.var (.p 1)],Lh⟩:=by kernel_rfl
def Li:an:=zR [⟨.p 1,.mv (.c (.str [])),none⟩] (zR [zm 3 0,⟨.l 4,.call (kF 267) [(.l 3),(kI 10)],none⟩,zw 1 4] (.ret))
theorem ZT:FT 226=some ⟨5,[0,2],[.var (.p 1)],Li⟩:=by kernel_rfl
def Lj:an:=zR [⟨.p 1,.mv (.c (.str [])),none⟩] (.seq (zR [zm 3 0,zc 4 .lss 3 10] (.cond (.l 4) (zR [zm 5 0,zm 6 0,zc 7 .add 6 1,⟨.l 8,.slice .str 1 (.c (.str zD2)) (some (.l 5)) (some (.l 7)) none,none⟩,zw 1 8] (.ret)) (.skip))) (zR [zm 9 0,zc 10 .mul 9 2,zm 11 0,zc 12 .mul 11 2,zc 13 .add 12 2,⟨.l 14,.slice .str 1 (.c (.str zD1)) (some (.l 10)) (some (.l 13)) none,none⟩,zw 1 14] (.ret)))
theorem ZU:FT 304=some ⟨15,[0,2],[.var (.p 1)],Lj⟩:=by kernel_rfl
def Lk:an:=zR [⟨.p 2,.mv (.c (.str [])),none⟩] (.seq (zR [zm 10 1,zc 11 .eql 10 10] (.cond (.l 11) (.seq (zR [zm 12 0,⟨.l 13,.bin .leq (kI 0) (.l 12),none⟩,zn 14 13,zg (zm 15 0) 14 true,zg (zc 16 .lss 15 100) 14 true,zp 17 14 16] (.cond (.l 17) (zR [zm 18 0,z1 19 304 18,zw 2 19] (.ret)) (.skip))) (zR [⟨.p 3,.alloc 301 [.int .u8 (0),.int .u8 (0),.int .u8 (0),.int .u8 (0),.int .u8 (0),.int .u8 (0),.int .u8 (0),.int .u8 (0),.int .u8 (0),.int .u8 (0),.int .u8 (0),.int .u8 (0),.int .u8 (0),.int .u8 (0),.int .u8 (0),.int .u8 (0),.int .u8 (0),.int .u8 (0),.int .u8 (0),.int .u8 (0),.int .u8 (0),.int .u8 (0),.int .u8 (0),.int .u8 (0)],none⟩] (zR [zm 20 0,⟨.l 21,.dE .u64 (.l 20),none⟩,zw 4 21] (.seq (zR [zm 22 0,zc 23 .lss 22 0] (.cond (.l 23) (.region [zm 24 4,⟨.l 25,.un .neg (.l 24),none⟩,zw 4 25]) (.skip))) (zR [zm 26 4,z1 27 305 26,zw 5 27] (zR [zm 28 5,⟨.l 29,.bin .add (kI 1) (.l 28),none⟩,⟨.l 30,.iG 24 1 (.p 3) (some (kI 1)) (some (.l 29)),none⟩,zm 31 4,z2 32 306 30 31] (.seq (zR [zm 33 0,zc 34 .lss 33 0] (.cond (.l 34) (zR [⟨.l 35,.du (some 24) 1 (.p 3) (kI 0),none⟩,⟨.no,.store 1 (.l 35) (.c (.int .u8 (45))),none⟩] (zR [zm 36 5,⟨.l 37,.bin .add (kI 1) (.l 36),none⟩,⟨.l 38,.iG 24 1 (.p 3) none (some (.l 37)),none⟩,⟨.l 39,.kQ (.l 38),none⟩,zw 2 39] (.ret))) (.skip))) (zR [zm 40 5,⟨.l 41,.bin .add (kI 1) (.l 40),none⟩,⟨.l 42,.iG 24 1 (.p 3) (some (kI 1)) (some (.l 41)),none⟩,⟨.l 43,.kQ (.l 42),none⟩,zw 2 43] (.ret))))))))) (.skip))) (zR [zm 45 0,⟨.l 46,.dE .u64 (.l 45),none⟩,zm 47 1,zm 48 0,zc 49 .lss 48 0,⟨.l 50,.call (kF 307) [(.c (.aa)),(.l 46),(.l 47),(.l 49),(.c (.bool false))],none⟩,zn 44 50,ze 51 0 44,ze 52 1 44,zn 8 51,zw 6 52] (zR [zm 53 6,zw 2 53] (.ret))))
theorem ZV:FT 267=some ⟨54,[0,1,4,5,6,7,9],[.var (.p 2)],Lk⟩:=by kernel_rfl
def Ll:an:=zR [zi 1 0] (zR [zm 4 0,z1 5 240 4,z1 6 324 5,zw 2 6] (zR [zm 7 2,zm 8 0,zm 9 2,⟨.l 10,.du (some 20) 1 (.c (.vp [.uV (1),.uV (10),.uV (100),.uV (1000),.uV (10000),.uV (100000),.uV (1000000),.uV (10000000),.uV (100000000),.uV (1000000000),.uV (10000000000),.uV (100000000000),.uV (1000000000000),.uV (10000000000000),.uV (100000000000000),.uV (1000000000000000),.uV (10000000000000000),.uV (100000000000000000),.uV (1000000000000000000),.uV (10000000000000000000)])) (.l 9),none⟩,zd 11 1 10,zb 12 .geq 8 11,z1 13 325 12,zb 14 .add 7 13,zw 1 14] (.ret)))
theorem ZW:FT 305=some ⟨15,[0,2,3],[.var (.p 1)],Ll⟩:=by kernel_rfl
def xR:an:=.seq (zR [zm 19 2,zc 20 .geq 19 8] (.cond (.l 20) (.skip) (.exit 0))) (.block 1 (zR [zm 21 1,⟨.l 22,.bin .rem (.l 21) (kU 100000000),none⟩,⟨.l 23,.dE .u32 (.l 22),none⟩,zw 3 23] (zR [zm 24 1,⟨.l 25,.bin .quo (.l 24) (kU 100000000),none⟩,zw 1 25] (zR [zm 26 3,⟨.l 27,.bin .quo (.l 26) (kW 10000),none⟩,zm 28 3,⟨.l 29,.bin .rem (.l 28) (kW 10000),none⟩,zw 4 27,zw 5 29] (zR [zm 30 5,⟨.l 31,.bin .quo (.l 30) (kW 100),none⟩,⟨.l 32,.bin .mul (.l 31) (kW 2),none⟩,zm 33 5,⟨.l 34,.bin .rem (.l 33) (kW 100),none⟩,⟨.l 35,.bin .mul (.l 34) (kW 2),none⟩,zw 6 32,zw 7 35] (zR [zm 36 4,⟨.l 37,.bin .quo (.l 36) (kW 100),none⟩,⟨.l 38,.bin .mul (.l 37) (kW 2),none⟩,zm 39 4,⟨.l 40,.bin .rem (.l 39) (kW 100),none⟩,⟨.l 41,.bin .mul (.l 40) (kW 2),none⟩,zw 8 38,zw 9 41] (.seq (.draw [(zm 42 0,[]),(zm 43 2,[0]),(zc 44 .sub 43 1,[0]),(zm 45 0,[0,1,2]),(zm 46 2,[0,1,2,3]),(zc 47 .sub 46 2,[0,1,2,3]),(zm 48 7,[0,1,2,3,4,5]),(⟨.l 49,.bin .add (.l 48) (kW 1),none⟩,[0,1,2,3,4,5]),(⟨.l 50,.index (.c (.str zD1)) (.l 49),none⟩,[0,1,2,3,4,5]),(zm 51 7,[0,1,2,3,4,5,6,7,8]),(⟨.l 52,.index (.c (.str zD1)) (.l 51),none⟩,[0,1,2,3,4,5,6,7,8]),(za 53 1 42 44,[3,4,5,9,10]),(zS 1 53 50,[3,4,5,9,10]),(za 54 1 45 47,[]),(zS 1 54 52,[])]) (.seq (.draw [(zm 55 0,[]),(zm 56 2,[0]),(zc 57 .sub 56 3,[0]),(zm 58 0,[0,1,2]),(zm 59 2,[0,1,2,3]),(zc 60 .sub 59 4,[0,1,2,3]),(zm 61 6,[0,1,2,3,4,5]),(⟨.l 62,.bin .add (.l 61) (kW 1),none⟩,[0,1,2,3,4,5]),(⟨.l 63,.index (.c (.str zD1)) (.l 62),none⟩,[0,1,2,3,4,5]),(zm 64 6,[0,1,2,3,4,5,6,7,8]),(⟨.l 65,.index (.c (.str zD1)) (.l 64),none⟩,[0,1,2,3,4,5,6,7,8]),(za 66 1 55 57,[3,4,5,9,10]),(zS 1 66 63,[3,4,5,9,10]),(za 67 1 58 60,[]),(zS 1 67 65,[])]) (.seq (.draw [(zm 68 0,[]),(zm 69 2,[0]),(zc 70 .sub 69 5,[0]),(zm 71 0,[0,1,2]),(zm 72 2,[0,1,2,3]),(zc 73 .sub 72 6,[0,1,2,3]),(zm 74 9,[0,1,2,3,4,5]),(⟨.l 75,.bin .add (.l 74) (kW 1),none⟩,[0,1,2,3,4,5]),(⟨.l 76,.index (.c (.str zD1)) (.l 75),none⟩,[0,1,2,3,4,5]),(zm 77 9,[0,1,2,3,4,5,6,7,8]),(⟨.l 78,.index (.c (.str zD1)) (.l 77),none⟩,[0,1,2,3,4,5,6,7,8]),(za 79 1 68 70,[3,4,5,9,10]),(zS 1 79 76,[3,4,5,9,10]),(za 80 1 71 73,[]),(zS 1 80 78,[])]) (.seq (.draw [(zm 81 0,[]),(zm 82 2,[0]),(zc 83 .sub 82 7,[0]),(zm 84 0,[0,1,2]),(zm 85 2,[0,1,2,3]),(zc 86 .sub 85 8,[0,1,2,3]),(zm 87 8,[0,1,2,3,4,5]),(⟨.l 88,.bin .add (.l 87) (kW 1),none⟩,[0,1,2,3,4,5]),(⟨.l 89,.index (.c (.str zD1)) (.l 88),none⟩,[0,1,2,3,4,5]),(zm 90 8,[0,1,2,3,4,5,6,7,8]),(⟨.l 91,.index (.c (.str zD1)) (.l 90),none⟩,[0,1,2,3,4,5,6,7,8]),(za 92 1 81 83,[3,4,5,9,10]),(zS 1 92 89,[3,4,5,9,10]),(za 93 1 84 86,[]),(zS 1 93 91,[])]) (.region [zm 94 2,zc 95 .sub 94 8,zw 2 95])))))))))))
def Lm:an:=zR [zm 17 0,zl 18 17,zw 2 18] (.seq (.block 0 (.loop xR)) (zR [zm 96 1,⟨.l 97,.dE .u32 (.l 96),none⟩,zw 10 97] (.seq (zR [zm 98 2,zc 99 .geq 98 4] (.cond (.l 99) (zR [zm 100 10,⟨.l 101,.bin .rem (.l 100) (kW 10000),none⟩,zw 11 101] (zR [zm 102 10,⟨.l 103,.bin .quo (.l 102) (kW 10000),none⟩,zw 10 103] (zR [zm 104 11,⟨.l 105,.bin .quo (.l 104) (kW 100),none⟩,⟨.l 106,.bin .mul (.l 105) (kW 2),none⟩,zm 107 11,⟨.l 108,.bin .rem (.l 107) (kW 100),none⟩,⟨.l 109,.bin .mul (.l 108) (kW 2),none⟩,zw 12 106,zw 13 109] (.seq (.draw [(zm 110 0,[]),(zm 111 2,[0]),(zc 112 .sub 111 1,[0]),(zm 113 0,[0,1,2]),(zm 114 2,[0,1,2,3]),(zc 115 .sub 114 2,[0,1,2,3]),(zm 116 13,[0,1,2,3,4,5]),(⟨.l 117,.bin .add (.l 116) (kW 1),none⟩,[0,1,2,3,4,5]),(⟨.l 118,.index (.c (.str zD1)) (.l 117),none⟩,[0,1,2,3,4,5]),(zm 119 13,[0,1,2,3,4,5,6,7,8]),(⟨.l 120,.index (.c (.str zD1)) (.l 119),none⟩,[0,1,2,3,4,5,6,7,8]),(za 121 1 110 112,[3,4,5,9,10]),(zS 1 121 118,[3,4,5,9,10]),(za 122 1 113 115,[]),(zS 1 122 120,[])]) (.seq (.draw [(zm 123 0,[]),(zm 124 2,[0]),(zc 125 .sub 124 3,[0]),(zm 126 0,[0,1,2]),(zm 127 2,[0,1,2,3]),(zc 128 .sub 127 4,[0,1,2,3]),(zm 129 12,[0,1,2,3,4,5]),(⟨.l 130,.bin .add (.l 129) (kW 1),none⟩,[0,1,2,3,4,5]),(⟨.l 131,.index (.c (.str zD1)) (.l 130),none⟩,[0,1,2,3,4,5]),(zm 132 12,[0,1,2,3,4,5,6,7,8]),(⟨.l 133,.index (.c (.str zD1)) (.l 132),none⟩,[0,1,2,3,4,5,6,7,8]),(za 134 1 123 125,[3,4,5,9,10]),(zS 1 134 131,[3,4,5,9,10]),(za 135 1 126 128,[]),(zS 1 135 133,[])]) (.region [zm 136 2,zc 137 .sub 136 4,zw 2 137])))))) (.skip))) (.seq (zR [zm 138 2,zc 139 .geq 138 2] (.cond (.l 139) (zR [zm 140 10,⟨.l 141,.bin .rem (.l 140) (kW 100),none⟩,⟨.l 142,.bin .mul (.l 141) (kW 2),none⟩,zw 14 142] (zR [zm 143 10,⟨.l 144,.bin .quo (.l 143) (kW 100),none⟩,zw 10 144] (.seq (.draw [(zm 145 0,[]),(zm 146 2,[0]),(zc 147 .sub 146 1,[0]),(zm 148 0,[0,1,2]),(zm 149 2,[0,1,2,3]),(zc 150 .sub 149 2,[0,1,2,3]),(zm 151 14,[0,1,2,3,4,5]),(⟨.l 152,.bin .add (.l 151) (kW 1),none⟩,[0,1,2,3,4,5]),(⟨.l 153,.index (.c (.str zD1)) (.l 152),none⟩,[0,1,2,3,4,5]),(zm 154 14,[0,1,2,3,4,5,6,7,8]),(⟨.l 155,.index (.c (.str zD1)) (.l 154),none⟩,[0,1,2,3,4,5,6,7,8]),(za 156 1 145 147,[3,4,5,9,10]),(zS 1 156 153,[3,4,5,9,10]),(za 157 1 148 150,[]),(zS 1 157 155,[])]) (.region [zm 158 2,zc 159 .sub 158 2,zw 2 159])))) (.skip))) (zR [zm 160 2,zc 161 .gtr 160 0] (.cond (.l 161) (.region [zm 162 0,zm 163 10,⟨.l 164,.bin .add (kW 48) (.l 163),none⟩,⟨.l 165,.dE .u8 (.l 164),none⟩,⟨.l 166,.du none 1 (.l 162) (kI 0),none⟩,zS 1 166 165]) (.skip)))))))
theorem ZX:FT 306=some ⟨167,[0,1,4,5,6,7,8,9,10,11,12,13,14,15,16],[],Lm⟩:=by kernel_rfl
def Ln:an:=zR [⟨.p 2,.mv (.c (.str [])),none⟩] (zR [zm 5 0,zm 6 1,z2 7 299 5 6,zw 2 7] (.ret))
theorem ZY:FT 263=some ⟨8,[0,1,4],[.var (.p 2)],Ln⟩:=by kernel_rfl
def Lo:an:=zR [⟨.p 2,.mv (.c (.str [])),none⟩] (.seq (zR [zm 9 1,zc 10 .eql 9 10] (.cond (.l 10) (.seq (zR [zm 11 0,⟨.l 12,.bin .lss (.l 11) (kU 100),none⟩] (.cond (.l 12) (zR [zm 13 0,⟨.l 14,.dE .i64 (.l 13),none⟩,z1 15 304 14,zw 2 15] (.ret)) (.skip))) (zR [⟨.p 3,.alloc 301 [.int .u8 (0),.int .u8 (0),.int .u8 (0),.int .u8 (0),.int .u8 (0),.int .u8 (0),.int .u8 (0),.int .u8 (0),.int .u8 (0),.int .u8 (0),.int .u8 (0),.int .u8 (0),.int .u8 (0),.int .u8 (0),.int .u8 (0),.int .u8 (0),.int .u8 (0),.int .u8 (0),.int .u8 (0),.int .u8 (0),.int .u8 (0),.int .u8 (0),.int .u8 (0),.int .u8 (0)],none⟩] (zR [zm 16 0,z1 17 305 16,zw 4 17] (zR [zm 18 4,⟨.l 19,.iG 24 1 (.p 3) none (some (.l 18)),none⟩,zm 20 0,z2 21 306 19 20] (zR [zm 22 4,⟨.l 23,.iG 24 1 (.p 3) none (some (.l 22)),none⟩,⟨.l 24,.kQ (.l 23),none⟩,zw 2 24] (.ret)))))) (.skip))) (zR [zm 26 0,zm 27 1,⟨.l 28,.call (kF 307) [(.c (.aa)),(.l 26),(.l 27),(.c (.bool false)),(.c (.bool false))],none⟩,zn 25 28,ze 29 0 25,ze 30 1 25,zn 7 29,zw 5 30] (zR [zm 31 5,zw 2 31] (.ret))))
theorem ZZ:FT 299=some ⟨32,[0,1,4,5,6,8],[.var (.p 2)],Lo⟩:=by kernel_rfl
def Lp:an:=zR [zi 1 0] (zR [zm 3 0,zc 4 .mul 3 78913,⟨.l 5,.bin .shr (.l 4) (kU 18),none⟩,zw 1 5] (.ret))
theorem aaa:FT 324=some ⟨6,[0,2],[.var (.p 1)],Lp⟩:=by kernel_rfl
def Lr:an:=zR [zi 1 0] (.seq (zR [zm 3 0] (.cond (.l 3) (zR [zi 1 1] (.ret)) (.skip))) (zR [zi 1 0] (.ret)))
theorem aab:FT 325=some ⟨4,[0,2],[.var (.p 1)],Lr⟩:=by kernel_rfl
end Go.Ab.Ch1

/-
  Own work: decimal texts of natural numbers: digits, texts, values.
-/
namespace Go.Ab.aW
def dJ (d:Nat):UInt8:=UInt8.ofNat (48+d)
def cC:Nat->Nat->ah
 | 0,_=>[]
 | k+1,n=>cC k (n/10)++[dJ (n%10)]
def aQ (n:Nat):ah:=if n<10 then [dJ n] else aQ (n/10)++[dJ (n%10)]
termination_by n
decreasing_by omega
def az (n:Nat)(s:ah):Nat:=s.foldl (fun n b=>10*n+(b.toNat-48)) n
def xS (c:Nat):Bool:=48<=c && c<58
abbrev bF (b:UInt8):Bool:=xS b.toNat
theorem kH (b:UInt8):bF b=true↔48<=b.toNat/\b.toNat<58:=by simp[bF,xS]
theorem qL {d:Nat}(h:d<10):(dJ d).toNat=48+d:=by simp[dJ];omega
theorem DU {d:Nat}(h:d<10):bF (dJ d)=true:=by rw[kH,qL h];omega
theorem aac {b:UInt8}(h:bF b=true):dJ (b.toNat-48)=b:=by
 rw[kH]at h;apply UInt8.toNat_inj.1;rw[qL (by omega)];omega
theorem kJ:∀(k n:Nat),(cC k n).length=k
 | 0,_=>rfl
 | k+1,n=>by simp[cC,kJ k]
theorem Ls:∀(k n:Nat),(cC k n).all bF=true
 | 0,_=>rfl
 | k+1,n=>by simp only[cC,List.all_append,Ls k,List.all_cons,List.all_nil,DU (Nat.mod_lt n (show 10 > 0 by decide)),Bool.and_self]
theorem DV:∀{k n j:Nat},j<k->(cC k n)[j]! = dJ (n/10^(k-1-j)%10)
 | k+1,n,j,h=>by
  rw[cC];by_cases hj:j<k
  . have h1:j<(cC k (n/10)).length:=by rw[kJ];exact hj
    have e:(cC k (n/10)++[dJ (n%10)])[j]! = (cC k (n/10))[j]! := by
     simp only[List.getElem!_eq_getElem?_getD,List.getElem?_append_left h1]
    rw[e,DV hj,show k+1-1-j=(k-1-j)+1 by omega,Nat.pow_succ,Nat.mul_comm,←Nat.div_div_eq_div_mul]
  . obtain rfl:j=k:=by omega
    have e:(cC j (n/10)++[dJ (n%10)])[j]! = dJ (n%10):=by
     simp only[List.getElem!_eq_getElem?_getD];rw[List.getElem?_append_right (by rw[kJ];exact Nat.le_refl _),kJ];simp
    rw[e];simp
theorem Lt {k n:Nat}{s:ah}(hl:s.length=k)(h:∀j,j<k->s[j]! = dJ (n/10^(k-1-j)%10)):s=cC k n:=by
 apply List.ext_getElem (by rw[hl,kJ]);intro i h1 h2;have e1:=h i (by omega);have e2:=DV (n:=n) (show i<k by omega);rw[←e2]at e1;simpa[List.getElem!_eq_getElem?_getD,List.getElem?_eq_getElem h1,List.getElem?_eq_getElem h2] using e1
theorem iq {n:Nat}(h:n<10):aQ n=[dJ n]:=by rw[aQ,if_pos h]
theorem kK {n:Nat}(h:¬n<10):aQ n=aQ (n/10)++[dJ (n%10)]:=by rw[aQ,if_neg h]
theorem xT:∀{k n:Nat},n<10^(k+1)->(k=0\/10^k<=n)->aQ n=cC (k+1) n
 | 0,n,h,_=>by
  have h:n<10:=by simpa using h
  rw[iq h];simp[cC,Nat.mod_eq_of_lt h]
 | k+1,n,h,h2=>by
  have h2:10^(k+1)<=n:=h2.resolve_left (by omega);rw[Nat.pow_succ]at h h2;have hp:0<10^k:=Nat.pow_pos (by decide);rw[kK (by omega),xT (k:=k) (n:=n/10) (by omega) (.inr (by omega))];rfl
theorem DW:∀{k a b:Nat},0<a->b<10^k->aQ (a*10^k+b)=aQ a++cC k b
 | 0,a,b,_,hb=>by
  obtain rfl:b=0:=by simpa using hb
  simp[cC]
 | k+1,a,b,ha,hb=>by
  rw[Nat.pow_succ]at hb ⊢;have hp:0<10^k:=Nat.pow_pos (by decide);have h1:10<=a*(10^k*10)+b:=by
   have:=Nat.mul_le_mul ha (Nat.mul_le_mul_right 10 hp);omega
  have e1:(a*(10^k*10)+b)/10=a*10^k+b/10:=by
   rw[←Nat.mul_assoc];omega
  have e2:(a*(10^k*10)+b)%10=b%10:=by
   rw[←Nat.mul_assoc];omega
  rw[kK (by omega),e1,e2,DW ha (by omega),cC,List.append_assoc]
theorem oM (n:Nat)(s t:ah):az n (s++t)=az (az n s) t:=by simp[az,List.foldl_append]
theorem tk (n:Nat)(b:UInt8)(s:ah):az n (b::s)=az (10*n+(b.toNat-48)) s:=by rw[az,az,List.foldl_cons]
theorem tn (n:Nat)(b:UInt8):az n [b]=10*n+(b.toNat-48):=by rw[az,List.foldl_cons,List.foldl_nil]
theorem xU (s:ah):∀(n:Nat),az n s=n*10^s.length+az 0 s:=by
 induction s with
 | nil=>intro n;simp[az]
 | cons b s ih=>
  intro n;rw[tk,tk,ih,ih (10*0+_),List.length_cons,Nat.pow_succ,Nat.add_mul];have:10*n*10^s.length=n*(10^s.length*10):=by rw[Nat.mul_comm 10 n,Nat.mul_assoc,Nat.mul_comm 10]
  rw[this];simp only[Nat.mul_zero,Nat.zero_add];omega
theorem mW (s:ah):s.all bF=true->az 0 s<10^s.length:=by
 induction s with
 | nil=>intro _;simp[az]
 | cons b s ih=>
  intro h;simp only[List.all_cons,Bool.and_eq_true]at h;have hb:=(kH b).1 h.1;have:=ih h.2;rw[tk,xU,List.length_cons,Nat.pow_succ];have h2:(10*0+(b.toNat-48))*10^s.length<=9*10^s.length:=Nat.mul_le_mul_right _ (by omega);omega
theorem Lu:∀(k n m:Nat),az m (cC k n)=m*10^k+n%10^k
 | 0,n,m=>by simp[az,cC,Nat.mod_one]
 | k+1,n,m=>by
  rw[cC,oM,Lu k,tn,qL (Nat.mod_lt _ (by decide)),Nat.pow_succ];have e:n%(10^k*10)=n%10+10*(n/10%10^k):=by rw[Nat.mul_comm (10^k) 10,Nat.mod_mul]
  rw[e,Nat.mul_add,←Nat.mul_assoc m,Nat.mul_comm 10 (m*10^k)];omega
theorem lO (n:Nat):az 0 (aQ n)=n:=by
 induction n using Nat.strongRecOn with
 | _ n ih=>
  by_cases h:n<10
  . rw[iq h,tn,qL h];omega
  . rw[kK h,oM,ih _ (by omega),tn,qL (Nat.mod_lt _ (by decide))];omega
theorem jX (n:Nat):(aQ n).all bF=true:=by
 induction n using Nat.strongRecOn with
 | _ n ih=>
  by_cases h:n<10
  . rw[iq h];simp[DU h]
  . rw[kK h,List.all_append,ih _ (by omega)];simp[DU (Nat.mod_lt n (show 10 > 0 by decide))]
theorem oO (n:Nat):aQ n≠[]:=by
 by_cases h:n<10
 . rw[iq h];simp
 . rw[kK h];simp
theorem Lv {m n:Nat}(h:aQ m=aQ n):m=n:=by rw[←lO m,h,lO]
def Lw (s:ah):Prop:=s≠[]/\s.all bF=true/\(s.head? = some 48->s.length=1)
theorem aad {s:ah}(h:s.all bF=true):cC s.length (az 0 s)=s:=by
 have key:∀(k:Nat) (s:ah),s.length=k->s.all bF=true->cC s.length (az 0 s)=s:=by
  intro k;induction k with
  | zero=>intro s hs _;rw[List.eq_nil_of_length_eq_zero hs];rfl
  | succ k ih=>
   intro s hs h;rcases List.eq_nil_or_concat s with rfl|⟨t,c,e⟩
   . simp at hs
   . rw[List.concat_eq_append]at e;subst e;simp only[List.length_append,List.length_cons,List.length_nil]at hs ⊢;simp only[List.all_append,List.all_cons,List.all_nil,Bool.and_true,Bool.and_eq_true]at h;have hc:=(kH c).1 h.2;rw[show t.length+(0+1)=t.length+1 by omega,cC,oM,tn];rw[show (10*az 0 t+(c.toNat-48))/10=az 0 t by omega,show (10*az 0 t+(c.toNat-48))%10=c.toNat-48 by omega,ih t (by omega) h.1,aac h.2]
 exact key _ s rfl h
theorem Lx {s:ah}(h:Lw s):aQ (az 0 s)=s:=by
 obtain⟨h0,h1,h2⟩:=h;cases s with
 | nil=>exact absurd rfl h0
 | cons b t=>
  have lt:=mW _ h1;rw[List.length_cons]at lt;refine(xT lt ?_).trans (aad h1);cases t with
  | nil=>exact .inl rfl
  | cons c t=>
   right;have hb:b≠48:=fun e=>by
    have:=h2 (by rw[e];rfl);simp at this
   simp only[List.all_cons,Bool.and_eq_true]at h1;have hb1:=(kH b).1 h1.1;have hb2:49<=b.toNat:=by
    have:b.toNat≠48:=fun e=>hb (UInt8.toNat_inj.1 e)
    omega
   rw[tk,xU];have:=Nat.mul_le_mul_right (10^(c::t).length) (show 1<=10*0+(b.toNat-48) by omega);omega
theorem oT {n k:Nat}(h:n<10^k)(hk:0<k):(aQ n).length<=k:=by
 induction k generalizing n with
 | zero=>omega
 | succ k ih=>
  by_cases h1:n<10
  . rw[iq h1];simp
  . rw[kK h1,List.length_append];rw[Nat.pow_succ]at h;have h0:0<k:=by
     rcases Nat.eq_zero_or_pos k with rfl|hp
     . simp at h;omega
     . exact hp
    have:=ih (n:=n/10) (by omega) h0;simp;omega
end Go.Ab.aW

/-
  Own work: decimal texts of machine integers: bytes, the number of digits, texts of two digits.
-/
namespace Go.Ab.Ch1
open Go.Ab.aW
variable {M:aw} {cap:Option Nat}
abbrev ir (k:Nat):AV:=.fn (.func k) [] []
def br (s:ah):List AV:=s.map fun c=>.int .u8 c.toNat
theorem aae (a b:ah):br (a++b)=br a++br b:=by simp[br]
theorem lQ (a:ah):(br a).length=a.length:=by simp[br]
theorem Ly (a:ah):(br a).all cG=true:=by simp[br,cG]
theorem Lz:∀a:ah,bh (br a)=0
 | []=>rfl
 | c::a=>by
  have:=Lz a;simp only[br]at this;simp only[br,List.map_cons,bh,this];rfl
theorem DX:∀a:ah,bytesOf (br a)=some a
 | []=>rfl
 | c::a=>by
  have h:=DX a;simp only[br]at h;simp only[br,List.map_cons,bytesOf,h];rw[show ((c.toNat:Int)).toNat=c.toNat from rfl,UInt8.ofNat_toNat]
theorem aaf {L:ah}{m:Nat}{c:UInt8}(h:m<L.length):overwrite (br L) m [.int .u8 c.toNat]=br (L.set m c):=by
 apply List.ext_getElem?;intro i;simp only[overwrite,br,List.length_cons,List.length_nil];rw[←List.map_take,←List.map_drop];by_cases h1:i<m
 . rw[List.append_assoc,List.getElem?_append_left (by simp;omega)];simp[h1,show ¬m=i by omega]
 . by_cases h2:i=m
   . subst h2;rw[List.append_assoc,List.getElem?_append_right (by simp;omega)];simp[List.length_take,Nat.min_eq_left (Nat.le_of_lt h),h]
   . rw[List.append_assoc,List.getElem?_append_right (by simp;omega)];have e:i-min m L.length=(i-m-1)+1:=by omega
     simp only[List.length_map,List.length_take,e,List.cons_append,List.nil_append,List.getElem?_cons_succ,List.map_drop,List.getElem?_drop,List.getElem?_map,List.getElem?_set,show ¬m=i by omega,if_false];rw[show m+(0+1)+(i-m-1)=i by omega]
section
variable {t:Nat} {x y:aN} {l:List aT} {pe:List AV} {lo:List (Nat×AV)} {hp:ab} {df wr:List Nat} {k:IntKind} {a b:Int} {Q:aq->Prop} {e:TypeId} {L:ah} {m:Nat}
theorem aiu {c:UInt8}(hx:(St.mk pe lo [some (.cells (br L) e)] df).ae x=some (.ptr 0 m))(hy:(St.mk pe lo [some (.cells (br L) e)] df).ae y=some (.int .u8 c.toNat))(hi:m<L.length)
 (h:WO M l ⟨⟨pe,lo,[some (.cells (br (L.set m c)) e)],df⟩,0::wr⟩ Q):WO M (⟨.no,.store 1 x y,none⟩::l) ⟨⟨pe,lo,[some (.cells (br L) e)],df⟩,wr⟩ Q:=by
 refine adX (c:=br L) (new:=[.int .u8 c.toNat]) hx (by rw[hy];rfl) rfl ⟨rfl,by rw[lQ];omega,rfl⟩ (aaf hi) ?_;exact h
theorem WO.LA {n i j:Nat}{lo' hi':Option aN}(hx:(St.mk pe lo [some (.cells (br L) e)] df).ae x=some (.ptr 0 0))(hl:L.length=n)(hlo:((St.mk pe lo [some (.cells (br L) e)] df).cT lo').bind (fun v=>bK v 0 j)=some i)(hhi:((St.mk pe lo [some (.cells (br L) e)] df).cT hi').bind (fun v=>bK v n n)=some j)(hij:i<n)
 (h:WO M l ⟨⟨pe,(t,.sl 0 i (j-i) 1 (some (n-i)))::lo,[some (.cells (br L) e)],df⟩,wr⟩ Q):WO M (⟨.l t,.iG n 1 x lo' hi',none⟩::l) ⟨⟨pe,lo,[some (.cells (br L) e)],df⟩,wr⟩ Q:=by
 refine ade (v:=.sl 0 i (j-i) 1 (some (n-i))) (h':=[some (.cells (br L) e)]) (w':=[]) ?_ rfl rfl h;have h0:ab.at [some (bw.cells (br L) e)] 0=some (.cells (br L) e):=rfl;cases ho:(St.mk pe lo [some (.cells (br L) e)] df).cT lo' with
 | none=>rw[ho]at hlo;simp at hlo
 | some v=>
  cases ho':(St.mk pe lo [some (.cells (br L) e)] df).cT hi' with
  | none=>rw[ho']at hhi;simp at hhi
  | some v'=>
   rw[ho]at hlo;rw[ho']at hhi;simp only[Option.bind_some]at hlo hhi;simp only[bB,hx,ho,ho',h0,lQ,hl,hhi,hlo,Nat.zero_add,Nat.mul_one];rw[if_pos (Nat.le_refl _),if_pos hij]
theorem aiX {i j:Nat}{c:Option Nat}(hx:(St.mk pe lo [some (.cells (br L) e)] df).ae x=some (.sl 0 i j 1 c))(hij:i+j<=L.length)
 (h:WO M l ⟨⟨pe,(t,.str ((L.drop i).take j))::lo,[some (.cells (br L) e)],df⟩,wr⟩ Q):WO M (⟨.l t,.kQ x,none⟩::l) ⟨⟨pe,lo,[some (.cells (br L) e)],df⟩,wr⟩ Q:=by
 refine ade (v:=.str ((L.drop i).take j)) (h':=[some (.cells (br L) e)]) (w':=[]) ?_ rfl rfl h;have h0:ab.at [some (bw.cells (br L) e)] 0=some (.cells (br L) e):=rfl;have hc:ek [some (.cells (br L) e)] (.sl 0 i j 1 c)=some (br ((L.drop i).take j),j):=by
  simp only[ek,h0,cut,Nat.mul_one];rw[if_pos (by rw[List.length_take,List.length_drop,lQ];omega)];simp[br,List.map_drop,List.map_take]
 simp only[bB,hx,hc,lQ,DX];rw[if_pos (by simp;omega)]
theorem wrap32 {a:Int}(h:0<=a/\a<4294967296):IntKind.u32.wrap a=a:=by
 simp only[IntKind.wrap,IntKind.bits,IntKind.signed];simp;omega
theorem aiK (hx:(St.mk pe lo hp df).ae x=some (.int .u32 a))(hy:(St.mk pe lo hp df).ae y=some (.int .u32 b))(hr:0<=a+b/\a+b<4294967296)
 (h:WO M l ⟨⟨pe,(t,.int .u32 (a+b))::lo,hp,df⟩,wr⟩ Q):WO M (⟨.l t,.bin .add x y,none⟩::l) ⟨⟨pe,lo,hp,df⟩,wr⟩ Q:=
 aak (v:=.int .u32 (a+b)) (by simp[aV,hx,hy,cK,wrap32 hr]) rfl h
theorem ajd (hx:(St.mk pe lo hp df).ae x=some (.int .u32 a))(hy:(St.mk pe lo hp df).ae y=some (.int .u32 b))(hr:0<=a*b/\a*b<4294967296)
 (h:WO M l ⟨⟨pe,(t,.int .u32 (a*b))::lo,hp,df⟩,wr⟩ Q):WO M (⟨.l t,.bin .mul x y,none⟩::l) ⟨⟨pe,lo,hp,df⟩,wr⟩ Q:=
 aak (v:=.int .u32 (a*b)) (by simp[aV,hx,hy,cK,wrap32 hr]) rfl h
theorem aje (hx:(St.mk pe lo hp df).ae x=some (.int .u32 a))(hy:(St.mk pe lo hp df).ae y=some (.int .u32 b))(ha:0<=a/\a<4294967296)(hb:0<b)
 (h:WO M l ⟨⟨pe,(t,.int .u32 (a/b))::lo,hp,df⟩,wr⟩ Q):WO M (⟨.l t,.bin .quo x y,none⟩::l) ⟨⟨pe,lo,hp,df⟩,wr⟩ Q:=by
 refine aak (v:=.int .u32 (a/b)) ?_ rfl h;have h1:0<=a/b:=Int.ediv_nonneg ha.1 (Int.le_of_lt hb);have h2:a/b<=a:=Int.ediv_le_self _ ha.1;have h3:¬b=0:=by omega
 simp only[aV,hx,hy,cK,if_true,if_neg h3];rw[Int.tdiv_eq_ediv_of_nonneg ha.1,wrap32 ⟨h1,by omega⟩]
theorem ajf (hx:(St.mk pe lo hp df).ae x=some (.int .u32 a))(hy:(St.mk pe lo hp df).ae y=some (.int .u32 b))(ha:0<=a)(hb:0<b)
 (h:WO M l ⟨⟨pe,(t,.int .u32 (a%b))::lo,hp,df⟩,wr⟩ Q):WO M (⟨.l t,.bin .rem x y,none⟩::l) ⟨⟨pe,lo,hp,df⟩,wr⟩ Q:=by
 refine aak (v:=.int .u32 (a%b)) ?_ rfl h;have h3:¬b=0:=by omega
 simp only[aV,hx,hy,cK,if_true,if_neg h3];rw[Int.tmod_eq_emod_of_nonneg ha]
theorem ajE (hx:(St.mk pe lo hp df).ae x=some (.int k a))(hr:0<=a/\a<4294967296)(h:WO M l ⟨⟨pe,(t,.int .u32 a)::lo,hp,df⟩,wr⟩ Q):WO M (⟨.l t,.dE .u32 x,none⟩::l) ⟨⟨pe,lo,hp,df⟩,wr⟩ Q:=
 aak (v:=.int .u32 a) (by simp only[aV,hx,Option.bind_some,me,wrap32 hr]) rfl h
theorem ajR (hx:(St.mk pe lo hp df).ae x=some (.iV a))
 (h:WO M l ⟨⟨pe,(t,.iV (a/262144))::lo,hp,df⟩,wr⟩ Q):WO M (⟨.l t,.bin .shr x (.c (.int k 18)),none⟩::l) ⟨⟨pe,lo,hp,df⟩,wr⟩ Q:=by
 refine WO.op (WP.pure (v:=.iV (a/262144)) rfl ?_ h);have:a.fdiv (2^min (Int.toNat 18) IntKind.i64.bits)=a/262144:=by
  show a.fdiv 262144=a/262144;rw[Int.fdiv_eq_ediv_of_nonneg _ (by omega)]
 have e:(St.mk pe lo hp df).ae (.c (.int k 18))=some (.int k 18):=rfl;simp only[aV,hx,e,cK,this];rfl
end
theorem aag (hft:M.FT=FT)(x:Int)(hx:0<=x/\x<=64):aS M 324 [.iV x] [] ⟨.iV (x*78913/262144),[],[]⟩:=by
 refine bC (by rw[hft];exact aaa) (by simp) ?_;unfold Lp;simp only[enter];exact gg8
theorem aah (hft:M.FT=FT)(x:Bool):aS M 325 [.bool x] [] ⟨.iV (if x then 1 else 0),[],[]⟩:=by
 refine bC (by rw[hft];exact aab) (by simp) ?_;unfold Lr;simp only[enter];cases x;all_goals
 . repeat' first|refine gc ?_|fail
   all_goals exact⟨.inr rfl,rfl,_,rfl,rfl,rfl⟩
theorem aai (bl:Fin 65):1<=bl.val->bl.val*78913/262144<20/\(bl.val*78913/262144=0\/10^(bl.val*78913/262144-1)<=2^(bl.val-1))/\2^bl.val<=10^(bl.val*78913/262144+1):=by
 revert bl;decide +kernel
def fH (d:Int):Nat:=if (10:Int)^(bY d*78913/262144)<=d then bY d*78913/262144+1 else bY d*78913/262144
theorem xV {d:Nat}(h:0<d/\d<18446744073709551616):1<=fH d/\fH d<=20/\d<10^fH d/\(fH d=1\/10^(fH d-1)<=d):=by
 obtain⟨h1,h2,h3⟩:=qt (x:=(d:Int)) (by omega);have h4:=oF (x:=(d:Int)) (n:=64) (by show (d:Int)<18446744073709551616;omega) (by omega);obtain⟨g0,g1,g2⟩:=aai ⟨bY d,by omega⟩ h1;simp only at g0 g1 g2;have h2:2^(bY (d:Int)-1)<=d:=by exact_mod_cast h2
 have h3:d<2^bY (d:Int):=by exact_mod_cast h3
 unfold fH;obtain⟨n,hn⟩:∃n,n=bY (d:Int)*78913/262144:=⟨_,rfl⟩;rw[←hn]at g0 g1 g2 ⊢;by_cases hc:(10:Int)^n<=d
 . rw[if_pos hc];have hc:10^n<=d:=by exact_mod_cast hc
   exact⟨by omega,by omega,by omega,.inr (by rw[Nat.add_sub_cancel];exact hc)⟩
 . rw[if_neg hc];have hc:d<10^n:=by
    rcases Nat.lt_or_ge d (10^n) with h|h
    . exact h
    . exact absurd (by exact_mod_cast h) hc
   have hn0:n≠0:=by
    rintro rfl;simp at hc;omega
   refine⟨by omega,by omega,hc,?_⟩;rcases g1 with g1|g1
   . omega
   . exact .inr (by omega)
def oW:List AV:=[.uV (1),.uV (10),.uV (100),.uV (1000),.uV (10000),.uV (100000),.uV (1000000),.uV (10000000),.uV (100000000),.uV (1000000000),.uV (10000000000),.uV (100000000000),.uV (1000000000000),.uV (10000000000000),.uV (100000000000000),.uV (1000000000000000),.uV (10000000000000000),.uV (100000000000000000),.uV (1000000000000000000),.uV (10000000000000000000)]
theorem aaj:∀k:Nat,k<20->partOf (oW.drop (k*1)) 0 1 false=some (.uV (10^k))
 | 0,_=>rfl|1,_=>rfl|2,_=>rfl|3,_=>rfl|4,_=>rfl|5,_=>rfl|6,_=>rfl|7,_=>rfl|8,_=>rfl|9,_=>rfl
 | 10,_=>rfl|11,_=>rfl|12,_=>rfl|13,_=>rfl|14,_=>rfl|15,_=>rfl|16,_=>rfl|17,_=>rfl|18,_=>rfl|19,_=>rfl
 | k+20,h=>by omega
theorem aki {t:Nat}{i:aN}{l:List aT}{pe:List AV}{lo:List (Nat×AV)}{hp:ab}{df wr:List Nat}{k:IntKind}{n:Int}{Q:aq->Prop}(hy:(St.mk pe lo hp df).ae i=some (.int k n))(hb:0<=n/\n<20)
 (h:WO M l ⟨⟨pe,(t,.vp (oW.drop (n.toNat*1)))::lo,hp,df⟩,wr⟩ Q):WO M (⟨.l t,.du (some 20) 1 (.c (.vp oW)) i,none⟩::l) ⟨⟨pe,lo,hp,df⟩,wr⟩ Q:=
 WO.op (WP.pure (v:=.vp (oW.drop (n.toNat*1))) rfl (by
  have e:(St.mk pe lo hp df).ae (.c (.vp oW))=some (.vp oW):=rfl;have h2:0<=n/\n<((20:Nat):Int):=hb;simp only[aV,e,hy,nz,if_pos h2]) h)
theorem akj {t:Nat}{x:aN}{l:List aT}{pe:List AV}{lo:List (Nat×AV)}{hp:ab}{df wr:List Nat}{n:Nat}{Q:aq->Prop}(hx:(St.mk pe lo hp df).ae x=some (.vp (oW.drop (n*1))))(hb:n<20)
 (h:WO M l ⟨⟨pe,(t,.uV (10^n))::lo,hp,df⟩,wr⟩ Q):WO M (⟨.l t,.load 1 false x,none⟩::l) ⟨⟨pe,lo,hp,df⟩,wr⟩ Q:=
 ade (v:=.uV (10^n)) (h':=hp) (w':=[]) (by simp only[bB,hx,Option.bind_some,fo,aaj n hb]) rfl rfl h
structure LC (M:aw):Prop where
 ft:M.FT=FT
 sH:∀(x:Int) h,(0<=x/\x<18446744073709551616)->M.ext 240 [.uV x] h=some ⟨.iV (bY x),h,[]⟩
 LD:∀(x:Int) h,(0<=x/\x<=64)->M.ext 324 [.iV x] h=some ⟨.iV (x*78913/262144),h,[]⟩
 Eb:∀(x:Bool) h,M.ext 325 [.bool x] h=some ⟨.iV (if x then 1 else 0),h,[]⟩
theorem aam (C:LC M)(d:Int)(hd:0<d/\d<18446744073709551616):aS M 305 [.uV d] [] ⟨.iV (fH d),[],[]⟩:=by
 have h4:=oF (x:=d) (n:=64) (by exact hd.2) (by omega);have q240:=fun h=>C.sH d h ⟨by omega,hd.2⟩
 have q324:=fun h=>C.LD (bY d) h ⟨by omega,by omega⟩
 have q325a:=fun h=>C.Eb true h
 have q325b:=fun h=>C.Eb false h
 simp only[if_true]at q325a;simp only[Bool.false_eq_true,if_false]at q325b;obtain⟨n,hn⟩:∃n,n=bY d*78913/262144:=⟨_,rfl⟩;have e1:((bY d:Int)*78913/262144)=(n:Int):=by rw[hn];omega
 rw[e1]at q324;have hn20:n<20:=by omega
 have e2:fH d=if (10:Int)^n<=d then n+1 else n:=by unfold fH;rw[←hn]
 rw[e2];refine bC (by rw[C.ft];exact ZW) (by simp) ?_;unfold Ll;simp only[enter];repeat' first|(apply aki;rfl;omega)|(apply akj (n:=n);rfl;exact hn20)|(apply afd;rfl;rfl)|refine gd0 ?_|refine gc ?_|(intro _;omega)|intro _
 all_goals try omega
 . rename_i h1;rw[if_pos h1];exact⟨.inr rfl,rfl,_,rfl,rfl,rfl⟩
 . rename_i h1;rw[if_neg (by omega)];exact⟨.inr rfl,rfl,_,rfl,by simp[aU],rfl⟩
def iT:ah:=[48,48,48,49,48,50,48,51,48,52,48,53,48,54,48,55,48,56,48,57,49,48,49,49,49,50,49,51,49,52,49,53,49,54,49,55,49,56,49,57,50,48,50,49,50,50,50,51,50,52,50,53,50,54,50,55,50,56,50,57,51,48,51,49,51,50,51,51,51,52,51,53,51,54,51,55,51,56,51,57,52,48,52,49,52,50,52,51,52,52,52,53,52,54,52,55,52,56,52,57,53,48,53,49,53,50,53,51,53,52,53,53,53,54,53,55,53,56,53,57,54,48,54,49,54,50,54,51,54,52,54,53,54,54,54,55,54,56,54,57,55,48,55,49,55,50,55,51,55,52,55,53,55,54,55,55,55,56,55,57,56,48,56,49,56,50,56,51,56,52,56,53,56,54,56,55,56,56,56,57,57,48,57,49,57,50,57,51,57,52,57,53,57,54,57,55,57,56,57,57]
theorem xW:iT.length=200:=by decide +kernel
theorem LF:∀x:Fin 100,iT[x.val*2]! = dJ (x.val/10)/\iT[x.val*2+1]! = dJ (x.val%10):=by decide +kernel
theorem aan {x:Int}(h:0<=x/\x<100):iT[(x*2).toNat]! = dJ (x.toNat/10):=by
 obtain⟨k,rfl⟩:=Int.eq_ofNat_of_zero_le h.1;have:=(LF ⟨k,by omega⟩).1;rw[show ((k:Int)*2).toNat=k*2 by omega];exact this
theorem aao {x:Int}(h:0<=x/\x<100):iT[(x*2+1).toNat]! = dJ (x.toNat%10):=by
 obtain⟨k,rfl⟩:=Int.eq_ofNat_of_zero_le h.1;have:=(LF ⟨k,by omega⟩).2;rw[show ((k:Int)*2+1).toNat=k*2+1 by omega];exact this
def uF:ah:=[48,49,50,51,52,53,54,55,56,57,97,98,99,100,101,102,103,104,105,106,107,108,109,110,111,112,113,114,115,116,117,118,119,120,121,122]
theorem aap:∀x:Fin 10,(uF.drop x.val).take (x.val+1-x.val)=aQ x.val:=by
 intro x;rw[iq x.isLt];revert x;decide +kernel
theorem aaq:∀x:Fin 100,10<=x.val->(iT.drop (x.val*2)).take (x.val*2+2-x.val*2)=aQ x.val:=by
 intro x h;rw[kK (by omega),iq (by omega)];revert x;decide +kernel
theorem ajm {t:Nat}{x y z:aN}{l:List aT}{pe:List AV}{lo:List (Nat×AV)}{hp:ab}{df wr:List Nat}{k k':IntKind}{s:ah}{a b:Int}{Q:aq->Prop}(hx:(St.mk pe lo hp df).ae x=some (.str s))(hy:(St.mk pe lo hp df).ae y=some (.int k a))(hz:(St.mk pe lo hp df).ae z=some (.int k' b))(hb:0<=a/\a<=b/\b<=s.length){r:ah}(hr:(s.drop a.toNat).take (b.toNat-a.toNat)=r)
 (h:WO M l ⟨⟨pe,(t,.str r)::lo,hp,df⟩,wr⟩ Q):WO M (⟨.l t,.slice .str 1 x (some y) (some z) none,none⟩::l) ⟨⟨pe,lo,hp,df⟩,wr⟩ Q:=by
 subst hr;refine aak (v:=.str ((s.drop a.toNat).take (b.toNat-a.toNat))) ?_ rfl h;simp only[aV,hx,St.cT,hy,hz,Option.map_some,jo,bK];have h1:0<=b/\b<=((s.length:Nat):Int):=⟨by omega,hb.2.2⟩;have h2:0<=a/\a<=((b.toNat:Nat):Int):=⟨hb.1,by omega⟩;simp only[if_pos h1,if_pos h2];rfl
set_option maxRecDepth 100000 in
theorem aar (hft:M.FT=FT)(n:Nat)(hn:n<100):aS M 304 [.iV n] [] ⟨.str (aQ n),[],[]⟩:=by
 have e1:(n:Int).toNat=n:=rfl;refine bC (by rw[hft];exact ZU) (by simp) ?_;unfold Lj;simp only[enter];by_cases h:n<10
 . have hc:(uF.drop (n:Int).toNat).take (((n:Int)+1).toNat-(n:Int).toNat)=aQ n:=by rw[show ((n:Int)+1).toNat=n+1 by omega];exact aap ⟨n,h⟩
   have l1:uF.length=36:=rfl;exact gg0
 . have hc:(iT.drop ((n:Int)*2).toNat).take (((n:Int)*2+2).toNat-((n:Int)*2).toNat)=aQ n:=by rw[show ((n:Int)*2+2).toNat=n*2+2 by omega,show ((n:Int)*2).toNat=n*2 by omega];exact aaq ⟨n,hn⟩ (by simp only;omega)
   have l1:=xW;exact gg0
def fD (L:ah)(off n i u:Nat):Prop:=L.length=24/\∀j,i<=j->j<n->L[off+j]! = dJ (u/10^(n-1-j)%10)
theorem Ec {L:ah}{i k:Nat}{v:UInt8}(h:i<L.length):(L.set i v)[k]! = if k=i then v else L[k]! := by
 simp only[List.getElem!_eq_getElem?_getD,List.getElem?_set];by_cases hk:k=i
 . subst hk;simp[h]
 . simp[hk,show ¬i=k from fun e=>hk e.symm]
theorem fD.two {L:ah}{off n i u:Nat}{a b:Nat}{c d:UInt8}(h:fD L off n (i+2) u)(hn:off+n<=24)(hi:i+2<=n)(ha:a=off+i+1)(hb:b=off+i)(hc:c=dJ (u/10^(n-(i+2))%10))(hd:d=dJ (u/10^(n-(i+2))/10%10)):fD ((L.set a c).set b d) off n i u:=by
 subst ha;subst hb;refine⟨by simp[h.1],fun j h1 h2=>?_⟩;rw[Ec (by rw[List.length_set,h.1];omega),Ec (by rw[h.1];omega)];by_cases e1:j=i
 . subst e1;rw[if_pos rfl,hd,Nat.div_div_eq_div_mul,←Nat.pow_succ,show (n-(j+2)).succ=n-1-j by omega]
 . by_cases e2:j=i+1
   . subst e2;rw[if_neg (by omega),if_pos (by omega),hc,show n-(i+2)=n-1-(i+1) by omega]
   . rw[if_neg (by omega),if_neg (by omega)];exact h.2 j (by omega) h2
theorem fD.fin {L:ah}{off n u:Nat}(h:fD L off n 0 u)(hn:off+n<=24):(L.drop off).take n=cC n u:=by
 refine Lt (by rw[List.length_take,List.length_drop,h.1];omega) fun j hj=>?_
 rw[←h.2 j (Nat.zero_le _) hj];simp only[List.getElem!_eq_getElem?_getD,List.getElem?_take,if_pos hj,List.getElem?_drop]
end Go.Ab.Ch1
