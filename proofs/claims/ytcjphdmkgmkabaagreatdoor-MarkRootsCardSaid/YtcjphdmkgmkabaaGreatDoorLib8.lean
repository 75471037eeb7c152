/-
  Own work: integers of any size: quotients of numbers that divide.
-/
import Derived.Test.YtcjphdmkgmkabaaGreatDoorLib7
import Derived.Test.YtcjphdmkgmkabaaGreatDoorCh1Base
import Derived.Test.YtcjphdmkgmkabaaGreatDoorLib6
import Derived.Test.YtcjphdmkgmkabaaGreatDoorLib5
import Derived.Test.YtcjphdmkgmkabaaGreatDoorLib4
import Derived.Test.YtcjphdmkgmkabaaGreatDoorLib3
import Derived.Lib.Bytealg
set_option maxHeartbeats 8000000
set_option maxRecDepth 20000
namespace Go.Ab.Ch1
open Go.Ab.aR
variable {M:ao} {cap:Option Nat} {N:Nat}
structure CQ (M:ao)(N:Nat):Prop extends CD M N where
 uy:∀a b x y,ay a x->ay b y->ah x<wB^N->ah y<wB^N->0<y->∃q r,ay q (x/y)/\ay r (x%y)/\∀h,M.ext 205 [a,b] h=some ⟨.aq [q,r],h,[]⟩
theorem fT {k:IntKind}{n:Int}:cw (.int k n)=true:=rfl
theorem iJ:cw .ae=true:=rfl
theorem ay.shape {v:AV}{z:Int}(h:ay v z):∃s w,v = .agg [.iV s,w]/\cw w=true/\w.top=0/\bx w=w:=by
 cases h with
 | small=>exact⟨_,_,rfl,rfl,rfl,rfl⟩
 | @eW σ z w=>exact⟨_,_,rfl,rfl,gh _,by rw[bx,kd]⟩
theorem ay.one {s:Int}{w:AV}{z:Int}(h:ay (.agg [.iV s,w]) z):cw w=true/\w.top=0/\bx w=w:=by
 obtain⟨s',w',e,h⟩:=h.shape;cases e;exact h
theorem SL (C:CQ M N){a b:AV}{x y k:Int}(ha:ay a x)(hb:ay b y)(lx:ah x<wB^N)(ly:ah y<wB^N)(hy:y≠0)(hk:x=y*k):∃v0,ay v0 k/\cH M 252 [a,b] v0:=by
 have q211:=C.mw b y hb;by_cases hn:y<0
 . rw[show aW y = -1 from if_pos hn]at q211;obtain⟨va,h1,q216a⟩:=C.jY a x ha lx;obtain⟨vb,h2,q216b⟩:=C.jY b y hb ly;have h1:ay va (-x):=h1;have h2:ay vb (-y):=h2;obtain⟨q,r,hq,hr,q205⟩:=C.uy va vb _ _ h1 h2 (by rw[ib];exact lx) (by rw[ib];exact ly) (by omega);have hq:ay q k:=by
    have : -x / -y=k:=by rw[hk,←Int.neg_mul,Int.mul_ediv_cancel_left _ (by omega)]
    rw[←this];exact hq
   refine⟨q,hq,cI (by rw[C.ft];exact GW) (by simp) ?_⟩;have out:=fun hh=>hq.out (hh:=hh)
   obtain⟨_,_,rfl,o1,_⟩:=ha.shape;obtain⟨_,_,rfl,o2,_⟩:=hb.shape;obtain⟨_,_,rfl,o3,_⟩:=hq.shape;obtain⟨_,_,rfl,o4,_⟩:=hr.shape;obtain⟨_,_,rfl,o5,_⟩:=h1.shape;obtain⟨_,_,rfl,o6,_⟩:=h2.shape;unfold Ah;simp only[enter];exact gg14
 . obtain⟨g,hg⟩:∃g,g=aW y:=⟨_,rfl⟩;have g0:0<=g:=by rw[hg];unfold aW;split <;> (first|omega|(split <;> omega))
   rw[←hg]at q211;obtain⟨q,r,hq,hr,q205⟩:=C.uy a b _ _ ha hb lx ly (by omega);have hq:ay q k:=by
    have:x/y=k:=by rw[hk,Int.mul_ediv_cancel_left _ (by omega)]
    rw[←this];exact hq
   refine⟨q,hq,cI (by rw[C.ft];exact GW) (by simp) ?_⟩;have out:=fun hh=>hq.out (hh:=hh)
   obtain⟨_,_,rfl,o1,_⟩:=ha.shape;obtain⟨_,_,rfl,o2,_⟩:=hb.shape;obtain⟨_,_,rfl,o3,_⟩:=hq.shape;obtain⟨_,_,rfl,o4,_⟩:=hr.shape;unfold Ah;simp only[enter];repeat' first|refine gd0 ?_|(apply aaq;rfl;rfl;rfl;exact⟨rfl,Nat.le_refl _,by simp[overwrite,fT,o3,o4]⟩;rfl)|(apply aab;rfl;rfl)|refine gc ?_|(intro _;omega)|intro _
   all_goals try omega
   all_goals exact cA rfl rfl (out _)
set_option maxRecDepth 1000000
def oh:an:=.seq (zR [zm 7 1,zc 8 .gtr 7 0] (.cond (.l 8) (.skip) (.exit 0))) (.seq (.block 1 (.seq (zR [zm 11 1,zc 12 .and 11 1,zc 13 .eql 12 1] (.cond (.l 13) (.region [zt 14 2 4,zt 15 2 2,z2 16 198 14 15,zs 2 4 16]) (.skip))) (zR [zm 17 1,zc 18 .gtr 17 1] (.cond (.l 18) (.region [zt 19 2 2,zt 20 2 2,z2 21 198 19 20,zs 2 2 21]) (.skip))))) (.region [zm 9 1,⟨.l 10,.bin .shr (.l 9) (kU 1),none⟩,zw 1 10]))
def He:an:=zR [zx 2 131 2 0,⟨.p 3,.alloc 131 [.iV (0),.ae],none⟩] (zR [⟨.l 6,.call (kF 168) [(kI 1)],none⟩,⟨.p 4,.alloc 131 [.iV (0),.ae],none⟩,zs 2 4 6] (.seq (.block 0 (.loop oh)) (zR [zt 22 2 4,zs 2 3 22] (.ret))))
theorem SM:FT 215=some ⟨23,[0,1,2,4,5],[.cell 2 true (.p 3)],He⟩:=by kernel_rfl
def Hf:an:=zR [zx 1 131 2 0,⟨.p 2,.alloc 133 [.iV (0),.ae,.iV (0),.ae],none⟩] (.seq (.draw [(zt 3 2 1,[]),(⟨.l 4,.call (kF 168) [(kI 1)],none⟩,[0]),(⟨.l 5,.build [.iV (0),.ae,.iV (0),.ae] [(0,2,(.l 3)),(2,2,(.l 4))],none⟩,[]),(zs 4 2 5,[])]) (.ret))
theorem SN:FT 159=some ⟨6,[0,1,2],[.cell 4 true (.p 2)],Hf⟩:=by kernel_rfl
def Am:an:=zR [zx 2 131 2 0,zx 3 131 2 1,⟨.p 4,.alloc 133 [.iV (0),.ae,.iV (0),.ae],none⟩] (.seq (zR [zt 6 2 3,z1 7 211 6,zc 8 .lss 7 0] (.cond (.l 8) (.draw [(zt 9 2 2,[]),(z1 10 216 9,[]),(zt 11 2 3,[0,1]),(z1 12 216 11,[]),(zs 2 2 10,[]),(zs 2 3 12,[])]) (.skip))) (.seq (zR [zf 13 1 3,zd 14 1 13,⟨.l 15,.eq false (.ref .slice) (.l 14) (.c (.ae)),none⟩,zn 16 15,zg (zf 17 0 3) 16 true,zg (zd 18 1 17) 16 true,zg (zc 19 .eql 18 1) 16 true,zp 20 16 19] (.cond (.l 20) (zR [zt 21 2 2,zt 22 2 3,⟨.l 23,.build [.iV (0),.ae,.iV (0),.ae] [(0,2,(.l 21)),(2,2,(.l 22))],none⟩,zs 4 4 23] (.ret)) (.skip))) (zR [zt 24 2 2,zt 25 2 3,z2 26 165 24 25,⟨.p 5,.alloc 131 [.iV (0),.ae],none⟩,zs 2 5 26] (.seq (.draw [(zt 27 2 2,[]),(zt 28 2 5,[0]),(z2 29 252 27 28,[]),(zt 30 2 3,[0,1,2]),(zt 31 2 5,[0,1,2,3]),(z2 32 252 30 31,[]),(⟨.l 33,.build [.iV (0),.ae,.iV (0),.ae] [(0,2,(.l 29)),(2,2,(.l 32))],none⟩,[]),(zs 4 4 33,[])]) (.ret)))))
theorem Hg:FT 203=some ⟨34,[0,1,2,3,4,5],[.cell 4 true (.p 4)],Am⟩:=by kernel_rfl
def Hh:an:=zR [zx 1 133 4 0,⟨.p 2,.alloc 133 [.iV (0),.ae,.iV (0),.ae],none⟩] (.seq (.draw [(zf 3 0 1,[]),(zT 4 2 3,[]),(z1 5 216 4,[]),(zf 6 2 1,[0,1,2]),(zT 7 2 6,[0,1,2]),(⟨.l 8,.build [.iV (0),.ae,.iV (0),.ae] [(0,2,(.l 5)),(2,2,(.l 7))],none⟩,[]),(zs 4 2 8,[])]) (.ret))
theorem SO:FT 199=some ⟨9,[0,1,2],[.cell 4 true (.p 2)],Hh⟩:=by kernel_rfl
def Hi:an:=zR [zx 1 133 4 0,⟨.p 2,.alloc 133 [.iV (0),.ae,.iV (0),.ae],none⟩] (zR [zf 3 2 1,zT 4 2 3,zf 5 0 1,zT 6 2 5,z2 7 203 4 6,zs 4 2 7] (.ret))
theorem SP:FT 200=some ⟨8,[0,1,2],[.cell 4 true (.p 2)],Hi⟩:=by kernel_rfl
def Hj:an:=zR [zx 1 133 4 0,⟨.p 2,.mv (.c (.bool false)),none⟩] (zR [zf 3 2 1,⟨.l 4,.mR 1 (.l 3),none⟩,zd 5 1 4,⟨.l 6,.eq false (.ref .slice) (.l 5) (.c (.ae)),none⟩,zn 7 6,zg (zf 8 2 1) 7 true,⟨.l 9,.mR 0 (.l 8),some ((.l 7),true)⟩,zg (zd 10 1 9) 7 true,zg (zc 11 .eql 10 1) 7 true,zp 12 7 11,zw 2 12] (.ret))
theorem SR:FT 201=some ⟨13,[0,1,2],[.var (.p 2)],Hj⟩:=by kernel_rfl
def An:an:=zR [zx 2 133 4 0,zx 3 133 4 1,⟨.p 4,.alloc 133 [.iV (0),.ae,.iV (0),.ae],none⟩] (.seq (zR [zt 5 4 2,z1 6 201 5,zn 7 6,zg (zt 8 4 3) 7 true,zg (z1 9 201 8) 7 true,zp 10 7 9] (.cond (.l 10) (zR [zf 11 0 2,zT 12 2 11,zf 13 0 3,zT 14 2 13,z2 15 202 12 14,z1 16 159 15,zs 4 4 16] (.ret)) (.skip))) (.seq (.draw [(zf 17 0 2,[]),(zT 18 2 17,[]),(zf 19 2 3,[0,1]),(zT 20 2 19,[0,1]),(z2 21 198 18 20,[]),(zf 22 0 3,[0,1,2,3,4]),(zT 23 2 22,[0,1,2,3,4]),(zf 24 2 2,[0,1,2,3,4,5,6]),(zT 25 2 24,[0,1,2,3,4,5,6]),(z2 26 198 23 25,[]),(z2 27 202 21 26,[]),(zf 28 2 2,[0,1,2,3,4,5,6,7,8,9,10]),(zT 29 2 28,[0,1,2,3,4,5,6,7,8,9,10]),(zf 30 2 3,[0,1,2,3,4,5,6,7,8,9,10,11,12]),(zT 31 2 30,[0,1,2,3,4,5,6,7,8,9,10,11,12]),(z2 32 198 29 31,[]),(z2 33 203 27 32,[]),(zs 4 4 33,[])]) (.ret)))
theorem Hk:FT 151=some ⟨34,[0,1,2,3,4],[.cell 4 true (.p 4)],An⟩:=by kernel_rfl
def Hl:an:=zR [zx 2 133 4 0,zx 3 133 4 1,⟨.p 4,.alloc 133 [.iV (0),.ae,.iV (0),.ae],none⟩] (.seq (.draw [(zf 5 0 2,[]),(zT 6 2 5,[]),(zf 7 0 3,[0,1]),(zT 8 2 7,[0,1]),(z2 9 198 6 8,[]),(zf 10 2 2,[0,1,2,3,4]),(zT 11 2 10,[0,1,2,3,4]),(zf 12 2 3,[0,1,2,3,4,5,6]),(zT 13 2 12,[0,1,2,3,4,5,6]),(z2 14 198 11 13,[]),(z2 15 203 9 14,[]),(zs 4 4 15,[])]) (.ret))
theorem SS:FT 152=some ⟨16,[0,1,2,3,4],[.cell 4 true (.p 4)],Hl⟩:=by kernel_rfl
def ic (v:AV)(n d:Int):Prop:=∃s w s' w',v = .agg [.iV s,w,.iV s',w']/\ay (.agg [.iV s,w]) n/\ay (.agg [.iV s',w']) d
theorem ic.out {v:AV}{n d:Int}{hh:ab}(h:ic v n d):eZ (aQ [v]) hh v:=by
 obtain⟨s,w,s',w',rfl,h1,h2⟩:=h;obtain⟨_,t1,c1⟩:=h1.one;obtain⟨_,t2,c2⟩:=h2.one;exact .same (by simp[aQ,AV.top,aY,t1,t2]) (by simp[aQ,bx,cB,c1,c2])
structure CF (M:ao)(N:Nat):Prop extends CQ M N where
 Hm:∀v z,ay v z->∃v0,ic v0 z 1/\∀h,M.ext 159 [v] h=some ⟨v0,h,[]⟩
 SU:∀a b x y,ay a x->ay b y->ah x<wB^N->ah y<wB^N->∀h,M.ext 167 [a,b] h=some ⟨.iV (aW (x-y)),h,[]⟩
 jZ:ux M N 198 (· * ·)
theorem SV (C:CD M N){v:AV}{z:Int}(hv:ay v z):∃v0,ic v0 z 1/\cH M 159 [v] v0:=by
 obtain⟨s,w,rfl,o1,_⟩:=hv.shape;have q168:=C.oe 1;have hf:ic (.agg [.iV s,w,.iV 1,.ae]) z 1:=⟨_,_,_,_,rfl,hv,.small (by decide)⟩;refine⟨_,hf,cI (by rw[C.ft];exact SN) (by simp) ?_⟩;have out:=fun hh=>hf.out (hh:=hh)
 unfold Hf;simp only[enter];repeat' first|refine gd1 ?_|refine gd19 ?_|refine gc ?_|fail
 exact cA rfl rfl (out _)
theorem SW (C:CJ M N){v:AV}{n d:Int}(hv:ic v n d)(ln:ah n<wB^N):∃v0,ic v0 (-n) d/\cH M 199 [v] v0:=by
 obtain⟨s1,w,s',w',rfl,h1,h2⟩:=hv;obtain⟨v1,h3,q216⟩:=C.jY _ n h1 ln;obtain⟨s3,w3,rfl,o3,_⟩:=h3.shape;obtain⟨o1,_⟩:=h1.one;obtain⟨o2,_⟩:=h2.one;have hf:ic (.agg [.iV s3,w3,.iV s',w']) (-n) d:=⟨_,_,_,_,rfl,h3,h2⟩;refine⟨_,hf,cI (by rw[C.ft];exact SO) (by simp) ?_⟩;have out:=fun hh=>hf.out (hh:=hh)
 unfold Hh;simp only[enter];repeat' first|refine gd1 ?_|(apply aaq;rfl;rfl;rfl;exact⟨rfl,Nat.le_refl _,by simp[overwrite,fT,o2,o3]⟩;rfl)|refine gc ?_|fail
 exact cA rfl rfl (out _)
section
variable {t n m:Nat} {x y:ax} {l:List aO} {pe:List AV} {lo:List (Nat×AV)} {H:ab} {df wr:List Nat} {c c' new:List AV} {e:TypeId} {a:Option bc} {Q:al->Prop}
theorem acU (hx:(St.mk pe lo (H++[some (.cells c e)]++[a]) df).aa x=some (.ptr H.length 0))(hy:((St.mk pe lo (H++[some (.cells c e)]++[a]) df).aa y).bind AV.cells=some new)(hn:new.length=n/\0+n<=c.length/\new.all cw=true)(hc:overwrite c 0 new=c')
 (h:WO M l ⟨⟨pe,lo,H++[some (.cells c' e)]++[a],df⟩,H.length::wr⟩ Q):WO M (⟨.no,.store n x y,none⟩::l) ⟨⟨pe,lo,H++[some (.cells c e)]++[a],df⟩,wr⟩ Q:=by
 refine aaq hx hy (de cN) hn hc ?_;have:ab.put (H++[some (.cells c e)]++[a]) H.length (some (.cells c' e))=H++[some (.cells c' e)]++[a]:=by
  simp[ab.put]
 rw[this];exact h
theorem acV (hx:(St.mk pe lo (H++[a]++[some (.cells c e)]) df).aa x=some (.ptr m 0))(hy:((St.mk pe lo (H++[a]++[some (.cells c e)]) df).aa y).bind AV.cells=some new)(hm:m=H.length+1)(hn:new.length=n/\0+n<=c.length/\new.all cw=true)(hc:overwrite c 0 new=c')
 (h:WO M l ⟨⟨pe,lo,H++[a]++[some (.cells c' e)],df⟩,m::wr⟩ Q):WO M (⟨.no,.store n x y,none⟩::l) ⟨⟨pe,lo,H++[a]++[some (.cells c e)],df⟩,wr⟩ Q:=by
 subst hm;have hl:H.length+1=(H++[a]).length:=by simp
 rw[hl]at hx h;refine aaq hx hy cN hn hc ?_;have:ab.put (H++[a]++[some (.cells c e)]) (H++[a]).length (some (.cells c' e))=H++[a]++[some (.cells c' e)]:=GF;rw[this];exact h
theorem acW {ag:Bool}{v:AV}(hx:(St.mk pe lo (H++[a]++[some (.cells c e)]) df).aa x=some (.ptr m 0))(hm:m=H.length+1)(hv:partOf (c.drop 0) 0 n ag=some v)
 (h:WO M l ⟨⟨pe,(t,v)::lo,H++[a]++[some (.cells c e)],df⟩,wr⟩ Q):WO M (⟨.l t,.load n ag x,none⟩::l) ⟨⟨pe,lo,H++[a]++[some (.cells c e)],df⟩,wr⟩ Q:=by
 subst hm;have hl:H.length+1=(H++[a]).length:=by simp
 rw[hl]at hx;exact abt hx cN hv h
end
theorem Hn {x y:Int}:Int.gcd y (x%y)=Int.gcd x y:=by
 have h:=Int.gcd_add_mul_left_right y (x%y) (x/y);rw[Int.emod_add_mul_ediv]at h;rw[←h,Int.gcd_comm]
def qE (s s':Int)(w w':AV)(J:ab):ab:=[some (.cells [.iV s,w] 131),some (.cells [.iV s',w'] 131),some (.cells [.iV 0,.ae] 131)]++J
theorem SX (C:CQ M N){G:Nat}{Q:Ex->al->Prop}(a0 a1:AV)
 (hQ:∀s s' w w' J p5 lo wr (x:Int),ay (.agg [.iV s,w]) x->x=G->Q (.exit 0) ⟨⟨[a0,a1,.ptr 0 0,.ptr 1 0,.ptr 2 0,p5],lo,qE s s' w w' J,[]⟩,wr⟩)
 (s s':Int) (w w':AV) (J:ab) (p5:AV) (lo:List (Nat×AV)) (wr:List Nat) (x y:Int) (hx:ay (.agg [.iV s,w]) x) (hy:ay (.agg [.iV s',w']) y) (x0:0<=x/\x<wB^N) (y0:0<=y/\y<wB^N) (hG:Int.gcd x y=G) :
 W M (.loop uw) ⟨⟨[a0,a1,.ptr 0 0,.ptr 1 0,.ptr 2 0,p5],lo,qE s s' w w' J,[]⟩,wr⟩ Q:=by
 refine W.fH (fun m st=>∃s s' w w' J p5 lo wr x y,st=⟨⟨[a0,a1,.ptr 0 0,.ptr 1 0,.ptr 2 0,p5],lo,qE s s' w w' J,[]⟩,wr⟩/\m=y.toNat/\ay (.agg [.iV s,w]) x/\ay (.agg [.iV s',w']) y/\(0<=x/\x<wB^N)/\(0<=y/\y<wB^N)/\Int.gcd x y=G)
  (fun m st ⟨s,s',w,w',J,p5,lo,wr,x,y,hst,hm,hx,hy,x0,y0,hG⟩=>?_) (m:=y.toNat) ⟨s,s',w,w',J,p5,lo,wr,x,y,rfl,rfl,hx,hy,x0,y0,hG⟩
 subst hst;subst hm;have q211:=C.mw _ y hy;by_cases h0:y=0
 . subst h0;have e:x=G:=by rw[←hG,Int.gcd_zero];omega
   rw[show aW 0=0 from rfl]at q211;unfold uw;exact gg7
 . rw[show aW y=1 by unfold aW;rw[if_neg (by omega),if_pos (by omega)]]at q211;obtain⟨q,r,hq,hr,q205⟩:=C.uy _ _ x y hx hy (by rw[cd x0.1];exact x0.2) (by rw[cd y0.1];exact y0.2) (by omega);obtain⟨o1,_⟩:=hx.one;obtain⟨o2,_⟩:=hy.one;obtain⟨s1,w1,rfl,o3,_⟩:=hq.shape;obtain⟨s2,w2,rfl,o4,_⟩:=hr.shape;have r0:=Int.emod_nonneg x (show y≠0 by omega);have r1:=Int.emod_lt_of_pos x (show 0<y by omega);have next:∀J p5 lo wr,LI (fun st=>∃m',m'<y.toNat/\∃s s' w w' J p5 lo wr x y,st=⟨⟨[a0,a1,.ptr 0 0,.ptr 1 0,.ptr 2 0,p5],lo,qE s s' w w' J,[]⟩,wr⟩/\m'=y.toNat/\ay (.agg [.iV s,w]) x/\ay (.agg [.iV s',w']) y/\(0<=x/\x<wB^N)/\(0<=y/\y<wB^N)/\Int.gcd x y=G) Q .normal ⟨⟨[a0,a1,.ptr 0 0,.ptr 1 0,.ptr 2 0,p5],lo,qE s' s2 w' w2 J,[]⟩,wr⟩:=fun J p5 lo wr=>
    cL ⟨(x%y).toNat,by omega,_,_,_,_,J,p5,lo,wr,y,x%y,rfl,rfl,hy,hr,y0,⟨r0,by omega⟩,by rw[Hn,hG]⟩
   unfold uw;exact gg15
structure CG (M:ao)(N:Nat):Prop extends CQ M N where
 Ao:Op1 M N 210 ah
theorem SY {x y:Int}:Int.gcd (ah x) (ah y)=Int.gcd x y:=by
 have h:∀z:Int,(ah z).natAbs=z.natAbs:=fun z=>by unfold ah;split <;> omega
 show Nat.gcd _ _=Nat.gcd _ _;rw[h,h]
theorem SZ (C:CG M N){a b:AV}{x y:Int}(ha:ay a x)(hb:ay b y)(lx:ah x<wB^N)(ly:ah y<wB^N):∃v0,ay v0 (Int.gcd x y:Nat)/\cH M 165 [a,b] v0:=by
 obtain⟨va,h1,q210a⟩:=C.Ao a x ha lx;obtain⟨vb,h2,q210b⟩:=C.Ao b y hb ly;obtain⟨sa,wa,rfl,o1,_⟩:=ha.shape;obtain⟨sb,wb,rfl,o2,_⟩:=hb.shape;obtain⟨s1,w1,rfl,o3,_⟩:=h1.shape;obtain⟨s2,w2,rfl,o4,_⟩:=h2.shape;obtain⟨v,hh,⟨v0,h0,ho⟩,hr⟩:=gA (M:=M) (f:=165) (ars:=[.agg [.iV sa,wa],.agg [.iV sb,wb]]) (P:=fun v hh=>∃v0,ay v0 (Int.gcd x y:Nat)/\eZ v hh v0) (by rw[C.ft];exact Sq) (by simp) (by
  unfold GX;simp only[enter];refine gg19 ?_;refine SX C.toCQ (G:=Int.gcd x y) _ _ (fun s s' w w' J p5 lo wr g hg eg=>?_) s1 s2 w1 w2 [] _ _ _ (ah x) (ah y) h1 h2 ⟨iX,lx⟩ ⟨iX,ly⟩ SY;obtain⟨o5,t5,k5⟩:=hg.one;repeat' first|(apply aaq;rfl;rfl;rfl;exact⟨rfl,Nat.le_refl _,by simp[fT,o5]⟩;rfl)|refine gc ?_|fail
  rw[eg]at hg;exact⟨.inr rfl,rfl,_,rfl,_,hg,hg.out⟩)
 exact⟨v0,h0,v,hh,ho,hr⟩
def bR (v:AV)(q:Rat):Prop:=ic v q.num q.den
structure CR (M:ao)(N:Nat):Prop extends CG M N where
 Ho:∀a b x y,ay a x->ay b y->ah x<wB^N->ah y<wB^N->∃v0,ay v0 (Int.gcd x y:Nat)/\∀h,M.ext 165 [a,b] h=some ⟨v0,h,[]⟩
 Ap:∀a b x y k,ay a x->ay b y->ah x<wB^N->ah y<wB^N->y≠0->x=y*k->∃v0,ay v0 k/\∀h,M.ext 252 [a,b] h=some ⟨v0,h,[]⟩
def t203:an:=
 .seq (zR [zf 13 1 3,
       zd 14 1 13,
       ⟨(.l 15),.eq false (.ref .slice) (.l 14) (.c (.ae)),none⟩,
       zn 16 15,
       zg (zf 17 0 3) 16 true,
       zg (zd 18 1 17) 16 true,
       zg (zc 19 .eql 18 1) 16 true,
       zp 20 16 19]
     (
      .cond (.l 20)
      (
       zR [zt 21 2 2,
         zt 22 2 3,
         ⟨(.l 23),.build [.iV (0),.ae,.iV (0),.ae] [(0,2,(.l 21)),(2,2,(.l 22))],none⟩,
         zs 4 4 23]
       (.ret))
      (.skip)))
    (
     zR [zt 24 2 2,
       zt 25 2 3,
       z2 26 165 24 25,
       ⟨(.p 5),.alloc 131 [.iV (0),.ae],none⟩,
       zs 2 5 26]
     (
      .seq (.draw [(zt 27 2 2,[]),
        (zt 28 2 5,[0]),
        (z2 29 252 27 28,[]),
        (zt 30 2 3,[0,1,2]),
        (zt 31 2 5,[0,1,2,3]),
        (z2 32 252 30 31,[]),
        (⟨(.l 33),.build [.iV (0),.ae,.iV (0),.ae] [(0,2,(.l 29)),(2,2,(.l 32))],none⟩,[]),
        (zs 4 4 33,[])])
      (.ret)))
theorem uz {n:Int}:(Rat.divInt n 1).num=n/\(Rat.divInt n 1).den=1:=by
 refine⟨?_,?_⟩
 . rw[Rat.num_divInt];simp
 . rw[Rat.den_divInt];simp
theorem uA {n d:Int}(h:0<d):∃k1 k2:Int,n=(Int.gcd n d:Nat)*k1/\d=(Int.gcd n d:Nat)*k2/\(Rat.divInt n d).num=k1/\((Rat.divInt n d).den:Int)=k2:=by
 have g0:(Int.gcd n d:Int)≠0:=by
  have:=Int.gcd_pos_of_ne_zero_right n (show d≠0 by omega);omega
 obtain⟨k1,h1⟩:=Int.gcd_dvd_left n d;obtain⟨k2,h2⟩:=Int.gcd_dvd_right n d;refine⟨k1,k2,h1,h2,?_,?_⟩
 . rw[Rat.num_divInt,Int.sign_eq_one_of_pos h,Int.one_mul,Int.gcd_comm d n];exact Int.ediv_eq_of_eq_mul_right g0 h1
 . rw[Rat.den_divInt,if_neg (by omega),Int.gcd_comm d n];have e:((d.natAbs/Int.gcd n d:Nat):Int)=d/(Int.gcd n d:Int):=by
    rw[Int.natCast_ediv,Int.natAbs_of_nonneg (by omega)]
   rw[e];exact Int.ediv_eq_of_eq_mul_right g0 h2
theorem Ta {x y:Int}(h:0<y):ah (Int.gcd x y:Nat)<=ah y:=by
 have:=Int.le_of_dvd h (Int.gcd_dvd_right x y);rw[cd (by omega),cd (by omega)];exact this
theorem Hp (C:CR M N){s s' n d:Int}{w w':AV}(hn:ay (.agg [.iV s,w]) n)(hd:ay (.agg [.iV s',w']) d)(ln:ah n<wB^N)(ld:ah d<wB^N)(d0:0<d) :
 ∃v0,bR v0 (Rat.divInt n d)/\∀a0 a1 p5 lo wr,W M t203 ⟨⟨[a0,a1,.ptr 0 0,.ptr 1 0,.ptr 2 0,p5],lo,[some (.cells [.iV s,w] 131),some (.cells [.iV s',w'] 131),some (.cells [.iV 0,.ae,.iV 0,.ae] 133)],[]⟩,wr⟩ (jX v0 [.cell 4 true (.p 4)]):=by
 obtain⟨o1,_⟩:=hn.one;by_cases h1:d=1/\w' = .ae
 . obtain⟨rfl,rfl⟩:=h1;have hs:s'=1:=by cases hd;rfl
   subst hs;have hf:bR (.agg [.iV s,w,.iV 1,.ae]) (Rat.divInt n 1):=by
    unfold bR;rw[uz.1,uz.2];exact⟨_,_,_,_,rfl,hn,hd⟩
   refine⟨_,hf,fun a0 a1 p5 lo wr=>?_⟩;have out:=fun hh=>hf.out (hh:=hh)
   unfold t203;repeat' first|refine gd19 ?_|(apply aak;rfl;rfl)|refine gc ?_|(intro _;omega)|intro _
   all_goals try omega
   all_goals exact cA rfl rfl (out _)
 . obtain⟨k1,k2,e1,e2,e3,e4⟩:=uA (n:=n) d0;obtain⟨vg,hg,q165⟩:=C.Ho _ _ n d hn hd ln ld;have lg:ah (Int.gcd n d:Nat)<wB^N:=Int.lt_of_le_of_lt (Ta d0) ld;have g0:(Int.gcd n d:Int)≠0:=by
    have:=Int.gcd_pos_of_ne_zero_right n (show d≠0 by omega);omega
   obtain⟨v1,hv1,q252a⟩:=C.Ap _ vg n _ k1 hn hg ln lg g0 e1;obtain⟨v2,hv2,q252b⟩:=C.Ap _ vg d _ k2 hd hg ld lg g0 e2;obtain⟨sg,wg,rfl,og,_⟩:=hg.shape;obtain⟨s1,w1,rfl,o3,_⟩:=hv1.shape;obtain⟨s2,w2,rfl,o4,_⟩:=hv2.shape;have hf:bR (.agg [.iV s1,w1,.iV s2,w2]) (Rat.divInt n d):=by
    unfold bR;rw[e3,e4];exact⟨_,_,_,_,rfl,hv1,hv2⟩
   refine⟨_,hf,fun a0 a1 p5 lo wr=>?_⟩;have out:=fun hh=>hf.out (hh:=hh)
   unfold t203;cases hd with
   | small h=>
    have h2:s'≠1:=fun e=>h1 ⟨e,rfl⟩
    exact gg7
   | @eW σ z ww hs ok nr hw hz=>
    cases ww with
    | nil=>simp[WV]at hw
    | cons y ww=>
    exact gg7
theorem Tb (C:CR M N){a b:AV}{n d:Int}(ha:ay a n)(hb:ay b d)(ln:ah n<wB^N)(ld:ah d<wB^N)(d0:d≠0):∃v0,bR v0 (Rat.divInt n d)/\cH M 203 [a,b] v0:=by
 have q211:=C.mw b d hb;by_cases hn:d<0
 . rw[show aW d = -1 from if_pos hn]at q211;obtain⟨va,h1,q216a⟩:=C.jY a n ha ln;obtain⟨vb,h2,q216b⟩:=C.jY b d hb ld;have h1:ay va (-n):=h1;have h2:ay vb (-d):=h2;obtain⟨_,_,rfl,o1,_⟩:=ha.shape;obtain⟨_,_,rfl,o2,_⟩:=hb.shape;obtain⟨_,_,rfl,o3,_⟩:=h1.shape;obtain⟨_,_,rfl,o4,_⟩:=h2.shape;obtain⟨v0,hf,tl⟩:=Hp C h1 h2 (by rw[ib];exact ln) (by rw[ib];exact ld) (by omega);rw[Rat.neg_divInt_neg]at hf;refine⟨v0,hf,cI (by rw[C.ft];exact Hg) (by simp) ?_⟩;unfold Am;simp only[enter];repeat' first|(exact tl _ _ _ _ _)|refine gd0 ?_|refine gd1 ?_|(apply aaq;rfl;rfl;rfl;exact⟨rfl,Nat.le_refl _,by simp[fT,o3,o4]⟩;rfl)|(apply aab;rfl;rfl)|refine gc ?_|(intro _;omega)|intro _
   all_goals try omega
 . obtain⟨g,hg⟩:∃g,g=aW d:=⟨_,rfl⟩;have g0:0<=g:=by rw[hg];unfold aW;split <;> (first|omega|(split <;> omega))
   rw[←hg]at q211;obtain⟨_,_,rfl,o1,_⟩:=ha.shape;obtain⟨_,_,rfl,o2,_⟩:=hb.shape;obtain⟨v0,hf,tl⟩:=Hp C ha hb ln ld (by omega);refine⟨v0,hf,cI (by rw[C.ft];exact Hg) (by simp) ?_⟩;unfold Am;simp only[enter];exact gg14
def Bq (N:Nat)(q:Rat):Prop:=ah q.num<wB^N/\(q.den:Int)<wB^N
structure CS (M:ao)(N N2:Nat):Prop extends CF M N where
 eW:CF M N2
 hN:2*N+1<=N2
 uB:∀a b n d,ay a n->ay b d->ah n<wB^N2->ah d<wB^N2->d≠0->∃v0,bR v0 (Rat.divInt n d)/\∀h,M.ext 203 [a,b] h=some ⟨v0,h,[]⟩
theorem den_pos {q:Rat}:0<(q.den:Int):=by have:=q.den_pos;omega
theorem qF {x y:Int}:ah (x*y)=ah x*ah y:=by
 have h:∀z:Int,ah z=(z.natAbs:Int):=fun z=>by unfold ah;split <;> omega
 rw[h,h,h,Int.natAbs_mul,Int.natCast_mul]
variable {N2:Nat}
theorem CS.qG (C:CS M N N2){x y:Int}(hx:ah x<wB^N)(hy:ah y<wB^N):ah (x*y)<wB^N2:=by
 rw[qF];have h1:=Int.mul_le_mul_of_nonneg_left (Int.le_of_lt hy) (iX (x:=x));have hp:(0:Int)<wB^N:=Int.pow_pos (by decide);have h2:=Int.mul_lt_mul_of_pos_right hx hp;have h3:=fI (b:=wB) (by decide) (m:=N+N) (n:=N2) (by have:=C.hN;omega);rw[Int.pow_add]at h3;omega
theorem Tc (C:CS M N N2){a b:AV}{p q:Rat}(ha:bR a p)(hb:bR b q)(lp:Bq N p)(lq:Bq N q):∃v0,bR v0 (p*q)/\cH M 152 [a,b] v0:=by
 obtain⟨s1,w1,s2,w2,rfl,h1,h2⟩:=ha;obtain⟨s3,w3,s4,w4,rfl,h3,h4⟩:=hb;have dp:=den_pos (q:=p);have dq:=den_pos (q:=q);obtain⟨v1,k1,q198a⟩:=C.jZ _ _ _ _ h1 h3 lp.1 lq.1;obtain⟨v2,k2,q198b⟩:=C.jZ _ _ _ _ h2 h4 (by rw[cd (by omega)];exact lp.2) (by rw[cd (by omega)];exact lq.2);obtain⟨v0,k0,q203⟩:=C.uB v1 v2 _ _ k1 k2 (C.qG lp.1 lq.1) (C.qG (by rw[cd (by omega)];exact lp.2) (by rw[cd (by omega)];exact lq.2)) (Int.ne_of_gt (Int.mul_pos dp dq));have k0:bR v0 (p*q):=by
  have e:=Rat.divInt_mul_divInt p.num q.num (d₁:=p.den) (d₂:=q.den);rw[Rat.num_divInt_den,Rat.num_divInt_den]at e;rw[e];exact k0
 refine⟨v0,k0,cI (by rw[C.ft];exact SS) (by simp) ?_⟩;have out:=fun hh=>k0.out (hh:=hh)
 obtain⟨s5,w5,s6,w6,rfl,h5,h6⟩:=k0;obtain⟨o5,_⟩:=h5.one;obtain⟨o6,_⟩:=h6.one;unfold Hl;simp only[enter];repeat' first|refine gd1 ?_|refine gd8 ?_|refine gc ?_|fail
 all_goals exact cA rfl rfl (out _)
theorem Td (hft:M.FT=FT){v:AV}{q:Rat}(hv:bR v q):cH M 201 [v] (.bool (decide (q.den=1))):=by
 obtain⟨s1,w1,s2,w2,rfl,h1,h2⟩:=hv;generalize hd:(q.den:Int)=d at h2;refine cI (by rw[hft];exact SR) (by simp) ?_;unfold Hj;simp only[enter];cases h2 with
 | small h=>
  by_cases h1:q.den=1
  . rw[decide_eq_true h1];exact gg6
  . rw[decide_eq_false h1];exact gg6
 | @eW σ z w hs ok nr hw hz=>
  have hz:=hz;have h1:q.den≠1:=by
   have:=den_pos (q:=q);rcases hs with rfl|rfl <;> omega
  rw[decide_eq_false h1];cases w with
  | nil=>simp[WV]at hw
  | cons y w=>
  exact gg0
structure Aq (M:ao)(N N2:Nat):Prop extends CS M N N2 where
 Ar:∀v q,bR v q->∀h,M.ext 201 [v] h=some ⟨.bool (decide (q.den=1)),h,[]⟩
theorem bR.one {v:AV}{n:Int}(h:ic v n 1):bR v (Rat.divInt n 1):=by
 unfold bR;rw[uz.1,uz.2];exact h
theorem ot (p q:Rat):p+q=Rat.divInt (p.num*q.den+q.num*p.den) (p.den*q.den):=by
 have dp:=den_pos (q:=p);have dq:=den_pos (q:=q);have e:=Rat.divInt_add_divInt p.num q.num (d₁:=p.den) (d₂:=q.den) (by omega) (by omega);rwa [Rat.num_divInt_den,Rat.num_divInt_den]at e
theorem CS.Te (C:CS M N N2){x y x' y':Int}(hx:ah x<wB^N)(hy:ah y<wB^N)(hx':ah x'<wB^N)(hy':ah y'<wB^N):ah (x*y+x'*y')<wB^N2:=by
 have hp:(0:Int)<wB^N:=Int.pow_pos (by decide);have key:∀{x y:Int},ah x<wB^N->ah y<wB^N->ah (x*y)<wB^(N+N):=fun {x y} hx hy=>by
  rw[qF,Int.pow_add];have h1:=Int.mul_le_mul_of_nonneg_left (Int.le_of_lt hy) (iX (x:=x));have h2:=Int.mul_lt_mul_of_pos_right hx hp;omega
 have k1:=key hx hy;have k2:=key hx' hy';have k3:ah (x*y+x'*y')<=ah (x*y)+ah (x'*y'):=by unfold ah;split <;> split <;> split <;> omega
 have h3:=fI (b:=wB) (by decide) (m:=N+N+1) (n:=N2) (by have:=C.hN;omega);have hq:(0:Int)<wB^(N+N):=Int.pow_pos (by decide);have e:wB^(N+N+1)=wB^(N+N)*18446744073709551616:=Int.pow_succ _ _;omega
theorem Tf (C:Aq M N N2){a b:AV}{p q:Rat}(ha:bR a p)(hb:bR b q)(lp:Bq N p)(lq:Bq N q):∃v0,bR v0 (p+q)/\cH M 151 [a,b] v0:=by
 have q201a:=C.Ar a p ha;have q201b:=C.Ar b q hb;obtain⟨s1,w1,s2,w2,rfl,h1,h2⟩:=ha;obtain⟨s3,w3,s4,w4,rfl,h3,h4⟩:=hb;have dp:=den_pos (q:=p);have dq:=den_pos (q:=q);have hdp:ah (p.den:Int)<wB^N:=by rw[cd (by omega)];exact lp.2
 have hdq:ah (q.den:Int)<wB^N:=by rw[cd (by omega)];exact lq.2
 by_cases hw:p.den=1/\q.den=1
 . obtain⟨v1,k1,q202⟩:=C.od _ _ _ _ h1 h3 lp.1 lq.1;obtain⟨v0,k0,q159⟩:=C.Hm _ _ k1;have k0:bR v0 (p+q):=by
    have:=bR.one k0;rw[ot,hw.1,hw.2];simpa using this
   refine⟨v0,k0,cI (by rw[C.ft];exact Hk) (by simp) ?_⟩;have out:=fun hh=>k0.out (hh:=hh)
   obtain⟨s5,w5,s6,w6,rfl,h5,h6⟩:=k0;obtain⟨o5,_⟩:=h5.one;obtain⟨o6,_⟩:=h6.one;rw[decide_eq_true hw.1]at q201a;rw[decide_eq_true hw.2]at q201b;unfold An;simp only[enter];repeat' first|refine gd0 ?_|refine gd8 ?_|refine gc ?_|fail
   all_goals exact cA rfl rfl (out _)
 . obtain⟨v1,k1,q198a⟩:=C.jZ _ _ _ _ h1 h4 lp.1 hdq;obtain⟨v2,k2,q198b⟩:=C.jZ _ _ _ _ h3 h2 lq.1 hdp;obtain⟨v3,k3,q202⟩:=C.eW.od v1 v2 _ _ k1 k2 (C.qG lp.1 hdq) (C.qG lq.1 hdp);obtain⟨v4,k4,q198c⟩:=C.jZ _ _ _ _ h2 h4 hdp hdq;obtain⟨v0,k0,q203⟩:=C.uB v3 v4 _ _ k3 k4 (C.Te lp.1 hdq lq.1 hdp) (C.qG hdp hdq) (Int.ne_of_gt (Int.mul_pos dp dq));have k0:bR v0 (p+q):=by rw[ot];exact k0
   refine⟨v0,k0,cI (by rw[C.ft];exact Hk) (by simp) ?_⟩;have out:=fun hh=>k0.out (hh:=hh)
   obtain⟨s5,w5,s6,w6,rfl,h5,h6⟩:=k0;obtain⟨o5,_⟩:=h5.one;obtain⟨o6,_⟩:=h6.one;unfold An;simp only[enter];by_cases hp1:p.den=1
   . have hq1:q.den≠1:=fun e=>hw ⟨hp1,e⟩
     rw[decide_eq_true hp1]at q201a;rw[decide_eq_false hq1]at q201b;repeat' first|refine gd0 ?_|refine gd1 ?_|refine gd8 ?_|refine gc ?_|fail
     all_goals exact cA rfl rfl (out _)
   . rw[decide_eq_false hp1]at q201a;repeat' first|refine gd0 ?_|refine gd1 ?_|refine gd8 ?_|refine gc ?_|fail
     all_goals exact cA rfl rfl (out _)
theorem Tg (C:CJ M N){v:AV}{q:Rat}(hv:bR v q)(lq:Bq N q):∃v0,bR v0 (-q)/\cH M 199 [v] v0:=by
 obtain⟨v0,h0,hr⟩:=SW C hv lq.1;exact⟨v0,h0,hr⟩
structure CU (M:ao)(N N2:Nat):Prop extends Aq M N N2 where
 Th:∀v q,bR v q->Bq N q->∃v0,bR v0 (-q)/\∀h,M.ext 199 [v] h=some ⟨v0,h,[]⟩
 Ti:∀v q,bR v q->Bq N q->q≠0->∃v0,bR v0 q⁻¹/\∀h,M.ext 200 [v] h=some ⟨v0,h,[]⟩
 Tj:∀a b p q,bR a p->bR b q->Bq N p->Bq N q->∃v0,bR v0 (p+q)/\∀h,M.ext 151 [a,b] h=some ⟨v0,h,[]⟩
 Tk:∀a b p q,bR a p->bR b q->Bq N p->Bq N q->∃v0,bR v0 (p*q)/\∀h,M.ext 152 [a,b] h=some ⟨v0,h,[]⟩
theorem Bq.neg {q:Rat}(h:Bq N q):Bq N (-q):=⟨by rw[Rat.neg_num,ib];exact h.1,h.2⟩
theorem Tl (C:CS M N N2){v:AV}{q:Rat}(hv:bR v q)(lq:Bq N q)(h0:q≠0):∃v0,bR v0 q⁻¹/\cH M 200 [v] v0:=by
 obtain⟨s1,w1,s2,w2,rfl,h1,h2⟩:=hv;have dq:=den_pos (q:=q);have hN:=C.hN;have hle:=fI (b:=wB) (by decide) (m:=N) (n:=N2) (by omega);obtain⟨v0,k0,q203⟩:=C.uB _ _ _ _ h2 h1 (by rw[cd (by omega)];exact Int.lt_of_lt_of_le lq.2 hle) (Int.lt_of_lt_of_le lq.1 hle) (fun e=>h0 (Rat.num_eq_zero.1 e));rw[←Rat.inv_def]at k0;refine⟨v0,k0,cI (by rw[C.ft];exact SP) (by simp) ?_⟩;have out:=fun hh=>k0.out (hh:=hh)
 obtain⟨s5,w5,s6,w6,rfl,h5,h6⟩:=k0;obtain⟨o5,_⟩:=h5.one;obtain⟨o6,_⟩:=h6.one;unfold Hi;simp only[enter];repeat' first|refine gd0 ?_|refine gd8 ?_|refine gc ?_|fail
 all_goals exact cA rfl rfl (out _)
section
variable {t:Nat} {x y:ax} {l:List aO} {pe:List AV} {lo:List (Nat×AV)} {hp:ab} {df wr:List Nat} {a:Int} {k:IntKind} {Q:al->Prop}
theorem abH (hx:(St.mk pe lo hp df).aa x=some (.iV a))
 (h:WO M l ⟨⟨pe,(t,.iV (a/2))::lo,hp,df⟩,wr⟩ Q):WO M (⟨.l t,.bin .shr x (.c (.int k 1)),none⟩::l) ⟨⟨pe,lo,hp,df⟩,wr⟩ Q:=by
 refine WO.op (WP.pure (v:=.iV (a/2)) rfl ?_ h);have:a.fdiv (2^min (Int.toNat 1) IntKind.i64.bits)=a/2:=by
  show a.fdiv 2=a/2;rw[Int.fdiv_eq_ediv_of_nonneg _ (by omega)]
 have e:(St.mk pe lo hp df).aa (.c (.int k 1))=some (.int k 1):=rfl;simp only[aP,hx,e,ck,this];rfl
theorem abG (hx:(St.mk pe lo hp df).aa x=some (.iV a))(hy:(St.mk pe lo hp df).aa y=some (.iV 1))(ha:0<=a/\a<9223372036854775808)
 (h:WO M l ⟨⟨pe,(t,.iV (a%2))::lo,hp,df⟩,wr⟩ Q):WO M (⟨.l t,.bin .and x y,none⟩::l) ⟨⟨pe,lo,hp,df⟩,wr⟩ Q:=by
 refine aac (v:=.iV (a%2)) ?_ rfl h;obtain⟨n,rfl⟩:=Int.eq_ofNat_of_zero_le ha.1;have e:(BitVec.ofInt 64 (n:Int) &&& BitVec.ofInt 64 1).toNat=n%2:=by
  rw[nN,show (1:Int)=((1:Nat):Int) from rfl,nN,BitVec.toNat_and,BitVec.toNat_ofNat,BitVec.toNat_ofNat,Nat.mod_eq_of_lt (show n<2^64 by omega),Nat.mod_eq_of_lt (show 1<2^64 by decide)];exact Nat.and_two_pow_sub_one_eq_mod n 1
 simp only[aP,hx,hy,ck,if_true];show some (AV.iV (IntKind.i64.wrap ((BitVec.ofInt 64 (n:Int) &&& BitVec.ofInt 64 1).toNat:Int)))=_;rw[e,lS (by omega)];rfl
end
def qH (s so:Int)(w wo:AV):ab:=[some (.cells [.iV s,w] 131),some (.cells [.iV 0,.ae] 131),some (.cells [.iV so,wo] 131)]
theorem Tm (C:CF M N){A:Int}{K:Nat}(hK:K<1000000)(hB:∀i,i<=K->ah (A^i)<wB^N){Q:Ex->al->Prop}(a0:AV)
 (hQ:∀s so w wo p1 lo wr,ay (.agg [.iV so,wo]) (A^K)->Q (.exit 0) ⟨⟨[a0,p1,.ptr 0 0,.ptr 1 0,.ptr 2 0],lo,qH s so w wo,[]⟩,wr⟩)
 (s so:Int) (w wo:AV) (lo:List (Nat×AV)) (wr:List Nat) (hs:ay (.agg [.iV s,w]) A) (ho:ay (.agg [.iV so,wo]) 1) :
 W M (.loop oh) ⟨⟨[a0,.iV K,.ptr 0 0,.ptr 1 0,.ptr 2 0],lo,qH s so w wo,[]⟩,wr⟩ Q:=by
 refine W.fH (fun m st=>∃s so w wo kv lo wr i j,st=⟨⟨[a0,.iV kv,.ptr 0 0,.ptr 1 0,.ptr 2 0],lo,qH s so w wo,[]⟩,wr⟩/\kv=(m:Int)/\ay (.agg [.iV s,w]) (A^i)/\ay (.agg [.iV so,wo]) (A^j)/\j+i*m=K/\m<=K)
  (fun m st ⟨s,so,w,wo,kv,lo,wr,i,j,hst,hkv,hs,ho,hj,hmK⟩=>?_) (m:=K) ⟨s,so,w,wo,_,lo,wr,1,0,rfl,rfl,by rw[Int.pow_one];exact hs,by rw[Int.pow_zero];exact ho,by omega,Nat.le_refl _⟩
 subst hst;subst hkv;by_cases h0:m=0
 . subst h0;have ej:j=K:=by omega
   subst ej;unfold oh;exact gg4
 . obtain⟨q,b,hqb,hb⟩:∃q b:Nat,m=2*q+b/\b<2:=⟨m/2,m%2,by omega,by omega⟩;have him:i*m=2*(i*q)+i*b:=by rw[hqb,Nat.mul_add,←Nat.mul_assoc,Nat.mul_comm i 2,Nat.mul_assoc]
   have hdiv:(m:Int)/2=(q:Int):=by omega
   have hmod:(m:Int)%2=(b:Int):=by omega
   have hi:i<=K:=by
    have:i*1<=i*m:=Nat.mul_le_mul_left i (by omega);omega
   have hjK:j<=K:=by omega
   obtain⟨o1,_⟩:=hs.one;obtain⟨o2,_⟩:=ho.one;have fin:∀s so w wo lo wr i' j',ay (.agg [.iV s,w]) (A^i')->ay (.agg [.iV so,wo]) (A^j')->j'+i'*q=K->LI (fun st=>∃m',m'<m/\∃s so w wo kv lo wr i j,st=⟨⟨[a0,.iV kv,.ptr 0 0,.ptr 1 0,.ptr 2 0],lo,qH s so w wo,[]⟩,wr⟩/\kv=(m':Int)/\ay (.agg [.iV s,w]) (A^i)/\ay (.agg [.iV so,wo]) (A^j)/\j+i*m'=K/\m'<=K) Q .normal ⟨⟨[a0,.iV ((m:Int)/2),.ptr 0 0,.ptr 1 0,.ptr 2 0],lo,qH s so w wo,[]⟩,wr⟩:=fun s so w wo lo wr i' j' h1 h2 h3=>
    cL ⟨q,by omega,s,so,w,wo,_,lo,wr,i',j',rfl,hdiv,h1,h2,h3,by omega⟩
   have sq:q≠0->∃v,ay v (A^(i+i))/\∀h,M.ext 198 [.agg [.iV s,w],.agg [.iV s,w]] h=some ⟨v,h,[]⟩:=fun hq=>by
    obtain⟨v,h1,h2⟩:=C.jZ _ _ _ _ hs hs (hB i hi) (hB i hi);exact⟨v,by rw[Int.pow_add];exact h1,h2⟩
   by_cases hodd:b=1
   . subst hodd;obtain⟨v1,h1,q1⟩:=C.jZ _ _ _ _ ho hs (hB j hjK) (hB i hi);have h1:ay v1 (A^(j+i)):=by rw[Int.pow_add];exact h1
     obtain⟨s1,w1,rfl,o3,_⟩:=h1.shape;by_cases hq:q=0
     . subst hq;unfold oh;repeat' first|(apply abG;rfl;rfl;omega)|(apply abH;rfl)|(apply aaq;rfl;rfl;rfl;exact⟨rfl,Nat.le_refl _,by simp[fT,o3]⟩;rfl)|(apply aah;rfl;rfl)|(apply aak;rfl;rfl)|refine gd0 ?_|refine gc ?_|(intro _;omega)|intro _
       all_goals try omega
       all_goals exact fin s s1 w w1 _ _ i (j+i) hs h1 (by omega)
     . obtain⟨v2,h2,q2⟩:=sq hq;obtain⟨s2,w2,rfl,o4,_⟩:=h2.shape;unfold oh;repeat' first|(apply abG;rfl;rfl;omega)|(apply abH;rfl)|(apply aaq;rfl;rfl;rfl;exact⟨rfl,Nat.le_refl _,by simp[fT,o3,o4]⟩;rfl)|(apply aah;rfl;rfl)|(apply aak;rfl;rfl)|refine gd0 ?_|refine gc ?_|(intro _;omega)|intro _
       all_goals try omega
       all_goals exact fin s2 s1 w2 w1 _ _ (i+i) (j+i) h2 h1 (by rw[Nat.add_mul];omega)
   . obtain⟨v2,h2,q2⟩:=sq (by omega);obtain⟨s2,w2,rfl,o4,_⟩:=h2.shape;have hb0:b=0:=by omega
     subst hb0;unfold oh;exact gg8
theorem Tn (C:CF M N){v:AV}{A:Int}{K:Nat}(hv:ay v A)(hK:K<1000000)(hB:∀i,i<=K->ah (A^i)<wB^N):∃v0,ay v0 (A^K)/\cH M 215 [v,.iV K] v0:=by
 have q168:=C.oe 1;obtain⟨s,w,rfl,o1,_⟩:=hv.shape;obtain⟨v',hh,⟨v0,h0,ho⟩,hr⟩:=gA (M:=M) (f:=215) (ars:=[.agg [.iV s,w],.iV K]) (P:=fun v hh=>∃v0,ay v0 (A^K)/\eZ v hh v0) (by rw[C.ft];exact SM) (by simp) (by
  unfold He;simp only[enter];refine gg12 ?_;refine Tm C hK hB _ (fun s so w wo p1 lo wr hg=>?_) s 1 w .ae _ _ hv (.small (by decide));obtain⟨o5,_⟩:=hg.one;repeat' first|(apply aaq;rfl;rfl;rfl;exact⟨rfl,Nat.le_refl _,by simp[fT,o5]⟩;rfl)|refine gc ?_|fail
  exact⟨.inr rfl,rfl,_,rfl,_,hg,hg.out⟩)
 exact⟨v0,h0,v',hh,ho,hr⟩
variable {P:Program} {T:List (Nat×Spec)} {g:Nat}
theorem cH.runK {ars:List AV}{v0:AV}(h:cH (aZ P FT T) g ars v0)(ht:aY ars=0):qk P FT T g ars v0:=by
 obtain⟨v,hh,⟨v1,h1,h2,h3⟩,hr⟩:=h;exact⟨v,hh,v1,hr,h1,ht,h2,h3⟩
theorem cH.eq {ars:List AV}{v0:AV}{hp:ab}(h:cH (aZ P FT T) g ars v0)(ht:aY ars=0):nL P FT T g ars hp=some ⟨v0,hp,[]⟩:=tK (h.runK ht)
theorem nU.eq {ars as0:List AV}{z:Int}(h:nU (aZ P FT T) g as0 z):∃r,okW wB r/\aN r/\WV wB r=z/\∀hp,fw hp ars as0->qj P FT T g ars hp=some ⟨.vs (ak r) r.length none,hp,[]⟩:=by
 obtain⟨r,⟨h1,h2,h3⟩,v,hh,⟨v1,f,t,c⟩,hr⟩:=h;exact⟨r,h1,h2,h3,fun hp hf=>kH hf ⟨v,hh,v1,hr,f,t,c⟩⟩
theorem qx.eq {ars:List AV}{x y:Int}(h:qx (aZ P FT T) g ars x y)(ht:aY ars=0):∃qv q rv r,cG qv q/\cG rv r/\okW wB q/\aN q/\okW wB r/\aN r/\WV wB q=x/y/\WV wB r=x%y/\∀hp,nL P FT T g ars hp=some ⟨.aq [qv,rv],hp,[]⟩:=by
 obtain⟨q,r,⟨h1,h2,h3⟩,⟨h4,h5,h6⟩,v,hh,⟨v1,qv,rv,f,t,c,k1,k2⟩,hr⟩:=h;exact⟨qv,q,rv,r,k1,k2,h1,h2,h4,h5,h3,h6,fun hp=>tK ⟨v,hh,v1,hr,f,ht,t,c⟩⟩
theorem cG.top {x:AV}{l:List Int}(h:cG x l):x.top=0:=by
 rcases h with rfl|⟨rfl,rfl⟩
 . exact gh l
 . rfl
theorem ay.top {v:AV}{z:Int}(h:ay v z):v.top=0:=by
 obtain⟨s,w,rfl,_,t,_⟩:=h.shape;simp[AV.top,aY,t]
theorem bR.top {v:AV}{q:Rat}(h:bR v q):v.top=0:=by
 obtain⟨s,w,s',w',rfl,h1,h2⟩:=h;have t1:=h1.one.2.1;have t2:=h2.one.2.1;simp[AV.top,aY,t1,t2]
open Go.Proofs
noncomputable abbrev sK (T:List (Nat×Spec))(g:Nat):Spec:=nL Tryz.prog FT T g
noncomputable abbrev sL (T:List (Nat×Spec))(g:Nat):Spec:=qj Tryz.prog FT T g
theorem dJ {g:Nat}(hT:dg Tryz.prog gl (bj T)):bQ Tryz.prog gl g (sK T g):=Qd ju hT
theorem my {g:Nat}(hT:dg Tryz.prog gl (bj T)):bQ Tryz.prog gl g (sL T g):=Qb ju hT
theorem jA {v:AV}(h:v.top=0):aY [v]=0:=by simp[aY,h]
theorem fo {v w:AV}(h:v.top=0)(k:w.top=0):aY [v,w]=0:=by simp[aY,h,k]
theorem dD {ars:List AV}{v0:AV}{g:Nat}(h:cH (aZ Tryz.prog FT T) g ars v0)(ht:aY ars=0):∀hp,sK T g ars hp=some ⟨v0,hp,[]⟩:=fun _=>h.eq ht
def To:List (Nat×Spec):=[(275,qg .nw),(277,qg .ny)]
structure As (T:List (Nat×Spec)):Prop where
 Tp:∀ar h,bj T 275 ar h=qg .nw ar h
 Tq:∀ar h,bj T 277 ar h=qg .ny ar h
 ug:∀ar h,bj T 276 ar h=none
theorem As.c (E:As T):kK (aZ Tryz.prog FT T) where
 ft:=bE
 ug:=E.ug
 kL x y c h hx hy h0 h1:=by
  refine(E.Tp _ _).trans ?_;show Option.map _ (if _ then _ else _)=_;rw[if_pos ⟨hx,hy,h0,h1⟩];rfl
 uh x y c h hx hx1 hy hy1 h0 h1:=by
  refine(E.Tq _ _).trans ?_;show Option.map _ (if _ then _ else _)=_;rw[if_pos ⟨hx,hy,h0,h1⟩];have e1:(((x.toNat+18446744073709551616-y.toNat-c.toNat)%18446744073709551616:Nat):Int)=(x-y-c)%18446744073709551616:=by omega
  have e2:((if x.toNat<y.toNat+c.toNat then 1 else 0:Nat):Int)=if x<y+c then 1 else 0:=by
   by_cases hc:x<y+c
   . rw[if_pos hc,if_pos (by omega)];rfl
   . rw[if_neg hc,if_neg (by omega)];rfl
  show some (HR.mk (.aq [.uV _,.uV _]) h [])=_;rw[e1,e2]
noncomputable def qI:Spec:=sK [] 244
theorem Hq:∀(x y:Int) h,(0<=x/\x<18446744073709551616)->(0<=y/\y<18446744073709551616)->qI [.uV x,.uV y] h=some ⟨.aq [.uV (x*y/18446744073709551616),.uV (x*y%18446744073709551616)],h,[]⟩:=fun x y h hx hy=>da (Rr bE x y hx hy) rfl rfl rfl h
noncomputable def qJ:List (Nat×Spec):=(244,qI)::To
structure uD (T:List (Nat×Spec)):Prop extends As T where
 Au:∀ar h,bj T 244 ar h=qI ar h
theorem uD.c (E:uD T):kN (aZ Tryz.prog FT T):={ E.toAs.c with mr:=fun x y h hx hy=>(E.Au _ _).trans (Hq x y h hx hy) }
theorem Av:uD qJ:=by repeat' first|exact fun _ _=>rfl|constructor
noncomputable def Hr:Spec:=sK [] 240
theorem Tr:∀(x:Int) h,(0<=x/\x<18446744073709551616)->Hr [.uV x] h=some ⟨.iV (db x),h,[]⟩:=fun x h hx=>da (RH bE x hx) rfl rfl rfl h
noncomputable def Hs:List (Nat×Spec):=[(240,Hr)]
noncomputable def uE:Spec:=sK Hs 279
theorem Ht:∀(y:Int) h,(0<=y/\y<18446744073709551616)->uE [.uV y] h=some ⟨.iV (64-db y:Nat),h,[]⟩:=fun x h hx=>da (RI (M:=aZ Tryz.prog FT Hs) bE x hx fun h=>Tr x h hx) rfl rfl rfl h
noncomputable def Hu:List (Nat×Spec):=[(279,uE)]
noncomputable def Aw:Spec:=sK Hu 278
theorem Ts:∀(hi lo y:Int) h,(0<y/\y<18446744073709551616)->(0<=hi/\hi<y)->(0<=lo/\lo<18446744073709551616)->Aw [.uV hi,.uV lo,.uV y] h=some ⟨.aq [.uV ((hi*18446744073709551616+lo)/y),.uV ((hi*18446744073709551616+lo)%y)],h,[]⟩:=fun hi lo y h hy hh hl=>
 da (RM (M:=aZ Tryz.prog FT Hu) bE hi lo y hy hh hl fun h=>Ht y h ⟨by omega,hy.2⟩) rfl rfl rfl h
noncomputable def Ax:Spec:=sL qJ 249
noncomputable def Ay:Spec:=sL qJ 251
noncomputable def Az:Spec:=sL qJ 248
noncomputable def ou:Spec:=sL [] 250
theorem Tt:∀x l y m,cG x l->cG y m->okW wB l->okW wB m->l.length<=500000->m.length<=500000->∃r,okW wB r/\aN r/\WV wB r=WV wB l+WV wB m/\∀h,Ax [x,y] h=some ⟨.vs (ak r) r.length none,h,[]⟩:=fun x l y m hx hy o1 o2 l1 l2=>by
 obtain⟨r,h1,h2,h3,h4⟩:=(Rx (c1:=none) (c2:=none) Av.c.tokK l m o1 o2 (by omega) (by omega)).eq;exact⟨r,h1,h2,h3,fun h=>h4 h (.cons hx.fJ (.cons hy.fJ .nil))⟩
theorem Tu:∀x l y m,cG x l->cG y m->okW wB l->okW wB m->aN l->aN m->l.length<=500000->m.length<=500000->WV wB m<=WV wB l->∃r,okW wB r/\aN r/\WV wB r=WV wB l-WV wB m/\∀h,Ay [x,y] h=some ⟨.vs (ak r) r.length none,h,[]⟩:=fun x l y m hx hy o1 o2 n1 n2 l1 l2 hle=>by
 have hlen:m.length<=l.length:=by
  rcases Nat.lt_or_ge l.length m.length with h|h
  . have:=mq (b:=wB) (by decide) o1 o2 n2 h;omega
  . exact h
 obtain⟨r,h1,h2,h3,h4⟩:=(Rz (c1:=none) (c2:=none) Av.c.tokK l m o1 o2 (by omega) hlen hle).eq;exact⟨r,h1,h2,h3,fun h=>h4 h (.cons hx.fJ (.cons hy.fJ .nil))⟩
theorem Tv:∀x l y m,cG x l->cG y m->okW wB l->okW wB m->l.length<=500000->m.length<=500000->∃r,okW wB r/\aN r/\WV wB r=WV wB l*WV wB m/\∀h,Az [x,y] h=some ⟨.vs (ak r) r.length none,h,[]⟩:=fun x l y m hx hy o1 o2 l1 l2=>by
 obtain⟨r,h1,h2,h3,h4⟩:=(RB (c1:=none) (c2:=none) Av.c l m o1 o2 (by omega) (by omega)).eq;exact⟨r,h1,h2,h3,fun h=>h4 h (.cons hx.fJ (.cons hy.fJ .nil))⟩
theorem Hv {x y:AV}{l m:List Int}{c1 c2:Option Nat}{h:ab}(hx:cX h x (.vs (ak l) l.length c1))(hy:cX h y (.vs (ak m) m.length c2))(o1:okW wB l)(o2:okW wB m)(n1:aN l)(n2:aN m)(l1:l.length<1000000000)(l2:m.length<1000000000):ou [x,y] h=some ⟨.iV (aW (WV wB l-WV wB m)),h,[]⟩:=
 ql (Rv bE l m o1 o2 n1 n2 l1 l2) rfl rfl rfl (.cons hx (.cons hy .nil))
theorem Hw:∀x l y m,cG x l->cG y m->okW wB l->okW wB m->aN l->aN m->l.length<=500000->m.length<=500000->∀h,ou [x,y] h=some ⟨.iV (aW (WV wB l-WV wB m)),h,[]⟩:=fun x l y m hx hy o1 o2 n1 n2 l1 l2 h=>
 Hv hx.fJ hy.fJ o1 o2 n1 n2 (by omega) (by omega)
noncomputable def AA:List (Nat×Spec):=(278,Aw)::(250,ou)::(279,uE)::qJ
structure AB (T:List (Nat×Spec)):Prop extends uD T where
 Tw:∀ar h,bj T 278 ar h=Aw ar h
 AD:∀ar h,bj T 250 ar h=ou ar h
 Tx:∀ar h,bj T 279 ar h=uE ar h
 qw:∀ar h,bj T 280 ar h=none
 ur:∀ar h,bj T 281 ar h=none
theorem AB.c (E:AB T):GM (aZ Tryz.prog FT T):={ E.touD.c with
 Aa:=fun hi lo y h h1 h2 h3=>(E.Tw _ _).trans (Ts hi lo y h h1 h2 h3)
 qy:=fun a b _c1 _c2 h o1 o2 n1 n2 l1 l2=>(E.AD _ _).trans (Hv (.lZ (Ad a)) (.lZ (Ad b)) o1 o2 n1 n2 l1 l2)
 uo:=fun y h hy=>(E.Tx _ _).trans (Ht y h hy)
 qw:=E.qw
 ur:=E.ur }
theorem Ty:AB AA:=by repeat' first|exact fun _ _=>rfl|constructor
noncomputable def AE:Spec:=sK AA 253
theorem Tz:∀x l y m,cG x l->cG y m->okW wB l->okW wB m->aN l->aN m->l.length<=500000->m.length<=500000->m≠[]->∃qv q rv r,cG qv q/\cG rv r/\okW wB q/\aN q/\okW wB r/\aN r/\WV wB q=WV wB l/WV wB m/\WV wB r=WV wB l%WV wB m/\∀h,AE [x,y] h=some ⟨.aq [qv,rv],h,[]⟩:=fun x l y m hx hy o1 o2 n1 n2 l1 l2 hm=>by
 have hy':y = .vs (ak m) m.length none:=by
  rcases hy with h|⟨_,h⟩
  . exact h
  . exact absurd h hm
 subst hy';rcases hx with rfl|⟨rfl,rfl⟩
 . exact(Sg Ty.c l m o1 o2 n1 n2 (by omega) (by omega) hm).eq (fo (gh l) (gh m))
 . have hv:=(iS (b:=wB) (by decide) o2 n2).2 hm;have q250:∀h,(aZ Tryz.prog FT AA).ext 250 [.ae,.vs (ak m) m.length none] h=some ⟨.iV (-1),h,[]⟩:=fun h=>by
    have:=Hw .ae [] _ m (.inr ⟨rfl,rfl⟩) (.inl rfl) o1 o2 n1 n2 l1 l2 h;rw[show aW (WV wB []-WV wB m) = -1 from if_pos (by simp[WV];omega)]at this;exact this
   exact(Sh bE m o2 n2 hm q250).eq (fo rfl (gh m))
noncomputable def uF:Spec:=sK [] 245
theorem Hx:∀s h,(-9223372036854775808<=s/\s<9223372036854775808)->uF [.iV s] h=some ⟨.uV (ah s),h,[]⟩:=fun s h hs=>da (Si bE s hs) rfl rfl rfl h
noncomputable def Hy:List (Nat×Spec):=[(245,uF)]
noncomputable def AF:Spec:=sK Hy 246
theorem TA:∀v z,ay v z->∃x l,cG x l/\okW wB l/\aN l/\WV wB l=ah z/\∀h,AF [v] h=some ⟨.aq [.bool (decide (z<0)),x],h,[]⟩:=fun v z hv=>by
 obtain⟨x,l,h1,h2,h3,h4,h5⟩:=Sj (M:=aZ Tryz.prog FT Hy) bE (fun s h hs=>Hx s h hs) hv;exact⟨x,l,h1,h2,h3,h4,dD h5 (jA hv.top)⟩
noncomputable def AG:Spec:=sK [] 247
theorem TB:∀neg x l,cG x l->okW wB l->aN l->l.length<=1000001->∃v0,ay v0 (fm neg (WV wB l))/\∀h,AG [.bool neg,x] h=some ⟨v0,h,[]⟩:=fun neg x l hx ok nr hl=>by
 obtain⟨v0,h1,h2⟩:=Sk (M:=aZ Tryz.prog FT []) bE neg hx ok nr (by omega);exact⟨v0,h1,dD h2 (fo rfl hx.top)⟩
noncomputable def TI:List (Nat×Spec):=[(245,uF),(244,qI),(246,AF),(247,AG),(249,Ax),(251,Ay),(248,Az),(250,ou)]
structure EI (T:List (Nat×Spec)):Prop where
 TC:∀ar h,bj T 245 ar h=uF ar h
 Au:∀ar h,bj T 244 ar h=qI ar h
 TE:∀ar h,bj T 246 ar h=AF ar h
 TH:∀ar h,bj T 247 ar h=AG ar h
 TK:∀ar h,bj T 249 ar h=Ax ar h
 TL:∀ar h,bj T 251 ar h=Ay ar h
 TM:∀ar h,bj T 248 ar h=Az ar h
 AD:∀ar h,bj T 250 ar h=ou ar h
theorem EI.c (E:EI T){N:Nat}(hN:N<=500000):CI (aZ Tryz.prog FT T) N where
 ft:=bE
 lN:=hN
 qz:=by simp only[E.TC];exact Hx
 mr:=by simp only[E.Au];exact Hq
 kP:=by simp only[E.TE];exact TA
 iW:=by simp only[E.TH];exact TB
 GY:=by simp only[E.TK];exact Tt
 Ai:=by simp only[E.TL];exact Tu
 GZ:=by simp only[E.TM];exact Tv
 qy:=by simp only[E.AD];exact Hw
theorem eI:EI TI:=by repeat' first|exact fun _ _=>rfl|constructor
noncomputable def AH:Spec:=sK TI 216
noncomputable def AI:Spec:=sK TI 202
noncomputable def AJ:Spec:=sK TI 198
noncomputable def AK:Spec:=sK [] 211
noncomputable def AL:Spec:=sK [] 168
def P1 (sp:Spec)(N:Nat)(f:Int->Int):Prop:=∀v z,ay v z->ah z<wB^N->∃v0,ay v0 (f z)/\∀h,sp [v] h=some ⟨v0,h,[]⟩
def P2 (sp:Spec)(N:Nat)(f:Int->Int->Int):Prop:=∀a b x y,ay a x->ay b y->ah x<wB^N->ah y<wB^N->∃v0,ay v0 (f x y)/\∀h,sp [a,b] h=some ⟨v0,h,[]⟩
theorem P1.op {sp:Spec}{N g:Nat}{f:Int->Int}(p:P1 sp N f)(e:∀ar h,bj T g ar h=sp ar h):Op1 (aZ Tryz.prog FT T) N g f:=fun v z hv hz=>by
 obtain⟨v0,h1,h2⟩:=p v z hv hz;exact⟨v0,h1,fun h=>(e _ _).trans (h2 h)⟩
theorem P2.op {sp:Spec}{N g:Nat}{f:Int->Int->Int}(p:P2 sp N f)(e:∀ar h,bj T g ar h=sp ar h):ux (aZ Tryz.prog FT T) N g f:=fun a b x y ha hb hx hy=>by
 obtain⟨v0,h1,h2⟩:=p a b x y ha hb hx hy;exact⟨v0,h1,fun h=>(e _ _).trans (h2 h)⟩
theorem TN {N:Nat}(hN:N<=500000):P1 AH N (fun z=>-z):=fun v z hv hz=>by
 obtain⟨v0,h1,h2⟩:=Sr (eI.c hN) hv hz;exact⟨v0,h1,dD h2 (jA hv.top)⟩
theorem TO {N:Nat}(hN:N<=500000):P2 AI N (· + ·):=fun a b x y ha hb hx hy=>by
 obtain⟨v0,h1,h2⟩:=Sy (eI.c hN) ha hb hx hy;exact⟨v0,h1,dD h2 (fo ha.top hb.top)⟩
theorem TP {N:Nat}(hN:N<=500000):P2 AJ N (· * ·):=fun a b x y ha hb hx hy=>by
 obtain⟨v0,h1,h2⟩:=SF (eI.c hN) ha hb hx hy;exact⟨v0,h1,dD h2 (fo ha.top hb.top)⟩
theorem TT:∀v z,ay v z->∀h,AK [v] h=some ⟨.iV (aW z),h,[]⟩:=fun v z hv h=>da (Ss bE hv) (jA hv.top) rfl rfl h
theorem TU:∀s h,AL [.iV s] h=some ⟨.agg [.iV s,.ae],h,[]⟩:=fun s h=>(SC bE s).eq rfl
noncomputable def AM:List (Nat×Spec):=(216,AH)::(202,AI)::TI
structure uG (T:List (Nat×Spec)):Prop extends EI T where
 TV:∀ar h,bj T 216 ar h=AH ar h
 TW:∀ar h,bj T 202 ar h=AI ar h
theorem uG.c (E:uG T){N:Nat}(hN:N<=500000):Aj (aZ Tryz.prog FT T) N:={ E.toEI.c hN with jY:=(TN hN).op E.TV,od:=(TO hN).op E.TW }
theorem TX:uG AM:=by repeat' first|exact fun _ _=>rfl|constructor
noncomputable def AN:Spec:=sK AM 217
theorem TY {N:Nat}(hN:N<=500000):P2 AN N (· - ·):=fun a b x y ha hb hx hy=>by
 obtain⟨v0,h1,h2⟩:=Sz (TX.c hN) ha hb hx hy;exact⟨v0,h1,dD h2 (fo ha.top hb.top)⟩
noncomputable def TJ:List (Nat×Spec):=(217,AN)::(211,AK)::AM
structure EJ (T:List (Nat×Spec)):Prop extends uG T where
 TZ:∀ar h,bj T 217 ar h=AN ar h
 Ua:∀ar h,bj T 211 ar h=AK ar h
theorem EJ.c (E:EJ T){N:Nat}(hN:N<=500000):CJ (aZ Tryz.prog FT T) N:={ E.touG.c hN with Ak:=(TY hN).op E.TZ,mw:=fun v z hv h=>(E.Ua _ _).trans (TT v z hv h) }
theorem eJ:EJ TJ:=by repeat' first|exact fun _ _=>rfl|constructor
noncomputable def AO:Spec:=sK TJ 210
noncomputable def AP:Spec:=sK TJ 167
noncomputable def Hz:Spec:=sK TJ 199
theorem Ub {N:Nat}(hN:N<=500000):P1 AO N ah:=fun v z hv hz=>by
 obtain⟨v0,h1,h2⟩:=SA (eJ.c hN) hv hz;exact⟨v0,h1,dD h2 (jA hv.top)⟩
theorem Uc {N:Nat}(hN:N<=500000):∀a b x y,ay a x->ay b y->ah x<wB^N->ah y<wB^N->∀h,AP [a,b] h=some ⟨.iV (aW (x-y)),h,[]⟩:=fun a b x y ha hb hx hy=>
 dD (SB (eJ.c hN) ha hb hx hy) (fo ha.top hb.top)
theorem Ud {N:Nat}(hN:N<=500000):∀v q,bR v q->Bq N q->∃v0,bR v0 (-q)/\∀h,Hz [v] h=some ⟨v0,h,[]⟩:=fun v q hv lq=>by
 obtain⟨v0,h1,h2⟩:=Tg (eJ.c hN) hv lq;exact⟨v0,h1,dD h2 (jA hv.top)⟩
noncomputable def TD:List (Nat×Spec):=(168,AL)::(253,AE)::TJ
structure ED (T:List (Nat×Spec)):Prop extends EJ T where
 Ue:∀ar h,bj T 168 ar h=AL ar h
 Uf:∀ar h,bj T 253 ar h=AE ar h
theorem ED.c (E:ED T){N:Nat}(h1:1<=N)(hN:N<=500000):CD (aZ Tryz.prog FT T) N:={ E.toEJ.c hN with
 n1:=h1
 oe:=fun s h=>(E.Ue _ _).trans (TU s h)
 Hd:=by simp only[E.Uf];exact Tz }
theorem eD:ED TD:=by repeat' first|exact fun _ _=>rfl|constructor
noncomputable def AQ:Spec:=sK TD 205
noncomputable def AR:Spec:=sK TD 159
theorem Ug {N:Nat}(h1:1<=N)(hN:N<=500000):∀a b x y,ay a x->ay b y->ah x<wB^N->ah y<wB^N->0<y->∃q r,ay q (x/y)/\ay r (x%y)/\∀h,AQ [a,b] h=some ⟨.aq [q,r],h,[]⟩:=fun a b x y ha hb hx hy h0=>by
 obtain⟨q,r,k1,k2,k3⟩:=SK (eD.c h1 hN) ha hb hx hy h0;exact⟨q,r,k1,k2,dD k3 (fo ha.top hb.top)⟩
theorem ic.top {v:AV}{n d:Int}(h:ic v n d):v.top=0:=by
 obtain⟨s,w,s',w',rfl,h1,h2⟩:=h;have t1:=h1.one.2.1;have t2:=h2.one.2.1;simp[AV.top,aY,t1,t2]
theorem Uh:∀v z,ay v z->∃v0,ic v0 z 1/\∀h,AR [v] h=some ⟨v0,h,[]⟩:=fun v z hv=>by
 obtain⟨v0,h1,h2⟩:=SV (eD.c (N:=1) (by decide) (by decide)) hv;exact⟨v0,h1,dD h2 (jA hv.top)⟩
noncomputable def TQ:List (Nat×Spec):=(205,AQ)::TD
structure EQ (T:List (Nat×Spec)):Prop extends ED T where
 Ui:∀ar h,bj T 205 ar h=AQ ar h
theorem EQ.c (E:EQ T){N:Nat}(h1:1<=N)(hN:N<=500000):CQ (aZ Tryz.prog FT T) N:={ E.toED.c h1 hN with uy:=by simp only[E.Ui];exact Ug h1 hN }
theorem eQ:EQ TQ:=by repeat' first|exact fun _ _=>rfl|constructor
noncomputable def AS:Spec:=sK TQ 252
theorem Uj {N:Nat}(h1:1<=N)(hN:N<=500000):∀a b x y k,ay a x->ay b y->ah x<wB^N->ah y<wB^N->y≠0->x=y*k->∃v0,ay v0 k/\∀h,AS [a,b] h=some ⟨v0,h,[]⟩:=fun a b x y k ha hb hx hy h0 hk=>by
 obtain⟨v0,k1,k2⟩:=SL (eQ.c h1 hN) ha hb hx hy h0 hk;exact⟨v0,k1,dD k2 (fo ha.top hb.top)⟩
noncomputable def TF:List (Nat×Spec):=(159,AR)::(167,AP)::(198,AJ)::TQ
structure EF (T:List (Nat×Spec)):Prop extends EQ T where
 Uk:∀ar h,bj T 159 ar h=AR ar h
 Ul:∀ar h,bj T 167 ar h=AP ar h
 Um:∀ar h,bj T 198 ar h=AJ ar h
theorem EF.c (E:EF T){N:Nat}(h1:1<=N)(hN:N<=500000):CF (aZ Tryz.prog FT T) N:={ E.toEQ.c h1 hN with
 Hm:=by simp only[E.Uk];exact Uh
 SU:=by simp only[E.Ul];exact Uc hN
 jZ:=(TP hN).op E.Um }
theorem eF:EF TF:=by repeat' first|exact fun _ _=>rfl|constructor
noncomputable def TG:List (Nat×Spec):=(210,AO)::TQ
structure EG (T:List (Nat×Spec)):Prop extends EQ T where
 Un:∀ar h,bj T 210 ar h=AO ar h
theorem EG.c (E:EG T){N:Nat}(h1:1<=N)(hN:N<=500000):CG (aZ Tryz.prog FT T) N:={ E.toEQ.c h1 hN with Ao:=(Ub hN).op E.Un }
theorem eG:EG TG:=by repeat' first|exact fun _ _=>rfl|constructor
noncomputable def AT:Spec:=sK TG 165
theorem Uo {N:Nat}(h1:1<=N)(hN:N<=500000):∀a b x y,ay a x->ay b y->ah x<wB^N->ah y<wB^N->∃v0,ay v0 (Int.gcd x y:Nat)/\∀h,AT [a,b] h=some ⟨v0,h,[]⟩:=fun a b x y ha hb hx hy=>by
 obtain⟨v0,k1,k2⟩:=SZ (eG.c h1 hN) ha hb hx hy;exact⟨v0,k1,dD k2 (fo ha.top hb.top)⟩
noncomputable def TR:List (Nat×Spec):=(165,AT)::(252,AS)::TG
structure ER (T:List (Nat×Spec)):Prop extends EG T where
 Up:∀ar h,bj T 165 ar h=AT ar h
 Uq:∀ar h,bj T 252 ar h=AS ar h
theorem ER.c (E:ER T){N:Nat}(h1:1<=N)(hN:N<=500000):CR (aZ Tryz.prog FT T) N:={ E.toEG.c h1 hN with
 Ho:=by simp only[E.Up];exact Uo h1 hN
 Ap:=by simp only[E.Uq];exact Uj h1 hN }
theorem eR:ER TR:=by repeat' first|exact fun _ _=>rfl|constructor
noncomputable def AU:Spec:=sK TR 203
theorem Ur {N:Nat}(h1:1<=N)(hN:N<=500000):∀a b n d,ay a n->ay b d->ah n<wB^N->ah d<wB^N->d≠0->∃v0,bR v0 (Rat.divInt n d)/\∀h,AU [a,b] h=some ⟨v0,h,[]⟩:=fun a b n d ha hb hn hd h0=>by
 obtain⟨v0,k1,k2⟩:=Tb (eR.c h1 hN) ha hb hn hd h0;exact⟨v0,k1,dD k2 (fo ha.top hb.top)⟩
noncomputable def TS:List (Nat×Spec):=(203,AU)::TF
structure ES (T:List (Nat×Spec)):Prop extends EF T where
 Us:∀ar h,bj T 203 ar h=AU ar h
theorem ES.c (E:ES T){N:Nat}(h1:1<=N)(hN:N<=200000):CS (aZ Tryz.prog FT T) N (2*N+1):={ E.toEF.c h1 (show N<=500000 by omega) with
  eW:=E.toEF.c (by omega) (by omega)
  hN:=Nat.le_refl _
  uB:=by simp only[E.Us];exact Ur (by omega) (by omega) }
theorem eS:ES TS:=by repeat' first|exact fun _ _=>rfl|constructor
noncomputable def HA:Spec:=sK TS 152
noncomputable def HB:Spec:=sK TS 200
noncomputable def AW:Spec:=sK [] 201
theorem Ut {N:Nat}(h1:1<=N)(hN:N<=200000):∀a b p q,bR a p->bR b q->Bq N p->Bq N q->∃v0,bR v0 (p*q)/\∀h,HA [a,b] h=some ⟨v0,h,[]⟩:=fun a b p q ha hb lp lq=>by
 obtain⟨v0,k1,k2⟩:=Tc (eS.c h1 hN) ha hb lp lq;exact⟨v0,k1,dD k2 (fo ha.top hb.top)⟩
theorem Uu {N:Nat}(h1:1<=N)(hN:N<=200000):∀v q,bR v q->Bq N q->q≠0->∃v0,bR v0 q⁻¹/\∀h,HB [v] h=some ⟨v0,h,[]⟩:=fun v q hv lq h0=>by
 obtain⟨v0,k1,k2⟩:=Tl (eS.c h1 hN) hv lq h0;exact⟨v0,k1,dD k2 (jA hv.top)⟩
theorem Uv:∀v q,bR v q->∀h,AW [v] h=some ⟨.bool (decide (q.den=1)),h,[]⟩:=fun v q hv=>dD (Td bE hv) (jA hv.top)
noncomputable def HC:List (Nat×Spec):=(201,AW)::TS
structure uH (T:List (Nat×Spec)):Prop extends ES T where
 Uw:∀ar h,bj T 201 ar h=AW ar h
theorem uH.c (E:uH T){N:Nat}(h1:1<=N)(hN:N<=200000):Aq (aZ Tryz.prog FT T) N (2*N+1):={ E.toES.c h1 hN with Ar:=by simp only[E.Uw];exact Uv }
theorem Ux:uH HC:=by repeat' first|exact fun _ _=>rfl|constructor
noncomputable def HD:Spec:=sK HC 151
theorem Uy {N:Nat}(h1:1<=N)(hN:N<=200000):∀a b p q,bR a p->bR b q->Bq N p->Bq N q->∃v0,bR v0 (p+q)/\∀h,HD [a,b] h=some ⟨v0,h,[]⟩:=fun a b p q ha hb lp lq=>by
 obtain⟨v0,k1,k2⟩:=Tf (Ux.c h1 hN) ha hb lp lq;exact⟨v0,k1,dD k2 (fo ha.top hb.top)⟩
structure EU (T:List (Nat×Spec)):Prop extends uH T where
 Uz:∀ar h,bj T 199 ar h=Hz ar h
 UA:∀ar h,bj T 200 ar h=HB ar h
 UB:∀ar h,bj T 151 ar h=HD ar h
 UC:∀ar h,bj T 152 ar h=HA ar h
theorem EU.c (E:EU T){N:Nat}(h1:1<=N)(hN:N<=200000):CU (aZ Tryz.prog FT T) N (2*N+1):={ E.touH.c h1 hN with
 Th:=by simp only[E.Uz];exact Ud (by omega)
 Ti:=by simp only[E.UA];exact Uu h1 hN
 Tj:=by simp only[E.UB];exact Uy h1 hN
 Tk:=by simp only[E.UC];exact Ut h1 hN }
end Go.Ab.Ch1

/-
  Own work: decimal texts of natural numbers: digits, texts, values.
-/
namespace Go.Ab.aR
def dw (d:Nat):UInt8:=UInt8.ofNat (48+d)
def cJ:Nat->Nat->aM
 | 0,_=>[]
 | k+1,n=>cJ k (n/10)++[dw (n%10)]
def aX (n:Nat):aM:=if n<10 then [dw n] else aX (n/10)++[dw (n%10)]
termination_by n
decreasing_by omega
def aT (n:Nat)(s:aM):Nat:=s.foldl (fun n b=>10*n+(b.toNat-48)) n
def AX (c:Nat):Bool:=48<=c && c<58
abbrev cS (b:UInt8):Bool:=AX b.toNat
theorem qK (b:UInt8):cS b=true↔48<=b.toNat/\b.toNat<58:=by simp[cS,AX]
theorem qL {d:Nat}(h:d<10):(dw d).toNat=48+d:=by simp[dw];omega
theorem AY {d:Nat}(h:d<10):cS (dw d)=true:=by rw[qK,qL h];omega
theorem kQ:∀(k n:Nat),(cJ k n).length=k
 | 0,_=>rfl
 | k+1,n=>by simp[cJ,kQ k]
theorem HE:∀(k n:Nat),(cJ k n).all cS=true
 | 0,_=>rfl
 | k+1,n=>by simp only[cJ,List.all_append,HE k,List.all_cons,List.all_nil,AY (Nat.mod_lt n (show 10 > 0 by decide)),Bool.and_self]
theorem AZ:∀{k n j:Nat},j<k->(cJ k n)[j]! = dw (n/10^(k-1-j)%10)
 | k+1,n,j,h=>by
  rw[cJ];by_cases hj:j<k
  . have h1:j<(cJ k (n/10)).length:=by rw[kQ];exact hj
    have e:(cJ k (n/10)++[dw (n%10)])[j]! = (cJ k (n/10))[j]! := by
     simp only[List.getElem!_eq_getElem?_getD,List.getElem?_append_left h1]
    rw[e,AZ hj,show k+1-1-j=(k-1-j)+1 by omega,Nat.pow_succ,Nat.mul_comm,←Nat.div_div_eq_div_mul]
  . obtain rfl:j=k:=by omega
    have e:(cJ j (n/10)++[dw (n%10)])[j]! = dw (n%10):=by
     simp only[List.getElem!_eq_getElem?_getD];rw[List.getElem?_append_right (by rw[kQ];exact Nat.le_refl _),kQ];simp
    rw[e];simp
theorem HF {k n:Nat}{s:aM}(hl:s.length=k)(h:∀j,j<k->s[j]! = dw (n/10^(k-1-j)%10)):s=cJ k n:=by
 apply List.ext_getElem (by rw[hl,kQ]);intro i h1 h2;have e1:=h i (by omega);have e2:=AZ (n:=n) (show i<k by omega);rw[←e2]at e1;simpa[List.getElem!_eq_getElem?_getD,List.getElem?_eq_getElem h1,List.getElem?_eq_getElem h2] using e1
theorem kR {n:Nat}(h:n<10):aX n=[dw n]:=by rw[aX,if_pos h]
theorem ox {n:Nat}(h:¬n<10):aX n=aX (n/10)++[dw (n%10)]:=by rw[aX,if_neg h]
theorem HG:∀{k n:Nat},n<10^(k+1)->(k=0\/10^k<=n)->aX n=cJ (k+1) n
 | 0,n,h,_=>by
  have h:n<10:=by simpa using h
  rw[kR h];simp[cJ,Nat.mod_eq_of_lt h]
 | k+1,n,h,h2=>by
  have h2:10^(k+1)<=n:=h2.resolve_left (by omega);rw[Nat.pow_succ]at h h2;have hp:0<10^k:=Nat.pow_pos (by decide);rw[ox (by omega),HG (k:=k) (n:=n/10) (by omega) (.inr (by omega))];rfl
theorem HH:∀{k a b:Nat},0<a->b<10^k->aX (a*10^k+b)=aX a++cJ k b
 | 0,a,b,_,hb=>by
  obtain rfl:b=0:=by simpa using hb
  simp[cJ]
 | k+1,a,b,ha,hb=>by
  rw[Nat.pow_succ]at hb ⊢;have hp:0<10^k:=Nat.pow_pos (by decide);have h1:10<=a*(10^k*10)+b:=by
   have:=Nat.mul_le_mul ha (Nat.mul_le_mul_right 10 hp);omega
  have e1:(a*(10^k*10)+b)/10=a*10^k+b/10:=by
   rw[←Nat.mul_assoc];omega
  have e2:(a*(10^k*10)+b)%10=b%10:=by
   rw[←Nat.mul_assoc];omega
  rw[ox (by omega),e1,e2,HH ha (by omega),cJ,List.append_assoc]
theorem oy (n:Nat)(s t:aM):aT n (s++t)=aT (aT n s) t:=by simp[aT,List.foldl_append]
theorem uI (n:Nat)(b:UInt8)(s:aM):aT n (b::s)=aT (10*n+(b.toNat-48)) s:=by rw[aT,aT,List.foldl_cons]
theorem uJ (n:Nat)(b:UInt8):aT n [b]=10*n+(b.toNat-48):=by rw[aT,List.foldl_cons,List.foldl_nil]
theorem Ba (s:aM):∀(n:Nat),aT n s=n*10^s.length+aT 0 s:=by
 induction s with
 | nil=>intro n;simp[aT]
 | cons b s ih=>
  intro n;rw[uI,uI,ih,ih (10*0+_),List.length_cons,Nat.pow_succ,Nat.add_mul];have:10*n*10^s.length=n*(10^s.length*10):=by rw[Nat.mul_comm 10 n,Nat.mul_assoc,Nat.mul_comm 10]
  rw[this];simp only[Nat.mul_zero,Nat.zero_add];omega
theorem qM (s:aM):s.all cS=true->aT 0 s<10^s.length:=by
 induction s with
 | nil=>intro _;simp[aT]
 | cons b s ih=>
  intro h;simp only[List.all_cons,Bool.and_eq_true]at h;have hb:=(qK b).1 h.1;have:=ih h.2;rw[uI,Ba,List.length_cons,Nat.pow_succ];have h2:(10*0+(b.toNat-48))*10^s.length<=9*10^s.length:=Nat.mul_le_mul_right _ (by omega);omega
theorem HI:∀(k n m:Nat),aT m (cJ k n)=m*10^k+n%10^k
 | 0,n,m=>by simp[aT,cJ,Nat.mod_one]
 | k+1,n,m=>by
  rw[cJ,oy,HI k,uJ,qL (Nat.mod_lt _ (by decide)),Nat.pow_succ];have e:n%(10^k*10)=n%10+10*(n/10%10^k):=by rw[Nat.mul_comm (10^k) 10,Nat.mod_mul]
  rw[e,Nat.mul_add,←Nat.mul_assoc m,Nat.mul_comm 10 (m*10^k)];omega
theorem oz (n:Nat):aT 0 (aX n)=n:=by
 induction n using Nat.strongRecOn with
 | _ n ih=>
  by_cases h:n<10
  . rw[kR h,uJ,qL h];omega
  . rw[ox h,oy,ih _ (by omega),uJ,qL (Nat.mod_lt _ (by decide))];omega
theorem jB (n:Nat):(aX n).all cS=true:=by
 induction n using Nat.strongRecOn with
 | _ n ih=>
  by_cases h:n<10
  . rw[kR h];simp[AY h]
  . rw[ox h,List.all_append,ih _ (by omega)];simp[AY (Nat.mod_lt n (show 10 > 0 by decide))]
theorem Bb (n:Nat):aX n≠[]:=by
 by_cases h:n<10
 . rw[kR h];simp
 . rw[ox h];simp
theorem uK {n k:Nat}(h:n<10^k)(hk:0<k):(aX n).length<=k:=by
 induction k generalizing n with
 | zero=>omega
 | succ k ih=>
  by_cases h1:n<10
  . rw[kR h1];simp
  . rw[ox h1,List.length_append];rw[Nat.pow_succ]at h;have h0:0<k:=by
     rcases Nat.eq_zero_or_pos k with rfl|hp
     . simp at h;omega
     . exact hp
    have:=ih (n:=n/10) (by omega) h0;simp;omega
end Go.Ab.aR

/-
  Own work: decimal texts of machine integers: bytes, the number of digits, texts of two digits.
-/
namespace Go.Ab.Ch1
open Go.Ab.aR
variable {M:ao} {cap:Option Nat}
abbrev iY (k:Nat):AV:=.fn (.func k) [] []
def bS (s:aM):List AV:=s.map fun c=>.int .u8 c.toNat
theorem pE (a:aM):(bS a).length=a.length:=by simp[bS]
theorem HJ:∀a:aM,bytesOf (bS a)=some a
 | []=>rfl
 | c::a=>by
  have h:=HJ a;simp only[bS]at h;simp only[bS,List.map_cons,bytesOf,h];rw[show ((c.toNat:Int)).toNat=c.toNat from rfl,UInt8.ofNat_toNat]
theorem UD {L:aM}{m:Nat}{c:UInt8}(h:m<L.length):overwrite (bS L) m [.int .u8 c.toNat]=bS (L.set m c):=by
 apply List.ext_getElem?;intro i;simp only[overwrite,bS,List.length_cons,List.length_nil];rw[←List.map_take,←List.map_drop];by_cases h1:i<m
 . rw[List.append_assoc,List.getElem?_append_left (by simp;omega)];simp[h1,show ¬m=i by omega]
 . by_cases h2:i=m
   . subst h2;rw[List.append_assoc,List.getElem?_append_right (by simp;omega)];simp[List.length_take,Nat.min_eq_left (Nat.le_of_lt h),h]
   . rw[List.append_assoc,List.getElem?_append_right (by simp;omega)];have e:i-min m L.length=(i-m-1)+1:=by omega
     simp only[List.length_map,List.length_take,e,List.cons_append,List.nil_append,List.getElem?_cons_succ,List.map_drop,List.getElem?_drop,List.getElem?_map,List.getElem?_set,show ¬m=i by omega,if_false];rw[show m+(0+1)+(i-m-1)=i by omega]
section
variable {t:Nat} {x y:ax} {l:List aO} {pe:List AV} {lo:List (Nat×AV)} {hp:ab} {df wr:List Nat} {k:IntKind} {a b:Int} {Q:al->Prop} {e:TypeId} {L:aM} {m:Nat}
theorem abK {c:UInt8}(hx:(St.mk pe lo [some (.cells (bS L) e)] df).aa x=some (.ptr 0 m))(hy:(St.mk pe lo [some (.cells (bS L) e)] df).aa y=some (.int .u8 c.toNat))(hi:m<L.length)
 (h:WO M l ⟨⟨pe,lo,[some (.cells (bS (L.set m c)) e)],df⟩,0::wr⟩ Q):WO M (⟨.no,.store 1 x y,none⟩::l) ⟨⟨pe,lo,[some (.cells (bS L) e)],df⟩,wr⟩ Q:=by
 refine aaq (c:=bS L) (new:=[.int .u8 c.toNat]) hx (by rw[hy];rfl) rfl ⟨rfl,by rw[pE];omega,rfl⟩ (UD hi) ?_;exact h
theorem WO.HK {n i j:Nat}{lo' hi':Option ax}(hx:(St.mk pe lo [some (.cells (bS L) e)] df).aa x=some (.ptr 0 0))(hl:L.length=n)(hlo:((St.mk pe lo [some (.cells (bS L) e)] df).cE lo').bind (fun v=>br v 0 j)=some i)(hhi:((St.mk pe lo [some (.cells (bS L) e)] df).cE hi').bind (fun v=>br v n n)=some j)(hij:i<n)
 (h:WO M l ⟨⟨pe,(t,.sl 0 i (j-i) 1 (some (n-i)))::lo,[some (.cells (bS L) e)],df⟩,wr⟩ Q):WO M (⟨.l t,.jE n 1 x lo' hi',none⟩::l) ⟨⟨pe,lo,[some (.cells (bS L) e)],df⟩,wr⟩ Q:=by
 refine aaD (v:=.sl 0 i (j-i) 1 (some (n-i))) (h':=[some (.cells (bS L) e)]) (w':=[]) ?_ rfl rfl h;have h0:ab.at [some (bc.cells (bS L) e)] 0=some (.cells (bS L) e):=rfl;cases ho:(St.mk pe lo [some (.cells (bS L) e)] df).cE lo' with
 | none=>rw[ho]at hlo;simp at hlo
 | some v=>
  cases ho':(St.mk pe lo [some (.cells (bS L) e)] df).cE hi' with
  | none=>rw[ho']at hhi;simp at hhi
  | some v'=>
   rw[ho]at hlo;rw[ho']at hhi;simp only[Option.bind_some]at hlo hhi;simp only[bg,hx,ho,ho',h0,pE,hl,hhi,hlo,Nat.zero_add,Nat.mul_one];rw[if_pos (Nat.le_refl _),if_pos hij]
theorem acf {i j:Nat}{c:Option Nat}(hx:(St.mk pe lo [some (.cells (bS L) e)] df).aa x=some (.sl 0 i j 1 c))(hij:i+j<=L.length)
 (h:WO M l ⟨⟨pe,(t,.str ((L.drop i).take j))::lo,[some (.cells (bS L) e)],df⟩,wr⟩ Q):WO M (⟨.l t,.mO x,none⟩::l) ⟨⟨pe,lo,[some (.cells (bS L) e)],df⟩,wr⟩ Q:=by
 refine aaD (v:=.str ((L.drop i).take j)) (h':=[some (.cells (bS L) e)]) (w':=[]) ?_ rfl rfl h;have h0:ab.at [some (bc.cells (bS L) e)] 0=some (.cells (bS L) e):=rfl;have hc:dF [some (.cells (bS L) e)] (.sl 0 i j 1 c)=some (bS ((L.drop i).take j),j):=by
  simp only[dF,h0,cut,Nat.mul_one];rw[if_pos (by rw[List.length_take,List.length_drop,pE];omega)];simp[bS,List.map_drop,List.map_take]
 simp only[bg,hx,hc,pE,HJ];rw[if_pos (by simp;omega)]
theorem wrap32 {a:Int}(h:0<=a/\a<4294967296):IntKind.u32.wrap a=a:=by
 simp only[IntKind.wrap,IntKind.bits,IntKind.signed];simp;omega
theorem ach (hx:(St.mk pe lo hp df).aa x=some (.int .u32 a))(hy:(St.mk pe lo hp df).aa y=some (.int .u32 b))(hr:0<=a+b/\a+b<4294967296)
 (h:WO M l ⟨⟨pe,(t,.int .u32 (a+b))::lo,hp,df⟩,wr⟩ Q):WO M (⟨.l t,.bin .add x y,none⟩::l) ⟨⟨pe,lo,hp,df⟩,wr⟩ Q:=
 aac (v:=.int .u32 (a+b)) (by simp[aP,hx,hy,ck,wrap32 hr]) rfl h
theorem adf (hx:(St.mk pe lo hp df).aa x=some (.int .u32 a))(hy:(St.mk pe lo hp df).aa y=some (.int .u32 b))(hr:0<=a*b/\a*b<4294967296)
 (h:WO M l ⟨⟨pe,(t,.int .u32 (a*b))::lo,hp,df⟩,wr⟩ Q):WO M (⟨.l t,.bin .mul x y,none⟩::l) ⟨⟨pe,lo,hp,df⟩,wr⟩ Q:=
 aac (v:=.int .u32 (a*b)) (by simp[aP,hx,hy,ck,wrap32 hr]) rfl h
theorem adg (hx:(St.mk pe lo hp df).aa x=some (.int .u32 a))(hy:(St.mk pe lo hp df).aa y=some (.int .u32 b))(ha:0<=a/\a<4294967296)(hb:0<b)
 (h:WO M l ⟨⟨pe,(t,.int .u32 (a/b))::lo,hp,df⟩,wr⟩ Q):WO M (⟨.l t,.bin .quo x y,none⟩::l) ⟨⟨pe,lo,hp,df⟩,wr⟩ Q:=by
 refine aac (v:=.int .u32 (a/b)) ?_ rfl h;have h1:0<=a/b:=Int.ediv_nonneg ha.1 (Int.le_of_lt hb);have h2:a/b<=a:=Int.ediv_le_self _ ha.1;have h3:¬b=0:=by omega
 simp only[aP,hx,hy,ck,if_true,if_neg h3];rw[Int.tdiv_eq_ediv_of_nonneg ha.1,wrap32 ⟨h1,by omega⟩]
theorem adh (hx:(St.mk pe lo hp df).aa x=some (.int .u32 a))(hy:(St.mk pe lo hp df).aa y=some (.int .u32 b))(ha:0<=a)(hb:0<b)
 (h:WO M l ⟨⟨pe,(t,.int .u32 (a%b))::lo,hp,df⟩,wr⟩ Q):WO M (⟨.l t,.bin .rem x y,none⟩::l) ⟨⟨pe,lo,hp,df⟩,wr⟩ Q:=by
 refine aac (v:=.int .u32 (a%b)) ?_ rfl h;have h3:¬b=0:=by omega
 simp only[aP,hx,hy,ck,if_true,if_neg h3];rw[Int.tmod_eq_emod_of_nonneg ha]
end
def sm (d:Int):Nat:=if (10:Int)^(db d*78913/262144)<=d then db d*78913/262144+1 else db d*78913/262144
def jJ:aM:=[48,48,48,49,48,50,48,51,48,52,48,53,48,54,48,55,48,56,48,57,49,48,49,49,49,50,49,51,49,52,49,53,49,54,49,55,49,56,49,57,50,48,50,49,50,50,50,51,50,52,50,53,50,54,50,55,50,56,50,57,51,48,51,49,51,50,51,51,51,52,51,53,51,54,51,55,51,56,51,57,52,48,52,49,52,50,52,51,52,52,52,53,52,54,52,55,52,56,52,57,53,48,53,49,53,50,53,51,53,52,53,53,53,54,53,55,53,56,53,57,54,48,54,49,54,50,54,51,54,52,54,53,54,54,54,55,54,56,54,57,55,48,55,49,55,50,55,51,55,52,55,53,55,54,55,55,55,56,55,57,56,48,56,49,56,50,56,51,56,52,56,53,56,54,56,55,56,56,56,57,57,48,57,49,57,50,57,51,57,52,57,53,57,54,57,55,57,56,57,57]
theorem UH:jJ.length=200:=by decide +kernel
theorem HL:∀x:Fin 100,jJ[x.val*2]! = dw (x.val/10)/\jJ[x.val*2+1]! = dw (x.val%10):=by decide +kernel
theorem UI {x:Int}(h:0<=x/\x<100):jJ[(x*2).toNat]! = dw (x.toNat/10):=by
 obtain⟨k,rfl⟩:=Int.eq_ofNat_of_zero_le h.1;have:=(HL ⟨k,by omega⟩).1;rw[show ((k:Int)*2).toNat=k*2 by omega];exact this
theorem UJ {x:Int}(h:0<=x/\x<100):jJ[(x*2+1).toNat]! = dw (x.toNat%10):=by
 obtain⟨k,rfl⟩:=Int.eq_ofNat_of_zero_le h.1;have:=(HL ⟨k,by omega⟩).2;rw[show ((k:Int)*2+1).toNat=k*2+1 by omega];exact this
def Mk:aM:=[48,49,50,51,52,53,54,55,56,57,97,98,99,100,101,102,103,104,105,106,107,108,109,110,111,112,113,114,115,116,117,118,119,120,121,122]
theorem abV {t:Nat}{x y z:ax}{l:List aO}{pe:List AV}{lo:List (Nat×AV)}{hp:ab}{df wr:List Nat}{k k':IntKind}{s:aM}{a b:Int}{Q:al->Prop}(hx:(St.mk pe lo hp df).aa x=some (.str s))(hy:(St.mk pe lo hp df).aa y=some (.int k a))(hz:(St.mk pe lo hp df).aa z=some (.int k' b))(hb:0<=a/\a<=b/\b<=s.length){r:aM}(hr:(s.drop a.toNat).take (b.toNat-a.toNat)=r)
 (h:WO M l ⟨⟨pe,(t,.str r)::lo,hp,df⟩,wr⟩ Q):WO M (⟨.l t,.slice .str 1 x (some y) (some z) none,none⟩::l) ⟨⟨pe,lo,hp,df⟩,wr⟩ Q:=by
 subst hr;refine aac (v:=.str ((s.drop a.toNat).take (b.toNat-a.toNat))) ?_ rfl h;simp only[aP,hx,St.cE,hy,hz,Option.map_some,gP,br];have h1:0<=b/\b<=((s.length:Nat):Int):=⟨by omega,hb.2.2⟩;have h2:0<=a/\a<=((b.toNat:Nat):Int):=⟨hb.1,by omega⟩;simp only[if_pos h1,if_pos h2];rfl
def iZ (L:aM)(off n i u:Nat):Prop:=L.length=24/\∀j,i<=j->j<n->L[off+j]! = dw (u/10^(n-1-j)%10)
theorem Bc {L:aM}{i k:Nat}{v:UInt8}(h:i<L.length):(L.set i v)[k]! = if k=i then v else L[k]! := by
 simp only[List.getElem!_eq_getElem?_getD,List.getElem?_set];by_cases hk:k=i
 . subst hk;simp[h]
 . simp[hk,show ¬i=k from fun e=>hk e.symm]
theorem iZ.two {L:aM}{off n i u:Nat}{a b:Nat}{c d:UInt8}(h:iZ L off n (i+2) u)(hn:off+n<=24)(hi:i+2<=n)(ha:a=off+i+1)(hb:b=off+i)(hc:c=dw (u/10^(n-(i+2))%10))(hd:d=dw (u/10^(n-(i+2))/10%10)):iZ ((L.set a c).set b d) off n i u:=by
 subst ha;subst hb;refine⟨by simp[h.1],fun j h1 h2=>?_⟩;rw[Bc (by rw[List.length_set,h.1];omega),Bc (by rw[h.1];omega)];by_cases e1:j=i
 . subst e1;rw[if_pos rfl,hd,Nat.div_div_eq_div_mul,←Nat.pow_succ,show (n-(j+2)).succ=n-1-j by omega]
 . by_cases e2:j=i+1
   . subst e2;rw[if_neg (by omega),if_pos (by omega),hc,show n-(i+2)=n-1-(i+1) by omega]
   . rw[if_neg (by omega),if_neg (by omega)];exact h.2 j (by omega) h2
theorem iZ.fin {L:aM}{off n u:Nat}(h:iZ L off n 0 u)(hn:off+n<=24):(L.drop off).take n=cJ n u:=by
 refine HF (by rw[List.length_take,List.length_drop,h.1];omega) fun j hj=>?_
 rw[←h.2 j (Nat.zero_le _) hj];simp only[List.getElem!_eq_getElem?_getD,List.getElem?_take,if_pos hj,List.getElem?_drop]
variable {e:TypeId}
theorem UK {u n j:Nat}(hj:j+2<=n):u/10^(n-j)=u/10^(n-(j+2))/100:=by
 rw[Nat.div_div_eq_div_mul,show (100:Nat)=10^2 by rfl,←Nat.pow_add,show n-(j+2)+2=n-j by omega]
theorem iZ.UL {L:aM}{off n i u U:Nat}{a b:Nat}{x y:Int}(h:iZ L off n (i+2) u)(hn:off+n<=24)(hi:i+2<=n)(hU:U=u/10^(n-(i+2)))(ha:a=off+i+1)(hb:b=off+i)(hx:x=(U%100:Nat)*2+1)(hy:y=(U%100:Nat)*2):iZ ((L.set a jJ[x.toNat]!).set b jJ[y.toNat]!) off n i u:=by
 subst hx;subst hy;refine h.two hn hi ha hb ?_ ?_
 . rw[UJ (by omega),←hU];congr 1;omega
 . rw[UI (by omega),←hU];congr 1;omega
set_option maxRecDepth 100000
def uL:an:=
 .seq (
       .region [zm 160 2,
         zc 161 .gtr 160 0])
       (
        .cond (.l 161)
        (.region [zm 162 0,
          zm 163 10,
          ⟨(.l 164),.bin .add (kW 48) (.l 163),none⟩,
          ⟨(.l 165),.dM .u8 (.l 164),none⟩,
          ⟨(.l 166),.dX none 1 (.l 162) (kI 0),none⟩,
          zS 1 166 165])
        (.skip))
def Be:an:=
 .seq (
       .region [zm 138 2,
         zc 139 .geq 138 2])
       (
        .cond (.l 139)
        (
         zR [zm 140 10,
           ⟨(.l 141),.bin .rem (.l 140) (kW 100),none⟩,
           ⟨(.l 142),.bin .mul (.l 141) (kW 2),none⟩,
           zw 14 142]
         (
          zR [zm 143 10,
            ⟨(.l 144),.bin .quo (.l 143) (kW 100),none⟩,
            zw 10 144]
          (
           .seq (.draw [(zm 145 0,[]),
             (zm 146 2,[0]),
             (zc 147 .sub 146 1,[0]),
             (zm 148 0,[0,1,2]),
             (zm 149 2,[0,1,2,3]),
             (zc 150 .sub 149 2,[0,1,2,3]),
             (zm 151 14,[0,1,2,3,4,5]),
             (⟨(.l 152),.bin .add (.l 151) (kW 1),none⟩,[0,1,2,3,4,5]),
             (⟨(.l 153),.index (.c (.str zD1)) (.l 152),none⟩,[0,1,2,3,4,5]),
             (zm 154 14,[0,1,2,3,4,5,6,7,8]),
             (⟨(.l 155),.index (.c (.str zD1)) (.l 154),none⟩,[0,1,2,3,4,5,6,7,8]),
             (za 156 1 145 147,[3,4,5,9,10]),
             (zS 1 156 153,[3,4,5,9,10]),
             (za 157 1 148 150,[]),
             (zS 1 157 155,[])])
           (.region [zm 158 2,
             zc 159 .sub 158 2,
             zw 2 159]))))
        (.skip))
def HM (e:TypeId)(off n u0:Nat)(x:Ex)(s:al):Prop:=(x = .normal\/x = .ret)/\s.s.bA=[]/\∃L',s.s.hp=[some (.cells (bS L') e)]/\bG 0 s.wr/\iZ L' off n 0 u0
theorem HN {u n i:Nat}(h:u<10^n)(hi:i<=n):u/10^(n-i)<10^i:=by
 refine Nat.div_lt_of_lt_mul ?_;rw[←Nat.pow_add,show n-i+i=n by omega];exact h
def HO (L:aM)(off n u0:Nat)(k:Nat)(iv U:Int)(wr:List Nat):Prop:=∃i:Nat,i<k/\i<=n/\iv=(i:Int)/\U=((u0/10^(n-i):Nat):Int)/\iZ L off n i u0/\bG 0 wr
theorem HP {off n u0:Nat}(hn:off+n<=24)(hlt:u0<10^n){L:aM}{iv U:Int}{a1 a3 a4 a5 a6 a7 a8 a9 a11 a12 a13 a14:AV}{lo:List (Nat×AV)}{wr:List Nat}(h:HO L off n u0 2 iv U wr) :
 W M uL ⟨⟨[.sl 0 off n 1 cap,a1,.iV iv,a3,a4,a5,a6,a7,a8,a9,.int .u32 U,a11,a12,a13,a14],lo,[some (.cells (bS L) e)],[]⟩,wr⟩ (HM e off n u0):=by
 obtain⟨i,hi,hin,rfl,hU,hL,hw⟩:=h;have hl:=hL.1;have hr:=HN hlt hin;obtain⟨V,hV⟩:∃V,V=u0/10^(n-i):=⟨_,rfl⟩;rw[←hV]at hU hr;subst hU;by_cases h1:i=1
 . subst h1;have hV10:V<10:=by simpa using hr
   have hd:(dw V).toNat=48+V:=qL hV10;unfold uL;refine gg13 ?_;refine⟨.inl rfl,rfl,_,rfl,.cons hw,by simp[hl],fun j h1 h2=>?_⟩;rw[Bc (by omega)];by_cases hj:j=0
   . subst hj;rw[if_pos (by omega),show n-1-0=n-1 by omega,←hV,Nat.mod_eq_of_lt hV10]
   . rw[if_neg (by omega)];exact hL.2 j (by omega) h2
 . obtain rfl:i=0:=by omega
   unfold uL;exact gg4
theorem Mi {off n u0:Nat}(hn:off+n<=24)(hlt:u0<10^n){L:aM}{iv U:Int}{a1 a3 a4 a5 a6 a7 a8 a9 a11 a12 a13 a14:AV}{lo:List (Nat×AV)}{wr:List Nat}(h:HO L off n u0 4 iv U wr) :
 W M (.seq Be uL) ⟨⟨[.sl 0 off n 1 cap,a1,.iV iv,a3,a4,a5,a6,a7,a8,a9,.int .u32 U,a11,a12,a13,a14],lo,[some (.cells (bS L) e)],[]⟩,wr⟩ (HM e off n u0):=by
 obtain⟨i,hi,hin,rfl,hU,hL,hw⟩:=h;have hl:=hL.1;have sl:=UH;have hr:=HN hlt hin;by_cases h1:2<=i
 . obtain⟨j,rfl⟩:∃j,i=j+2:=⟨i-2,by omega⟩;have s1:=UK (u:=u0) (n:=n) (j:=j) hin;obtain⟨V,hV⟩:∃V,V=u0/10^(n-(j+2)):=⟨_,rfl⟩;rw[←hV]at hU hr s1;have hV4:V<10000:=Nat.lt_of_lt_of_le hr (Nat.le_trans (Nat.pow_le_pow_right (by decide) (show j+2<=4 by omega)) (by decide));subst hU;unfold Be;repeat' first|(apply HP hn hlt)|(apply abK;rfl;rfl;(first|omega|(simp only[List.length_set];omega)))|(apply adg;rfl;rfl;omega;omega)|(apply adh;rfl;rfl;omega;omega)|(apply adf;rfl;rfl;omega)|(apply ach;rfl;rfl;omega)|(apply abz (s:=jJ);rfl;rfl;omega)|apply aaK|apply iI|apply aaN|apply aaO|apply aaX|apply aaZ|(apply aba;rfl)|(apply abx;rfl;(first|(simp only[nca];rfl)|rfl);(first|(simp only[nca];rfl)|rfl))|(apply abb;rfl)|(apply aaE;rfl;rfl)|(apply aaY;rfl;rfl;omega)|(apply abS;rfl;rfl;omega)|(apply aac;rfl;rfl)|(apply aaL;rfl;rfl)|(intro _;omega)|intro _
   all_goals try omega
   refine⟨j,by omega,by omega,by omega,by rw[s1];omega,?_,.cons (.cons hw)⟩;refine iZ.UL (U:=V) hL hn (by omega) hV ?_ ?_ ?_ ?_;all_goals omega
 . unfold Be;repeat' first|(apply HP hn hlt)|(apply aaE;rfl;rfl)|refine gc ?_|(intro _;omega)|intro _
   all_goals try omega
   exact⟨i,by omega,hin,rfl,hU,hL,hw⟩
section
variable {t:Nat} {x y:ax} {l:List aO} {pe:List AV} {lo:List (Nat×AV)} {df wr:List Nat} {k:IntKind} {a:Int} {Q:al->Prop} {L:aM} {n:Nat}
theorem abL (hx:(St.mk pe lo [some (.cells (bS L) e)] df).aa x=some (.ptr 0 0))(hl:L.length=24)(hy:(St.mk pe lo [some (.cells (bS L) e)] df).aa y=some (.int k a))(ha:a=(n:Int))(hn:n<=24)
 (h:WO M l ⟨⟨pe,(t,.sl 0 0 n 1 (some 24))::lo,[some (.cells (bS L) e)],df⟩,wr⟩ Q):WO M (⟨.l t,.jE 24 1 x none (some y),none⟩::l) ⟨⟨pe,lo,[some (.cells (bS L) e)],df⟩,wr⟩ Q:=by
 subst ha;refine WO.HK (i:=0) (j:=n) hx hl rfl ?_ (by decide) h;simp only[St.cE,hy,Option.map_some,Option.bind_some,br];rw[if_pos (by omega)];rfl
theorem acS (hx:(St.mk pe lo [some (.cells (bS L) e)] df).aa x=some (.ptr 0 0))(hl:L.length=24)(hy:(St.mk pe lo [some (.cells (bS L) e)] df).aa y=some (.int k a))(ha:a=1+(n:Int))(hn:n<24)
 (h:WO M l ⟨⟨pe,(t,.sl 0 1 n 1 (some 23))::lo,[some (.cells (bS L) e)],df⟩,wr⟩ Q):WO M (⟨.l t,.jE 24 1 x (some (.c (.iV 1))) (some y),none⟩::l) ⟨⟨pe,lo,[some (.cells (bS L) e)],df⟩,wr⟩ Q:=by
 subst ha;refine WO.HK (i:=1) (j:=n+1) hx hl ?_ ?_ (by decide) h
 . have e1:(St.mk pe lo [some (.cells (bS L) e)] df).aa (.c (.iV 1))=some (.iV 1):=rfl;simp only[St.cE,e1,Option.map_some,Option.bind_some,br];rw[if_pos (by omega)];rfl
 . simp only[St.cE,hy,Option.map_some,Option.bind_some,br];rw[if_pos (by omega)];congr 1;omega
theorem acR {hp:ab}{v:Int}(hx:(St.mk pe lo hp df).aa x=some (.uV a))(hv:(0-a)%18446744073709551616=v)
 (h:WO M l ⟨⟨pe,(t,.uV v)::lo,hp,df⟩,wr⟩ Q):WO M (⟨.l t,.un .neg x,none⟩::l) ⟨⟨pe,lo,hp,df⟩,wr⟩ Q:=
 aac (v:=.uV v) (by simp only[aP,hx,Option.bind_some,pr,mh,hv]) rfl h
end
def DJ:aM:=List.replicate 24 0
def cT (z:Int):aM:=if z<0 then 45::aX (-z).toNat else aX z.toNat
set_option maxRecDepth 1000000
end Go.Ab.Ch1

/-
  Own work: decimal texts in parts of 18 digits.
-/
namespace Go.Ab.aR
theorem Bf:∀k,cJ k 0=List.replicate k 48
 | 0=>rfl
 | k+1=>by rw[cJ,Bf k,List.replicate_succ'];rfl
end Go.Ab.aR

/-
  Own work: the code of texts of integers and fractions.
-/
namespace Go.Ab.Ch1
set_option maxRecDepth 1000000
def uM:an:=.seq (zR [zm 13 0,zL 14 13,zc 15 .gtr 14 0] (.cond (.l 15) (.skip) (.exit 0))) (.block 1 (zR [zm 16 0,zL 17 16,⟨.l 18,.mm false [(kI 18),(.l 17)],none⟩,zw 4 18] (zR [zm 20 0,zm 21 4,⟨.l 22,.slice .str 1 (.l 20) none (some (.l 21)) none,none⟩,z1 23 214 22,zn 19 23,ze 24 0 19,ze 25 1 19,zw 5 24,zn 7 25] (.seq (.draw [(zt 26 2 3,[]),(⟨.l 27,.call (kF 168) [(kI 10)],none⟩,[0]),(zm 28 4,[0,1]),(z2 29 215 27 28,[0]),(z2 30 198 26 29,[]),(zm 31 5,[0,1,2,3,4]),(z1 32 168 31,[]),(z2 33 202 30 32,[]),(zs 2 3 33,[])]) (.region [zm 34 0,zm 35 4,⟨.l 36,.slice .str 1 (.l 34) (some (.l 35)) none none,none⟩,zw 0 36])))))
def HQ:an:=zR [⟨.p 1,.alloc 131 [.iV (0),.ae],none⟩] (zR [zm 8 0,⟨.l 9,.call (kF 212) [(.l 8),(.c (.str [45]))],none⟩,zw 2 9] (zR [zm 10 0,⟨.l 11,.call (kF 213) [(.l 10),(.c (.str [45]))],none⟩,zw 0 11] (zR [⟨.l 12,.build [.iV (0),.ae] [],none⟩,⟨.p 3,.alloc 131 [.iV (0),.ae],none⟩,zs 2 3 12] (.seq (.block 0 (.loop uM)) (.seq (zR [zm 37 2] (.cond (.l 37) (zR [zt 38 2 3,z1 39 216 38,zs 2 1 39] (.ret)) (.skip))) (zR [zt 40 2 3,zs 2 1 40] (.ret)))))))
theorem UM:FT 166=some ⟨41,[0,2,3,4,5,6],[.cell 2 true (.p 1)],HQ⟩:=by kernel_rfl
open Go.Ab.aR
variable {M:ao} {cap:Option Nat} {N:Nat}
abbrev sh (s:aM):List AV:=[.str s]
theorem qN {z:Int}(h:z<0):cT z=45::aX (ah z).toNat:=by
 rw[cT,if_pos h];unfold ah;rw[if_pos h]
theorem mz {z:Int}(h:¬z<0):cT z=aX (ah z).toNat:=by
 rw[cT,if_neg h];unfold ah;rw[if_neg h]
variable {N2:Nat}
def aw (q:Rat):aM:=if q.den=1 then cT q.num else cT q.num++47::aX q.den
def HS:an:=zR [⟨.p 2,.mv (.c (.bool false)),none⟩] (zR [zm 5 0,zm 6 1,z2 7 255 5 6,zw 2 7] (.ret))
theorem UN:FT 212=some ⟨8,[0,1,4],[.var (.p 2)],HS⟩:=by kernel_rfl
def Bg:an:=zR [⟨.p 2,.mv (.c (.bool false)),none⟩] (zR [zm 5 0,zL 6 5,zm 7 1,zL 8 7,zb 9 .geq 6 8,zn 10 9,zg (zm 11 0) 10 true,zg (zm 12 1) 10 true,zg (zL 13 12) 10 true,⟨.l 14,.slice .str 1 (.l 11) none (some (.l 13)) none,some ((.l 10),true)⟩,zg (zm 15 1) 10 true,zg (zb 16 .eql 14 15) 10 true,zp 17 10 16,zw 2 17] (.ret))
theorem UO:FT 255=some ⟨18,[0,1,4],[.var (.p 2)],Bg⟩:=by kernel_rfl
def HT:an:=zR [⟨.p 2,.mv (.c (.str [])),none⟩] (zR [zm 5 0,zm 6 1,z2 7 258 5 6,zw 2 7] (.ret))
theorem UP:FT 213=some ⟨8,[0,1,4],[.var (.p 2)],HT⟩:=by kernel_rfl
def HU:an:=zR [⟨.p 2,.mv (.c (.str [])),none⟩] (.seq (zR [zm 5 0,zm 6 1,z2 7 255 5 6] (.cond (.l 7) (zR [zm 8 0,zm 9 1,zL 10 9,⟨.l 11,.slice .str 1 (.l 8) (some (.l 10)) none none,none⟩,zw 2 11] (.ret)) (.skip))) (zR [zm 12 0,zw 2 12] (.ret)))
theorem UQ:FT 258=some ⟨13,[0,1,4],[.var (.p 2)],HU⟩:=by kernel_rfl
def HV:an:=zR [zi 1 0,⟨.p 2,.mv (.c (.cZ)),none⟩] (zR [zm 7 0,z1 8 259 7,zn 6 8,ze 9 0 6,ze 10 1 6,zw 3 9,zw 4 10] (.seq (zR [zm 11 4,⟨.l 12,.eq true (.iface false) (.l 11) (.c (.cZ)),none⟩] (.cond (.l 12) (zR [zm 13 3,zm 14 0,zm 15 4,⟨.l 16,.call (kF 260) [(.c (.str zD2)),(.l 14),(kI 0),(kI 0),(.l 15)],none⟩,zw 1 13,zw 2 16] (.ret)) (.skip))) (zR [zm 17 3,zw 1 17,⟨.p 2,.mv (.c (.cZ)),none⟩] (.ret))))
theorem UR:FT 214=some ⟨18,[0,2,3,4,5],[.var (.p 1),.var (.p 2)],HV⟩:=by kernel_rfl
def uN:an:=zR [zr 50 .lss 11 10] (.seq (.cond (.l 50) (.skip) (.exit 0)) (.seq (.block 1 (zR [⟨.l 51,.dX none 1 (.p 9) (.p 11),none⟩,zd 52 1 51,zw 6 52] (zR [zm 53 6,⟨.l 54,.bin .sub (.l 53) (.c (.int .u8 (48))),none⟩,zw 6 54] (.seq (zR [zm 55 6,⟨.l 56,.bin .gtr (.l 55) (.c (.int .u8 (9))),none⟩] (.cond (.l 56) (zR [⟨.l 57,.pj 291 (kI 2),none⟩,zi 1 0,zw 2 57] (.ret)) (.skip))) (.region [zm 58 5,zc 59 .mul 58 10,zm 60 6,⟨.l 61,.dM .i64 (.l 60),none⟩,zb 62 .add 59 61,zw 5 62]))))) (.region [zq 63 .add 11 1,zw 11 63])))
def HW:an:=zR [zi 1 0,⟨.p 2,.mv (.c (.cZ)),none⟩] (zR [zm 11 0,zL 12 11,zw 3 12] (.seq (zR [⟨.l 13,.mv (.c (.bool false)),none⟩,zg (zm 14 3) 13 true,⟨.l 15,.bin .lss (kI 0) (.l 14),some ((.l 13),true)⟩,zg (zn 16 15) 13 true,zg (zm 17 3) 16 true,zg (zc 18 .lss 17 10) 16 true,zg (zp 19 16 18) 13 true,zp 20 13 19,zn 21 20,⟨.l 22,.mv (.c (.bool true)),some ((.l 21),false)⟩,zg (zm 23 3) 22 true,⟨.l 24,.bin .lss (kI 0) (.l 23),some ((.l 22),true)⟩,zg (zn 25 24) 22 true,zg (zm 26 3) 25 true,zg (zc 27 .lss 26 19) 25 true,zg (zp 28 25 27) 22 true,zg (zp 29 22 28) 21 false,zP 30 21 29] (.cond (.l 30) (zR [zm 31 0,zw 4 31] (.seq (zR [zm 32 0,⟨.l 33,.index (.l 32) (kI 0),none⟩,⟨.l 34,.bin .eql (.l 33) (.c (.int .u8 (45))),none⟩,zn 35 34,zg (zm 36 0) 35 false,⟨.l 37,.index (.l 36) (kI 0),some ((.l 35),false)⟩,⟨.l 38,.bin .eql (.l 37) (.c (.int .u8 (43))),some ((.l 35),false)⟩,zP 39 35 38] (.cond (.l 39) (zR [zm 40 0,⟨.l 41,.slice .str 1 (.l 40) (some (kI 1)) none none,none⟩,zw 0 41] (zR [zm 42 0,zL 43 42,zc 44 .lss 43 1] (.cond (.l 44) (zR [⟨.l 45,.pj 291 (kI 2),none⟩,zi 1 0,zw 2 45] (.ret)) (.skip)))) (.skip))) (zR [zi 5 0] (.seq (zR [zm 46 0,⟨.p 9,.mN 5 (.l 46),none⟩,⟨.p 10,.len .sl (.p 9),none⟩,zi 11 0] (.block 0 (.loop uN))) (.seq (zR [zm 64 4,⟨.l 65,.index (.l 64) (kI 0),none⟩,⟨.l 66,.bin .eql (.l 65) (.c (.int .u8 (45))),none⟩] (.cond (.l 66) (.region [zm 67 5,⟨.l 68,.un .neg (.l 67),none⟩,zw 5 68]) (.skip))) (zR [zm 69 5,zw 1 69,⟨.p 2,.mv (.c (.cZ)),none⟩] (.ret))))))) (.skip))) (zR [zm 71 0,⟨.l 72,.call (kF 293) [(.l 71),(kI 10),(kI 0)],none⟩,zn 70 72,ze 73 0 70,ze 74 1 70,zw 7 73,zw 8 74] (zR [zm 75 7,zm 76 8,zw 1 75,zw 2 76] (.ret)))))
theorem US:FT 259=some ⟨77,[0,2,3,4,5,6,8,9,10,47,48,49],[.var (.p 1),.var (.p 2)],HW⟩:=by kernel_rfl
def HX:an:=zR [⟨.p 2,.mv (.c (.str [])),none⟩,⟨.p 3,.mv (.c (.str [])),none⟩,⟨.p 4,.mv (.c (.bool false)),none⟩] (zR [zm 7 0,zm 8 1,z2 9 208 7 8,ze 10 0 9,ze 11 1 9,ze 12 2 9,zw 2 10,zw 3 11,zw 4 12] (.ret))
theorem UT:FT 163=some ⟨13,[0,1,4,5,6],[.var (.p 2),.var (.p 3),.var (.p 4)],HX⟩:=by kernel_rfl
def Bh:an:=zR [⟨.p 2,.mv (.c (.str [])),none⟩,⟨.p 3,.mv (.c (.str [])),none⟩,⟨.p 4,.mv (.c (.bool false)),none⟩] (.seq (zR [zm 8 0,zm 9 1,z2 10 256 8 9,zw 5 10] (zR [zm 11 5,zc 12 .geq 11 0] (.cond (.l 12) (.seq (.draw [(zm 13 0,[]),(zm 14 5,[0]),(⟨.l 15,.slice .str 1 (.l 13) none (some (.l 14)) none,none⟩,[]),(zm 16 0,[0,1,2]),(zm 17 5,[0,1,2,3]),(zm 18 1,[0,1,2,3,4]),(zL 19 18,[0,1,2,3,4]),(zb 20 .add 17 19,[0,1,2,3]),(⟨.l 21,.slice .str 1 (.l 16) (some (.l 20)) none none,none⟩,[0,1,2]),(zw 2 15,[3,4,5,6,7,8]),(zw 3 21,[]),(⟨.p 4,.mv (.c (.bool true)),none⟩,[])]) (.ret)) (.skip)))) (zR [zm 22 0,zw 2 22,⟨.p 3,.mv (.c (.str [])),none⟩,⟨.p 4,.mv (.c (.bool false)),none⟩] (.ret)))
theorem UU:FT 208=some ⟨23,[0,1,4,5,6,7],[.var (.p 2),.var (.p 3),.var (.p 4)],Bh⟩:=by kernel_rfl
def UW:an:=.seq (zR [zm 57 6,zm 58 7,zb 59 .lss 57 58] (.cond (.l 59) (.skip) (.exit 1))) (.block 2 (.seq (zR [zm 60 0,zm 61 6,⟨.l 62,.index (.l 60) (.l 61),none⟩,zm 63 4,zb 64 .neq 62 63] (.cond (.l 64) (zR [zm 65 0,zm 66 6,zc 67 .add 66 1,zm 68 7,⟨.l 69,.slice .str 1 (.l 65) (some (.l 67)) (some (.l 68)) none,none⟩,zm 70 4,z2 71 282 69 70,zw 9 71] (.seq (zR [zm 72 9,zc 73 .lss 72 0] (.cond (.l 73) (zR [zi 2 (-1)] (.ret)) (.skip))) (.region [zm 74 6,zm 75 9,zc 76 .add 75 1,zb 77 .add 74 76,zw 6 77]))) (.skip))) (.seq (zR [zm 78 0,zm 79 6,zc 80 .add 79 1,⟨.l 81,.index (.l 78) (.l 80),none⟩,zm 82 5,zb 83 .eql 81 82,zn 84 83,zg (zm 85 0) 84 true,zg (zm 86 6) 84 true,zg (zm 87 6) 84 true,zg (zm 88 3) 84 true,zg (zb 89 .add 87 88) 84 true,⟨.l 90,.slice .str 1 (.l 85) (some (.l 86)) (some (.l 89)) none,some ((.l 84),true)⟩,zg (zm 91 1) 84 true,zg (zb 92 .eql 90 91) 84 true,zp 93 84 92] (.cond (.l 93) (zR [zm 94 6,zw 2 94] (.ret)) (.skip))) (zR [zm 95 6,zc 96 .add 95 1,zw 6 96] (zR [zm 97 8,zc 98 .add 97 1,zw 8 98] (.seq (.bad) (.cond (.l 107) (zR [zm 108 0,zm 109 6,⟨.l 110,.slice .str 1 (.l 108) (some (.l 109)) none none,none⟩,zm 111 1,z2 112 283 110 111,zw 10 112] (.seq (zR [zm 113 10,zc 114 .geq 113 0] (.cond (.l 114) (zR [zm 115 10,zm 116 6,zb 117 .add 115 116,zw 2 117] (.ret)) (.skip))) (zR [zi 2 (-1)] (.ret)))) (.seq (.bad) (.cond (.l 132) (zR [zm 133 0,zm 134 6,⟨.l 135,.slice .str 1 (.l 133) (some (.l 134)) none none,none⟩,zm 136 1,z2 137 285 135 136,zw 11 137] (.seq (zR [zm 138 11,zc 139 .lss 138 0] (.cond (.l 139) (zR [zi 2 (-1)] (.ret)) (.skip))) (zR [zm 140 6,zm 141 11,zb 142 .add 140 141,zw 2 142] (.ret)))) (.skip))))))))))
def HY:an:=zR [zi 2 0] (zR [zm 14 1,zL 15 14,zw 3 15] (.seq (.block 0 (zR [zm 17 3,zc 18 .eql 17 0,zn 19 18,zg (zm 20 1) 19 false,zg (zm 21 0) 19 false,zg (zb 22 .eql 20 21) 19 false,zP 23 19 22,zn 16 23] (.cond (.l 16) (zR [zi 2 0] (.ret)) (zR [zm 25 3,zc 26 .eql 25 1,zn 24 26] (.cond (.l 24) (zR [zm 27 0,zm 28 1,⟨.l 29,.index (.l 28) (kI 0),none⟩,z2 30 282 27 29,zw 2 30] (.ret)) (zR [zm 32 3,zm 33 0,zL 34 33,zb 35 .geq 32 34,zn 31 35] (.cond (.l 31) (zR [zi 2 (-1)] (.ret)) (.seq (.bad) (.cond (.l 36) (zR [zm 45 0,zm 46 1,z2 47 283 45 46,zw 2 47] (.ret)) (.skip)))))))))) (zR [zm 48 1,⟨.l 49,.index (.l 48) (kI 0),none⟩,zw 4 49] (zR [zm 50 1,⟨.l 51,.index (.l 50) (kI 1),none⟩,zw 5 51] (zR [zi 6 0] (zR [zm 52 0,zL 53 52,zm 54 3,zb 55 .sub 53 54,zc 56 .add 55 1,zw 7 56] (zR [zi 8 0] (.seq (.block 1 (.loop UW)) (zR [zi 2 (-1)] (.ret))))))))))
theorem UX:FT 256=some ⟨143,[0,1,4,5,6,7,8,9,10,11,12,13],[.var (.p 2)],HY⟩:=by kernel_rfl
def HZ:an:=zR [zi 2 0] (zR [zm 5 0,zm 6 1,z2 7 312 5 6,zw 2 7] (.ret))
theorem UY:FT 282=some ⟨8,[0,1,4],[.var (.p 2)],HZ⟩:=by kernel_rfl
theorem acY {t esz n0:Nat}{x i:ax}{l:List aO}{pe:List AV}{lo:List (Nat×AV)}{hp:ab}{df wr:List Nat}{b o:Nat}{k:IntKind}{n:Int}{Q:al->Prop}(hx:(St.mk pe lo hp df).aa x=some (.ptr b o))(hy:(St.mk pe lo hp df).aa i=some (.int k n))(hb:0<=n/\n<n0)
 (h:WO M l ⟨⟨pe,(t,.ptr b (o+n.toNat*esz))::lo,hp,df⟩,wr⟩ Q):WO M (⟨.l t,.dX (some n0) esz x i,none⟩::l) ⟨⟨pe,lo,hp,df⟩,wr⟩ Q:=
 aac (v:=.ptr b (o+n.toNat*esz)) (by simp[aP,hx,hy,mS,hb]) rfl h
theorem acX {t:Nat}{x y:ax}{l:List aO}{pe:List AV}{lo:List (Nat×AV)}{hp:ab}{df wr:List Nat}{a b:Int}{Q:al->Prop}(hx:(St.mk pe lo hp df).aa x=some (.int .u8 a))(hy:(St.mk pe lo hp df).aa y=some (.int .u8 b))(hr:0<=a-b/\a-b<256)
 (h:WO M l ⟨⟨pe,(t,.int .u8 (a-b))::lo,hp,df⟩,wr⟩ Q):WO M (⟨.l t,.bin .sub x y,none⟩::l) ⟨⟨pe,lo,hp,df⟩,wr⟩ Q:=
 aac (v:=.int .u8 (a-b)) (by
  have:IntKind.u8.wrap (a-b)=a-b:=by simp only[IntKind.wrap,IntKind.bits,IntKind.signed];simp;omega
  simp only[aP,hx,hy,ck,if_true,this]) rfl h
def hasB (c:Int)(s:aM):Bool:=s.any (fun b=>decide ((b.toNat:Int)=c))
theorem UZ (s:aM)(b:UInt8):decide (0<=firstIdx ⟨s.toArray⟩ b)=hasB b.toNat s:=by
 unfold firstIdx hasB;have hsz:(ByteArray.mk s.toArray).size=s.length:=by simp[ByteArray.size]
 have hg:∀i,i<s.length->(ByteArray.mk s.toArray)[i]! = s[i]! := fun i hi=>by
  have h1:i<(ByteArray.mk s.toArray).size:=by rw[hsz];exact hi
  rw[getElem!_pos (ByteArray.mk s.toArray) i h1,getElem!_pos s i hi];rfl
 cases hf:(List.range (ByteArray.mk s.toArray).size).find? fun i=>(ByteArray.mk s.toArray)[i]! == b with
 | some i=>
  have h1:=List.find?_some hf;have h2:=List.mem_of_find?_eq_some hf;rw[List.mem_range,hsz]at h2;rw[hg i h2]at h1;symm
  simp only[decide_eq_true (show (0:Int)<=(i:Int) by omega)];rw[List.any_eq_true];refine⟨s[i],List.getElem_mem h2,?_⟩;rw[getElem!_pos s i h2]at h1;simp at h1;simp[h1]
 | none=>
  rw[List.find?_eq_none]at hf;symm
  rw[show decide ((0:Int) <= -1)=false from rfl];rw[List.any_eq_false];intro x hx;obtain⟨i,hi,rfl⟩:=List.mem_iff_getElem.1 hx;have:=hf i (by rw[List.mem_range,hsz];exact hi);rw[hg i hi,getElem!_pos s i hi]at this;simp at this;simp only[decide_eq_true_eq];intro e;exact this (UInt8.toNat_inj.1 (by omega))
structure qO (M:ao):Prop where
 ft:M.FT=FT
 Ia:∀ars h,M.ext 256 ars h=none
 Ib:∀ars h,M.ext 282 ars h=none
 Ic:∀(s:aM) (c:Int) h,M.ext 312 [.str s,.int .u8 c] h=some ⟨.iV (firstIdx ⟨s.toArray⟩ c.toNat.toUInt8),h,[]⟩
theorem Va (b:UInt8):((b.toNat:Int)).toNat.toUInt8=b:=by simp
theorem Vb (C:qO M)(s:aM)(b:UInt8)(H:ab):CT M (iY 282) [.str s,.int .u8 b.toNat] H ⟨.iV (firstIdx ⟨s.toArray⟩ b),H,[]⟩:=by
 have hc:=C.Ic s b.toNat H;rw[Va]at hc;refine CT.run (C.Ib _ _) (tF (by rw[C.ft];exact UY) (by simp) ?_);simp only[List.nil_append,List.append_nil];unfold HZ;simp only[enter];exact gg17
theorem Vc (C:qO M)(s:aM)(b:UInt8)(H:ab):CT M (iY 256) [.str s,.str [b]] H ⟨.iV (firstIdx ⟨s.toArray⟩ b),H,[]⟩:=by
 have hc:=Vb C s b H;have hn0:¬(([b]:aM).length:Int)=0:=by simp
 have hn:(([b]:aM).length:Int)=1:=rfl;refine CT.run (C.Ia _ _) (tF (by rw[C.ft];exact UX) (by simp) ?_);simp only[List.nil_append,List.append_nil];unfold HY;simp only[enter];by_cases hs:([b]:aM)=s
 . subst hs;have e:firstIdx ⟨([b]:aM).toArray⟩ b=0:=by
    have h1:=UZ [b] b;have h2:hasB b.toNat [b]=true:=by simp[hasB]
    rw[h2,decide_eq_true_eq]at h1;unfold firstIdx at h1 ⊢;rw[show (ByteArray.mk ([b]:aM).toArray).size=1 from rfl]at h1 ⊢;rw[show List.range 1=[0] from rfl]at h1 ⊢;have h3:((ByteArray.mk ([b]:aM).toArray)[0]! == b)=true:=by
     cases hq:((ByteArray.mk ([b]:aM).toArray)[0]! == b) with
     | true=>rfl
     | false=>simp[hq]at h1
    simp only[List.find?_cons,h3];rfl
   rw[e];exact gg6
 . repeat' first|(apply aaP;rfl;rfl;all_goals first|(intro h;exact absurd h hs)|intro _)|(apply aak;rfl;rfl)|refine gd4 ?_|refine gc ?_|(intro _;omega)|intro _
   all_goals exact⟨.inr rfl,rfl,rfl,rfl,_,rfl,rfl⟩
def bM (b:UInt8):aM->aM×Option aM
 | []=>([],none)
 | c::s=>if c=b then ([],some s) else (c::(bM b s).1,(bM b s).2)
def kS (b:UInt8):aM->List aM
 | []=>[[]]
 | c::s=>if c=b then []::kS b s else match kS b s with
   | []=>[[c]]
   | x::l=>(c::x)::l
def ka (b:UInt8):aM->Nat
 | []=>0
 | c::s=>(if c=b then 1 else 0)+ka b s
theorem qP {b:UInt8}:∀{s:aM},(bM b s).2=none->(bM b s).1=s/\kS b s=[s]/\ka b s=0
 | [],_=>⟨rfl,rfl,rfl⟩
 | c::s,h=>by
  rw[bM]at h ⊢;by_cases hc:c=b
  . rw[if_pos hc]at h;cases h
  . rw[if_neg hc]at h ⊢;obtain⟨h1,h2,h3⟩:=qP (s:=s) h;refine⟨by simp only;rw[h1],?_,?_⟩
    . rw[kS,if_neg hc,h2]
    . rw[ka,if_neg hc,h3]
theorem qQ {b:UInt8}:∀{s y:aM},(bM b s).2=some y->s=(bM b s).1++b::y/\kS b s=(bM b s).1::kS b y/\ka b s=ka b y+1/\b∉(bM b s).1
 | [],y,h=>by cases h
 | c::s,y,h=>by
  rw[bM]at h ⊢;by_cases hc:c=b
  . rw[if_pos hc]at h ⊢;obtain rfl:s=y:=Option.some.inj h;subst hc;refine⟨rfl,?_,?_,by simp⟩
    . rw[kS,if_pos rfl]
    . rw[ka,if_pos rfl];omega
  . rw[if_neg hc]at h ⊢;obtain⟨h1,h2,h3,h4⟩:=qQ (s:=s) h;refine⟨by simp only[List.cons_append];rw[←h1],?_,?_,?_⟩
    . rw[kS,if_neg hc,h2]
    . rw[ka,if_neg hc,h3];omega
    . simp only[List.mem_cons,not_or];exact⟨fun e=>hc e.symm,h4⟩
theorem Vd (s:aM)(b:UInt8):firstIdx ⟨s.toArray⟩ b=if (bM b s).2=none then -1 else ((bM b s).1.length:Int):=by
 have hsz:(ByteArray.mk s.toArray).size=s.length:=by simp[ByteArray.size]
 have hg:∀i,i<s.length->(ByteArray.mk s.toArray)[i]! = s[i]! := fun i hi=>by
  have h1:i<(ByteArray.mk s.toArray).size:=by rw[hsz];exact hi
  rw[getElem!_pos (ByteArray.mk s.toArray) i h1,getElem!_pos s i hi];rfl
 unfold firstIdx;cases hy:(bM b s).2 with
 | none=>
  rw[if_pos rfl];cases hf:(List.range (ByteArray.mk s.toArray).size).find? fun i=>(ByteArray.mk s.toArray)[i]! == b with
  | none=>rfl
  | some i=>
   exfalso;have h1:=List.find?_some hf;have h2:=List.mem_of_find?_eq_some hf;rw[List.mem_range,hsz]at h2;rw[hg i h2,getElem!_pos s i h2]at h1;have hm:b∈s:=by
    have:s[i]=b:=by simpa using h1
    rw[←this];exact List.getElem_mem h2
   have h0:=(qP hy).2.2;have:∀s:aM,b∈s->0<ka b s:=fun s=>by
    induction s with
    | nil=>intro h;cases h
    | cons c s ih=>
     intro h;rw[ka];rcases List.mem_cons.1 h with rfl|h
     . rw[if_pos rfl];omega
     . have:=ih h;omega
   have:=this s hm;omega
 | some y=>
  rw[if_neg (by simp)];obtain⟨h1,_,_,h4⟩:=qQ hy;generalize (bM b s).1=x at h1 h4 ⊢;have hl:x.length<s.length:=by rw[h1];simp
  have hf:((List.range (ByteArray.mk s.toArray).size).find? fun i=>(ByteArray.mk s.toArray)[i]! == b)=some x.length:=by
   rw[hsz,List.find?_range_eq_some];refine⟨?_,by simpa using hl,fun j hj=>?_⟩
   . rw[hg _ hl,getElem!_pos s _ hl];have:s[x.length]? = some b:=by rw[h1];simp
     rw[List.getElem?_eq_getElem hl]at this;simp[Option.some.inj this]
   . rw[hg j (by omega),getElem!_pos s j (by omega)];have:s[j]? = x[j]? := by rw[h1,List.getElem?_append_left hj]
     rw[List.getElem?_eq_getElem (by omega:j<s.length),List.getElem?_eq_getElem hj]at this;rw[Option.some.inj this];have hne:x[j]≠b:=fun e=>h4 (by rw[←e];exact List.getElem_mem hj)
     simp[hne]
  rw[hf]
def iO (b:UInt8)(s:aM):AV:=.aq [.str (bM b s).1,.str ((bM b s).2.getD []),.bool (bM b s).2.isSome]
theorem Bi {b:UInt8}{s y:aM}(h:(bM b s).2=some y):s.length=(bM b s).1.length+1+y.length:=by
 have:=congrArg List.length (qQ h).1;simp only[List.length_append,List.length_cons]at this;omega
theorem Ie {b:UInt8}{s y:aM}(h:(bM b s).2=some y):s.take (bM b s).1.length=(bM b s).1:=by
 have e:=(qQ h).1;generalize (bM b s).1=x at e ⊢;rw[e];simp
theorem Ig {b:UInt8}{s y:aM}(h:(bM b s).2=some y):s.drop ((bM b s).1.length+1)=y:=by
 have e:=(qQ h).1;generalize (bM b s).1=x at e ⊢;rw[e];simp
theorem Ve (n208:∀ars h,M.ext 208 ars h=none)(C:qO M)(s:aM)(b:UInt8)(hl:s.length<1000000)(H:ab):CT M (iY 208) [.str s,.str [b]] H ⟨iO b s,H,[]⟩:=by
 have hc:=Vc C s b H;have hn1:([b]:aM).length=1:=rfl;rw[Vd]at hc;refine CT.run (n208 _ _) (tF (by rw[C.ft];exact UU) (by simp) ?_);simp only[List.nil_append,List.append_nil];cases hy:(bM b s).2 with
 | none=>
  rw[if_pos hy]at hc;have h1:=(qP hy).1;unfold Bh;simp only[enter];refine gg11 ?_;refine⟨.inr rfl,rfl,rfl,rfl,_,rfl,?_⟩;simp only[iO,hy,h1];rfl
 | some y=>
  rw[if_neg (by rw[hy];simp)]at hc;have h1:=Bi hy;have h2:=Ie hy;have h3:=Ig hy;generalize hx:(bM b s).1=x at h1 h2 h3 hc;unfold Bh;simp only[enter];refine gg11 ?_;refine⟨.inr rfl,rfl,rfl,rfl,_,rfl,?_⟩;simp only[iO,hy,hx];rfl
theorem Vf (n208:∀ars h,M.ext 208 ars h=none)(C:qO M)(s:aM)(b:UInt8)(hl:s.length<1000000):aU M 163 [.str s,.str [b]] [] ⟨iO b s,[],[]⟩:=by
 have hc:=Ve n208 C s b hl [];unfold iO at hc ⊢;refine bO (by rw[C.ft];exact UT) (by simp) ?_;unfold HX;simp only[enter];exact gg4
@[irreducible] def aaz:List AV:=(List.range 256).map fun i=>.bool (AX i)
structure Ih (M:ao):Prop where
 ft:M.FT=FT
 Vg:∀ars h,M.ext 259 ars h=none
theorem Vh {s:aM}{i:Nat}(h:i<s.length):(bS s)[i]? = some (.int .u8 (s[i]!).toNat):=by
 rw[bS,List.getElem?_map,List.getElem?_eq_getElem h,getElem!_pos s i h];rfl
theorem Vi {H:ab}{c:Nat}(s:aM)(hb:H.at c=some (.cells (bS s) 5))(hs:s.length<=18)(hd:s.all cS=true)(cp:Option Nat)(a1 a2 a3 a4 a7 a8:AV){Q:Ex->al->Prop}:∀(r i n:Nat) (a6:AV) (lo:List (Nat×AV)) (wr:List Nat),i+r=s.length->n<10^i ->
 (∀a6 lo,Q (.exit 0) ⟨⟨[.str s,a1,a2,a3,a4,.iV (aT n (s.drop i)),a6,a7,a8,.sl c 0 s.length 1 cp,.iV s.length,.iV s.length],lo,H,[]⟩,wr⟩) ->
 W M (.loop uN) ⟨⟨[.str s,a1,a2,a3,a4,.iV n,a6,a7,a8,.sl c 0 s.length 1 cp,.iV s.length,.iV i],lo,H,[]⟩,wr⟩ Q:=by
 intro r;induction r with
 | zero=>
  intro i n a6 lo wr hi hn hQ;obtain rfl:i=s.length:=by omega
  rw[List.drop_length]at hQ;refine W.loop ?_;unfold uN;exact gg1
 | succ r ih=>
  intro i n a6 lo wr hi hn hQ;have hil:i<s.length:=by omega
  have hp:10^i<=10^17:=Nat.pow_le_pow_right (by decide) (by omega);have hg:s[i]! = s[i]:=getElem!_pos s i hil;have hm:=List.all_eq_true.1 hd (s[i]!) (by rw[hg];exact List.getElem_mem hil);have hx:=(qK _).1 hm;rw[List.drop_eq_getElem_cons hil,uI,←hg]at hQ;have hpart:partOf ((bS s).drop (0+((i:Int)).toNat*1)) 0 1 false=some (.int .u8 (s[i]!).toNat):=by
   rw[Pq,Int.toNat_natCast,Nat.zero_add,Nat.mul_one];simp only[partOf,Bool.false_eq_true,if_false];exact Vh hil
  refine W.loop ?_;unfold uN;refine gg16 ?_;refine cW ?_;have hpow:10^(i+1)=10*10^i:=by rw[Nat.pow_succ,Nat.mul_comm]
  have e:=ih (i+1) (10*n+((s[i]!).toNat-48));rw[show (((10*n+((s[i]!).toNat-48):Nat):Int))=(n:Int)*10+(((s[i]!).toNat:Int)-48) by omega,show (((i+1:Nat):Int))=(i:Int)+1 by omega]at e;exact e _ _ _ (by omega) (by omega) hQ
theorem Vj (C:Ih M)(s:aM)(h0:s≠[])(hl:s.length<=18)(hd:s.all cS=true)(H:ab):aU M 259 [.str s] H ⟨.aq [.iV (aT 0 s),.cZ],H,[]⟩:=by
 have hpos:0<s.length:=List.length_pos_iff.2 h0;have hg:s[0]! = s[0]:=getElem!_pos s 0 hpos;have hx:48<=(s[Int.toNat 0]!).toNat/\(s[Int.toNat 0]!).toNat<58:=(qK _).1 (List.all_eq_true.1 hd (s[0]!) (by rw[hg];exact List.getElem_mem hpos));refine kD (by rw[C.ft];exact US) (by simp) (Nat.zero_le _) ?_;unfold HW;simp only[enter];refine gg18 ?_;refine Vi (H:=H++[some (.cells (bS s) 5)]) (c:=H.length) s cN hl hd none _ _ _ _ _ _ s.length 0 0 _ _ _ (by omega) (by simp) (fun a6 lo=>?_);rw[List.drop_zero];repeat' first|(apply aak;rfl;rfl)|refine gc ?_|(intro _;omega)|intro _
 exact⟨.inr rfl,rfl,⟨_,rfl⟩,fun x h=>by simp at h,_,rfl,rfl⟩
theorem Vk (C:Ih M)(s:aM)(h0:s≠[])(hl:s.length<=18)(hd:s.all cS=true):aU M 214 [.str s] [] ⟨.aq [.iV (aT 0 s),.cZ],[],[]⟩:=by
 have hc:=CT.run (fi:=[]) (ca:=[]) (ars:=[.str s]) (C.Vg _ _) (Vj C s h0 hl hd []);refine bO (by rw[C.ft];exact UR) (by simp) ?_;unfold HV;simp only[enter];exact gg4
def preB (b:UInt8)(s:aM):Bool:=decide (s.head? = some b)
def bV (b:UInt8)(s:aM):aM:=if s.head? = some b then s.tail else s
theorem Bj (b:UInt8)(s:aM):(bV b s).length<=s.length:=by unfold bV;split <;> simp
theorem Vl (hft:M.FT=FT)(s:aM)(b:UInt8)(hl:s.length<1000000):aU M 255 [.str s,.str [b]] [] ⟨.bool (preB b s),[],[]⟩:=by
 have hn1:([b]:aM).length=1:=rfl;refine bO (by rw[hft];exact UO) (by simp) ?_;cases s with
 | nil=>
  have h0:([]:aM).length=0:=rfl;unfold Bg;simp only[enter];exact gg0
 | cons c t=>
  have hcl:(c::t).length=t.length+1:=rfl;have hd:(c::t).take (([b]:aM).length:Int).toNat=[c]:=rfl;have he:preB b (c::t)=decide (c=b):=by simp[preB]
  rw[he];unfold Bg;simp only[enter];by_cases hc:c=b
  . subst hc;rw[decide_eq_true rfl];exact gg0
  . rw[decide_eq_false hc];exact gg0
theorem Vm (hft:M.FT=FT)(s:aM)(b:UInt8)(q:∀h,M.ext 255 [.str s,.str [b]] h=some ⟨.bool (preB b s),h,[]⟩):aU M 212 [.str s,.str [b]] [] ⟨.bool (preB b s),[],[]⟩:=by
 refine bO (by rw[hft];exact UN) (by simp) ?_;unfold HS;simp only[enter];exact gg3
theorem Bk {b:UInt8}{s:aM}(h:preB b s=true):s.drop (([b]:aM).length:Int).toNat=bV b s/\1<=s.length:=by
 have h:=of_decide_eq_true h;unfold bV;rw[if_pos h];cases s with
 | nil=>simp at h
 | cons c t=>exact⟨rfl,by simp⟩
theorem oC {b:UInt8}{s:aM}(h:preB b s=false):bV b s=s:=if_neg (of_decide_eq_false h)
theorem Vn (hft:M.FT=FT)(s:aM)(b:UInt8)(hl:s.length<1000000)(q:∀h,M.ext 255 [.str s,.str [b]] h=some ⟨.bool (preB b s),h,[]⟩):aU M 258 [.str s,.str [b]] [] ⟨.str (bV b s),[],[]⟩:=by
 have hn1:([b]:aM).length=1:=rfl;refine bO (by rw[hft];exact UQ) (by simp) ?_;unfold HU;simp only[enter];cases hp:preB b s with
 | true=>
  rw[hp]at q;obtain⟨h1,h2⟩:=Bk hp;exact gg6
 | false=>
  rw[hp]at q;rw[oC hp];exact gg3
theorem Vo (hft:M.FT=FT)(s:aM)(b:UInt8)(q:∀h,M.ext 258 [.str s,.str [b]] h=some ⟨.str (bV b s),h,[]⟩):aU M 213 [.str s,.str [b]] [] ⟨.str (bV b s),[],[]⟩:=by
 refine bO (by rw[hft];exact UP) (by simp) ?_;unfold HT;simp only[enter];exact gg3
structure uO (M:ao)(N:Nat):Prop extends CF M N where
 Ii:∀(s:aM) h,s.length<1000000->M.ext 212 [.str s,.str [45]] h=some ⟨.bool (preB 45 s),h,[]⟩
 Ij:∀(s:aM) h,s.length<1000000->M.ext 213 [.str s,.str [45]] h=some ⟨.str (bV 45 s),h,[]⟩
 Ik:∀(s:aM) h,s≠[]->s.length<=18->s.all cS=true->M.ext 214 [.str s] h=some ⟨.aq [.iV (aT 0 s),.cZ],h,[]⟩
 Il:∀v A (K:Nat),ay v A->K<=18->K<=N->ah A<=10->∃v0,ay v0 (A^K)/\∀h,M.ext 215 [v,.iV K] h=some ⟨v0,h,[]⟩
theorem uP (n:Nat):(10:Int)^n<=wB^n:=by
 induction n with
 | zero=>decide
 | succ n ih=>
  rw[Int.pow_succ,Int.pow_succ];exact Int.mul_le_mul ih (by decide) (by decide) (Int.pow_nonneg (by decide))
theorem uQ {s:aM}(h:s.all cS=true)(hl:s.length<=N):ah (aT 0 s:Nat)<wB^N:=by
 have h1:=qM s h;rw[cd (by omega)];have h2:(aT 0 s:Int)<(10:Int)^s.length:=by exact_mod_cast h1
 exact Int.lt_of_lt_of_le h2 (Int.le_trans (uP _) (fI (by decide) hl))
theorem Im {s:aM}(h:s.all cS=true)(hl:s.length<=18):aT 0 s<1000000000000000000:=
 Nat.lt_of_lt_of_le (qM s h) (Nat.le_trans (Nat.pow_le_pow_right (by decide) hl) (by decide))
def Bl (so:Int)(wo:AV):ab:=[some (.cells [.iV 0,.ae] 131),some (.cells [.iV so,wo] 131)]
theorem Vp (C:uO M N){Q:Ex->al->Prop}(full:aM)(hD:full.all cS=true)(hl:full.length<=N)(a2:AV)
 (hQ:∀so wo a4 a5 lo wr,ay (.agg [.iV so,wo]) (aT 0 full:Nat)->Q (.exit 0) ⟨⟨[.str [],.ptr 0 0,a2,.ptr 1 0,a4,a5],lo,Bl so wo,[]⟩,wr⟩)
 (a4 a5:AV) (lo:List (Nat×AV)) (wr:List Nat) :
 W M (.loop uM) ⟨⟨[.str full,.ptr 0 0,a2,.ptr 1 0,a4,a5],lo,Bl 0 .ae,[]⟩,wr⟩ Q:=by
 have hlN:=C.lN;refine W.fH (fun m st=>∃t dn so wo a4 a5 lo wr,st=⟨⟨[.str t,.ptr 0 0,a2,.ptr 1 0,a4,a5],lo,Bl so wo,[]⟩,wr⟩/\t.length=m/\full=dn++t/\ay (.agg [.iV so,wo]) (aT 0 dn:Nat))
  (fun m st ⟨t,dn,so,wo,a4,a5,lo,wr,hst,hm,hf,hv⟩=>?_) (m:=full.length) ⟨full,[],0,.ae,a4,a5,lo,wr,rfl,rfl,rfl,.small (by decide)⟩
 subst hst;cases t with
 | nil=>
  rw[List.append_nil]at hf;subst hf;have h0:([]:aM).length=0:=rfl;unfold uM;exact gg4
 | cons c t=>
  obtain⟨t',ht'⟩:∃t',t'=c::t:=⟨_,rfl⟩;rw[←ht']at hm hf ⊢;have hpos:0<t'.length:=by rw[ht'];simp
  have hDt:t'.all cS=true:=by rw[hf,List.all_append,Bool.and_eq_true]at hD;exact hD.2
  have hDd:dn.all cS=true:=by rw[hf,List.all_append,Bool.and_eq_true]at hD;exact hD.1
  have hfl:full.length=dn.length+t'.length:=by rw[hf,List.length_append]
  obtain⟨n,hn,hn1⟩:∃n:Nat,((n:Int)=18/\(18:Int)<=t'.length\/(n:Int)=t'.length/\(t'.length:Int)<=18)/\0<n/\n<=18/\n<=t'.length:=by
   by_cases h:t'.length<=18
   . exact⟨t'.length,.inr ⟨rfl,by omega⟩,by omega,by omega,by omega⟩
   . exact⟨18,.inl ⟨rfl,by omega⟩,by omega,by omega,by omega⟩
  obtain⟨x,y,hxy,hxl⟩:∃x y,t'=x++y/\x.length=n:=⟨t'.take n,t'.drop n,(List.take_append_drop n t').symm,by rw[List.length_take];omega⟩;have hx0:x≠[]:=fun e=>by rw[e]at hxl;simp at hxl;omega
  have hDx:x.all cS=true:=by rw[hxy,List.all_append,Bool.and_eq_true]at hDt;exact hDt.1
  have htk:t'.take (n:Int).toNat=x:=by rw[hxy,Int.toNat_natCast,←hxl,List.take_left]
  have hdr:t'.drop (n:Int).toNat=y:=by rw[hxy,Int.toNat_natCast,←hxl,List.drop_left]
  have hyl:t'.length=n+y.length:=by rw[hxy,List.length_append,hxl]
  have q214:=fun h=>C.Ik x h hx0 (by omega) hDx
  have q168:=C.oe 10;obtain⟨v1,k1,q215⟩:=C.Il (.agg [.iV 10,.ae]) 10 n (.small (by decide)) hn1.2.1 (by omega) (by decide);have b1:=uQ (N:=N) hDd (by omega);have b2:ah ((10:Int)^n)<wB^N:=by
   rw[cd (Int.pow_nonneg (by decide))];have h1:=fI (b:=wB) (by decide) (m:=n) (n:=N) (by omega);have h2:=uP n;have h3:(10:Int)^n<wB^n:=by
    obtain⟨k,rfl⟩:∃k,n=k+1:=⟨n-1,by omega⟩;have:=uP k;have p0:(0:Int)<10^k:=Int.pow_pos (by decide);rw[Int.pow_succ,Int.pow_succ];have:(10:Int)^k*10<10^k*wB:=Int.mul_lt_mul_of_pos_left (by decide) p0;have h5:(10:Int)^k*wB<=wB^k*wB:=Int.mul_le_mul_of_nonneg_right (uP k) (by decide);omega
   omega
  obtain⟨v2,k2,q198⟩:=C.jZ _ _ _ _ hv k1 b1 b2;have e2:(aT 0 dn:Int)*10^n=((aT 0 (dn++List.replicate n 48):Nat):Int):=by
   have:aT (aT 0 dn) (List.replicate n 48)=aT 0 dn*10^n:=by rw[←Bf,HI];simp
   rw[oy,this];push_cast;rfl
  have k2:ay v2 ((aT 0 dn:Int)*10^n):=k2;have b3:ah ((aT 0 dn:Int)*10^n)<wB^N:=by
   rw[e2];exact uQ (by rw[List.all_append,hDd,←Bf,HE];rfl) (by rw[List.length_append,List.length_replicate];omega)
  have hxs:=Im hDx (by omega);have q168b:=C.oe (aT 0 x:Nat);obtain⟨v3,k3,q202⟩:=C.od v2 (.agg [.iV (aT 0 x:Nat),.ae]) _ _ k2 (.small (by omega)) b3 (uQ hDx (by omega));have e3:(aT 0 dn:Int)*10^n+(aT 0 x:Nat)=((aT 0 (dn++x):Nat):Int):=by
   rw[oy,Ba x (aT 0 dn),hxl];push_cast;rfl
  have k3:ay v3 ((aT 0 (dn++x):Nat):Int):=by rw[←e3];exact k3
  obtain⟨s3,w3,rfl,o3,_⟩:=k3.shape;unfold uM;repeat' first|(apply ade (m:=(n:Int));rfl;rfl;exact hn)|(apply aaI (s:=t') (r:=x);rfl;rfl;omega;exact htk)|(apply aaH (s:=t') (r:=y);rfl;rfl;omega;exact hdr)|refine gd0 ?_|refine gd1 ?_|(apply aaq;rfl;rfl;rfl;exact⟨rfl,Nat.le_refl _,by simp[fT,o3]⟩;rfl)|(apply aah;rfl;rfl)|refine gc ?_|(intro _;omega)|intro _
  all_goals try omega
  all_goals exact cL ⟨y.length,by omega,y,dn++x,s3,w3,_,_,_,_,rfl,rfl,by rw[hf,hxy,List.append_assoc],k3⟩
theorem Vq (C:uO M N)(s:aM)(hl:s.length<=N)(hD:(bV 45 s).all cS=true):∃v0,ay v0 (if preB 45 s then -(aT 0 (bV 45 s):Int) else (aT 0 (bV 45 s):Nat))/\cH M 166 [.str s] v0:=by
 have hlN:=C.lN;have q212:=fun h=>C.Ii s h (by omega)
 have q213:=fun h=>C.Ij s h (by omega)
 have hcl:(bV 45 s).length<=N:=Nat.le_trans (Bj 45 s) hl;have hb:=uQ (N:=N) hD hcl;obtain⟨v',hh,⟨v0,h0,ho⟩,hr⟩:=gA (M:=M) (f:=166) (ars:=[.str s]) (P:=fun v hh=>∃v0,ay v0 (if preB 45 s then -(aT 0 (bV 45 s):Int) else (aT 0 (bV 45 s):Nat))/\eZ v hh v0) (by rw[C.ft];exact UM) (by simp) (by
  unfold HQ;simp only[enter];refine gg12 ?_;refine Vp C (bV 45 s) hD hcl _ (fun so wo a4 a5 lo wr hv=>?_) _ _ _ _;cases hp:preB 45 s with
  | true=>
   rw[if_pos rfl];obtain⟨v1,k1,q216⟩:=C.jY _ _ hv hb;have k1:ay v1 (-(aT 0 (bV 45 s):Int)):=k1;obtain⟨s1,w1,rfl,o1,_⟩:=k1.shape;repeat' first|refine gd19 ?_|refine gd0 ?_|refine gc ?_|fail
   exact⟨.inr rfl,rfl,_,rfl,_,k1,k1.out⟩
  | false=>
   rw[if_neg (by decide)];obtain⟨o1,_⟩:=hv.one;repeat' first|refine gd19 ?_|refine gc ?_|fail
   exact⟨.inr rfl,rfl,_,rfl,_,hv,hv.out⟩)
 exact⟨v0,h0,v',hh,ho,hr⟩
theorem Io {s:aM}(h:s.all cS=true){c:UInt8}(hc:¬cS c=true):c∉s:=fun hm=>hc ((List.all_eq_true.1 h) c hm)
theorem Vr (n:Nat){c:UInt8}(hc:¬cS c=true):preB c (aX n)=false:=by
 rw[preB,decide_eq_false_iff_not];intro h;cases hd:aX n with
 | nil=>exact Bb n hd
 | cons b t=>
  rw[hd]at h;have hb:b∈aX n:=by rw[hd];simp
  simp at h;exact hc (h ▸ (List.all_eq_true.1 (jB n)) b hb)
theorem uR {b:UInt8}:∀{x:aM},b∉x->bM b x=(x,none)
 | [],_=>rfl
 | c::x,h=>by
  have h1:¬c=b:=fun e=>h (by rw[e];simp)
  have h2:b∉x:=fun e=>h (by simp[e])
  rw[bM,if_neg h1,uR h2]
theorem uS {b:UInt8}{y:aM}:∀{x:aM},b∉x->bM b (x++b::y)=(x,some y)
 | [],_=>by rw[List.nil_append,bM,if_pos rfl]
 | c::x,h=>by
  have h1:¬c=b:=fun e=>h (by rw[e];simp)
  have h2:b∉x:=fun e=>h (by simp[e])
  rw[List.cons_append,bM,if_neg h1,uS h2]
theorem Ip (z:Int):(47:UInt8)∉cT z:=by
 have h:=Io (jB (ah z).toNat) (c:=47) (by decide);by_cases hz:z<0
 . rw[qN hz];simp[h]
 . rw[mz hz];exact h
def Lq (N:Nat)(q:Rat):Prop:=(cT q.num).length<=N/\(aX q.den).length<=N
structure Vs (M:ao)(N:Nat):Prop extends uO M N where
 Vt:∀(s:aM) h,s.length<1000000->M.ext 163 [.str s,.str [47]] h=some ⟨iO 47 s,h,[]⟩
 Vu:∀(s:aM),s.length<=N->(bV 45 s).all cS=true->∃v0,ay v0 (if preB 45 s then -(aT 0 (bV 45 s):Int) else (aT 0 (bV 45 s):Nat))/\∀h,M.ext 166 [.str s] h=some ⟨v0,h,[]⟩
theorem Vv {q:Rat}(h:Lq N q):(aw q).length<=2*N+1:=by
 unfold aw;split
 . have:=h.1;omega
 . have h1:=h.1;have h2:=h.2;simp;omega
end Go.Ab.Ch1
