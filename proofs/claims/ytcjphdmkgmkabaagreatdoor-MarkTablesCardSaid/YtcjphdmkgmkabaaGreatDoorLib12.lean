/-
  Own work: the reference's integers: sums, products, negatives, quotients rounded downwards.
-/
import Derived.Test.YtcjphdmkgmkabaaGreatDoorLib11
import Derived.Test.YtcjphdmkgmkabaaGreatDoorLib9
import Derived.Test.YtcjphdmkgmkabaaGreatDoorLib10
import Derived.Test.YtcjphdmkgmkabaaGreatDoorCh1Base
import Derived.Test.YtcjphdmkgmkabaaGreatDoorLib6
import Derived.Test.YtcjphdmkgmkabaaGreatDoorLib4
set_option maxHeartbeats 8000000
set_option maxRecDepth 20000
namespace Go.Ab.Ch1
open Go.Ab.aW
variable {M:aw} {cap c1 c2:Option Nat} {N:Nat}
theorem cz.gu {h:ab}{x:AV}{l:List Int}(hx:cz x l):cO h x (.vs (al l) l.length none):=by
 rcases hx with rfl|⟨rfl,rfl⟩
 . exact cO.mM (wk (fun _=>.cons (.atom rfl) .nil) l)
 . exact .nil
theorem bQ.abs {v:AV}{z:Int}(h:bQ v z)(lz:aj z<dB^N):∃neg x l,v = .agg [.bool neg,x]/\cz x l/\okW dB l/\aM l/\l.length<=N/\z=bJ neg (WV dB l)/\WV dB l=aj z/\(neg=true->l≠[]):=by
 obtain⟨neg,x,l,rfl,hx,ok,nr,hz,hn⟩:=h;have h0:=cg (b:=dB) (by decide) ok;have e:WV dB l=aj z:=by
  rw[hz];unfold aj;cases neg with
  | false=>simp only[Bool.false_eq_true,↓reduceIte];rw[if_neg (by omega)]
  | true=>simp only[↓reduceIte];split <;> omega
 exact⟨neg,x,l,rfl,hx,ok,nr,fL (b:=dB) (by decide) ok nr (by rw[e];exact lz),hz,e,hn⟩
structure zI (M:aw):Prop where
 ft:M.FT=FT
 OU:∀l m k1 k2,okW dB l->okW dB m->l.length<1000000->m.length<1000000->∃r,okW dB r/\WV dB r=WV dB l+WV dB m/\r.length<=l.length+m.length+1/\∀x y h,cO h x (.vs (al l) l.length k1)->cO h y (.vs (al m) m.length k2)->M.ext 206 [x,y] h=some ⟨.vs (al r) r.length none,h,[]⟩
 FQ:∀l m,okW dB l->okW dB m->aM l->aM m->l.length<1000000->m.length<1000000->WV dB m<=WV dB l->∃r,okW dB r/\aM r/\WV dB r=WV dB l-WV dB m/\∀x y h,cz x l->cz y m->M.ext 219 [x,y] h=some ⟨.vs (al r) r.length none,h,[]⟩
 tY:∀l m x y h,okW dB l->okW dB m->aM l->aM m->l.length<1000000->m.length<1000000->cz x l->cz y m->M.ext 218 [x,y] h=some ⟨.iV (bg (WV dB l-WV dB m)),h,[]⟩
 qV:∀l m,okW dB l->okW dB m->l.length<1000000->m.length<1000000->∃r,okW dB r/\aM r/\WV dB r=WV dB l*WV dB m/\∀x y h,cz x l->cz y m->M.ext 197 [x,y] h=some ⟨.vs (al r) r.length none,h,[]⟩
 ke:∀neg x l,cz x l->okW dB l->l.length<1000000000->∃v0,bQ v0 (bJ neg (WV dB l))/\∀h,M.ext 196 [.bool neg,x] h=some ⟨v0,h,[]⟩
theorem bQ.out {v:AV}{z:Int}{hh:ab}(h:bQ v z):ew (aU [v]) hh v:=by
 obtain⟨neg,x,l,rfl,_,_,ht,hc⟩:=h.shape;refine .same ?_ ?_
 . show max 0 (max x.top 0)=0;rw[ht];rfl
 . show AV.agg [.bool neg,bG x]=_;rw[hc]
theorem afD (C:zI M){a:AV}{z:Int}(ha:bQ a z)(lz:aj z<dB^N)(hN:N<=100000):∃v0,bQ v0 (-z)/\cD M 194 [a] v0:=by
 obtain⟨neg,x,l,rfl,hx,ok,nr,ll,hz,_,_⟩:=ha.abs lz;obtain⟨v0,h0,q⟩:=C.ke (!neg) x l hx ok (by omega);have e:bJ (!neg) (WV dB l) = -z:=by rw[hz];cases neg <;> simp[bJ]
 rw[e]at h0;refine⟨v0,h0,cH (by rw[C.ft];exact afj) (by simp) ?_⟩;have out:=fun hh=>h0.out (hh:=hh)
 obtain⟨n0,x0,l0,rfl,hx0,o0,_,_⟩:=h0.shape;unfold OG;simp only[enter];cases neg;all_goals
 . rcases hx with rfl|⟨rfl,rfl⟩;all_goals
   . repeat' first|refine gd11 ?_|refine gd0 ?_|refine gd2 ?_|refine gc ?_|fail
     all_goals exact cn rfl rfl (out _)
theorem afE (C:zI M){a b:AV}{za zb:Int}(ha:bQ a za)(hb:bQ b zb)(la:aj za<dB^N)(lb:aj zb<dB^N)(hN:N<=100000):∃v0,bQ v0 (za*zb)/\cD M 137 [a,b] v0:=by
 obtain⟨na,x,l,rfl,hx,ok,nr,ll,hz,_,_⟩:=ha.abs la;obtain⟨nb,y,m,rfl,hy,ok',nr',lm,hz',_,_⟩:=hb.abs lb;obtain⟨r,okr,nrr,vr,q197⟩:=C.qV l m ok ok' (by omega) (by omega);have q197a:=fun h=>q197 x y h hx hy
 have hrl:r.length<=2*N:=fL (b:=dB) (by decide) okr nrr (by
  have h1:=cR (b:=dB) (by decide) ok;have h2:=cR (b:=dB) (by decide) ok';have h3:=cg (b:=dB) (by decide) ok;have h4:=cg (b:=dB) (by decide) ok';have p1:dB^l.length<=dB^N:=fR (by decide) ll;have p2:dB^m.length<=dB^N:=fR (by decide) lm;rw[vr,show 2*N=N+N by omega,Int.pow_add];have hp:(0:Int)<dB^N:=Int.pow_pos (by decide);have a1:=Int.mul_le_mul_of_nonneg_left (show WV dB m<=dB^N by omega) h3;have a2:=Int.mul_lt_mul_of_pos_right (show WV dB l<dB^N by omega) hp;omega)
 obtain⟨v0,h0,q196⟩:=C.ke (na != nb) _ r (.inl rfl) okr (by omega);have e:bJ (na != nb) (WV dB r)=za*zb:=by
  rw[hz,hz',vr];cases na <;> cases nb <;> simp[bJ,Int.neg_mul,Int.mul_neg]
 rw[e]at h0;refine⟨v0,h0,cH (by rw[C.ft];exact afk) (by simp) ?_⟩;have out:=fun hh=>h0.out (hh:=hh)
 obtain⟨n0,x0,l0,rfl,hx0,o0,_,_⟩:=h0.shape;unfold OH;simp only[enter];cases na;all_goals
 . cases nb;all_goals
   . rcases hx with rfl|⟨rfl,rfl⟩;all_goals
     . rcases hy with rfl|⟨rfl,rfl⟩;all_goals
       . repeat' first|(apply ahy;rfl;rfl;(first|(simp only[nca];rfl)|rfl);first|exact q197a _|exact q196 _)|(apply adX;rfl;rfl;rfl;exact⟨rfl,Nat.le_refl _,mi o0⟩;rfl)|(apply aiO;rfl;(first|(focus((repeat' first|exact cU|assumption|apply dL);done))|exact fx (by simp));rfl)|apply ads|apply dw|apply adt|apply adP|apply afP|apply agJ|apply agV|(apply agW;rfl)|(apply ahC;rfl;rfl;(first|(simp only[nca];rfl)|rfl))|(apply aiz;rfl;(first|(simp only[nca];rfl)|rfl);(first|(simp only[nca];rfl)|rfl))|(apply agt;rfl;rfl;rfl)|(apply aak;rfl;rfl)
         all_goals exact cn rfl rfl (out _)
theorem afF {x y:Int}:(y<=x/\0<=bg (x-y))\/(x<y/\bg (x-y) = -1):=by
 unfold bg;by_cases h:x<y
 . exact .inr ⟨h,if_pos (by omega)⟩
 . refine .inl ⟨by omega,?_⟩;rw[if_neg (by omega)];split <;> omega
theorem afG (C:zI M){a b:AV}{za zb:Int}(ha:bQ a za)(hb:bQ b zb)(la:aj za<dB^N)(lb:aj zb<dB^N)(hN:N<=100000):∃v0,bQ v0 (za+zb)/\cD M 170 [a,b] v0:=by
 obtain⟨na,x,l,rfl,hx,ok,nr,ll,hz,_,_⟩:=ha.abs la;obtain⟨nb,y,m,rfl,hy,ok',nr',lm,hz',_,_⟩:=hb.abs lb;have q218:=fun h=>C.tY l m x y h ok ok' nr nr' (by omega) (by omega) hx hy
 have goal:∃v0,bQ v0 (za+zb)/\((na=nb/\∃r:List Int,(∀h,M.ext 206 [x,y] h=some ⟨.vs (al r) r.length none,h,[]⟩)/\∀h,M.ext 196 [.bool na,.vs (al r) r.length none] h=some ⟨v0,h,[]⟩)
  \/ (na≠nb/\0<=bg (WV dB l-WV dB m)/\∃r:List Int,(∀h,M.ext 219 [x,y] h=some ⟨.vs (al r) r.length none,h,[]⟩)/\∀h,M.ext 196 [.bool na,.vs (al r) r.length none] h=some ⟨v0,h,[]⟩)
  \/ (na≠nb/\bg (WV dB l-WV dB m) = -1/\∃r:List Int,(∀h,M.ext 219 [y,x] h=some ⟨.vs (al r) r.length none,h,[]⟩)/\∀h,M.ext 196 [.bool nb,.vs (al r) r.length none] h=some ⟨v0,h,[]⟩)):=by
  by_cases hn:na=nb
  . subst hn;obtain⟨r,okr,vr,lr,q206⟩:=C.OU l m none none ok ok' (by omega) (by omega);obtain⟨v0,h0,q196⟩:=C.ke na _ r (.inl rfl) okr (by omega);refine⟨v0,?_,.inl ⟨rfl,r,fun h=>q206 x y h hx.gu hy.gu,q196⟩⟩;have e:bJ na (WV dB r)=za+zb:=by rw[hz,hz',vr];cases na <;> simp[bJ] <;> omega
    rw[e]at h0;exact h0
  . rcases afF (x:=WV dB l) (y:=WV dB m) with ⟨h1,h2⟩|⟨h1,h2⟩
    . obtain⟨r,okr,nrr,vr,q219⟩:=C.FQ l m ok ok' nr nr' (by omega) (by omega) h1;have lr:r.length<=N:=fL (b:=dB) (by decide) okr nrr (by
       have:=cR (b:=dB) (by decide) ok;have:=cg (b:=dB) (by decide) ok';have:dB^l.length<=dB^N:=fR (by decide) ll;omega)
      obtain⟨v0,h0,q196⟩:=C.ke na _ r (.inl rfl) okr (by omega);refine⟨v0,?_,.inr (.inl ⟨hn,h2,r,fun h=>q219 x y h hx hy,q196⟩)⟩;have e:bJ na (WV dB r)=za+zb:=by rw[hz,hz',vr];cases na <;> cases nb <;> simp[bJ]at hn ⊢ <;> omega
      rw[e]at h0;exact h0
    . obtain⟨r,okr,nrr,vr,q219⟩:=C.FQ m l ok' ok nr' nr (by omega) (by omega) (by omega);have lr:r.length<=N:=fL (b:=dB) (by decide) okr nrr (by
       have:=cR (b:=dB) (by decide) ok';have:=cg (b:=dB) (by decide) ok;have:dB^m.length<=dB^N:=fR (by decide) lm;omega)
      obtain⟨v0,h0,q196⟩:=C.ke nb _ r (.inl rfl) okr (by omega);refine⟨v0,?_,.inr (.inr ⟨hn,h2,r,fun h=>q219 y x h hy hx,q196⟩)⟩;have e:bJ nb (WV dB r)=za+zb:=by rw[hz,hz',vr];cases na <;> cases nb <;> simp[bJ]at hn ⊢ <;> omega
      rw[e]at h0;exact h0
 obtain⟨v0,h0,goal⟩:=goal;refine⟨v0,h0,cH (by rw[C.ft];exact afi) (by simp) ?_⟩;have out:=fun hh=>h0.out (hh:=hh)
 obtain⟨n0,x0,l0,rfl,hx0,o0,_,_⟩:=h0.shape;clear ha hb hz hz' h0;generalize bg (WV dB l-WV dB m)=g at *
 have hxs:x = .vs (al l) l.length none\/x = .aa:=by rcases hx with h|⟨h,_⟩ <;> simp[h]
 have hys:y = .vs (al m) m.length none\/y = .aa:=by rcases hy with h|⟨h,_⟩ <;> simp[h]
 clear hx hy;unfold OF;simp only[enter];rcases goal with ⟨rfl,r,qa,qb⟩|⟨hn,hg,r,qa,qb⟩|⟨hn,rfl,r,qa,qb⟩
 . cases na;all_goals
   . rcases hxs with rfl|rfl;all_goals
     . rcases hys with rfl|rfl;all_goals
       . repeat' first|refine gd1 ?_|refine gd11 ?_|refine gd2 ?_|refine gc ?_|fail
         all_goals exact cn rfl rfl (out _)
 . cases na;all_goals
   . cases nb;all_goals first|exact absurd rfl hn|skip
     all_goals
     . rcases hxs with rfl|rfl;all_goals
       . rcases hys with rfl|rfl;all_goals
         . repeat' first|refine gd0 ?_|refine gd1 ?_|refine gd11 ?_|refine gd2 ?_|(apply afd;rfl;rfl)|refine gc ?_|(intro _;omega)|intro _
           all_goals try omega
           all_goals exact cn rfl rfl (out _)
 . cases na;all_goals
   . cases nb;all_goals first|exact absurd rfl hn|skip
     all_goals
     . rcases hxs with rfl|rfl;all_goals
       . rcases hys with rfl|rfl;all_goals
         . repeat' first|refine gd0 ?_|refine gd1 ?_|refine gd11 ?_|refine gd2 ?_|(apply afd;rfl;rfl)|refine gc ?_|(intro _;omega)|intro _
           all_goals try omega
           all_goals exact cn rfl rfl (out _)
theorem afH (k n:Nat):dJ (n/10^k%10)::cC k n=cC (k+1) n:=by
 refine Lt (by simp[kJ]) fun j hj=>?_
 cases j with
 | zero=>rfl
 | succ j=>
  have e:(dJ (n/10^k%10)::cC k n)[j+1]! = (cC k n)[j]! := by simp[List.getElem!_eq_getElem?_getD]
  rw[e,DV (by omega),show k+1-1-(j+1)=k-1-j by omega]
theorem afI {d:Nat}(h:d<10):(([48,49,50,51,52,53,54,55,56,57]:ah).drop d).take (d+1-d)=[dJ d]:=by
 match d,h with
 | 0,_=>rfl
 | 1,_=>rfl
 | 2,_=>rfl
 | 3,_=>rfl
 | 4,_=>rfl
 | 5,_=>rfl
 | 6,_=>rfl
 | 7,_=>rfl
 | 8,_=>rfl
 | 9,_=>rfl
theorem FU:(10:Nat)^19=10000000000000000000:=rfl
theorem OV (hft:M.FT=FT)(n L:Nat)(hn:n<9223372036854775808)(hL:1<=L/\L<=18):∃k,L<=k/\n<10^k/\(k=L\/10^(k-1)<=n)/\aS M 117 [.iV (n:Nat),.iV (L:Nat)] [] ⟨.str (cC k n),[],[]⟩:=by
 obtain⟨v,hh,⟨k,h1,h2,h3,rfl,rfl⟩,hr⟩:=gH (M:=M) (f:=117) (ars:=[.iV (n:Nat),.iV (L:Nat)]) (P:=fun v hh=>∃k,L<=k/\n<10^k/\(k=L\/10^(k-1)<=n)/\v = .str (cC k n)/\hh=[]) (by rw[hft];exact afm) (by simp) (by
  unfold OK;simp only[enter];repeat' first|refine gc ?_|fail
  refine W.fV (fun m st=>∃j lo wr,st=⟨⟨[.iV (n/10^j:Nat),.iV L,.str [],.str (cC j n)],lo,[],[]⟩,wr⟩/\m=20-j/\j<=20/\(j<=L\/10^(j-1)<=n)) (fun m st ⟨j,lo,wr,hst,hm,hj,hb⟩=>?_) (m:=20) ⟨0,[],[],by rw[Nat.pow_zero,Nat.div_one];rfl,rfl,by omega,.inl (by omega)⟩;subst hst;have hl:=kJ j n;by_cases hgo:0<n/10^j\/j<L
  . have hj19:j<19:=by
     rcases Nat.lt_or_ge j 19 with h|h
     . exact h
     . exfalso;have p:(10:Nat)^19<=10^j:=Nat.pow_le_pow_right (by decide) h;rw[FU]at p;have:n/10^j=0:=Nat.div_eq_of_lt (by omega);omega
    have hd:n/10^j%10<10:=Nat.mod_lt _ (by decide);have ec:=afI hd;have ef:=afH j n;have eq:n/10^j/10=n/10^(j+1):=by rw[Nat.div_div_eq_div_mul,Nat.pow_succ]
    have hb':j+1<=L\/10^(j+1-1)<=n:=by
     rcases hgo with h|h
     . right;rw[Nat.add_sub_cancel];refine Nat.le_of_not_lt fun h2=>?_
       rw[Nat.div_eq_of_lt h2]at h;omega
     . exact .inl h
    have hq:n/10^j<=n:=Nat.div_le_self _ _;obtain⟨q,hqq⟩:∃q,q=n/10^j:=⟨_,rfl⟩;rw[←hqq]at hd ec ef eq hq hgo;rw[←hqq];generalize cC j n=s at *
    have e1:(((q:Nat):Int)%10).toNat=q%10:=by omega
    have e2:(((q:Nat):Int)%10+1).toNat=q%10+1:=by omega
    have ec':(([48,49,50,51,52,53,54,55,56,57]:ah).drop (((q:Nat):Int)%10).toNat).take ((((q:Nat):Int)%10+1).toNat-(((q:Nat):Int)%10).toNat)=[dJ (q%10)]:=by rw[e1,e2];exact ec
    have l1:([dJ (q%10)]:ah).length=1:=rfl;have fin:∀lo wr,LI (fun st=>∃m',m'<m/\∃j lo wr,st=⟨⟨[.iV (n/10^j:Nat),.iV L,.str [],.str (cC j n)],lo,[],[]⟩,wr⟩/\m'=20-j/\j<=20/\(j<=L\/10^(j-1)<=n))
     (BQ 0 (SQ M (zR [zm 24 3,zw 2 24] (.ret)) (fun e s=>(e = .normal\/e = .ret)/\s.s.bO=[]/\∃vs,cX s.s [.var (.p 2)]=some vs/\∃k,L<=k/\n<10^k/\(k=L\/10^(k-1)<=n)/\aU vs = .str (cC k n)/\(if (aU vs).top<=0 then [] else s.s.hp)=[])))
     .normal ⟨⟨[.iV (((q:Nat):Int)/10),.iV L,.str [],.str ([dJ (q%10)]++s)],lo,[],[]⟩,wr⟩:=fun lo wr=>
     cN ⟨20-(j+1),by omega,j+1,lo,wr,by
      rw[←ef,←eq];rfl,rfl,by omega,hb'⟩
    unfold FH;exact gg19
  . have h0:n/10^j=0:=(Nat.eq_zero_or_pos _).resolve_right fun h=>hgo (.inl h)
    rw[h0];have hlt:n<10^j:=by
     refine Nat.lt_of_not_le fun h=>?_
     have:=Nat.div_pos h (Nat.pow_pos (by decide));omega
    have hk:j=L\/10^(j-1)<=n:=by omega
    unfold FH;repeat' first|(apply abt;rfl;rfl)|(apply acs;rfl;rfl)|refine gc ?_|(intro _;omega)|intro _
    all_goals try omega
    all_goals exact⟨.inr rfl,rfl,_,rfl,j,by omega,hlt,hk,rfl,rfl⟩)
 exact⟨k,h1,h2,h3,hr⟩
theorem afJ (hft:M.FT=FT)(n:Nat)(hn:n<9223372036854775808):aS M 117 [.iV (n:Nat),.iV 1] [] ⟨.str (aQ n),[],[]⟩:=by
 obtain⟨k,h1,h2,h3,hr⟩:=OV hft n 1 (by omega) (by decide);obtain⟨k,rfl⟩:∃j,k=j+1:=⟨k-1,by omega⟩;rw[Nat.add_sub_cancel]at h3;rw[xT h2 (by omega)];exact hr
theorem afK (hft:M.FT=FT)(n:Nat)(hn:n<1000000000):aS M 117 [.iV (n:Nat),.iV 9] [] ⟨.str (cC 9 n),[],[]⟩:=by
 obtain⟨k,h1,h2,h3,hr⟩:=OV hft n 9 (by omega) (by decide);have:k=9:=by
  rcases h3 with h|h
  . exact h
  . refine Nat.le_antisymm (Nat.le_of_not_lt fun h9=>?_) h1;have p:(10:Nat)^9<=10^(k-1):=Nat.pow_le_pow_right (by decide) (by omega);have e:(10:Nat)^9=1000000000:=rfl;omega
 subst this;exact hr
structure OW (M:aw):Prop where
 ft:M.FT=FT
 OX:∀(n:Nat) h,n<1000000000->M.ext 117 [.iV (n:Nat),.iV 1] h=some ⟨.str (aQ n),h,[]⟩
 OY:∀(n:Nat) h,n<1000000000->M.ext 117 [.iV (n:Nat),.iV 9] h=some ⟨.str (cC 9 n),h,[]⟩
theorem OZ {x:Int}(h:0<=x/\x<1000000000):∃n:Nat,x=(n:Int)/\n<1000000000:=⟨x.toNat,by omega,by omega⟩
theorem afL (C:OW M){a:AV}{z:Int}(ha:bQ a z)(lz:aj z<dB^N)(hN:N<=100000):aS M 138 [a] [] ⟨.str (bM z),[],[]⟩:=by
 obtain⟨neg,x,l,rfl,hx,ok,nr,ll,hz,hv,hnn⟩:=ha.abs lz;by_cases h0:l=[]
 . subst h0;have hneg:neg=false:=by
    cases neg with
    | false=>rfl
    | true=>exact absurd rfl (hnn rfl)
   subst hneg;have z0:z=0:=by rw[hz];rfl
   subst z0;have e0:bM 0=[48]:=by rw[kL (by decide)];exact iq (by decide)
   rw[e0];refine bC (by rw[C.ft];exact OL) (by simp) ?_;have hl0:([]:List Int).length=0:=rfl;unfold FI;simp only[enter];rcases hx with rfl|⟨rfl,_⟩;all_goals
   . exact gg10
 . obtain rfl:x = .vs (al l) l.length none:=hx.resolve_right fun h=>h0 h.2
   have hl0:0<l.length:=List.length_pos_iff.2 h0;have hzs:bM z=(if neg then 45::aQ (WV dB l).toNat else aQ (WV dB l).toNat):=by
    have hp:=(jd (b:=dB) (by decide) ok nr).2 h0;rw[hz];cases neg with
    | false=>
     have e:bJ false (WV dB l)=WV dB l:=rfl;rw[e,kL (by omega),ck (by omega)];rfl
    | true=>
     have e:bJ true (WV dB l) = -WV dB l:=rfl;rw[e,mZ (by omega),jh,ck (by omega)];rfl
   have dlen:∀k,k<=l.length->(aQ (WV dB (l.drop (l.length-k))).toNat).length<=9*k+1:=fun k hk=>by
    refine oT (k:=9*k+1) ?_ (by omega);have h1:=cR (b:=dB) (by decide) (jc ok (l.length-k));have h2:=cg (b:=dB) (by decide) (jc ok (l.length-k));rw[List.length_drop,show l.length-(l.length-k)=k by omega,←NX]at h1;have:(10:Nat)^(9*k+1)=10^(9*k)*10:=Nat.pow_succ ..;omega
   have hlast:=(sE hl0).1 nr;have gl:=bT ok (i:=l.length-1) (by omega);have gl:0<=l[l.length-1]! /\ l[l.length-1]! < 1000000000:=gl;obtain⟨n0,hn0,hn0l⟩:=OZ gl;have eIl:(((l.length:Int))-1).toNat=l.length-1:=by omega
   have q1:∀h,M.ext 117 [.iV l[(((l.length:Int))-1).toNat]!,.iV 1] h=some ⟨.str (aQ n0),h,[]⟩:=fun h=>by rw[eIl,hn0];exact C.OX n0 h hn0l
   have ed0:(WV dB (l.drop (l.length-1))).toNat=n0:=by
    rw[List.drop_eq_getElem_cons (show l.length-1<l.length by omega),show l.length-1+1=l.length by omega,List.drop_length,←getElem!_pos l (l.length-1) (by omega),hn0];simp[WV]
   refine bC (by rw[C.ft];exact OL) (by simp) ?_;unfold FI;simp only[enter];repeat' first|(apply acJ;rfl;rfl)|refine gd0 ?_|refine gd2 ?_|refine gc ?_|(intro _;omega)|intro _
   all_goals try omega
   refine W.fV (fun m st=>∃k lo wr,st=⟨⟨[.agg [.bool neg,.vs (al l) l.length none],.ptr 0 0,.str [],.str (aQ (WV dB (l.drop (l.length-k))).toNat),.iV ((l.length:Int)-1-(k:Nat))],lo,[some (.cells [.bool neg,.vs (al l) l.length none] 162)],[]⟩,wr⟩/\m=l.length-k/\1<=k/\k<=l.length) (fun m st ⟨k,lo,wr,hst,hm,hk1,hk⟩=>?_) (m:=l.length-1) ⟨1,_,_,by rw[ed0,show (l.length:Int)-1-((1:Nat):Int)=(l.length:Int)-2 by omega];rfl,rfl,by omega,by omega⟩;subst hst;have dk:=dlen k hk;by_cases hend:k=l.length
   . subst hend;have e0:l.drop (l.length-l.length)=l:=by rw[Nat.sub_self,List.drop_zero]
     rw[e0]at dk ⊢;have l45:([45]:ah).length=1:=rfl;rw[hzs];generalize aQ (WV dB l).toNat=s0 at *
     cases neg with
     | true=>
      unfold zF;exact gg8
     | false=>
      unfold zF;exact gg8
   . have gi:=bT ok (i:=l.length-1-k) (by omega);have gi:0<=l[l.length-1-k]! /\ l[l.length-1-k]! < 1000000000:=gi;obtain⟨ni,hni,hnil⟩:=OZ gi;have eIi:(((l.length:Int))-1-(k:Nat)).toNat=l.length-1-k:=by omega
     have q2:∀h,M.ext 117 [.iV l[(((l.length:Int))-1-(k:Nat)).toNat]!,.iV 9] h=some ⟨.str (cC 9 ni),h,[]⟩:=fun h=>by rw[eIi,hni];exact C.OY ni h hnil
     have hnext:aQ (WV dB (l.drop (l.length-(k+1)))).toNat=aQ (WV dB (l.drop (l.length-k))).toNat++cC 9 ni:=by
      have e1:l.drop (l.length-(k+1))=(ni:Int)::l.drop (l.length-k):=by
       rw[List.drop_eq_getElem_cons (show l.length-(k+1)<l.length by omega),←getElem!_pos l (l.length-(k+1)) (by omega),show l.length-(k+1)=l.length-1-k by omega,hni,show l.length-1-k+1=l.length-k by omega]
      have h0:=cg (b:=dB) (by decide) (jc ok (l.length-k));have hp:0<WV dB (l.drop (l.length-k)):=by
       refine(jd (b:=dB) (by decide) (jc ok _) ?_).2 (fun e=>?_)
       . refine(sE (by rw[List.length_drop];omega)).2 ?_;rw[List.length_drop,List.getElem!_eq_getElem?_getD,List.getElem?_drop,show l.length-k+(l.length-(l.length-k)-1)=l.length-1 by omega,←List.getElem!_eq_getElem?_getD];exact hlast
       . have:=congrArg List.length e;rw[List.length_drop,List.length_nil]at this;omega
      obtain⟨A,hA⟩:∃A:Nat,WV dB (l.drop (l.length-k))=(A:Int):=⟨_,(Int.toNat_of_nonneg h0).symm⟩;have e2:WV dB ((ni:Int)::l.drop (l.length-k))=((A*10^9+ni:Nat):Int):=by
       show (ni:Int)+dB*WV dB (l.drop (l.length-k))=_;rw[hA];show (ni:Int)+1000000000*A=_;omega
      rw[e1,e2,hA,Int.toNat_natCast,Int.toNat_natCast];exact DW (by omega) (by show ni<1000000000;exact hnil)
     have hl9:=kJ 9 ni;generalize aQ (WV dB (l.drop (l.length-k))).toNat=s0 at *
     generalize cC 9 ni=s9 at *
     have next:∀lo wr Q,LI (fun st=>∃m',m'<m/\∃k lo wr,st=⟨⟨[.agg [.bool neg,.vs (al l) l.length none],.ptr 0 0,.str [],.str (aQ (WV dB (l.drop (l.length-k))).toNat),.iV ((l.length:Int)-1-(k:Nat))],lo,[some (.cells [.bool neg,.vs (al l) l.length none] 162)],[]⟩,wr⟩/\m'=l.length-k/\1<=k/\k<=l.length) Q .normal ⟨⟨[.agg [.bool neg,.vs (al l) l.length none],.ptr 0 0,.str [],.str (s0++s9),.iV ((l.length:Int)-1-(k:Nat)-1)],lo,[some (.cells [.bool neg,.vs (al l) l.length none] 162)],[]⟩,wr⟩:=fun lo wr Q=>
      cN ⟨l.length-(k+1),by omega,k+1,lo,wr,by rw[hnext,show (l.length:Int)-1-((k+1:Nat):Int)=(l.length:Int)-1-(k:Nat)-1 by omega],rfl,by omega,by omega⟩
     unfold zF;exact gg5
section
variable {t:Nat} {x y:aN} {l:List aT} {pe:List AV} {lo:List (Nat×AV)} {hp:ab} {df wr:List Nat} {v a d:Int} {Q:aq->Prop}
theorem aiY (hx:(St.mk pe lo hp df).ae x=some (.iV a))(hy:(St.mk pe lo hp df).ae y=some (.iV d))(ha : -9223372036854775808<=a/\a<9223372036854775808)(hd:0<d)(hv:a.tdiv d=v)
 (h:WO M l ⟨⟨pe,(t,.iV v)::lo,hp,df⟩,wr⟩ Q):WO M (⟨.l t,.bin .quo x y,none⟩::l) ⟨⟨pe,lo,hp,df⟩,wr⟩ Q:=aiw hx hy hd ha (by rw[hv];exact h)
theorem ajs (hx:(St.mk pe lo hp df).ae x=some (.iV a))(hy:(St.mk pe lo hp df).ae y=some (.iV d))(hd:0<d)(hv:a.tmod d=v)
 (h:WO M l ⟨⟨pe,(t,.iV v)::lo,hp,df⟩,wr⟩ Q):WO M (⟨.l t,.bin .rem x y,none⟩::l) ⟨⟨pe,lo,hp,df⟩,wr⟩ Q:=aix hx hy (by omega) (by rw[hv];exact h)
end
theorem afM {neg:Bool}{m:Int}(h:0<=m):(bJ neg m).tmod 1000000000=bJ neg (m%1000000000):=by
 cases neg with
 | false=>exact Int.tmod_eq_emod_of_nonneg h
 | true=>show (-m).tmod _=_;rw[Int.neg_tmod,Int.tmod_eq_emod_of_nonneg h];rfl
theorem afN {neg:Bool}{m:Int}(h:0<=m):(bJ neg m).tdiv 1000000000=bJ neg (m/1000000000):=by
 cases neg with
 | false=>exact Int.tdiv_eq_ediv_of_nonneg h
 | true=>show (-m).tdiv _=_;rw[Int.neg_tdiv,Int.tdiv_eq_ediv_of_nonneg h];rfl
theorem afO (hft:M.FT=FT)(dP:∀ars h,M.ext 242 ars h=none)(neg:Bool)(K:ab):aS M 196 [.bool neg,.aa] K ⟨.agg [.bool false,.aa],K,[]⟩:=by
 have q1:=fun K=>CT.run (fi:=[]) (ca:=[]) (ars:=[.aa]) (dP _ _) (FO hft K)
 refine lF (by rw[hft];exact yS) (by simp) (by simp[AV.top,bh]) ?_;unfold tM;simp only[enter];cases neg with
 | false=>
  exact gg3
 | true=>
  exact gg3
structure CWh (M:aw):Prop where
 ft:M.FT=FT
 dP:∀ars h,M.ext 242 ars h=none
 tW:∀ars h,M.ext 196 ars h=none
theorem Pa:(dB:Int)^3=1000000000000000000000000000:=by decide
theorem afQ (C:CWh M)(n:Int)(hn : -9223372036854775808<=n/\n<9223372036854775808):∃v0,bQ v0 n/\cD M 139 [.iV n] v0:=by
 obtain⟨neg,m0,hm0,rfl,hneg⟩:∃(neg:Bool) (m:Int),0<=m/\n=bJ neg m/\neg=decide (n<0):=by
  by_cases h:n<0
  . exact⟨true,-n,by omega,by show n = - -n;omega,(decide_eq_true h).symm⟩
  . exact⟨false,n,by omega,rfl,(decide_eq_false h).symm⟩
 have hmb:m0<=9223372036854775808:=by cases neg <;> simp[bJ]at hn <;> omega
 obtain⟨v,hh,⟨v0,h0,ho⟩,hr⟩:=gH (M:=M) (f:=139) (ars:=[.iV (bJ neg m0)]) (P:=fun v hh=>∃v0,bQ v0 (bJ neg m0)/\ew v hh v0) (by rw[C.ft];exact aee) (by simp) (by
  have start:∀(Q:Ex->aq->Prop),(∀lo wr,W M (.loop qT) ⟨⟨[.iV (bJ neg m0),.ptr 0 0,.aa,.bool neg,cm],lo,[some (.cells [.bool false,.aa] 162)],[]⟩,wr⟩ (BQ 0 (SQ M (zR [zm 22 3,
   zm 23 2,
   z2 24 196 22 23,
   zs 2 1 24]
   (.ret)) Q)))->W M Fg ⟨⟨[.iV (bJ neg m0),cm,cm,cm,cm],[],[],[]⟩,[]⟩ Q:=fun Q hQ=>by
   unfold Fg;cases neg with
   | true=>
    have h1:bJ true m0<0:=of_decide_eq_true hneg.symm;generalize bJ true m0=z at *
    exact gg0
   | false=>
    have h1:¬bJ false m0<0:=of_decide_eq_false hneg.symm;generalize bJ false m0=z at *
    exact gg0
  simp only[enter];refine start _ fun lo wr=>?_
  refine W.fV (fun k st=>∃m acc o a4 K lo wr,st=⟨⟨[.iV (bJ neg m),.ptr 0 0,o,.bool neg,a4],lo,K,[]⟩,wr⟩/\0<=m/\k=m.toNat/\m<=m0/\(acc=[]->o = .aa)/\acc.length<=3/\m<dB^(3-acc.length)/\okW dB acc/\WV dB acc+dB^acc.length*m=m0/\bS iC 1 3 K o acc [0]/\K.at 0=some (.cells [.bool false,.aa] 162))
   (fun k st ⟨m,acc,o,a4,K,lo,wr,hst,hm,hk,hmx,hnil,hla,hlt,oA,hv,ho,hK⟩=>?_) (m:=m0.toNat) ⟨m0,[],.aa,_,_,_,_,rfl,hm0,rfl,Int.le_refl _,fun _=>rfl,by simp,by show m0<dB^3;rw[Pa];omega,ix,by simp[WV],.mJ,rfl⟩
  subst hst;have hK1:=eM hK;by_cases hz:m=0
  . subst hz;have e0:bJ neg 0=0:=by cases neg <;> rfl
    rw[e0];rw[Int.mul_zero,Int.add_zero]at hv;rcases ho with ⟨rfl,rfl⟩|⟨c,cp,hc0,rfl,hc,hcap⟩
    . have q:=fun K=>CT.run (fi:=[]) (ca:=[]) (ars:=[.bool neg,.aa]) (C.tW _ _) (afO C.ft C.dP neg K)
      have z0:m0=0:=by rw[←hv];rfl
      subst z0;have out:∃v0,bQ v0 (bJ neg 0)/\∀hh,ew (.agg [.bool false,.aa]) hh v0:=⟨_,⟨false,.aa,[],rfl,.inr ⟨rfl,rfl⟩,ix,jK,by rw[e0];rfl,fun h=>by cases h⟩,fun hh=>.same rfl rfl⟩;obtain⟨v0,k0,out⟩:=out;unfold qT;exact gg17
    . have hpos:0<acc.length\/acc.length=0:=by omega
      rcases hpos with hp|hp
      . obtain rfl:cp=none:=hcap.resolve_right fun h=>by rw[h.1]at hp;simp at hp
        have q196:=CT.run (fi:=[]) (ca:=[]) (ars:=[.bool neg,.sl c 0 acc.length 1 none]) (C.tW _ _) (NW (cap:=none) C.ft C.dP neg hc hp (Nat.le_refl _) (by omega) (fun _ h=>by cases h));have hcn:c≠0:=fun e=>hc0 (by simp[e])
        obtain⟨v0,k0,o0⟩:=NY (K:=K.put 0 (some (.cells [.bool (neg && decide (0<aP (acc.take acc.length))),bz c (aP (acc.take acc.length)) none] 162))) (neg:=neg) (qe hcn hc) oA;have k0:=k0.tT;rw[hv]at k0;have hone:cG (bz c (aP (acc.take acc.length)) none)=true:=by unfold bz;split <;> rfl
        unfold qT;exact gg4
      . have ha:acc=[]:=List.eq_nil_of_length_eq_zero hp;have:=hnil ha;cases this
  . have hm1:1<=m:=by omega
    have hl2:acc.length<=2:=by
     refine Nat.le_of_not_lt fun h=>?_
     have:acc.length=3:=by omega
     rw[this]at hlt;simp at hlt;omega
    have hmod:=afM (neg:=neg) hm;have hdiv:=afN (neg:=neg) hm;obtain⟨r,hr⟩:∃r,r=m%1000000000:=⟨_,rfl⟩;obtain⟨q,hq⟩:∃q,q=m/1000000000:=⟨_,rfl⟩;rw[←hr]at hmod;rw[←hq]at hdiv;have hroom:(acc.length+1)*8<=dv:=by unfold dv;omega
    have hnz:bJ neg m≠0:=by cases neg <;> simp[bJ] <;> omega
    have hrange : -9223372036854775808<=bJ neg m/\bJ neg m<9223372036854775808:=by
     cases neg <;> simp[bJ]at hn ⊢ <;> omega
    have next:∀(o':AV) H a4 lo wr Q,bS iC 1 3 H o' (acc++[r]) [0]->H.at 0=some (.cells [.bool false,.aa] 162)->LI (fun st=>∃k',k'<k/\∃m acc o a4 K lo wr,st=⟨⟨[.iV (bJ neg m),.ptr 0 0,o,.bool neg,a4],lo,K,[]⟩,wr⟩/\0<=m/\k'=m.toNat/\m<=m0/\(acc=[]->o = .aa)/\acc.length<=3/\m<dB^(3-acc.length)/\okW dB acc/\WV dB acc+dB^acc.length*m=m0/\bS iC 1 3 K o acc [0]/\K.at 0=some (.cells [.bool false,.aa] 162)) Q .normal ⟨⟨[.iV (bJ neg q),.ptr 0 0,o',.bool neg,a4],lo,H,[]⟩,wr⟩:=fun o' H a4 lo wr Q ho' hH=>
     cN ⟨q.toNat,by omega,q,acc++[r],o',a4,H,lo,wr,rfl,by omega,rfl,by omega,fun h=>by simp at h,by simp;omega,by
      have e:dB^(3-acc.length)=dB^(3-(acc++[r]).length)*dB:=by
       rw[←Int.pow_succ,List.length_append,List.length_singleton];congr 1;omega
      rw[e]at hlt;rw[hq];exact Int.ediv_lt_of_lt_mul (by decide) hlt,jq oA (fun z hz=>by rw[List.mem_singleton.1 hz];exact⟨by omega,by show _<(1000000000:Int);omega⟩),by
      rw[fK,List.length_append,List.length_singleton,Int.pow_succ,←hv];have e1:WV dB [r]=r:=by simp[WV]
      have e2:m=r+1000000000*q:=by omega
      rw[e1,e2];show WV dB acc+dB^acc.length*r+dB^acc.length*1000000000*q=_;grind,ho',hH⟩
    have hr9:0<=r/\r<1000000000:=by omega
    have fin:∀rv,rv=r->∀(o':AV) H a4 lo wr Q,bS iC 1 3 H o' (acc++[rv]) [0]->H.at 0=some (.cells [.bool false,.aa] 162)->LI (fun st=>∃k',k'<k/\∃m acc o a4 K lo wr,st=⟨⟨[.iV (bJ neg m),.ptr 0 0,o,.bool neg,a4],lo,K,[]⟩,wr⟩/\0<=m/\k'=m.toNat/\m<=m0/\(acc=[]->o = .aa)/\acc.length<=3/\m<dB^(3-acc.length)/\okW dB acc/\WV dB acc+dB^acc.length*m=m0/\bS iC 1 3 K o acc [0]/\K.at 0=some (.cells [.bool false,.aa] 162)) Q .normal ⟨⟨[.iV (bJ neg q),.ptr 0 0,o',.bool neg,a4],lo,H,[]⟩,wr⟩:=fun rv e=>by subst e;exact next
    clear next
    obtain⟨d,hd⟩:∃d,d=bJ neg r:=⟨_,rfl⟩;rw[←hd]at hmod;by_cases hdn:d<0
    . have e:0-d=r:=by cases neg <;> simp[bJ]at hd <;> omega
      unfold qT;exact gg15
    . have e:d=r:=by cases neg <;> simp[bJ]at hd <;> omega
      unfold qT;repeat' first|(apply ajs (v:=d);rfl;rfl;omega;exact hmod)|(apply aiY (v:=bJ neg q);rfl;rfl;exact hrange;omega;exact hdiv)|(refine bS.app (f:=iC) (m:=[d]) (S:=[0]) (fun _=>rfl) (fun _=>rfl) (by decide) (ho.grow [_]) (by simp) rfl rfl (Sl.iJ (f:=iC) (esz:=1) (l:=[d]) (e:=3) (fun _=>rfl) cU rfl) hroom (fun H w' o' ho' hk hlen=>?_))|(apply abt;rfl;rfl)|(apply adW;rfl;rfl)|refine gc ?_|(intro _;omega)|intro _
      all_goals try omega
      all_goals exact fin _ e _ _ _ _ _ _ ho' (hk 0 _ (by simp) (dL hK)))
 exact⟨v0,h0,v,hh,ho,hr⟩
theorem afR (hft:M.FT=FT)(b:List Int)(q218:∀h,M.ext 218 [.aa,.vs (al b) b.length c2] h=some ⟨.iV (-1),h,[]⟩):aS M 195 [.aa,.vs (al b) b.length c2] [] ⟨.au [.aa,.aa],[],[]⟩:=by
 refine bC (by rw[hft];exact NL) (by simp) ?_;unfold Fi;simp only[enter];exact gg13
structure Pb (M:aw):Prop where
 ft:M.FT=FT
 kN:∀(x:AV) (a b:List Int),cz x a->okW dB a->okW dB b->aM a->aM b->a.length<100000->b.length<100000->b≠[]->∃qv q rv r,cz qv q/\cz rv r/\okW dB q/\aM q/\okW dB r/\aM r/\WV dB q=WV dB a/WV dB b/\WV dB r=WV dB a%WV dB b/\∀h,M.ext 195 [x,.vs (al b) b.length none] h=some ⟨.au [qv,rv],h,[]⟩
theorem afS (C:Pb M){x y:AV}(a b:List Int)(hx:cz x a)(hy:cz y b)(oa:okW dB a)(ob:okW dB b)(na:aM a)(nb:aM b)(la:a.length<100000)(lb:b.length<100000) :
 ∃gv g,cz gv g/\okW dB g/\aM g/\WV dB g=(Int.gcd (WV dB a) (WV dB b):Nat)/\g.length<100000/\cD M 155 [x,y] gv:=by
 obtain⟨v,hh,⟨gv,g,ig,og,ng,vg,lg,ho⟩,hr⟩:=gH (M:=M) (f:=155) (ars:=[x,y]) (P:=fun v hh=>∃gv g,cz gv g/\okW dB g/\aM g/\WV dB g=(Int.gcd (WV dB a) (WV dB b):Nat)/\g.length<100000/\ew v hh gv) (by rw[C.ft];exact NK) (by simp) (by
  unfold Fh;simp only[enter];repeat' first|refine gc ?_|fail
  refine W.fV (fun m st=>∃A B xA y a3 lo wr,st=⟨⟨[xA,y,.aa,a3],lo,[],[]⟩,wr⟩/\cz xA A/\cz y B/\m=(WV dB B).toNat/\okW dB A/\aM A/\A.length<100000/\okW dB B/\aM B/\B.length<100000/\Int.gcd (WV dB A) (WV dB B)=Int.gcd (WV dB a) (WV dB b))
   (fun m st ⟨A,B,xA,y,a3,lo,wr,hst,hxA,hy,hm,oA,nA,lA,oB,nB,lB,hg⟩=>?_) (m:=(WV dB b).toNat) ⟨a,b,x,y,_,_,_,rfl,hx,hy,rfl,oa,na,la,ob,nb,lb,rfl⟩
  subst hst;by_cases hB:B=[]
  . subst hB;have hl0:([]:List Int).length=0:=rfl;obtain⟨_,t1,k1⟩:=tX xA hxA;have fin:ew (aU [xA]) (if (aU [xA]).top<=0 then [] else []) xA:=.same t1 k1;have hv:WV dB A=(Int.gcd (WV dB a) (WV dB b):Nat):=by
     rw[←hg];have:=cg (b:=dB) (by decide) oA;show WV dB A=(Int.gcd (WV dB A) 0:Nat);rw[Int.gcd_zero_right];omega
    rcases hy with rfl|⟨rfl,_⟩;all_goals
    . unfold tO;exact gg3
  . obtain rfl:y = .vs (al B) B.length none:=hy.resolve_right fun h=>hB h.2
    have hBl:0<B.length:=List.length_pos_iff.2 hB;have hBp:=(jd (b:=dB) (by decide) oB nB).2 hB;have hA0:=cg (b:=dB) (by decide) oA;obtain⟨qv,q,rv,r,hq,hr,_,_,or_,nr,vq,vr,q195⟩:=C.kN xA A B hxA oA oB nA nB lA lB hB;have r1:=Int.emod_lt_of_pos (WV dB A) hBp;have r0:=Int.emod_nonneg (WV dB A) (show WV dB B≠0 by omega);have lr:r.length<=B.length:=fL (b:=dB) (by decide) or_ nr (Int.lt_trans (by rw[vr];exact r1) (cR (by decide) oB));have hg2:Int.gcd (WV dB B) (WV dB r)=Int.gcd (WV dB a) (WV dB b):=by
     rw[←hg,vr,Dz]
    unfold tO;repeat' first|(apply acs;rfl;rfl)|refine gd0 ?_|refine gc ?_|(intro _;omega)|intro _
    all_goals try omega
    all_goals exact cN ⟨(WV dB r).toNat,by rw[vr];omega,B,r,_,rv,_,_,_,rfl,.inl rfl,hr,rfl,oB,nB,lB,or_,nr,by omega,hg2⟩)
 exact⟨gv,g,ig,og,ng,vg,lg,v,hh,ho,hr⟩
theorem afT (hft:M.FT=FT)(s:ah)(_hl:s.length<1000000)(hb:jE s=false)(q153:∀h,M.ext 153 [.str s] h=some ⟨.iV (bX s),h,[]⟩){v1 v2:AV}{z1 z2:Int}(k1:bQ v1 z1)(k2:bQ v2 z2)(qa:∀h,M.ext 193 [.str s] h=some ⟨v1,h,[]⟩)(qb:∀h,M.ext 139 [.iV 1] h=some ⟨v2,h,[]⟩):cD M 135 [.str s] (.au [v1,v2]):=by
 have hk:bX s=s.length:=by
  unfold bX;have hn:(bD 47 s).2=none:=by
   unfold jE at hb;cases h:(bD 47 s).2 with
   | none=>rfl
   | some y=>rw[h]at hb;cases hb
  rw[(nd hn).1]
 rw[hk]at q153;obtain⟨n1,x1,l1,rfl,_,o1,t1,b1⟩:=k1.shape;obtain⟨n2,x2,l2,rfl,_,o2,t2,b2⟩:=k2.shape;refine cH (by rw[hft];exact NH) (by simp) ?_;unfold Ff;simp only[enter];refine gg16 ?_;refine cn rfl rfl (.same ?_ ?_)
 . show max (max 0 (max x1.top 0)) (max (max 0 (max x2.top 0)) 0)=0;rw[t1,t2];rfl
 . show AV.au [.agg [.bool n1,bG x1],.agg [.bool n2,bG x2]]=_;rw[b1,b2]
structure zJ (M:aw)(N:Nat):Prop where
 ft:M.FT=FT
 zK:∀{a z},bQ a z->aj z<dB^N->∃v0,bQ v0 (-z)/\∀h,M.ext 194 [a] h=some ⟨v0,h,[]⟩
 qW:∀{x y:AV} (a b:List Int),cz x a->cz y b->okW dB a->okW dB b->aM a->aM b->a.length<100000->b.length<100000->∃gv g,cz gv g/\okW dB g/\aM g/\WV dB g=(Int.gcd (WV dB a) (WV dB b):Nat)/\g.length<100000/\∀h,M.ext 155 [x,y] h=some ⟨gv,h,[]⟩
 kN:∀(x:AV) (a b:List Int),cz x a->okW dB a->okW dB b->aM a->aM b->a.length<100000->b.length<100000->b≠[]->∃qv q rv r,cz qv q/\cz rv r/\okW dB q/\aM q/\okW dB r/\aM r/\WV dB q=WV dB a/WV dB b/\WV dB r=WV dB a%WV dB b/\∀h,M.ext 195 [x,.vs (al b) b.length none] h=some ⟨.au [qv,rv],h,[]⟩
 ke:∀neg x l,cz x l->okW dB l->l.length<1000000000->∃v0,bQ v0 (bJ neg (WV dB l))/\∀h,M.ext 196 [.bool neg,x] h=some ⟨v0,h,[]⟩
 zM:∀{a z} h,bQ a z->aj z<dB^N->M.ext 138 [a] h=some ⟨.str (bM z),h,[]⟩
def nj (res:List fa)(r:AV)(e:Ex)(s:aq):Prop:=(e = .normal\/e = .ret)/\s.s.bO=[]/\∃vs,cX s.s res=some vs/\aU vs=r/\(if r.top<=0 then [] else s.s.hp)=[]
theorem FV {neg:Bool}{z:Int}(h:0<=z):aj (bJ neg z)=z:=by
 unfold aj bJ;cases neg <;> simp <;> omega
theorem FW {z:Int}(h:0<=z):bM z=aQ z.toNat:=if_neg (by omega)
theorem afU {neg:Bool}{a b:Int}(hb:0<b):(Rat.divInt (bJ neg a) b).num=bJ neg (a/(Int.gcd a b:Nat))/\((Rat.divInt (bJ neg a) b).den:Int)=b/(Int.gcd a b:Nat):=by
 obtain⟨k1,k2,e1,e2,e3,e4⟩:=xe (n:=bJ neg a) hb;have hg:Int.gcd (bJ neg a) b=Int.gcd a b:=by cases neg <;> simp[bJ]
 rw[hg]at e1 e2;have g0:((Int.gcd a b:Nat):Int)≠0:=by
  have:=Int.gcd_pos_of_ne_zero_right a (show b≠0 by omega);omega
 rw[e3,e4];constructor
 . cases neg with
   | false=>
    have e1:a=(Int.gcd a b:Nat)*k1:=e1;show k1=a/_;exact(Int.ediv_eq_of_eq_mul_right g0 e1).symm
   | true=>
    have e1 : -a=(Int.gcd a b:Nat)*k1:=e1;show k1 = -(a/_);rw[Int.ediv_eq_of_eq_mul_right g0 (show a=(Int.gcd a b:Nat)*(-k1) by rw[Int.mul_neg,←e1];omega)];omega
 . exact(Int.ediv_eq_of_eq_mul_right g0 e2).symm
theorem Hj (C:zJ M N)(hN:N<100000){neg:Bool}{x y:AV}{l m:List Int}(hx:cz x l)(hy:cz y m)(ol:okW dB l)(om:okW dB m)(nl:aM l)(nm:aM m)(ll:l.length<=N)(lm:m.length<=N)(hm:m≠[])(a0 a1 a5 a6 a7 a8:AV)(lo:List (Nat×AV))(wr:List Nat) :
 W M t136 ⟨⟨[a0,a1,.ptr 0 0,.ptr 1 0,.str [],a5,a6,a7,a8],lo,[some (.cells [.bool neg,x] 162),some (.cells [.bool false,y] 162)],[]⟩,wr⟩ (nj [.var (.p 4)] (.str (ao (Rat.divInt (bJ neg (WV dB l)) (WV dB m))))):=by
 have m0:=(jd (b:=dB) (by decide) om nm).2 hm;have l0:=cg (b:=dB) (by decide) ol;obtain⟨en,ed⟩:=afU (neg:=neg) (a:=WV dB l) m0;obtain⟨gv,g,hg,og,ng,vg,lg,q155⟩:=C.qW l m hx hy ol om nl nm (by omega) (by omega);have g0:0<WV dB g:=by
  rw[vg];have:=Int.gcd_pos_of_ne_zero_right (WV dB l) (show WV dB m≠0 by omega);omega
 have hg1:g≠[]:=(jd (b:=dB) (by decide) og ng).1 g0;obtain rfl:gv = .vs (al g) g.length none:=hg.resolve_right fun h=>hg1 h.2
 obtain⟨pv,p,_,_,hp,_,op,np,_,_,vp,_,qa⟩:=C.kN x l g hx ol og nl ng (by omega) lg hg1;obtain⟨qv,q,_,_,hq,_,oq,nq,_,_,vq,_,qb⟩:=C.kN y m g hy om og nm ng (by omega) lg hg1;rw[vg]at vp vq;rw[←vp]at en;rw[←vq]at ed;have lw:∀{r:List Int},r.length<=N->okW dB r->WV dB r<dB^N:=fun h o=>Int.lt_of_lt_of_le (cR (by decide) o) (fR (by decide) h)
 have le_div:∀{a b:Int},0<=a->0<b->a/b<=a:=fun h1 h2=>Int.ediv_le_self _ h1
 have p0:=cg (b:=dB) (by decide) op;have q0:=cg (b:=dB) (by decide) oq;have lp:WV dB p<dB^N:=Int.lt_of_le_of_lt (by rw[vp];exact Int.ediv_le_self _ l0) (lw ll ol);have lq:WV dB q<dB^N:=Int.lt_of_le_of_lt (by rw[vq];exact Int.ediv_le_self _ (Int.le_of_lt m0)) (lw lm om);have ln:=fL (b:=dB) (by decide) op np lp;have lk:=fL (b:=dB) (by decide) oq nq lq;obtain⟨v1,k1,q1⟩:=C.ke neg pv p hp op (by omega);have t1:=fun h=>C.zM h k1 (by rw[FV p0];exact lp)
 obtain⟨v2,k2,q2⟩:=C.ke false qv q hq oq (by omega);have t2:=fun h=>C.zM h k2 (by rw[FV q0];exact lq)
 rw[←en]at t1;rw[show bJ false (WV dB q)=((Rat.divInt (bJ neg (WV dB l)) (WV dB m)).den:Int) from ed.symm,FW (by omega),Int.toNat_natCast]at t2;have hd0:=(Rat.divInt (bJ neg (WV dB l)) (WV dB m)).den_pos;have hq1:q≠[]:=fun h=>by subst h;simp[WV]at ed;omega
 obtain rfl:qv = .vs (al q) q.length none:=hq.resolve_right fun h=>hq1 h.2
 have hs:ao (Rat.divInt (bJ neg (WV dB l)) (WV dB m))=if q=[1] then bM (Rat.divInt (bJ neg (WV dB l)) (WV dB m)).num else bM (Rat.divInt (bJ neg (WV dB l)) (WV dB m)).num++47::aQ (Rat.divInt (bJ neg (WV dB l)) (WV dB m)).den:=by
  have:=Ol oq nq;rw[←ed]at this;unfold ao;by_cases h:q=[1]
  . rw[if_pos h,if_pos (by have:=this.2 h;omega)]
  . rw[if_neg h,if_neg (by intro h2;exact h (this.1 (by omega)))]
 rw[hs];have hN1:0<9*N:=by
  have:=List.length_pos_iff.2 hm;omega
 have e9:(dB:Int)^N=10^(9*N):=by rw[←NX];exact Int.natCast_pow _ _
 have lA:=Nq hN1 (z:=(Rat.divInt (bJ neg (WV dB l)) (WV dB m)).num) (by rw[en,FV p0,←e9];exact lp);generalize bM (Rat.divInt (bJ neg (WV dB l)) (WV dB m)).num=A at *
 have lB:(aQ (Rat.divInt (bJ neg (WV dB l)) (WV dB m)).den).length<2000000:=by
  have:=tG (k:=9*N) hN1 (z:=WV dB q) (by rw[ck q0,←e9];exact lq);rw[ck q0,←ed,Int.toNat_natCast]at this;omega
 generalize aQ (Rat.divInt (bJ neg (WV dB l)) (WV dB m)).den=B at *
 clear hs;have ap:A++47::B=A++[47]++B:=by simp
 unfold t136;have hcase:q=[1]\/q.length≠1\/q.length=1/\q[Int.toNat 0]! ≠ 1:=by
  match q,hq1 with
  | [x],_=>
   by_cases h:x=1
   . exact .inl (by rw[h])
   . exact .inr (.inr ⟨rfl,h⟩)
  | x::y::r,_=>exact .inr (.inl (by simp))
 rcases hcase with rfl|hc|⟨hc,hc2⟩
 . rw[if_pos rfl];have e1:([1]:List Int).length=1:=rfl;have e2:([1]:List Int)[Int.toNat 0]! = 1:=rfl;exact gg4
 . rw[if_neg (fun h=>hc (by rw[h];rfl)),ap];exact gg4
 . rw[if_neg (fun h=>hc2 (by rw[h];rfl)),ap];exact gg4
theorem afV (C:zJ M N)(hN:N<100000){a b:AV}{za zb:Int}(ha:bQ a za)(hb:bQ b zb)(la:aj za<dB^N)(lb:aj zb<dB^N)(hz:zb≠0):aS M 136 [a,b] [] ⟨.str (ao (Rat.divInt za zb)),[],[]⟩:=by
 have ha':=ha;have hb':=hb;obtain⟨na,x,l,rfl,hx,ol,nl,ll,ea,_,_⟩:=ha.abs la;obtain⟨nb,y,m,rfl,hy,om,nm,lm,eb,_,hn⟩:=hb.abs lb;have hm:m≠[]:=fun h=>by subst h;cases nb <;> simp[bJ,WV]at eb <;> omega
 refine bC (by rw[C.ft];exact afn) (by simp) ?_;cases nb with
 | false=>
  rw[ea,show zb=WV dB m from eb];unfold FJ;simp only[enter];exact gg15
 | true=>
  obtain⟨v1,k1,q1⟩:=C.zK ha' la;obtain⟨v2,k2,q2⟩:=C.zK hb' lb;obtain⟨n1,x1,l1,rfl,hx1,ol1,nl1,ll1,ea1,_,_⟩:=k1.abs (N:=N) (by rw[jh];exact la);obtain⟨n2,x2,m1,rfl,hy1,om1,nm1,lm1,eb1,_,hn1⟩:=k2.abs (N:=N) (by rw[jh];exact lb);have o1:=(tX x1 hx1).1;have o2:=(tX x2 hy1).1;have m0:=(jd (b:=dB) (by decide) om nm).2 hm;have e2:zb = -WV dB m:=eb;have m1p:=cg (b:=dB) (by decide) om1;have hm1:m1≠[]:=fun h=>by subst h;cases n2 <;> simp[bJ,WV]at eb1 <;> omega
  cases n2 with
  | true=>
   have : -zb = -WV dB m1:=eb1;omega
  | false=>
  rw[←Rat.neg_divInt_neg,ea1,show -zb=WV dB m1 from eb1];unfold FJ;simp only[enter];exact gg15
theorem afW (hft:M.FT=FT)(a b:Nat)(ha:a<9223372036854775808)(hb:b<9223372036854775808):aS M 158 [.iV a,.iV b] [] ⟨.iV (Nat.gcd a b:Nat),[],[]⟩:=by
 refine bC (by rw[hft];exact afl) (by simp) ?_;unfold OJ;simp only[enter];repeat' first|refine gc ?_|fail
 refine W.fV (fun m st=>∃(A B:Nat) (lo:List (Nat×AV)) (wr:List Nat),st=⟨⟨[.iV A,.iV B,.iV 0],lo,[],[]⟩,wr⟩/\m=B/\A<9223372036854775808/\B<9223372036854775808/\Nat.gcd A B=Nat.gcd a b) (fun m st ⟨A,B,lo,wr,hst,hm,hA,hB,hg⟩=>?_) (m:=b) ⟨a,b,_,_,rfl,rfl,ha,hb,rfl⟩;subst hst;unfold OI;rcases Nat.eq_zero_or_pos B with rfl|hp
 . rw[Nat.gcd_zero_right]at hg;rw[←hg];exact gg3
 . have hlt:=Nat.mod_lt A hp;have hn:Nat.gcd B (A%B)=Nat.gcd a b:=by rw[←hg,Nat.gcd_comm A B,Nat.gcd_rec B A,Nat.gcd_comm]
   have e:((A:Int)%(B:Int))=((A%B:Nat):Int):=rfl;exact gg19
structure FX (M:aw)(N:Nat):Prop extends zJ M N where
 Pc:∀(a b:Nat) h,a<9223372036854775808->b<9223372036854775808->M.ext 158 [.iV a,.iV b] h=some ⟨.iV (Nat.gcd a b:Nat),h,[]⟩
 FY:∀(n:Nat) h,n<9223372036854775808->M.ext 117 [.iV (n:Nat),.iV 1] h=some ⟨.str (aQ n),h,[]⟩
 FZ:∀n:Int,-9223372036854775808<=n/\n<9223372036854775808->∃v0,bQ v0 n/\∀h,M.ext 139 [.iV n] h=some ⟨v0,h,[]⟩
 po:∀{a b za zb} h,bQ a za->bQ b zb->aj za<dB^N->aj zb<dB^N->zb≠0->M.ext 136 [a,b] h=some ⟨.str (ao (Rat.divInt za zb)),h,[]⟩
theorem zN (q:Rat):ao q=(if q.num<0 then [45] else [])++aQ q.num.natAbs++(if 1<q.den then 47::aQ q.den else []):=by
 have:=q.den_pos;have e:bM q.num=(if q.num<0 then [45] else [])++aQ q.num.natAbs:=by
  unfold bM;split
  . rw[show (-q.num).toNat=q.num.natAbs by omega];rfl
  . rw[show q.num.toNat=q.num.natAbs by omega];rfl
 unfold ao;by_cases h:q.den=1
 . rw[if_pos h,if_neg (show ¬1<q.den by omega),e,List.append_nil]
 . rw[if_neg h,if_pos (show 1<q.den by omega),e]
theorem Hd (C:FX M N){n d:Int}(hd:0<d/\d<=4000000000000000000)(hn : -4000000000000000000<=n/\n<=4000000000000000000)(a3 a4:AV)(lo:List (Nat×AV))(wr:List Nat) :
 W M t78 ⟨⟨[.iV n,.iV d,.str [],a3,a4],lo,[],[]⟩,wr⟩ (nj [.var (.p 2)] (.str (ao (Rat.divInt n d)))):=by
 obtain⟨k1,k2,e1,e2,e3,e4⟩:=xe (n:=n) hd.1;have g0:=Int.gcd_pos_of_ne_zero_right n (show d≠0 by omega);have eg:Nat.gcd n.natAbs d.natAbs=Int.gcd n d:=rfl;have q158:=fun h=>C.Pc n.natAbs d.natAbs h (by omega) (by omega)
 rw[show ((d.natAbs:Nat):Int)=d by omega,eg]at q158;have hle:((Int.gcd n d:Nat):Int)<=d:=Int.le_of_dvd hd.1 (Int.gcd_dvd_right _ _);have hv1:n.tdiv (Int.gcd n d:Nat)=(Rat.divInt n d).num:=by
  rw[e3];conv=>lhs;arg 1;rw[e1]
  exact Int.mul_tdiv_cancel_left _ (by omega)
 have hv2:d.tdiv (Int.gcd n d:Nat)=((Rat.divInt n d).den:Int):=by
  rw[e4];conv=>lhs;arg 1;rw[e2]
  exact Int.mul_tdiv_cancel_left _ (by omega)
 have hs:=zN (Rat.divInt n d);have b1:(Rat.divInt n d).num.natAbs<=n.natAbs:=by
  rw[←hv1,Int.natAbs_tdiv];exact Nat.div_le_self _ _
 have b2:(Rat.divInt n d).den<=d.natAbs:=by
  have:=Int.natAbs_tdiv d (Int.gcd n d:Nat);rw[hv2,Int.natAbs_natCast]at this;rw[this];exact Nat.div_le_self _ _
 rw[hs];generalize (Rat.divInt n d).num=P at *
 generalize (Rat.divInt n d).den=D at *
 generalize Int.gcd n d=g at *
 have t1:=fun h=>C.FY P.natAbs h (by omega)
 have t2:=fun h=>C.FY D h (by omega)
 have l1:=oT (n:=P.natAbs) (k:=19) (Nat.lt_of_le_of_lt b1 (by rw[FU];omega)) (by decide);have l2:=oT (n:=D) (k:=19) (Nat.lt_of_le_of_lt b2 (by rw[FU];omega)) (by decide);generalize aQ P.natAbs=A at *
 generalize aQ D=B at *
 unfold t78;repeat' first|(apply aie (m:=(n.natAbs:Int));rfl;rfl;omega)|(apply aie (m:=(P.natAbs:Int));rfl;rfl;omega)|(apply aiY;rfl;rfl;omega;omega;first|exact hv1|exact hv2)|(apply abt;rfl;rfl)|(apply acs;rfl;rfl)|refine gd0 ?_|refine gc ?_|(intro _;omega)|intro _
 all_goals try omega
 all_goals refine⟨.inr rfl,rfl,_,rfl,?_,rfl⟩
 all_goals
  rename_i u1 u2;first|rw[if_pos u1]|rw[if_neg (by omega)]
  first|rw[if_pos (by omega)]|rw[if_neg (by omega)]
  simp[aU]
theorem Pd (hN:3<=N){n:Int}(h : -9223372036854775808<=n/\n<9223372036854775808):aj n<dB^N:=by
 have h1:aj n<dB^3:=by rw[Pa];unfold aj;split <;> omega
 exact Int.lt_of_lt_of_le h1 (fR (by decide) hN)
theorem w78 (C:FX M N)(hN:3<=N){n d:Int}(hn : -9223372036854775808<=n/\n<9223372036854775808)(hd : -9223372036854775808<=d/\d<9223372036854775808)(h0:d≠0):aS M 78 [.iV n,.iV d] [] ⟨.str (ao (Rat.divInt n d)),[],[]⟩:=by
 obtain⟨v1,k1,q1⟩:=C.FZ n hn;obtain⟨v2,k2,q2⟩:=C.FZ d hd;have q3:=fun h=>C.po h k1 k2 (Pd hN hn) (Pd hN hd) h0
 refine bC (by rw[C.ft];exact afo) (by simp) ?_;show W M FK _ (nj _ _);unfold FK;simp only[enter];by_cases hs:(-4000000000000000000<=n/\n<=4000000000000000000) /\ -4000000000000000000<=d/\d<=4000000000000000000
 . by_cases hp:0<d
   . exact gg2
   . rw[←Rat.neg_divInt_neg];have e1:0-n = -n:=by omega
     have e2:0-d = -d:=by omega
     have tl:=fun a3 a4 lo wr=>Hd C (n:=-n) (d:=-d) ⟨by omega,by omega⟩ ⟨by omega,by omega⟩ a3 a4 lo wr
     rw[←e1,←e2]at tl;rw[←e1,←e2];exact gg2
 . exact gg2
set_option maxRecDepth 1000000
def Pe:an:=zR [⟨.p 1,.mv (.c (.str [])),none⟩] (.seq (zR [zm 3 0,z1 4 140 3,zc 5 .lss 4 0] (.cond (.l 5) (zR [zm 6 0,⟨.l 7,.slice .str 1 (.l 6) (some (kI 1)) none none,none⟩,zw 1 7] (.ret)) (.skip))) (zR [zm 8 0,zw 1 8] (.ret)))
theorem afY:FT 56=some ⟨9,[0,2],[.var (.p 1)],Pe⟩:=by kernel_rfl
def Pf:an:=zR [zi 1 0] (.seq (zR [zm 3 0,z1 4 142 3,z1 5 56 4,zL 6 5,zc 7 .gtr 6 600,zn 8 7,zg (zm 9 0) 8 false,zg (z1 10 143 9) 8 false,zg (zL 11 10) 8 false,zg (zc 12 .gtr 11 600) 8 false,zP 13 8 12] (.cond (.l 13) (zR [zi 1 4] (.ret)) (.skip))) (zR [zi 1 0] (.ret)))
theorem afZ:FT 108=some ⟨14,[0,2],[.var (.p 1)],Pf⟩:=by kernel_rfl
def Pg:an:=zR [⟨.p 1,.mv (.c (.str [])),none⟩] (zR [zm 3 0,zm 4 0,z1 5 153 4,⟨.l 6,.slice .str 1 (.l 3) none (some (.l 5)) none,none⟩,zw 1 6] (.ret))
theorem aga:FT 142=some ⟨7,[0,2],[.var (.p 1)],Pg⟩:=by kernel_rfl
def Ph:an:=zR [⟨.p 1,.mv (.c (.str [])),none⟩] (zR [zm 4 0,z1 5 153 4,zw 2 5] (.seq (zR [zm 6 2,zm 7 0,zL 8 7,zb 9 .eql 6 8] (.cond (.l 9) (zR [⟨.p 1,.mv (.c (.str [49])),none⟩] (.ret)) (.skip))) (zR [zm 10 0,zm 11 2,zc 12 .add 11 1,⟨.l 13,.slice .str 1 (.l 10) (some (.l 12)) none none,none⟩,zw 1 13] (.ret))))
theorem agb:FT 143=some ⟨14,[0,2,3],[.var (.p 1)],Ph⟩:=by kernel_rfl
theorem ub (q:Rat):ao q≠[]:=fun h=>by
 have:=zN q;rw[h]at this;have:=congrArg List.length this;have:=List.length_pos_iff.2 (oO q.num.natAbs);simp at *
 omega
theorem Pj (q:Rat):0<(ao q).length/\(((ao q)[Int.toNat 0]!).toNat:Int)=45↔q.num<0:=by
 have h:=(qS q).1;have h0:=ub q;generalize ao q=s at *
 cases s with
 | nil=>exact absurd rfl h0
 | cons c t=>
  rw[preB,List.head?_cons,decide_eq_decide]at h;rw[←h];show 0<t.length+1/\((c.toNat:Int)=45)↔some c=some 45;constructor
  . intro h;rw[show c=45 from UInt8.toNat_inj.1 (by have:=h.2;have e:(45:UInt8).toNat=45:=rfl;omega)]
  . intro h;cases h;exact⟨by omega,rfl⟩
theorem Ga {q:Rat}(h:q.num<0):ao q=45::ao (-q):=by
 rw[zN,zN,Rat.neg_num,Rat.neg_den,if_pos h,if_neg (show ¬ -q.num<0 by omega),Int.natAbs_neg];simp
theorem agc {q:Rat}(h:0<q.num):ao (-q)=45::ao q:=by
 have:=Ga (q:=-q) (by rw[Rat.neg_num];omega);rw[Rat.neg_neg]at this;exact this
theorem zO {q:Rat}:q.num=0↔q=0:=Rat.num_eq_zero
theorem agd (hft:M.FT=FT)(q:Rat):aS M 140 [.str (ao q)] [] ⟨.iV (bg q.num),[],[]⟩:=by
 refine bC (by rw[hft];exact afp) (by simp) ?_;unfold ON;simp only[enter];by_cases h0:q.num=0
 . rw[h0,zO.1 h0,adp];exact gg4
 . have hne:ao q≠[48]:=fun h=>h0 (zO.2 (adq h))
   have hl:=List.length_pos_iff.2 (ub q);have hh:=Pj q;unfold bg;by_cases hn:q.num<0
   . rw[if_pos hn];obtain⟨_,h45⟩:=hh.2 hn;generalize ao q=s at *
     repeat' first|(apply acs;rfl;rfl)|(apply acJ;rfl;rfl)|(apply aeX;rfl;rfl;all_goals first|(intro h;exact absurd h (by decide))|(intro h;exact absurd rfl h)|(intro h;contradiction)|intro _)|refine gc ?_|(intro _;omega)|intro _
     all_goals try omega
     all_goals exact⟨.inr rfl,rfl,_,rfl,rfl,rfl⟩
   . rw[if_neg hn,if_pos (show 0<q.num by omega)];have h45:¬(((ao q)[Int.toNat 0]!).toNat:Int)=45:=fun h=>hn (hh.1 ⟨hl,h⟩)
     generalize ao q=s at *
     repeat' first|(apply acs;rfl;rfl)|(apply acJ;rfl;rfl)|(apply aeX;rfl;rfl;all_goals first|(intro h;exact absurd h (by decide))|(intro h;exact absurd rfl h)|(intro h;contradiction)|intro _)|refine gc ?_|(intro _;omega)|intro _
     all_goals try omega
     all_goals exact⟨.inr rfl,rfl,_,rfl,rfl,rfl⟩
theorem age (hft:M.FT=FT){q:Rat}(hl:(ao q).length<1000000)(q140:∀h,M.ext 140 [.str (ao q)] h=some ⟨.iV (bg q.num),h,[]⟩):aS M 141 [.str (ao q)] [] ⟨.str (ao (-q)),[],[]⟩:=by
 refine bC (by rw[hft];exact afq) (by simp) ?_;have h0:=List.length_pos_iff.2 (ub q);unfold OO;simp only[enter];by_cases hn:q.num<0
 . have e:=Ga hn;have e1:(ao q).drop (Int.toNat 1)=ao (-q):=by rw[e];rfl
   have e2:bg q.num = -1:=if_pos hn;rw[e2]at q140;generalize ao (-q)=t at *
   generalize ao q=s at *
   exact gg2
 . by_cases hz:q.num=0
   . have e:=zO.1 hz;subst e;have e2:bg (0:Rat).num=0:=rfl;rw[e2]at q140;rw[show (-0:Rat)=0 by simp];generalize ao 0=s at *
     exact gg10
   . have e:=agc (show 0<q.num by omega);have e2:bg q.num=1:=by unfold bg;rw[if_neg hn,if_pos (by omega)]
     rw[e2]at q140;rw[e];generalize ao q=s at *
     have l1:([45]:ah).length=1:=rfl;exact gg10
theorem w56 (hft:M.FT=FT){q:Rat}(q140:∀h,M.ext 140 [.str (ao q)] h=some ⟨.iV (bg q.num),h,[]⟩):aS M 56 [.str (ao q)] [] ⟨.str (ao (if q.num<0 then -q else q)),[],[]⟩:=by
 refine bC (by rw[hft];exact afY) (by simp) ?_;have h0:=List.length_pos_iff.2 (ub q);unfold Pe;simp only[enter];by_cases hn:q.num<0
 . have e1:(ao q).drop (Int.toNat 1)=ao (-q):=by rw[Ga hn];rfl
   have e2:bg q.num = -1:=if_pos hn;rw[e2]at q140;rw[if_pos hn];generalize ao (-q)=t at *
   generalize ao q=s at *
   exact gg2
 . have e2:0<=bg q.num:=by unfold bg;rw[if_neg hn];split <;> omega
   rw[if_neg hn];generalize ao q=s at *
   generalize bg q.num=z at *
   exact gg13
theorem pq (q:Rat):bX (ao q)=(bM q.num).length/\(ao q).take (bX (ao q))=bM q.num/\(bX (ao q)=(ao q).length↔q.den=1)/\(q.den≠1->(ao q).drop (bX (ao q)+1)=aQ q.den/\bX (ao q)+1<=(ao q).length)/\jE (ao q)=decide (q.den≠1)/\bD 47 (ao q)=(bM q.num,if q.den=1 then none else some (aQ q.den)):=by
 have e:bD 47 (ao q)=(bM q.num,if q.den=1 then none else some (aQ q.den)):=by
  unfold ao;split
  . exact tB (yl _)
  . exact tC (yl _)
 have e1:bX (ao q)=(bM q.num).length:=by unfold bX;rw[e]
 refine⟨e1,?_,?_,?_,?_,e⟩
 . rw[e1];unfold ao;split <;> simp
 . rw[e1];unfold ao;split <;> simp[*]
 . intro h;rw[e1];unfold ao;rw[if_neg h];constructor
   . rw[show bM q.num++47::aQ q.den=(bM q.num++[47])++aQ q.den by simp,List.drop_append_of_le_length (by simp)];simp
   . simp
 . unfold jE;rw[e];by_cases h:q.den=1 <;> simp[h]
theorem uc (z:Int):ao (z:Rat)=bM z:=by
 unfold ao;rw[if_pos (Rat.den_intCast z),Rat.num_intCast]
theorem agh (hft:M.FT=FT){q:Rat}(q153:∀h,M.ext 153 [.str (ao q)] h=some ⟨.iV (bX (ao q)),h,[]⟩):aS M 142 [.str (ao q)] [] ⟨.str (bM q.num),[],[]⟩:=by
 refine bC (by rw[hft];exact aga) (by simp) ?_;obtain⟨_,e,_⟩:=pq q;have hk:=tQ (ao q);have e':(ao q).take ((bX (ao q):Nat):Int).toNat=bM q.num:=e;generalize bM q.num=t at *
 generalize ao q=s at *
 unfold Pg;simp only[enter];exact gg4
theorem agi:aQ 1=[49]:=iq (by decide)
theorem agj (hft:M.FT=FT){q:Rat}(hl:(ao q).length<1000000)(q153:∀h,M.ext 153 [.str (ao q)] h=some ⟨.iV (bX (ao q)),h,[]⟩):aS M 143 [.str (ao q)] [] ⟨.str (aQ q.den),[],[]⟩:=by
 refine bC (by rw[hft];exact agb) (by simp) ?_;obtain⟨_,_,hd,hs,_⟩:=pq q;have hk:=tQ (ao q);unfold Ph;simp only[enter];by_cases h1:q.den=1
 . have e:=hd.2 h1;rw[h1];generalize ao q=s at *
   repeat' first|(apply acJ;rfl;rfl)|refine gd0 ?_|refine gc ?_|(intro _;omega)|intro _
   all_goals try omega
   all_goals exact⟨.inr rfl,rfl,_,rfl,agi ▸ rfl,rfl⟩
 . obtain⟨e,e2⟩:=hs h1;have hne:bX (ao q)≠(ao q).length:=fun h=>h1 (hd.1 h)
   have e':(ao q).drop ((bX (ao q):Nat)+1:Int).toNat=aQ q.den:=by rw[show ((bX (ao q):Nat)+1:Int).toNat=bX (ao q)+1 by omega];exact e
   generalize aQ q.den=t at *
   generalize ao q=s at *
   exact gg1
theorem agk (hft:M.FT=FT){q:Rat}(hq:Dq 600 q)(q142:∀h,M.ext 142 [.str (ao q)] h=some ⟨.str (ao (q.num:Rat)),h,[]⟩)(q56:∀h,M.ext 56 [.str (ao (q.num:Rat))] h=some ⟨.str (ao (if q.num<0 then -(q.num:Rat) else (q.num:Rat))),h,[]⟩)(q143:∀h,M.ext 143 [.str (ao q)] h=some ⟨.str (aQ q.den),h,[]⟩):aS M 108 [.str (ao q)] [] ⟨.iV 0,[],[]⟩:=by
 have l1:(ao (if q.num<0 then -(q.num:Rat) else (q.num:Rat))).length<=600:=by
  have e:ao (if q.num<0 then -(q.num:Rat) else (q.num:Rat))=aQ (aj q.num).toNat:=by
   unfold aj;split
   . rw[show -(q.num:Rat)=((-q.num:Int):Rat) by simp,uc,FW (by omega)]
   . rw[uc,FW (by omega)]
  rw[e];exact tG (by decide) hq.1
 have l2:(aQ q.den).length<=600:=by
  have:=tG (z:=q.den) (k:=600) (by decide) (by rw[ck (by omega)];exact hq.2);rw[ck (by omega),Int.toNat_natCast]at this;exact this
 generalize aQ q.den=d at *
 generalize ao (if q.num<0 then -(q.num:Rat) else (q.num:Rat))=n at *
 refine bC (by rw[hft];exact afZ) (by simp) ?_;unfold Pf;simp only[enter];exact gg9
theorem agl {q:Rat}{u num:ah}{k dl:Nat}(neg:Bool)(hs:(if neg then -((aj q.num).toNat:Int) else ((aj q.num).toNat:Int))=q.num)
 (hk:k=num.length) (hkl:k<=u.length) (hu:u.length<1000000) (ht:u.take k=num) (h1:k=u.length↔q.den=1) (hd:q.den≠1->u.drop (k+1)=aQ q.den/\k+1+(aQ q.den).length=u.length) (hdl:dl=u.length-k)
 (q153:∀h,M.ext 153 [.str u] h=some ⟨.iV k,h,[]⟩) (qn:k<=9->∀h,M.ext 192 [.str num] h=some ⟨.iV (aj q.num).toNat,h,[]⟩) (qd:dl<=10->q.den≠1->∀h,M.ext 192 [.str (aQ q.den)] h=some ⟨.iV (q.den:Nat),h,[]⟩)
 (bn:k<=9->(aj q.num).toNat<1000000000) (a0 a5 a6 a7:AV) (lo:List (Nat×AV)) (wr:List Nat) :
 W M t134 ⟨⟨[a0,.iV 0,.iV 0,.bool false,.str u,.bool neg,a5,a6,a7],lo,[],[]⟩,wr⟩ (nj [.var (.p 1),.var (.p 2),.var (.p 3)] (if k<=9/\dl<=10 then .au [.iV q.num,.iV q.den,.bool true] else .au [.iV 0,.iV 0,.bool false])):=by
 have ht':u.take ((k:Nat):Int).toNat=num:=ht;by_cases hc:k<=9/\dl<=10
 . rw[if_pos hc];have qn:=qn hc.1;have bn:=bn hc.1;by_cases hd1:q.den=1
   . have hku:=h1.2 hd1;rw[hd1];generalize (aj q.num).toNat=A at *
     generalize q.num=P at *
     unfold t134;cases neg with
     | false=>
      obtain rfl:P=A:=hs.symm;repeat' first|(apply agv (r:=num);rfl;rfl;omega;exact ht')|apply ads|apply dw|apply adt|apply adP|apply afP|apply afX|(apply agf;rfl)|(apply ahb;rfl)|(apply abt;rfl;rfl)|(apply acs;rfl;rfl)|(apply ago;rfl;rfl)|(apply ahc;rfl;rfl;omega)|(apply aal;rfl;rfl;first|exact q153 _|exact qn _)|(apply aak;rfl;rfl)|(apply adU;rfl;rfl)|(intro _;omega)|intro _
      all_goals try omega
      all_goals exact⟨.inr rfl,rfl,_,rfl,rfl,rfl⟩
     | true=>
      have e:(0:Int)-A=P:=by rw[←hs];simp
      repeat' first|(apply agv (r:=num);rfl;rfl;omega;exact ht')|apply ads|apply dw|apply adt|apply adP|apply afP|apply afX|(apply aff;rfl)|(apply agf;rfl)|(apply ahb;rfl)|(apply abt;rfl;rfl)|(apply acs;rfl;rfl)|(apply ago;rfl;rfl)|(apply ahc;rfl;rfl;omega)|(apply aal;rfl;rfl;first|exact q153 _|exact qn _)|(apply aak;rfl;rfl)|(apply adU;rfl;rfl)|(intro _;omega)|intro _
      all_goals try omega
      all_goals exact⟨.inr rfl,rfl,_,rfl,by rw[e];rfl,rfl⟩
   . have qd:=qd hc.2 hd1;obtain⟨e1,e2⟩:=hd hd1;have hne:k≠u.length:=fun h=>hd1 (h1.1 h)
     have e1':u.drop ((k:Nat)+1:Int).toNat=aQ q.den:=by rw[show ((k:Nat)+1:Int).toNat=k+1 by omega];exact e1
     generalize aQ q.den=B at *
     generalize q.den=D at *
     generalize (aj q.num).toNat=A at *
     generalize q.num=P at *
     unfold t134;cases neg with
     | false=>
      obtain rfl:P=A:=hs.symm;repeat' first|(apply agv (r:=num);rfl;rfl;omega;exact ht')|(apply agq (r:=B);rfl;rfl;omega;exact e1')|apply ads|apply dw|apply adt|apply adP|apply afP|apply afX|(apply aff;rfl)|(apply agf;rfl)|(apply ahb;rfl)|(apply abt;rfl;rfl)|(apply acs;rfl;rfl)|(apply ago;rfl;rfl)|(apply aip;rfl;rfl;omega)|(apply ahc;rfl;rfl;omega)|(apply aal;rfl;rfl;first|exact q153 _|exact qn _|exact qd _)|(apply aak;rfl;rfl)|(apply adU;rfl;rfl)|(intro _;omega)|intro _
      all_goals try omega
      all_goals exact⟨.inr rfl,rfl,_,rfl,rfl,rfl⟩
     | true=>
      have e:(0:Int)-A=P:=by rw[←hs];simp
      repeat' first|(apply agv (r:=num);rfl;rfl;omega;exact ht')|(apply agq (r:=B);rfl;rfl;omega;exact e1')|apply ads|apply dw|apply adt|apply adP|apply afP|apply afX|(apply aff;rfl)|(apply agf;rfl)|(apply ahb;rfl)|(apply abt;rfl;rfl)|(apply acs;rfl;rfl)|(apply ago;rfl;rfl)|(apply aip;rfl;rfl;omega)|(apply ahc;rfl;rfl;omega)|(apply aal;rfl;rfl;first|exact q153 _|exact qn _|exact qd _)|(apply aak;rfl;rfl)|(apply adU;rfl;rfl)|(intro _;omega)|intro _
      all_goals try omega
      all_goals exact⟨.inr rfl,rfl,_,rfl,by rw[e];rfl,rfl⟩
 . rw[if_neg hc];unfold t134;exact gg9
structure Pk (M:aw):Prop where
 ft:M.FT=FT
 tZ:∀(s:ah) h,s.length<1000000->M.ext 153 [.str s] h=some ⟨.iV (bX s),h,[]⟩
 pn:∀(s:ah) h,s.length<=18->s.all bF=true->M.ext 192 [.str s] h=some ⟨.iV (az 0 s:Nat),h,[]⟩
theorem dec_lt {n k:Nat}(h:(aQ n).length<=k):n<10^k:=by
 have:=mW (aQ n) (jX n);rw[lO]at this;exact Nat.lt_of_lt_of_le this (Nat.pow_le_pow_right (by decide) h)
theorem agm (C:Pk M){q:Rat}(hl:(ao q).length<1000000):∃n d b,(b=true->n=q.num/\d=q.den/\aj q.num<1000000000/\q.den<1000000000)/\aS M 134 [.str (ao q)] [] ⟨.au [.iV n,.iV d,.bool b],[],[]⟩:=by
 by_cases CO:20<(ao q).length
 . refine⟨0,0,false,nofun,bC (by rw[C.ft];exact OM) (by simp) ?_⟩;generalize ao q=s at *
   unfold zG;simp only[enter];exact gg3
 . obtain⟨hp,hc⟩:=qS q;obtain⟨v,hv⟩:∃u,u=bH 45 (ao q):=⟨_,rfl⟩;have hul:=qP 45 (ao q);have hsp:bD 47 v=(aQ (aj q.num).toNat,if q.den=1 then none else some (aQ q.den)):=by
    have n47:∀n,(47:UInt8)∉aQ n:=fun n h=>by
     have:=List.all_eq_true.1 (jX n) _ h;exact absurd this (by decide)
    rw[hv,hc];split
    . exact tB (n47 _)
    . exact tC (n47 _)
   have hk:bX v=(aQ (aj q.num).toNat).length:=by unfold bX;rw[hsp]
   have hvt:v=if q.den=1 then aQ (aj q.num).toNat else aQ (aj q.num).toNat++47::aQ q.den:=by rw[hv,hc]
   obtain⟨dl,hdl⟩:∃dl,dl=v.length-bX v:=⟨_,rfl⟩;have hdlen:q.den≠1->v.drop (bX v+1)=aQ q.den/\bX v+1+(aQ q.den).length=v.length:=fun h=>by
    rw[hk,hvt,if_neg h];constructor
    . rw[show aQ (aj q.num).toNat++47::aQ q.den=(aQ (aj q.num).toNat++[47])++aQ q.den by simp,List.drop_append_of_le_length (by simp)];simp
    . simp;omega
   have hsgn:(if decide (q.num<0) then -((aj q.num).toNat:Int) else ((aj q.num).toNat:Int))=q.num:=by
    unfold aj;by_cases h:q.num<0
    . simp only[h,decide_true,if_true];omega
    . simp only[h,decide_false,if_false];show ((q.num.toNat:Nat):Int)=_;omega
   have tl:=fun a0 a5 a6 a7 lo wr=>agl (M:=M) (q:=q) (u:=v) (num:=aQ (aj q.num).toNat) (k:=bX v) (dl:=dl) (decide (q.num<0)) hsgn hk (tQ v) (by rw[hv];omega) (by rw[hk,hvt];split <;> simp) (by rw[hk,hvt];split <;> simp[*]) hdlen hdl
     (fun h=>C.tZ v h (by rw[hv];omega)) (fun hk9 h=>by
      have:=C.pn (aQ (aj q.num).toNat) h (by omega) (jX _);rw[lO]at this;exact this) (fun Bf hd1 h=>by
      have:=C.pn (aQ q.den) h (by have:=(hdlen hd1).2;omega) (jX _);rw[lO]at this;exact this) (fun hk9=>dec_lt (n:=(aj q.num).toNat) (k:=9) (by omega)) a0 a5 a6 a7 lo wr
   have key:∃n d b,(b=true->n=q.num/\d=q.den/\aj q.num<1000000000/\q.den<1000000000)/\(if bX v<=9/\dl<=10 then AV.au [.iV q.num,.iV q.den,.bool true] else .au [.iV 0,.iV 0,.bool false]) = .au [.iV n,.iV d,.bool b]:=by
    by_cases h:bX v<=9/\dl<=10
    . refine⟨q.num,q.den,true,fun _=>⟨rfl,rfl,?_,?_⟩,if_pos h⟩
      . have:=dec_lt (n:=(aj q.num).toNat) (k:=9) (by omega);have:=iD (x:=q.num);omega
      . by_cases hd1:q.den=1
        . omega
        . exact dec_lt (n:=q.den) (k:=9) (by have:=(hdlen hd1).2;omega)
    . exact⟨0,0,false,nofun,if_neg h⟩
   obtain⟨n,d,b,h1,h2⟩:=key;rw[h2]at tl;refine⟨n,d,b,h1,bC (by rw[C.ft];exact OM) (by simp) ?_⟩;have hh:=Pj q;have h0:=List.length_pos_iff.2 (ub q);show W M zG _ (nj _ _);unfold zG;simp only[enter];by_cases hn:q.num<0
   . rw[decide_eq_true hn]at tl hp;have e1:(ao q).drop (Int.toNat 1)=v:=by rw[hv];exact(tA hp).1
     obtain⟨_,h45⟩:=hh.2 hn;generalize ao q=s at *
     exact gg6
   . rw[decide_eq_false hn]at tl hp;have e1:ao q=v:=by rw[hv];exact(jZ hp).symm
     have h45:¬(((ao q)[Int.toNat 0]!).toNat:Int)=45:=fun h=>hn (hh.1 ⟨h0,h⟩)
     rw[e1]at CO h0 h45 ⊢;exact gg6
structure zQ (M:aw)(N:Nat):Prop where
 ft:M.FT=FT
 ud:∀q,(ao q).length<1000000->∃n d b,(b=true->n=q.num/\d=q.den/\aj q.num<1000000000/\q.den<1000000000)/\∀h,M.ext 134 [.str (ao q)] h=some ⟨.au [.iV n,.iV d,.bool b],h,[]⟩
 lW:∀q,(ao q).length<1000000->∃v1 v2,bQ v1 q.num/\bQ v2 (q.den:Nat)/\∀h,M.ext 135 [.str (ao q)] h=some ⟨.au [v1,v2],h,[]⟩
 ra:∀{a b x y},bQ a x->bQ b y->aj x<dB^N->aj y<dB^N->∃v0,bQ v0 (x*y)/\∀h,M.ext 137 [a,b] h=some ⟨v0,h,[]⟩
 Pm:∀{a b x y},bQ a x->bQ b y->aj x<dB^N->aj y<dB^N->∃v0,bQ v0 (x+y)/\∀h,M.ext 170 [a,b] h=some ⟨v0,h,[]⟩
 po:∀{a b x y} h,bQ a x->bQ b y->aj x<dB^N->aj y<dB^N->y≠0->M.ext 136 [a,b] h=some ⟨.str (ao (Rat.divInt x y)),h,[]⟩
 Gb:∀(n d:Int) h,-9223372036854775808<=n/\n<9223372036854775808 -> -9223372036854775808<=d/\d<9223372036854775808->d≠0->M.ext 78 [.iV n,.iV d] h=some ⟨.str (ao (Rat.divInt n d)),h,[]⟩
structure Fit (N k:Nat)(q:Rat):Prop where
 dq:Dq k q
 n0:aj q.num<dB^N
 d0:aj (q.den:Int)<dB^N
theorem fit {k:Nat}(hk:(10:Int)^(2*k+1)<=dB^N){q:Rat}(h:Dq k q):Fit N k q:=by
 have h1:=pg (m:=k) (n:=2*k+1) (by omega);exact⟨h,by have:=h.1;omega,by rw[ck (by omega)];have:=h.2;omega⟩
theorem ue {x y:Int}(hx:aj x<1000000000)(hy:aj y<1000000000) : -1000000000000000000<x*y/\x*y<1000000000000000000:=by
 have h:=kd (m:=9) (n:=9) hx hy;have e:(10:Int)^(9+9)=1000000000000000000:=by decide
 rw[e]at h;unfold aj at h;split at h <;> omega
theorem Pn (C:zQ M N){k:Nat}(hk:(10:Int)^(2*k+1)<=dB^N){p q:Rat}(hp:Dq k p)(hq:Dq k q)(lp:(ao p).length<1000000)(lq:(ao q).length<1000000):aS M 90 [.str (ao p),.str (ao q)] [] ⟨.str (ao (p+q)),[],[]⟩:=by
 obtain⟨n,d,b,hb,q1⟩:=C.ud p lp;obtain⟨m,e,b',hb',q2⟩:=C.ud q lq;obtain⟨v1,v2,k1,k2,q3⟩:=C.lW p lp;obtain⟨v3,v4,k3,k4,q4⟩:=C.lW q lq;have fp:=fit hk hp;have fq:=fit hk hq;have dp:=den_pos (q:=p);have dq:=den_pos (q:=q);have b2:aj (p.den:Int)<10^k:=by rw[ck (by omega)];exact hp.2
 have b4:aj (q.den:Int)<10^k:=by rw[ck (by omega)];exact hq.2
 have e2:(10:Int)^(2*k+1)=10^(k+k)*10:=by rw[show 2*k+1=(k+k)+1 by omega];exact Int.pow_succ _ _
 have t0:=pf (k+k);have m1:=kd hp.1 b4;have m2:=kd hq.1 b2;have m3:=kd b2 b4;obtain⟨v5,k5,q5⟩:=C.ra k1 k4 fp.n0 fq.d0;obtain⟨v6,k6,q6⟩:=C.ra k3 k2 fq.n0 fp.d0;obtain⟨v7,k7,q7⟩:=C.Pm k5 k6 (by omega) (by omega);obtain⟨v8,k8,q8⟩:=C.ra k2 k4 fp.d0 fq.d0;have hne:(p.den:Int)*q.den≠0:=Int.ne_of_gt (Int.mul_pos dp dq);have q9:=fun h=>C.po h k7 k8 (by have:=Np (x:=p.num*q.den) (y:=q.num*p.den);omega) (by omega) hne
 rw[←qG]at q9;obtain⟨_,_,_,rfl,_,o1,_⟩:=k1.shape;obtain⟨_,_,_,rfl,_,o2,_⟩:=k2.shape;obtain⟨_,_,_,rfl,_,o3,_⟩:=k3.shape;obtain⟨_,_,_,rfl,_,o4,_⟩:=k4.shape;refine bC (by rw[C.ft];exact afr) (by simp) ?_;by_cases hbb:b=true/\b'=true
 . obtain⟨rfl,rfl⟩:=hbb;obtain⟨rfl,rfl,s1,s2⟩:=hb rfl;obtain⟨rfl,rfl,s3,s4⟩:=hb' rfl;have s2':aj (p.den:Int)<1000000000:=by rw[ck (by omega)];omega
   have s4':aj (q.den:Int)<1000000000:=by rw[ck (by omega)];omega
   have r1:=ue s1 s4';have r2:=ue s3 s2';have r3:=ue s2' s4';have qa:=fun h=>C.Gb (p.num*q.den+q.num*p.den) (p.den*q.den) h (by omega) (by omega) hne
   rw[←qG]at qa;clear q3 q4 q5 q6 q7 q8 q9;unfold FL;simp only[enter];generalize p.num=P at *
   generalize q.num=Q at *
   generalize (p.den:Int)=D at *
   generalize (q.den:Int)=E at *
   exact gg1
 . have hc:b=false\/b=true/\b'=false:=by cases b <;> cases b' <;> simp at hbb ⊢
   unfold FL;simp only[enter];rcases hc with rfl|⟨rfl,rfl⟩;all_goals
   . exact gg9
theorem Po (C:zQ M N){k:Nat}(hk:(10:Int)^(2*k+1)<=dB^N){p q:Rat}(hp:Dq k p)(hq:Dq k q)(lp:(ao p).length<1000000)(lq:(ao q).length<1000000):aS M 53 [.str (ao p),.str (ao q)] [] ⟨.str (ao (p*q)),[],[]⟩:=by
 obtain⟨n,d,b,hb,q1⟩:=C.ud p lp;obtain⟨m,e,b',hb',q2⟩:=C.ud q lq;obtain⟨v1,v2,k1,k2,q3⟩:=C.lW p lp;obtain⟨v3,v4,k3,k4,q4⟩:=C.lW q lq;have fp:=fit hk hp;have fq:=fit hk hq;have dp:=den_pos (q:=p);have dq:=den_pos (q:=q);have b2:aj (p.den:Int)<10^k:=by rw[ck (by omega)];exact hp.2
 have b4:aj (q.den:Int)<10^k:=by rw[ck (by omega)];exact hq.2
 have e2:(10:Int)^(2*k+1)=10^(k+k)*10:=by rw[show 2*k+1=(k+k)+1 by omega];exact Int.pow_succ _ _
 have t0:=pf (k+k);have m1:=kd hp.1 hq.1;have m3:=kd b2 b4;obtain⟨v5,k5,q5⟩:=C.ra k1 k3 fp.n0 fq.n0;obtain⟨v8,k8,q8⟩:=C.ra k2 k4 fp.d0 fq.d0;have hne:(p.den:Int)*q.den≠0:=Int.ne_of_gt (Int.mul_pos dp dq);have q9:=fun h=>C.po h k5 k8 (by omega) (by omega) hne
 rw[←EV]at q9;obtain⟨_,_,_,rfl,_,o1,_⟩:=k1.shape;obtain⟨_,_,_,rfl,_,o2,_⟩:=k2.shape;obtain⟨_,_,_,rfl,_,o3,_⟩:=k3.shape;obtain⟨_,_,_,rfl,_,o4,_⟩:=k4.shape;refine bC (by rw[C.ft];exact aft) (by simp) ?_;by_cases hbb:b=true/\b'=true
 . obtain⟨rfl,rfl⟩:=hbb;obtain⟨rfl,rfl,s1,s2⟩:=hb rfl;obtain⟨rfl,rfl,s3,s4⟩:=hb' rfl;have s2':aj (p.den:Int)<1000000000:=by rw[ck (by omega)];omega
   have s4':aj (q.den:Int)<1000000000:=by rw[ck (by omega)];omega
   have r1:=ue s1 s3;have r3:=ue s2' s4';have qa:=fun h=>C.Gb (p.num*q.num) (p.den*q.den) h (by omega) (by omega) hne
   rw[←EV]at qa;clear q3 q4 q5 q8 q9;unfold FM;simp only[enter];generalize p.num=P at *
   generalize q.num=Q at *
   generalize (p.den:Int)=D at *
   generalize (q.den:Int)=E at *
   exact gg1
 . have hc:b=false\/b=true/\b'=false:=by cases b <;> cases b' <;> simp at hbb ⊢
   unfold FM;simp only[enter];rcases hc with rfl|⟨rfl,rfl⟩;all_goals
   . exact gg9
theorem agn (C:zQ M N){k:Nat}(hk:(10:Int)^(2*k+1)<=dB^N){q:Rat}(hq:Dq k q)(lq:(ao q).length<1000000)(h0:q≠0):aS M 133 [.str (ao q)] [] ⟨.str (ao q⁻¹),[],[]⟩:=by
 obtain⟨v1,v2,k1,k2,q3⟩:=C.lW q lq;have fq:=fit hk hq;have q9:=fun h=>C.po h k2 k1 fq.d0 fq.n0 (fun h=>h0 (zO.1 h))
 rw[←Rat.inv_def]at q9;obtain⟨_,_,_,rfl,_,o1,_⟩:=k1.shape;obtain⟨_,_,_,rfl,_,o2,_⟩:=k2.shape;refine bC (by rw[C.ft];exact afu) (by simp) ?_;unfold OQ;simp only[enter];exact gg9
theorem w52 (hft:M.FT=FT){p q:Rat}(q133:∀h,M.ext 133 [.str (ao q)] h=some ⟨.str (ao q⁻¹),h,[]⟩)(q53:∀h,M.ext 53 [.str (ao p),.str (ao q⁻¹)] h=some ⟨.str (ao (p*q⁻¹)),h,[]⟩):aS M 52 [.str (ao p),.str (ao q)] [] ⟨.str (ao (p*q⁻¹)),[],[]⟩:=by
 refine bC (by rw[hft];exact afv) (by simp) ?_;unfold OR;simp only[enter];exact gg1
theorem w57 (hft:M.FT=FT){p q:Rat}(q141:∀h,M.ext 141 [.str (ao q)] h=some ⟨.str (ao (-q)),h,[]⟩)(q90:∀h,M.ext 90 [.str (ao p),.str (ao (-q))] h=some ⟨.str (ao (p + -q)),h,[]⟩):aS M 57 [.str (ao p),.str (ao q)] [] ⟨.str (ao (p-q)),[],[]⟩:=by
 rw[Rat.sub_eq_add_neg];refine bC (by rw[hft];exact afs) (by simp) ?_;unfold OP;simp only[enter];exact gg1
theorem w55 (hft:M.FT=FT){p q:Rat}(q57:∀h,M.ext 57 [.str (ao p),.str (ao q)] h=some ⟨.str (ao (p-q)),h,[]⟩)(q140:∀h,M.ext 140 [.str (ao (p-q))] h=some ⟨.iV (bg (p-q).num),h,[]⟩):aS M 55 [.str (ao p),.str (ao q)] [] ⟨.iV (bg (p-q).num),[],[]⟩:=by
 refine bC (by rw[hft];exact afw) (by simp) ?_;unfold OS;simp only[enter];exact gg1
def Gc:an:=.seq (zR [zm 4 2,zm 5 0,zl 6 5,zb 7 .lss 4 6] (.cond (.l 7) (.skip) (.exit 0))) (.seq (.block 1 (zR [zm 10 0,zm 11 2,za 12 1 10 11,zd 13 1 12,zL 14 13,zc 15 .gtr 14 60] (.cond (.l 15) (zR [⟨.p 1,.mv (.c (.bool false)),none⟩] (.ret)) (.skip)))) (.region [zm 8 2,zc 9 .add 8 1,zw 2 9]))
def Pp:an:=zR [⟨.p 1,.mv (.c (.bool false)),none⟩] (.seq (zR [zi 2 0] (.block 0 (.loop Gc))) (zR [⟨.p 1,.mv (.c (.bool true)),none⟩] (.ret)))
theorem agr:FT 72=some ⟨16,[0,2,3],[.var (.p 1)],Pp⟩:=by kernel_rfl
def Gd:an:=zR [⟨.p 4,.mv (.c (.bool false)),none⟩] (.seq (zR [zm 9 2,zc 10 .eql 9 0] (.cond (.l 10) (.region [zm 11 3,z1 12 108 11,zw 2 12]) (.skip))) (.seq (zR [zm 13 2,zc 14 .neq 13 0] (.cond (.l 14) (zR [zm 15 0,⟨.l 16,.bin .eql (.l 15) (.c (.str [])),none⟩,zn 17 16,zg (zm 18 1) 17 true,zg (zm 19 2) 17 true,zg (zb 20 .eql 18 19) 17 true,zp 21 17 20,zw 4 21] (.ret)) (.skip))) (zR [zm 22 1,zc 23 .eql 22 0,zn 24 23,zg (zm 25 0) 24 true,zg (zm 26 3) 24 true,zg (zb 27 .eql 25 26) 24 true,zp 28 24 27,zw 4 28] (.ret))))
theorem Pq:FT 75=some ⟨29,[0,1,2,3,8],[.var (.p 4)],Gd⟩:=by kernel_rfl
theorem ags (hft:M.FT=FT){e:Int}(he:e≠0):aS M 75 [.str [],.iV e,.iV e,.str []] [] ⟨.bool true,[],[]⟩:=by
 refine bC (by rw[hft];exact Pq) (by simp) ?_;unfold Gd;simp only[enter];exact gg4
theorem w75 (hft:M.FT=FT){s:ah}(q:∀h,M.ext 108 [.str s] h=some ⟨.iV 0,h,[]⟩):aS M 75 [.str s,.iV 0,.iV 0,.str s] [] ⟨.bool true,[],[]⟩:=by
 refine bC (by rw[hft];exact Pq) (by simp) ?_;unfold Gd;simp only[enter];exact gg4
theorem gm.zero {b:Nat}{e:TypeId}{hp:ab}(hb:hp.at b=some (.cells (al []) e)):gm (aU [.sl b 0 0 1 cap]) (if (aU [.sl b 0 0 1 cap]).top<=0 then [] else hp) []:=by
 rw[if_neg (by simp[aU,AV.top])];refine⟨.vs [] 0 none,⟨[b],.sl (m:=[]) (List.mem_singleton.2 rfl) hb rfl rfl (fun i x y hx=>by simp at hx) (.inr rfl),rfl,fun c l' e' hc hl'=>?_⟩,rfl,rfl⟩;rw[List.mem_singleton.1 hc,hb]at hl';cases hl';exact nZ (fun _=>rfl) []
theorem agu (hft:M.FT=FT)(dP:∀ars h,M.ext 242 ars h=none):zj M 197 [.vs (al []) ([]:List Int).length c1,.vs (al []) ([]:List Int).length c2] (WV dB []*WV dB []):=by
 refine Fm (by rw[hft];exact NM) (by simp) ?_;have q:=CT.run (fi:=[]) (ca:=[]) (ars:=[.sl 0 0 0 1 (some 0)]) (dP _ _) (Fq hft (b:=0) (L:=[]) (e:=3) (hp:=[some (.cells (al []) 3)]) (cap:=some 0) rfl);have hl:([]:List Int).length=0:=rfl;unfold Fk;simp only[enter];rw[hl];repeat' first|refine gc ?_|fail
 refine W.loop ?_;unfold yZ;exact gg0
open Go.Proofs
theorem cz.top {x:AV}{l:List Int}(h:cz x l):x.top=0:=(tX x h).2.1
theorem bQ.top {v:AV}{z:Int}(h:bQ v z):v.top=0:=by
 obtain⟨_,x,_,rfl,_,_,ht,_⟩:=h.shape;simp[AV.top,bh,ht]
theorem Pr {x y:AV}{l m:List Int}(h:ab)(hx:cz x l)(hy:cz y m)(o1:okW dB l)(o2:okW dB m)(n1:aM l)(n2:aM m)(l1:l.length<1000000)(l2:m.length<1000000):zB [x,y] h=some ⟨.iV (bg (WV dB l-WV dB m)),h,[]⟩:=
 ot (Ob bm l m o1 o2 n1 n2 (by omega) (by omega)) rfl rfl rfl (.cons hx.gu (.cons hy.gu .nil))
theorem Ge (x:AV)(a b:List Int)(hx:cz x a)(o1:okW dB a)(o2:okW dB b)(n1:aM a)(n2:aM b)(l1:a.length<100000)(l2:b.length<100000)(hb:b≠[]) :
 ∃qv q rv r,cz qv q/\cz rv r/\okW dB q/\aM q/\okW dB r/\aM r/\WV dB q=WV dB a/WV dB b/\WV dB r=WV dB a%WV dB b/\∀h,qY [x,.vs (al b) b.length none] h=some ⟨.au [qv,rv],h,[]⟩:=by
 rcases hx with rfl|⟨rfl,rfl⟩
 . obtain⟨q,r,⟨h1,h2,h3⟩,⟨h4,h5,h6⟩,v,hh,⟨v1,x,y,f,t,k,i1,i2⟩,hr⟩:=Oj (c1:=none) (c2:=none) Oy a b o1 o2 n1 n2 l1 l2 hb;exact⟨x,q,y,r,i1,i2,h1,h2,h4,h5,h3,h6,fun h=>sr ⟨v,hh,v1,hr,f,eA (fm a) (fm b),t,k⟩⟩
 . have bp:=(jd (b:=dB) (by decide) o2 n2).2 hb;have e:bg (WV dB []-WV dB b) = -1:=if_pos (by show (0:Int)-WV dB b<0;omega);refine⟨.aa,[],.aa,[],.inr ⟨rfl,rfl⟩,.inr ⟨rfl,rfl⟩,o1,n1,o1,n1,(Int.zero_ediv _).symm,(Int.zero_emod _).symm,fun h=>?_⟩;refine bL (afR (M:=aY Tryz.prog FT zC) (c2:=none) bm b fun h=>?_) (eA rfl (fm b)) rfl rfl h;rw[←e];exact Pr h (.inr ⟨rfl,rfl⟩) (.inl rfl) o1 o2 n1 n2 (by show (0:Nat)<_;omega) (by omega)
theorem cCg:Pb (aY Tryz.prog FT [(195,qY)]) where
 ft:=bm
 kN:=Ge
theorem Ps {x y:AV}(a b:List Int)(hx:cz x a)(hy:cz y b)(oa:okW dB a)(ob:okW dB b)(na:aM a)(nb:aM b)(la:a.length<100000)(lb:b.length<100000):∃gv g,cz gv g/\okW dB g/\aM g/\WV dB g=(Int.gcd (WV dB a) (WV dB b):Nat)/\g.length<100000/\∀h,zD [x,y] h=some ⟨gv,h,[]⟩:=by
 obtain⟨gv,g,h1,h2,h3,h4,h5,hr⟩:=afS cCg a b hx hy oa ob na nb la lb;exact⟨gv,g,h1,h2,h3,h4,h5,cY hr (eA hx.top hy.top)⟩
noncomputable def Pt:Spec:=sL [] 254
theorem agw:aR Tryz.prog gl 254 Pt:=iL bx
noncomputable def zU:List (Nat×Spec):=[(254,Pt)]
theorem Pu:cf Tryz.prog gl (bk zU):=aL agw bx
theorem Pv:FP (aY Tryz.prog FT zU) where
 ft:=bm
 zH:=fun a c i _h hi=>ot (afx (M:=aY Tryz.prog FT []) (c1:=c) bm a i hi) rfl rfl rfl (.cons (zA a) (.cons (.atom rfl) .nil))
 dP:=fun _ _=>rfl
noncomputable def Pw:Spec:=sL zU 206
noncomputable def Px:Spec:=sL zU 219
noncomputable def zV:Spec:=sK [] 196
theorem agx:aR Tryz.prog gl 206 Pw:=iL Pu
theorem agy:aR Tryz.prog gl 219 Px:=iL Pu
theorem Py:aR Tryz.prog gl 196 zV:=bc bx
theorem Gf:∀neg x l,cz x l->okW dB l->l.length<1000000000->∃v0,bQ v0 (bJ neg (WV dB l))/\∀h,zV [.bool neg,x] h=some ⟨v0,h,[]⟩:=fun neg x l hx ok hl=>by
 obtain⟨v0,h1,h2⟩:=afC (M:=aY Tryz.prog FT []) bm (fun _ _=>rfl) neg hx ok hl;exact⟨v0,h1,cY h2 (eA rfl hx.top)⟩
noncomputable def uf:List (Nat×Spec):=[(206,Pw),(219,Px),(218,zB),(197,FE),(196,zV)]
theorem Gg:cf Tryz.prog gl (bk uf):=aL agx (aL agy (aL Ow (aL Ox (aL Py bx))))
theorem Gh:zI (aY Tryz.prog FT uf) where
 ft:=bm
 OU:=fun l m k1 k2 o1 o2 l1 l2=>by
  obtain⟨r,⟨h1,h2,h3⟩,v,hh,⟨v1,f,t,k⟩,hr⟩:=afz (c1:=k1) (c2:=k2) Pv l m o1 o2 l1 l2;exact⟨r,h1,h2,h3,fun x y h hx hy=>lG (.cons hx (.cons hy .nil)) ⟨v,hh,v1,hr,f,t,k⟩⟩
 FQ:=fun l m o1 o2 n1 n2 l1 l2 hle=>by
  have hlen:m.length<=l.length:=fL (b:=dB) (by decide) o2 n2 (Int.lt_of_le_of_lt hle (cR (by decide) o1));obtain⟨r,⟨h1,h2,h3⟩,v,hh,⟨v1,f,t,k⟩,hr⟩:=afA (c1:=none) (c2:=none) Pv l m o1 o2 l1 hlen hle;exact⟨r,h1,h2,h3,fun x y h hx hy=>lG (.cons hx.gu (.cons hy.gu .nil)) ⟨v,hh,v1,hr,f,t,k⟩⟩
 tY:=fun l m x y h o1 o2 n1 n2 l1 l2 hx hy=>Pr h hx hy o1 o2 n1 n2 l1 l2
 qV:=fun l m o1 o2 l1 l2=>by
  by_cases h0:0<l.length+m.length
  . obtain⟨r,⟨h1,h2,h3⟩,v,hh,⟨v1,f,t,k⟩,hr⟩:=Oe (M:=aY Tryz.prog FT []) (c1:=none) (c2:=none) bm (fun _ _=>rfl) l m o1 o2 (by omega) (by omega) h0;exact⟨r,h1,h2,h3,fun x y h hx hy=>lG (.cons hx.gu (.cons hy.gu .nil)) ⟨v,hh,v1,hr,f,t,k⟩⟩
  . obtain⟨rfl,rfl⟩:l=[]/\m=[]:=⟨List.eq_nil_of_length_eq_zero (by omega),List.eq_nil_of_length_eq_zero (by omega)⟩;obtain⟨r,⟨h1,h2,h3⟩,v,hh,⟨v1,f,t,k⟩,hr⟩:=agu (M:=aY Tryz.prog FT []) (c1:=none) (c2:=none) bm (fun _ _=>rfl);exact⟨r,h1,h2,h3,fun x y h hx hy=>lG (.cons hx.gu (.cons hy.gu .nil)) ⟨v,hh,v1,hr,f,t,k⟩⟩
 ke:=Gf
noncomputable def Gi:Spec:=sK uf 170
noncomputable def Gj:Spec:=sK uf 137
noncomputable def Gk:Spec:=sK uf 194
theorem agz:aR Tryz.prog gl 170 Gi:=bc Gg
theorem agA:aR Tryz.prog gl 137 Gj:=bc Gg
theorem agB:aR Tryz.prog gl 194 Gk:=bc Gg
theorem Pz {a:AV}{z:Int}(ha:bQ a z)(l:aj z<dB^100):∃v0,bQ v0 (-z)/\∀h,Gk [a] h=some ⟨v0,h,[]⟩:=by
 obtain⟨v0,h1,h2⟩:=afD Gh ha l (by decide);exact⟨v0,h1,cY h2 (gw ha.top)⟩
theorem agC {a b:AV}{x y:Int}(ha:bQ a x)(hb:bQ b y)(la:aj x<dB^100)(lb:aj y<dB^100):∃v0,bQ v0 (x*y)/\∀h,Gj [a,b] h=some ⟨v0,h,[]⟩:=by
 obtain⟨v0,h1,h2⟩:=afE Gh ha hb la lb (by decide);exact⟨v0,h1,cY h2 (eA ha.top hb.top)⟩
theorem agD {a b:AV}{x y:Int}(ha:bQ a x)(hb:bQ b y)(la:aj x<dB^100)(lb:aj y<dB^100):∃v0,bQ v0 (x+y)/\∀h,Gi [a,b] h=some ⟨v0,h,[]⟩:=by
 obtain⟨v0,h1,h2⟩:=afG Gh ha hb la lb (by decide);exact⟨v0,h1,cY h2 (eA ha.top hb.top)⟩
noncomputable def ug:Spec:=sK [] 117
noncomputable def zW:Spec:=sK [] 139
noncomputable def PA:Spec:=sK [] 158
noncomputable def Gl:Spec:=sK [(117,ug)] 138
theorem PB:aR Tryz.prog gl 117 ug:=bc bx
theorem PC:aR Tryz.prog gl 139 zW:=bc bx
theorem agE:aR Tryz.prog gl 158 PA:=bc bx
theorem agF:aR Tryz.prog gl 138 Gl:=bc (aL PB bx)
theorem PD (n:Nat)(h:ab)(hn:n<9223372036854775808):ug [.iV (n:Nat),.iV 1] h=some ⟨.str (aQ n),h,[]⟩:=bL (afJ bm n hn) rfl rfl rfl h
theorem cTx:OW (aY Tryz.prog FT [(117,ug)]) where
 ft:=bm
 OX:=fun n h hn=>PD n h (by omega)
 OY:=fun n h hn=>bL (afK bm n hn) rfl rfl rfl h
theorem PE {a:AV}{z:Int}(h:ab)(ha:bQ a z)(l:aj z<dB^100):Gl [a] h=some ⟨.str (bM z),h,[]⟩:=bL (afL cTx ha l (by decide)) (gw ha.top) rfl rfl h
theorem PF (n:Int)(hn : -9223372036854775808<=n/\n<9223372036854775808):∃v0,bQ v0 n/\∀h,zW [.iV n] h=some ⟨v0,h,[]⟩:=by
 obtain⟨v0,h1,h2⟩:=afQ (M:=aY Tryz.prog FT []) ⟨bm,fun _ _=>rfl,fun _ _=>rfl⟩ n hn;exact⟨v0,h1,cY h2 rfl⟩
noncomputable def zX:List (Nat×Spec):=[(194,Gk),(155,zD),(195,qY),(196,zV),(138,Gl)]
theorem PG:cf Tryz.prog gl (bk zX):=aL agB (aL OA (aL Oz (aL Py (aL agF bx))))
theorem cFn:zJ (aY Tryz.prog FT zX) 100 where
 ft:=bm
 zK:=Pz
 qW:=Ps
 kN:=Ge
 ke:=Gf
 zM:=PE
noncomputable def zY:Spec:=sK zX 136
theorem PH:aR Tryz.prog gl 136 zY:=bc PG
theorem PI {a b:AV}{x y:Int}(h:ab)(ha:bQ a x)(hb:bQ b y)(la:aj x<dB^100)(lb:aj y<dB^100)(h0:y≠0):zY [a,b] h=some ⟨.str (ao (Rat.divInt x y)),h,[]⟩:=
 bL (afV cFn (by decide) ha hb la lb h0) (eA ha.top hb.top) rfl rfl h
noncomputable def Gm:List (Nat×Spec):=(158,PA)::(117,ug)::(139,zW)::(136,zY)::zX
theorem agI:cf Tryz.prog gl (bk Gm):=aL agE (aL PB (aL PC (aL PH PG)))
theorem cOf:FX (aY Tryz.prog FT Gm) 100 where
 ft:=bm
 zK:=Pz
 qW:=Ps
 kN:=Ge
 ke:=Gf
 zM:=PE
 Pc:=fun a b h ha hb=>bL (afW bm a b ha hb) rfl rfl rfl h
 FY:=PD
 FZ:=PF
 po:=PI
noncomputable def Gn:Spec:=sK Gm 78
theorem agK:aR Tryz.prog gl 78 Gn:=bc agI
theorem k78 (n d:Int)(h:ab)(hn : -9223372036854775808<=n/\n<9223372036854775808)(hd : -9223372036854775808<=d/\d<9223372036854775808)(h0:d≠0):Gn [.iV n,.iV d] h=some ⟨.str (ao (Rat.divInt n d)),h,[]⟩:=
 bL (w78 cOf (by decide) hn hd h0) rfl rfl rfl h
noncomputable def PJ:List (Nat×Spec):=[(153,kO),(192,zo)]
theorem cQk:Pk (aY Tryz.prog FT PJ) where
 ft:=bm
 tZ:=fun s h hl=>ua s h hl
 pn:=fun s h hl hd=>On s h hl hd
noncomputable def PK:Spec:=sK PJ 134
theorem agN:aR Tryz.prog gl 134 PK:=bc (aL qX (aL Om bx))
noncomputable def Gp:List (Nat×Spec):=[(153,kO),(193,zy),(139,zW)]
noncomputable def Gq:Spec:=sK Gp 135
theorem agO:aR Tryz.prog gl 135 Gq:=bc (aL qX (aL Oq (aL PC bx)))
theorem agP (z:Int):preB 45 (bM z)=decide (z<0)/\bH 45 (bM z)=aQ (aj z).toNat:=by
 have h:=qS (z:Rat);rw[uc,Rat.num_intCast,Rat.den_intCast,if_pos rfl]at h;exact h
theorem agQ (q:Rat)(hl:(ao q).length<1000000):∃v1 v2,bQ v1 q.num/\bQ v2 (q.den:Nat)/\∀h,Gq [.str (ao q)] h=some ⟨.au [v1,v2],h,[]⟩:=by
 obtain⟨e1,e2,_,_,e3,e4⟩:=pq q;obtain⟨p1,p2⟩:=agP q.num;obtain⟨d1,d2⟩:=FD (jX q.den);have hk:=tQ (ao q);obtain⟨v1,k1,q1⟩:=zz (bM q.num) (by rw[←e1];omega) (by rw[p2];exact jX _);have k1:=k1.tT;rw[p1,p2,lO]at k1;have en:(if decide (q.num<0)=true then -((aj q.num).toNat:Int) else ((aj q.num).toNat:Int))=q.num:=by
  unfold aj;by_cases h:q.num<0
  . simp only[h,decide_true,if_true];omega
  . simp only[h,decide_false];show ((q.num.toNat:Nat):Int)=_;omega
 rw[en]at k1;have q153:=fun h=>ua (ao q) h hl
 by_cases hd:q.den=1
 . obtain⟨v2,k2,q2⟩:=PF 1 (by decide);rw[decide_eq_false (fun h=>h hd)]at e3;have es:ao q=bM q.num:=if_pos hd;refine⟨v1,v2,k1,by rw[hd];exact k2,cY (afT (M:=aY Tryz.prog FT Gp) bm (ao q) hl e3 q153 k1 k2 (by rw[es];exact q1) q2) rfl⟩
 . rw[if_neg hd]at e4;obtain⟨v2,k2,q2⟩:=zz (aQ q.den) (by
    have e:(ao q).length=(bM q.num).length+1+(aQ q.den).length:=by
     unfold ao;rw[if_neg hd,List.length_append,List.length_cons];omega
    omega) (by rw[d2];exact jX _)
   have k2:=k2.tT;rw[d1,d2,lO,if_neg (by decide)]at k2;rw[decide_eq_true hd]at e3;refine⟨v1,v2,k1,k2,cY (Oa (M:=aY Tryz.prog FT Gp) bm (ao q) hl e3 q153 k1 k2 (by rw[e4];exact q1) (by rw[e4];exact q2)) rfl⟩
noncomputable def uh:List (Nat×Spec):=[(134,PK),(135,Gq),(137,Gj),(170,Gi),(136,zY),(78,Gn)]
theorem Gr:cf Tryz.prog gl (bk uh):=aL agN (aL agO (aL agA (aL agz (aL PH (aL agK bx)))))
theorem ui:zQ (aY Tryz.prog FT uh) 100 where
 ft:=bm
 ud:=fun q hl=>by
  obtain⟨n,d,b,h1,h2⟩:=agm cQk hl;exact⟨n,d,b,h1,fun h=>bL h2 rfl rfl rfl h⟩
 lW:=agQ
 ra:=agC
 Pm:=agD
 po:=PI
 Gb:=k78
theorem Gs:(10:Int)^(2*201+1)<=dB^100:=by rw[show 2*201+1=200+203 from rfl,Int.pow_add];decide
theorem kf {k:Nat}{q:Rat}(h:Dq k q)(h0:0<k)(hk:k<=600):(ao q).length<1000000:=by
 have:=MV (h.lq (N:=601) h0 (by omega));omega
noncomputable def rf:Spec:=sK uh 90
noncomputable def ri:Spec:=sK uh 53
noncomputable def zZ:Spec:=sK uh 133
noncomputable def nk:Spec:=sK [] 140
noncomputable def Aa:Spec:=sK [(140,nk)] 141
noncomputable def uj:Spec:=sK [(141,Aa),(90,rf)] 57
noncomputable def Gt:Spec:=sK [(57,uj),(140,nk)] 55
noncomputable def Gu:Spec:=sK [(133,zZ),(53,ri)] 52
theorem PL:aR Tryz.prog gl 90 rf:=bc Gr
theorem PM:aR Tryz.prog gl 53 ri:=bc Gr
theorem agR:aR Tryz.prog gl 133 zZ:=bc Gr
theorem Gv:aR Tryz.prog gl 140 nk:=bc bx
theorem agS:aR Tryz.prog gl 141 Aa:=bc (aL Gv bx)
theorem PN:aR Tryz.prog gl 57 uj:=bc (aL agS (aL PL bx))
theorem agT:aR Tryz.prog gl 55 Gt:=bc (aL PN (aL Gv bx))
theorem agU:aR Tryz.prog gl 52 Gu:=bc (aL agR (aL PM bx))
theorem k90 (p q:Rat)(h:ab)(hp:Dq 201 p)(hq:Dq 201 q):rf [.str (ao p),.str (ao q)] h=some ⟨.str (ao (p+q)),h,[]⟩:=
 bL (Pn ui Gs hp hq (kf hp (by decide) (by decide)) (kf hq (by decide) (by decide))) rfl rfl rfl h
theorem k53 (p q:Rat)(h:ab)(hp:Dq 201 p)(hq:Dq 201 q):ri [.str (ao p),.str (ao q)] h=some ⟨.str (ao (p*q)),h,[]⟩:=
 bL (Po ui Gs hp hq (kf hp (by decide) (by decide)) (kf hq (by decide) (by decide))) rfl rfl rfl h
theorem PO:(10:Int)^(2*425+1)<=dB^100:=by rw[show 2*425+1=200+(200+(200+251)) from rfl,Int.pow_add,Int.pow_add,Int.pow_add];decide
theorem agX (p q:Rat)(h:ab)(hp:Dq 425 p)(hq:Dq 425 q):rf [.str (ao p),.str (ao q)] h=some ⟨.str (ao (p+q)),h,[]⟩:=
 bL (Pn ui PO hp hq (kf hp (by decide) (by decide)) (kf hq (by decide) (by decide))) rfl rfl rfl h
theorem agY (p q:Rat)(h:ab)(hp:Dq 425 p)(hq:Dq 425 q):ri [.str (ao p),.str (ao q)] h=some ⟨.str (ao (p*q)),h,[]⟩:=
 bL (Po ui PO hp hq (kf hp (by decide) (by decide)) (kf hq (by decide) (by decide))) rfl rfl rfl h
theorem agZ (q:Rat)(h:ab)(hq:Dq 201 q)(h0:q≠0):zZ [.str (ao q)] h=some ⟨.str (ao q⁻¹),h,[]⟩:=
 bL (agn ui Gs hq (kf hq (by decide) (by decide)) h0) rfl rfl rfl h
theorem Gw (q:Rat)(h:ab):nk [.str (ao q)] h=some ⟨.iV (bg q.num),h,[]⟩:=bL (agd bm q) rfl rfl rfl h
theorem aha {k:Nat}(q:Rat)(h:ab)(hq:Dq k q)(h0:0<k)(hk:k<=600):Aa [.str (ao q)] h=some ⟨.str (ao (-q)),h,[]⟩:=
 bL (age (M:=aY Tryz.prog FT [(140,nk)]) bm (kf hq h0 hk) (Gw q)) rfl rfl rfl h
theorem PQ (p q:Rat)(h:ab)(hp:Dq 201 p)(hq:Dq 201 q):uj [.str (ao p),.str (ao q)] h=some ⟨.str (ao (p-q)),h,[]⟩:=
 bL (w57 (M:=aY Tryz.prog FT [(141,Aa),(90,rf)]) bm (fun h=>aha q h hq (by decide) (by decide)) (fun h=>k90 p (-q) h hp hq.neg)) rfl rfl rfl h
theorem k55 (p q:Rat)(h:ab)(hp:Dq 201 p)(hq:Dq 201 q):Gt [.str (ao p),.str (ao q)] h=some ⟨.iV (cZ p q),h,[]⟩:=by
 have e:bg (p-q).num=cZ p q:=by rw[←EW,EX]
 rw[←e];exact bL (w55 (M:=aY Tryz.prog FT [(57,uj),(140,nk)]) bm (fun h=>PQ p q h hp hq) (Gw _)) rfl rfl rfl h
theorem k52 (p q:Rat)(h:ab)(hp:Dq 201 p)(hq:Dq 201 q)(h0:q≠0):Gu [.str (ao p),.str (ao q)] h=some ⟨.str (ao (p*q⁻¹)),h,[]⟩:=
 bL (w52 (M:=aY Tryz.prog FT [(133,zZ),(53,ri)]) bm (fun h=>agZ q h hq h0) (fun h=>k53 p q⁻¹ h hp (hq.inv h0))) rfl rfl rfl h
noncomputable def Gx:Spec:=sK [(140,nk)] 56
noncomputable def Gy:Spec:=sK [(153,kO)] 142
noncomputable def Gz:Spec:=sK [(153,kO)] 143
noncomputable def uk:Spec:=sK [(142,Gy),(56,Gx),(143,Gz)] 108
noncomputable def PR:Spec:=sK [(108,uk)] 75
noncomputable def PS:Spec:=sL [] 72
theorem ahd:aR Tryz.prog gl 56 Gx:=bc (aL Gv bx)
theorem ahe:aR Tryz.prog gl 142 Gy:=bc (aL qX bx)
theorem ahf:aR Tryz.prog gl 143 Gz:=bc (aL qX bx)
theorem ahg:aR Tryz.prog gl 108 uk:=bc (aL ahe (aL ahd (aL ahf bx)))
theorem ahh:aR Tryz.prog gl 75 PR:=bc (aL ahg bx)
theorem ahi:aR Tryz.prog gl 72 PS:=iL bx
theorem ahj (q:Rat)(h:ab)(hq:Dq 600 q):uk [.str (ao q)] h=some ⟨.iV 0,h,[]⟩:=by
 have hl:=kf hq (by decide) (by decide);have q153:=fun h=>ua (ao q) h hl
 refine bL (agk (M:=aY Tryz.prog FT [(142,Gy),(56,Gx),(143,Gz)]) bm hq (fun h=>?_) (fun h=>?_) (fun h=>?_)) rfl rfl rfl h
 . rw[uc];exact bL (agh (M:=aY Tryz.prog FT [(153,kO)]) bm q153) rfl rfl rfl h
 . have:=bL (w56 (M:=aY Tryz.prog FT [(140,nk)]) bm (q:=(q.num:Rat)) (Gw _)) rfl rfl rfl h;rw[Rat.num_intCast]at this;exact this
 . exact bL (agj (M:=aY Tryz.prog FT [(153,kO)]) bm hl q153) rfl rfl rfl h
def PT (c:Int):Bool:=(decide (97<=c) && decide (c<=122)) || (decide (65<=c) && decide (c<=90))
def ahk (c:Int):Bool:=PT c || (decide (c=95) || (decide (48<=c) && decide (c<=57)))
def ahl (i:Nat)(c:Int):Bool:=if i=0 then PT c else ahk c
def AD:ah->Nat->Bool
 | [],_=>true
 | b::r,i=>ahl i b.toNat && AD r (i+1)
def isName (s:ah):Bool:=AD s 0 && decide (0<s.length) && decide (s.length<=24)
theorem ahm (hft:M.FT=FT)(a:ah):aS M 72 [.vs [.str a] 1 cap] [] ⟨.bool (decide (a.length<=60)),[],[]⟩:=by
 refine bC (by rw[hft];exact agr) (by simp) ?_;unfold Pp;simp only[enter];by_cases h:a.length<=60
 . rw[decide_eq_true h];repeat' first|refine gc ?_|fail
   refine W.loop ?_;unfold Gc;refine gg7 ?_;refine fQ (W.loop ?_);exact gg0
 . rw[decide_eq_false h];repeat' first|refine gc ?_|fail
   refine W.loop ?_;unfold Gc;exact gg2
theorem QR {h:ab}{b:Nat}{a:ah}{e:TypeId}{cp:Option Nat}(hb:h.at b=some (.cells [.str a] e)):cO h (.sl b 0 1 1 cp) (.vs [.str a] 1 none):=
 .sl (m:=[.str a]) hb rfl rfl fun i x y hx hy=>by
  match i,hx,hy with
  | 0,hx,hy=>cases hx;cases hy;exact .atom rfl
def fP (p:ah×ah):List AV:=[.str p.1,.str p.2]
theorem ahn {x y:Int}(h:bM x=bM y):x=y:=by
 have h1:=pq (x:Rat);have h2:=pq (y:Rat);have c1:=qS (x:Rat);have c2:=qS (y:Rat);rw[uc,Rat.num_intCast,Rat.den_intCast,if_pos rfl]at c1 c2;rw[h]at c1;have e1:decide (x<0)=decide (y<0):=c1.1.symm.trans c2.1;have e2:=Lv (c1.2.symm.trans c2.2);rw[decide_eq_decide]at e1;unfold aj at e2;split at e2 <;> split at e2 <;> omega
theorem aho {p q:Rat}(h:ao p=ao q):p=q:=by
 obtain⟨_,_,_,_,_,e1⟩:=pq p;obtain⟨_,_,_,_,_,e2⟩:=pq q;rw[h,e2,Prod.mk.injEq]at e1;obtain⟨h1,h2⟩:=e1;have hn:=ahn h1;have hd:q.den=p.den:=by
  split at h2 <;> split at h2
  . omega
  . cases h2
  . cases h2
  . exact Lv (Option.some.inj h2)
 exact Rat.ext hn.symm hd.symm
noncomputable def aX (s:ah):Rat:=Classical.epsilon fun q=>s=ao q
theorem ahp (q:Rat):aX (ao q)=q:=
 (aho (Classical.epsilon_spec (p:=fun p=>ao q=ao p) ⟨q,rfl⟩)).symm
theorem kh {s:ah}{k:Nat}(h:cw s=0)(hl:s.length<=k):s=ao (aX s)/\Dq k (aX s):=by
 obtain⟨q,rfl,hq⟩:=ado h hl;rw[ahp];exact⟨rfl,hq⟩
def lZ (n b:Nat)(t:List (ah×ah)):Bool:=(t.take (n+1)).all (fun p=>decide (p.1.length<=b/\p.2.length<=b)) && decide (t.length<=n)
noncomputable def db (t:List (ah×ah))(i:Nat):Int:=
 if cw t[i]!.1≠0 then cw t[i]!.1 else if cw t[i]!.2≠0 then cw t[i]!.2 else if 0<i/\cZ (aX t[i]!.1) (aX t[i-1]!.1)<=0 then 11 else 0
noncomputable def iO (t:List (ah×ah)):Nat->Nat->Int
 | 0,_=>0
 | r+1,i=>if db t i≠0 then db t i else iO t r (i+1)
noncomputable def fg (t:List (ah×ah)):Int:=if t.length=0 then 12 else if 64<t.length then 5 else iO t t.length 0
noncomputable def jG (t:List (ah×ah))(x:Rat):Nat->Nat->Rat
 | 0,_=>aX t[t.length-1]!.2
 | r+1,i=>if 0<cZ x (aX t[i]!.1) then jG t x r (i+1) else if i=0 then aX t[0]!.2 else
   aX t[i-1]!.2+(x-aX t[i-1]!.1)*(aX t[i]!.1-aX t[i-1]!.1)⁻¹*(aX t[i]!.2-aX t[i-1]!.2)
noncomputable def nt (t:List (ah×ah))(x:Rat):Rat:=jG t x t.length 0
theorem GA {t:List (ah×ah)}:∀{i n:Nat},i<=n->(∀k,k<i->db t k=0)->iO t n 0=iO t (n-i) i
 | 0,_,_,_=>rfl
 | i+1,n,h,ha=>by
  have ih:=GA (i:=i) (n:=n) (by omega) fun k hk=>ha k (by omega)
  have:=ha i (by omega);rw[ih,show n-i=n-(i+1)+1 by omega,iO,if_neg (by omega)]
theorem PU {t:List (ah×ah)}{i n:Nat}(h:i<n)(ha:∀k,k<i->db t k=0)(hi:db t i≠0):iO t n 0=db t i:=by
 rw[GA (by omega) ha,show n-i=n-(i+1)+1 by omega,iO,if_pos hi]
theorem PV {t:List (ah×ah)}{n:Nat}(ha:∀k,k<n->db t k=0):iO t n 0=0:=by
 rw[GA (Nat.le_refl _) ha,Nat.sub_self,iO]
theorem nu {t:List (ah×ah)}{i:Nat}(h:db t i=0):cw t[i]!.1=0/\cw t[i]!.2=0/\(0<i->0<cZ (aX t[i]!.1) (aX t[i-1]!.1)):=by
 unfold db at h;split at h
 . exact absurd h (by assumption)
 . split at h
   . exact absurd h (by assumption)
   . split at h
     . omega
     . refine⟨by omega,by omega,fun h0=>?_⟩;rename_i hn;omega
def PW:an:=zR [⟨.p 2,.mv (.c (.bool false)),none⟩] (.seq (zR [⟨.l 8,.call (kF 18) [],none⟩,zu 9 8,zn 10 9,zg (zm 11 0) 10 false,⟨.l 12,.call (kF 71) [(.l 11),(kI 70),(kI 60)],some ((.l 10),false)⟩,zg (zu 13 12) 10 false,zP 14 10 13,zn 15 14,zg (zm 16 1) 15 false,⟨.l 17,.dQ 75 1 1 [.str []] [(0,1,(.l 16))],some ((.l 15),false)⟩,zg (z1 18 72 17) 15 false,zg (zu 19 18) 15 false,zP 20 15 19] (.cond (.l 20) (zR [⟨.l 21,.call (kF 18) [],none⟩,zw 2 21] (.ret)) (.skip))) (zR [zm 22 0,z1 23 73 22,zw 3 23] (.seq (zR [zm 24 0,z1 25 74 24,zm 26 3,zb 27 .neq 25 26] (.cond (.l 27) (zR [⟨.p 2,.mv (.c (.bool false)),none⟩] (.ret)) (.skip))) (zR [zm 29 0,zm 30 1,z2 31 61 29 30,zn 28 31,ze 32 0 28,ze 33 1 28,zw 4 32,zw 5 33] (zR [zm 34 3,zm 35 1,z1 36 62 35,⟨.l 37,.dQ 3 2 1 [.iV (0)] [(0,1,(.l 34)),(1,1,(.l 36))],none⟩,z1 38 24 37,zw 3 38] (.seq (zR [zm 39 3,zc 40 .neq 39 0] (.cond (.l 40) (zR [zm 41 4,zm 42 5,zm 43 3,⟨.l 44,.call (kF 75) [(.l 41),(.l 42),(.l 43),(.c (.str []))],none⟩,zw 2 44] (.ret)) (.skip))) (zR [zm 45 4,zm 46 5,zm 47 0,zm 48 1,z2 49 76 47 48,⟨.l 50,.call (kF 75) [(.l 45),(.l 46),(kI 0),(.l 49)],none⟩,zw 2 50] (.ret))))))))
theorem ahq:FT 14=some ⟨51,[0,1,4,5,6,7],[.var (.p 2)],PW⟩:=by kernel_rfl
def rj:an:=zR [⟨.p 2,.mv (.c (.str [])),none⟩,zi 3 0] (zR [zm 14 0,z1 15 145 14,zn 13 15,ze 16 0 13,ze 17 1 13,zw 4 16,zw 5 17] (.seq (zR [zm 18 5,zm 19 1,z1 20 84 19,⟨.l 21,.dQ 25 2 1 [.iV (0)] [(0,1,(.l 18)),(1,1,(.l 20))],none⟩,z1 22 96 21,zw 5 22] (zR [zm 23 5,zc 24 .neq 23 0] (.cond (.l 24) (zR [zm 25 5,⟨.p 2,.mv (.c (.str [])),none⟩,zw 3 25] (.ret)) (.skip)))) (zR [zm 26 1,z1 27 103 26,⟨.p 6,.alloc 133 [.iV (0),.aa,.iV (0),.aa],none⟩,zs 4 6 27] (zR [zm 28 4,⟨.l 29,.ru (.func 147) [] [(.p 6)],none⟩,z2 30 146 28 29,zw 7 30] (.seq (zR [⟨.p 11,.mv (.p 7),none⟩] (.block 0 (zR [zq 33 .eql 11 (-1),zn 32 33] (.cond (.l 32) (zR [zm 34 4,zm 35 4,zl 36 35,zc 37 .sub 36 1,za 38 8 34 37,⟨.l 39,.dH 4 (.l 38),none⟩,zT 40 4 39,z1 41 105 40,ze 42 0 41,ze 43 1 41,zw 2 42,zw 3 43] (.ret)) (zR [zq 45 .eql 11 0,zn 44 45] (.cond (.l 44) (zR [zm 46 4,⟨.l 47,.du none 8 (.l 46) (kI 0),none⟩,⟨.l 48,.dH 4 (.l 47),none⟩,zT 49 4 48,z1 50 105 49,ze 51 0 50,ze 52 1 50,zw 2 51,zw 3 52] (.ret)) (.skip))))))) (.seq (.draw [(zm 53 4,[]),(zm 54 7,[0]),(zc 55 .sub 54 1,[0]),(za 56 8 53 55,[]),(zT 57 8 56,[]),(zm 58 4,[0,1,2,3,4]),(zm 59 7,[0,1,2,3,4,5]),(za 60 8 58 59,[0,1,2,3,4]),(zT 61 8 60,[0,1,2,3,4]),(⟨.p 8,.alloc 175 [.iV (0),.aa,.iV (0),.aa,.iV (0),.aa,.iV (0),.aa],none⟩,[0,1,2,3,4,5,6,7,8]),(⟨.p 9,.alloc 175 [.iV (0),.aa,.iV (0),.aa,.iV (0),.aa,.iV (0),.aa],none⟩,[0,1,2,3,4,5,6,7,8,9]),(zs 8 8 57,[5,6,7,8]),(zs 8 9 61,[])]) (.seq (.draw [(zt 62 4 6,[]),(zf 63 0 8,[0]),(zT 64 4 63,[0]),(z2 65 149 62 64,[]),(zf 66 0 9,[0,1,2,3]),(zT 67 4 66,[0,1,2,3]),(zf 68 0 8,[0,1,2,3,4,5]),(zT 69 4 68,[0,1,2,3,4,5]),(z2 70 149 67 69,[]),(z2 71 150 65 70,[]),(⟨.p 10,.alloc 133 [.iV (0),.aa,.iV (0),.aa],none⟩,[0,1,2,3,4,5,6,7,8,9]),(zs 4 10 71,[])]) (.seq (.draw [(zf 72 4 8,[]),(zT 73 4 72,[]),(zt 74 4 10,[0,1]),(zf 75 4 9,[0,1,2]),(zT 76 4 75,[0,1,2]),(zf 77 4 8,[0,1,2,3,4]),(zT 78 4 77,[0,1,2,3,4]),(z2 79 149 76 78,[0,1,2]),(z2 80 152 74 79,[0,1]),(z2 81 151 73 80,[]),(z1 82 105 81,[]),(ze 83 0 82,[]),(ze 84 1 82,[11]),(zw 2 83,[]),(zw 3 84,[])]) (.ret)))))))))
theorem ahr:FT 61=some ⟨85,[0,1,4,5,6,7,8,9,10,11,12,31],[.var (.p 2),.var (.p 3)],rj⟩:=by kernel_rfl
def GB:an:=zR [zi 1 0] (zR [zm 6 0,z1 7 145 6,zn 5 7,ze 8 0 5,ze 9 1 5,zn 3 8,zw 2 9] (zR [zm 10 2,zw 1 10] (.ret)))
theorem ahs:FT 74=some ⟨11,[0,2,4],[.var (.p 1)],GB⟩:=by kernel_rfl
def t145:an:=.seq (.draw [(zm 48 5,[]),(zc 49 .gtr 48 0,[]),(zn 50 49,[]),(zg (zm 51 4) 50 true,[]),(zg (zm 52 5) 50 true,[3]),(zg (zc 53 .sub 52 1) 50 true,[3]),(zg (za 54 8 51 53) 50 true,[]),(⟨.l 55,.dH 0 (.l 54),some ((.l 50),true)⟩,[]),(zg (zT 56 4 55) 50 true,[]),(zg (zm 57 4) 50 true,[3,4,5,6,7,8]),(zg (zm 58 5) 50 true,[3,4,5,6,7,8,9]),(zg (za 59 8 57 58) 50 true,[3,4,5,6,7,8]),(⟨.l 60,.dH 0 (.l 59),some ((.l 50),true)⟩,[3,4,5,6,7,8]),(zg (zT 61 4 60) 50 true,[3,4,5,6,7,8]),(zg (z2 62 148 56 61) 50 true,[]),(zg (zc 63 .geq 62 0) 50 true,[]),(zp 64 50 63,[])]) (.cond (.l 64) (zR [⟨.p 1,.mv (.c (.aa)),none⟩,zi 2 11] (.ret)) (.skip))
def pr:an:=zR [zr 25 .lss 10 9] (.seq (.cond (.l 25) (.skip) (.exit 0)) (.seq (.block 1 (zR [zm 26 10,⟨.l 27,.du none 2 (.p 8) (.p 10),none⟩,zT 28 2 27,⟨.p 6,.alloc 91 [.str [],.str []],none⟩,zw 5 26,zs 2 6 28] (.seq (zR [zf 29 0 6,zd 30 1 29,zf 31 1 6,zd 32 1 31,⟨.l 33,.dQ 75 2 1 [.str []] [(0,1,(.l 30)),(1,1,(.l 32))],none⟩,z1 34 101 33,zw 7 34] (zR [zm 35 7,zc 36 .neq 35 0] (.cond (.l 36) (zR [zm 37 7,⟨.p 1,.mv (.c (.aa)),none⟩,zw 2 37] (.ret)) (.skip)))) (.seq (.draw [(zm 38 4,[]),(zf 39 0 6,[0]),(zd 40 1 39,[0]),(z1 41 103 40,[0]),(zf 42 1 6,[0,1,2,3]),(zd 43 1 42,[0,1,2,3]),(z1 44 103 43,[0]),(⟨.l 45,.build [.iV (0),.aa,.iV (0),.aa,.iV (0),.aa,.iV (0),.aa] [(0,4,(.l 41)),(4,4,(.l 44))],none⟩,[0]),(⟨.l 46,.dQ 175 1 8 [.iV (0),.aa,.iV (0),.aa,.iV (0),.aa,.iV (0),.aa] [(0,8,(.l 45))],none⟩,[0]),(⟨.l 47,.append 175 8 128 (.l 38) (.l 46),none⟩,[]),(zw 4 47,[])])
        t145)))) (.region [zq 65 .add 10 1,zw 10 65])))
def PX:an:=zR [⟨.p 1,.mv (.c (.aa)),none⟩,zi 2 0] (.seq (zR [zm 9 0,zl 10 9,zc 11 .eql 10 0,⟨.l 12,.call (kF 97) [(.l 11),(kI 12)],none⟩,zm 13 0,zl 14 13,zc 15 .gtr 14 64,⟨.l 16,.call (kF 97) [(.l 15),(kI 5)],none⟩,⟨.l 17,.dQ 25 2 1 [.iV (0)] [(0,1,(.l 12)),(1,1,(.l 16))],none⟩,z1 18 96 17,zw 3 18] (zR [zm 19 3,zc 20 .neq 19 0] (.cond (.l 20) (zR [zm 21 3,⟨.p 1,.mv (.c (.aa)),none⟩,zw 2 21] (.ret)) (.skip)))) (zR [⟨.p 4,.mv (.c (.aa)),none⟩] (.seq (zR [⟨.p 8,.mv (.p 0),none⟩,⟨.p 9,.len .sl (.p 8),none⟩,zi 10 0] (.block 0 (.loop pr))) (zR [zm 66 4,zw 1 66,zi 2 0] (.ret)))))
theorem aht:FT 145=some ⟨67,[0,2,3,4,5,6,7,8,22,23,24],[.var (.p 1),.var (.p 2)],PX⟩:=by kernel_rfl
def PY:an:=zR [zx 2 175 8 0,⟨.p 3,.mv (.c (.bool false)),none⟩] (zR [zt 4 4 1,zf 5 0 2,zT 6 4 5,z2 7 148 4 6,zc 8 .leq 7 0,zw 3 8] (.ret))
theorem ahu:FT 147=some ⟨9,[0,1,2,3],[.var (.p 3)],PY⟩:=by kernel_rfl
def Ac:an:=.seq (zR [zm 8 4,zm 9 0,zl 10 9,zb 11 .lss 8 10,zn 12 11,zg (zm 13 4) 12 true,zg (zm 14 1) 12 true,zg (zb 15 .leq 13 14) 12 true,zp 16 12 15] (.cond (.l 16) (.skip) (.exit 0))) (.seq (.block 1 (zR [zm 19 0,zm 20 4,za 21 2 19 20,⟨.l 22,.dH 0 (.l 21),none⟩,zd 23 1 22,zL 24 23,zm 25 2,zb 26 .gtr 24 25,zn 27 26,zg (zm 28 0) 27 false,zg (zm 29 4) 27 false,zg (za 30 2 28 29) 27 false,⟨.l 31,.dH 1 (.l 30),some ((.l 27),false)⟩,zg (zd 32 1 31) 27 false,zg (zL 33 32) 27 false,zg (zm 34 2) 27 false,zg (zb 35 .gtr 33 34) 27 false,zP 36 27 35] (.cond (.l 36) (zR [⟨.p 3,.mv (.c (.bool false)),none⟩] (.ret)) (.skip)))) (.region [zm 17 4,zc 18 .add 17 1,zw 4 18]))
def GC:an:=zR [⟨.p 3,.mv (.c (.bool false)),none⟩] (.seq (zR [zi 4 0] (.block 0 (.loop Ac))) (zR [zm 37 0,zl 38 37,zm 39 1,zb 40 .leq 38 39,zw 3 40] (.ret)))
theorem ahv:FT 71=some ⟨41,[0,1,2,6,7],[.var (.p 3)],GC⟩:=by kernel_rfl
def pt:an:=.seq (zR [zm 12 2,zm 13 0,zl 14 13,zb 15 .lss 12 14] (.cond (.l 15) (.skip) (.exit 0))) (.seq (.block 1 (.seq (zR [zm 18 0,zm 19 2,za 20 2 18 19,⟨.l 21,.dH 0 (.l 20),none⟩,zd 22 1 21,z1 23 62 22,zw 3 23] (zR [zm 24 3,zc 25 .neq 24 0] (.cond (.l 25) (zR [zm 26 3,zw 1 26] (.ret)) (.skip)))) (.seq (zR [zm 27 0,zm 28 2,za 29 2 27 28,⟨.l 30,.dH 1 (.l 29),none⟩,zd 31 1 30,z1 32 62 31,zw 4 32] (zR [zm 33 4,zc 34 .neq 33 0] (.cond (.l 34) (zR [zm 35 4,zw 1 35] (.ret)) (.skip)))) (.seq (.draw [(zm 36 2,[]),(zc 37 .gtr 36 0,[]),(zn 38 37,[]),(zg (zm 39 0) 38 true,[]),(zg (zm 40 2) 38 true,[3]),(zg (za 41 2 39 40) 38 true,[]),(⟨.l 42,.dH 0 (.l 41),some ((.l 38),true)⟩,[]),(zg (zd 43 1 42) 38 true,[]),(zg (zm 44 0) 38 true,[3,4,5,6,7]),(zg (zm 45 2) 38 true,[3,4,5,6,7,8]),(zg (zc 46 .sub 45 1) 38 true,[3,4,5,6,7,8]),(zg (za 47 2 44 46) 38 true,[3,4,5,6,7]),(⟨.l 48,.dH 0 (.l 47),some ((.l 38),true)⟩,[3,4,5,6,7]),(zg (zd 49 1 48) 38 true,[3,4,5,6,7]),(zg (z2 50 55 43 49) 38 true,[]),(zg (zc 51 .leq 50 0) 38 true,[]),(zp 52 38 51,[])]) (.cond (.l 52) (zR [zi 1 11] (.ret)) (.skip)))))) (.region [zm 16 2,zc 17 .add 16 1,zw 2 17]))
def GD:an:=zR [zi 1 0] (.seq (zR [zm 6 0,zl 7 6,zc 8 .eql 7 0] (.cond (.l 8) (zR [zi 1 12] (.ret)) (.skip))) (.seq (zR [zm 9 0,zl 10 9,zc 11 .gtr 10 64] (.cond (.l 11) (zR [zi 1 5] (.ret)) (.skip))) (.seq (zR [zi 2 0] (.block 0 (.loop pt))) (zR [zi 1 0] (.ret)))))
theorem ahw:FT 73=some ⟨53,[0,2,3,4,5],[.var (.p 1)],GD⟩:=by kernel_rfl
def um:an:=.seq (zR [zm 7 3,zm 8 0,zl 9 8,zb 10 .lss 7 9] (.cond (.l 10) (.skip) (.exit 0))) (.seq (.block 1 (.seq (zR [zm 13 1,zm 14 0,zm 15 3,za 16 2 14 15,⟨.l 17,.dH 0 (.l 16),none⟩,zd 18 1 17,z2 19 55 13 18,zc 20 .gtr 19 0] (.cond (.l 20) (.exit 1) (.skip))) (.seq (zR [zm 21 3,zc 22 .eql 21 0] (.cond (.l 22) (zR [zm 23 0,⟨.l 24,.du none 2 (.l 23) (kI 0),none⟩,⟨.l 25,.dH 1 (.l 24),none⟩,zd 26 1 25,zw 2 26] (.ret)) (.skip))) (.seq (.draw [(zm 27 1,[]),(zm 28 0,[0]),(zm 29 3,[0,1]),(zc 30 .sub 29 1,[0,1]),(za 31 2 28 30,[0]),(⟨.l 32,.dH 0 (.l 31),none⟩,[0]),(zd 33 1 32,[0]),(z2 34 57 27 33,[]),(zm 35 0,[0,1,2,3,4,5,6,7]),(zm 36 3,[0,1,2,3,4,5,6,7,8]),(za 37 2 35 36,[0,1,2,3,4,5,6,7]),(⟨.l 38,.dH 0 (.l 37),none⟩,[0,1,2,3,4,5,6,7]),(zd 39 1 38,[0,1,2,3,4,5,6,7]),(zm 40 0,[0,1,2,3,4,5,6,7,8,9,10,11,12]),(zm 41 3,[0,1,2,3,4,5,6,7,8,9,10,11,12,13]),(zc 42 .sub 41 1,[0,1,2,3,4,5,6,7,8,9,10,11,12,13]),(za 43 2 40 42,[0,1,2,3,4,5,6,7,8,9,10,11,12]),(⟨.l 44,.dH 0 (.l 43),none⟩,[0,1,2,3,4,5,6,7,8,9,10,11,12]),(zd 45 1 44,[0,1,2,3,4,5,6,7,8,9,10,11,12]),(z2 46 57 39 45,[]),(z2 47 52 34 46,[]),(zw 4 47,[])]) (.seq (.draw [(zm 48 0,[]),(zm 49 3,[0]),(zc 50 .sub 49 1,[0]),(za 51 2 48 50,[]),(⟨.l 52,.dH 1 (.l 51),none⟩,[]),(zd 53 1 52,[]),(zm 54 4,[0,1,2,3,4,5]),(zm 55 0,[0,1,2,3,4,5,6]),(zm 56 3,[0,1,2,3,4,5,6,7]),(za 57 2 55 56,[0,1,2,3,4,5,6]),(⟨.l 58,.dH 1 (.l 57),none⟩,[0,1,2,3,4,5,6]),(zd 59 1 58,[0,1,2,3,4,5,6]),(zm 60 0,[0,1,2,3,4,5,6,7,8,9,10,11]),(zm 61 3,[0,1,2,3,4,5,6,7,8,9,10,11,12]),(zc 62 .sub 61 1,[0,1,2,3,4,5,6,7,8,9,10,11,12]),(za 63 2 60 62,[0,1,2,3,4,5,6,7,8,9,10,11]),(⟨.l 64,.dH 1 (.l 63),none⟩,[0,1,2,3,4,5,6,7,8,9,10,11]),(zd 65 1 64,[0,1,2,3,4,5,6,7,8,9,10,11]),(z2 66 57 59 65,[0,1,2,3,4,5,6]),(z2 67 53 54 66,[0,1,2,3,4,5]),(z2 68 90 53 67,[]),(zw 2 68,[])]) (.ret)))))) (.region [zm 11 3,zc 12 .add 11 1,zw 3 12]))
def GF:an:=zR [⟨.p 2,.mv (.c (.str [])),none⟩] (.seq (zR [zi 3 0] (.block 0 (.loop um))) (zR [zm 69 0,zm 70 0,zl 71 70,zc 72 .sub 71 1,za 73 2 69 72,⟨.l 74,.dH 1 (.l 73),none⟩,zd 75 1 74,zw 2 75] (.ret)))
theorem ahx:FT 76=some ⟨76,[0,1,4,5,6],[.var (.p 2)],GF⟩:=by kernel_rfl
theorem w71 (hft:M.FT=FT)(t:List (ah×ah))(n b:Nat)(hn:n<1000000):aS M 71 [.vs (arr fP t) t.length cap,.iV n,.iV b] [] ⟨.bool (lZ n b t),[],[]⟩:=by
 refine bC (by rw[hft];exact ahv) (by simp) ?_;show W M GC _ (nj _ _);unfold GC;simp only[enter];repeat' first|refine gc ?_|fail
 refine W.gI (min t.length (n+1)) (fun i s=>∃lo wr,s=⟨⟨[.vs (arr fP t) t.length cap,.iV n,.iV b,.bool false,.iV i],lo,[],[]⟩,wr⟩/\∀k,k<i->t[k]!.1.length<=b/\t[k]!.2.length<=b) (fun i s hi ⟨lo,wr,hs,ha⟩=>?_) (fun s ⟨lo,wr,hs,ha⟩=>?_) (Nat.zero_le _) ⟨_,_,rfl,fun k hk=>absurd hk (Nat.not_lt_zero k)⟩
 . subst hs;have iz:i<t.length:=by omega
   by_cases hb:t[((i:Int)).toNat]!.1.length<=b/\t[((i:Int)).toNat]!.2.length<=b
   . have ha':∀k,k<i+1->t[k]!.1.length<=b/\t[k]!.2.length<=b:=fun k hk=>by
      rcases Nat.lt_or_eq_of_le (Nat.le_of_lt_succ hk) with h|h
      . exact ha k h
      . rw[h];exact hb
     unfold Ac;exact gg5
   . have hf:lZ n b t=false:=by
      unfold lZ;rw[Bool.and_eq_false_iff];left;rw[List.all_eq_false];refine⟨t[i]!,?_,by simpa using hb⟩;rw[getElem!_pos t i iz,List.mem_take_iff_getElem];exact⟨i,by omega,rfl⟩
     rw[hf];unfold Ac;exact gg5
 . subst hs;have hall:(t.take (n+1)).all (fun p=>decide (p.1.length<=b/\p.2.length<=b))=true:=by
    rw[List.all_eq_true];intro p hp;obtain⟨i,hi,rfl⟩:=List.mem_take_iff_getElem.1 hp;have:=ha i (by omega);rw[getElem!_pos t i (by omega)]at this;exact decide_eq_true this
   have hv:lZ n b t=decide (t.length<=n):=by unfold lZ;rw[hall];rfl
   rw[hv];unfold Ac;by_cases hn:t.length<=n
   . rw[decide_eq_true hn];exact gg10
   . rw[decide_eq_false hn];exact gg10
structure rk (M:aw):Prop where
 ft:M.FT=FT
 rl:∀(s:ah) h,s.length<=60->M.ext 62 [.str s] h=some ⟨.iV (cw s),h,[]⟩
 PZ:∀p q h,Dq 201 p->Dq 201 q->M.ext 55 [.str (ao p),.str (ao q)] h=some ⟨.iV (cZ p q),h,[]⟩
 Ad:∀p q h,Dq 201 p->Dq 201 q->M.ext 57 [.str (ao p),.str (ao q)] h=some ⟨.str (ao (p-q)),h,[]⟩
 Qa:∀p q h,Dq 201 p->Dq 201 q->q≠0->M.ext 52 [.str (ao p),.str (ao q)] h=some ⟨.str (ao (p*q⁻¹)),h,[]⟩
 Qb:∀p q h,Dq 425 p->Dq 425 q->M.ext 53 [.str (ao p),.str (ao q)] h=some ⟨.str (ao (p*q)),h,[]⟩
 Qc:∀p q h,Dq 425 p->Dq 425 q->M.ext 90 [.str (ao p),.str (ao q)] h=some ⟨.str (ao (p+q)),h,[]⟩
def iF (t:List (ah×ah)):Prop:=∀i,i<t.length->t[i]!.1.length<=60/\t[i]!.2.length<=60
theorem rk.cmp (C:rk M){a b:ah}(ha:cw a=0)(hb:cw b=0)(la:a.length<=60)(lb:b.length<=60):∀h,M.ext 55 [.str a,.str b] h=some ⟨.iV (cZ (aX a) (aX b)),h,[]⟩:=fun h=>by
 obtain⟨e1,d1⟩:=kh ha la;obtain⟨e2,d2⟩:=kh hb lb;have:=C.PZ _ _ h (d1.mono (by decide)) (d2.mono (by decide));rw[←e1,←e2]at this;exact this
theorem w73 (C:rk M)(t:List (ah×ah))(hl:t.length<1000000)(hS:iF t):aS M 73 [.vs (arr fP t) t.length cap] [] ⟨.iV (fg t),[],[]⟩:=by
 refine bC (by rw[C.ft];exact ahw) (by simp) ?_;show W M GD _ (nj _ _);unfold fg;unfold GD;simp only[enter];by_cases h0:t.length=0
 . rw[if_pos h0];exact gg6
 . rw[if_neg h0];by_cases h64:64<t.length
   . rw[if_pos h64];exact gg1
   . rw[if_neg h64];refine gg18 ?_;refine W.gI t.length (fun i s=>∃a3 a4 lo wr,s=⟨⟨[.vs (arr fP t) t.length cap,.iV 0,.iV i,a3,a4],lo,[],[]⟩,wr⟩/\∀k,k<i->db t k=0) (fun i s hi ⟨a3,a4,lo,wr,hs,ha⟩=>?_) (fun s ⟨a3,a4,lo,wr,hs,ha⟩=>?_) (Nat.zero_le _) ⟨_,_,_,_,rfl,fun k hk=>absurd hk (Nat.not_lt_zero k)⟩
     . subst hs;obtain⟨s1,s2⟩:=hS i hi;have q1:=fun h=>C.rl _ h s1
       have q2:=fun h=>C.rl _ h s2
       have iz:=PU hi ha;have ha':db t i=0->∀k,k<i+1->db t k=0:=fun he k hk=>by
        rcases Nat.lt_or_eq_of_le (Nat.le_of_lt_succ hk) with h|h
        . exact ha k h
        . rw[h];exact he
       have ei:((i:Int)).toNat=i:=by omega
       by_cases e1:cw t[i]!.1=0
       . by_cases e2:cw t[i]!.2=0
         . rw[e1]at q1;rw[e2]at q2;rcases Nat.eq_zero_or_pos i with rfl|hp
           . have hz:db t 0=0:=by unfold db;rw[if_neg (by omega),if_neg (by omega),if_neg (by omega)]
             have q1':∀h,M.ext 62 [.str t[(((0:Nat):Int)).toNat]!.1] h=some ⟨.iV 0,h,[]⟩:=q1;have q2':∀h,M.ext 62 [.str t[(((0:Nat):Int)).toNat]!.2] h=some ⟨.iV 0,h,[]⟩:=q2;unfold pt;exact gg2
           . have hprev:=nu (ha (i-1) (by omega));have q3:=C.cmp e1 hprev.1 s1 (hS (i-1) (by omega)).1;have ej:((i:Int)-1).toNat=i-1:=by omega
             have hv:db t i=if cZ (aX t[i]!.1) (aX t[i-1]!.1)<=0 then 11 else 0:=by
              unfold db;rw[if_neg (by omega),if_neg (by omega)];simp only[hp,true_and]
             rw[hv]at iz ha';generalize cZ (aX t[i]!.1) (aX t[i-1]!.1)=c at *
             have q3:∀h,M.ext 55 [.str t[((i:Int)).toNat]!.1,.str t[((i:Int)-1).toNat]!.1] h=some ⟨.iV c,h,[]⟩:=by rw[ei,ej];exact q3
             rw[←ei]at q1 q2;by_cases hc:c<=0
             . rw[if_pos hc]at iz;rw[iz (by decide)];unfold pt;exact gg5
             . rw[if_neg hc]at ha';unfold pt;exact gg5
         . have hv:db t i=cw t[i]!.2:=by unfold db;rw[if_neg (by omega),if_pos e2]
           rw[iz (by rw[hv];exact e2),hv];rw[e1]at q1;generalize cw t[i]!.2=z at *
           rw[←ei]at q1 q2;unfold pt;exact gg2
       . have hv:db t i=cw t[i]!.1:=by unfold db;rw[if_pos e1]
         rw[iz (by rw[hv];exact e1),hv];generalize cw t[i]!.1=z at *
         rw[←ei]at q1;unfold pt;exact gg2
     . subst hs;rw[PV ha];unfold pt;exact gg0
end Go.Ab.Ch1
