/-
  Own work: the reference's integers: quotient and rest: the whole function.
-/
import Derived.Test.YtcjphdmkgmkabaaGreatDoorLib9
import Derived.Test.YtcjphdmkgmkabaaGreatDoorLib7
import Derived.Test.YtcjphdmkgmkabaaGreatDoorLib8
import Derived.Test.YtcjphdmkgmkabaaGreatDoorCh1Base
import Derived.Test.YtcjphdmkgmkabaaGreatDoorLib6
set_option maxHeartbeats 8000000
set_option maxRecDepth 20000
namespace Go.Ab.Ch1
open Go.Ab.aR
variable {M:ao} {cap c1 c2 cu cq:Option Nat}
theorem WS {a A:List Int}(la:a.length<1000000)(hA:A.length<=a.length+1){Q:Ex->al->Prop}{fb:bc}(a1 a2 a3 a4 a5 a6 a7 a8 aA aB aC aD aE aF aG aH aI aJ aK:AV)
 (hQ:∀o K lo wr,bP iC 1 3 K o (A++List.replicate (a.length+1-A.length) 0) [0]->ab.at K 0=some fb->Q (.exit 0) ⟨⟨[.vs (aj a) a.length c1,a1,a2,a3,a4,a5,a6,a7,a8,o,aA,aB,aC,aD,aE,aF,aG,aH,aI,aJ,aK],lo,K,[]⟩,wr⟩)
 (o:AV) (K:ab) (lo:List (Nat×AV)) (wr:List Nat) (ho:bP iC 1 3 K o A [0]) (hK:K.at 0=some fb) :
 W M (.loop uZ) ⟨⟨[.vs (aj a) a.length c1,a1,a2,a3,a4,a5,a6,a7,a8,o,aA,aB,aC,aD,aE,aF,aG,aH,aI,aJ,aK],lo,K,[]⟩,wr⟩ Q:=by
 refine W.fH (fun m st=>∃d o K lo wr,st=⟨⟨[.vs (aj a) a.length c1,a1,a2,a3,a4,a5,a6,a7,a8,o,aA,aB,aC,aD,aE,aF,aG,aH,aI,aJ,aK],lo,K,[]⟩,wr⟩/\A.length+d+m=a.length+1/\bP iC 1 3 K o (A++List.replicate d 0) [0]/\ab.at K 0=some fb)
  (fun m st ⟨d,o,K,lo,wr,hst,hm,ho,hK⟩=>?_) (m:=a.length+1-A.length) ⟨0,o,K,lo,wr,rfl,by omega,by simpa using ho,hK⟩
 subst hst;have hlen:(A++List.replicate d (0:Int)).length=A.length+d:=by simp
 have hsl:∃b cp,o = .ae/\A.length+d=0\/o = .sl b 0 (A++List.replicate d (0:Int)).length 1 cp:=by
  rcases ho with ⟨h1,h2⟩|⟨c,cp,_,h2,_,_⟩
  . exact⟨0,none,.inl ⟨h2,by rw[←hlen,h1];rfl⟩⟩
  . exact⟨c,cp,.inr h2⟩
 have hroom:((A++List.replicate d (0:Int)).length+1)*8<=dh:=by rw[hlen];unfold dh;omega
 have hK1:=dQ hK;have next:∀H o' lo w',bP iC 1 3 H o' (A++List.replicate d 0++[0]) [0]->ab.at H 0=some fb->0<m->LI (fun st=>∃m',m'<m/\∃d o K lo wr,st=⟨⟨[.vs (aj a) a.length c1,a1,a2,a3,a4,a5,a6,a7,a8,o,aA,aB,aC,aD,aE,aF,aG,aH,aI,aJ,aK],lo,K,[]⟩,wr⟩/\A.length+d+m'=a.length+1/\bP iC 1 3 K o (A++List.replicate d 0) [0]/\ab.at K 0=some fb) Q .normal ⟨⟨[.vs (aj a) a.length c1,a1,a2,a3,a4,a5,a6,a7,a8,o',aA,aB,aC,aD,aE,aF,aG,aH,aI,aJ,aK],lo,H,[]⟩,w'⟩:=fun H o' lo w' h1 h2 h3=>
  cL ⟨m-1,by omega,d+1,o',H,lo,w',rfl,by omega,by rw[List.append_assoc,←List.replicate_succ']at h1;exact h1,h2⟩
 have stop:∀lo wr,m=0->Q (.exit 0) ⟨⟨[.vs (aj a) a.length c1,a1,a2,a3,a4,a5,a6,a7,a8,o,aA,aB,aC,aD,aE,aF,aG,aH,aI,aJ,aK],lo,K,[]⟩,wr⟩:=fun lo wr h=>by
  have:d=a.length+1-A.length:=by omega
  subst this;exact hQ o K lo wr ho hK
 obtain⟨b,cp,⟨rfl,hz⟩|rfl⟩:=hsl
 . unfold uZ;exact gg22
 . unfold uZ;repeat' first|(refine bP.app (f:=iC) (m:=[(0:Int)]) (S:=[0]) (fun _=>rfl) (fun _=>rfl) (by decide) (ho.grow [_]) (by simp) rfl rfl (Sl.ir (f:=iC) (esz:=1) (l:=[(0:Int)]) (e:=3) (fun _=>rfl) cN rfl) hroom (fun H w' o' ho' hk hlen=>?_))|(apply aab;rfl;rfl)|refine gc ?_|(intro _;omega)|intro _
   all_goals try omega
   all_goals first|exact next _ _ _ _ ho' (hk 0 _ (by simp) (de hK)) (by omega)|exact stop _ _ (by omega)
theorem WT {h:ab}{b m:Nat}{U:List Int}{e:TypeId}(hb:h.at b=some (.cells (aj U) e))(hm:m<=U.length):cX h (bl b m none) (.vs (aj (U.take m)) (U.take m).length none):=by
 rcases Nat.eq_zero_or_pos m with rfl|h0
 . rw[qY];exact vn (l:=[]) (n:=0)
 . rw[show bl b m none = .sl b 0 m 1 none from if_pos h0];exact BL hb hm
theorem iF.mix {d1:Option Nat}{b1:Nat}{L1 R:List Int}{e1:TypeId}{hp:ab}{n1:Nat}(h1:hp.at b1=some (.cells (aj L1) e1))(hn1:n1<=L1.length) :
 iF (aQ [bl b1 (aL (L1.take n1)) d1,.vs (aj R) R.length none]) (if (aQ [bl b1 (aL (L1.take n1)) d1,.vs (aj R) R.length none]).top<=0 then [] else hp) (L1.take (aL (L1.take n1))) R:=by
 obtain⟨x,hx⟩:∃x,x=bl b1 (aL (L1.take n1)) d1:=⟨_,rfl⟩;obtain⟨hh,hhh⟩:∃hh,hh=(if (aQ [x,.vs (aj R) R.length none]).top<=0 then [] else hp):=⟨_,rfl⟩;have et:(aQ [x,.vs (aj R) R.length none]).top=max x.top (max (aY (aj R)) 0):=rfl;rw[fz]at et;obtain⟨v1,f1,t1,k1⟩:=BE (cap:=d1) h1 hn1 hh (fun h=>by rw[hhh,if_neg];rw[←hx]at h;omega);rw[←hx,←hhh];rw[←hx]at f1;refine⟨.aq [v1,.vs (aj R) R.length none],_,_,.aq rfl (fun i a b ha hb=>?_),?_,?_,.inl rfl,.inl rfl⟩
 . match i with
   | 0=>cases ha;cases hb;exact f1
   | 1=>cases ha;cases hb;exact .same (fz R)
   | i+2=>cases ha
 . show max v1.top (max (aY (aj R)) 0)=0;rw[t1,fz];rfl
 . simp only[bx,cB,k1,oH]
theorem iF.WU {d1:Option Nat}{b1:Nat}{L1 R:List Int}{e1:TypeId}{hp:ab}{n1:Nat}(h1:hp.at b1=some (.cells (aj L1) e1))(hn1:n1<=L1.length) :
 iF (aQ [.vs (aj R) R.length none,bl b1 (aL (L1.take n1)) d1]) (if (aQ [.vs (aj R) R.length none,bl b1 (aL (L1.take n1)) d1]).top<=0 then [] else hp) R (L1.take (aL (L1.take n1))):=by
 obtain⟨x,hx⟩:∃x,x=bl b1 (aL (L1.take n1)) d1:=⟨_,rfl⟩;obtain⟨hh,hhh⟩:∃hh,hh=(if (aQ [.vs (aj R) R.length none,x]).top<=0 then [] else hp):=⟨_,rfl⟩;have et:(aQ [.vs (aj R) R.length none,x]).top=max (aY (aj R)) (max x.top 0):=rfl;rw[fz]at et;obtain⟨v1,f1,t1,k1⟩:=BE (cap:=d1) h1 hn1 hh (fun h=>by rw[hhh,if_neg];rw[←hx]at h;omega);rw[←hx,←hhh];rw[←hx]at f1;refine⟨.aq [.vs (aj R) R.length none,v1],_,_,.aq rfl (fun i a b ha hb=>?_),?_,?_,.inl rfl,.inl rfl⟩
 . match i with
   | 0=>cases ha;cases hb;exact .same (fz R)
   | 1=>cases ha;cases hb;exact f1
   | i+2=>cases ha
 . show max (aY (aj R)) (max v1.top 0)=0;rw[t1,fz];rfl
 . simp only[bx,cB,k1,oH]
theorem Jc {L:List Int}{n:Nat}:L.take (aL (L.take n))=(L.take n).take (aL (L.take n)):=by
 have h:=gK (l:=L.take n);rw[List.length_take]at h;rw[List.take_take,Nat.min_eq_left (by omega)]
theorem adi {t:Nat}{x y:ax}{l:List aO}{pe:List AV}{lo:List (Nat×AV)}{hp:ab}{df wr:List Nat}{a d v:Int}{Q:al->Prop}(hx:(St.mk pe lo hp df).aa x=some (.iV a))(hy:(St.mk pe lo hp df).aa y=some (.iV d))(ha:0<=a/\a<9223372036854775808)(hd:0<d)(hv:a/d=v)
 (h:WO M l ⟨⟨pe,(t,.iV v)::lo,hp,df⟩,wr⟩ Q):WO M (⟨.l t,.bin .quo x y,none⟩::l) ⟨⟨pe,lo,hp,df⟩,wr⟩ Q:=by
 subst hv;exact abv hx hy ha hd h
theorem WX (C:Jb M)(a b:List Int)(oa:okW dB a)(ob:okW dB b)(na:aN a)(nb:aN b)(la:a.length<100000)(lb:b.length<100000)(hb:b≠[]):IN M 195 [.vs (aj a) a.length c1,.vs (aj b) b.length c2] (WV dB a) (WV dB b):=by
 have a0:=bT (b:=dB) (by decide) oa;have b0:=(iS (b:=dB) (by decide) ob nb).2 hb;have q218:=fun h=>C.rf a b c1 c2 h oa ob na nb (by omega) (by omega)
 refine Wo (by rw[C.ft];exact IF) (by simp) ?_;unfold Bz;simp only[enter];by_cases hlt:WV dB a<WV dB b
 . have e:aW (WV dB a-WV dB b) = -1:=if_pos (by omega);rw[e]at q218;repeat' first|(apply aab;rfl;rfl)|refine gd0 ?_|refine gc ?_|(intro _;omega)|intro _
   all_goals try omega
   exact⟨.inr rfl,rfl,_,rfl,[],a,⟨gH,iK,(Int.ediv_eq_zero_of_lt a0 hlt).symm⟩,⟨oa,na,(Int.emod_eq_of_lt a0 hlt).symm⟩,iF.less⟩
 obtain⟨g,hg⟩:∃g,g=aW (WV dB a-WV dB b):=⟨_,rfl⟩;have g0:0<=g:=by
  rw[hg];unfold aW;split
  . omega
  . split <;> omega
 rw[←hg]at q218;have lb0:b.length≠0:=fun h=>hb (List.eq_nil_of_length_eq_zero h)
 by_cases hl1:b.length=1
 . have t0:=mn nb (by omega);rw[hl1,show 1-1=0 by omega]at t0;have gb:=bL ob (i:=0) (by omega);have vb:WV dB b=b[0]! := by
    have:=iT (b:=dB) (l:=b) (n:=0) (by omega);simpa[WV] using this
   have gb2:0<b[0]! /\ b[0]! < 1000000000:=⟨by omega,gb.2⟩;obtain⟨Q,oQ,nQ,vQ,q241⟩:=C.BM (.vs (aj a) a.length c1) a c1 [] b[0]! vn oa (by omega) ⟨gb2.1,by omega⟩;have r0:=Int.emod_nonneg (WV dB a) (show b[0]! ≠ 0 by omega);have r1:=Int.emod_lt_of_pos (WV dB a) gb2.1;obtain⟨re,hre⟩:∃re,re=WV dB a%b[0]! := ⟨_,rfl⟩;rw[←hre]at q241 r0 r1;have e0:b[(0:Int).toNat]! = b[0]! := rfl;have q2:CT M (iY 242) [.sl 0 0 1 1 (some 1)] [some (.cells (aj [re]) 3)] ⟨bl 0 (aL ([re].take 1)) (some 1),[some (.cells (aj [re]) 3)],[]⟩:=mC (cap:=some 1) C.ft C.dr rfl Nat.zero_lt_one (Nat.le_refl _) (by decide) (fun c hc=>by cases hc;exact Nat.le_refl _);repeat' first|(apply aab;rfl;rfl)|(apply aak;rfl;rfl)|(apply aaJ;rfl;rfl;first|exact q218 _|exact q241)|(apply aaC;rfl;rfl;first|exact q2)|refine gc ?_|(intro _;omega)|intro _
   all_goals try omega
   have hout:=iF.WU (d1:=some 1) (b1:=0) (L1:=[re]) (R:=Q) (e1:=3) (hp:=[some (.cells (aj [re]) 3)]) (n1:=1) rfl (Nat.le_refl _);refine⟨.inr rfl,rfl,_,rfl,Q,_,⟨oQ,nQ,by rw[vQ,vb]⟩,?_,hout⟩;rw[List.take_of_length_le (show [re].length<=1 from Nat.le_refl _)];obtain⟨h1,h2,h3⟩:=mB (L:=[re]) (fun x hx=>by rw[List.mem_singleton.1 hx];exact⟨r0,by show _<(1000000000:Int);omega⟩);exact⟨h1,h2,by rw[h3,vb,←hre];simp[WV]⟩
 obtain⟨k,hk⟩:∃k,b.length=k+2:=⟨b.length-2,by omega⟩;have ha:k+2<=a.length:=by
  rcases Nat.lt_or_ge a.length (k+2) with h|h
  . exact absurd (mq (b:=dB) (by decide) oa ob nb (by omega)) hlt
  . exact h
 have ane:a≠[]:=fun e=>by rw[e]at ha;simp at ha
 have t0:=mn nb (by omega);rw[show b.length-1=k+1 by omega]at t0;have gt:=bL ob (i:=k+1) (by omega);obtain⟨t,ht⟩:∃t,t=b[k+1]! := ⟨_,rfl⟩;rw[←ht]at t0 gt;have gt:0<=t/\t<1000000000:=gt;have htb:b[((b.length:Int)-1).toNat]! = t:=by rw[show ((b.length:Int)-1).toNat=k+1 by omega];exact ht.symm
 obtain⟨f,hf⟩:∃f,f=1000000000/(t+1):=⟨_,rfl⟩;have hfe:=Int.mul_ediv_add_emod 1000000000 (t+1);rw[←hf]at hfe;obtain⟨f1,f2,f3⟩:=WM (t:=t) (f:=f) ⟨by omega,gt.2⟩ hfe ⟨Int.emod_nonneg _ (by omega),Int.emod_lt_of_pos _ (by omega)⟩;have f4:(t+1)*f<=1000000000:=by
  have:=Int.emod_nonneg 1000000000 (show t+1≠0 by omega);omega
 have of:okW dB [f]:=fun x hx=>by rw[List.mem_singleton.1 hx];exact⟨by omega,by show _<(1000000000:Int);omega⟩
 have vf:WV dB [f]=f:=by simp[WV]
 obtain⟨V,oV,nV,vV,q197b⟩:=C.oI (.vs (aj b) b.length c2) (.sl 0 0 1 1 (some 1)) b [f] c2 none [some (.cells (aj [f]) 3)] vn (BL (L:=[f]) (n:=1) (e:=3) rfl (Nat.le_refl _)) ob of (by omega) (by simp) (by omega);rw[vf]at vV;rw[ht]at f3 f4;obtain⟨lV,hvt⟩:=WN hk ob f1 f3 f4 oV nV vV;obtain⟨A,oA,nA,vA,q197a⟩:=C.oI (.vs (aj a) a.length c1) (.sl 0 0 1 1 (some 1)) a [f] c1 none [some (.cells (aj [f]) 3),some (.cells (aj []) 3)] vn (BL (L:=[f]) (n:=1) (e:=3) rfl (Nat.le_refl _)) oa of (by omega) (by simp) (by omega);rw[vf]at vA;obtain⟨Ane,lA⟩:=WR ⟨f1,f2⟩ oa na ane oA nA vA;rw[←ht]at f3 f4;have hroom:(([]:List Int).length+A.length)*8<=dh:=by rw[List.length_nil];unfold dh;omega
 have hfq:1000000000/(b[((b.length:Int)-1).toNat]! + 1)=f:=by rw[htb,hf]
 repeat' first|(apply adi (a:=1000000000) (v:=f);rfl;rfl;decide;(rw[htb];omega);exact hfq)|(refine bP.app (f:=iC) (m:=A) (acc:=[]) (S:=[0]) (hp:=[some (.cells (aj [f]) 3),some (.cells (aj []) 3)]) (fun _=>rfl) (fun _=>rfl) (by decide) (.inr ⟨1,some 0,by simp,rfl,rfl,.inr ⟨rfl,rfl⟩⟩) (by simp) rfl rfl (.inr (.inl ⟨_,rfl⟩)) hroom (fun H w' o' ho' hk' hlen=>?_))|(apply aab;rfl;rfl)|(apply aak;rfl;rfl)|(apply aaJ;rfl;rfl;first|exact q218 _|exact q197b|exact q197a)|refine gc ?_|(intro _;omega)|intro _
 all_goals try omega
 rw[List.nil_append]at ho';refine WS (c1:=c1) (fb:=.cells (aj [f]) 3) (by omega) lA _ _ _ _ _ _ _ _ _ _ _ _ _ _ _ _ _ _ _ (fun o K lo wr hoK hK0=>?_) _ _ _ _ ho' (hk' 0 _ (by simp) rfl);obtain⟨U0,hU0⟩:∃U0,U0=A++List.replicate (a.length+1-A.length) 0:=⟨_,rfl⟩;rw[←hU0]at hoK;have lU0:U0.length=a.length+1:=by rw[hU0];simp;omega
 have oU0:okW dB U0:=by rw[hU0];exact iu oA (jv (by decide))
 have vU0:WV dB U0=WV dB a*f:=by rw[hU0,fh,jx,Int.mul_zero,Int.add_zero,vA]
 rcases hoK with ⟨h1,_⟩|⟨bu,cp,hb0,rfl,hbu,hcap⟩
 . rw[h1]at lU0;simp at lU0
 obtain rfl:cp=none:=hcap.resolve_right fun h=>by rw[h.1]at lU0;simp at lU0
 have hb0:bu≠0:=fun e=>hb0 (by simp[e])
 have hbl:=dQ hbu;have hK0l:=dQ hK0;rw[lU0];repeat' first|refine gc ?_|fail
 all_goals try omega
 rw[show (((a.length+1:Nat):Int)-(V.length:Int)).toNat=a.length+1-(k+2) by omega];have hup:=WQ (f:=f) (by omega) ha oa hk ob nb lU0 oU0 vU0;rw[←vV]at hup;refine WL (c2:=none) (cu:=none) (cq:=some (a.length+1-(k+2))) (k:=k) (N:=a.length+1) (bu:=bu) (bq:=K.length) (bf:=0) (V:=V) (U0:=U0) (fb:=.cells (aj [f]) 3) C.toIZ (by omega) ⟨hb0,by omega⟩ (by omega) (by omega) lV oV hvt lU0 oU0 hup _ _ _ _ _ _ _ (fun U L K2 aC aD aE aF aG aH aI aJ aK lo wr lU oU lL oL hv hlU hK2u hK2q hK2f=>?_) _ _ _ _ _ _ _ _ _ _ _ _ (de hbu) cN (de hK0) _ (by omega);have lt:=cR (b:=dB) (by decide) oV;have hU0n:=bT (b:=dB) (by decide) oU;rw[vU0,vV]at hv;rw[vV]at hlU;obtain⟨d1,d2⟩:=GN (p:=f) (by omega) hv hU0n hlU;have q1:CT M (iY 242) [.sl bu 0 V.length 1 none] K2 ⟨bl bu (aL (U.take V.length)) none,K2,[]⟩:=mC (cap:=none) C.ft C.dr hK2u (by omega) (by omega) (by omega) (fun _ h=>by cases h);have q2:CT M (iY 242) [.sl K.length 0 (a.length+1-(k+2)) 1 (some (a.length+1-(k+2)))] K2 ⟨bl K.length (aL (L.take (a.length+1-(k+2)))) (some (a.length+1-(k+2))),K2,[]⟩:=mC (cap:=some (a.length+1-(k+2))) C.ft C.dr hK2q (by omega) (by omega) (by omega) (fun c hc=>by cases hc;exact Nat.le_refl _);have hm:=gK (l:=U.take V.length);rw[List.length_take]at hm;have hfrc:=WT hK2u (m:=aL (U.take V.length)) (by omega);have vT:WV dB (U.take (aL (U.take V.length)))=WV dB U:=by
  rw[Jc,ud];have e1:=jU (b:=dB) (l:=U) (i:=V.length) (by omega);have l0:=bT (b:=dB) (by decide) (cY oU V.length);have l1:=bT (b:=dB) (by decide) (hC oU V.length);have hP:0<dB^V.length:=Int.pow_pos (by decide);rcases Int.lt_or_le 0 (WV dB (U.drop V.length)) with h|h
  . have:=Int.mul_le_mul_of_nonneg_left (show 1<=WV dB (U.drop V.length) by omega) (Int.le_of_lt hP);rw[←vV]at hlU;omega
  . have z:WV dB (U.drop V.length)=0:=by omega
    rw[z,Int.mul_zero,Int.add_zero]at e1;exact e1.symm
 obtain⟨R,oR,nR,vR,q241⟩:=C.BM (bl bu (aL (U.take V.length)) none) (U.take (aL (U.take V.length))) none K2 f hfrc (cY oU _) (by rw[List.length_take];omega) ⟨by omega,by omega⟩;have vR:WV dB R=WV dB a%WV dB b:=by rw[vR,vT,d2,Int.mul_ediv_cancel_left _ (by omega)]
 repeat' first|(apply acg (r:=V.length) (k:=.i64);rfl;rfl;omega;omega;(intro c hc;cases hc))|(apply abB;rfl;rfl;rfl;exact q1)|(apply aaC;rfl;rfl;first|exact q1|exact q2)|(apply abM (L:=[f]) (v:=f);rfl;exact hK2f;exact Nat.zero_lt_one;rfl)|(apply abg;rfl;rfl;(first|(simp only[nca];rfl)|rfl);first|exact q241)|refine gc ?_|fail
 all_goals try omega
 have hout:=iF.mix (d1:=some (a.length+1-(k+2))) (b1:=K.length) (L1:=L) (R:=R) (e1:=3) (hp:=K2) (n1:=a.length+1-(k+2)) hK2q (by omega);refine⟨.inr rfl,rfl,_,rfl,_,_,?_,⟨oR,nR,vR⟩,hout⟩;rw[Jc,List.take_of_length_le (show L.length<=a.length+1-(k+2) by omega)];obtain⟨h1,h2,h3⟩:=mB oL;exact⟨h1,h2,by rw[h3,d1]⟩
theorem WY {g:List Int}(og:okW dB g)(ng:aN g):WV dB g=1↔g=[1]:=by
 constructor
 . intro h;have h1:=fQ (b:=dB) (by decide) og ng (n:=1) (by rw[h];decide);match g,h1 with
   | [],_=>simp[WV]at h
   | [x],_=>simp[WV]at h;rw[h]
 . rintro rfl;rfl
open Go.Proofs
variable {T:List (Nat×Spec)}
noncomputable def vo:Spec:=sK [] 153
noncomputable def vt:Spec:=sK [] 192
theorem Jd:bQ Tryz.prog gl 153 vo:=dJ cQ
theorem Je:bQ Tryz.prog gl 192 vt:=dJ cQ
theorem Jf:∀(s:aM) h,s.length<1000000->vo [.str s] h=some ⟨.iV (cg s),h,[]⟩:=fun s h hl=>da (Wj bE s hl) rfl rfl rfl h
theorem Jg:∀(s:aM) h,s.length<=18->s.all cS=true->vt [.str s] h=some ⟨.iV (aT 0 s:Nat),h,[]⟩:=fun s h hl hd=>da (Wl bE s hl hd) rfl rfl rfl h
noncomputable def Jh:List (Nat×Spec):=[(192,vt)]
theorem WZ:BG (aZ Tryz.prog FT Jh) where
 ft:=bE
 dr:=fun _ _=>rfl
 qZ:=fun _ _=>rfl
 mE:=fun s h hl hd=>Jg s h hl hd
noncomputable def BN:Spec:=sK Jh 193
theorem Xa:bQ Tryz.prog gl 193 BN:=dJ (bF Je cQ)
theorem Ji:∀(s:aM),s.length<1000000->(bV 45 s).all cS=true->∃v0,mD v0 (if preB 45 s then -(aT 0 (bV 45 s):Int) else (aT 0 (bV 45 s):Nat))/\∀h,BN [.str s] h=some ⟨v0,h,[]⟩:=fun s hl hd=>by
 obtain⟨v0,h1,h2⟩:=Ws WZ s hl hd;exact⟨v0,h1,dD h2 rfl⟩
theorem Xb {s:aM}(h:s.all cS=true):preB 45 s=false/\bV 45 s=s:=by
 have hp:preB 45 s=false:=by
  cases s with
  | nil=>rfl
  | cons c t=>
   rw[List.all_cons,Bool.and_eq_true]at h;unfold preB;rw[decide_eq_false_iff_not];intro e;simp at e;rw[e]at h;exact absurd h.1 (by decide)
 exact⟨hp,oC hp⟩
theorem vu {h:ab}(l:List Int){n:Nat}{c:Option Nat}:cX h (.vs (aj l) n c) (.vs (aj l) n c):=.lZ (BK l)
noncomputable def vv:Spec:=sL [] 218
noncomputable def Jj:Spec:=sL [] 241
noncomputable def BO:Spec:=sL [] 197
noncomputable def Jk:Spec:=sL [] 243
theorem Jl:bQ Tryz.prog gl 218 vv:=my cQ
theorem Xc:bQ Tryz.prog gl 241 Jj:=my cQ
theorem Jm:bQ Tryz.prog gl 197 BO:=my cQ
theorem Xd:bQ Tryz.prog gl 243 Jk:=my cQ
noncomputable def vw:List (Nat×Spec):=[(218,vv),(197,BO),(241,Jj),(243,Jk)]
theorem Xe:dg Tryz.prog gl (bj vw):=bF Jl (bF Jm (bF Xc (bF Xd cQ)))
theorem Xf:Jb (aZ Tryz.prog FT vw) where
 ft:=bE
 dr:=fun _ _=>rfl
 Ja:=fun U V bu i k cu c2 e h T D p hb hV hi hU hK=>by
  obtain⟨q,h1,h2,h3,hr⟩:=WA (M:=aZ Tryz.prog FT []) (c1:=none) (c2:=c2) bE hV hi hU hK rfl rfl rfl rfl rfl;refine⟨q,h1,h2,h3,?_⟩;have hf:cX h (.sl bu 0 U.length 1 cu) (.vs (aj U) U.length none):=by
   refine .sl (m:=aj U) hb ?_ rfl (BK U).2;have:=jQ (f:=iC) (esz:=1) (fun _=>rfl) (l:=U) (i:=0) (n:=U.length) (by omega);simpa using this
  exact ql hr rfl rfl rfl (.cons hf (.cons (vu V) (.cons (.atom rfl) .nil)))
 rf:=fun a b c1 c2 h o1 o2 n1 n2 l1 l2=>ql (IV bE a b o1 o2 n1 n2 l1 l2) rfl rfl rfl (.cons (vu a) (.cons (vu b) .nil))
 oI:=fun x y a b c1 c2 h hx hy o1 o2 l1 l2 h0=>by
  obtain⟨r,⟨h1,h2,h3⟩,v,hh,⟨v1,f,t,k⟩,hr⟩:=IY (M:=aZ Tryz.prog FT []) (c1:=c1) (c2:=c2) bE (fun _ _=>rfl) a b o1 o2 l1 l2 h0;exact⟨r,h1,h2,h3,kH (.cons hx (.cons hy .nil)) ⟨v,hh,v1,hr,f,t,k⟩⟩
 BM:=fun x a c h d hx o l hd=>by
  obtain⟨q,⟨h1,h2,h3⟩,v,hh,⟨v1,f,t,k⟩,hr⟩:=Wx (M:=aZ Tryz.prog FT []) (c1:=c) bE (fun _ _=>rfl) a o l d hd;exact⟨q,h1,h2,h3,kH (.cons hx (.cons (.atom rfl) .nil)) ⟨v,hh,v1,hr,f,t,k⟩⟩
noncomputable def ri:Spec:=sK vw 195
theorem Jn:bQ Tryz.prog gl 195 ri:=dJ Xe
noncomputable def BP:Spec:=sK [(195,ri)] 155
theorem Xg:bQ Tryz.prog gl 155 BP:=dJ (bF Jn cQ)
set_option maxRecDepth 1000000
def BT:an:=.seq (zR [zm 9 5,zm 10 0,zl 11 10,zb 12 .lss 9 11,zn 13 12,zg (zm 14 5) 13 false,zg (zm 15 1) 13 false,zg (zl 16 15) 13 false,zg (zb 17 .lss 14 16) 13 false,zP 18 13 17,zn 19 18,zg (zm 20 4) 19 false,zg (zc 21 .gtr 20 0) 19 false,zP 22 19 21] (.cond (.l 22) (.skip) (.exit 0))) (.seq (.block 1 (zR [zm 25 0,zm 26 5,z2 27 254 25 26,zm 28 1,zm 29 5,z2 30 254 28 29,zb 31 .add 27 30,zm 32 4,zb 33 .add 31 32,zw 6 33] (zR [zm 34 3,zm 35 6,zc 36 .rem 35 1000000000,⟨.l 37,.dT 3 1 1 [.iV (0)] [(0,1,(.l 36))],none⟩,⟨.l 38,.append 3 1 8 (.l 34) (.l 37),none⟩,zw 3 38] (.region [zm 39 6,zc 40 .quo 39 1000000000,zw 4 40])))) (.region [zm 23 5,zc 24 .add 23 1,zw 5 24]))
def Jo:an:=zR [⟨.p 2,.mv (.c (.ae)),none⟩] (zR [⟨.p 3,.mv (.c (.ae)),none⟩] (zR [zi 4 0] (.seq (zR [zi 5 0] (.block 0 (.loop BT))) (zR [zm 41 3,zw 2 41] (.ret)))))
theorem Xh:FT 206=some ⟨42,[0,1,4,5,6,7,8],[.var (.p 2)],Jo⟩:=by kernel_rfl
def oJ:an:=.seq (zR [zm 9 5,zm 10 0,zl 11 10,zb 12 .lss 9 11] (.cond (.l 12) (.skip) (.exit 0))) (.seq (.block 1 (.seq (.draw [(zm 15 0,[]),(zm 16 5,[0]),(za 17 1 15 16,[]),(zd 18 1 17,[]),(zm 19 1,[0,1,2,3]),(zm 20 5,[0,1,2,3,4]),(z2 21 254 19 20,[0,1,2,3]),(zb 22 .sub 18 21,[]),(zm 23 4,[0,1,2,3,4,5,6,7]),(zb 24 .sub 22 23,[]),(zw 6 24,[])]) (zR [zi 4 0] (.seq (zR [zm 25 6,zc 26 .lss 25 0] (.cond (.l 26) (zR [zm 27 6,zc 28 .add 27 1000000000,zw 6 28] (.region [zi 4 1])) (.skip))) (.region [zm 29 3,zm 30 6,⟨.l 31,.dT 3 1 1 [.iV (0)] [(0,1,(.l 30))],none⟩,⟨.l 32,.append 3 1 8 (.l 29) (.l 31),none⟩,zw 3 32]))))) (.region [zm 13 5,zc 14 .add 13 1,zw 5 14]))
def Jp:an:=zR [⟨.p 2,.mv (.c (.ae)),none⟩] (zR [⟨.p 3,.mv (.c (.ae)),none⟩] (zR [zi 4 0] (.seq (zR [zi 5 0] (.block 0 (.loop oJ))) (zR [zm 33 3,z1 34 242 33,zw 2 34] (.ret)))))
theorem Xi:FT 219=some ⟨35,[0,1,4,5,6,7,8],[.var (.p 2)],Jp⟩:=by kernel_rfl
def Jq:an:=zR [zx 2 162 2 0,zx 3 162 2 1,⟨.p 4,.alloc 162 [.bool false,.ae],none⟩] (.seq (zR [zf 5 0 2,zd 6 1 5,zf 7 0 3,zd 8 1 7,⟨.l 9,.eq false .bool (.l 6) (.l 8),none⟩] (.cond (.l 9) (.seq (.draw [(zf 10 0 2,[]),(zd 11 1 10,[]),(zf 12 1 2,[0,1]),(zd 13 1 12,[0,1]),(zf 14 1 3,[0,1,2,3]),(zd 15 1 14,[0,1,2,3]),(z2 16 206 13 15,[0,1]),(z2 17 196 11 16,[]),(zs 2 4 17,[])]) (.ret)) (.skip))) (.seq (zR [zf 18 1 2,zd 19 1 18,zf 20 1 3,zd 21 1 20,z2 22 218 19 21,zc 23 .geq 22 0] (.cond (.l 23) (.seq (.draw [(zf 24 0 2,[]),(zd 25 1 24,[]),(zf 26 1 2,[0,1]),(zd 27 1 26,[0,1]),(zf 28 1 3,[0,1,2,3]),(zd 29 1 28,[0,1,2,3]),(z2 30 219 27 29,[0,1]),(z2 31 196 25 30,[]),(zs 2 4 31,[])]) (.ret)) (.skip))) (.seq (.draw [(zf 32 0 3,[]),(zd 33 1 32,[]),(zf 34 1 3,[0,1]),(zd 35 1 34,[0,1]),(zf 36 1 2,[0,1,2,3]),(zd 37 1 36,[0,1,2,3]),(z2 38 219 35 37,[0,1]),(z2 39 196 33 38,[]),(zs 2 4 39,[])]) (.ret))))
theorem Xj:FT 170=some ⟨40,[0,1,2,3,4],[.cell 2 true (.p 4)],Jq⟩:=by kernel_rfl
def Jr:an:=zR [zx 1 162 2 0,⟨.p 2,.alloc 162 [.bool false,.ae],none⟩] (zR [zf 3 0 1,zd 4 1 3,zu 5 4,zf 6 1 1,zd 7 1 6,z2 8 196 5 7,zs 2 2 8] (.ret))
theorem Xk:FT 194=some ⟨9,[0,1,2],[.cell 2 true (.p 2)],Jr⟩:=by kernel_rfl
def Js:an:=zR [zx 2 162 2 0,zx 3 162 2 1,⟨.p 4,.alloc 162 [.bool false,.ae],none⟩] (.seq (.draw [(zf 5 0 2,[]),(zd 6 1 5,[]),(zf 7 0 3,[0,1]),(zd 8 1 7,[0,1]),(⟨.l 9,.eq true .bool (.l 6) (.l 8),none⟩,[]),(zf 10 1 2,[0,1,2,3,4]),(zd 11 1 10,[0,1,2,3,4]),(zf 12 1 3,[0,1,2,3,4,5,6]),(zd 13 1 12,[0,1,2,3,4,5,6]),(z2 14 197 11 13,[0,1,2,3,4]),(z2 15 196 9 14,[]),(zs 2 4 15,[])]) (.ret))
theorem Xl:FT 137=some ⟨16,[0,1,2,3,4],[.cell 2 true (.p 4)],Js⟩:=by kernel_rfl
def Jt:an:=.seq (zR [zm 5 1,zc 6 .gtr 5 0] (.cond (.l 6) (.skip) (.exit 0))) (.block 1 (.draw [(zm 7 1,[]),(zm 8 0,[0]),(zm 9 1,[0,1]),(zb 10 .rem 8 9,[0]),(zw 0 7,[2,3]),(zw 1 10,[])]))
def Ju:an:=zR [zi 2 0] (.seq (.block 0 (.loop Jt)) (zR [zm 11 0,zw 2 11] (.ret)))
theorem Xm:FT 158=some ⟨12,[0,1,4],[.var (.p 2)],Ju⟩:=by kernel_rfl
def BU:an:=.seq (zR [zm 6 0,zc 7 .gtr 6 0,zn 8 7,zg (zm 9 3) 8 false,zg (zL 10 9) 8 false,zg (zm 11 1) 8 false,zg (zb 12 .lss 10 11) 8 false,zP 13 8 12] (.cond (.l 13) (.skip) (.exit 0))) (.block 1 (zR [zm 14 0,zc 15 .rem 14 10,zm 16 0,zc 17 .rem 16 10,zc 18 .add 17 1,⟨.l 19,.slice .str 1 (.c (.str zD3)) (some (.l 15)) (some (.l 18)) none,none⟩,zm 20 3,zb 21 .add 19 20,zw 3 21] (.region [zm 22 0,zc 23 .quo 22 10,zw 0 23])))
def Jv:an:=zR [⟨.p 2,.mv (.c (.str [])),none⟩] (zR [⟨.p 3,.mv (.c (.str [])),none⟩] (.seq (.block 0 (.loop BU)) (zR [zm 24 3,zw 2 24] (.ret))))
theorem Xn:FT 117=some ⟨25,[0,1,4,5],[.var (.p 2)],Jv⟩:=by kernel_rfl
def vy:an:=.seq (zR [zm 22 4,zc 23 .geq 22 0] (.cond (.l 23) (.skip) (.exit 0))) (.seq (.block 1 (.region [zm 26 3,zf 27 1 1,zd 28 1 27,zm 29 4,za 30 1 28 29,zd 31 1 30,⟨.l 32,.call (kF 117) [(.l 31),(kI 9)],none⟩,zb 33 .add 26 32,zw 3 33])) (.region [zm 24 4,zc 25 .sub 24 1,zw 4 25]))
def BV:an:=zR [zx 1 162 2 0,⟨.p 2,.mv (.c (.str [])),none⟩] (.seq (zR [zf 5 1 1,zd 6 1 5,zl 7 6,zc 8 .eql 7 0] (.cond (.l 8) (zR [⟨.p 2,.mv (.c (.str [48])),none⟩] (.ret)) (.skip))) (zR [zf 9 1 1,zd 10 1 9,zf 11 1 1,zd 12 1 11,zl 13 12,zc 14 .sub 13 1,za 15 1 10 14,zd 16 1 15,⟨.l 17,.call (kF 117) [(.l 16),(kI 1)],none⟩,zw 3 17] (.seq (zR [zf 18 1 1,zd 19 1 18,zl 20 19,zc 21 .sub 20 2,zw 4 21] (.block 0 (.loop vy))) (.seq (zR [zf 34 0 1,zd 35 1 34] (.cond (.l 35) (zR [zm 36 3,⟨.l 37,.bin .add (.c (.str [45])) (.l 36),none⟩,zw 2 37] (.ret)) (.skip))) (zR [zm 38 3,zw 2 38] (.ret))))))
theorem Jw:FT 138=some ⟨39,[0,1,2,3,4],[.var (.p 2)],BV⟩:=by kernel_rfl
def t134:an:=zR [zm 25 4,z1 26 153 25,zw 6 26] (.seq (zR [zm 27 6,zc 28 .gtr 27 9,zn 29 28,zg (zm 30 4) 29 false,zg (zL 31 30) 29 false,zg (zm 32 6) 29 false,zg (zb 33 .sub 31 32) 29 false,zg (zc 34 .gtr 33 10) 29 false,zP 35 29 34] (.cond (.l 35) (zR [zi 1 0,zi 2 0,⟨.p 3,.mv (.c (.bool false)),none⟩] (.ret)) (.skip))) (zR [zm 36 4,zm 37 6,⟨.l 38,.slice .str 1 (.l 36) none (some (.l 37)) none,none⟩,z1 39 192 38,zw 7 39,zi 8 1] (.seq (zR [zm 40 6,zm 41 4,zL 42 41,zb 43 .lss 40 42] (.cond (.l 43) (.region [zm 44 4,zm 45 6,zc 46 .add 45 1,⟨.l 47,.slice .str 1 (.l 44) (some (.l 46)) none none,none⟩,z1 48 192 47,zw 8 48]) (.skip))) (.seq (zR [zm 49 5] (.cond (.l 49) (.region [zm 50 7,⟨.l 51,.bin .sub (kI 0) (.l 50),none⟩,zw 7 51]) (.skip))) (zR [zm 52 7,zm 53 8,zw 1 52,zw 2 53,⟨.p 3,.mv (.c (.bool true)),none⟩] (.ret))))))
def vz:an:=zR [zi 1 0,zi 2 0,⟨.p 3,.mv (.c (.bool false)),none⟩] (zR [zm 10 0,zw 4 10] (.seq (zR [zm 11 4,zL 12 11,zc 13 .gtr 12 20] (.cond (.l 13) (zR [zi 1 0,zi 2 0,⟨.p 3,.mv (.c (.bool false)),none⟩] (.ret)) (.skip))) (zR [zm 14 4,zL 15 14,zc 16 .gtr 15 0,zn 17 16,zg (zm 18 4) 17 true,⟨.l 19,.index (.l 18) (kI 0),some ((.l 17),true)⟩,⟨.l 20,.bin .eql (.l 19) (.c (.int .u8 (45))),some ((.l 17),true)⟩,zp 21 17 20,zw 5 21] (.seq (zR [zm 22 5] (.cond (.l 22) (.region [zm 23 4,⟨.l 24,.slice .str 1 (.l 23) (some (kI 1)) none none,none⟩,zw 4 24]) (.skip)))
      t134))))
theorem Jx:FT 134=some ⟨54,[0,2,3,4,5,6,7,8,9],[.var (.p 1),.var (.p 2),.var (.p 3)],vz⟩:=by kernel_rfl
def t136:an:=zR [zf 17 1 2,zd 18 1 17,zf 19 1 3,zd 20 1 19,z2 21 155 18 20,zw 5 21] (zR [zf 23 1 2,zd 24 1 23,zm 25 5,z2 26 195 24 25,zn 22 26,ze 27 0 22,ze 28 1 22,zw 6 27,zn 7 28] (zR [zf 30 1 3,zd 31 1 30,zm 32 5,z2 33 195 31 32,zn 29 33,ze 34 0 29,ze 35 1 29,zw 7 34,zn 9 35] (zR [zf 36 0 2,zd 37 1 36,zm 38 6,z2 39 196 37 38,z1 40 138 39,zw 8 40] (.seq (zR [zm 41 7,zl 42 41,zc 43 .eql 42 1,zn 44 43,zg (zm 45 7) 44 true,⟨.l 46,.dX none 1 (.l 45) (kI 0),some ((.l 44),true)⟩,zg (zd 47 1 46) 44 true,zg (zc 48 .eql 47 1) 44 true,zp 49 44 48] (.cond (.l 49) (zR [zm 50 8,zw 4 50] (.ret)) (.skip))) (zR [zm 51 8,⟨.l 52,.bin .add (.l 51) (.c (.str [47])),none⟩,zm 53 7,⟨.l 54,.call (kF 196) [(.c (.bool false)),(.l 53)],none⟩,z1 55 138 54,zb 56 .add 52 55,zw 4 56] (.ret))))))
def BW:an:=zR [zx 2 162 2 0,zx 3 162 2 1,⟨.p 4,.mv (.c (.str [])),none⟩] (.seq (zR [zf 11 0 3,zd 12 1 11] (.cond (.l 12) (.draw [(zt 13 2 2,[]),(z1 14 194 13,[]),(zt 15 2 3,[0,1]),(z1 16 194 15,[]),(zs 2 2 14,[]),(zs 2 3 16,[])]) (.skip)))
   t136)
theorem Xo:FT 136=some ⟨57,[0,1,2,3,4,5,6,8,10],[.var (.p 4)],BW⟩:=by kernel_rfl
def Jy:an:=zR [⟨.p 1,.mv (.c (.str [])),none⟩] (zR [zm 3 0,z1 4 139 3,z1 5 138 4,zw 1 5] (.ret))
theorem Xp:FT 54=some ⟨6,[0,2],[.var (.p 1)],Jy⟩:=by kernel_rfl
def t78:an:=zR [zm 32 0,zm 33 0,⟨.l 34,.bin .sub (kI 0) (.l 33),none⟩,⟨.l 35,.mm true [(.l 32),(.l 34)],none⟩,zm 36 1,z2 37 158 35 36,zw 3 37] (.seq (.draw [(zm 38 0,[]),(zm 39 3,[0]),(zb 40 .quo 38 39,[]),(zm 41 1,[0,1,2]),(zm 42 3,[0,1,2,3]),(zb 43 .quo 41 42,[0,1,2]),(zw 0 40,[3,4,5]),(zw 1 43,[])]) (zR [⟨.p 4,.mv (.c (.str [])),none⟩] (.seq (zR [zm 44 0,zc 45 .lss 44 0] (.cond (.l 45) (.region [⟨.p 4,.mv (.c (.str [45])),none⟩]) (.skip))) (zR [zm 46 4,zm 47 0,zm 48 0,⟨.l 49,.bin .sub (kI 0) (.l 48),none⟩,⟨.l 50,.mm true [(.l 47),(.l 49)],none⟩,⟨.l 51,.call (kF 117) [(.l 50),(kI 1)],none⟩,zb 52 .add 46 51,zw 4 52] (.seq (zR [zm 53 1,zc 54 .gtr 53 1] (.cond (.l 54) (.region [zm 55 4,⟨.l 56,.bin .add (.l 55) (.c (.str [47])),none⟩,zm 57 1,⟨.l 58,.call (kF 117) [(.l 57),(kI 1)],none⟩,zb 59 .add 56 58,zw 4 59]) (.skip))) (zR [zm 60 4,zw 2 60] (.ret)))))))
def BX:an:=zR [⟨.p 2,.mv (.c (.str [])),none⟩] (.seq (zR [zm 7 0,zc 8 .lss 7 (-4000000000000000000),zn 9 8,zg (zm 10 0) 9 false,zg (zc 11 .gtr 10 4000000000000000000) 9 false,zP 12 9 11,zn 13 12,zg (zm 14 1) 13 false,zg (zc 15 .lss 14 (-4000000000000000000)) 13 false,zP 16 13 15,zn 17 16,zg (zm 18 1) 17 false,zg (zc 19 .gtr 18 4000000000000000000) 17 false,zP 20 17 19] (.cond (.l 20) (zR [zm 21 0,z1 22 139 21,zm 23 1,z1 24 139 23,z2 25 136 22 24,zw 2 25] (.ret)) (.skip))) (.seq (zR [zm 26 1,zc 27 .lss 26 0] (.cond (.l 27) (.region [zm 28 0,⟨.l 29,.bin .sub (kI 0) (.l 28),none⟩,zm 30 1,⟨.l 31,.bin .sub (kI 0) (.l 30),none⟩,zw 0 29,zw 1 31]) (.skip)))
 t78))
theorem Xq:FT 78=some ⟨61,[0,1,4,5,6],[.var (.p 2)],BX⟩:=by kernel_rfl
def Jz:an:=zR [zi 1 0] (.seq (zR [zm 3 0,⟨.l 4,.bin .eql (.l 3) (.c (.str [48])),none⟩] (.cond (.l 4) (zR [zi 1 0] (.ret)) (.skip))) (.seq (zR [zm 5 0,zL 6 5,zc 7 .gtr 6 0,zn 8 7,zg (zm 9 0) 8 true,⟨.l 10,.index (.l 9) (kI 0),some ((.l 8),true)⟩,⟨.l 11,.bin .eql (.l 10) (.c (.int .u8 (45))),some ((.l 8),true)⟩,zp 12 8 11] (.cond (.l 12) (zR [zi 1 (-1)] (.ret)) (.skip))) (zR [zi 1 1] (.ret))))
theorem Xr:FT 140=some ⟨13,[0,2],[.var (.p 1)],Jz⟩:=by kernel_rfl
def JA:an:=zR [⟨.p 1,.mv (.c (.str [])),none⟩] (.seq (zR [zm 3 0,z1 4 140 3,zc 5 .lss 4 0] (.cond (.l 5) (zR [zm 6 0,⟨.l 7,.slice .str 1 (.l 6) (some (kI 1)) none none,none⟩,zw 1 7] (.ret)) (.skip))) (.seq (zR [zm 8 0,z1 9 140 8,zc 10 .eql 9 0] (.cond (.l 10) (zR [zm 11 0,zw 1 11] (.ret)) (.skip))) (zR [zm 12 0,⟨.l 13,.bin .add (.c (.str [45])) (.l 12),none⟩,zw 1 13] (.ret))))
theorem Xs:FT 141=some ⟨14,[0,2],[.var (.p 1)],JA⟩:=by kernel_rfl
def BY:an:=zR [⟨.p 2,.mv (.c (.str [])),none⟩] (zR [zm 16 0,z1 17 134 16,zn 15 17,ze 18 0 15,ze 19 1 15,ze 20 2 15,zw 3 18,zw 4 19,zw 5 20] (zR [zm 22 1,z1 23 134 22,zn 21 23,ze 24 0 21,ze 25 1 21,ze 26 2 21,zw 6 24,zw 7 25,zw 8 26] (.seq (zR [zm 27 5,zn 28 27,zg (zm 29 8) 28 true,zp 30 28 29] (.cond (.l 30) (zR [zm 31 3,zm 32 7,zb 33 .mul 31 32,zm 34 6,zm 35 4,zb 36 .mul 34 35,zb 37 .add 33 36,zm 38 4,zm 39 7,zb 40 .mul 38 39,z2 41 78 37 40,zw 2 41] (.ret)) (.skip))) (zR [zm 43 0,z1 44 135 43,zn 42 44,ze 45 0 42,ze 46 1 42,⟨.p 9,.alloc 162 [.bool false,.ae],none⟩,⟨.p 10,.alloc 162 [.bool false,.ae],none⟩,zs 2 9 45,zs 2 10 46] (zR [zm 48 1,z1 49 135 48,zn 47 49,ze 50 0 47,ze 51 1 47,⟨.p 11,.alloc 162 [.bool false,.ae],none⟩,⟨.p 12,.alloc 162 [.bool false,.ae],none⟩,zs 2 11 50,zs 2 12 51] (.seq (.draw [(zt 52 2 9,[]),(zt 53 2 12,[0]),(z2 54 137 52 53,[]),(zt 55 2 11,[0,1,2]),(zt 56 2 10,[0,1,2,3]),(z2 57 137 55 56,[]),(z2 58 170 54 57,[]),(zt 59 2 10,[0,1,2,3,4,5,6]),(zt 60 2 12,[0,1,2,3,4,5,6,7]),(z2 61 137 59 60,[]),(z2 62 136 58 61,[]),(zw 2 62,[])]) (.ret)))))))
theorem Xt:FT 90=some ⟨63,[0,1,4,5,6,7,8,9,10,11,12,13,14],[.var (.p 2)],BY⟩:=by kernel_rfl
def JB:an:=zR [⟨.p 2,.mv (.c (.str [])),none⟩] (zR [zm 5 0,zm 6 1,z1 7 141 6,z2 8 90 5 7,zw 2 8] (.ret))
theorem Xu:FT 57=some ⟨9,[0,1,4],[.var (.p 2)],JB⟩:=by kernel_rfl
def BZ:an:=zR [⟨.p 2,.mv (.c (.str [])),none⟩] (zR [zm 16 0,z1 17 134 16,zn 15 17,ze 18 0 15,ze 19 1 15,ze 20 2 15,zw 3 18,zw 4 19,zw 5 20] (zR [zm 22 1,z1 23 134 22,zn 21 23,ze 24 0 21,ze 25 1 21,ze 26 2 21,zw 6 24,zw 7 25,zw 8 26] (.seq (zR [zm 27 5,zn 28 27,zg (zm 29 8) 28 true,zp 30 28 29] (.cond (.l 30) (zR [zm 31 3,zm 32 6,zb 33 .mul 31 32,zm 34 4,zm 35 7,zb 36 .mul 34 35,z2 37 78 33 36,zw 2 37] (.ret)) (.skip))) (zR [zm 39 0,z1 40 135 39,zn 38 40,ze 41 0 38,ze 42 1 38,⟨.p 9,.alloc 162 [.bool false,.ae],none⟩,⟨.p 10,.alloc 162 [.bool false,.ae],none⟩,zs 2 9 41,zs 2 10 42] (zR [zm 44 1,z1 45 135 44,zn 43 45,ze 46 0 43,ze 47 1 43,⟨.p 11,.alloc 162 [.bool false,.ae],none⟩,⟨.p 12,.alloc 162 [.bool false,.ae],none⟩,zs 2 11 46,zs 2 12 47] (.seq (.draw [(zt 48 2 9,[]),(zt 49 2 11,[0]),(z2 50 137 48 49,[]),(zt 51 2 10,[0,1,2]),(zt 52 2 12,[0,1,2,3]),(z2 53 137 51 52,[]),(z2 54 136 50 53,[]),(zw 2 54,[])]) (.ret)))))))
theorem Xv:FT 53=some ⟨55,[0,1,4,5,6,7,8,9,10,11,12,13,14],[.var (.p 2)],BZ⟩:=by kernel_rfl
def JC:an:=zR [⟨.p 1,.mv (.c (.str [])),none⟩] (zR [zm 6 0,z1 7 135 6,zn 5 7,ze 8 0 5,ze 9 1 5,⟨.p 2,.alloc 162 [.bool false,.ae],none⟩,⟨.p 3,.alloc 162 [.bool false,.ae],none⟩,zs 2 2 8,zs 2 3 9] (zR [zt 10 2 3,zt 11 2 2,z2 12 136 10 11,zw 1 12] (.ret)))
theorem Xw:FT 133=some ⟨13,[0,2,3,4],[.var (.p 1)],JC⟩:=by kernel_rfl
def JD:an:=zR [⟨.p 2,.mv (.c (.str [])),none⟩] (zR [zm 5 0,zm 6 1,z1 7 133 6,z2 8 53 5 7,zw 2 8] (.ret))
theorem Xx:FT 52=some ⟨9,[0,1,4],[.var (.p 2)],JD⟩:=by kernel_rfl
def JE:an:=zR [zi 2 0] (zR [zm 5 0,zm 6 1,z2 7 57 5 6,z1 8 140 7,zw 2 8] (.ret))
theorem Xy:FT 55=some ⟨9,[0,1,4],[.var (.p 2)],JE⟩:=by kernel_rfl
theorem Ca {y:List Int}(ok:okW dB y)(i:Nat):0<=fj y i/\fj y i<1000000000:=by
 unfold fj;split
 . rename_i h;exact bL ok h
 . exact⟨by decide,by decide⟩
theorem Xz (hft:M.FT=FT)(a:List Int)(i:Int)(hi:0<=i):aU M 254 [.vs (aj a) a.length c1,.iV i] [] ⟨.iV (fj a i.toNat),[],[]⟩:=by
 refine bO (by rw[hft];exact Wh) (by simp) ?_;unfold fj;unfold IJ;simp only[enter];by_cases h:i.toNat<a.length
 . rw[if_pos h];exact gg1
 . rw[if_neg h];exact gg1
theorem Cb (hft:M.FT=FT)(K:ab):aU M 242 [.ae] K ⟨.ae,K,[]⟩:=by
 refine kD (by rw[hft];exact uY) (by simp) (by simp[AV.top]) ?_;unfold qW;simp only[enter];repeat' first|refine gc ?_|fail
 refine W.loop ?_;unfold iE;exact gg4
def JF (M:ao)(g:Nat)(ars:List AV)(n:Nat)(z:Int):Prop:=∃r:List Int,(okW dB r/\WV dB r=z/\r.length<=n)/\∃v hh,fD v hh r/\aU M g ars [] ⟨v,hh,[]⟩
theorem XA {f N n:Nat}{az:List Nat}{res:List fc}{body:an}{ars:List AV}{z:Int}(hft:M.FT f=some ⟨N,az,res,body⟩)(hN:ars.length<=N)
 (h:W M body ⟨⟨az.map (fun t=>(ars[t]?).getD bJ),[],[],[]⟩,[]⟩ fun e s=>(e = .normal\/e = .ret)/\s.s.bA=[]/\∃vs,cU s.s res=some vs/\∃r:List Int,(okW dB r/\WV dB r=z/\r.length<=n)/\fD (aQ vs) (if (aQ vs).top<=0 then [] else s.s.hp) r):JF M f ars n z:=by
 obtain⟨v,hh,⟨r,hr,ho⟩,h2⟩:=gA (P:=fun v hh=>∃r:List Int,(okW dB r/\WV dB r=z/\r.length<=n)/\fD v hh r) hft hN h;exact⟨r,hr,v,hh,ho,h2⟩
theorem fD.Dz {K:ab}{o:AV}{acc:List Int}{S:List Nat}(h:bP iC 1 3 K o acc S):fD (aQ [o]) (if (aQ [o]).top<=0 then [] else K) acc:=
 ⟨.vs (aj acc) acc.length none,h.PX (fun _=>rfl) (fun _=>rfl) (fun _=>rfl),fz acc,by rw[bI,BC]⟩
section
variable {t:Nat} {x y:ax} {l:List aO} {pe:List AV} {lo:List (Nat×AV)} {hp:ab} {df wr:List Nat} {v a d:Int} {Q:al->Prop}
theorem acb (hx:(St.mk pe lo hp df).aa x=some (.iV a))(hy:(St.mk pe lo hp df).aa y=some (.iV d))(ha:0<=a/\a<9223372036854775808)(hd:0<d)(hv:a/d=v)
 (h:WO M l ⟨⟨pe,(t,.iV v)::lo,hp,df⟩,wr⟩ Q):WO M (⟨.l t,.bin .quo x y,none⟩::l) ⟨⟨pe,lo,hp,df⟩,wr⟩ Q:=abv hx hy ha hd (by rw[hv];exact h)
theorem acP (hx:(St.mk pe lo hp df).aa x=some (.iV a))(hy:(St.mk pe lo hp df).aa y=some (.iV d))(ha:0<=a)(hd:0<d)(hv:a%d=v)
 (h:WO M l ⟨⟨pe,(t,.iV v)::lo,hp,df⟩,wr⟩ Q):WO M (⟨.l t,.bin .rem x y,none⟩::l) ⟨⟨pe,lo,hp,df⟩,wr⟩ Q:=abN hx hy ha hd (by rw[hv];exact h)
end
structure Cc (M:ao):Prop where
 ft:M.FT=FT
 vB:∀(a:List Int) c (i:Int) h,0<=i->M.ext 254 [.vs (aj a) a.length c,.iV i] h=some ⟨.iV (fj a i.toNat),h,[]⟩
 dr:∀ars h,M.ext 242 ars h=none
theorem XB (C:Cc M)(a b:List Int)(oa:okW dB a)(ob:okW dB b)(la:a.length<1000000)(lb:b.length<1000000):JF M 206 [.vs (aj a) a.length c1,.vs (aj b) b.length c2] (a.length+b.length+1) (WV dB a+WV dB b):=by
 refine XA (by rw[C.ft];exact Xh) (by simp) ?_;unfold Jo;simp only[enter];repeat' first|refine gc ?_|fail
 obtain⟨n,hn⟩:∃n:Nat,a.length<=n/\b.length<=n/\n<=a.length+b.length/\(n=a.length\/n=b.length):=⟨max a.length b.length,by omega,by omega,by omega,by omega⟩;refine W.fH (fun m st=>∃i acc o c a6 K lo wr,st=⟨⟨[.vs (aj a) a.length c1,.vs (aj b) b.length c2,.ae,o,.iV c,.iV (i:Nat),a6],lo,K,[]⟩,wr⟩/\m=n+1-i/\i<=n+1/\(i=n+1->c=0)/\(0<=c/\c<=1)/\okW dB acc/\acc.length=i/\bP iC 1 3 K o acc []/\WV dB acc+dB^i*c=WV dB (a.take i)+WV dB (b.take i))
  (fun m st ⟨i,acc,o,c,a6,K,lo,wr,hst,hm,hi,hic,hc,oA,lA,ho,hv⟩=>?_) (m:=n+1) ⟨0,[],.ae,0,_,_,_,_,rfl,rfl,by omega,fun _=>rfl,⟨by decide,by decide⟩,gH,rfl,.nH,by simp[WV]⟩
 subst hst;by_cases hend:i<a.length\/i<b.length\/0<c
 . have ga:=Ca oa i;have gb:=Ca ob i;have ta:=qt (B:=dB) (y:=a) (i:=i);have tb:=qt (B:=dB) (y:=b) (i:=i);have q1:=fun h=>C.vB a c1 i h (by omega)
   have q2:=fun h=>C.vB b c2 i h (by omega)
   rw[Int.toNat_natCast]at q1 q2;have za:a.length<=i->fj a i=0:=fun h=>if_neg (by omega)
   have zb:b.length<=i->fj b i=0:=fun h=>if_neg (by omega)
   generalize fj a i=x at *
   generalize fj b i=y at *
   have hi2:i<=n:=by
    rcases Nat.lt_or_ge n i with h|h
    . have:=hic (by omega);omega
    . exact h
   obtain⟨R,hR⟩:∃R,R=(x+y+c)%1000000000:=⟨_,rfl⟩;obtain⟨D,hD⟩:∃D,D=(x+y+c)/1000000000:=⟨_,rfl⟩;have hroom:(acc.length+1)*8<=dh:=by unfold dh;omega
   have hD0:i+1=n+1->D=0:=fun h=>by
    have h1:=za (by omega);have h2:=zb (by omega);omega
   have hval:WV dB (acc++[R])+dB^(i+1)*D=WV dB (a.take (i+1))+WV dB (b.take (i+1)):=by
    rw[fh,lA,ta,tb,Int.pow_succ];have e1:WV dB [R]=R:=by simp[WV]
    have e2:R+1000000000*D=x+y+c:=by omega
    have e3:dB^i*(R+1000000000*D)=dB^i*(x+y+c):=by rw[e2]
    rw[e1];show WV dB acc+dB^i*R+dB^i*1000000000*D=_;grind
   unfold BT;exact gg9
 . have h1:a.take i=a:=List.take_of_length_le (by omega);have h2:b.take i=b:=List.take_of_length_le (by omega);have hc0:c=0:=by omega
   rw[h1,h2,hc0,Int.mul_zero,Int.add_zero]at hv;unfold BT;exact gg2
theorem XC (C:Cc M)(a b:List Int)(oa:okW dB a)(ob:okW dB b)(la:a.length<1000000)(lb:b.length<=a.length)(hle:WV dB b<=WV dB a):vk M 219 [.vs (aj a) a.length c1,.vs (aj b) b.length c2] (WV dB a-WV dB b):=by
 refine BD (by rw[C.ft];exact Xi) (by simp) ?_;unfold Jp;simp only[enter];repeat' first|refine gc ?_|fail
 refine W.gB a.length (fun i st=>∃acc o c a6 K lo wr,st=⟨⟨[.vs (aj a) a.length c1,.vs (aj b) b.length c2,.ae,o,.iV c,.iV i,a6],lo,K,[]⟩,wr⟩/\(0<=c/\c<=1)/\okW dB acc/\acc.length=i/\bP iC 1 3 K o acc []/\WV dB acc-dB^i*c=WV dB (a.take i)-WV dB (b.take i))
  (fun i st hi ⟨acc,o,c,a6,K,lo,wr,hst,hc,oA,lA,ho,hv⟩=>?_) (fun st ⟨acc,o,c,a6,K,lo,wr,hst,hc,oA,lA,ho,hv⟩=>?_) (Nat.zero_le _) ⟨[],.ae,0,_,_,_,_,rfl,⟨by decide,by decide⟩,gH,rfl,.nH,by simp[WV]⟩
 . subst hst;have ga:=bL oa hi;have gb:=Ca ob i;have ta:=eu (b:=dB) (l:=a) hi;have tb:=qt (B:=dB) (y:=b) (i:=i);have q2:=fun h=>C.vB b c2 i h (by omega)
   rw[Int.toNat_natCast]at q2;obtain⟨x,hx⟩:∃x,x=a[((i:Int)).toNat]! := ⟨_,rfl⟩;rw[show a[i]! = x from hx.symm]at ga ta;have ga:0<=x/\x<1000000000:=ga;generalize fj b i=y at *
   have hroom:(acc.length+1)*8<=dh:=by unfold dh;omega
   have next:∀(R D:Int) H o' a6 lo wr,bP iC 1 3 H o' (acc++[R]) []->(0<=D/\D<=1)->(0<=R/\R<1000000000)->R-1000000000*D=x-y-c->LI (fun st=>∃acc o c a6 K lo wr,st=⟨⟨[.vs (aj a) a.length c1,.vs (aj b) b.length c2,.ae,o,.iV c,.iV ((i+1:Nat):Int),a6],lo,K,[]⟩,wr⟩/\(0<=c/\c<=1)/\okW dB acc/\acc.length=i+1/\bP iC 1 3 K o acc []/\WV dB acc-dB^(i+1)*c=WV dB (a.take (i+1))-WV dB (b.take (i+1)))
    (BQ 0 (SQ M (zR [zm 33 3,z1 34 242 33,zw 2 34] (.ret)) (fun e s=>(e = .normal\/e = .ret)/\s.s.bA=[]/\∃vs,cU s.s [.var (.p 2)]=some vs/\∃r:List Int,(okW dB r/\aN r/\WV dB r=WV dB a-WV dB b)/\fD (aQ vs) (if (aQ vs).top<=0 then [] else s.s.hp) r)))
    .normal ⟨⟨[.vs (aj a) a.length c1,.vs (aj b) b.length c2,.ae,o',.iV D,.iV ((i:Int)+1),a6],lo,H,[]⟩,wr⟩:=fun R D H o' a6 lo wr ho' hD hR he=>
    cL ⟨acc++[R],o',D,a6,H,lo,wr,rfl,hD,iu oA (fun z hz=>by rw[List.mem_singleton.1 hz];exact hR),by simp[lA],ho',by
     rw[fh,lA,ta,tb,Int.pow_succ];have e1:WV dB [R]=R:=by simp[WV]
     have e3:dB^i*(R-1000000000*D)=dB^i*(x-y-c):=by rw[he]
     rw[e1];show WV dB acc+dB^i*R-dB^i*1000000000*D=_;grind⟩
   by_cases hneg:x-y-c<0
   . rw[hx]at hneg;unfold oJ;exact gg1
   . rw[hx]at hneg;unfold oJ;exact gg1
 . subst hst;have h2:b.take a.length=b:=List.take_of_length_le lb;rw[List.take_length,h2]at hv;have hc0:c=0:=by
    have h1:=cR (b:=dB) (by decide) oA;rw[lA]at h1;rcases (show c=0\/c=1 by omega) with h|h
    . exact h
    . rw[h,Int.mul_one]at hv;omega
   rw[hc0,Int.mul_zero,Int.sub_zero]at hv;obtain⟨g1,g2,g3⟩:=mB oA;rcases ho with ⟨rfl,rfl⟩|⟨k,cap,_,rfl,hk,hcap⟩
   . have ha0:a.length=0:=lA.symm;have q0:CT M (iY 242) [.ae] K ⟨.ae,K,[]⟩:=CT.run (fi:=[]) (ca:=[]) (C.dr _ _) (Cb C.ft K);unfold oJ;exact gg22
   . have hpos:0<acc.length\/acc.length=0:=by omega
     rcases hpos with h0|h0
     . obtain rfl:cap=none:=hcap.resolve_right fun h=>by rw[h.1]at h0;simp at h0
       have q1:=mC (cap:=none) C.ft C.dr hk h0 (Nat.le_refl _) (by omega) (fun c hc=>by cases hc);have hout:=fD.trim (cap:=none) hk (Nat.le_refl acc.length);rw[List.take_length]at q1 hout;unfold oJ;exact gg22
     . have ha0:acc=[]:=List.eq_nil_of_length_eq_zero h0;subst ha0;have q1:CT M (iY 242) [.sl k 0 ([]:List Int).length 1 cap] K ⟨.sl k 0 ([]:List Int).length 1 cap,K,[]⟩:=CT.run (fi:=[]) (ca:=[]) (C.dr _ _) (BH C.ft hk);unfold oJ;exact gg22
theorem XD (hft:M.FT=FT)(l:List Int)(hl:l.length<1000000000)(K:ab):aU M 242 [.vs (aj l) l.length cap] K ⟨.vs (aj (l.take (aL l))) (l.take (aL l)).length cap,K,[]⟩:=by
 refine kD (by rw[hft];exact uY) (by simp) (by simp[AV.top,fz]) ?_;have loop:∀(r:Nat) (lo:List (Nat×AV)) (a1:AV) {Q:Ex->al->Prop},r<=l.length->aL (l.take r)=aL l->(∀lo,Q (.exit 0) ⟨⟨[.vs (aj (l.take (aL l))) (l.take (aL l)).length cap,a1],lo,K,[]⟩,[]⟩)->W M (.loop iE) ⟨⟨[.vs (aj (l.take r)) (l.take r).length cap,a1],lo,K,[]⟩,[]⟩ Q:=by
  intro r;induction r with
  | zero=>
   intro lo a1 Q hr he hQ;have e0:aL l=0:=by rw[←he];rfl
   rw[e0]at hQ;have hl0:(l.take 0).length=0:=rfl;refine W.loop ?_;unfold iE;exact gg4
  | succ r ih=>
   intro lo a1 Q hr he hQ;have e:=ml (l:=l) (i:=r) (by omega);have hlr:(l.take (r+1)).length=r+1:=by rw[List.length_take];omega
   have eg:(l.take (r+1))[(((l.take (r+1)).length:Int)-1).toNat]! = l[r]! := by
    rw[hlr,show (((r+1:Nat):Int)-1).toNat=r by omega,List.getElem!_eq_getElem?_getD,List.getElem!_eq_getElem?_getD,List.getElem?_take_of_lt (by omega)]
   have et:(l.take (r+1)).take ((((l.take (r+1)).length:Nat):Int)-1).toNat=l.take r:=by
    rw[hlr,show (((r+1:Nat):Int)-1).toNat=r by omega,List.take_take,Nat.min_eq_left (by omega)]
   have next:∀lo,W M (.loop iE) ⟨⟨[.vs (aj ((l.take (r+1)).take ((((l.take (r+1)).length:Nat):Int)-1).toNat)) ((l.take (r+1)).take ((((l.take (r+1)).length:Nat):Int)-1).toNat).length cap,a1],lo,K,[]⟩,[]⟩ Q\/l[r]! ≠ 0:=fun lo=>by
    by_cases h0:l[r]! = 0
    . rw[if_pos h0]at e;rw[et];exact .inl (ih _ _ (by omega) (e.symm.trans he) hQ)
    . exact .inr h0
   have fin:l[r]! ≠ 0->l.take (aL l)=l.take (r+1):=fun h0=>by
    rw[if_neg h0]at e;rw[←he,e]
   rw[←eg]at next fin
   refine W.loop ?_;by_cases h0:(l.take (r+1))[(((l.take (r+1)).length:Int)-1).toNat]! = 0
   . have next:=fun lo=>(next lo).resolve_right fun h=>h h0
     generalize l.take (r+1)=L at *
     unfold iE;exact gg6
   . rw[fin h0]at hQ;generalize l.take (r+1)=L at *
     unfold iE;exact gg6
 unfold qW;simp only[enter];repeat' first|refine gc ?_|fail
 have h0:=loop l.length;rw[List.take_length]at h0;refine h0 _ _ (Nat.le_refl _) rfl (fun lo=>?_);exact gg0
def bm (neg:Bool)(z:Int):Int:=if neg then -z else z
theorem XE (hft:M.FT=FT)(dr:∀ars h,M.ext 242 ars h=none)(neg:Bool){x:AV}{l:List Int}(hx:bX x l)(ok:okW dB l)(hl:l.length<1000000000):∃v0,bD v0 (bm neg (WV dB l))/\cH M 196 [.bool neg,x] v0:=by
 obtain⟨g1,g2,g3⟩:=mB ok;rcases hx with rfl|⟨rfl,rfl⟩
 . refine⟨.agg [.bool (neg && decide (0<aL l)),.vs (aj (l.take (aL l))) (l.take (aL l)).length none],⟨_,_,_,rfl,.inl rfl,g1,g2,?_,fun h e=>?_⟩,?_⟩
   . rw[g3,bm];cases neg with
     | false=>rfl
     | true=>
      by_cases h0:0<aL l
      . rw[decide_eq_true h0];rfl
      . rw[decide_eq_false h0];have:WV dB l=0:=by rw[←g3,show aL l=0 by omega];rfl
        rw[this];rfl
   . rw[Bool.and_eq_true,decide_eq_true_eq]at h;have:=congrArg List.length e;have hle:=gK (l:=l);rw[List.length_take,List.length_nil]at this;omega
   . have q1:=fun K=>CT.run (fi:=[]) (ca:=[]) (ars:=[.vs (aj l) l.length none]) (dr _ _) (XD (cap:=none) hft l hl K)
     have hT:(l.take (aL l)).length=aL l:=by rw[List.length_take];have:=gK (l:=l);omega
     generalize l.take (aL l)=L at *
     rw[←hT];have fin:∀(b:Bool) hh,eZ (.agg [.bool b,.vs (aj L) L.length none]) hh (.agg [.bool b,.vs (aj L) L.length none]):=fun b hh=>.same (by simp[AV.top,aY,fz]) (by simp[bx,cB,oH])
     refine cI (by rw[hft];exact uX) (by simp) ?_;unfold qV;simp only[enter];cases neg with
     | false=>
      exact gg2
     | true=>
      by_cases h0:0<L.length
      . rw[decide_eq_true h0];exact gg2
      . rw[decide_eq_false h0];exact gg2
 . refine⟨.agg [.bool false,.ae],⟨false,.ae,[],rfl,.inr ⟨rfl,rfl⟩,gH,iK,by cases neg <;> rfl,fun h=>by cases h⟩,?_⟩;have q1:=fun K=>CT.run (fi:=[]) (ca:=[]) (ars:=[.ae]) (dr _ _) (Cb hft K)
   refine cI (by rw[hft];exact uX) (by simp) ?_;unfold qV;simp only[enter];cases neg with
   | false=>
    exact gg2
   | true=>
    exact gg2
variable {N:Nat}
theorem bX.fJ {h:ab}{x:AV}{l:List Int}(hx:bX x l):cX h x (.vs (aj l) l.length none):=by
 rcases hx with rfl|⟨rfl,rfl⟩
 . exact cX.lZ (tH (fun _=>.cons (.atom rfl) .nil) l)
 . exact .nil
theorem bD.abs {v:AV}{z:Int}(h:bD v z)(lz:ah z<dB^N):∃neg x l,v = .agg [.bool neg,x]/\bX x l/\okW dB l/\aN l/\l.length<=N/\z=bm neg (WV dB l)/\WV dB l=ah z/\(neg=true->l≠[]):=by
 obtain⟨neg,x,l,rfl,hx,ok,nr,hz,hn⟩:=h;have h0:=bT (b:=dB) (by decide) ok;have e:WV dB l=ah z:=by
  rw[hz];unfold ah;cases neg with
  | false=>simp only[Bool.false_eq_true,↓reduceIte];rw[if_neg (by omega)]
  | true=>simp only[↓reduceIte];split <;> omega
 exact⟨neg,x,l,rfl,hx,ok,nr,fQ (b:=dB) (by decide) ok nr (by rw[e];exact lz),hz,e,hn⟩
structure vC (M:ao):Prop where
 ft:M.FT=FT
 JG:∀l m k1 k2,okW dB l->okW dB m->l.length<1000000->m.length<1000000->∃r,okW dB r/\WV dB r=WV dB l+WV dB m/\r.length<=l.length+m.length+1/\∀x y h,cX h x (.vs (aj l) l.length k1)->cX h y (.vs (aj m) m.length k2)->M.ext 206 [x,y] h=some ⟨.vs (aj r) r.length none,h,[]⟩
 Cd:∀l m,okW dB l->okW dB m->aN l->aN m->l.length<1000000->m.length<1000000->WV dB m<=WV dB l->∃r,okW dB r/\aN r/\WV dB r=WV dB l-WV dB m/\∀x y h,bX x l->bX y m->M.ext 219 [x,y] h=some ⟨.vs (aj r) r.length none,h,[]⟩
 rf:∀l m x y h,okW dB l->okW dB m->aN l->aN m->l.length<1000000->m.length<1000000->bX x l->bX y m->M.ext 218 [x,y] h=some ⟨.iV (aW (WV dB l-WV dB m)),h,[]⟩
 oI:∀l m,okW dB l->okW dB m->l.length<1000000->m.length<1000000->∃r,okW dB r/\aN r/\WV dB r=WV dB l*WV dB m/\∀x y h,bX x l->bX y m->M.ext 197 [x,y] h=some ⟨.vs (aj r) r.length none,h,[]⟩
 jc:∀neg x l,bX x l->okW dB l->l.length<1000000000->∃v0,bD v0 (bm neg (WV dB l))/\∀h,M.ext 196 [.bool neg,x] h=some ⟨v0,h,[]⟩
theorem bD.out {v:AV}{z:Int}{hh:ab}(h:bD v z):eZ (aQ [v]) hh v:=by
 obtain⟨neg,x,l,rfl,_,_,ht,hc⟩:=h.shape;refine .same ?_ ?_
 . show max 0 (max x.top 0)=0;rw[ht];rfl
 . show AV.agg [.bool neg,bx x]=_;rw[hc]
theorem XF (C:vC M){a:AV}{z:Int}(ha:bD a z)(lz:ah z<dB^N)(hN:N<=100000):∃v0,bD v0 (-z)/\cH M 194 [a] v0:=by
 obtain⟨neg,x,l,rfl,hx,ok,nr,ll,hz,_,_⟩:=ha.abs lz;obtain⟨v0,h0,q⟩:=C.jc (!neg) x l hx ok (by omega);have e:bm (!neg) (WV dB l) = -z:=by rw[hz];cases neg <;> simp[bm]
 rw[e]at h0;refine⟨v0,h0,cI (by rw[C.ft];exact Xk) (by simp) ?_⟩;have out:=fun hh=>h0.out (hh:=hh)
 obtain⟨n0,x0,l0,rfl,hx0,o0,_,_⟩:=h0.shape;unfold Jr;simp only[enter];cases neg;all_goals
 . rcases hx with rfl|⟨rfl,rfl⟩;all_goals
   . repeat' first|refine gd18 ?_|refine gd0 ?_|refine gd2 ?_|refine gc ?_|fail
     all_goals exact cA rfl rfl (out _)
theorem XG (C:vC M){a b:AV}{za zb:Int}(ha:bD a za)(hb:bD b zb)(la:ah za<dB^N)(lb:ah zb<dB^N)(hN:N<=100000):∃v0,bD v0 (za*zb)/\cH M 137 [a,b] v0:=by
 obtain⟨na,x,l,rfl,hx,ok,nr,ll,hz,_,_⟩:=ha.abs la;obtain⟨nb,y,m,rfl,hy,ok',nr',lm,hz',_,_⟩:=hb.abs lb;obtain⟨r,okr,nrr,vr,q197⟩:=C.oI l m ok ok' (by omega) (by omega);have q197a:=fun h=>q197 x y h hx hy
 have hrl:r.length<=2*N:=fQ (b:=dB) (by decide) okr nrr (by
  have h1:=cR (b:=dB) (by decide) ok;have h2:=cR (b:=dB) (by decide) ok';have h3:=bT (b:=dB) (by decide) ok;have h4:=bT (b:=dB) (by decide) ok';have p1:dB^l.length<=dB^N:=fI (by decide) ll;have p2:dB^m.length<=dB^N:=fI (by decide) lm;rw[vr,show 2*N=N+N by omega,Int.pow_add];have hp:(0:Int)<dB^N:=Int.pow_pos (by decide);have a1:=Int.mul_le_mul_of_nonneg_left (show WV dB m<=dB^N by omega) h3;have a2:=Int.mul_lt_mul_of_pos_right (show WV dB l<dB^N by omega) hp;omega)
 obtain⟨v0,h0,q196⟩:=C.jc (na != nb) _ r (.inl rfl) okr (by omega);have e:bm (na != nb) (WV dB r)=za*zb:=by
  rw[hz,hz',vr];cases na <;> cases nb <;> simp[bm,Int.neg_mul,Int.mul_neg]
 rw[e]at h0;refine⟨v0,h0,cI (by rw[C.ft];exact Xl) (by simp) ?_⟩;have out:=fun hh=>h0.out (hh:=hh)
 obtain⟨n0,x0,l0,rfl,hx0,o0,_,_⟩:=h0.shape;unfold Js;simp only[enter];cases na;all_goals
 . cases nb;all_goals
   . rcases hx with rfl|⟨rfl,rfl⟩;all_goals
     . rcases hy with rfl|⟨rfl,rfl⟩;all_goals
       . repeat' first|(apply abg;rfl;rfl;(first|(simp only[nca];rfl)|rfl);first|exact q197a _|exact q196 _)|(apply aaq;rfl;rfl;rfl;exact⟨rfl,Nat.le_refl _,kc o0⟩;rfl)|(apply abU;rfl;(first|(focus((repeat' first|exact cN|assumption|apply de);done))|exact gg (by simp));rfl)|apply aaK|apply iI|apply aaN|apply aaO|apply aaQ|apply aaX|apply aaZ|(apply aba;rfl)|(apply abm;rfl;rfl;(first|(simp only[nca];rfl)|rfl))|(apply abx;rfl;(first|(simp only[nca];rfl)|rfl);(first|(simp only[nca];rfl)|rfl))|(apply abe;rfl;rfl;rfl)|(apply aac;rfl;rfl)
         all_goals exact cA rfl rfl (out _)
theorem XH {x y:Int}:(y<=x/\0<=aW (x-y))\/(x<y/\aW (x-y) = -1):=by
 unfold aW;by_cases h:x<y
 . exact .inr ⟨h,if_pos (by omega)⟩
 . refine .inl ⟨by omega,?_⟩;rw[if_neg (by omega)];split <;> omega
theorem XI (C:vC M){a b:AV}{za zb:Int}(ha:bD a za)(hb:bD b zb)(la:ah za<dB^N)(lb:ah zb<dB^N)(hN:N<=100000):∃v0,bD v0 (za+zb)/\cH M 170 [a,b] v0:=by
 obtain⟨na,x,l,rfl,hx,ok,nr,ll,hz,_,_⟩:=ha.abs la;obtain⟨nb,y,m,rfl,hy,ok',nr',lm,hz',_,_⟩:=hb.abs lb;have q218:=fun h=>C.rf l m x y h ok ok' nr nr' (by omega) (by omega) hx hy
 have goal:∃v0,bD v0 (za+zb)/\((na=nb/\∃r:List Int,(∀h,M.ext 206 [x,y] h=some ⟨.vs (aj r) r.length none,h,[]⟩)/\∀h,M.ext 196 [.bool na,.vs (aj r) r.length none] h=some ⟨v0,h,[]⟩)
  \/ (na≠nb/\0<=aW (WV dB l-WV dB m)/\∃r:List Int,(∀h,M.ext 219 [x,y] h=some ⟨.vs (aj r) r.length none,h,[]⟩)/\∀h,M.ext 196 [.bool na,.vs (aj r) r.length none] h=some ⟨v0,h,[]⟩)
  \/ (na≠nb/\aW (WV dB l-WV dB m) = -1/\∃r:List Int,(∀h,M.ext 219 [y,x] h=some ⟨.vs (aj r) r.length none,h,[]⟩)/\∀h,M.ext 196 [.bool nb,.vs (aj r) r.length none] h=some ⟨v0,h,[]⟩)):=by
  by_cases hn:na=nb
  . subst hn;obtain⟨r,okr,vr,lr,q206⟩:=C.JG l m none none ok ok' (by omega) (by omega);obtain⟨v0,h0,q196⟩:=C.jc na _ r (.inl rfl) okr (by omega);refine⟨v0,?_,.inl ⟨rfl,r,fun h=>q206 x y h hx.fJ hy.fJ,q196⟩⟩;have e:bm na (WV dB r)=za+zb:=by rw[hz,hz',vr];cases na <;> simp[bm] <;> omega
    rw[e]at h0;exact h0
  . rcases XH (x:=WV dB l) (y:=WV dB m) with ⟨h1,h2⟩|⟨h1,h2⟩
    . obtain⟨r,okr,nrr,vr,q219⟩:=C.Cd l m ok ok' nr nr' (by omega) (by omega) h1;have lr:r.length<=N:=fQ (b:=dB) (by decide) okr nrr (by
       have:=cR (b:=dB) (by decide) ok;have:=bT (b:=dB) (by decide) ok';have:dB^l.length<=dB^N:=fI (by decide) ll;omega)
      obtain⟨v0,h0,q196⟩:=C.jc na _ r (.inl rfl) okr (by omega);refine⟨v0,?_,.inr (.inl ⟨hn,h2,r,fun h=>q219 x y h hx hy,q196⟩)⟩;have e:bm na (WV dB r)=za+zb:=by rw[hz,hz',vr];cases na <;> cases nb <;> simp[bm]at hn ⊢ <;> omega
      rw[e]at h0;exact h0
    . obtain⟨r,okr,nrr,vr,q219⟩:=C.Cd m l ok' ok nr' nr (by omega) (by omega) (by omega);have lr:r.length<=N:=fQ (b:=dB) (by decide) okr nrr (by
       have:=cR (b:=dB) (by decide) ok';have:=bT (b:=dB) (by decide) ok;have:dB^m.length<=dB^N:=fI (by decide) lm;omega)
      obtain⟨v0,h0,q196⟩:=C.jc nb _ r (.inl rfl) okr (by omega);refine⟨v0,?_,.inr (.inr ⟨hn,h2,r,fun h=>q219 y x h hy hx,q196⟩)⟩;have e:bm nb (WV dB r)=za+zb:=by rw[hz,hz',vr];cases na <;> cases nb <;> simp[bm]at hn ⊢ <;> omega
      rw[e]at h0;exact h0
 obtain⟨v0,h0,goal⟩:=goal;refine⟨v0,h0,cI (by rw[C.ft];exact Xj) (by simp) ?_⟩;have out:=fun hh=>h0.out (hh:=hh)
 obtain⟨n0,x0,l0,rfl,hx0,o0,_,_⟩:=h0.shape;clear ha hb hz hz' h0;generalize aW (WV dB l-WV dB m)=g at *
 have hxs:x = .vs (aj l) l.length none\/x = .ae:=by rcases hx with h|⟨h,_⟩ <;> simp[h]
 have hys:y = .vs (aj m) m.length none\/y = .ae:=by rcases hy with h|⟨h,_⟩ <;> simp[h]
 clear hx hy;unfold Jq;simp only[enter];rcases goal with ⟨rfl,r,qa,qb⟩|⟨hn,hg,r,qa,qb⟩|⟨hn,rfl,r,qa,qb⟩
 . cases na;all_goals
   . rcases hxs with rfl|rfl;all_goals
     . rcases hys with rfl|rfl;all_goals
       . repeat' first|refine gd1 ?_|refine gd18 ?_|refine gd2 ?_|refine gc ?_|fail
         all_goals exact cA rfl rfl (out _)
 . cases na;all_goals
   . cases nb;all_goals first|exact absurd rfl hn|skip
     all_goals
     . rcases hxs with rfl|rfl;all_goals
       . rcases hys with rfl|rfl;all_goals
         . repeat' first|refine gd0 ?_|refine gd1 ?_|refine gd18 ?_|refine gd2 ?_|(apply aaE;rfl;rfl)|refine gc ?_|(intro _;omega)|intro _
           all_goals try omega
           all_goals exact cA rfl rfl (out _)
 . cases na;all_goals
   . cases nb;all_goals first|exact absurd rfl hn|skip
     all_goals
     . rcases hxs with rfl|rfl;all_goals
       . rcases hys with rfl|rfl;all_goals
         . repeat' first|refine gd0 ?_|refine gd1 ?_|refine gd18 ?_|refine gd2 ?_|(apply aaE;rfl;rfl)|refine gc ?_|(intro _;omega)|intro _
           all_goals try omega
           all_goals exact cA rfl rfl (out _)
theorem XJ (k n:Nat):dw (n/10^k%10)::cJ k n=cJ (k+1) n:=by
 refine HF (by simp[kQ]) fun j hj=>?_
 cases j with
 | zero=>rfl
 | succ j=>
  have e:(dw (n/10^k%10)::cJ k n)[j+1]! = (cJ k n)[j]! := by simp[List.getElem!_eq_getElem?_getD]
  rw[e,AZ (by omega),show k+1-1-(j+1)=k-1-j by omega]
theorem XL {d:Nat}(h:d<10):(([48,49,50,51,52,53,54,55,56,57]:aM).drop d).take (d+1-d)=[dw d]:=by
 match d,h with
 | 0,_=>rfl
 | 1,_=>rfl
 | 2,_=>rfl
 | 3,_=>rfl
 | 4,_=>rfl
 | 5,_=>rfl
 | 6,_=>rfl
 | 7,_=>rfl
 | 8,_=>rfl
 | 9,_=>rfl
theorem Ce:(10:Nat)^19=10000000000000000000:=rfl
theorem JH (hft:M.FT=FT)(n L:Nat)(hn:n<9223372036854775808)(hL:1<=L/\L<=18):∃k,L<=k/\n<10^k/\(k=L\/10^(k-1)<=n)/\aU M 117 [.iV (n:Nat),.iV (L:Nat)] [] ⟨.str (cJ k n),[],[]⟩:=by
 obtain⟨v,hh,⟨k,h1,h2,h3,rfl,rfl⟩,hr⟩:=gA (M:=M) (f:=117) (ars:=[.iV (n:Nat),.iV (L:Nat)]) (P:=fun v hh=>∃k,L<=k/\n<10^k/\(k=L\/10^(k-1)<=n)/\v = .str (cJ k n)/\hh=[]) (by rw[hft];exact Xn) (by simp) (by
  unfold Jv;simp only[enter];repeat' first|refine gc ?_|fail
  refine W.fH (fun m st=>∃j lo wr,st=⟨⟨[.iV (n/10^j:Nat),.iV L,.str [],.str (cJ j n)],lo,[],[]⟩,wr⟩/\m=20-j/\j<=20/\(j<=L\/10^(j-1)<=n)) (fun m st ⟨j,lo,wr,hst,hm,hj,hb⟩=>?_) (m:=20) ⟨0,[],[],by rw[Nat.pow_zero,Nat.div_one];rfl,rfl,by omega,.inl (by omega)⟩;subst hst;have hl:=kQ j n;by_cases hgo:0<n/10^j\/j<L
  . have hj19:j<19:=by
     rcases Nat.lt_or_ge j 19 with h|h
     . exact h
     . exfalso;have p:(10:Nat)^19<=10^j:=Nat.pow_le_pow_right (by decide) h;rw[Ce]at p;have:n/10^j=0:=Nat.div_eq_of_lt (by omega);omega
    have hd:n/10^j%10<10:=Nat.mod_lt _ (by decide);have ec:=XL hd;have ef:=XJ j n;have eq:n/10^j/10=n/10^(j+1):=by rw[Nat.div_div_eq_div_mul,Nat.pow_succ]
    have hb':j+1<=L\/10^(j+1-1)<=n:=by
     rcases hgo with h|h
     . right;rw[Nat.add_sub_cancel];refine Nat.le_of_not_lt fun h2=>?_
       rw[Nat.div_eq_of_lt h2]at h;omega
     . exact .inl h
    have hq:n/10^j<=n:=Nat.div_le_self _ _;obtain⟨q,hqq⟩:∃q,q=n/10^j:=⟨_,rfl⟩;rw[←hqq]at hd ec ef eq hq hgo;rw[←hqq];generalize cJ j n=s at *
    have e1:(((q:Nat):Int)%10).toNat=q%10:=by omega
    have e2:(((q:Nat):Int)%10+1).toNat=q%10+1:=by omega
    have ec':(([48,49,50,51,52,53,54,55,56,57]:aM).drop (((q:Nat):Int)%10).toNat).take ((((q:Nat):Int)%10+1).toNat-(((q:Nat):Int)%10).toNat)=[dw (q%10)]:=by rw[e1,e2];exact ec
    have l1:([dw (q%10)]:aM).length=1:=rfl;have fin:∀lo wr,LI (fun st=>∃m',m'<m/\∃j lo wr,st=⟨⟨[.iV (n/10^j:Nat),.iV L,.str [],.str (cJ j n)],lo,[],[]⟩,wr⟩/\m'=20-j/\j<=20/\(j<=L\/10^(j-1)<=n))
     (BQ 0 (SQ M (zR [zm 24 3,zw 2 24] (.ret)) (fun e s=>(e = .normal\/e = .ret)/\s.s.bA=[]/\∃vs,cU s.s [.var (.p 2)]=some vs/\∃k,L<=k/\n<10^k/\(k=L\/10^(k-1)<=n)/\aQ vs = .str (cJ k n)/\(if (aQ vs).top<=0 then [] else s.s.hp)=[])))
     .normal ⟨⟨[.iV (((q:Nat):Int)/10),.iV L,.str [],.str ([dw (q%10)]++s)],lo,[],[]⟩,wr⟩:=fun lo wr=>
     cL ⟨20-(j+1),by omega,j+1,lo,wr,by
      rw[←ef,←eq];rfl,rfl,by omega,hb'⟩
    unfold BU;exact gg20
  . have h0:n/10^j=0:=(Nat.eq_zero_or_pos _).resolve_right fun h=>hgo (.inl h)
    rw[h0];have hlt:n<10^j:=by
     refine Nat.lt_of_not_le fun h=>?_
     have:=Nat.div_pos h (Nat.pow_pos (by decide));omega
    have hk:j=L\/10^(j-1)<=n:=by omega
    unfold BU;repeat' first|(apply aab;rfl;rfl)|(apply aah;rfl;rfl)|refine gc ?_|(intro _;omega)|intro _
    all_goals try omega
    all_goals exact⟨.inr rfl,rfl,_,rfl,j,by omega,hlt,hk,rfl,rfl⟩)
 exact⟨k,h1,h2,h3,hr⟩
theorem XM (hft:M.FT=FT)(n:Nat)(hn:n<9223372036854775808):aU M 117 [.iV (n:Nat),.iV 1] [] ⟨.str (aX n),[],[]⟩:=by
 obtain⟨k,h1,h2,h3,hr⟩:=JH hft n 1 (by omega) (by decide);obtain⟨k,rfl⟩:∃j,k=j+1:=⟨k-1,by omega⟩;rw[Nat.add_sub_cancel]at h3;rw[HG h2 (by omega)];exact hr
theorem XO (hft:M.FT=FT)(n:Nat)(hn:n<1000000000):aU M 117 [.iV (n:Nat),.iV 9] [] ⟨.str (cJ 9 n),[],[]⟩:=by
 obtain⟨k,h1,h2,h3,hr⟩:=JH hft n 9 (by omega) (by decide);have:k=9:=by
  rcases h3 with h|h
  . exact h
  . refine Nat.le_antisymm (Nat.le_of_not_lt fun h9=>?_) h1;have p:(10:Nat)^9<=10^(k-1):=Nat.pow_le_pow_right (by decide) (by omega);have e:(10:Nat)^9=1000000000:=rfl;omega
 subst this;exact hr
structure JI (M:ao):Prop where
 ft:M.FT=FT
 JJ:∀(n:Nat) h,n<1000000000->M.ext 117 [.iV (n:Nat),.iV 1] h=some ⟨.str (aX n),h,[]⟩
 JK:∀(n:Nat) h,n<1000000000->M.ext 117 [.iV (n:Nat),.iV 9] h=some ⟨.str (cJ 9 n),h,[]⟩
theorem JL {x:Int}(h:0<=x/\x<1000000000):∃n:Nat,x=(n:Int)/\n<1000000000:=⟨x.toNat,by omega,by omega⟩
theorem XP (C:JI M){a:AV}{z:Int}(ha:bD a z)(lz:ah z<dB^N)(hN:N<=100000):aU M 138 [a] [] ⟨.str (cT z),[],[]⟩:=by
 obtain⟨neg,x,l,rfl,hx,ok,nr,ll,hz,hv,hnn⟩:=ha.abs lz;by_cases h0:l=[]
 . subst h0;have hneg:neg=false:=by
    cases neg with
    | false=>rfl
    | true=>exact absurd rfl (hnn rfl)
   subst hneg;have z0:z=0:=by rw[hz];rfl
   subst z0;have e0:cT 0=[48]:=by rw[mz (by decide)];exact kR (by decide)
   rw[e0];refine bO (by rw[C.ft];exact Jw) (by simp) ?_;have hl0:([]:List Int).length=0:=rfl;unfold BV;simp only[enter];rcases hx with rfl|⟨rfl,_⟩;all_goals
   . exact gg7
 . obtain rfl:x = .vs (aj l) l.length none:=hx.resolve_right fun h=>h0 h.2
   have hl0:0<l.length:=List.length_pos_iff.2 h0;have hzs:cT z=(if neg then 45::aX (WV dB l).toNat else aX (WV dB l).toNat):=by
    have hp:=(iS (b:=dB) (by decide) ok nr).2 h0;rw[hz];cases neg with
    | false=>
     have e:bm false (WV dB l)=WV dB l:=rfl;rw[e,mz (by omega),cd (by omega)];rfl
    | true=>
     have e:bm true (WV dB l) = -WV dB l:=rfl;rw[e,qN (by omega),ib,cd (by omega)];rfl
   have dlen:∀k,k<=l.length->(aX (WV dB (l.drop (l.length-k))).toNat).length<=9*k+1:=fun k hk=>by
    refine uK (k:=9*k+1) ?_ (by omega);have h1:=cR (b:=dB) (by decide) (hC ok (l.length-k));have h2:=bT (b:=dB) (by decide) (hC ok (l.length-k));rw[List.length_drop,show l.length-(l.length-k)=k by omega,←IT]at h1;have:(10:Nat)^(9*k+1)=10^(9*k)*10:=Nat.pow_succ ..;omega
   have hlast:=(zV hl0).1 nr;have gl:=bL ok (i:=l.length-1) (by omega);have gl:0<=l[l.length-1]! /\ l[l.length-1]! < 1000000000:=gl;obtain⟨n0,hn0,hn0l⟩:=JL gl;have eIl:(((l.length:Int))-1).toNat=l.length-1:=by omega
   have q1:∀h,M.ext 117 [.iV l[(((l.length:Int))-1).toNat]!,.iV 1] h=some ⟨.str (aX n0),h,[]⟩:=fun h=>by rw[eIl,hn0];exact C.JJ n0 h hn0l
   have ed0:(WV dB (l.drop (l.length-1))).toNat=n0:=by
    rw[List.drop_eq_getElem_cons (show l.length-1<l.length by omega),show l.length-1+1=l.length by omega,List.drop_length,←getElem!_pos l (l.length-1) (by omega),hn0];simp[WV]
   refine bO (by rw[C.ft];exact Jw) (by simp) ?_;unfold BV;simp only[enter];repeat' first|(apply aak;rfl;rfl)|refine gd0 ?_|refine gd2 ?_|refine gc ?_|(intro _;omega)|intro _
   all_goals try omega
   refine W.fH (fun m st=>∃k lo wr,st=⟨⟨[.agg [.bool neg,.vs (aj l) l.length none],.ptr 0 0,.str [],.str (aX (WV dB (l.drop (l.length-k))).toNat),.iV ((l.length:Int)-1-(k:Nat))],lo,[some (.cells [.bool neg,.vs (aj l) l.length none] 162)],[]⟩,wr⟩/\m=l.length-k/\1<=k/\k<=l.length) (fun m st ⟨k,lo,wr,hst,hm,hk1,hk⟩=>?_) (m:=l.length-1) ⟨1,_,_,by rw[ed0,show (l.length:Int)-1-((1:Nat):Int)=(l.length:Int)-2 by omega];rfl,rfl,by omega,by omega⟩;subst hst;have dk:=dlen k hk;by_cases hend:k=l.length
   . subst hend;have e0:l.drop (l.length-l.length)=l:=by rw[Nat.sub_self,List.drop_zero]
     rw[e0]at dk ⊢;have l45:([45]:aM).length=1:=rfl;rw[hzs];generalize aX (WV dB l).toNat=s0 at *
     cases neg with
     | true=>
      unfold vy;exact gg0
     | false=>
      unfold vy;exact gg0
   . have gi:=bL ok (i:=l.length-1-k) (by omega);have gi:0<=l[l.length-1-k]! /\ l[l.length-1-k]! < 1000000000:=gi;obtain⟨ni,hni,hnil⟩:=JL gi;have eIi:(((l.length:Int))-1-(k:Nat)).toNat=l.length-1-k:=by omega
     have q2:∀h,M.ext 117 [.iV l[(((l.length:Int))-1-(k:Nat)).toNat]!,.iV 9] h=some ⟨.str (cJ 9 ni),h,[]⟩:=fun h=>by rw[eIi,hni];exact C.JK ni h hnil
     have hnext:aX (WV dB (l.drop (l.length-(k+1)))).toNat=aX (WV dB (l.drop (l.length-k))).toNat++cJ 9 ni:=by
      have e1:l.drop (l.length-(k+1))=(ni:Int)::l.drop (l.length-k):=by
       rw[List.drop_eq_getElem_cons (show l.length-(k+1)<l.length by omega),←getElem!_pos l (l.length-(k+1)) (by omega),show l.length-(k+1)=l.length-1-k by omega,hni,show l.length-1-k+1=l.length-k by omega]
      have h0:=bT (b:=dB) (by decide) (hC ok (l.length-k));have hp:0<WV dB (l.drop (l.length-k)):=by
       refine(iS (b:=dB) (by decide) (hC ok _) ?_).2 (fun e=>?_)
       . refine(zV (by rw[List.length_drop];omega)).2 ?_;rw[List.length_drop,List.getElem!_eq_getElem?_getD,List.getElem?_drop,show l.length-k+(l.length-(l.length-k)-1)=l.length-1 by omega,←List.getElem!_eq_getElem?_getD];exact hlast
       . have:=congrArg List.length e;rw[List.length_drop,List.length_nil]at this;omega
      obtain⟨A,hA⟩:∃A:Nat,WV dB (l.drop (l.length-k))=(A:Int):=⟨_,(Int.toNat_of_nonneg h0).symm⟩;have e2:WV dB ((ni:Int)::l.drop (l.length-k))=((A*10^9+ni:Nat):Int):=by
       show (ni:Int)+dB*WV dB (l.drop (l.length-k))=_;rw[hA];show (ni:Int)+1000000000*A=_;omega
      rw[e1,e2,hA,Int.toNat_natCast,Int.toNat_natCast];exact HH (by omega) (by show ni<1000000000;exact hnil)
     have hl9:=kQ 9 ni;generalize aX (WV dB (l.drop (l.length-k))).toNat=s0 at *
     generalize cJ 9 ni=s9 at *
     have next:∀lo wr Q,LI (fun st=>∃m',m'<m/\∃k lo wr,st=⟨⟨[.agg [.bool neg,.vs (aj l) l.length none],.ptr 0 0,.str [],.str (aX (WV dB (l.drop (l.length-k))).toNat),.iV ((l.length:Int)-1-(k:Nat))],lo,[some (.cells [.bool neg,.vs (aj l) l.length none] 162)],[]⟩,wr⟩/\m'=l.length-k/\1<=k/\k<=l.length) Q .normal ⟨⟨[.agg [.bool neg,.vs (aj l) l.length none],.ptr 0 0,.str [],.str (s0++s9),.iV ((l.length:Int)-1-(k:Nat)-1)],lo,[some (.cells [.bool neg,.vs (aj l) l.length none] 162)],[]⟩,wr⟩:=fun lo wr Q=>
      cL ⟨l.length-(k+1),by omega,k+1,lo,wr,by rw[hnext,show (l.length:Int)-1-((k+1:Nat):Int)=(l.length:Int)-1-(k:Nat)-1 by omega],rfl,by omega,by omega⟩
     unfold vy;exact gg9
section
variable {t:Nat} {x y:ax} {l:List aO} {pe:List AV} {lo:List (Nat×AV)} {hp:ab} {df wr:List Nat} {v a d:Int} {Q:al->Prop}
theorem abI (hx:(St.mk pe lo hp df).aa x=some (.iV a))(hy:(St.mk pe lo hp df).aa y=some (.iV d))(ha : -9223372036854775808<=a/\a<9223372036854775808)(hd:0<d)(hv:a.tdiv d=v)
 (h:WO M l ⟨⟨pe,(t,.iV v)::lo,hp,df⟩,wr⟩ Q):WO M (⟨.l t,.bin .quo x y,none⟩::l) ⟨⟨pe,lo,hp,df⟩,wr⟩ Q:=abj hx hy hd ha (by rw[hv];exact h)
theorem aca (hx:(St.mk pe lo hp df).aa x=some (.iV a))(hy:(St.mk pe lo hp df).aa y=some (.iV d))(hd:0<d)(hv:a.tmod d=v)
 (h:WO M l ⟨⟨pe,(t,.iV v)::lo,hp,df⟩,wr⟩ Q):WO M (⟨.l t,.bin .rem x y,none⟩::l) ⟨⟨pe,lo,hp,df⟩,wr⟩ Q:=abk hx hy (by omega) (by rw[hv];exact h)
end
theorem XQ {neg:Bool}{m:Int}(h:0<=m):(bm neg m).tmod 1000000000=bm neg (m%1000000000):=by
 cases neg with
 | false=>exact Int.tmod_eq_emod_of_nonneg h
 | true=>show (-m).tmod _=_;rw[Int.neg_tmod,Int.tmod_eq_emod_of_nonneg h];rfl
theorem XR {neg:Bool}{m:Int}(h:0<=m):(bm neg m).tdiv 1000000000=bm neg (m/1000000000):=by
 cases neg with
 | false=>exact Int.tdiv_eq_ediv_of_nonneg h
 | true=>show (-m).tdiv _=_;rw[Int.neg_tdiv,Int.tdiv_eq_ediv_of_nonneg h];rfl
theorem XS (hft:M.FT=FT)(dr:∀ars h,M.ext 242 ars h=none)(neg:Bool)(K:ab):aU M 196 [.bool neg,.ae] K ⟨.agg [.bool false,.ae],K,[]⟩:=by
 have q1:=fun K=>CT.run (fi:=[]) (ca:=[]) (ars:=[.ae]) (dr _ _) (Cb hft K)
 refine kD (by rw[hft];exact uX) (by simp) (by simp[AV.top,aY]) ?_;unfold qV;simp only[enter];cases neg with
 | false=>
  exact gg2
 | true=>
  exact gg2
structure XT (M:ao):Prop where
 ft:M.FT=FT
 dr:∀ars h,M.ext 242 ars h=none
 qZ:∀ars h,M.ext 196 ars h=none
theorem JM:(dB:Int)^3=1000000000000000000000000000:=by decide
theorem XU (C:XT M)(n:Int)(hn : -9223372036854775808<=n/\n<9223372036854775808):∃v0,bD v0 n/\cH M 139 [.iV n] v0:=by
 obtain⟨neg,m0,hm0,rfl,hneg⟩:∃(neg:Bool) (m:Int),0<=m/\n=bm neg m/\neg=decide (n<0):=by
  by_cases h:n<0
  . exact⟨true,-n,by omega,by show n = - -n;omega,(decide_eq_true h).symm⟩
  . exact⟨false,n,by omega,rfl,(decide_eq_false h).symm⟩
 have hmb:m0<=9223372036854775808:=by cases neg <;> simp[bm]at hn <;> omega
 obtain⟨v,hh,⟨v0,h0,ho⟩,hr⟩:=gA (M:=M) (f:=139) (ars:=[.iV (bm neg m0)]) (P:=fun v hh=>∃v0,bD v0 (bm neg m0)/\eZ v hh v0) (by rw[C.ft];exact Wc) (by simp) (by
  have start:∀(Q:Ex->al->Prop),(∀lo wr,W M (.loop oF) ⟨⟨[.iV (bm neg m0),.ptr 0 0,.ae,.bool neg,bJ],lo,[some (.cells [.bool false,.ae] 162)],[]⟩,wr⟩ (BQ 0 (SQ M (zR [zm 22 3,
   zm 23 2,
   z2 24 196 22 23,
   zs 2 1 24]
   (.ret)) Q)))->W M Bx ⟨⟨[.iV (bm neg m0),bJ,bJ,bJ,bJ],[],[],[]⟩,[]⟩ Q:=fun Q hQ=>by
   unfold Bx;cases neg with
   | true=>
    have h1:bm true m0<0:=of_decide_eq_true hneg.symm;generalize bm true m0=z at *
    exact gg1
   | false=>
    have h1:¬bm false m0<0:=of_decide_eq_false hneg.symm;generalize bm false m0=z at *
    exact gg1
  simp only[enter];refine start _ fun lo wr=>?_
  refine W.fH (fun k st=>∃m acc o a4 K lo wr,st=⟨⟨[.iV (bm neg m),.ptr 0 0,o,.bool neg,a4],lo,K,[]⟩,wr⟩/\0<=m/\k=m.toNat/\m<=m0/\(acc=[]->o = .ae)/\acc.length<=3/\m<dB^(3-acc.length)/\okW dB acc/\WV dB acc+dB^acc.length*m=m0/\bP iC 1 3 K o acc [0]/\K.at 0=some (.cells [.bool false,.ae] 162))
   (fun k st ⟨m,acc,o,a4,K,lo,wr,hst,hm,hk,hmx,hnil,hla,hlt,oA,hv,ho,hK⟩=>?_) (m:=m0.toNat) ⟨m0,[],.ae,_,_,_,_,rfl,hm0,rfl,Int.le_refl _,fun _=>rfl,by simp,by show m0<dB^3;rw[JM];omega,gH,by simp[WV],.nH,rfl⟩
  subst hst;have hK1:=dQ hK;by_cases hz:m=0
  . subst hz;have e0:bm neg 0=0:=by cases neg <;> rfl
    rw[e0];rw[Int.mul_zero,Int.add_zero]at hv;rcases ho with ⟨rfl,rfl⟩|⟨c,cp,hc0,rfl,hc,hcap⟩
    . have q:=fun K=>CT.run (fi:=[]) (ca:=[]) (ars:=[.bool neg,.ae]) (C.qZ _ _) (XS C.ft C.dr neg K)
      have z0:m0=0:=by rw[←hv];rfl
      subst z0;have out:∃v0,bD v0 (bm neg 0)/\∀hh,eZ (.agg [.bool false,.ae]) hh v0:=⟨_,⟨false,.ae,[],rfl,.inr ⟨rfl,rfl⟩,gH,iK,by rw[e0];rfl,fun h=>by cases h⟩,fun hh=>.same rfl rfl⟩;obtain⟨v0,k0,out⟩:=out;unfold oF;exact gg15
    . have hpos:0<acc.length\/acc.length=0:=by omega
      rcases hpos with hp|hp
      . obtain rfl:cp=none:=hcap.resolve_right fun h=>by rw[h.1]at hp;simp at hp
        have q196:=CT.run (fi:=[]) (ca:=[]) (ars:=[.bool neg,.sl c 0 acc.length 1 none]) (C.qZ _ _) (IS (cap:=none) C.ft C.dr neg hc hp (Nat.le_refl _) (by omega) (fun _ h=>by cases h));have hcn:c≠0:=fun e=>hc0 (by simp[e])
        obtain⟨v0,k0,o0⟩:=IU (K:=K.put 0 (some (.cells [.bool (neg && decide (0<aL (acc.take acc.length))),bl c (aL (acc.take acc.length)) none] 162))) (neg:=neg) (jR hcn hc) oA;have k0:=k0.BF;rw[hv]at k0;have hone:cw (bl c (aL (acc.take acc.length)) none)=true:=by unfold bl;split <;> rfl
        unfold oF;exact gg15
      . have ha:acc=[]:=List.eq_nil_of_length_eq_zero hp;have:=hnil ha;cases this
  . have hm1:1<=m:=by omega
    have hl2:acc.length<=2:=by
     refine Nat.le_of_not_lt fun h=>?_
     have:acc.length=3:=by omega
     rw[this]at hlt;simp at hlt;omega
    have hmod:=XQ (neg:=neg) hm;have hdiv:=XR (neg:=neg) hm;obtain⟨r,hr⟩:∃r,r=m%1000000000:=⟨_,rfl⟩;obtain⟨q,hq⟩:∃q,q=m/1000000000:=⟨_,rfl⟩;rw[←hr]at hmod;rw[←hq]at hdiv;have hroom:(acc.length+1)*8<=dh:=by unfold dh;omega
    have hnz:bm neg m≠0:=by cases neg <;> simp[bm] <;> omega
    have hrange : -9223372036854775808<=bm neg m/\bm neg m<9223372036854775808:=by
     cases neg <;> simp[bm]at hn ⊢ <;> omega
    have next:∀(o':AV) H a4 lo wr Q,bP iC 1 3 H o' (acc++[r]) [0]->H.at 0=some (.cells [.bool false,.ae] 162)->LI (fun st=>∃k',k'<k/\∃m acc o a4 K lo wr,st=⟨⟨[.iV (bm neg m),.ptr 0 0,o,.bool neg,a4],lo,K,[]⟩,wr⟩/\0<=m/\k'=m.toNat/\m<=m0/\(acc=[]->o = .ae)/\acc.length<=3/\m<dB^(3-acc.length)/\okW dB acc/\WV dB acc+dB^acc.length*m=m0/\bP iC 1 3 K o acc [0]/\K.at 0=some (.cells [.bool false,.ae] 162)) Q .normal ⟨⟨[.iV (bm neg q),.ptr 0 0,o',.bool neg,a4],lo,H,[]⟩,wr⟩:=fun o' H a4 lo wr Q ho' hH=>
     cL ⟨q.toNat,by omega,q,acc++[r],o',a4,H,lo,wr,rfl,by omega,rfl,by omega,fun h=>by simp at h,by simp;omega,by
      have e:dB^(3-acc.length)=dB^(3-(acc++[r]).length)*dB:=by
       rw[←Int.pow_succ,List.length_append,List.length_singleton];congr 1;omega
      rw[e]at hlt;rw[hq];exact Int.ediv_lt_of_lt_mul (by decide) hlt,iu oA (fun z hz=>by rw[List.mem_singleton.1 hz];exact⟨by omega,by show _<(1000000000:Int);omega⟩),by
      rw[fh,List.length_append,List.length_singleton,Int.pow_succ,←hv];have e1:WV dB [r]=r:=by simp[WV]
      have e2:m=r+1000000000*q:=by omega
      rw[e1,e2];show WV dB acc+dB^acc.length*r+dB^acc.length*1000000000*q=_;grind,ho',hH⟩
    have hr9:0<=r/\r<1000000000:=by omega
    have fin:∀rv,rv=r->∀(o':AV) H a4 lo wr Q,bP iC 1 3 H o' (acc++[rv]) [0]->H.at 0=some (.cells [.bool false,.ae] 162)->LI (fun st=>∃k',k'<k/\∃m acc o a4 K lo wr,st=⟨⟨[.iV (bm neg m),.ptr 0 0,o,.bool neg,a4],lo,K,[]⟩,wr⟩/\0<=m/\k'=m.toNat/\m<=m0/\(acc=[]->o = .ae)/\acc.length<=3/\m<dB^(3-acc.length)/\okW dB acc/\WV dB acc+dB^acc.length*m=m0/\bP iC 1 3 K o acc [0]/\K.at 0=some (.cells [.bool false,.ae] 162)) Q .normal ⟨⟨[.iV (bm neg q),.ptr 0 0,o',.bool neg,a4],lo,H,[]⟩,wr⟩:=fun rv e=>by subst e;exact next
    clear next
    obtain⟨d,hd⟩:∃d,d=bm neg r:=⟨_,rfl⟩;rw[←hd]at hmod;by_cases hdn:d<0
    . have e:0-d=r:=by cases neg <;> simp[bm]at hd <;> omega
      unfold oF;exact gg9
    . have e:d=r:=by cases neg <;> simp[bm]at hd <;> omega
      unfold oF;repeat' first|(apply aca (v:=d);rfl;rfl;omega;exact hmod)|(apply abI (v:=bm neg q);rfl;rfl;exact hrange;omega;exact hdiv)|(refine bP.app (f:=iC) (m:=[d]) (S:=[0]) (fun _=>rfl) (fun _=>rfl) (by decide) (ho.grow [_]) (by simp) rfl rfl (Sl.ir (f:=iC) (esz:=1) (l:=[d]) (e:=3) (fun _=>rfl) cN rfl) hroom (fun H w' o' ho' hk hlen=>?_))|(apply aab;rfl;rfl)|(apply aaF;rfl;rfl)|refine gc ?_|(intro _;omega)|intro _
      all_goals try omega
      all_goals exact fin _ e _ _ _ _ _ _ ho' (hk 0 _ (by simp) (de hK)))
 exact⟨v0,h0,v,hh,ho,hr⟩
theorem XV (hft:M.FT=FT)(b:List Int)(q218:∀h,M.ext 218 [.ae,.vs (aj b) b.length c2] h=some ⟨.iV (-1),h,[]⟩):aU M 195 [.ae,.vs (aj b) b.length c2] [] ⟨.aq [.ae,.ae],[],[]⟩:=by
 refine bO (by rw[hft];exact IF) (by simp) ?_;unfold Bz;simp only[enter];exact gg14
structure JN (M:ao):Prop where
 ft:M.FT=FT
 mF:∀(x:AV) (a b:List Int),bX x a->okW dB a->okW dB b->aN a->aN b->a.length<100000->b.length<100000->b≠[]->∃qv q rv r,bX qv q/\bX rv r/\okW dB q/\aN q/\okW dB r/\aN r/\WV dB q=WV dB a/WV dB b/\WV dB r=WV dB a%WV dB b/\∀h,M.ext 195 [x,.vs (aj b) b.length none] h=some ⟨.aq [qv,rv],h,[]⟩
theorem XW (C:JN M){x y:AV}(a b:List Int)(hx:bX x a)(hy:bX y b)(oa:okW dB a)(ob:okW dB b)(na:aN a)(nb:aN b)(la:a.length<100000)(lb:b.length<100000) :
 ∃gv g,bX gv g/\okW dB g/\aN g/\WV dB g=(Int.gcd (WV dB a) (WV dB b):Nat)/\g.length<100000/\cH M 155 [x,y] gv:=by
 obtain⟨v,hh,⟨gv,g,ig,og,ng,vg,lg,ho⟩,hr⟩:=gA (M:=M) (f:=155) (ars:=[x,y]) (P:=fun v hh=>∃gv g,bX gv g/\okW dB g/\aN g/\WV dB g=(Int.gcd (WV dB a) (WV dB b):Nat)/\g.length<100000/\eZ v hh gv) (by rw[C.ft];exact Wd) (by simp) (by
  unfold IE;simp only[enter];repeat' first|refine gc ?_|fail
  refine W.fH (fun m st=>∃A B xA y a3 lo wr,st=⟨⟨[xA,y,.ae,a3],lo,[],[]⟩,wr⟩/\bX xA A/\bX y B/\m=(WV dB B).toNat/\okW dB A/\aN A/\A.length<100000/\okW dB B/\aN B/\B.length<100000/\Int.gcd (WV dB A) (WV dB B)=Int.gcd (WV dB a) (WV dB b))
   (fun m st ⟨A,B,xA,y,a3,lo,wr,hst,hxA,hy,hm,oA,nA,lA,oB,nB,lB,hg⟩=>?_) (m:=(WV dB b).toNat) ⟨a,b,x,y,_,_,_,rfl,hx,hy,rfl,oa,na,la,ob,nb,lb,rfl⟩
  subst hst;by_cases hB:B=[]
  . subst hB;have hl0:([]:List Int).length=0:=rfl;obtain⟨_,t1,k1⟩:=ra xA hxA;have fin:eZ (aQ [xA]) (if (aQ [xA]).top<=0 then [] else []) xA:=.same t1 k1;have hv:WV dB A=(Int.gcd (WV dB a) (WV dB b):Nat):=by
     rw[←hg];have:=bT (b:=dB) (by decide) oA;show WV dB A=(Int.gcd (WV dB A) 0:Nat);rw[Int.gcd_zero_right];omega
    rcases hy with rfl|⟨rfl,_⟩;all_goals
    . unfold By;exact gg4
  . obtain rfl:y = .vs (aj B) B.length none:=hy.resolve_right fun h=>hB h.2
    have hBl:0<B.length:=List.length_pos_iff.2 hB;have hBp:=(iS (b:=dB) (by decide) oB nB).2 hB;have hA0:=bT (b:=dB) (by decide) oA;obtain⟨qv,q,rv,r,hq,hr,_,_,or_,nr,vq,vr,q195⟩:=C.mF xA A B hxA oA oB nA nB lA lB hB;have r1:=Int.emod_lt_of_pos (WV dB A) hBp;have r0:=Int.emod_nonneg (WV dB A) (show WV dB B≠0 by omega);have lr:r.length<=B.length:=fQ (b:=dB) (by decide) or_ nr (Int.lt_trans (by rw[vr];exact r1) (cR (by decide) oB));have hg2:Int.gcd (WV dB B) (WV dB r)=Int.gcd (WV dB a) (WV dB b):=by
     rw[←hg,vr,Hn]
    unfold By;repeat' first|(apply aah;rfl;rfl)|refine gd0 ?_|refine gc ?_|(intro _;omega)|intro _
    all_goals try omega
    all_goals exact cL ⟨(WV dB r).toNat,by rw[vr];omega,B,r,_,rv,_,_,_,rfl,.inl rfl,hr,rfl,oB,nB,lB,or_,nr,by omega,hg2⟩)
 exact⟨gv,g,ig,og,ng,vg,lg,v,hh,ho,hr⟩
theorem XX (hft:M.FT=FT)(s:aM)(_hl:s.length<1000000)(hb:mA s=false)(q153:∀h,M.ext 153 [.str s] h=some ⟨.iV (cg s),h,[]⟩){v1 v2:AV}{z1 z2:Int}(k1:bD v1 z1)(k2:bD v2 z2)(qa:∀h,M.ext 193 [.str s] h=some ⟨v1,h,[]⟩)(qb:∀h,M.ext 139 [.iV 1] h=some ⟨v2,h,[]⟩):cH M 135 [.str s] (.aq [v1,v2]):=by
 have hk:cg s=s.length:=by
  unfold cg;have hn:(bM 47 s).2=none:=by
   unfold mA at hb;cases h:(bM 47 s).2 with
   | none=>rfl
   | some y=>rw[h]at hb;cases hb
  rw[(qP hn).1]
 rw[hk]at q153;obtain⟨n1,x1,l1,rfl,_,o1,t1,b1⟩:=k1.shape;obtain⟨n2,x2,l2,rfl,_,o2,t2,b2⟩:=k2.shape;refine cI (by rw[hft];exact IB) (by simp) ?_;unfold Bw;simp only[enter];refine gg18 ?_;refine cA rfl rfl (.same ?_ ?_)
 . show max (max 0 (max x1.top 0)) (max (max 0 (max x2.top 0)) 0)=0;rw[t1,t2];rfl
 . show AV.aq [.agg [.bool n1,bx x1],.agg [.bool n2,bx x2]]=_;rw[b1,b2]
structure vD (M:ao)(N:Nat):Prop where
 ft:M.FT=FT
 vE:∀{a z},bD a z->ah z<dB^N->∃v0,bD v0 (-z)/\∀h,M.ext 194 [a] h=some ⟨v0,h,[]⟩
 Cf:∀{x y:AV} (a b:List Int),bX x a->bX y b->okW dB a->okW dB b->aN a->aN b->a.length<100000->b.length<100000->∃gv g,bX gv g/\okW dB g/\aN g/\WV dB g=(Int.gcd (WV dB a) (WV dB b):Nat)/\g.length<100000/\∀h,M.ext 155 [x,y] h=some ⟨gv,h,[]⟩
 mF:∀(x:AV) (a b:List Int),bX x a->okW dB a->okW dB b->aN a->aN b->a.length<100000->b.length<100000->b≠[]->∃qv q rv r,bX qv q/\bX rv r/\okW dB q/\aN q/\okW dB r/\aN r/\WV dB q=WV dB a/WV dB b/\WV dB r=WV dB a%WV dB b/\∀h,M.ext 195 [x,.vs (aj b) b.length none] h=some ⟨.aq [qv,rv],h,[]⟩
 jc:∀neg x l,bX x l->okW dB l->l.length<1000000000->∃v0,bD v0 (bm neg (WV dB l))/\∀h,M.ext 196 [.bool neg,x] h=some ⟨v0,h,[]⟩
 vF:∀{a z} h,bD a z->ah z<dB^N->M.ext 138 [a] h=some ⟨.str (cT z),h,[]⟩
def rj (res:List fc)(r:AV)(e:Ex)(s:al):Prop:=(e = .normal\/e = .ret)/\s.s.bA=[]/\∃vs,cU s.s res=some vs/\aQ vs=r/\(if r.top<=0 then [] else s.s.hp)=[]
theorem Cg {neg:Bool}{z:Int}(h:0<=z):ah (bm neg z)=z:=by
 unfold ah bm;cases neg <;> simp <;> omega
theorem XY {z:Int}(h:0<=z):cT z=aX z.toNat:=if_neg (by omega)
theorem XZ {neg:Bool}{a b:Int}(hb:0<b):(Rat.divInt (bm neg a) b).num=bm neg (a/(Int.gcd a b:Nat))/\((Rat.divInt (bm neg a) b).den:Int)=b/(Int.gcd a b:Nat):=by
 obtain⟨k1,k2,e1,e2,e3,e4⟩:=uA (n:=bm neg a) hb;have hg:Int.gcd (bm neg a) b=Int.gcd a b:=by cases neg <;> simp[bm]
 rw[hg]at e1 e2;have g0:((Int.gcd a b:Nat):Int)≠0:=by
  have:=Int.gcd_pos_of_ne_zero_right a (show b≠0 by omega);omega
 rw[e3,e4];constructor
 . cases neg with
   | false=>
    have e1:a=(Int.gcd a b:Nat)*k1:=e1;show k1=a/_;exact(Int.ediv_eq_of_eq_mul_right g0 e1).symm
   | true=>
    have e1 : -a=(Int.gcd a b:Nat)*k1:=e1;show k1 = -(a/_);rw[Int.ediv_eq_of_eq_mul_right g0 (show a=(Int.gcd a b:Nat)*(-k1) by rw[Int.mul_neg,←e1];omega)];omega
 . exact(Int.ediv_eq_of_eq_mul_right g0 e2).symm
theorem DO (C:vD M N)(hN:N<100000){neg:Bool}{x y:AV}{l m:List Int}(hx:bX x l)(hy:bX y m)(ol:okW dB l)(om:okW dB m)(nl:aN l)(nm:aN m)(ll:l.length<=N)(lm:m.length<=N)(hm:m≠[])(a0 a1 a5 a6 a7 a8:AV)(lo:List (Nat×AV))(wr:List Nat) :
 W M t136 ⟨⟨[a0,a1,.ptr 0 0,.ptr 1 0,.str [],a5,a6,a7,a8],lo,[some (.cells [.bool neg,x] 162),some (.cells [.bool false,y] 162)],[]⟩,wr⟩ (rj [.var (.p 4)] (.str (aw (Rat.divInt (bm neg (WV dB l)) (WV dB m))))):=by
 have m0:=(iS (b:=dB) (by decide) om nm).2 hm;have l0:=bT (b:=dB) (by decide) ol;obtain⟨en,ed⟩:=XZ (neg:=neg) (a:=WV dB l) m0;obtain⟨gv,g,hg,og,ng,vg,lg,q155⟩:=C.Cf l m hx hy ol om nl nm (by omega) (by omega);have g0:0<WV dB g:=by
  rw[vg];have:=Int.gcd_pos_of_ne_zero_right (WV dB l) (show WV dB m≠0 by omega);omega
 have hg1:g≠[]:=(iS (b:=dB) (by decide) og ng).1 g0;obtain rfl:gv = .vs (aj g) g.length none:=hg.resolve_right fun h=>hg1 h.2
 obtain⟨pv,p,_,_,hp,_,op,np,_,_,vp,_,qa⟩:=C.mF x l g hx ol og nl ng (by omega) lg hg1;obtain⟨qv,q,_,_,hq,_,oq,nq,_,_,vq,_,qb⟩:=C.mF y m g hy om og nm ng (by omega) lg hg1;rw[vg]at vp vq;rw[←vp]at en;rw[←vq]at ed;have lw:∀{r:List Int},r.length<=N->okW dB r->WV dB r<dB^N:=fun h o=>Int.lt_of_lt_of_le (cR (by decide) o) (fI (by decide) h)
 have le_div:∀{a b:Int},0<=a->0<b->a/b<=a:=fun h1 h2=>Int.ediv_le_self _ h1
 have p0:=bT (b:=dB) (by decide) op;have q0:=bT (b:=dB) (by decide) oq;have lp:WV dB p<dB^N:=Int.lt_of_le_of_lt (by rw[vp];exact Int.ediv_le_self _ l0) (lw ll ol);have lq:WV dB q<dB^N:=Int.lt_of_le_of_lt (by rw[vq];exact Int.ediv_le_self _ (Int.le_of_lt m0)) (lw lm om);have ln:=fQ (b:=dB) (by decide) op np lp;have lk:=fQ (b:=dB) (by decide) oq nq lq;obtain⟨v1,k1,q1⟩:=C.jc neg pv p hp op (by omega);have t1:=fun h=>C.vF h k1 (by rw[Cg p0];exact lp)
 obtain⟨v2,k2,q2⟩:=C.jc false qv q hq oq (by omega);have t2:=fun h=>C.vF h k2 (by rw[Cg q0];exact lq)
 rw[←en]at t1;rw[show bm false (WV dB q)=((Rat.divInt (bm neg (WV dB l)) (WV dB m)).den:Int) from ed.symm,XY (by omega),Int.toNat_natCast]at t2;have hd0:=(Rat.divInt (bm neg (WV dB l)) (WV dB m)).den_pos;have hq1:q≠[]:=fun h=>by subst h;simp[WV]at ed;omega
 obtain rfl:qv = .vs (aj q) q.length none:=hq.resolve_right fun h=>hq1 h.2
 have hs:aw (Rat.divInt (bm neg (WV dB l)) (WV dB m))=if q=[1] then cT (Rat.divInt (bm neg (WV dB l)) (WV dB m)).num else cT (Rat.divInt (bm neg (WV dB l)) (WV dB m)).num++47::aX (Rat.divInt (bm neg (WV dB l)) (WV dB m)).den:=by
  have:=WY oq nq;rw[←ed]at this;unfold aw;by_cases h:q=[1]
  . rw[if_pos h,if_pos (by have:=this.2 h;omega)]
  . rw[if_neg h,if_neg (by intro h2;exact h (this.1 (by omega)))]
 rw[hs];have hN1:0<9*N:=by
  have:=List.length_pos_iff.2 hm;omega
 have e9:(dB:Int)^N=10^(9*N):=by rw[←IT];exact Int.natCast_pow _ _
 have lA:=Iw hN1 (z:=(Rat.divInt (bm neg (WV dB l)) (WV dB m)).num) (by rw[en,Cg p0,←e9];exact lp);generalize cT (Rat.divInt (bm neg (WV dB l)) (WV dB m)).num=A at *
 have lB:(aX (Rat.divInt (bm neg (WV dB l)) (WV dB m)).den).length<2000000:=by
  have:=Bu (k:=9*N) hN1 (z:=WV dB q) (by rw[cd q0,←e9];exact lq);rw[cd q0,←ed,Int.toNat_natCast]at this;omega
 generalize aX (Rat.divInt (bm neg (WV dB l)) (WV dB m)).den=B at *
 clear hs;have ap:A++47::B=A++[47]++B:=by simp
 unfold t136;have hcase:q=[1]\/q.length≠1\/q.length=1/\q[Int.toNat 0]! ≠ 1:=by
  match q,hq1 with
  | [x],_=>
   by_cases h:x=1
   . exact .inl (by rw[h])
   . exact .inr (.inr ⟨rfl,h⟩)
  | x::y::r,_=>exact .inr (.inl (by simp))
 rcases hcase with rfl|hc|⟨hc,hc2⟩
 . rw[if_pos rfl];have e1:([1]:List Int).length=1:=rfl;have e2:([1]:List Int)[Int.toNat 0]! = 1:=rfl;exact gg8
 . rw[if_neg (fun h=>hc (by rw[h];rfl)),ap];exact gg8
 . rw[if_neg (fun h=>hc2 (by rw[h];rfl)),ap];exact gg8
theorem Ya (C:vD M N)(hN:N<100000){a b:AV}{za zb:Int}(ha:bD a za)(hb:bD b zb)(la:ah za<dB^N)(lb:ah zb<dB^N)(hz:zb≠0):aU M 136 [a,b] [] ⟨.str (aw (Rat.divInt za zb)),[],[]⟩:=by
 have ha':=ha;have hb':=hb;obtain⟨na,x,l,rfl,hx,ol,nl,ll,ea,_,_⟩:=ha.abs la;obtain⟨nb,y,m,rfl,hy,om,nm,lm,eb,_,hn⟩:=hb.abs lb;have hm:m≠[]:=fun h=>by subst h;cases nb <;> simp[bm,WV]at eb <;> omega
 refine bO (by rw[C.ft];exact Xo) (by simp) ?_;cases nb with
 | false=>
  rw[ea,show zb=WV dB m from eb];unfold BW;simp only[enter];exact gg17
 | true=>
  obtain⟨v1,k1,q1⟩:=C.vE ha' la;obtain⟨v2,k2,q2⟩:=C.vE hb' lb;obtain⟨n1,x1,l1,rfl,hx1,ol1,nl1,ll1,ea1,_,_⟩:=k1.abs (N:=N) (by rw[ib];exact la);obtain⟨n2,x2,m1,rfl,hy1,om1,nm1,lm1,eb1,_,hn1⟩:=k2.abs (N:=N) (by rw[ib];exact lb);have o1:=(ra x1 hx1).1;have o2:=(ra x2 hy1).1;have m0:=(iS (b:=dB) (by decide) om nm).2 hm;have e2:zb = -WV dB m:=eb;have m1p:=bT (b:=dB) (by decide) om1;have hm1:m1≠[]:=fun h=>by subst h;cases n2 <;> simp[bm,WV]at eb1 <;> omega
  cases n2 with
  | true=>
   have : -zb = -WV dB m1:=eb1;omega
  | false=>
  rw[←Rat.neg_divInt_neg,ea1,show -zb=WV dB m1 from eb1];unfold BW;simp only[enter];exact gg17
theorem Yb (hft:M.FT=FT)(a b:Nat)(ha:a<9223372036854775808)(hb:b<9223372036854775808):aU M 158 [.iV a,.iV b] [] ⟨.iV (Nat.gcd a b:Nat),[],[]⟩:=by
 refine bO (by rw[hft];exact Xm) (by simp) ?_;unfold Ju;simp only[enter];repeat' first|refine gc ?_|fail
 refine W.fH (fun m st=>∃(A B:Nat) (lo:List (Nat×AV)) (wr:List Nat),st=⟨⟨[.iV A,.iV B,.iV 0],lo,[],[]⟩,wr⟩/\m=B/\A<9223372036854775808/\B<9223372036854775808/\Nat.gcd A B=Nat.gcd a b) (fun m st ⟨A,B,lo,wr,hst,hm,hA,hB,hg⟩=>?_) (m:=b) ⟨a,b,_,_,rfl,rfl,ha,hb,rfl⟩;subst hst;unfold Jt;rcases Nat.eq_zero_or_pos B with rfl|hp
 . rw[Nat.gcd_zero_right]at hg;rw[←hg];exact gg4
 . have hlt:=Nat.mod_lt A hp;have hn:Nat.gcd B (A%B)=Nat.gcd a b:=by rw[←hg,Nat.gcd_comm A B,Nat.gcd_rec B A,Nat.gcd_comm]
   have e:((A:Int)%(B:Int))=((A%B:Nat):Int):=rfl;exact gg20
structure Ci (M:ao)(N:Nat):Prop extends vD M N where
 JO:∀(a b:Nat) h,a<9223372036854775808->b<9223372036854775808->M.ext 158 [.iV a,.iV b] h=some ⟨.iV (Nat.gcd a b:Nat),h,[]⟩
 Cj:∀(n:Nat) h,n<9223372036854775808->M.ext 117 [.iV (n:Nat),.iV 1] h=some ⟨.str (aX n),h,[]⟩
 Ck:∀n:Int,-9223372036854775808<=n/\n<9223372036854775808->∃v0,bD v0 n/\∀h,M.ext 139 [.iV n] h=some ⟨v0,h,[]⟩
 mG:∀{a b za zb} h,bD a za->bD b zb->ah za<dB^N->ah zb<dB^N->zb≠0->M.ext 136 [a,b] h=some ⟨.str (aw (Rat.divInt za zb)),h,[]⟩
theorem vG (q:Rat):aw q=(if q.num<0 then [45] else [])++aX q.num.natAbs++(if 1<q.den then 47::aX q.den else []):=by
 have:=q.den_pos;have e:cT q.num=(if q.num<0 then [45] else [])++aX q.num.natAbs:=by
  unfold cT;split
  . rw[show (-q.num).toNat=q.num.natAbs by omega];rfl
  . rw[show q.num.toNat=q.num.natAbs by omega];rfl
 unfold aw;by_cases h:q.den=1
 . rw[if_pos h,if_neg (show ¬1<q.den by omega),e,List.append_nil]
 . rw[if_neg h,if_pos (show 1<q.den by omega),e]
theorem Dy (C:Ci M N){n d:Int}(hd:0<d/\d<=4000000000000000000)(hn : -4000000000000000000<=n/\n<=4000000000000000000)(a3 a4:AV)(lo:List (Nat×AV))(wr:List Nat) :
 W M t78 ⟨⟨[.iV n,.iV d,.str [],a3,a4],lo,[],[]⟩,wr⟩ (rj [.var (.p 2)] (.str (aw (Rat.divInt n d)))):=by
 obtain⟨k1,k2,e1,e2,e3,e4⟩:=uA (n:=n) hd.1;have g0:=Int.gcd_pos_of_ne_zero_right n (show d≠0 by omega);have eg:Nat.gcd n.natAbs d.natAbs=Int.gcd n d:=rfl;have q158:=fun h=>C.JO n.natAbs d.natAbs h (by omega) (by omega)
 rw[show ((d.natAbs:Nat):Int)=d by omega,eg]at q158;have hle:((Int.gcd n d:Nat):Int)<=d:=Int.le_of_dvd hd.1 (Int.gcd_dvd_right _ _);have hv1:n.tdiv (Int.gcd n d:Nat)=(Rat.divInt n d).num:=by
  rw[e3];conv=>lhs;arg 1;rw[e1]
  exact Int.mul_tdiv_cancel_left _ (by omega)
 have hv2:d.tdiv (Int.gcd n d:Nat)=((Rat.divInt n d).den:Int):=by
  rw[e4];conv=>lhs;arg 1;rw[e2]
  exact Int.mul_tdiv_cancel_left _ (by omega)
 have hs:=vG (Rat.divInt n d);have b1:(Rat.divInt n d).num.natAbs<=n.natAbs:=by
  rw[←hv1,Int.natAbs_tdiv];exact Nat.div_le_self _ _
 have b2:(Rat.divInt n d).den<=d.natAbs:=by
  have:=Int.natAbs_tdiv d (Int.gcd n d:Nat);rw[hv2,Int.natAbs_natCast]at this;rw[this];exact Nat.div_le_self _ _
 rw[hs];generalize (Rat.divInt n d).num=P at *
 generalize (Rat.divInt n d).den=D at *
 generalize Int.gcd n d=g at *
 have t1:=fun h=>C.Cj P.natAbs h (by omega)
 have t2:=fun h=>C.Cj D h (by omega)
 have l1:=uK (n:=P.natAbs) (k:=19) (Nat.lt_of_le_of_lt b1 (by rw[Ce];omega)) (by decide);have l2:=uK (n:=D) (k:=19) (Nat.lt_of_le_of_lt b2 (by rw[Ce];omega)) (by decide);generalize aX P.natAbs=A at *
 generalize aX D=B at *
 unfold t78;repeat' first|(apply acq (m:=(n.natAbs:Int));rfl;rfl;omega)|(apply acq (m:=(P.natAbs:Int));rfl;rfl;omega)|(apply abI;rfl;rfl;omega;omega;first|exact hv1|exact hv2)|(apply aab;rfl;rfl)|(apply aah;rfl;rfl)|refine gd0 ?_|refine gc ?_|(intro _;omega)|intro _
 all_goals try omega
 all_goals refine⟨.inr rfl,rfl,_,rfl,?_,rfl⟩
 all_goals
  rename_i u1 u2;first|rw[if_pos u1]|rw[if_neg (by omega)]
  first|rw[if_pos (by omega)]|rw[if_neg (by omega)]
  simp[aQ]
theorem Cl (hN:3<=N){n:Int}(h : -9223372036854775808<=n/\n<9223372036854775808):ah n<dB^N:=by
 have h1:ah n<dB^3:=by rw[JM];unfold ah;split <;> omega
 exact Int.lt_of_lt_of_le h1 (fI (by decide) hN)
theorem Yc (C:Ci M N)(hN:3<=N){n d:Int}(hn : -9223372036854775808<=n/\n<9223372036854775808)(hd : -9223372036854775808<=d/\d<9223372036854775808)(h0:d≠0):aU M 78 [.iV n,.iV d] [] ⟨.str (aw (Rat.divInt n d)),[],[]⟩:=by
 obtain⟨v1,k1,q1⟩:=C.Ck n hn;obtain⟨v2,k2,q2⟩:=C.Ck d hd;have q3:=fun h=>C.mG h k1 k2 (Cl hN hn) (Cl hN hd) h0
 refine bO (by rw[C.ft];exact Xq) (by simp) ?_;show W M BX _ (rj _ _);unfold BX;simp only[enter];by_cases hs:(-4000000000000000000<=n/\n<=4000000000000000000) /\ -4000000000000000000<=d/\d<=4000000000000000000
 . by_cases hp:0<d
   . exact gg2
   . rw[←Rat.neg_divInt_neg];have e1:0-n = -n:=by omega
     have e2:0-d = -d:=by omega
     have tl:=fun a3 a4 lo wr=>Dy C (n:=-n) (d:=-d) ⟨by omega,by omega⟩ ⟨by omega,by omega⟩ a3 a4 lo wr
     rw[←e1,←e2]at tl;rw[←e1,←e2];exact gg2
 . exact gg9
def JP:an:=zR [⟨.p 1,.mv (.c (.str [])),none⟩] (.seq (zR [zm 3 0,z1 4 140 3,zc 5 .lss 4 0] (.cond (.l 5) (zR [zm 6 0,⟨.l 7,.slice .str 1 (.l 6) (some (kI 1)) none none,none⟩,zw 1 7] (.ret)) (.skip))) (zR [zm 8 0,zw 1 8] (.ret)))
theorem Yd:FT 56=some ⟨9,[0,2],[.var (.p 1)],JP⟩:=by kernel_rfl
theorem rl (q:Rat):aw q≠[]:=fun h=>by
 have:=vG q;rw[h]at this;have:=congrArg List.length this;have:=List.length_pos_iff.2 (Bb q.num.natAbs);simp at *
 omega
theorem JQ (q:Rat):0<(aw q).length/\(((aw q)[Int.toNat 0]!).toNat:Int)=45↔q.num<0:=by
 have h:=(uT q).1;have h0:=rl q;generalize aw q=s at *
 cases s with
 | nil=>exact absurd rfl h0
 | cons c t=>
  rw[preB,List.head?_cons,decide_eq_decide]at h;rw[←h];show 0<t.length+1/\((c.toNat:Int)=45)↔some c=some 45;constructor
  . intro h;rw[show c=45 from UInt8.toNat_inj.1 (by have:=h.2;have e:(45:UInt8).toNat=45:=rfl;omega)]
  . intro h;cases h;exact⟨by omega,rfl⟩
theorem Cm {q:Rat}(h:q.num<0):aw q=45::aw (-q):=by
 rw[vG,vG,Rat.neg_num,Rat.neg_den,if_pos h,if_neg (show ¬ -q.num<0 by omega),Int.natAbs_neg];simp
theorem Ye {q:Rat}(h:0<q.num):aw (-q)=45::aw q:=by
 have:=Cm (q:=-q) (by rw[Rat.neg_num];omega);rw[Rat.neg_neg]at this;exact this
theorem vH {q:Rat}:q.num=0↔q=0:=Rat.num_eq_zero
theorem Yf (hft:M.FT=FT)(q:Rat):aU M 140 [.str (aw q)] [] ⟨.iV (aW q.num),[],[]⟩:=by
 refine bO (by rw[hft];exact Xr) (by simp) ?_;unfold Jz;simp only[enter];by_cases h0:q.num=0
 . rw[h0,vH.1 h0,VJ];exact gg7
 . have hne:aw q≠[48]:=fun h=>h0 (vH.2 (VM h))
   have hl:=List.length_pos_iff.2 (rl q);have hh:=JQ q;unfold aW;by_cases hn:q.num<0
   . rw[if_pos hn];obtain⟨_,h45⟩:=hh.2 hn;generalize aw q=s at *
     repeat' first|(apply aah;rfl;rfl)|(apply aak;rfl;rfl)|(apply aaP;rfl;rfl;all_goals first|(intro h;exact absurd h (by decide))|(intro h;exact absurd rfl h)|(intro h;contradiction)|intro _)|refine gc ?_|(intro _;omega)|intro _
     all_goals try omega
     all_goals exact⟨.inr rfl,rfl,_,rfl,rfl,rfl⟩
   . rw[if_neg hn,if_pos (show 0<q.num by omega)];have h45:¬(((aw q)[Int.toNat 0]!).toNat:Int)=45:=fun h=>hn (hh.1 ⟨hl,h⟩)
     generalize aw q=s at *
     repeat' first|(apply aah;rfl;rfl)|(apply aak;rfl;rfl)|(apply aaP;rfl;rfl;all_goals first|(intro h;exact absurd h (by decide))|(intro h;exact absurd rfl h)|(intro h;contradiction)|intro _)|refine gc ?_|(intro _;omega)|intro _
     all_goals try omega
     all_goals exact⟨.inr rfl,rfl,_,rfl,rfl,rfl⟩
theorem Yg (hft:M.FT=FT){q:Rat}(hl:(aw q).length<1000000)(q140:∀h,M.ext 140 [.str (aw q)] h=some ⟨.iV (aW q.num),h,[]⟩):aU M 141 [.str (aw q)] [] ⟨.str (aw (-q)),[],[]⟩:=by
 refine bO (by rw[hft];exact Xs) (by simp) ?_;have h0:=List.length_pos_iff.2 (rl q);unfold JA;simp only[enter];by_cases hn:q.num<0
 . have e:=Cm hn;have e1:(aw q).drop (Int.toNat 1)=aw (-q):=by rw[e];rfl
   have e2:aW q.num = -1:=if_pos hn;rw[e2]at q140;generalize aw (-q)=t at *
   generalize aw q=s at *
   exact gg2
 . by_cases hz:q.num=0
   . have e:=vH.1 hz;subst e;have e2:aW (0:Rat).num=0:=rfl;rw[e2]at q140;rw[show (-0:Rat)=0 by simp];generalize aw 0=s at *
     exact gg3
   . have e:=Ye (show 0<q.num by omega);have e2:aW q.num=1:=by unfold aW;rw[if_neg hn,if_pos (by omega)]
     rw[e2]at q140;rw[e];generalize aw q=s at *
     have l1:([45]:aM).length=1:=rfl;exact gg3
theorem Yh (hft:M.FT=FT){q:Rat}(q140:∀h,M.ext 140 [.str (aw q)] h=some ⟨.iV (aW q.num),h,[]⟩):aU M 56 [.str (aw q)] [] ⟨.str (aw (if q.num<0 then -q else q)),[],[]⟩:=by
 refine bO (by rw[hft];exact Yd) (by simp) ?_;have h0:=List.length_pos_iff.2 (rl q);unfold JP;simp only[enter];by_cases hn:q.num<0
 . have e1:(aw q).drop (Int.toNat 1)=aw (-q):=by rw[Cm hn];rfl
   have e2:aW q.num = -1:=if_pos hn;rw[e2]at q140;rw[if_pos hn];generalize aw (-q)=t at *
   generalize aw q=s at *
   exact gg2
 . have e2:0<=aW q.num:=by unfold aW;rw[if_neg hn];split <;> omega
   rw[if_neg hn];generalize aw q=s at *
   generalize aW q.num=z at *
   exact gg14
theorem Yi (q:Rat):cg (aw q)=(cT q.num).length/\(aw q).take (cg (aw q))=cT q.num/\(cg (aw q)=(aw q).length↔q.den=1)/\(q.den≠1->(aw q).drop (cg (aw q)+1)=aX q.den/\cg (aw q)+1<=(aw q).length)/\mA (aw q)=decide (q.den≠1)/\bM 47 (aw q)=(cT q.num,if q.den=1 then none else some (aX q.den)):=by
 have e:bM 47 (aw q)=(cT q.num,if q.den=1 then none else some (aX q.den)):=by
  unfold aw;split
  . exact uR (Ip _)
  . exact uS (Ip _)
 have e1:cg (aw q)=(cT q.num).length:=by unfold cg;rw[e]
 refine⟨e1,?_,?_,?_,?_,e⟩
 . rw[e1];unfold aw;split <;> simp
 . rw[e1];unfold aw;split <;> simp[*]
 . intro h;rw[e1];unfold aw;rw[if_neg h];constructor
   . rw[show cT q.num++47::aX q.den=(cT q.num++[47])++aX q.den by simp,List.drop_append_of_le_length (by simp)];simp
   . simp
 . unfold mA;rw[e];by_cases h:q.den=1 <;> simp[h]
theorem JR (z:Int):aw (z:Rat)=cT z:=by
 unfold aw;rw[if_pos (Rat.den_intCast z),Rat.num_intCast]
theorem Yj {q:Rat}{u num:aM}{k dl:Nat}(neg:Bool)(hs:(if neg then -((ah q.num).toNat:Int) else ((ah q.num).toNat:Int))=q.num)
 (hk:k=num.length) (hkl:k<=u.length) (hu:u.length<1000000) (ht:u.take k=num) (h1:k=u.length↔q.den=1) (hd:q.den≠1->u.drop (k+1)=aX q.den/\k+1+(aX q.den).length=u.length) (hdl:dl=u.length-k)
 (q153:∀h,M.ext 153 [.str u] h=some ⟨.iV k,h,[]⟩) (qn:k<=9->∀h,M.ext 192 [.str num] h=some ⟨.iV (ah q.num).toNat,h,[]⟩) (qd:dl<=10->q.den≠1->∀h,M.ext 192 [.str (aX q.den)] h=some ⟨.iV (q.den:Nat),h,[]⟩)
 (bn:k<=9->(ah q.num).toNat<1000000000) (a0 a5 a6 a7:AV) (lo:List (Nat×AV)) (wr:List Nat) :
 W M t134 ⟨⟨[a0,.iV 0,.iV 0,.bool false,.str u,.bool neg,a5,a6,a7],lo,[],[]⟩,wr⟩ (rj [.var (.p 1),.var (.p 2),.var (.p 3)] (if k<=9/\dl<=10 then .aq [.iV q.num,.iV q.den,.bool true] else .aq [.iV 0,.iV 0,.bool false])):=by
 have ht':u.take ((k:Nat):Int).toNat=num:=ht;by_cases hc:k<=9/\dl<=10
 . rw[if_pos hc];have qn:=qn hc.1;have bn:=bn hc.1;by_cases hd1:q.den=1
   . have hku:=h1.2 hd1;rw[hd1];generalize (ah q.num).toNat=A at *
     generalize q.num=P at *
     unfold t134;cases neg with
     | false=>
      obtain rfl:P=A:=hs.symm;repeat' first|(apply aaI (r:=num);rfl;rfl;omega;exact ht')|apply aaK|apply iI|apply aaN|apply aaO|apply aaQ|apply aaR|(apply aaS;rfl)|(apply abc;rfl)|(apply aab;rfl;rfl)|(apply aah;rfl;rfl)|(apply abd;rfl;rfl)|(apply aaY;rfl;rfl;omega)|(apply aaJ;rfl;rfl;first|exact q153 _|exact qn _)|(apply aac;rfl;rfl)|(apply aaL;rfl;rfl)|(intro _;omega)|intro _
      all_goals try omega
      all_goals exact⟨.inr rfl,rfl,_,rfl,rfl,rfl⟩
     | true=>
      have e:(0:Int)-A=P:=by rw[←hs];simp
      repeat' first|(apply aaI (r:=num);rfl;rfl;omega;exact ht')|apply aaK|apply iI|apply aaN|apply aaO|apply aaQ|apply aaR|(apply abb;rfl)|(apply aaS;rfl)|(apply abc;rfl)|(apply aab;rfl;rfl)|(apply aah;rfl;rfl)|(apply abd;rfl;rfl)|(apply aaY;rfl;rfl;omega)|(apply aaJ;rfl;rfl;first|exact q153 _|exact qn _)|(apply aac;rfl;rfl)|(apply aaL;rfl;rfl)|(intro _;omega)|intro _
      all_goals try omega
      all_goals exact⟨.inr rfl,rfl,_,rfl,by rw[e];rfl,rfl⟩
   . have qd:=qd hc.2 hd1;obtain⟨e1,e2⟩:=hd hd1;have hne:k≠u.length:=fun h=>hd1 (h1.1 h)
     have e1':u.drop ((k:Nat)+1:Int).toNat=aX q.den:=by rw[show ((k:Nat)+1:Int).toNat=k+1 by omega];exact e1
     generalize aX q.den=B at *
     generalize q.den=D at *
     generalize (ah q.num).toNat=A at *
     generalize q.num=P at *
     unfold t134;cases neg with
     | false=>
      obtain rfl:P=A:=hs.symm;repeat' first|(apply aaI (r:=num);rfl;rfl;omega;exact ht')|(apply aaH (r:=B);rfl;rfl;omega;exact e1')|apply aaK|apply iI|apply aaN|apply aaO|apply aaQ|apply aaR|(apply abb;rfl)|(apply aaS;rfl)|(apply abc;rfl)|(apply aab;rfl;rfl)|(apply aah;rfl;rfl)|(apply abd;rfl;rfl)|(apply abn;rfl;rfl;omega)|(apply aaY;rfl;rfl;omega)|(apply aaJ;rfl;rfl;first|exact q153 _|exact qn _|exact qd _)|(apply aac;rfl;rfl)|(apply aaL;rfl;rfl)|(intro _;omega)|intro _
      all_goals try omega
      all_goals exact⟨.inr rfl,rfl,_,rfl,rfl,rfl⟩
     | true=>
      have e:(0:Int)-A=P:=by rw[←hs];simp
      repeat' first|(apply aaI (r:=num);rfl;rfl;omega;exact ht')|(apply aaH (r:=B);rfl;rfl;omega;exact e1')|apply aaK|apply iI|apply aaN|apply aaO|apply aaQ|apply aaR|(apply abb;rfl)|(apply aaS;rfl)|(apply abc;rfl)|(apply aab;rfl;rfl)|(apply aah;rfl;rfl)|(apply abd;rfl;rfl)|(apply abn;rfl;rfl;omega)|(apply aaY;rfl;rfl;omega)|(apply aaJ;rfl;rfl;first|exact q153 _|exact qn _|exact qd _)|(apply aac;rfl;rfl)|(apply aaL;rfl;rfl)|(intro _;omega)|intro _
      all_goals try omega
      all_goals exact⟨.inr rfl,rfl,_,rfl,by rw[e];rfl,rfl⟩
 . rw[if_neg hc];unfold t134;exact gg2
structure JS (M:ao):Prop where
 ft:M.FT=FT
 JT:∀(s:aM) h,s.length<1000000->M.ext 153 [.str s] h=some ⟨.iV (cg s),h,[]⟩
 mE:∀(s:aM) h,s.length<=18->s.all cS=true->M.ext 192 [.str s] h=some ⟨.iV (aT 0 s:Nat),h,[]⟩
theorem dec_lt {n k:Nat}(h:(aX n).length<=k):n<10^k:=by
 have:=qM (aX n) (jB n);rw[oz]at this;exact Nat.lt_of_lt_of_le this (Nat.pow_le_pow_right (by decide) h)
theorem Yk (C:JS M){q:Rat}(hl:(aw q).length<1000000):∃n d b,(b=true->n=q.num/\d=q.den/\ah q.num<1000000000/\q.den<1000000000)/\aU M 134 [.str (aw q)] [] ⟨.aq [.iV n,.iV d,.bool b],[],[]⟩:=by
 by_cases zD:20<(aw q).length
 . refine⟨0,0,false,nofun,bO (by rw[C.ft];exact Jx) (by simp) ?_⟩;generalize aw q=s at *
   unfold vz;simp only[enter];exact gg4
 . obtain⟨hp,hc⟩:=uT q;obtain⟨v,hv⟩:∃u,u=bV 45 (aw q):=⟨_,rfl⟩;have hul:=Bj 45 (aw q);have hsp:bM 47 v=(aX (ah q.num).toNat,if q.den=1 then none else some (aX q.den)):=by
    have n47:∀n,(47:UInt8)∉aX n:=fun n h=>by
     have:=List.all_eq_true.1 (jB n) _ h;exact absurd this (by decide)
    rw[hv,hc];split
    . exact uR (n47 _)
    . exact uS (n47 _)
   have hk:cg v=(aX (ah q.num).toNat).length:=by unfold cg;rw[hsp]
   have hvt:v=if q.den=1 then aX (ah q.num).toNat else aX (ah q.num).toNat++47::aX q.den:=by rw[hv,hc]
   obtain⟨dl,hdl⟩:∃dl,dl=v.length-cg v:=⟨_,rfl⟩;have hdlen:q.den≠1->v.drop (cg v+1)=aX q.den/\cg v+1+(aX q.den).length=v.length:=fun h=>by
    rw[hk,hvt,if_neg h];constructor
    . rw[show aX (ah q.num).toNat++47::aX q.den=(aX (ah q.num).toNat++[47])++aX q.den by simp,List.drop_append_of_le_length (by simp)];simp
    . simp;omega
   have hsgn:(if decide (q.num<0) then -((ah q.num).toNat:Int) else ((ah q.num).toNat:Int))=q.num:=by
    unfold ah;by_cases h:q.num<0
    . simp only[h,decide_true,if_true];omega
    . simp only[h,decide_false,if_false];show ((q.num.toNat:Nat):Int)=_;omega
   have tl:=fun a0 a5 a6 a7 lo wr=>Yj (M:=M) (q:=q) (u:=v) (num:=aX (ah q.num).toNat) (k:=cg v) (dl:=dl) (decide (q.num<0)) hsgn hk (IK v) (by rw[hv];omega) (by rw[hk,hvt];split <;> simp) (by rw[hk,hvt];split <;> simp[*]) hdlen hdl
     (fun h=>C.JT v h (by rw[hv];omega)) (fun hk9 h=>by
      have:=C.mE (aX (ah q.num).toNat) h (by omega) (jB _);rw[oz]at this;exact this) (fun xO hd1 h=>by
      have:=C.mE (aX q.den) h (by have:=(hdlen hd1).2;omega) (jB _);rw[oz]at this;exact this) (fun hk9=>dec_lt (n:=(ah q.num).toNat) (k:=9) (by omega)) a0 a5 a6 a7 lo wr
   have key:∃n d b,(b=true->n=q.num/\d=q.den/\ah q.num<1000000000/\q.den<1000000000)/\(if cg v<=9/\dl<=10 then AV.aq [.iV q.num,.iV q.den,.bool true] else .aq [.iV 0,.iV 0,.bool false]) = .aq [.iV n,.iV d,.bool b]:=by
    by_cases h:cg v<=9/\dl<=10
    . refine⟨q.num,q.den,true,fun _=>⟨rfl,rfl,?_,?_⟩,if_pos h⟩
      . have:=dec_lt (n:=(ah q.num).toNat) (k:=9) (by omega);have:=iX (x:=q.num);omega
      . by_cases hd1:q.den=1
        . omega
        . exact dec_lt (n:=q.den) (k:=9) (by have:=(hdlen hd1).2;omega)
    . exact⟨0,0,false,nofun,if_neg h⟩
   obtain⟨n,d,b,h1,h2⟩:=key;rw[h2]at tl;refine⟨n,d,b,h1,bO (by rw[C.ft];exact Jx) (by simp) ?_⟩;have hh:=JQ q;have h0:=List.length_pos_iff.2 (rl q);show W M vz _ (rj _ _);unfold vz;simp only[enter];by_cases hn:q.num<0
   . rw[decide_eq_true hn]at tl hp;have e1:(aw q).drop (Int.toNat 1)=v:=by rw[hv];exact(Bk hp).1
     obtain⟨_,h45⟩:=hh.2 hn;generalize aw q=s at *
     exact gg6
   . rw[decide_eq_false hn]at tl hp;have e1:aw q=v:=by rw[hv];exact(oC hp).symm
     have h45:¬(((aw q)[Int.toNat 0]!).toNat:Int)=45:=fun h=>hn (hh.1 ⟨h0,h⟩)
     rw[e1]at zD h0 h45 ⊢;exact gg6
structure vI (M:ao)(N:Nat):Prop where
 ft:M.FT=FT
 rm:∀q,(aw q).length<1000000->∃n d b,(b=true->n=q.num/\d=q.den/\ah q.num<1000000000/\q.den<1000000000)/\∀h,M.ext 134 [.str (aw q)] h=some ⟨.aq [.iV n,.iV d,.bool b],h,[]⟩
 oK:∀q,(aw q).length<1000000->∃v1 v2,bD v1 q.num/\bD v2 (q.den:Nat)/\∀h,M.ext 135 [.str (aw q)] h=some ⟨.aq [v1,v2],h,[]⟩
 oM:∀{a b x y},bD a x->bD b y->ah x<dB^N->ah y<dB^N->∃v0,bD v0 (x*y)/\∀h,M.ext 137 [a,b] h=some ⟨v0,h,[]⟩
 JU:∀{a b x y},bD a x->bD b y->ah x<dB^N->ah y<dB^N->∃v0,bD v0 (x+y)/\∀h,M.ext 170 [a,b] h=some ⟨v0,h,[]⟩
 mG:∀{a b x y} h,bD a x->bD b y->ah x<dB^N->ah y<dB^N->y≠0->M.ext 136 [a,b] h=some ⟨.str (aw (Rat.divInt x y)),h,[]⟩
 Cn:∀(n d:Int) h,-9223372036854775808<=n/\n<9223372036854775808 -> -9223372036854775808<=d/\d<9223372036854775808->d≠0->M.ext 78 [.iV n,.iV d] h=some ⟨.str (aw (Rat.divInt n d)),h,[]⟩
structure Fit (N k:Nat)(q:Rat):Prop where
 dq:Dq k q
 n0:ah q.num<dB^N
 d0:ah (q.den:Int)<dB^N
theorem fit {k:Nat}(hk:(10:Int)^(2*k+1)<=dB^N){q:Rat}(h:Dq k q):Fit N k q:=by
 have h1:=oE (m:=k) (n:=2*k+1) (by omega);exact⟨h,by have:=h.1;omega,by rw[cd (by omega)];have:=h.2;omega⟩
theorem rn {x y:Int}(hx:ah x<1000000000)(hy:ah y<1000000000) : -1000000000000000000<x*y/\x*y<1000000000000000000:=by
 have h:=jb (m:=9) (n:=9) hx hy;have e:(10:Int)^(9+9)=1000000000000000000:=by decide
 rw[e]at h;unfold ah at h;split at h <;> omega
theorem Yl (C:vI M N){k:Nat}(hk:(10:Int)^(2*k+1)<=dB^N){p q:Rat}(hp:Dq k p)(hq:Dq k q)(lp:(aw p).length<1000000)(lq:(aw q).length<1000000):aU M 90 [.str (aw p),.str (aw q)] [] ⟨.str (aw (p+q)),[],[]⟩:=by
 obtain⟨n,d,b,hb,q1⟩:=C.rm p lp;obtain⟨m,e,b',hb',q2⟩:=C.rm q lq;obtain⟨v1,v2,k1,k2,q3⟩:=C.oK p lp;obtain⟨v3,v4,k3,k4,q4⟩:=C.oK q lq;have fp:=fit hk hp;have fq:=fit hk hq;have dp:=den_pos (q:=p);have dq:=den_pos (q:=q);have b2:ah (p.den:Int)<10^k:=by rw[cd (by omega)];exact hp.2
 have b4:ah (q.den:Int)<10^k:=by rw[cd (by omega)];exact hq.2
 have e2:(10:Int)^(2*k+1)=10^(k+k)*10:=by rw[show 2*k+1=(k+k)+1 by omega];exact Int.pow_succ _ _
 have t0:=qS (k+k);have m1:=jb hp.1 b4;have m2:=jb hq.1 b2;have m3:=jb b2 b4;obtain⟨v5,k5,q5⟩:=C.oM k1 k4 fp.n0 fq.d0;obtain⟨v6,k6,q6⟩:=C.oM k3 k2 fq.n0 fp.d0;obtain⟨v7,k7,q7⟩:=C.JU k5 k6 (by omega) (by omega);obtain⟨v8,k8,q8⟩:=C.oM k2 k4 fp.d0 fq.d0;have hne:(p.den:Int)*q.den≠0:=Int.ne_of_gt (Int.mul_pos dp dq);have q9:=fun h=>C.mG h k7 k8 (by have:=Iu (x:=p.num*q.den) (y:=q.num*p.den);omega) (by omega) hne
 rw[←ot]at q9;obtain⟨_,_,_,rfl,_,o1,_⟩:=k1.shape;obtain⟨_,_,_,rfl,_,o2,_⟩:=k2.shape;obtain⟨_,_,_,rfl,_,o3,_⟩:=k3.shape;obtain⟨_,_,_,rfl,_,o4,_⟩:=k4.shape;refine bO (by rw[C.ft];exact Xt) (by simp) ?_;by_cases hbb:b=true/\b'=true
 . obtain⟨rfl,rfl⟩:=hbb;obtain⟨rfl,rfl,s1,s2⟩:=hb rfl;obtain⟨rfl,rfl,s3,s4⟩:=hb' rfl;have s2':ah (p.den:Int)<1000000000:=by rw[cd (by omega)];omega
   have s4':ah (q.den:Int)<1000000000:=by rw[cd (by omega)];omega
   have r1:=rn s1 s4';have r2:=rn s3 s2';have r3:=rn s2' s4';have qa:=fun h=>C.Cn (p.num*q.den+q.num*p.den) (p.den*q.den) h (by omega) (by omega) hne
   rw[←ot]at qa;clear q3 q4 q5 q6 q7 q8 q9;unfold BY;simp only[enter];generalize p.num=P at *
   generalize q.num=Q at *
   generalize (p.den:Int)=D at *
   generalize (q.den:Int)=E at *
   exact gg3
 . have hc:b=false\/b=true/\b'=false:=by cases b <;> cases b' <;> simp at hbb ⊢
   unfold BY;simp only[enter];rcases hc with rfl|⟨rfl,rfl⟩;all_goals
   . exact gg17
theorem Ym (C:vI M N){k:Nat}(hk:(10:Int)^(2*k+1)<=dB^N){p q:Rat}(hp:Dq k p)(hq:Dq k q)(lp:(aw p).length<1000000)(lq:(aw q).length<1000000):aU M 53 [.str (aw p),.str (aw q)] [] ⟨.str (aw (p*q)),[],[]⟩:=by
 obtain⟨n,d,b,hb,q1⟩:=C.rm p lp;obtain⟨m,e,b',hb',q2⟩:=C.rm q lq;obtain⟨v1,v2,k1,k2,q3⟩:=C.oK p lp;obtain⟨v3,v4,k3,k4,q4⟩:=C.oK q lq;have fp:=fit hk hp;have fq:=fit hk hq;have dp:=den_pos (q:=p);have dq:=den_pos (q:=q);have b2:ah (p.den:Int)<10^k:=by rw[cd (by omega)];exact hp.2
 have b4:ah (q.den:Int)<10^k:=by rw[cd (by omega)];exact hq.2
 have e2:(10:Int)^(2*k+1)=10^(k+k)*10:=by rw[show 2*k+1=(k+k)+1 by omega];exact Int.pow_succ _ _
 have t0:=qS (k+k);have m1:=jb hp.1 hq.1;have m3:=jb b2 b4;obtain⟨v5,k5,q5⟩:=C.oM k1 k3 fp.n0 fq.n0;obtain⟨v8,k8,q8⟩:=C.oM k2 k4 fp.d0 fq.d0;have hne:(p.den:Int)*q.den≠0:=Int.ne_of_gt (Int.mul_pos dp dq);have q9:=fun h=>C.mG h k5 k8 (by omega) (by omega) hne
 rw[←Bt]at q9;obtain⟨_,_,_,rfl,_,o1,_⟩:=k1.shape;obtain⟨_,_,_,rfl,_,o2,_⟩:=k2.shape;obtain⟨_,_,_,rfl,_,o3,_⟩:=k3.shape;obtain⟨_,_,_,rfl,_,o4,_⟩:=k4.shape;refine bO (by rw[C.ft];exact Xv) (by simp) ?_;by_cases hbb:b=true/\b'=true
 . obtain⟨rfl,rfl⟩:=hbb;obtain⟨rfl,rfl,s1,s2⟩:=hb rfl;obtain⟨rfl,rfl,s3,s4⟩:=hb' rfl;have s2':ah (p.den:Int)<1000000000:=by rw[cd (by omega)];omega
   have s4':ah (q.den:Int)<1000000000:=by rw[cd (by omega)];omega
   have r1:=rn s1 s3;have r3:=rn s2' s4';have qa:=fun h=>C.Cn (p.num*q.num) (p.den*q.den) h (by omega) (by omega) hne
   rw[←Bt]at qa;clear q3 q4 q5 q8 q9;unfold BZ;simp only[enter];generalize p.num=P at *
   generalize q.num=Q at *
   generalize (p.den:Int)=D at *
   generalize (q.den:Int)=E at *
   exact gg3
 . have hc:b=false\/b=true/\b'=false:=by cases b <;> cases b' <;> simp at hbb ⊢
   unfold BZ;simp only[enter];rcases hc with rfl|⟨rfl,rfl⟩;all_goals
   . exact gg17
theorem Yn (C:vI M N){k:Nat}(hk:(10:Int)^(2*k+1)<=dB^N){q:Rat}(hq:Dq k q)(lq:(aw q).length<1000000)(h0:q≠0):aU M 133 [.str (aw q)] [] ⟨.str (aw q⁻¹),[],[]⟩:=by
 obtain⟨v1,v2,k1,k2,q3⟩:=C.oK q lq;have fq:=fit hk hq;have q9:=fun h=>C.mG h k2 k1 fq.d0 fq.n0 (fun h=>h0 (vH.1 h))
 rw[←Rat.inv_def]at q9;obtain⟨_,_,_,rfl,_,o1,_⟩:=k1.shape;obtain⟨_,_,_,rfl,_,o2,_⟩:=k2.shape;refine bO (by rw[C.ft];exact Xw) (by simp) ?_;unfold JC;simp only[enter];exact gg17
theorem Yo (hft:M.FT=FT){p q:Rat}(q133:∀h,M.ext 133 [.str (aw q)] h=some ⟨.str (aw q⁻¹),h,[]⟩)(q53:∀h,M.ext 53 [.str (aw p),.str (aw q⁻¹)] h=some ⟨.str (aw (p*q⁻¹)),h,[]⟩):aU M 52 [.str (aw p),.str (aw q)] [] ⟨.str (aw (p*q⁻¹)),[],[]⟩:=by
 refine bO (by rw[hft];exact Xx) (by simp) ?_;unfold JD;simp only[enter];exact gg3
theorem Yp (hft:M.FT=FT){p q:Rat}(q141:∀h,M.ext 141 [.str (aw q)] h=some ⟨.str (aw (-q)),h,[]⟩)(q90:∀h,M.ext 90 [.str (aw p),.str (aw (-q))] h=some ⟨.str (aw (p + -q)),h,[]⟩):aU M 57 [.str (aw p),.str (aw q)] [] ⟨.str (aw (p-q)),[],[]⟩:=by
 rw[Rat.sub_eq_add_neg];refine bO (by rw[hft];exact Xu) (by simp) ?_;unfold JB;simp only[enter];exact gg3
theorem Yq (hft:M.FT=FT){p q:Rat}(q57:∀h,M.ext 57 [.str (aw p),.str (aw q)] h=some ⟨.str (aw (p-q)),h,[]⟩)(q140:∀h,M.ext 140 [.str (aw (p-q))] h=some ⟨.iV (aW (p-q).num),h,[]⟩):aU M 55 [.str (aw p),.str (aw q)] [] ⟨.iV (aW (p-q).num),[],[]⟩:=by
 refine bO (by rw[hft];exact Xy) (by simp) ?_;unfold JE;simp only[enter];exact gg3
end Go.Ab.Ch1
