/-
  Own work: the reference's fractions: made of two integers.
-/
import Derived.Test.YtcjphdmkgmkabaaGreatDoorLib5
import Derived.Test.YtcjphdmkgmkabaaGreatDoorCh1Base
import Derived.Test.YtcjphdmkgmkabaaGreatDoorLib3
set_option maxHeartbeats 8000000
set_option maxRecDepth 20000
namespace Go.Ab.Ch1
open Go.Ab.bj
variable {M:ax} {cap c1 c2:Option Nat} {N:Nat}
structure yO (M:ax)(N:Nat):Prop where
 ft:M.FT=FT
 yP:∀{a z},bW a z->ah z<dB^N->∃v0,bW v0 (-z)/\∀h,M.ext 194 [a] h=some ⟨v0,h,[]⟩
 qS:∀{x y:AV} (a b:List Int),cH x a->cH y b->okW dB a->okW dB b->aN a->aN b->a.length<100000->b.length<100000->∃gv g,cH gv g/\okW dB g/\aN g/\WV dB g=(Int.gcd (WV dB a) (WV dB b):Nat)/\g.length<100000/\∀h,M.ext 155 [x,y] h=some ⟨gv,h,[]⟩
 kG:∀(x:AV) (a b:List Int),cH x a->okW dB a->okW dB b->aN a->aN b->a.length<100000->b.length<100000->b≠[]->∃qv q rv r,cH qv q/\cH rv r/\okW dB q/\aN q/\okW dB r/\aN r/\WV dB q=WV dB a/WV dB b/\WV dB r=WV dB a%WV dB b/\∀h,M.ext 195 [x,.vs (al b) b.length none] h=some ⟨.au [qv,rv],h,[]⟩
 jU:∀neg x l,cH x l->okW dB l->l.length<1000000000->∃v0,bW v0 (bN neg (WV dB l))/\∀h,M.ext 196 [.bool neg,x] h=some ⟨v0,h,[]⟩
 yQ:∀{a z} h,bW a z->ah z<dB^N->M.ext 138 [a] h=some ⟨.str (bQ z),h,[]⟩
def tL (res:List eM)(r:AV)(e:Ex)(s:aq):Prop:=(e = .normal\/e = .ret)/\s.s.bZ=[]/\∃vs,dh s.s res=some vs/\aW vs=r/\(if r.top<=0 then [] else s.s.hp)=[]
theorem Ft {neg:Bool}{z:Int}(h:0<=z):ah (bN neg z)=z:=by
 unfold ah bN;cases neg <;> simp <;> omega
theorem Fu {z:Int}(h:0<=z):bQ z=aP z.toNat:=if_neg (by omega)
theorem afi {neg:Bool}{a b:Int}(hb:0<b):(Rat.divInt (bN neg a) b).num=bN neg (a/(Int.gcd a b:Nat))/\((Rat.divInt (bN neg a) b).den:Int)=b/(Int.gcd a b:Nat):=by
 obtain⟨k1,k2,e1,e2,e3,e4⟩:=wD (n:=bN neg a) hb;have hg:Int.gcd (bN neg a) b=Int.gcd a b:=by cases neg <;> simp[bN]
 rw[hg]at e1 e2;have g0:((Int.gcd a b:Nat):Int)≠0:=by
  have:=Int.gcd_pos_of_ne_zero_right a (show b≠0 by omega);omega
 rw[e3,e4];constructor
 . cases neg with
   | false=>
    have e1:a=(Int.gcd a b:Nat)*k1:=e1;show k1=a/_;exact(Int.ediv_eq_of_eq_mul_right g0 e1).symm
   | true=>
    have e1 : -a=(Int.gcd a b:Nat)*k1:=e1;show k1 = -(a/_);rw[Int.ediv_eq_of_eq_mul_right g0 (show a=(Int.gcd a b:Nat)*(-k1) by rw[Int.mul_neg,←e1];omega)];omega
 . exact(Int.ediv_eq_of_eq_mul_right g0 e2).symm
theorem Gw (C:yO M N)(hN:N<100000){neg:Bool}{x y:AV}{l m:List Int}(hx:cH x l)(hy:cH y m)(ol:okW dB l)(om:okW dB m)(nl:aN l)(nm:aN m)(ll:l.length<=N)(lm:m.length<=N)(hm:m≠[])(a0 a1 a5 a6 a7 a8:AV)(lo:List (Nat×AV))(wr:List Nat) :
 W M t136 ⟨⟨[a0,a1,.ptr 0 0,.ptr 1 0,.str [],a5,a6,a7,a8],lo,[some (.cells [.bool neg,x] 162),some (.cells [.bool false,y] 162)],[]⟩,wr⟩ (tL [.var (.p 4)] (.str (ak (Rat.divInt (bN neg (WV dB l)) (WV dB m))))):=by
 have m0:=(iW (b:=dB) (by decide) om nm).2 hm;have l0:=cC (b:=dB) (by decide) ol;obtain⟨en,ed⟩:=afi (neg:=neg) (a:=WV dB l) m0;obtain⟨gv,g,hg,og,ng,vg,lg,q155⟩:=C.qS l m hx hy ol om nl nm (by omega) (by omega);have g0:0<WV dB g:=by
  rw[vg];have:=Int.gcd_pos_of_ne_zero_right (WV dB l) (show WV dB m≠0 by omega);omega
 have hg1:g≠[]:=(iW (b:=dB) (by decide) og ng).1 g0;obtain rfl:gv = .vs (al g) g.length none:=hg.resolve_right fun h=>hg1 h.2
 obtain⟨pv,p,_,_,hp,_,op,np,_,_,vp,_,qa⟩:=C.kG x l g hx ol og nl ng (by omega) lg hg1;obtain⟨qv,q,_,_,hq,_,oq,nq,_,_,vq,_,qb⟩:=C.kG y m g hy om og nm ng (by omega) lg hg1;rw[vg]at vp vq;rw[←vp]at en;rw[←vq]at ed;have lw:∀{r:List Int},r.length<=N->okW dB r->WV dB r<dB^N:=fun h o=>Int.lt_of_lt_of_le (da (by decide) o) (fP (by decide) h)
 have le_div:∀{a b:Int},0<=a->0<b->a/b<=a:=fun h1 h2=>Int.ediv_le_self _ h1
 have p0:=cC (b:=dB) (by decide) op;have q0:=cC (b:=dB) (by decide) oq;have lp:WV dB p<dB^N:=Int.lt_of_le_of_lt (by rw[vp];exact Int.ediv_le_self _ l0) (lw ll ol);have lq:WV dB q<dB^N:=Int.lt_of_le_of_lt (by rw[vq];exact Int.ediv_le_self _ (Int.le_of_lt m0)) (lw lm om);have ln:=fJ (b:=dB) (by decide) op np lp;have lk:=fJ (b:=dB) (by decide) oq nq lq;obtain⟨v1,k1,q1⟩:=C.jU neg pv p hp op (by omega);have t1:=fun h=>C.yQ h k1 (by rw[Ft p0];exact lp)
 obtain⟨v2,k2,q2⟩:=C.jU false qv q hq oq (by omega);have t2:=fun h=>C.yQ h k2 (by rw[Ft q0];exact lq)
 rw[←en]at t1;rw[show bN false (WV dB q)=((Rat.divInt (bN neg (WV dB l)) (WV dB m)).den:Int) from ed.symm,Fu (by omega),Int.toNat_natCast]at t2;have hd0:=(Rat.divInt (bN neg (WV dB l)) (WV dB m)).den_pos;have hq1:q≠[]:=fun h=>by subst h;simp[WV]at ed;omega
 obtain rfl:qv = .vs (al q) q.length none:=hq.resolve_right fun h=>hq1 h.2
 have hs:ak (Rat.divInt (bN neg (WV dB l)) (WV dB m))=if q=[1] then bQ (Rat.divInt (bN neg (WV dB l)) (WV dB m)).num else bQ (Rat.divInt (bN neg (WV dB l)) (WV dB m)).num++47::aP (Rat.divInt (bN neg (WV dB l)) (WV dB m)).den:=by
  have:=NM oq nq;rw[←ed]at this;unfold ak;by_cases h:q=[1]
  . rw[if_pos h,if_pos (by have:=this.2 h;omega)]
  . rw[if_neg h,if_neg (by intro h2;exact h (this.1 (by omega)))]
 rw[hs];have hN1:0<9*N:=by
  have:=List.length_pos_iff.2 hm;omega
 have e9:(dB:Int)^N=10^(9*N):=by rw[←Nx];exact Int.natCast_pow _ _
 have lA:=Mz hN1 (z:=(Rat.divInt (bN neg (WV dB l)) (WV dB m)).num) (by rw[en,Ft p0,←e9];exact lp);generalize bQ (Rat.divInt (bN neg (WV dB l)) (WV dB m)).num=A at *
 have lB:(aP (Rat.divInt (bN neg (WV dB l)) (WV dB m)).den).length<2000000:=by
  have:=qN (k:=9*N) hN1 (z:=WV dB q) (by rw[cD q0,←e9];exact lq);rw[cD q0,←ed,Int.toNat_natCast]at this;omega
 generalize aP (Rat.divInt (bN neg (WV dB l)) (WV dB m)).den=B at *
 clear hs;have ap:A++47::B=A++[47]++B:=by simp
 unfold t136;have hcase:q=[1]\/q.length≠1\/q.length=1/\q[Int.toNat 0]! ≠ 1:=by
  match q,hq1 with
  | [x],_=>
   by_cases h:x=1
   . exact .inl (by rw[h])
   . exact .inr (.inr ⟨rfl,h⟩)
  | x::y::r,_=>exact .inr (.inl (by simp))
 rcases hcase with rfl|hc|⟨hc,hc2⟩
 . rw[if_pos rfl];have e1:([1]:List Int).length=1:=rfl;have e2:([1]:List Int)[Int.toNat 0]! = 1:=rfl;exact gg2
 . rw[if_neg (fun h=>hc (by rw[h];rfl)),ap];exact gg2
 . rw[if_neg (fun h=>hc2 (by rw[h];rfl)),ap];exact gg2
theorem afj (C:yO M N)(hN:N<100000){a b:AV}{za zb:Int}(ha:bW a za)(hb:bW b zb)(la:ah za<dB^N)(lb:ah zb<dB^N)(hz:zb≠0):aT M 136 [a,b] [] ⟨.str (ak (Rat.divInt za zb)),[],[]⟩:=by
 have ha':=ha;have hb':=hb;obtain⟨na,x,l,rfl,hx,ol,nl,ll,ea,_,_⟩:=ha.abs la;obtain⟨nb,y,m,rfl,hy,om,nm,lm,eb,_,hn⟩:=hb.abs lb;have hm:m≠[]:=fun h=>by subst h;cases nb <;> simp[bN,WV]at eb <;> omega
 refine bB (by rw[C.ft];exact aeB) (by simp) ?_;cases nb with
 | false=>
  rw[ea,show zb=WV dB m from eb];unfold Fi;simp only[enter];exact gg7
 | true=>
  obtain⟨v1,k1,q1⟩:=C.yP ha' la;obtain⟨v2,k2,q2⟩:=C.yP hb' lb;obtain⟨n1,x1,l1,rfl,hx1,ol1,nl1,ll1,ea1,_,_⟩:=k1.abs (N:=N) (by rw[ja];exact la);obtain⟨n2,x2,m1,rfl,hy1,om1,nm1,lm1,eb1,_,hn1⟩:=k2.abs (N:=N) (by rw[ja];exact lb);have o1:=(tH x1 hx1).1;have o2:=(tH x2 hy1).1;have m0:=(iW (b:=dB) (by decide) om nm).2 hm;have e2:zb = -WV dB m:=eb;have m1p:=cC (b:=dB) (by decide) om1;have hm1:m1≠[]:=fun h=>by subst h;cases n2 <;> simp[bN,WV]at eb1 <;> omega
  cases n2 with
  | true=>
   have : -zb = -WV dB m1:=eb1;omega
  | false=>
  rw[←Rat.neg_divInt_neg,ea1,show -zb=WV dB m1 from eb1];unfold Fi;simp only[enter];exact gg15
end Go.Ab.Ch1

/-
  Own work: the reference's fractions: of machine integers.
-/
namespace Go.Ab.Ch1
open Go.Ab.bj
variable {M:ax} {cap c1 c2:Option Nat} {N:Nat}
theorem afk (hft:M.FT=FT)(a b:Nat)(ha:a<9223372036854775808)(hb:b<9223372036854775808):aT M 158 [.iV a,.iV b] [] ⟨.iV (Nat.gcd a b:Nat),[],[]⟩:=by
 refine bB (by rw[hft];exact aez) (by simp) ?_;unfold Of;simp only[enter];refine gg3 ?_;refine W.fT (fun m st=>∃(A B:Nat) (lo:List (Nat×AV)) (wr:List Nat),st=⟨⟨[.iV A,.iV B,.iV 0],lo,[],[]⟩,wr⟩/\m=B/\A<9223372036854775808/\B<9223372036854775808/\Nat.gcd A B=Nat.gcd a b) (fun m st ⟨A,B,lo,wr,hst,hm,hA,hB,hg⟩=>?_) (m:=b) ⟨a,b,_,_,rfl,rfl,ha,hb,rfl⟩;subst hst;unfold Oe;rcases Nat.eq_zero_or_pos B with rfl|hp
 . rw[Nat.gcd_zero_right]at hg;rw[←hg];exact gg8
 . have hlt:=Nat.mod_lt A hp;have hn:Nat.gcd B (A%B)=Nat.gcd a b:=by rw[←hg,Nat.gcd_comm A B,Nat.gcd_rec B A,Nat.gcd_comm]
   have e:((A:Int)%(B:Int))=((A%B:Nat):Int):=rfl;exact gg11
structure Fv (M:ax)(N:Nat):Prop extends yO M N where
 OB:∀(a b:Nat) h,a<9223372036854775808->b<9223372036854775808->M.ext 158 [.iV a,.iV b] h=some ⟨.iV (Nat.gcd a b:Nat),h,[]⟩
 Fw:∀(n:Nat) h,n<9223372036854775808->M.ext 117 [.iV (n:Nat),.iV 1] h=some ⟨.str (aP n),h,[]⟩
 Fx:∀n:Int,-9223372036854775808<=n/\n<9223372036854775808->∃v0,bW v0 n/\∀h,M.ext 139 [.iV n] h=some ⟨v0,h,[]⟩
 pc:∀{a b za zb} h,bW a za->bW b zb->ah za<dB^N->ah zb<dB^N->zb≠0->M.ext 136 [a,b] h=some ⟨.str (ak (Rat.divInt za zb)),h,[]⟩
theorem yR (q:Rat):ak q=(if q.num<0 then [45] else [])++aP q.num.natAbs++(if 1<q.den then 47::aP q.den else []):=by
 have:=q.den_pos;have e:bQ q.num=(if q.num<0 then [45] else [])++aP q.num.natAbs:=by
  unfold bQ;split
  . rw[show (-q.num).toNat=q.num.natAbs by omega];rfl
  . rw[show q.num.toNat=q.num.natAbs by omega];rfl
 unfold ak;by_cases h:q.den=1
 . rw[if_pos h,if_neg (show ¬1<q.den by omega),e,List.append_nil]
 . rw[if_neg h,if_pos (show 1<q.den by omega),e]
theorem Gn (C:Fv M N){n d:Int}(hd:0<d/\d<=4000000000000000000)(hn : -4000000000000000000<=n/\n<=4000000000000000000)(a3 a4:AV)(lo:List (Nat×AV))(wr:List Nat) :
 W M t78 ⟨⟨[.iV n,.iV d,.str [],a3,a4],lo,[],[]⟩,wr⟩ (tL [.var (.p 2)] (.str (ak (Rat.divInt n d)))):=by
 obtain⟨k1,k2,e1,e2,e3,e4⟩:=wD (n:=n) hd.1;have g0:=Int.gcd_pos_of_ne_zero_right n (show d≠0 by omega);have eg:Nat.gcd n.natAbs d.natAbs=Int.gcd n d:=rfl;have q158:=fun h=>C.OB n.natAbs d.natAbs h (by omega) (by omega)
 rw[show ((d.natAbs:Nat):Int)=d by omega,eg]at q158;have hle:((Int.gcd n d:Nat):Int)<=d:=Int.le_of_dvd hd.1 (Int.gcd_dvd_right _ _);have hv1:n.tdiv (Int.gcd n d:Nat)=(Rat.divInt n d).num:=by
  rw[e3];conv=>lhs;arg 1;rw[e1]
  exact Int.mul_tdiv_cancel_left _ (by omega)
 have hv2:d.tdiv (Int.gcd n d:Nat)=((Rat.divInt n d).den:Int):=by
  rw[e4];conv=>lhs;arg 1;rw[e2]
  exact Int.mul_tdiv_cancel_left _ (by omega)
 have hs:=yR (Rat.divInt n d);have b1:(Rat.divInt n d).num.natAbs<=n.natAbs:=by
  rw[←hv1,Int.natAbs_tdiv];exact Nat.div_le_self _ _
 have b2:(Rat.divInt n d).den<=d.natAbs:=by
  have:=Int.natAbs_tdiv d (Int.gcd n d:Nat);rw[hv2,Int.natAbs_natCast]at this;rw[this];exact Nat.div_le_self _ _
 rw[hs];generalize (Rat.divInt n d).num=P at *
 generalize (Rat.divInt n d).den=D at *
 generalize Int.gcd n d=g at *
 have t1:=fun h=>C.Fw P.natAbs h (by omega)
 have t2:=fun h=>C.Fw D h (by omega)
 have l1:=oC (n:=P.natAbs) (k:=19) (Nat.lt_of_le_of_lt b1 (by rw[Fs];omega)) (by decide);have l2:=oC (n:=D) (k:=19) (Nat.lt_of_le_of_lt b2 (by rw[Fs];omega)) (by decide);generalize aP P.natAbs=A at *
 generalize aP D=B at *
 unfold t78;repeat' first|(apply agY (m:=(n.natAbs:Int));rfl;rfl;omega)|(apply agY (m:=(P.natAbs:Int));rfl;rfl;omega)|(apply ahw;rfl;rfl;omega;omega;first|exact hv1|exact hv2)|apply abn|apply aM|apply abp|apply abC|apply abS|apply acQ|(apply agL;rfl)|(apply acL;rfl)|(apply acS;rfl)|(apply adf;rfl;rfl)|(apply aep;rfl;rfl)|(apply afD;rfl;rfl;omega)|(apply ahn;rfl;rfl;first|omega|(simp only[List.length_append,List.length_cons,List.length_nil];omega)|(simp;omega))|(apply aco;rfl;rfl;first|exact q158 _|exact t1 _|exact t2 _)|(apply abg;rfl;rfl)|(apply acn;rfl;rfl)|(intro _;omega)|intro _
 all_goals try omega
 all_goals refine⟨.inr rfl,rfl,_,rfl,?_,rfl⟩
 all_goals
  rename_i u1 u2;first|rw[if_pos u1]|rw[if_neg (by omega)]
  first|rw[if_pos (by omega)]|rw[if_neg (by omega)]
  simp[aW]
theorem OC (hN:3<=N){n:Int}(h : -9223372036854775808<=n/\n<9223372036854775808):ah n<dB^N:=by
 have h1:ah n<dB^3:=by rw[Oz];unfold ah;split <;> omega
 exact Int.lt_of_lt_of_le h1 (fP (by decide) hN)
theorem w78 (C:Fv M N)(hN:3<=N){n d:Int}(hn : -9223372036854775808<=n/\n<9223372036854775808)(hd : -9223372036854775808<=d/\d<9223372036854775808)(h0:d≠0):aT M 78 [.iV n,.iV d] [] ⟨.str (ak (Rat.divInt n d)),[],[]⟩:=by
 obtain⟨v1,k1,q1⟩:=C.Fx n hn;obtain⟨v2,k2,q2⟩:=C.Fx d hd;have q3:=fun h=>C.pc h k1 k2 (OC hN hn) (OC hN hd) h0
 refine bB (by rw[C.ft];exact aeC) (by simp) ?_;show W M Fj _ (tL _ _);unfold Fj;simp only[enter];by_cases hs:(-4000000000000000000<=n/\n<=4000000000000000000) /\ -4000000000000000000<=d/\d<=4000000000000000000
 . by_cases hp:0<d
   . exact gg4
   . rw[←Rat.neg_divInt_neg];have e1:0-n = -n:=by omega
     have e2:0-d = -d:=by omega
     have tl:=fun a3 a4 lo wr=>Gn C (n:=-n) (d:=-d) ⟨by omega,by omega⟩ ⟨by omega,by omega⟩ a3 a4 lo wr
     rw[←e1,←e2]at tl;rw[←e1,←e2];exact gg8
 . exact gg10
end Go.Ab.Ch1

/-
  Own work: the code of functions: numerators, denominators, large numbers.
-/
namespace Go.Ab.Ch1
set_option maxRecDepth 1000000
def OD:an:=zR [⟨.p 1,.mv (.c (.str [])),none⟩] (.seq (zR [zm 3 0,z1 4 140 3,zc 5 .lss 4 0] (.cond (.l 5) (zR [zm 6 0,⟨.l 7,.slice .str 1 (.l 6) (some (kI 1)) none none,none⟩,zw 1 7] (.ret)) (.skip))) (zR [zm 8 0,zw 1 8] (.ret)))
theorem afm:FT 56=some ⟨9,[0,2],[.var (.p 1)],OD⟩:=by kernel_rfl
def OE:an:=zR [zi 1 0] (.seq (zR [zm 3 0,z1 4 142 3,z1 5 56 4,zL 6 5,zc 7 .gtr 6 600,zn 8 7,zg (zm 9 0) 8 false,zg (z1 10 143 9) 8 false,zg (zL 11 10) 8 false,zg (zc 12 .gtr 11 600) 8 false,zP 13 8 12] (.cond (.l 13) (zR [zi 1 4] (.ret)) (.skip))) (zR [zi 1 0] (.ret)))
theorem afn:FT 108=some ⟨14,[0,2],[.var (.p 1)],OE⟩:=by kernel_rfl
def OF:an:=zR [⟨.p 1,.mv (.c (.str [])),none⟩] (zR [zm 3 0,zm 4 0,z1 5 153 4,⟨.l 6,.slice .str 1 (.l 3) none (some (.l 5)) none,none⟩,zw 1 6] (.ret))
theorem afo:FT 142=some ⟨7,[0,2],[.var (.p 1)],OF⟩:=by kernel_rfl
def OG:an:=zR [⟨.p 1,.mv (.c (.str [])),none⟩] (zR [zm 4 0,z1 5 153 4,zw 2 5] (.seq (zR [zm 6 2,zm 7 0,zL 8 7,zb 9 .eql 6 8] (.cond (.l 9) (zR [⟨.p 1,.mv (.c (.str [49])),none⟩] (.ret)) (.skip))) (zR [zm 10 0,zm 11 2,zc 12 .add 11 1,⟨.l 13,.slice .str 1 (.l 10) (some (.l 12)) none none,none⟩,zw 1 13] (.ret))))
theorem afp:FT 143=some ⟨14,[0,2,3],[.var (.p 1)],OG⟩:=by kernel_rfl
end Go.Ab.Ch1

/-
  Own work: the reference's fractions as texts: signs, opposites, numerators, denominators.
-/
namespace Go.Ab.Ch1
open Go.Ab.bj
variable {M:ax} {N:Nat}
theorem tM (q:Rat):ak q≠[]:=fun h=>by
 have:=yR q;rw[h]at this;have:=congrArg List.length this;have:=List.length_pos_iff.2 (ky q.num.natAbs);simp at *
 omega
theorem OH (q:Rat):0<(ak q).length/\(((ak q)[Int.toNat 0]!).toNat:Int)=45↔q.num<0:=by
 have h:=(tk q).1;have h0:=tM q;generalize ak q=s at *
 cases s with
 | nil=>exact absurd rfl h0
 | cons c t=>
  rw[preB,List.head?_cons,decide_eq_decide]at h;rw[←h];show 0<t.length+1/\((c.toNat:Int)=45)↔some c=some 45;constructor
  . intro h;rw[show c=45 from UInt8.toNat_inj.1 (by have:=h.2;have e:(45:UInt8).toNat=45:=rfl;omega)]
  . intro h;cases h;exact⟨by omega,rfl⟩
theorem Fy {q:Rat}(h:q.num<0):ak q=45::ak (-q):=by
 rw[yR,yR,Rat.neg_num,Rat.neg_den,if_pos h,if_neg (show ¬ -q.num<0 by omega),Int.natAbs_neg];simp
theorem afq {q:Rat}(h:0<q.num):ak (-q)=45::ak q:=by
 have:=Fy (q:=-q) (by rw[Rat.neg_num];omega);rw[Rat.neg_neg]at this;exact this
theorem yS {q:Rat}:q.num=0↔q=0:=Rat.num_eq_zero
theorem afr (hft:M.FT=FT)(q:Rat):aT M 140 [.str (ak q)] [] ⟨.iV (bh q.num),[],[]⟩:=by
 refine bB (by rw[hft];exact aeD) (by simp) ?_;unfold Oj;simp only[enter];by_cases h0:q.num=0
 . rw[h0,yS.1 h0,DR];repeat' first|apply abn|apply aM|apply abp|apply abC|apply abS|apply cd|(apply acL;rfl)|(apply afz;rfl;rfl;all_goals first|(intro h;exact absurd h (by decide))|(intro h;exact absurd rfl h)|(intro h;contradiction)|intro _)|(apply abg;rfl;rfl)|(apply acn;rfl;rfl)
   all_goals exact⟨.inr rfl,rfl,_,rfl,rfl,rfl⟩
 . have hne:ak q≠[48]:=fun h=>h0 (yS.2 (DS h))
   have hl:=List.length_pos_iff.2 (tM q);have hh:=OH q;unfold bh;by_cases hn:q.num<0
   . rw[if_pos hn];obtain⟨_,h45⟩:=hh.2 hn;generalize ak q=s at *
     repeat' first|apply abn|apply aM|apply abp|apply abC|apply abS|apply acQ|apply cd|(apply acL;rfl)|(apply acS;rfl)|(apply aef;rfl)|(apply aep;rfl;rfl)|(apply aer;rfl;rfl)|(apply acZ;rfl;rfl)|(apply agh;rfl;rfl;omega)|(apply afz;rfl;rfl;all_goals first|(intro h;exact absurd h (by decide))|(intro h;exact absurd rfl h)|(intro h;contradiction)|intro _)|(apply abg;rfl;rfl)|(apply acn;rfl;rfl)|(intro _;omega)|intro _
     all_goals try omega
     all_goals exact⟨.inr rfl,rfl,_,rfl,rfl,rfl⟩
   . rw[if_neg hn,if_pos (show 0<q.num by omega)];have h45:¬(((ak q)[Int.toNat 0]!).toNat:Int)=45:=fun h=>hn (hh.1 ⟨hl,h⟩)
     generalize ak q=s at *
     repeat' first|apply abn|apply aM|apply abp|apply abC|apply abS|apply acQ|(apply acS;rfl)|(apply aef;rfl)|(apply aep;rfl;rfl)|(apply aer;rfl;rfl)|(apply acZ;rfl;rfl)|(apply agh;rfl;rfl;omega)|(apply afz;rfl;rfl;all_goals first|(intro h;exact absurd h (by decide))|(intro h;exact absurd rfl h)|(intro h;contradiction)|intro _)|(apply abg;rfl;rfl)|(apply acn;rfl;rfl)|(intro _;omega)|intro _
     all_goals try omega
     all_goals exact⟨.inr rfl,rfl,_,rfl,rfl,rfl⟩
theorem afs (hft:M.FT=FT){q:Rat}(hl:(ak q).length<1000000)(q140:∀h,M.ext 140 [.str (ak q)] h=some ⟨.iV (bh q.num),h,[]⟩):aT M 141 [.str (ak q)] [] ⟨.str (ak (-q)),[],[]⟩:=by
 refine bB (by rw[hft];exact aeE) (by simp) ?_;have h0:=List.length_pos_iff.2 (tM q);unfold Ok;simp only[enter];by_cases hn:q.num<0
 . have e:=Fy hn;have e1:(ak q).drop (Int.toNat 1)=ak (-q):=by rw[e];rfl
   have e2:bh q.num = -1:=if_pos hn;rw[e2]at q140;generalize ak (-q)=t at *
   generalize ak q=s at *
   exact gg9
 . by_cases hz:q.num=0
   . have e:=yS.1 hz;subst e;have e2:bh (0:Rat).num=0:=rfl;rw[e2]at q140;rw[show (-0:Rat)=0 by simp];generalize ak 0=s at *
     exact gg10
   . have e:=afq (show 0<q.num by omega);have e2:bh q.num=1:=by unfold bh;rw[if_neg hn,if_pos (by omega)]
     rw[e2]at q140;rw[e];generalize ak q=s at *
     have l1:([45]:ao).length=1:=rfl;exact gg2
theorem w56 (hft:M.FT=FT){q:Rat}(q140:∀h,M.ext 140 [.str (ak q)] h=some ⟨.iV (bh q.num),h,[]⟩):aT M 56 [.str (ak q)] [] ⟨.str (ak (if q.num<0 then -q else q)),[],[]⟩:=by
 refine bB (by rw[hft];exact afm) (by simp) ?_;have h0:=List.length_pos_iff.2 (tM q);unfold OD;simp only[enter];by_cases hn:q.num<0
 . have e1:(ak q).drop (Int.toNat 1)=ak (-q):=by rw[Fy hn];rfl
   have e2:bh q.num = -1:=if_pos hn;rw[e2]at q140;rw[if_pos hn];generalize ak (-q)=t at *
   generalize ak q=s at *
   exact gg9
 . have e2:0<=bh q.num:=by unfold bh;rw[if_neg hn];split <;> omega
   rw[if_neg hn];generalize ak q=s at *
   generalize bh q.num=z at *
   exact gg11
theorem Fz (q:Rat):cm (ak q)=(bQ q.num).length/\(ak q).take (cm (ak q))=bQ q.num/\(cm (ak q)=(ak q).length↔q.den=1)/\(q.den≠1->(ak q).drop (cm (ak q)+1)=aP q.den/\cm (ak q)+1<=(ak q).length)/\jy (ak q)=decide (q.den≠1)/\bG 47 (ak q)=(bQ q.num,if q.den=1 then none else some (aP q.den)):=by
 have e:bG 47 (ak q)=(bQ q.num,if q.den=1 then none else some (aP q.den)):=by
  unfold ak;split
  . exact tg (xK _)
  . exact th (xK _)
 have e1:cm (ak q)=(bQ q.num).length:=by unfold cm;rw[e]
 refine⟨e1,?_,?_,?_,?_,e⟩
 . rw[e1];unfold ak;split <;> simp
 . rw[e1];unfold ak;split <;> simp[*]
 . intro h;rw[e1];unfold ak;rw[if_neg h];constructor
   . rw[show bQ q.num++47::aP q.den=(bQ q.num++[47])++aP q.den by simp,List.drop_append_of_le_length (by simp)];simp
   . simp
 . unfold jy;rw[e];by_cases h:q.den=1 <;> simp[h]
theorem yT (z:Int):ak (z:Rat)=bQ z:=by
 unfold ak;rw[if_pos (Rat.den_intCast z),Rat.num_intCast]
theorem afu (hft:M.FT=FT){q:Rat}(q153:∀h,M.ext 153 [.str (ak q)] h=some ⟨.iV (cm (ak q)),h,[]⟩):aT M 142 [.str (ak q)] [] ⟨.str (bQ q.num),[],[]⟩:=by
 refine bB (by rw[hft];exact afo) (by simp) ?_;obtain⟨_,e,_⟩:=Fz q;have hk:=tD (ak q);have e':(ak q).take ((cm (ak q):Nat):Int).toNat=bQ q.num:=e;generalize bQ q.num=t at *
 generalize ak q=s at *
 unfold OF;simp only[enter];exact gg5
theorem Qa:aP 1=[49]:=gS (by decide)
theorem afv (hft:M.FT=FT){q:Rat}(hl:(ak q).length<1000000)(q153:∀h,M.ext 153 [.str (ak q)] h=some ⟨.iV (cm (ak q)),h,[]⟩):aT M 143 [.str (ak q)] [] ⟨.str (aP q.den),[],[]⟩:=by
 refine bB (by rw[hft];exact afp) (by simp) ?_;obtain⟨_,_,hd,hs,_⟩:=Fz q;have hk:=tD (ak q);unfold OG;simp only[enter];by_cases h1:q.den=1
 . have e:=hd.2 h1;rw[h1];generalize ak q=s at *
   exact gg9
 . obtain⟨e,e2⟩:=hs h1;have hne:cm (ak q)≠(ak q).length:=fun h=>h1 (hd.1 h)
   have e':(ak q).drop ((cm (ak q):Nat)+1:Int).toNat=aP q.den:=by rw[show ((cm (ak q):Nat)+1:Int).toNat=cm (ak q)+1 by omega];exact e
   generalize aP q.den=t at *
   generalize ak q=s at *
   exact gg0
theorem afw (hft:M.FT=FT){q:Rat}(hq:Dq 600 q)(q142:∀h,M.ext 142 [.str (ak q)] h=some ⟨.str (ak (q.num:Rat)),h,[]⟩)(q56:∀h,M.ext 56 [.str (ak (q.num:Rat))] h=some ⟨.str (ak (if q.num<0 then -(q.num:Rat) else (q.num:Rat))),h,[]⟩)(q143:∀h,M.ext 143 [.str (ak q)] h=some ⟨.str (aP q.den),h,[]⟩):aT M 108 [.str (ak q)] [] ⟨.iV 0,[],[]⟩:=by
 have l1:(ak (if q.num<0 then -(q.num:Rat) else (q.num:Rat))).length<=600:=by
  have e:ak (if q.num<0 then -(q.num:Rat) else (q.num:Rat))=aP (ah q.num).toNat:=by
   unfold ah;split
   . rw[show -(q.num:Rat)=((-q.num:Int):Rat) by simp,yT,Fu (by omega)]
   . rw[yT,Fu (by omega)]
  rw[e];exact qN (by decide) hq.1
 have l2:(aP q.den).length<=600:=by
  have:=qN (z:=q.den) (k:=600) (by decide) (by rw[cD (by omega)];exact hq.2);rw[cD (by omega),Int.toNat_natCast]at this;exact this
 generalize aP q.den=d at *
 generalize ak (if q.num<0 then -(q.num:Rat) else (q.num:Rat))=n at *
 refine bB (by rw[hft];exact afn) (by simp) ?_;unfold OE;simp only[enter];exact gg0
end Go.Ab.Ch1

/-
  Own work: the reference's fractions: short ones as machine integers.
-/
namespace Go.Ab.Ch1
open Go.Ab.bj
variable {M:ax} {N:Nat}
theorem afx {q:Rat}{u num:ao}{k dl:Nat}(neg:Bool)(hs:(if neg then -((ah q.num).toNat:Int) else ((ah q.num).toNat:Int))=q.num)
 (hk:k=num.length) (hkl:k<=u.length) (hu:u.length<1000000) (ht:u.take k=num) (h1:k=u.length↔q.den=1) (hd:q.den≠1->u.drop (k+1)=aP q.den/\k+1+(aP q.den).length=u.length) (hdl:dl=u.length-k)
 (q153:∀h,M.ext 153 [.str u] h=some ⟨.iV k,h,[]⟩) (qn:k<=9->∀h,M.ext 192 [.str num] h=some ⟨.iV (ah q.num).toNat,h,[]⟩) (qd:dl<=10->q.den≠1->∀h,M.ext 192 [.str (aP q.den)] h=some ⟨.iV (q.den:Nat),h,[]⟩)
 (bn:k<=9->(ah q.num).toNat<1000000000) (a0 a5 a6 a7:AV) (lo:List (Nat×AV)) (wr:List Nat) :
 W M t134 ⟨⟨[a0,.iV 0,.iV 0,.bool false,.str u,.bool neg,a5,a6,a7],lo,[],[]⟩,wr⟩ (tL [.var (.p 1),.var (.p 2),.var (.p 3)] (if k<=9/\dl<=10 then .au [.iV q.num,.iV q.den,.bool true] else .au [.iV 0,.iV 0,.bool false])):=by
 have ht':u.take ((k:Nat):Int).toNat=num:=ht;by_cases hc:k<=9/\dl<=10
 . rw[if_pos hc];have qn:=qn hc.1;have bn:=bn hc.1;by_cases hd1:q.den=1
   . have hku:=h1.2 hd1;rw[hd1];generalize (ah q.num).toNat=A at *
     generalize q.num=P at *
     unfold t134;cases neg with
     | false=>
      obtain rfl:P=A:=hs.symm;repeat' first|(apply agt (r:=num);rfl;rfl;omega;exact ht')|apply abn|apply aM|apply abp|apply abC|apply abS|apply acQ|(apply acS;rfl)|(apply afN;rfl)|(apply adf;rfl;rfl)|(apply aep;rfl;rfl)|(apply aej;rfl;rfl)|(apply afD;rfl;rfl;omega)|(apply aco;rfl;rfl;first|exact q153 _|exact qn _)|(apply abg;rfl;rfl)|(apply acn;rfl;rfl)|(intro _;omega)|intro _
      all_goals try omega
      all_goals exact⟨.inr rfl,rfl,_,rfl,rfl,rfl⟩
     | true=>
      have e:(0:Int)-A=P:=by rw[←hs];simp
      repeat' first|(apply agt (r:=num);rfl;rfl;omega;exact ht')|apply abn|apply aM|apply abp|apply abC|apply abS|apply acQ|(apply acL;rfl)|(apply acS;rfl)|(apply afN;rfl)|(apply adf;rfl;rfl)|(apply aep;rfl;rfl)|(apply aej;rfl;rfl)|(apply afD;rfl;rfl;omega)|(apply aco;rfl;rfl;first|exact q153 _|exact qn _)|(apply abg;rfl;rfl)|(apply acn;rfl;rfl)|(intro _;omega)|intro _
      all_goals try omega
      all_goals exact⟨.inr rfl,rfl,_,rfl,by rw[e];rfl,rfl⟩
   . have qd:=qd hc.2 hd1;obtain⟨e1,e2⟩:=hd hd1;have hne:k≠u.length:=fun h=>hd1 (h1.1 h)
     have e1':u.drop ((k:Nat)+1:Int).toNat=aP q.den:=by rw[show ((k:Nat)+1:Int).toNat=k+1 by omega];exact e1
     generalize aP q.den=B at *
     generalize q.den=D at *
     generalize (ah q.num).toNat=A at *
     generalize q.num=P at *
     unfold t134;cases neg with
     | false=>
      obtain rfl:P=A:=hs.symm;repeat' first|(apply agt (r:=num);rfl;rfl;omega;exact ht')|(apply agf (r:=B);rfl;rfl;omega;exact e1')|apply abn|apply aM|apply abp|apply abC|apply abS|apply acQ|(apply acL;rfl)|(apply acS;rfl)|(apply afN;rfl)|(apply adf;rfl;rfl)|(apply aep;rfl;rfl)|(apply aej;rfl;rfl)|(apply afC;rfl;rfl;omega)|(apply afD;rfl;rfl;omega)|(apply aco;rfl;rfl;first|exact q153 _|exact qn _|exact qd _)|(apply abg;rfl;rfl)|(apply acn;rfl;rfl)|(intro _;omega)|intro _
      all_goals try omega
      all_goals exact⟨.inr rfl,rfl,_,rfl,rfl,rfl⟩
     | true=>
      have e:(0:Int)-A=P:=by rw[←hs];simp
      repeat' first|(apply agt (r:=num);rfl;rfl;omega;exact ht')|(apply agf (r:=B);rfl;rfl;omega;exact e1')|apply abn|apply aM|apply abp|apply abC|apply abS|apply acQ|(apply acL;rfl)|(apply acS;rfl)|(apply afN;rfl)|(apply adf;rfl;rfl)|(apply aep;rfl;rfl)|(apply aej;rfl;rfl)|(apply afC;rfl;rfl;omega)|(apply afD;rfl;rfl;omega)|(apply aco;rfl;rfl;first|exact q153 _|exact qn _|exact qd _)|(apply abg;rfl;rfl)|(apply acn;rfl;rfl)|(intro _;omega)|intro _
      all_goals try omega
      all_goals exact⟨.inr rfl,rfl,_,rfl,by rw[e];rfl,rfl⟩
 . rw[if_neg hc];unfold t134;exact gg2
structure OI (M:ax):Prop where
 ft:M.FT=FT
 tJ:∀(s:ao) h,s.length<1000000->M.ext 153 [.str s] h=some ⟨.iV (cm s),h,[]⟩
 pb:∀(s:ao) h,s.length<=18->s.all bI=true->M.ext 192 [.str s] h=some ⟨.iV (az 0 s:Nat),h,[]⟩
theorem dec_lt {n k:Nat}(h:(aP n).length<=k):n<10^k:=by
 have:=mK (aP n) (jt n);rw[jc]at this;exact Nat.lt_of_lt_of_le this (Nat.pow_le_pow_right (by decide) h)
theorem afy (C:OI M){q:Rat}(hl:(ak q).length<1000000):∃n d b,(b=true->n=q.num/\d=q.den/\ah q.num<1000000000/\q.den<1000000000)/\aT M 134 [.str (ak q)] [] ⟨.au [.iV n,.iV d,.bool b],[],[]⟩:=by
 by_cases BX:20<(ak q).length
 . refine⟨0,0,false,nofun,bB (by rw[C.ft];exact Oi) (by simp) ?_⟩;generalize ak q=s at *
   unfold yL;simp only[enter];exact gg2
 . obtain⟨hp,hc⟩:=tk q;obtain⟨v,hv⟩:∃u,u=bL 45 (ak q):=⟨_,rfl⟩;have hul:=qK 45 (ak q);have hsp:bG 47 v=(aP (ah q.num).toNat,if q.den=1 then none else some (aP q.den)):=by
    have n47:∀n,(47:UInt8)∉aP n:=fun n h=>by
     have:=List.all_eq_true.1 (jt n) _ h;exact absurd this (by decide)
    rw[hv,hc];split
    . exact tg (n47 _)
    . exact th (n47 _)
   have hk:cm v=(aP (ah q.num).toNat).length:=by unfold cm;rw[hsp]
   have hvt:v=if q.den=1 then aP (ah q.num).toNat else aP (ah q.num).toNat++47::aP q.den:=by rw[hv,hc]
   obtain⟨dl,hdl⟩:∃dl,dl=v.length-cm v:=⟨_,rfl⟩;have hdlen:q.den≠1->v.drop (cm v+1)=aP q.den/\cm v+1+(aP q.den).length=v.length:=fun h=>by
    rw[hk,hvt,if_neg h];constructor
    . rw[show aP (ah q.num).toNat++47::aP q.den=(aP (ah q.num).toNat++[47])++aP q.den by simp,List.drop_append_of_le_length (by simp)];simp
    . simp;omega
   have hsgn:(if decide (q.num<0) then -((ah q.num).toNat:Int) else ((ah q.num).toNat:Int))=q.num:=by
    unfold ah;by_cases h:q.num<0
    . simp only[h,decide_true,if_true];omega
    . simp only[h,decide_false,if_false];show ((q.num.toNat:Nat):Int)=_;omega
   have tl:=fun a0 a5 a6 a7 lo wr=>afx (M:=M) (q:=q) (u:=v) (num:=aP (ah q.num).toNat) (k:=cm v) (dl:=dl) (decide (q.num<0)) hsgn hk (tD v) (by rw[hv];omega) (by rw[hk,hvt];split <;> simp) (by rw[hk,hvt];split <;> simp[*]) hdlen hdl
     (fun h=>C.tJ v h (by rw[hv];omega)) (fun hk9 h=>by
      have:=C.pb (aP (ah q.num).toNat) h (by omega) (jt _);rw[jc]at this;exact this) (fun Av hd1 h=>by
      have:=C.pb (aP q.den) h (by have:=(hdlen hd1).2;omega) (jt _);rw[jc]at this;exact this) (fun hk9=>dec_lt (n:=(ah q.num).toNat) (k:=9) (by omega)) a0 a5 a6 a7 lo wr
   have key:∃n d b,(b=true->n=q.num/\d=q.den/\ah q.num<1000000000/\q.den<1000000000)/\(if cm v<=9/\dl<=10 then AV.au [.iV q.num,.iV q.den,.bool true] else .au [.iV 0,.iV 0,.bool false]) = .au [.iV n,.iV d,.bool b]:=by
    by_cases h:cm v<=9/\dl<=10
    . refine⟨q.num,q.den,true,fun _=>⟨rfl,rfl,?_,?_⟩,if_pos h⟩
      . have:=dec_lt (n:=(ah q.num).toNat) (k:=9) (by omega);have:=iD (x:=q.num);omega
      . by_cases hd1:q.den=1
        . omega
        . exact dec_lt (n:=q.den) (k:=9) (by have:=(hdlen hd1).2;omega)
    . exact⟨0,0,false,nofun,if_neg h⟩
   obtain⟨n,d,b,h1,h2⟩:=key;rw[h2]at tl;refine⟨n,d,b,h1,bB (by rw[C.ft];exact Oi) (by simp) ?_⟩;have hh:=OH q;have h0:=List.length_pos_iff.2 (tM q);show W M yL _ (tL _ _);unfold yL;simp only[enter];by_cases hn:q.num<0
   . rw[decide_eq_true hn]at tl hp;have e1:(ak q).drop (Int.toNat 1)=v:=by rw[hv];exact(tf hp).1
     obtain⟨_,h45⟩:=hh.2 hn;generalize ak q=s at *
     exact gg4
   . rw[decide_eq_false hn]at tl hp;have e1:ak q=v:=by rw[hv];exact(jS hp).symm
     have h45:¬(((ak q)[Int.toNat 0]!).toNat:Int)=45:=fun h=>hn (hh.1 ⟨h0,h⟩)
     rw[e1]at BX h0 h45 ⊢;exact gg4
end Go.Ab.Ch1

/-
  Own work: the reference's fractions: sums, products, quotients, comparisons.
-/
namespace Go.Ab.Ch1
open Go.Ab.bj
variable {M:ax} {N:Nat}
structure yU (M:ax)(N:Nat):Prop where
 ft:M.FT=FT
 tN:∀q,(ak q).length<1000000->∃n d b,(b=true->n=q.num/\d=q.den/\ah q.num<1000000000/\q.den<1000000000)/\∀h,M.ext 134 [.str (ak q)] h=some ⟨.au [.iV n,.iV d,.bool b],h,[]⟩
 lK:∀q,(ak q).length<1000000->∃v1 v2,bW v1 q.num/\bW v2 (q.den:Nat)/\∀h,M.ext 135 [.str (ak q)] h=some ⟨.au [v1,v2],h,[]⟩
 qW:∀{a b x y},bW a x->bW b y->ah x<dB^N->ah y<dB^N->∃v0,bW v0 (x*y)/\∀h,M.ext 137 [a,b] h=some ⟨v0,h,[]⟩
 OJ:∀{a b x y},bW a x->bW b y->ah x<dB^N->ah y<dB^N->∃v0,bW v0 (x+y)/\∀h,M.ext 170 [a,b] h=some ⟨v0,h,[]⟩
 pc:∀{a b x y} h,bW a x->bW b y->ah x<dB^N->ah y<dB^N->y≠0->M.ext 136 [a,b] h=some ⟨.str (ak (Rat.divInt x y)),h,[]⟩
 FA:∀(n d:Int) h,-9223372036854775808<=n/\n<9223372036854775808 -> -9223372036854775808<=d/\d<9223372036854775808->d≠0->M.ext 78 [.iV n,.iV d] h=some ⟨.str (ak (Rat.divInt n d)),h,[]⟩
structure Fit (N k:Nat)(q:Rat):Prop where
 dq:Dq k q
 n0:ah q.num<dB^N
 d0:ah (q.den:Int)<dB^N
theorem fit {k:Nat}(hk:(10:Int)^(2*k+1)<=dB^N){q:Rat}(h:Dq k q):Fit N k q:=by
 have h1:=oT (m:=k) (n:=2*k+1) (by omega);exact⟨h,by have:=h.1;omega,by rw[cD (by omega)];have:=h.2;omega⟩
theorem tO {x y:Int}(hx:ah x<1000000000)(hy:ah y<1000000000) : -1000000000000000000<x*y/\x*y<1000000000000000000:=by
 have h:=jT (m:=9) (n:=9) hx hy;have e:(10:Int)^(9+9)=1000000000000000000:=by decide
 rw[e]at h;unfold ah at h;split at h <;> omega
theorem w90 (C:yU M N){k:Nat}(hk:(10:Int)^(2*k+1)<=dB^N){p q:Rat}(hp:Dq k p)(hq:Dq k q)(lp:(ak p).length<1000000)(lq:(ak q).length<1000000):aT M 90 [.str (ak p),.str (ak q)] [] ⟨.str (ak (p+q)),[],[]⟩:=by
 obtain⟨n,d,b,hb,q1⟩:=C.tN p lp;obtain⟨m,e,b',hb',q2⟩:=C.tN q lq;obtain⟨v1,v2,k1,k2,q3⟩:=C.lK p lp;obtain⟨v3,v4,k3,k4,q4⟩:=C.lK q lq;have fp:=fit hk hp;have fq:=fit hk hq;have dp:=den_pos (q:=p);have dq:=den_pos (q:=q);have b2:ah (p.den:Int)<10^k:=by rw[cD (by omega)];exact hp.2
 have b4:ah (q.den:Int)<10^k:=by rw[cD (by omega)];exact hq.2
 have e2:(10:Int)^(2*k+1)=10^(k+k)*10:=by rw[show 2*k+1=(k+k)+1 by omega];exact Int.pow_succ _ _
 have t0:=oO (k+k);have m1:=jT hp.1 b4;have m2:=jT hq.1 b2;have m3:=jT b2 b4;obtain⟨v5,k5,q5⟩:=C.qW k1 k4 fp.n0 fq.d0;obtain⟨v6,k6,q6⟩:=C.qW k3 k2 fq.n0 fp.d0;obtain⟨v7,k7,q7⟩:=C.OJ k5 k6 (by omega) (by omega);obtain⟨v8,k8,q8⟩:=C.qW k2 k4 fp.d0 fq.d0;have hne:(p.den:Int)*q.den≠0:=Int.ne_of_gt (Int.mul_pos dp dq);have q9:=fun h=>C.pc h k7 k8 (by have:=Mx (x:=p.num*q.den) (y:=q.num*p.den);omega) (by omega) hne
 rw[←qA]at q9;obtain⟨_,_,_,rfl,_,o1,_⟩:=k1.shape;obtain⟨_,_,_,rfl,_,o2,_⟩:=k2.shape;obtain⟨_,_,_,rfl,_,o3,_⟩:=k3.shape;obtain⟨_,_,_,rfl,_,o4,_⟩:=k4.shape;refine bB (by rw[C.ft];exact aeF) (by simp) ?_;by_cases hbb:b=true/\b'=true
 . obtain⟨rfl,rfl⟩:=hbb;obtain⟨rfl,rfl,s1,s2⟩:=hb rfl;obtain⟨rfl,rfl,s3,s4⟩:=hb' rfl;have s2':ah (p.den:Int)<1000000000:=by rw[cD (by omega)];omega
   have s4':ah (q.den:Int)<1000000000:=by rw[cD (by omega)];omega
   have r1:=tO s1 s4';have r2:=tO s3 s2';have r3:=tO s2' s4';have qa:=fun h=>C.FA (p.num*q.den+q.num*p.den) (p.den*q.den) h (by omega) (by omega) hne
   rw[←qA]at qa;clear q3 q4 q5 q6 q7 q8 q9;unfold Fk;simp only[enter];generalize p.num=P at *
   generalize q.num=Q at *
   generalize (p.den:Int)=D at *
   generalize (q.den:Int)=E at *
   exact gg9
 . have hc:b=false\/b=true/\b'=false:=by cases b <;> cases b' <;> simp at hbb ⊢
   unfold Fk;simp only[enter];rcases hc with rfl|⟨rfl,rfl⟩;all_goals
   . repeat' first|(apply adi;rfl;rfl;rfl;exact⟨rfl,Nat.le_refl _,by first|exact fO o1|exact fO o2|exact fO o3|exact fO o4⟩;rfl)|(apply ahb;rfl;rfl;rfl)|(apply aco;rfl;rfl;first|exact q1 _|exact q2 _|exact q3 _|exact q4 _|exact q5 _|exact q6 _|exact q7 _|exact q8 _|exact q9 _)|(apply afA;rfl;rfl;(first|(simp only[nca];rfl)|rfl);first|exact q1 _|exact q2 _|exact q3 _|exact q4 _|exact q5 _|exact q6 _|exact q7 _|exact q8 _|exact q9 _)|apply abn|apply aM|apply abp|apply abC|apply abS|apply acQ|apply aet|apply afd|(apply afE;rfl)|(apply aft;rfl;rfl;(first|(simp only[nca];rfl)|rfl))|(apply acS;rfl)|(apply aef;rfl)|(apply afP;rfl)|(apply acZ;rfl;rfl)|(apply aej;rfl;rfl)|(apply acY;rfl;rfl;rfl)|(apply abg;rfl;rfl)|(apply acn;rfl;rfl)
     all_goals exact⟨.inr rfl,rfl,_,rfl,rfl,rfl⟩
theorem w53 (C:yU M N){k:Nat}(hk:(10:Int)^(2*k+1)<=dB^N){p q:Rat}(hp:Dq k p)(hq:Dq k q)(lp:(ak p).length<1000000)(lq:(ak q).length<1000000):aT M 53 [.str (ak p),.str (ak q)] [] ⟨.str (ak (p*q)),[],[]⟩:=by
 obtain⟨n,d,b,hb,q1⟩:=C.tN p lp;obtain⟨m,e,b',hb',q2⟩:=C.tN q lq;obtain⟨v1,v2,k1,k2,q3⟩:=C.lK p lp;obtain⟨v3,v4,k3,k4,q4⟩:=C.lK q lq;have fp:=fit hk hp;have fq:=fit hk hq;have dp:=den_pos (q:=p);have dq:=den_pos (q:=q);have b2:ah (p.den:Int)<10^k:=by rw[cD (by omega)];exact hp.2
 have b4:ah (q.den:Int)<10^k:=by rw[cD (by omega)];exact hq.2
 have e2:(10:Int)^(2*k+1)=10^(k+k)*10:=by rw[show 2*k+1=(k+k)+1 by omega];exact Int.pow_succ _ _
 have t0:=oO (k+k);have m1:=jT hp.1 hq.1;have m3:=jT b2 b4;obtain⟨v5,k5,q5⟩:=C.qW k1 k3 fp.n0 fq.n0;obtain⟨v8,k8,q8⟩:=C.qW k2 k4 fp.d0 fq.d0;have hne:(p.den:Int)*q.den≠0:=Int.ne_of_gt (Int.mul_pos dp dq);have q9:=fun h=>C.pc h k5 k8 (by omega) (by omega) hne
 rw[←DQ]at q9;obtain⟨_,_,_,rfl,_,o1,_⟩:=k1.shape;obtain⟨_,_,_,rfl,_,o2,_⟩:=k2.shape;obtain⟨_,_,_,rfl,_,o3,_⟩:=k3.shape;obtain⟨_,_,_,rfl,_,o4,_⟩:=k4.shape;refine bB (by rw[C.ft];exact aeH) (by simp) ?_;by_cases hbb:b=true/\b'=true
 . obtain⟨rfl,rfl⟩:=hbb;obtain⟨rfl,rfl,s1,s2⟩:=hb rfl;obtain⟨rfl,rfl,s3,s4⟩:=hb' rfl;have s2':ah (p.den:Int)<1000000000:=by rw[cD (by omega)];omega
   have s4':ah (q.den:Int)<1000000000:=by rw[cD (by omega)];omega
   have r1:=tO s1 s3;have r3:=tO s2' s4';have qa:=fun h=>C.FA (p.num*q.num) (p.den*q.den) h (by omega) (by omega) hne
   rw[←DQ]at qa;clear q3 q4 q5 q8 q9;unfold Fl;simp only[enter];generalize p.num=P at *
   generalize q.num=Q at *
   generalize (p.den:Int)=D at *
   generalize (q.den:Int)=E at *
   exact gg9
 . have hc:b=false\/b=true/\b'=false:=by cases b <;> cases b' <;> simp at hbb ⊢
   unfold Fl;simp only[enter];rcases hc with rfl|⟨rfl,rfl⟩;all_goals
   . repeat' first|(apply adi;rfl;rfl;rfl;exact⟨rfl,Nat.le_refl _,by first|exact fO o1|exact fO o2|exact fO o3|exact fO o4⟩;rfl)|(apply ahb;rfl;rfl;rfl)|(apply aco;rfl;rfl;first|exact q1 _|exact q2 _|exact q3 _|exact q4 _|exact q5 _|exact q8 _|exact q9 _)|(apply afA;rfl;rfl;(first|(simp only[nca];rfl)|rfl);first|exact q1 _|exact q2 _|exact q3 _|exact q4 _|exact q5 _|exact q8 _|exact q9 _)|apply abn|apply aM|apply abp|apply abC|apply abS|apply acQ|apply aet|apply afd|(apply afE;rfl)|(apply aft;rfl;rfl;(first|(simp only[nca];rfl)|rfl))|(apply acS;rfl)|(apply aef;rfl)|(apply afP;rfl)|(apply acZ;rfl;rfl)|(apply aej;rfl;rfl)|(apply acY;rfl;rfl;rfl)|(apply abg;rfl;rfl)|(apply acn;rfl;rfl)
     all_goals exact⟨.inr rfl,rfl,_,rfl,rfl,rfl⟩
theorem afB (C:yU M N){k:Nat}(hk:(10:Int)^(2*k+1)<=dB^N){q:Rat}(hq:Dq k q)(lq:(ak q).length<1000000)(h0:q≠0):aT M 133 [.str (ak q)] [] ⟨.str (ak q⁻¹),[],[]⟩:=by
 obtain⟨v1,v2,k1,k2,q3⟩:=C.lK q lq;have fq:=fit hk hq;have q9:=fun h=>C.pc h k2 k1 fq.d0 fq.n0 (fun h=>h0 (yS.1 h))
 rw[←Rat.inv_def]at q9;obtain⟨_,_,_,rfl,_,o1,_⟩:=k1.shape;obtain⟨_,_,_,rfl,_,o2,_⟩:=k2.shape;refine bB (by rw[C.ft];exact aeI) (by simp) ?_;unfold Om;simp only[enter];repeat' first|(apply adi;rfl;rfl;rfl;exact⟨rfl,Nat.le_refl _,by first|exact fO o1|exact fO o2⟩;rfl)|(apply ahb;rfl;rfl;rfl)|apply abn|apply aM|apply abp|apply abC|apply abS|(apply aco;rfl;rfl;first|exact q3 _|exact q9 _)|(apply acY;rfl;rfl;rfl)|(apply abg;rfl;rfl)|(apply acn;rfl;rfl)
 all_goals exact⟨.inr rfl,rfl,_,rfl,rfl,rfl⟩
theorem w52 (hft:M.FT=FT){p q:Rat}(q133:∀h,M.ext 133 [.str (ak q)] h=some ⟨.str (ak q⁻¹),h,[]⟩)(q53:∀h,M.ext 53 [.str (ak p),.str (ak q⁻¹)] h=some ⟨.str (ak (p*q⁻¹)),h,[]⟩):aT M 52 [.str (ak p),.str (ak q)] [] ⟨.str (ak (p*q⁻¹)),[],[]⟩:=by
 refine bB (by rw[hft];exact aeJ) (by simp) ?_;unfold On;simp only[enter];exact gg5
theorem w57 (hft:M.FT=FT){p q:Rat}(q141:∀h,M.ext 141 [.str (ak q)] h=some ⟨.str (ak (-q)),h,[]⟩)(q90:∀h,M.ext 90 [.str (ak p),.str (ak (-q))] h=some ⟨.str (ak (p + -q)),h,[]⟩):aT M 57 [.str (ak p),.str (ak q)] [] ⟨.str (ak (p-q)),[],[]⟩:=by
 rw[Rat.sub_eq_add_neg];refine bB (by rw[hft];exact aeG) (by simp) ?_;unfold Ol;simp only[enter];exact gg5
theorem w55 (hft:M.FT=FT){p q:Rat}(q57:∀h,M.ext 57 [.str (ak p),.str (ak q)] h=some ⟨.str (ak (p-q)),h,[]⟩)(q140:∀h,M.ext 140 [.str (ak (p-q))] h=some ⟨.iV (bh (p-q).num),h,[]⟩):aT M 55 [.str (ak p),.str (ak q)] [] ⟨.iV (bh (p-q).num),[],[]⟩:=by
 refine bB (by rw[hft];exact aeK) (by simp) ?_;unfold Oo;simp only[enter];exact gg5
end Go.Ab.Ch1

/-
  Own work: the code of functions: the laws MarkNumbers and MarkParts.
-/
namespace Go.Ab.Ch1
set_option maxRecDepth 1000000
def OK:an:=zR [⟨.p 2,.mv (.c (.bool false)),none⟩] (.seq (zR [⟨.l 16,.call (kF 18) [],none⟩,zu 17 16,zn 18 17,zg (zm 19 0) 18 false,zg (zL 20 19) 18 false,zg (zc 21 .gtr 20 1400) 18 false,zP 22 18 21] (.cond (.l 22) (zR [⟨.l 23,.call (kF 18) [],none⟩,zw 2 23] (.ret)) (.skip))) (.seq (zR [zm 24 0,z1 25 84 24,zm 26 0,z1 27 62 26,zb 28 .neq 25 27] (.cond (.l 28) (zR [⟨.p 2,.mv (.c (.bool false)),none⟩] (.ret)) (.skip))) (.seq (zR [zm 29 0,zm 30 1,⟨.l 31,.dQ 75 2 1 [.str []] [(0,1,(.l 29)),(1,1,(.l 30))],none⟩,z1 32 72 31,zu 33 32] (.cond (.l 33) (zR [⟨.p 2,.mv (.c (.bool true)),none⟩] (.ret)) (.skip))) (zR [zm 35 0,zm 36 1,z2 37 85 35 36,zn 34 37,ze 38 0 34,ze 39 1 34,zw 3 38,zw 4 39] (zR [zm 41 0,zm 42 1,z2 43 86 41 42,zn 40 43,ze 44 0 40,ze 45 1 40,zw 5 44,zw 6 45] (zR [zm 47 0,zm 48 1,z2 49 87 47 48,zn 46 49,ze 50 0 46,ze 51 1 46,zw 7 50,zw 8 51] (zR [zm 53 0,zm 54 1,z2 55 88 53 54,zn 52 55,ze 56 0 52,ze 57 1 52,zw 9 56,zw 10 57] (zR [zm 59 0,zm 60 1,z2 61 89 59 60,zn 58 61,ze 62 0 58,ze 63 1 58,zw 11 62,zw 12 63] (zR [zm 64 0,z1 65 62 64,zm 66 1,z1 67 62 66,⟨.l 68,.dQ 3 2 1 [.iV (0)] [(0,1,(.l 65)),(1,1,(.l 67))],none⟩,z1 69 24 68,zw 13 69] (.seq (zR [zm 70 13,zc 71 .neq 70 0] (.cond (.l 71) (zR [zm 72 3,zm 73 4,zm 74 13,⟨.l 75,.call (kF 75) [(.l 72),(.l 73),(.l 74),(.c (.str []))],none⟩,zn 76 75,zg (zm 77 5) 76 true,zg (zm 78 6) 76 true,zg (zm 79 13) 76 true,⟨.l 80,.call (kF 75) [(.l 77),(.l 78),(.l 79),(.c (.str []))],some ((.l 76),true)⟩,zp 81 76 80,zn 82 81,zg (zm 83 7) 82 true,zg (zm 84 8) 82 true,zg (zm 85 13) 82 true,⟨.l 86,.call (kF 75) [(.l 83),(.l 84),(.l 85),(.c (.str []))],some ((.l 82),true)⟩,zp 87 82 86,zn 88 87,zg (zm 89 9) 88 true,zg (zm 90 10) 88 true,zg (zm 91 13) 88 true,⟨.l 92,.call (kF 75) [(.l 89),(.l 90),(.l 91),(.c (.str []))],some ((.l 88),true)⟩,zp 93 88 92,zn 94 93,zg (zm 95 11) 94 true,zg (zm 96 12) 94 true,zg (zm 97 13) 94 true,⟨.l 98,.call (kF 38) [(.l 95),(.l 96),(.l 97),(kI 0)],some ((.l 94),true)⟩,zp 99 94 98,zw 2 99] (.ret)) (.skip))) (.seq (zR [zm 100 3,zm 101 4,zm 102 0,zm 103 1,z2 104 90 102 103,⟨.l 105,.call (kF 75) [(.l 100),(.l 101),(kI 0),(.l 104)],none⟩,zu 106 105,zn 107 106,zg (zm 108 5) 107 false,zg (zm 109 6) 107 false,zg (zm 110 0) 107 false,zg (zm 111 1) 107 false,zg (z2 112 57 110 111) 107 false,⟨.l 113,.call (kF 75) [(.l 108),(.l 109),(kI 0),(.l 112)],some ((.l 107),false)⟩,zg (zu 114 113) 107 false,zP 115 107 114,zn 116 115,zg (zm 117 7) 116 false,zg (zm 118 8) 116 false,zg (zm 119 0) 116 false,zg (zm 120 1) 116 false,zg (z2 121 53 119 120) 116 false,⟨.l 122,.call (kF 75) [(.l 117),(.l 118),(kI 0),(.l 121)],some ((.l 116),false)⟩,zg (zu 123 122) 116 false,zP 124 116 123,zn 125 124,zg (zm 126 11) 125 false,zg (zm 127 12) 125 false,zg (zm 128 0) 125 false,zg (zm 129 1) 125 false,zg (z2 130 55 128 129) 125 false,⟨.l 131,.call (kF 38) [(.l 126),(.l 127),(kI 0),(.l 130)],some ((.l 125),false)⟩,zg (zu 132 131) 125 false,zP 133 125 132] (.cond (.l 133) (zR [⟨.p 2,.mv (.c (.bool false)),none⟩] (.ret)) (.skip))) (.seq (zR [zm 134 1,z1 135 91 134] (.cond (.l 135) (zR [zm 136 9,zm 137 10,⟨.l 138,.call (kF 75) [(.l 136),(.l 137),(kI 6),(.c (.str []))],none⟩,zw 2 138] (.ret)) (.skip))) (zR [zm 139 9,zm 140 10,zm 141 0,zm 142 1,z2 143 52 141 142,⟨.l 144,.call (kF 75) [(.l 139),(.l 140),(kI 0),(.l 143)],none⟩,zw 2 144] (.ret))))))))))))))
theorem afF:FT 16=some ⟨145,[0,1,4,5,6,7,8,9,10,11,12,13,14,15],[.var (.p 2)],OK⟩:=by kernel_rfl
def FB:an:=.seq (zR [zm 4 2,zm 5 0,zl 6 5,zb 7 .lss 4 6] (.cond (.l 7) (.skip) (.exit 0))) (.seq (.block 1 (zR [zm 10 0,zm 11 2,za 12 1 10 11,zd 13 1 12,zL 14 13,zc 15 .gtr 14 60] (.cond (.l 15) (zR [⟨.p 1,.mv (.c (.bool false)),none⟩] (.ret)) (.skip)))) (.region [zm 8 2,zc 9 .add 8 1,zw 2 9]))
def OL:an:=zR [⟨.p 1,.mv (.c (.bool false)),none⟩] (.seq (zR [zi 2 0] (.block 0 (.loop FB))) (zR [⟨.p 1,.mv (.c (.bool true)),none⟩] (.ret)))
theorem afG:FT 72=some ⟨16,[0,2,3],[.var (.p 1)],OL⟩:=by kernel_rfl
def FC:an:=zR [⟨.p 4,.mv (.c (.bool false)),none⟩] (.seq (zR [zm 9 2,zc 10 .eql 9 0] (.cond (.l 10) (.region [zm 11 3,z1 12 108 11,zw 2 12]) (.skip))) (.seq (zR [zm 13 2,zc 14 .neq 13 0] (.cond (.l 14) (zR [zm 15 0,⟨.l 16,.bin .eql (.l 15) (.c (.str [])),none⟩,zn 17 16,zg (zm 18 1) 17 true,zg (zm 19 2) 17 true,zg (zb 20 .eql 18 19) 17 true,zp 21 17 20,zw 4 21] (.ret)) (.skip))) (zR [zm 22 1,zc 23 .eql 22 0,zn 24 23,zg (zm 25 0) 24 true,zg (zm 26 3) 24 true,zg (zb 27 .eql 25 26) 24 true,zp 28 24 27,zw 4 28] (.ret))))
theorem OM:FT 75=some ⟨29,[0,1,2,3,8],[.var (.p 4)],FC⟩:=by kernel_rfl
end Go.Ab.Ch1

/-
  Own work: the resolved code of some functions of chapter 1: marks.
-/
namespace Go.Ab.Ch1
set_option maxRecDepth 1000000
def FD:an:=zR [⟨.p 4,.mv (.c (.bool false)),none⟩] (.seq (zR [zm 9 2,zc 10 .neq 9 0] (.cond (.l 10) (zR [zm 11 0,zc 12 .eql 11 0,zn 13 12,zg (zm 14 1) 13 true,zg (zm 15 2) 13 true,zg (zb 16 .eql 14 15) 13 true,zp 17 13 16,zw 4 17] (.ret)) (.skip))) (zR [zm 18 1,zc 19 .eql 18 0,zn 20 19,zg (zm 21 0) 20 true,zg (zm 22 3) 20 true,zg (zb 23 .eql 21 22) 20 true,zp 24 20 23,zw 4 24] (.ret)))
theorem ON:FT 38=some ⟨25,[0,1,2,3,8],[.var (.p 4)],FD⟩:=by kernel_rfl
end Go.Ab.Ch1

/-
  Own work: stadionlaw01.MarkNumbers answers true.
-/
namespace Go.Ab.Ch1
open Go.Ab.bj
variable {M:ax} {cap:Option Nat} {N:Nat}
theorem afH (hft:M.FT=FT){e:Int}(he:e≠0):aT M 75 [.str [],.iV e,.iV e,.str []] [] ⟨.bool true,[],[]⟩:=by
 refine bB (by rw[hft];exact OM) (by simp) ?_;unfold FC;simp only[enter];repeat' first|apply abn|apply aM|apply abp|apply abC|apply abS|apply acQ|apply cd|(apply acL;rfl)|(apply acS;rfl)|(apply aef;rfl)|(apply aer;rfl;rfl)|(apply afl;rfl;rfl)|(apply acZ;rfl;rfl)|(apply afz;rfl;rfl;all_goals first|(intro h;exact absurd h (by decide))|(intro h;exact absurd rfl h)|(intro h;contradiction)|intro _)|(apply abg;rfl;rfl)|(apply acn;rfl;rfl)|(intro _;omega)|intro _
 all_goals try omega
 all_goals exact⟨.inr rfl,rfl,_,rfl,rfl,rfl⟩
theorem w75 (hft:M.FT=FT){s:ao}(q:∀h,M.ext 108 [.str s] h=some ⟨.iV 0,h,[]⟩):aT M 75 [.str s,.iV 0,.iV 0,.str s] [] ⟨.bool true,[],[]⟩:=by
 refine bB (by rw[hft];exact OM) (by simp) ?_;unfold FC;simp only[enter];repeat' first|apply abn|apply aM|apply abp|apply abC|apply abS|apply acQ|(apply acL;rfl)|(apply acS;rfl)|(apply aef;rfl)|(apply aer;rfl;rfl)|(apply afl;rfl;rfl)|(apply acZ;rfl;rfl)|(apply aco;rfl;rfl;first|exact q _)|(apply afz;rfl;rfl;all_goals first|(intro h;exact absurd h (by decide))|(intro h;exact absurd rfl h)|(intro h;contradiction)|intro _)|(apply abg;rfl;rfl)|(apply acn;rfl;rfl)|(intro _;omega)|intro _
 all_goals exact⟨.inr rfl,rfl,_,rfl,rfl,rfl⟩
theorem afJ (hft:M.FT=FT){e:Int}(he:e≠0):aT M 38 [.iV 0,.iV e,.iV e,.iV 0] [] ⟨.bool true,[],[]⟩:=by
 refine bB (by rw[hft];exact ON) (by simp) ?_;unfold FD;simp only[enter];exact gg2
theorem afK (hft:M.FT=FT)(c:Int):aT M 38 [.iV c,.iV 0,.iV 0,.iV c] [] ⟨.bool true,[],[]⟩:=by
 refine bB (by rw[hft];exact ON) (by simp) ?_;unfold FD;simp only[enter];exact gg0
theorem w91 (hft:M.FT=FT)(s:ao):aT M 91 [.str s] [] ⟨.bool (decide (s=[48])),[],[]⟩:=by
 refine bB (by rw[hft];exact adt) (by simp) ?_;unfold No;simp only[enter];by_cases h:s=[48]
 . subst h;repeat' first|apply abn|apply aM|apply abp|apply abC|apply abS|(apply afz;rfl;rfl;all_goals first|(intro h;exact absurd h (by decide))|(intro h;exact absurd rfl h)|(intro h;contradiction)|intro _)|(apply abg;rfl;rfl)|(apply acn;rfl;rfl)
   all_goals exact⟨.inr rfl,rfl,_,rfl,rfl,rfl⟩
 . rw[decide_eq_false h];repeat' first|apply abn|apply aM|apply abp|apply abC|apply abS|(apply afz;rfl;rfl;all_goals first|(intro h;exact absurd h (by decide))|(intro h;exact absurd rfl h)|(intro h;contradiction)|intro _)|(apply abg;rfl;rfl)|(apply acn;rfl;rfl)
   all_goals exact⟨.inr rfl,rfl,_,rfl,rfl,rfl⟩
theorem w72 (hft:M.FT=FT)(a b:ao):aT M 72 [.vs [.str a,.str b] 2 cap] [] ⟨.bool (decide (a.length<=60/\b.length<=60)),[],[]⟩:=by
 refine bB (by rw[hft];exact afG) (by simp) ?_;unfold OL;simp only[enter];by_cases h:a.length<=60/\b.length<=60
 . rw[decide_eq_true h];refine gg3 ?_;refine W.loop ?_;unfold FB;refine gg6 ?_;refine fv (W.loop ?_);refine gg6 ?_;refine fv (W.loop ?_);exact gg1
 . rw[decide_eq_false h];refine gg3 ?_;refine W.loop ?_;unfold FB;by_cases ha:a.length<=60
   . refine gg6 ?_;refine fv (W.loop ?_);exact gg0
   . exact gg0
structure OO (M:ax):Prop where
 ft:M.FT=FT
 OP:∀h,M.ext 18 [] h=some ⟨.bool true,h,[]⟩
 OQ:∀s h,s.length<=1400->M.ext 84 [.str s] h=some ⟨.iV (bR s),h,[]⟩
 FE:∀s h,s.length<=1400->M.ext 62 [.str s] h=some ⟨.iV (bR s),h,[]⟩
 OR:∀v h a b,cZ h v (.vs [.str a,.str b] 2 none)->M.ext 72 [v] h=some ⟨.bool (decide (a.length<=60/\b.length<=60)),h,[]⟩
 FF:∀v h l,iI h v=some l->l.length<1000->M.ext 24 [v] h=some ⟨.iV (cg l),h,[]⟩
 yV:∀g a b h,g=85\/g=86\/g=87->a.length<=60->b.length<=60->cg [bR a,bR b]≠0->M.ext g [.str a,.str b] h=some ⟨.au [.str [],.iV (cg [bR a,bR b])],h,[]⟩
 FG:∀a b h,a.length<=60->b.length<=60->mS a b≠0->M.ext 88 [.str a,.str b] h=some ⟨.au [.str [],.iV (mS a b)],h,[]⟩
 OS:∀a b h,a.length<=60->b.length<=60->cg [bR a,bR b]≠0->M.ext 89 [.str a,.str b] h=some ⟨.au [.iV 0,.iV (cg [bR a,bR b])],h,[]⟩
 OT:∀p q h,Dq 200 p->Dq 200 q->M.ext 85 [.str (ak p),.str (ak q)] h=some ⟨.au [.str (ak (p+q)),.iV 0],h,[]⟩
 OU:∀p q h,Dq 200 p->Dq 200 q->M.ext 86 [.str (ak p),.str (ak q)] h=some ⟨.au [.str (ak (p-q)),.iV 0],h,[]⟩
 OV:∀p q h,Dq 200 p->Dq 200 q->M.ext 87 [.str (ak p),.str (ak q)] h=some ⟨.au [.str (ak (p*q)),.iV 0],h,[]⟩
 OW:∀p q h,Dq 200 p->Dq 200 q->q≠0->M.ext 88 [.str (ak p),.str (ak q)] h=some ⟨.au [.str (ak (p*q⁻¹)),.iV 0],h,[]⟩
 OX:∀p q h,Dq 200 p->Dq 200 q->M.ext 89 [.str (ak p),.str (ak q)] h=some ⟨.au [.iV (jv p q),.iV 0],h,[]⟩
 OY:∀p q h,Dq 200 p->Dq 200 q->M.ext 90 [.str (ak p),.str (ak q)] h=some ⟨.str (ak (p+q)),h,[]⟩
 OZ:∀p q h,Dq 200 p->Dq 200 q->M.ext 57 [.str (ak p),.str (ak q)] h=some ⟨.str (ak (p-q)),h,[]⟩
 Pa:∀p q h,Dq 200 p->Dq 200 q->M.ext 53 [.str (ak p),.str (ak q)] h=some ⟨.str (ak (p*q)),h,[]⟩
 Pb:∀p q h,Dq 200 p->Dq 200 q->q≠0->M.ext 52 [.str (ak p),.str (ak q)] h=some ⟨.str (ak (p*q⁻¹)),h,[]⟩
 Pc:∀p q h,Dq 200 p->Dq 200 q->M.ext 55 [.str (ak p),.str (ak q)] h=some ⟨.iV (jv p q),h,[]⟩
 FH:∀e h,e≠0->M.ext 75 [.str [],.iV e,.iV e,.str []] h=some ⟨.bool true,h,[]⟩
 tP:∀q h,Dq 600 q->M.ext 75 [.str (ak q),.iV 0,.iV 0,.str (ak q)] h=some ⟨.bool true,h,[]⟩
 Pd:∀e h,e≠0->M.ext 38 [.iV 0,.iV e,.iV e,.iV 0] h=some ⟨.bool true,h,[]⟩
 Pe:∀c h,M.ext 38 [.iV c,.iV 0,.iV 0,.iV c] h=some ⟨.bool true,h,[]⟩
 Pf:∀s h,M.ext 91 [.str s] h=some ⟨.bool (decide (s=[48])),h,[]⟩
theorem w16 (C:OO M)(a b:ao):aT M 16 [.str a,.str b] [] ⟨.bool true,[],[]⟩:=by
 refine bB (by rw[C.ft];exact afF) (by simp) ?_;have q18:=C.OP;unfold OK;simp only[enter];by_cases vB:a.length<=1400
 . have q84:=fun h=>C.OQ a h vB
   have q62:=fun h=>C.FE a h vB
   have q72:=fun v h hf=>C.OR v h a b hf
   by_cases h60:a.length<=60/\b.length<=60
   . rw[decide_eq_true h60]at q72;have q62b:=fun h=>C.FE b h (by omega)
     by_cases he:cg [bR a,bR b]=0
     . have ⟨ha,hb⟩:bR a=0/\bR b=0:=by
        simp only[cg]at he;split at he
        . split at he <;> constructor <;> omega
        . constructor <;> omega
       obtain⟨p,rfl,hp⟩:=MG ha h60.1;obtain⟨q,rfl,hq⟩:=MG hb h60.2;have m:∀{k:Nat} {x:Rat},Dq k x->k<=600->Dq 600 x:=fun h hk=>h.mono hk
       have p2:=hp.mono (m:=60) (n:=200) (by decide);have q2:=hq.mono (m:=60) (n:=200) (by decide);rw[ha]at q84 q62;rw[hb]at q62b;have q24:∀v h,iI h v=some [0,0]->M.ext 24 [v] h=some ⟨.iV 0,h,[]⟩:=fun v h hi=>C.FF v h [0,0] hi (by decide)
       have a1:=fun h=>C.OT p q h p2 q2
       have a2:=fun h=>C.OU p q h p2 q2
       have a3:=fun h=>C.OV p q h p2 q2
       have a5:=fun h=>C.OX p q h p2 q2
       have r1:=fun h=>C.OY p q h p2 q2
       have r2:=fun h=>C.OZ p q h p2 q2
       have r3:=fun h=>C.Pa p q h p2 q2
       have r5:=fun h=>C.Pc p q h p2 q2
       have n1:=fun h=>C.tP _ h (m (hp.add hq) (by decide))
       have n2:=fun h=>C.tP _ h (m (hp.sub hq) (by decide))
       have n3:=fun h=>C.tP _ h (m (hp.mul hq) (by decide))
       have n5:=fun h=>C.Pe (jv p q) h
       have z:=fun h=>C.Pf (ak q) h
       by_cases hz:q=0
       . have e6:mS (ak p) (ak q)=6:=by unfold mS;rw[he,hz,DR];rfl
         have a4:=fun h=>C.FG _ _ h h60.1 h60.2 (by rw[e6];decide)
         rw[e6]at a4;have n4:=fun h=>C.FH 6 h (by decide)
         rw[decide_eq_true (by rw[hz];exact DR)]at z;generalize ak (p+q)=x1 at *
         generalize ak (p-q)=x2 at *
         generalize ak (p*q)=x3 at *
         generalize jv p q=x5 at *
         generalize ak p=s1 at *
         generalize ak q=s2 at *
         clear C;exact gg2
       . have a4:=fun h=>C.OW _ _ h p2 q2 hz
         have r4:=fun h=>C.Pb _ _ h p2 q2 hz
         have n4:=fun h=>C.tP _ h (m (hp.mul (hq.inv hz)) (by decide))
         rw[decide_eq_false (fun h=>hz (DS h))]at z;generalize ak (p+q)=x1 at *
         generalize ak (p-q)=x2 at *
         generalize ak (p*q)=x3 at *
         generalize ak (p*q⁻¹)=x4 at *
         generalize jv p q=x5 at *
         generalize ak p=s1 at *
         generalize ak q=s2 at *
         clear C;exact gg2
     . have hd:mS a b=cg [bR a,bR b]:=if_neg he;have a1:=fun h=>C.yV 85 a b h (.inl rfl) h60.1 h60.2 he
       have a2:=fun h=>C.yV 86 a b h (.inr (.inl rfl)) h60.1 h60.2 he
       have a3:=fun h=>C.yV 87 a b h (.inr (.inr rfl)) h60.1 h60.2 he
       have a4:=fun h=>C.FG a b h h60.1 h60.2 (by rw[hd];exact he)
       have a5:=fun h=>C.OS a b h h60.1 h60.2 he
       rw[hd]at a4;have n1:=fun h=>C.FH _ h he
       have n5:=fun h=>C.Pd _ h he
       have q24:∀v h,iI h v=some [bR a,bR b]->M.ext 24 [v] h=some ⟨.iV (cg [bR a,bR b]),h,[]⟩:=fun v h hi=>C.FF v h _ hi (by simp)
       generalize cg [bR a,bR b]=e at *
       generalize bR a=ea at *
       generalize bR b=eb at *
       clear C;exact gg2
   . rw[decide_eq_false h60]at q72;generalize bR a=ea at *
     exact gg2
 . exact gg10
end Go.Ab.Ch1

/-
  Own work: the reference's integers: no digits times no digits.
-/
namespace Go.Ab.Ch1
open Go.Ab.bj
variable {M:ax} {cap c1 c2:Option Nat}
theorem gk.zero {b:Nat}{e:TypeId}{hp:ab}(hb:hp.at b=some (.cells (al []) e)):gk (aW [.sl b 0 0 1 cap]) (if (aW [.sl b 0 0 1 cap]).top<=0 then [] else hp) []:=by
 rw[if_neg (by simp[aW,AV.top])];refine⟨.vs [] 0 none,⟨[b],.sl (m:=[]) (List.mem_singleton.2 rfl) hb rfl rfl (fun i x y hx=>by simp at hx) (.inr rfl),rfl,fun c l' e' hc hl'=>?_⟩,rfl,rfl⟩;rw[List.mem_singleton.1 hc,hb]at hl';cases hl';exact nL (fun _=>rfl) []
theorem afO (hft:M.FT=FT)(dP:∀ars h,M.ext 242 ars h=none):yB M 197 [.vs (al []) ([]:List Int).length c1,.vs (al []) ([]:List Int).length c2] (WV dB []*WV dB []):=by
 refine EE (by rw[hft];exact Nl) (by simp) ?_;have q:=CT.run (fi:=[]) (ca:=[]) (ars:=[.sl 0 0 0 1 (some 0)]) (dP _ _) (EL hft (b:=0) (L:=[]) (e:=3) (hp:=[some (.cells (al []) 3)]) (cap:=some 0) rfl);have hl:([]:List Int).length=0:=rfl;unfold EB;simp only[enter];rw[hl];refine gg6 ?_;refine W.loop ?_;unfold yz;exact gg1
end Go.Ab.Ch1

/-
  Own work: the contracts of the reference's numbers as tables.
-/
namespace Go.Ab.Ch1
open Go.Proofs Go.Ab.bj
theorem cH.top {x:AV}{l:List Int}(h:cH x l):x.top=0:=(tH x h).2.1
theorem bW.top {v:AV}{z:Int}(h:bW v z):v.top=0:=by
 obtain⟨_,x,_,rfl,_,_,ht,_⟩:=h.shape;simp[AV.top,br,ht]
theorem Pg {x y:AV}{l m:List Int}(h:ab)(hx:cH x l)(hy:cH y m)(o1:okW dB l)(o2:okW dB m)(n1:aN l)(n2:aN m)(l1:l.length<1000000)(l2:m.length<1000000):yH [x,y] h=some ⟨.iV (bh (WV dB l-WV dB m)),h,[]⟩:=
 nU (NB ba l m o1 o2 n1 n2 (by omega) (by omega)) rfl rfl rfl (.cons hx.gw (.cons hy.gw .nil))
theorem FI (x:AV)(a b:List Int)(hx:cH x a)(o1:okW dB a)(o2:okW dB b)(n1:aN a)(n2:aN b)(l1:a.length<100000)(l2:b.length<100000)(hb:b≠[]) :
 ∃qv q rv r,cH qv q/\cH rv r/\okW dB q/\aN q/\okW dB r/\aN r/\WV dB q=WV dB a/WV dB b/\WV dB r=WV dB a%WV dB b/\∀h,qU [x,.vs (al b) b.length none] h=some ⟨.au [qv,rv],h,[]⟩:=by
 rcases hx with rfl|⟨rfl,rfl⟩
 . obtain⟨q,r,⟨h1,h2,h3⟩,⟨h4,h5,h6⟩,v,hh,⟨v1,x,y,f,t,k,i1,i2⟩,hr⟩:=NK (c1:=none) (c2:=none) NW a b o1 o2 n1 n2 l1 l2 hb;exact⟨x,q,y,r,i1,i2,h1,h2,h4,h5,h3,h6,fun h=>rW ⟨v,hh,v1,hr,f,eK (fk a) (fk b),t,k⟩⟩
 . have bp:=(iW (b:=dB) (by decide) o2 n2).2 hb;have e:bh (WV dB []-WV dB b) = -1:=if_pos (by show (0:Int)-WV dB b<0;omega);refine⟨.ae,[],.ae,[],.inr ⟨rfl,rfl⟩,.inr ⟨rfl,rfl⟩,o1,n1,o1,n1,(Int.zero_ediv _).symm,(Int.zero_emod _).symm,fun h=>?_⟩;refine bF (aff (M:=aV Tryz.prog FT yI) (c2:=none) ba b fun h=>?_) (eK rfl (fk b)) rfl rfl h;rw[←e];exact Pg h (.inr ⟨rfl,rfl⟩) (.inl rfl) o1 o2 n1 n2 (by show (0:Nat)<_;omega) (by omega)
theorem cCg:OA (aV Tryz.prog FT [(195,qU)]) where
 ft:=ba
 kG:=FI
theorem Ph {x y:AV}(a b:List Int)(hx:cH x a)(hy:cH y b)(oa:okW dB a)(ob:okW dB b)(na:aN a)(nb:aN b)(la:a.length<100000)(lb:b.length<100000):∃gv g,cH gv g/\okW dB g/\aN g/\WV dB g=(Int.gcd (WV dB a) (WV dB b):Nat)/\g.length<100000/\∀h,yJ [x,y] h=some ⟨gv,h,[]⟩:=by
 obtain⟨gv,g,h1,h2,h3,h4,h5,hr⟩:=afg cCg a b hx hy oa ob na nb la lb;exact⟨gv,g,h1,h2,h3,h4,h5,du hr (eK hx.top hy.top)⟩
noncomputable def Pj:Spec:=sL [] 254
theorem afQ:aS Tryz.prog gl 254 Pj:=iJ bA
noncomputable def yW:List (Nat×Spec):=[(254,Pj)]
theorem Pk:cz Tryz.prog gl (bk yW):=aL afQ bA
theorem Pl:Fp (aV Tryz.prog FT yW) where
 ft:=ba
 yM:=fun a c i h hi=>nU (aeL (M:=aV Tryz.prog FT []) (c1:=c) ba a i hi) rfl rfl rfl (.cons (yG a) (.cons (.atom rfl) .nil))
 dP:=fun _ _=>rfl
noncomputable def Pm:Spec:=sL yW 206
noncomputable def Pn:Spec:=sL yW 219
noncomputable def yX:Spec:=sK [] 196
theorem afR:aS Tryz.prog gl 206 Pm:=iJ Pk
theorem afS:aS Tryz.prog gl 219 Pn:=iJ Pk
theorem Po:aS Tryz.prog gl 196 yX:=aZ bA
theorem FJ:∀neg x l,cH x l->okW dB l->l.length<1000000000->∃v0,bW v0 (bN neg (WV dB l))/\∀h,yX [.bool neg,x] h=some ⟨v0,h,[]⟩:=fun neg x l hx ok hl=>by
 obtain⟨v0,h1,h2⟩:=aeQ (M:=aV Tryz.prog FT []) ba (fun _ _=>rfl) neg hx ok hl;exact⟨v0,h1,du h2 (eK rfl hx.top)⟩
noncomputable def tQ:List (Nat×Spec):=[(206,Pm),(219,Pn),(218,yH),(197,Fb),(196,yX)]
theorem FK:cz Tryz.prog gl (bk tQ):=aL afR (aL afS (aL NU (aL NV (aL Po bA))))
theorem FL:yN (aV Tryz.prog FT tQ) where
 ft:=ba
 Ot:=fun l m k1 k2 o1 o2 l1 l2=>by
  obtain⟨r,⟨h1,h2,h3⟩,v,hh,⟨v1,f,t,k⟩,hr⟩:=aeN (c1:=k1) (c2:=k2) Pl l m o1 o2 l1 l2;exact⟨r,h1,h2,h3,fun x y h hx hy=>lh (.cons hx (.cons hy .nil)) ⟨v,hh,v1,hr,f,t,k⟩⟩
 Fq:=fun l m o1 o2 n1 n2 l1 l2 hle=>by
  have hlen:m.length<=l.length:=fJ (b:=dB) (by decide) o2 n2 (Int.lt_of_le_of_lt hle (da (by decide) o1));obtain⟨r,⟨h1,h2,h3⟩,v,hh,⟨v1,f,t,k⟩,hr⟩:=aeO (c1:=none) (c2:=none) Pl l m o1 o2 l1 hlen hle;exact⟨r,h1,h2,h3,fun x y h hx hy=>lh (.cons hx.gw (.cons hy.gw .nil)) ⟨v,hh,v1,hr,f,t,k⟩⟩
 tI:=fun l m x y h o1 o2 n1 n2 l1 l2 hx hy=>Pg h hx hy o1 o2 n1 n2 l1 l2
 qR:=fun l m o1 o2 l1 l2=>by
  by_cases h0:0<l.length+m.length
  . obtain⟨r,⟨h1,h2,h3⟩,v,hh,⟨v1,f,t,k⟩,hr⟩:=NF (M:=aV Tryz.prog FT []) (c1:=none) (c2:=none) ba (fun _ _=>rfl) l m o1 o2 (by omega) (by omega) h0;exact⟨r,h1,h2,h3,fun x y h hx hy=>lh (.cons hx.gw (.cons hy.gw .nil)) ⟨v,hh,v1,hr,f,t,k⟩⟩
  . obtain⟨rfl,rfl⟩:l=[]/\m=[]:=⟨List.eq_nil_of_length_eq_zero (by omega),List.eq_nil_of_length_eq_zero (by omega)⟩;obtain⟨r,⟨h1,h2,h3⟩,v,hh,⟨v1,f,t,k⟩,hr⟩:=afO (M:=aV Tryz.prog FT []) (c1:=none) (c2:=none) ba (fun _ _=>rfl);exact⟨r,h1,h2,h3,fun x y h hx hy=>lh (.cons hx.gw (.cons hy.gw .nil)) ⟨v,hh,v1,hr,f,t,k⟩⟩
 jU:=FJ
noncomputable def FM:Spec:=sK tQ 170
noncomputable def FN:Spec:=sK tQ 137
noncomputable def FO:Spec:=sK tQ 194
theorem afT:aS Tryz.prog gl 170 FM:=aZ FK
theorem afU:aS Tryz.prog gl 137 FN:=aZ FK
theorem afV:aS Tryz.prog gl 194 FO:=aZ FK
theorem Pp {a:AV}{z:Int}(ha:bW a z)(l:ah z<dB^50):∃v0,bW v0 (-z)/\∀h,FO [a] h=some ⟨v0,h,[]⟩:=by
 obtain⟨v0,h1,h2⟩:=aeR FL ha l (by decide);exact⟨v0,h1,du h2 (im ha.top)⟩
theorem afW {a b:AV}{x y:Int}(ha:bW a x)(hb:bW b y)(la:ah x<dB^50)(lb:ah y<dB^50):∃v0,bW v0 (x*y)/\∀h,FN [a,b] h=some ⟨v0,h,[]⟩:=by
 obtain⟨v0,h1,h2⟩:=aeS FL ha hb la lb (by decide);exact⟨v0,h1,du h2 (eK ha.top hb.top)⟩
theorem afX {a b:AV}{x y:Int}(ha:bW a x)(hb:bW b y)(la:ah x<dB^50)(lb:ah y<dB^50):∃v0,bW v0 (x+y)/\∀h,FM [a,b] h=some ⟨v0,h,[]⟩:=by
 obtain⟨v0,h1,h2⟩:=aeU FL ha hb la lb (by decide);exact⟨v0,h1,du h2 (eK ha.top hb.top)⟩
noncomputable def tS:Spec:=sK [] 117
noncomputable def yY:Spec:=sK [] 139
noncomputable def Pq:Spec:=sK [] 158
noncomputable def FP:Spec:=sK [(117,tS)] 138
theorem Pr:aS Tryz.prog gl 117 tS:=aZ bA
theorem Ps:aS Tryz.prog gl 139 yY:=aZ bA
theorem afY:aS Tryz.prog gl 158 Pq:=aZ bA
theorem afZ:aS Tryz.prog gl 138 FP:=aZ (aL Pr bA)
theorem Pt (n:Nat)(h:ab)(hn:n<9223372036854775808):tS [.iV (n:Nat),.iV 1] h=some ⟨.str (aP n),h,[]⟩:=bF (aeX ba n hn) rfl rfl rfl h
theorem cTx:Ov (aV Tryz.prog FT [(117,tS)]) where
 ft:=ba
 Ow:=fun n h hn=>Pt n h (by omega)
 Ox:=fun n h hn=>bF (aeY ba n hn) rfl rfl rfl h
theorem Pu {a:AV}{z:Int}(h:ab)(ha:bW a z)(l:ah z<dB^50):FP [a] h=some ⟨.str (bQ z),h,[]⟩:=bF (aeZ cTx ha l (by decide)) (im ha.top) rfl rfl h
theorem Pv (n:Int)(hn : -9223372036854775808<=n/\n<9223372036854775808):∃v0,bW v0 n/\∀h,yY [.iV n] h=some ⟨v0,h,[]⟩:=by
 obtain⟨v0,h1,h2⟩:=afe (M:=aV Tryz.prog FT []) ⟨ba,fun _ _=>rfl,fun _ _=>rfl⟩ n hn;exact⟨v0,h1,du h2 rfl⟩
noncomputable def yZ:List (Nat×Spec):=[(194,FO),(155,yJ),(195,qU),(196,yX),(138,FP)]
theorem Pw:cz Tryz.prog gl (bk yZ):=aL afV (aL NY (aL NX (aL Po (aL afZ bA))))
theorem cFn:yO (aV Tryz.prog FT yZ) 50 where
 ft:=ba
 yP:=Pp
 qS:=Ph
 kG:=FI
 jU:=FJ
 yQ:=Pu
noncomputable def zh:Spec:=sK yZ 136
theorem Px:aS Tryz.prog gl 136 zh:=aZ Pw
theorem Py {a b:AV}{x y:Int}(h:ab)(ha:bW a x)(hb:bW b y)(la:ah x<dB^50)(lb:ah y<dB^50)(h0:y≠0):zh [a,b] h=some ⟨.str (ak (Rat.divInt x y)),h,[]⟩:=
 bF (afj cFn (by decide) ha hb la lb h0) (eK ha.top hb.top) rfl rfl h
noncomputable def FQ:List (Nat×Spec):=(158,Pq)::(117,tS)::(139,yY)::(136,zh)::yZ
theorem agc:cz Tryz.prog gl (bk FQ):=aL afY (aL Pr (aL Ps (aL Px Pw)))
theorem cOf:Fv (aV Tryz.prog FT FQ) 50 where
 ft:=ba
 yP:=Pp
 qS:=Ph
 kG:=FI
 jU:=FJ
 yQ:=Pu
 OB:=fun a b h ha hb=>bF (afk ba a b ha hb) rfl rfl rfl h
 Fw:=Pt
 Fx:=Pv
 pc:=Py
noncomputable def FU:Spec:=sK FQ 78
theorem age:aS Tryz.prog gl 78 FU:=aZ agc
theorem k78 (n d:Int)(h:ab)(hn : -9223372036854775808<=n/\n<9223372036854775808)(hd : -9223372036854775808<=d/\d<9223372036854775808)(h0:d≠0):FU [.iV n,.iV d] h=some ⟨.str (ak (Rat.divInt n d)),h,[]⟩:=
 bF (w78 cOf (by decide) hn hd h0) rfl rfl rfl h
noncomputable def Pz:List (Nat×Spec):=[(153,kH),(192,yD)]
theorem cQk:OI (aV Tryz.prog FT Pz) where
 ft:=ba
 tJ:=fun s h hl=>tK s h hl
 pb:=fun s h hl hd=>NO s h hl hd
noncomputable def PA:Spec:=sK Pz 134
theorem agi:aS Tryz.prog gl 134 PA:=aZ (aL qT (aL NN bA))
noncomputable def FV:List (Nat×Spec):=[(153,kH),(193,yE),(139,yY)]
noncomputable def FW:Spec:=sK FV 135
theorem agj:aS Tryz.prog gl 135 FW:=aZ (aL qT (aL NQ (aL Ps bA)))
theorem agk (z:Int):preB 45 (bQ z)=decide (z<0)/\bL 45 (bQ z)=aP (ah z).toNat:=by
 have h:=tk (z:Rat);rw[yT,Rat.num_intCast,Rat.den_intCast,if_pos rfl]at h;exact h
theorem agl (q:Rat)(hl:(ak q).length<1000000):∃v1 v2,bW v1 q.num/\bW v2 (q.den:Nat)/\∀h,FW [.str (ak q)] h=some ⟨.au [v1,v2],h,[]⟩:=by
 obtain⟨e1,e2,_,_,e3,e4⟩:=Fz q;obtain⟨p1,p2⟩:=agk q.num;obtain⟨d1,d2⟩:=Fa (jt q.den);have hk:=tD (ak q);obtain⟨v1,k1,q1⟩:=yF (bQ q.num) (by rw[←e1];omega) (by rw[p2];exact jt _);have k1:=k1.tF;rw[p1,p2,jc]at k1;have en:(if decide (q.num<0)=true then -((ah q.num).toNat:Int) else ((ah q.num).toNat:Int))=q.num:=by
  unfold ah;by_cases h:q.num<0
  . simp only[h,decide_true,if_true];omega
  . simp only[h,decide_false];show ((q.num.toNat:Nat):Int)=_;omega
 rw[en]at k1;have q153:=fun h=>tK (ak q) h hl
 by_cases hd:q.den=1
 . obtain⟨v2,k2,q2⟩:=Pv 1 (by decide);rw[decide_eq_false (fun h=>h hd)]at e3;have es:ak q=bQ q.num:=if_pos hd;refine⟨v1,v2,k1,by rw[hd];exact k2,du (afh (M:=aV Tryz.prog FT FV) ba (ak q) hl e3 q153 k1 k2 (by rw[es];exact q1) q2) rfl⟩
 . rw[if_neg hd]at e4;obtain⟨v2,k2,q2⟩:=yF (aP q.den) (by
    have e:(ak q).length=(bQ q.num).length+1+(aP q.den).length:=by
     unfold ak;rw[if_neg hd,List.length_append,List.length_cons];omega
    omega) (by rw[d2];exact jt _)
   have k2:=k2.tF;rw[d1,d2,jc,if_neg (by decide)]at k2;rw[decide_eq_true hd]at e3;refine⟨v1,v2,k1,k2,du (NA (M:=aV Tryz.prog FT FV) ba (ak q) hl e3 q153 k1 k2 (by rw[e4];exact q1) (by rw[e4];exact q2)) rfl⟩
noncomputable def tT:List (Nat×Spec):=[(134,PA),(135,FW),(137,FN),(170,FM),(136,zh),(78,FU)]
theorem FX:cz Tryz.prog gl (bk tT):=aL agi (aL agj (aL afU (aL afT (aL Px (aL age bA)))))
theorem FY:yU (aV Tryz.prog FT tT) 50 where
 ft:=ba
 tN:=fun q hl=>by
  obtain⟨n,d,b,h1,h2⟩:=afy cQk hl;exact⟨n,d,b,h1,fun h=>bF h2 rfl rfl rfl h⟩
 lK:=agl
 qW:=afW
 OJ:=afX
 pc:=Py
 FA:=k78
theorem FZ:(10:Int)^(2*201+1)<=dB^50:=by rw[show 2*201+1=200+203 from rfl,Int.pow_add];decide
theorem pd {k:Nat}{q:Rat}(h:Dq k q)(h0:0<k)(hk:k<=600):(ak q).length<1000000:=by
 have:=mR (h.lq (N:=601) h0 (by omega));omega
noncomputable def tW:Spec:=sK tT 90
noncomputable def tX:Spec:=sK tT 53
noncomputable def zj:Spec:=sK tT 133
noncomputable def mU:Spec:=sK [] 140
noncomputable def zk:Spec:=sK [(140,mU)] 141
noncomputable def tY:Spec:=sK [(141,zk),(90,tW)] 57
noncomputable def Ga:Spec:=sK [(57,tY),(140,mU)] 55
noncomputable def Gb:Spec:=sK [(133,zj),(53,tX)] 52
theorem PB:aS Tryz.prog gl 90 tW:=aZ FX
theorem PC:aS Tryz.prog gl 53 tX:=aZ FX
theorem agm:aS Tryz.prog gl 133 zj:=aZ FX
theorem Gc:aS Tryz.prog gl 140 mU:=aZ bA
theorem agn:aS Tryz.prog gl 141 zk:=aZ (aL Gc bA)
theorem PD:aS Tryz.prog gl 57 tY:=aZ (aL agn (aL PB bA))
theorem ago:aS Tryz.prog gl 55 Ga:=aZ (aL PD (aL Gc bA))
theorem agp:aS Tryz.prog gl 52 Gb:=aZ (aL agm (aL PC bA))
theorem PE (p q:Rat)(h:ab)(hp:Dq 201 p)(hq:Dq 201 q):tW [.str (ak p),.str (ak q)] h=some ⟨.str (ak (p+q)),h,[]⟩:=
 bF (w90 FY FZ hp hq (pd hp (by decide) (by decide)) (pd hq (by decide) (by decide))) rfl rfl rfl h
theorem PF (p q:Rat)(h:ab)(hp:Dq 201 p)(hq:Dq 201 q):tX [.str (ak p),.str (ak q)] h=some ⟨.str (ak (p*q)),h,[]⟩:=
 bF (w53 FY FZ hp hq (pd hp (by decide) (by decide)) (pd hq (by decide) (by decide))) rfl rfl rfl h
theorem agq (q:Rat)(h:ab)(hq:Dq 201 q)(h0:q≠0):zj [.str (ak q)] h=some ⟨.str (ak q⁻¹),h,[]⟩:=
 bF (afB FY FZ hq (pd hq (by decide) (by decide)) h0) rfl rfl rfl h
theorem Gd (q:Rat)(h:ab):mU [.str (ak q)] h=some ⟨.iV (bh q.num),h,[]⟩:=bF (afr ba q) rfl rfl rfl h
theorem agr {k:Nat}(q:Rat)(h:ab)(hq:Dq k q)(h0:0<k)(hk:k<=600):zk [.str (ak q)] h=some ⟨.str (ak (-q)),h,[]⟩:=
 bF (afs (M:=aV Tryz.prog FT [(140,mU)]) ba (pd hq h0 hk) (Gd q)) rfl rfl rfl h
theorem PG (p q:Rat)(h:ab)(hp:Dq 201 p)(hq:Dq 201 q):tY [.str (ak p),.str (ak q)] h=some ⟨.str (ak (p-q)),h,[]⟩:=
 bF (w57 (M:=aV Tryz.prog FT [(141,zk),(90,tW)]) ba (fun h=>agr q h hq (by decide) (by decide)) (fun h=>PE p (-q) h hp hq.neg)) rfl rfl rfl h
theorem k55 (p q:Rat)(h:ab)(hp:Dq 201 p)(hq:Dq 201 q):Ga [.str (ak p),.str (ak q)] h=some ⟨.iV (jv p q),h,[]⟩:=by
 have e:bh (p-q).num=jv p q:=by rw[←My,abv]
 rw[←e];exact bF (w55 (M:=aV Tryz.prog FT [(57,tY),(140,mU)]) ba (fun h=>PG p q h hp hq) (Gd _)) rfl rfl rfl h
theorem k52 (p q:Rat)(h:ab)(hp:Dq 201 p)(hq:Dq 201 q)(h0:q≠0):Gb [.str (ak p),.str (ak q)] h=some ⟨.str (ak (p*q⁻¹)),h,[]⟩:=
 bF (w52 (M:=aV Tryz.prog FT [(133,zj),(53,tX)]) ba (fun h=>agq q h hq h0) (fun h=>PF p q⁻¹ h hp (hq.inv h0))) rfl rfl rfl h
noncomputable def Ge:Spec:=sK [(140,mU)] 56
noncomputable def Gf:Spec:=sK [(153,kH)] 142
noncomputable def Gg:Spec:=sK [(153,kH)] 143
noncomputable def tZ:Spec:=sK [(142,Gf),(56,Ge),(143,Gg)] 108
noncomputable def PH:Spec:=sK [(108,tZ)] 75
noncomputable def PI:Spec:=sK [] 38
noncomputable def PJ:Spec:=sK [] 91
noncomputable def PK:Spec:=sL [] 72
theorem agu:aS Tryz.prog gl 56 Ge:=aZ (aL Gc bA)
theorem agv:aS Tryz.prog gl 142 Gf:=aZ (aL qT bA)
theorem agw:aS Tryz.prog gl 143 Gg:=aZ (aL qT bA)
theorem agx:aS Tryz.prog gl 108 tZ:=aZ (aL agv (aL agu (aL agw bA)))
theorem agy:aS Tryz.prog gl 75 PH:=aZ (aL agx bA)
theorem agz:aS Tryz.prog gl 38 PI:=aZ bA
theorem agA:aS Tryz.prog gl 91 PJ:=aZ bA
theorem agB:aS Tryz.prog gl 72 PK:=iJ bA
theorem agC (q:Rat)(h:ab)(hq:Dq 600 q):tZ [.str (ak q)] h=some ⟨.iV 0,h,[]⟩:=by
 have hl:=pd hq (by decide) (by decide);have q153:=fun h=>tK (ak q) h hl
 refine bF (afw (M:=aV Tryz.prog FT [(142,Gf),(56,Ge),(143,Gg)]) ba hq (fun h=>?_) (fun h=>?_) (fun h=>?_)) rfl rfl rfl h
 . rw[yT];exact bF (afu (M:=aV Tryz.prog FT [(153,kH)]) ba q153) rfl rfl rfl h
 . have:=bF (w56 (M:=aV Tryz.prog FT [(140,mU)]) ba (q:=(q.num:Rat)) (Gd _)) rfl rfl rfl h;rw[Rat.num_intCast]at this;exact this
 . exact bF (afv (M:=aV Tryz.prog FT [(153,kH)]) ba hl q153) rfl rfl rfl h
end Go.Ab.Ch1

/-
  Own work: the contracts of MarkNumbers as a table.
-/
namespace Go.Ab.Ch1
open Go.Proofs Go.Ab.bj
noncomputable def Gh:List (Nat×Spec):=[(18,Cb),(84,tq),(62,Fe),(72,PK),(24,lj),(85,En),(86,Eo),(87,Ep),(88,Es),(89,Eu),(90,tW),(57,tY),(53,tX),(52,Gb),(55,Ga),(75,PH),(38,PI),(91,PJ)]
theorem agD:cz Tryz.prog gl (bk Gh):=aL UA (aL MY (aL aes (aL agB (aL UI (aL acV (aL acW (aL acX (aL ade (aL adh (aL PB (aL PD (aL PC (aL agp (aL ago (aL agy (aL agz (aL agA bA)))))))))))))))))
theorem agE (g:AV)(a b:ao)(hg:g.top=0)(ha:a.length<1000000)(hb:b.length<1000000)(he:cg [bR a,bR b]≠0):∀h,tt [.str a,.str b,g] h=some ⟨.au [.str [],.iV (cg [bR a,bR b])],h,[]⟩:=
 bF (abl hZ g a b ha hb he) (by simp[br,AV.top,hg]) rfl rfl
theorem c16:OO (aV Tryz.prog FT Gh) where
 ft:=ba
 OP:=fun h=>UB h
 OQ:=fun s h hl=>Ej s h (by omega)
 FE:=fun s h hl=>k62 s h (by omega)
 OR:=fun v h a b hf=>nU (w72 (M:=aV Tryz.prog FT []) (cap:=none) ba a b) rfl rfl rfl (.cons hf .nil)
 FF:=fun v h l hl hn=>Ei hl hn
 yV:=fun g a b h hg la lb he=>by
  have q:=fun x=>agE (.fn (.func x) [] []) a b rfl (by omega) (by omega) he
  rcases hg with rfl|rfl|rfl
  . exact bF (Mt (M:=aV Tryz.prog FT kD) ba a b _ _ (q 151)) rfl rfl rfl h
  . exact bF (Mu (M:=aV Tryz.prog FT kD) ba a b _ _ (q 149)) rfl rfl rfl h
  . exact bF (Mv (M:=aV Tryz.prog FT kD) ba a b _ _ (q 152)) rfl rfl rfl h
 FG:=fun a b h la lb he=>bF (abm Na a b (by omega) (by omega) he) rfl rfl rfl h
 OS:=fun a b h la lb he=>bF (abo Nb a b (by omega) (by omega) he) rfl rfl rfl h
 OT:=k85
 OU:=k86
 OV:=k87
 OW:=k88
 OX:=k89
 OY:=fun p q h hp hq=>PE p q h (hp.mono (by decide)) (hq.mono (by decide))
 OZ:=fun p q h hp hq=>PG p q h (hp.mono (by decide)) (hq.mono (by decide))
 Pa:=fun p q h hp hq=>PF p q h (hp.mono (by decide)) (hq.mono (by decide))
 Pb:=fun p q h hp hq=>k52 p q h (hp.mono (by decide)) (hq.mono (by decide))
 Pc:=fun p q h hp hq=>k55 p q h (hp.mono (by decide)) (hq.mono (by decide))
 FH:=fun e h he=>bF (afH (M:=aV Tryz.prog FT [(108,tZ)]) ba he) rfl rfl rfl h
 tP:=fun q h hq=>bF (w75 (M:=aV Tryz.prog FT [(108,tZ)]) ba fun h=>agC q h hq) rfl rfl rfl h
 Pd:=fun e h he=>bF (afJ ba he) rfl rfl rfl h
 Pe:=fun c h=>bF (afK ba c) rfl rfl rfl h
 Pf:=fun s h=>bF (w91 ba s) rfl rfl rfl h
end Go.Ab.Ch1
