/-
  Own work: the contracts of texts as tables.
-/
import Derived.Test.YtcjphdmkgmkabaaGreatDoorLib8
import Derived.Test.YtcjphdmkgmkabaaGreatDoorLib6
import Derived.Test.YtcjphdmkgmkabaaGreatDoorLib5
import Derived.Test.YtcjphdmkgmkabaaGreatDoorCh1Base
import Derived.Test.YtcjphdmkgmkabaaGreatDoorLib7
set_option maxHeartbeats 8000000
set_option maxRecDepth 20000
namespace Go.Ab.Ch1
open Go.Proofs Go.Ab.aR
variable {T:List (Nat×Spec)}
noncomputable def qR:Spec:=sK [] 255
noncomputable def Bm:Spec:=sK [(255,qR)] 212
noncomputable def Bn:Spec:=sK [(255,qR)] 258
noncomputable def Bo:Spec:=sK [(258,Bn)] 213
theorem Iq:∀(s:aM) b h,s.length<1000000->qR [.str s,.str [b]] h=some ⟨.bool (preB b s),h,[]⟩:=fun s b h hl=>da (Vl bE s b hl) rfl rfl rfl h
theorem Vw:∀(s:aM) b h,s.length<1000000->Bm [.str s,.str [b]] h=some ⟨.bool (preB b s),h,[]⟩:=fun s b h hl=>
 da (Vm (M:=aZ Tryz.prog FT [(255,qR)]) bE s b fun h=>Iq s b h hl) rfl rfl rfl h
theorem Vx:∀(s:aM) b h,s.length<1000000->Bo [.str s,.str [b]] h=some ⟨.str (bV b s),h,[]⟩:=fun s b h hl=>by
 have q258:∀h,Bn [.str s,.str [b]] h=some ⟨.str (bV b s),h,[]⟩:=da (Vn (M:=aZ Tryz.prog FT [(255,qR)]) bE s b hl fun h=>Iq s b h hl) rfl rfl rfl;exact da (Vo (M:=aZ Tryz.prog FT [(258,Bn)]) bE s b q258) rfl rfl rfl h
def Ir:List (Nat×Spec):=[(312,qg .index)]
theorem Vy:qO (aZ Tryz.prog FT Ir) where
 ft:=bE
 Ia:=fun _ _=>rfl
 Ib:=fun _ _=>rfl
 Ic:=fun _ _ _=>rfl
noncomputable def Is:Spec:=sK Ir 163
theorem Vz:∀(s:aM) b h,s.length<1000000->Is [.str s,.str [b]] h=some ⟨iO b s,h,[]⟩:=fun s b h hl=>da (Vf (fun _ _=>rfl) Vy s b hl) rfl rfl rfl h
noncomputable def Bp:Spec:=sK [] 214
theorem VA:∀(s:aM) h,s≠[]->s.length<=18->s.all cS=true->Bp [.str s] h=some ⟨.aq [.iV (aT 0 s),.cZ],h,[]⟩:=fun s h h0 hl hd=>da (Vk ⟨bE,fun _ _=>rfl⟩ s h0 hl hd) rfl rfl rfl h
variable {M:ao} {cap:Option Nat} {N N2:Nat}
theorem acq {t:Nat}{x y:ax}{l:List aO}{pe:List AV}{lo:List (Nat×AV)}{hp:ab}{df wr:List Nat}{k:IntKind}{a b:Int}{Q:al->Prop}{m:Int}(hx:(St.mk pe lo hp df).aa x=some (.int k a))(hy:(St.mk pe lo hp df).aa y=some (.int k b))(hm:m=a/\b<=a\/m=b/\a<=b)
 (h:WO M l ⟨⟨pe,(t,.int k m)::lo,hp,df⟩,wr⟩ Q):WO M (⟨.l t,.mm true [x,y],none⟩::l) ⟨⟨pe,lo,hp,df⟩,wr⟩ Q:=by
 refine aac (v:=.int k m) ?_ rfl h;simp only[aP,St.bY,hx,hy];have e:(if a<b then b else a)=m:=by split <;> omega
 simp[kZ,e]
def Br (s:aM):aM:=(bM 47 (bV 45 s)).1
def It (s:aM):aM:=(bM 47 (bV 45 s)).2.getD []
def Bs (s:aM):Bool:=(bM 47 (bV 45 s)).2.isSome
theorem VB (b:UInt8)(s:aM):(bM b s).1.length<=s.length:=by
 cases h:(bM b s).2 with
 | none=>rw[(qP h).1];exact Nat.le_refl _
 | some y=>have:=Bi h;omega
def Dq (k:Nat)(q:Rat):Prop:=ah q.num<10^k/\(q.den:Int)<10^k
theorem qS (k:Nat):(0:Int)<10^k:=Int.pow_pos (by decide)
theorem oE {m n:Nat}(h:m<=n):(10:Int)^m<=10^n:=fI (by decide) h
theorem Dq.mono {m n:Nat}{q:Rat}(h:Dq m q)(hl:m<=n):Dq n q:=⟨Int.lt_of_lt_of_le h.1 (oE hl),Int.lt_of_lt_of_le h.2 (oE hl)⟩
theorem ja {n d:Int}(h:0<d):∃c:Int,0<c/\n=c*(Rat.divInt n d).num/\d=c*((Rat.divInt n d).den:Int):=by
 obtain⟨k1,k2,h1,h2,h3,h4⟩:=uA (n:=n) h;refine⟨(Int.gcd n d:Nat),?_,by rw[h3];exact h1,by rw[h4];exact h2⟩;have:=Int.gcd_pos_of_ne_zero_right n (show d≠0 by omega);omega
theorem VC {c x:Int}(hc:0<c):ah x<=ah (c*x):=by
 rw[qF,cd (Int.le_of_lt hc)];have:=Int.mul_le_mul_of_nonneg_right (show 1<=c by omega) (iX (x:=x));omega
theorem Dq.divInt {k:Nat}{n d:Int}(hd:0<d)(h1:ah n<10^k)(h2:d<10^k):Dq k (Rat.divInt n d):=by
 obtain⟨c,hc,e1,e2⟩:=ja (n:=n) hd;refine⟨Int.lt_of_le_of_lt ?_ h1,Int.lt_of_le_of_lt ?_ h2⟩
 . have:=VC (x:=(Rat.divInt n d).num) hc;rw[←e1]at this;exact this
 . have h0:(0:Int)<=((Rat.divInt n d).den:Int):=by omega
   have:=Int.mul_le_mul_of_nonneg_right (show 1<=c by omega) h0;rw[←e2]at this;omega
theorem jb {x y:Int}{m n:Nat}(hx:ah x<10^m)(hy:ah y<10^n):ah (x*y)<10^(m+n):=by
 rw[qF,Int.pow_add];have h1:=Int.mul_le_mul_of_nonneg_left (Int.le_of_lt hy) (iX (x:=x));have h2:=Int.mul_lt_mul_of_pos_right hx (qS n);omega
theorem Iu {x y:Int}:ah (x+y)<=ah x+ah y:=by unfold ah;split <;> split <;> split <;> omega
theorem Dq.add {m n:Nat}{p q:Rat}(hp:Dq m p)(hq:Dq n q):Dq (m+n+1) (p+q):=by
 rw[ot];have dp:=den_pos (q:=p);have dq:=den_pos (q:=q);have a1:=jb hp.1 (show ah (q.den:Int)<10^n by rw[cd (by omega)];exact hq.2);have a2:=jb hq.1 (show ah (p.den:Int)<10^m by rw[cd (by omega)];exact hp.2);have a3:=jb (show ah (p.den:Int)<10^m by rw[cd (by omega)];exact hp.2) (show ah (q.den:Int)<10^n by rw[cd (by omega)];exact hq.2);rw[Nat.add_comm n m]at a2;have a4:=Iu (x:=p.num*q.den) (y:=q.num*p.den);have e:(10:Int)^(m+n+1)=10^(m+n)*10:=Int.pow_succ _ _;have hp0:=qS (m+n);have hd:=Int.mul_pos dp dq;rw[cd (Int.le_of_lt hd)]at a3;exact .divInt hd (by omega) (by omega)
theorem Bt (p q:Rat):p*q=Rat.divInt (p.num*q.num) (p.den*q.den):=by
 have e:=Rat.divInt_mul_divInt p.num q.num (d₁:=p.den) (d₂:=q.den);rw[Rat.num_divInt_den,Rat.num_divInt_den]at e;exact e
theorem Dq.mul {m n:Nat}{p q:Rat}(hp:Dq m p)(hq:Dq n q):Dq (m+n) (p*q):=by
 rw[Bt];have dp:=den_pos (q:=p);have dq:=den_pos (q:=q);have a1:=jb hp.1 hq.1;have a3:=jb (show ah (p.den:Int)<10^m by rw[cd (by omega)];exact hp.2) (show ah (q.den:Int)<10^n by rw[cd (by omega)];exact hq.2);have hd:=Int.mul_pos dp dq;rw[cd (Int.le_of_lt hd)]at a3;exact .divInt hd a1 a3
theorem Dq.neg {m:Nat}{p:Rat}(hp:Dq m p):Dq m (-p):=by
 refine⟨?_,?_⟩
 . rw[Rat.neg_num,ib];exact hp.1
 . rw[Rat.neg_den];exact hp.2
theorem Dq.sub {m n:Nat}{p q:Rat}(hp:Dq m p)(hq:Dq n q):Dq (m+n+1) (p-q):=by
 rw[Rat.sub_eq_add_neg];exact hp.add hq.neg
theorem inv_divInt {q:Rat}:q⁻¹=Rat.divInt q.den q.num:=by
 rw[Rat.inv_def]
theorem Dq.inv {m:Nat}{q:Rat}(hq:Dq m q)(h0:q≠0):Dq m q⁻¹:=by
 have hn:q.num≠0:=fun e=>h0 (Rat.num_eq_zero.1 e)
 have dq:=den_pos (q:=q);rw[inv_divInt];by_cases hs:0<q.num
 . have a:=hq.1;rw[cd (by omega)]at a;exact .divInt hs (by rw[cd (by omega)];exact hq.2) a
 . rw[←Rat.neg_divInt_neg];have a:=hq.1;have e:ah q.num = -q.num:=if_pos (by omega);rw[e]at a;exact .divInt (by omega) (by rw[ib,cd (by omega)];exact hq.2) a
def jC (p q:Rat):Int:=aW (p.num*q.den-q.num*p.den)
theorem VD {c x:Int}(h:0<c):aW (c*x)=aW x:=by
 unfold aW;by_cases h1:x<0
 . have:=Int.mul_neg_of_pos_of_neg h h1;rw[if_pos this,if_pos h1]
 . by_cases h2:0<x
   . have:=Int.mul_pos h h2;rw[if_neg (by omega),if_pos this,if_neg h1,if_pos h2]
   . have:x=0:=by omega
     subst this;rw[Int.mul_zero]
theorem VE {n d:Int}(h:0<d):aW (Rat.divInt n d).num=aW n:=by
 obtain⟨c,hc,e1,_⟩:=ja (n:=n) h;rw[←VD hc,←e1]
theorem VF (p q:Rat):p-q=Rat.divInt (p.num*q.den-q.num*p.den) (p.den*q.den):=by
 rw[Rat.sub_eq_add_neg,ot,Rat.neg_num,Rat.neg_den,Int.neg_mul,Int.sub_eq_add_neg]
theorem Iv (p:Rat):jC p 0=aW p.num:=by
 unfold jC;congr 1;show p.num*1-0*_=_;rw[Int.mul_one,Int.zero_mul,Int.sub_zero]
theorem VG (p q:Rat):jC (p-q) 0=jC p q:=by
 rw[Iv,VF,VE (Int.mul_pos den_pos den_pos)];rfl
theorem Bu {z:Int}{k:Nat}(hk:0<k)(h:ah z<10^k):(aX (ah z).toNat).length<=k:=by
 refine uK ?_ hk;have h0:=iX (x:=z);have e:((10^k:Nat):Int)=(10:Int)^k:=Int.natCast_pow _ _;rw[←e]at h;omega
theorem Iw {z:Int}{k:Nat}(hk:0<k)(h:ah z<10^k):(cT z).length<=k+1:=by
 have:=Bu hk h;by_cases hz:z<0
 . rw[qN hz,List.length_cons];omega
 . rw[mz hz];omega
theorem VH {q:Rat}{k:Nat}(hk:0<k)(h:Dq k q):(aX q.den).length<=k:=by
 have:=Bu (z:=(q.den:Int)) hk (by rw[cd (by omega)];exact h.2);rw[cd (by omega)]at this;exact this
theorem Dq.lq {q:Rat}{k N:Nat}(hk:0<k)(h:Dq k q)(hN:k+1<=N):Lq N q:=
 ⟨Nat.le_trans (Iw hk h.1) hN,Nat.le_trans (VH hk h) (by omega)⟩
theorem uT (q:Rat):preB 45 (aw q)=decide (q.num<0)/\bV 45 (aw q)=(if q.den=1 then aX (ah q.num).toNat else aX (ah q.num).toNat++47::aX q.den):=by
 by_cases hn:q.num<0
 . rw[decide_eq_true hn];unfold aw;split
   . rw[qN hn];exact⟨rfl,rfl⟩
   . rw[qN hn];exact⟨rfl,rfl⟩
 . rw[decide_eq_false hn];unfold aw;rw[mz hn];have hp:=Vr (ah q.num).toNat (c:=45) (by decide);split
   . exact⟨hp,oC hp⟩
   . have hp2:preB 45 (aX (ah q.num).toNat++47::aX q.den)=false:=by
      cases hd:aX (ah q.num).toNat with
      | nil=>exact absurd hd (Bb _)
      | cons b t=>rw[hd]at hp;exact hp
     exact⟨hp2,oC hp2⟩
theorem VI (q:Rat):Br (aw q)=aX (ah q.num).toNat/\It (aw q)=(if q.den=1 then [] else aX q.den)/\Bs (aw q)=decide (q.den≠1):=by
 have hn:=Io (jB (ah q.num).toNat) (c:=47) (by decide);unfold Br It Bs;rw[(uT q).2];by_cases h:q.den=1
 . rw[if_pos h,if_pos h,uR hn,decide_eq_false (by simpa using h)];exact⟨rfl,rfl,rfl⟩
 . rw[if_neg h,if_neg h,uS hn,decide_eq_true h];exact⟨rfl,rfl,rfl⟩
theorem VJ:aw 0=[48]:=by
 show (if (1:Nat)=1 then cT 0 else _)=_;rw[if_pos rfl,mz (by decide)];exact kR (by decide)
theorem VK:aw 1=[49]:=by
 show (if (1:Nat)=1 then cT 1 else _)=_;rw[if_pos rfl,mz (by decide)];exact kR (by decide)
theorem Dq.zero {k:Nat}(hk:0<k):Dq k 0:=by
 have:=oE (show 1<=k by omega);rw[Int.pow_one]at this;refine⟨?_,?_⟩
 . show (0:Int)<_;omega
 . show (1:Int)<_;omega
theorem Dq.one {k:Nat}(hk:0<k):Dq k 1:=by
 have:=oE (show 1<=k by omega);rw[Int.pow_one]at this;refine⟨?_,?_⟩
 . show (1:Int)<_;omega
 . show (1:Int)<_;omega
theorem VM {q:Rat}(h:aw q=[48]):q=0:=by
 obtain⟨e1,e2,e3⟩:=VI q;rw[h]at e1 e3;have a1:Br [48]=[48]:=rfl;have a3:Bs [48]=false:=rfl;rw[a1]at e1;have:=oz (ah q.num).toNat;rw[←e1]at this;simp[aT]at this;have h0:=iX (x:=q.num);refine Rat.num_eq_zero.1 ?_;unfold ah at this h0;split at this <;> omega
noncomputable def Bv:Spec:=sK TF 215
theorem VN {A:Int}(hA:ah A<=10)(i:Nat):ah (A^i)<=10^i:=by
 induction i with
 | zero=>
  rw[Int.pow_zero,Int.pow_zero];decide
 | succ n ih=>
  rw[Int.pow_succ,Int.pow_succ,qF];exact Int.le_trans (Int.mul_le_mul_of_nonneg_right ih iX) (Int.mul_le_mul_of_nonneg_left hA (Int.le_of_lt (qS n)))
theorem VP:∀v A (K:Nat),ay v A->K<=18->ah A<=10->∃v0,ay v0 (A^K)/\∀h,Bv [v,.iV K] h=some ⟨v0,h,[]⟩:=fun v A K hv hK hA=>by
 obtain⟨v0,h1,h2⟩:=Tn (eF.c (N:=1) (by decide) (by decide)) hv (K:=K) (by omega) fun i hi=>by
  have tL:(10:Int)^i<=10^18:=oE (by omega);have hw:(10:Int)^18<wB^1:=by decide
  exact Int.lt_of_le_of_lt (Int.le_trans (VN hA i) tL) hw
 exact⟨v0,h1,dD h2 (fo hv.top rfl)⟩
noncomputable def Ix:List (Nat×Spec):=(212,Bm)::(213,Bo)::(214,Bp)::(215,Bv)::TF
structure uU (T:List (Nat×Spec)):Prop extends EF T where
 VQ:∀ar h,bj T 212 ar h=Bm ar h
 VR:∀ar h,bj T 213 ar h=Bo ar h
 VT:∀ar h,bj T 214 ar h=Bp ar h
 VU:∀ar h,bj T 215 ar h=Bv ar h
theorem uU.c (E:uU T){N:Nat}(h1:1<=N)(hN:N<=500000):uO (aZ Tryz.prog FT T) N:={ E.toEF.c h1 hN with
 Ii:=fun s h hl=>(E.VQ _ _).trans (Vw s 45 h hl)
 Ij:=fun s h hl=>(E.VR _ _).trans (Vx s 45 h hl)
 Ik:=fun s h h0 hl hd=>(E.VT _ _).trans (VA s h h0 hl hd)
 Il:=fun v A K hv hK _ hA=>by
  obtain⟨v0,k1,k2⟩:=VP v A K hv hK hA;exact⟨v0,k1,fun h=>(E.VU _ _).trans (k2 h)⟩ }
theorem VV:uU Ix:=by repeat' first|exact fun _ _=>rfl|constructor
noncomputable def Iy:Spec:=sK Ix 166
theorem VW {N:Nat}(h1:1<=N)(hN:N<=500000):∀(s:aM),s.length<=N->(bV 45 s).all cS=true->∃v0,ay v0 (if preB 45 s then -(aT 0 (bV 45 s):Int) else (aT 0 (bV 45 s):Nat))/\∀h,Iy [.str s] h=some ⟨v0,h,[]⟩:=fun s hl hd=>by
 obtain⟨v0,k1,k2⟩:=Vq (VV.c h1 hN) s hl hd;exact⟨v0,k1,dD k2 rfl⟩
structure Iz (T:List (Nat×Spec)):Prop extends uU T where
 VX:∀ar h,bj T 163 ar h=Is ar h
 VY:∀ar h,bj T 166 ar h=Iy ar h
theorem Iz.c (E:Iz T){N:Nat}(h1:1<=N)(hN:N<=500000):Vs (aZ Tryz.prog FT T) N:={ E.touU.c h1 hN with
 Vt:=fun s h hl=>(E.VX _ _).trans (Vz s 47 h hl)
 Vu:=by simp only[E.VY];exact VW h1 hN }
set_option maxRecDepth 1000000
def qT:an:=.seq (zR [zm 4 2,zm 5 0,zL 6 5,zb 7 .lss 4 6] (.cond (.l 7) (.skip) (.exit 0))) (.seq (.block 1 (zR [zm 10 0,zm 11 2,⟨.l 12,.index (.l 10) (.l 11),none⟩,⟨.l 13,.bin .eql (.l 12) (.c (.int .u8 (47))),none⟩] (.cond (.l 13) (zR [zm 14 2,zw 1 14] (.ret)) (.skip)))) (.region [zm 8 2,zc 9 .add 8 1,zw 2 9]))
def IA:an:=zR [zi 1 0] (.seq (zR [zi 2 0] (.block 0 (.loop qT))) (zR [zm 15 0,zL 16 15,zw 1 16] (.ret)))
theorem VZ:FT 153=some ⟨17,[0,2,3],[.var (.p 1)],IA⟩:=by kernel_rfl
def Bw:an:=zR [⟨.p 1,.alloc 162 [.bool false,.ae],none⟩,⟨.p 2,.alloc 162 [.bool false,.ae],none⟩] (zR [zm 6 0,zw 3 6] (zR [zm 7 3,z1 8 153 7,zw 4 8] (.seq (zR [zm 9 4,zm 10 3,zL 11 10,zb 12 .eql 9 11] (.cond (.l 12) (zR [zm 13 3,z1 14 193 13,⟨.l 15,.call (kF 139) [(kI 1)],none⟩,zs 2 1 14,zs 2 2 15] (.ret)) (.skip))) (.seq (.draw [(zm 16 3,[]),(zm 17 4,[0]),(⟨.l 18,.slice .str 1 (.l 16) none (some (.l 17)) none,none⟩,[]),(z1 19 193 18,[]),(zm 20 3,[0,1,2,3]),(zm 21 4,[0,1,2,3,4]),(zc 22 .add 21 1,[0,1,2,3,4]),(⟨.l 23,.slice .str 1 (.l 20) (some (.l 22)) none none,none⟩,[0,1,2,3]),(z1 24 193 23,[]),(zs 2 1 19,[]),(zs 2 2 24,[])]) (.ret)))))
theorem IB:FT 135=some ⟨25,[0,2,3,4,5],[.cell 2 true (.p 1),.cell 2 true (.p 2)],Bw⟩:=by kernel_rfl
def qU:an:=.seq (zR [zm 16 0,zL 17 16,zc 18 .gtr 17 9] (.cond (.l 18) (.skip) (.exit 0))) (.block 1 (zR [zm 19 3,zm 20 0,zm 21 0,zL 22 21,zc 23 .sub 22 9,⟨.l 24,.slice .str 1 (.l 20) (some (.l 23)) none none,none⟩,z1 25 192 24,⟨.l 26,.dT 3 1 1 [.iV (0)] [(0,1,(.l 25))],none⟩,⟨.l 27,.append 3 1 8 (.l 19) (.l 26),none⟩,zw 3 27] (.region [zm 28 0,zm 29 0,zL 30 29,zc 31 .sub 30 9,⟨.l 32,.slice .str 1 (.l 28) none (some (.l 31)) none,none⟩,zw 0 32])))
def IC:an:=zR [⟨.p 1,.alloc 162 [.bool false,.ae],none⟩] (zR [zm 5 0,zL 6 5,zc 7 .gtr 6 0,zn 8 7,zg (zm 9 0) 8 true,⟨.l 10,.index (.l 9) (kI 0),some ((.l 8),true)⟩,⟨.l 11,.bin .eql (.l 10) (.c (.int .u8 (45))),some ((.l 8),true)⟩,zp 12 8 11,zw 2 12] (.seq (zR [zm 13 2] (.cond (.l 13) (.region [zm 14 0,⟨.l 15,.slice .str 1 (.l 14) (some (kI 1)) none none,none⟩,zw 0 15]) (.skip))) (zR [⟨.p 3,.mv (.c (.ae)),none⟩] (.seq (.block 0 (.loop qU)) (zR [zm 33 2,zm 34 3,zm 35 0,z1 36 192 35,⟨.l 37,.dT 3 1 1 [.iV (0)] [(0,1,(.l 36))],none⟩,⟨.l 38,.append 3 1 8 (.l 34) (.l 37),none⟩,z2 39 196 33 38,zs 2 1 39] (.ret))))))
theorem Wa:FT 193=some ⟨40,[0,2,3,4],[.cell 2 true (.p 1)],IC⟩:=by kernel_rfl
def uW:an:=.seq (zR [zm 5 3,zm 6 0,zL 7 6,zb 8 .lss 5 7] (.cond (.l 8) (.skip) (.exit 0))) (.seq (.block 1 (.region [zm 11 2,⟨.l 12,.bin .mul (kI 10) (.l 11),none⟩,zm 13 0,zm 14 3,⟨.l 15,.index (.l 13) (.l 14),none⟩,⟨.l 16,.dM .i64 (.l 15),none⟩,zb 17 .add 12 16,zc 18 .sub 17 48,zw 2 18])) (.region [zm 9 3,zc 10 .add 9 1,zw 3 10]))
def ID:an:=zR [zi 1 0] (zR [zi 2 0] (.seq (zR [zi 3 0] (.block 0 (.loop uW))) (zR [zm 19 2,zw 1 19] (.ret))))
theorem Wb:FT 192=some ⟨20,[0,2,3,4],[.var (.p 1)],ID⟩:=by kernel_rfl
def oF:an:=.seq (zR [zm 8 0,zc 9 .neq 8 0] (.cond (.l 9) (.skip) (.exit 0))) (.block 1 (zR [zm 10 0,zc 11 .rem 10 1000000000,zw 4 11] (.seq (zR [zm 12 4,zc 13 .lss 12 0] (.cond (.l 13) (.region [zm 14 4,⟨.l 15,.bin .sub (kI 0) (.l 14),none⟩,zw 4 15]) (.skip))) (zR [zm 16 2,zm 17 4,⟨.l 18,.dT 3 1 1 [.iV (0)] [(0,1,(.l 17))],none⟩,⟨.l 19,.append 3 1 8 (.l 16) (.l 18),none⟩,zw 2 19] (.region [zm 20 0,zc 21 .quo 20 1000000000,zw 0 21])))))
def Bx:an:=zR [⟨.p 1,.alloc 162 [.bool false,.ae],none⟩] (zR [⟨.p 2,.mv (.c (.ae)),none⟩] (zR [zm 6 0,zc 7 .lss 6 0,zw 3 7] (.seq (.block 0 (.loop oF)) (zR [zm 22 3,zm 23 2,z2 24 196 22 23,zs 2 1 24] (.ret)))))
theorem Wc:FT 139=some ⟨25,[0,2,3,4,5],[.cell 2 true (.p 1)],Bx⟩:=by kernel_rfl
def qV:an:=zR [⟨.p 2,.alloc 162 [.bool false,.ae],none⟩] (zR [zm 5 1,z1 6 242 5,zw 1 6] (zR [zm 7 0,zn 8 7,zg (zm 9 1) 8 true,zg (zl 10 9) 8 true,zg (zc 11 .gtr 10 0) 8 true,zp 12 8 11,zm 13 1,⟨.l 14,.build [.bool false,.ae] [(0,1,(.l 12)),(1,1,(.l 13))],none⟩,zs 2 2 14] (.ret)))
theorem uX:FT 196=some ⟨15,[0,1,4],[.cell 2 true (.p 2)],qV⟩:=by kernel_rfl
def iE:an:=.seq (zR [zm 3 0,zl 4 3,zc 5 .gtr 4 0,zn 6 5,zg (zm 7 0) 6 true,zg (zm 8 0) 6 true,zg (zl 9 8) 6 true,zg (zc 10 .sub 9 1) 6 true,zg (za 11 1 7 10) 6 true,zg (zd 12 1 11) 6 true,zg (zc 13 .eql 12 0) 6 true,zp 14 6 13] (.cond (.l 14) (.skip) (.exit 0))) (.block 1 (.region [zm 15 0,zm 16 0,zl 17 16,zc 18 .sub 17 1,⟨.l 19,.slice .sl 1 (.l 15) none (some (.l 18)) none,none⟩,zw 0 19]))
def qW:an:=zR [⟨.p 1,.mv (.c (.ae)),none⟩] (.seq (.block 0 (.loop iE)) (zR [zm 20 0,zw 1 20] (.ret)))
theorem uY:FT 242=some ⟨21,[0,2],[.var (.p 1)],qW⟩:=by kernel_rfl
def By:an:=.seq (zR [zm 7 1,zl 8 7,zc 9 .gtr 8 0] (.cond (.l 9) (.skip) (.exit 0))) (.block 1 (zR [zm 11 0,zm 12 1,z2 13 195 11 12,zn 10 13,ze 14 0 10,ze 15 1 10,zn 5 14,zw 3 15] (.region [zm 16 1,zm 17 3,zw 0 16,zw 1 17])))
def IE:an:=zR [⟨.p 2,.mv (.c (.ae)),none⟩] (.seq (.block 0 (.loop By)) (zR [zm 18 0,zw 2 18] (.ret)))
theorem Wd:FT 155=some ⟨19,[0,1,4,6],[.var (.p 2)],IE⟩:=by kernel_rfl
def uZ:an:=.seq (zR [zm 63 9,zl 64 63,zm 65 0,zl 66 65,zc 67 .add 66 1,zb 68 .lss 64 67] (.cond (.l 68) (.skip) (.exit 0))) (.block 1 (.region [zm 69 9,⟨.l 70,.dT 3 1 1 [.iV (0)] [(0,1,(kI 0))],none⟩,⟨.l 71,.append 3 1 8 (.l 69) (.l 70),none⟩,zw 9 71]))
def vc:an:=.seq (zR [zm 90 14,zm 91 8,zb 92 .lss 90 91] (.cond (.l 92) (.skip) (.exit 4))) (.seq (.block 5 (zR [zm 95 12,zm 96 7,zm 97 14,za 98 1 96 97,zd 99 1 98,zb 100 .mul 95 99,zm 101 13,zb 102 .add 100 101,zw 15 102] (zR [zm 103 9,zm 104 14,zm 105 11,zb 106 .add 104 105,za 107 1 103 106,zd 108 1 107,zm 109 15,zc 110 .rem 109 1000000000,zb 111 .sub 108 110,zw 16 111] (zR [zm 112 15,zc 113 .quo 112 1000000000,zw 13 113] (.seq (zR [zm 114 16,zc 115 .lss 114 0] (.cond (.l 115) (zR [zm 116 16,zc 117 .add 116 1000000000,zw 16 117] (.region [zm 118 13,zc 119 .add 118 1,zw 13 119])) (.skip))) (.region [zm 120 9,zm 121 14,zm 122 11,zb 123 .add 121 122,zm 124 16,za 125 1 120 123,zS 1 125 124])))))) (.region [zm 93 14,zc 94 .add 93 1,zw 14 94]))
def vd:an:=.seq (zR [zm 148 18,zm 149 8,zb 150 .lss 148 149] (.cond (.l 150) (.skip) (.exit 6))) (.seq (.block 7 (.seq (.draw [(zm 153 9,[]),(zm 154 18,[0]),(zm 155 11,[0,1]),(zb 156 .add 154 155,[0]),(za 157 1 153 156,[]),(zd 158 1 157,[]),(zm 159 7,[0,1,2,3,4,5]),(zm 160 18,[0,1,2,3,4,5,6]),(za 161 1 159 160,[0,1,2,3,4,5]),(zd 162 1 161,[0,1,2,3,4,5]),(zb 163 .add 158 162,[]),(zm 164 17,[0,1,2,3,4,5,6,7,8,9,10]),(zb 165 .add 163 164,[]),(zw 19 165,[])]) (zR [zm 166 9,zm 167 18,zm 168 11,zb 169 .add 167 168,zm 170 19,zc 171 .rem 170 1000000000,za 172 1 166 169,zS 1 172 171] (.region [zm 173 19,zc 174 .quo 173 1000000000,zw 17 174])))) (.region [zm 151 18,zc 152 .add 151 1,zw 18 152]))
def ve:an:=.seq (zR [zm 82 11,zc 83 .geq 82 0] (.cond (.l 83) (.skip) (.exit 2))) (.seq (.block 3 (zR [zm 86 9,zm 87 7,zm 88 11,⟨.l 89,.call (kF 243) [(.l 86),(.l 87),(.l 88)],none⟩,zw 12 89] (zR [zi 13 0] (.seq (zR [zi 14 0] (.block 4 (.loop vc))) (zR [zm 126 9,zm 127 11,zm 128 8,zb 129 .add 127 128,zm 130 9,zm 131 11,zm 132 8,zb 133 .add 131 132,za 134 1 130 133,zd 135 1 134,zm 136 13,zb 137 .sub 135 136,za 138 1 126 129,zS 1 138 137] (.seq (zR [zm 139 9,zm 140 11,zm 141 8,zb 142 .add 140 141,za 143 1 139 142,zd 144 1 143,zc 145 .lss 144 0] (.cond (.l 145) (zR [zm 146 12,zc 147 .sub 146 1,zw 12 147] (zR [zi 17 0] (.seq (zR [zi 18 0] (.block 6 (.loop vd))) (.region [zm 175 9,zm 176 11,zm 177 8,zb 178 .add 176 177,zm 179 9,zm 180 11,zm 181 8,zb 182 .add 180 181,za 183 1 179 182,zd 184 1 183,zm 185 17,zb 186 .add 184 185,za 187 1 175 178,zS 1 187 186])))) (.skip))) (.region [zm 188 10,zm 189 11,zm 190 12,za 191 1 188 189,zS 1 191 190]))))))) (.region [zm 84 11,zc 85 .sub 84 1,zw 11 85]))
def Bz:an:=zR [⟨.p 2,.mv (.c (.ae)),none⟩,⟨.p 3,.mv (.c (.ae)),none⟩] (.seq (zR [zm 24 0,zm 25 1,z2 26 218 24 25,zc 27 .lss 26 0] (.cond (.l 27) (zR [zm 28 0,⟨.p 2,.mv (.c (.ae)),none⟩,zw 3 28] (.ret)) (.skip))) (.seq (zR [zm 29 1,zl 30 29,zc 31 .eql 30 1] (.cond (.l 31) (zR [zm 33 0,zm 34 1,⟨.l 35,.dX none 1 (.l 34) (kI 0),none⟩,zd 36 1 35,z2 37 241 33 36,zn 32 37,ze 38 0 32,ze 39 1 32,zw 4 38,zw 5 39] (zR [zm 40 4,zm 41 5,⟨.l 42,.dT 3 1 1 [.iV (0)] [(0,1,(.l 41))],none⟩,z1 43 242 42,zw 2 40,zw 3 43] (.ret))) (.skip))) (zR [zm 44 1,zm 45 1,zl 46 45,zc 47 .sub 46 1,za 48 1 44 47,zd 49 1 48,zc 50 .add 49 1,⟨.l 51,.bin .quo (kI 1000000000) (.l 50),none⟩,⟨.l 52,.dT 3 1 1 [.iV (0)] [(0,1,(.l 51))],none⟩,zw 6 52] (zR [zm 53 1,zm 54 6,z2 55 197 53 54,zw 7 55] (zR [zm 56 7,zl 57 56,zw 8 57] (zR [⟨.l 58,.dT 3 0 1 [.iV (0)] [],none⟩,zm 59 0,zm 60 6,z2 61 197 59 60,⟨.l 62,.append 3 1 8 (.l 58) (.l 61),none⟩,zw 9 62] (.seq (.block 0 (.loop uZ)) (zR [zm 72 9,zl 73 72,zm 74 8,zb 75 .sub 73 74,⟨.l 76,.fK 3 1 8 [.iV (0)] (.l 75) (.l 75),none⟩,zw 10 76] (.seq (zR [zm 77 9,zl 78 77,zm 79 8,zb 80 .sub 78 79,zc 81 .sub 80 1,zw 11 81] (.block 2 (.loop ve))) (.seq (.draw [(zm 193 9,[]),(zm 194 8,[0]),(⟨.l 195,.slice .sl 1 (.l 193) none (some (.l 194)) none,none⟩,[]),(z1 196 242 195,[]),(zm 197 6,[0,1,2,3]),(⟨.l 198,.dX none 1 (.l 197) (kI 0),none⟩,[0,1,2,3]),(zd 199 1 198,[0,1,2,3]),(z2 200 241 196 199,[]),(zn 192 200,[]),(ze 201 0 192,[]),(ze 202 1 192,[9]),(zw 20 201,[10]),(zn 23 202,[])]) (zR [zm 203 10,z1 204 242 203,zm 205 20,zw 2 204,zw 3 205] (.ret))))))))))))
theorem IF:FT 195=some ⟨206,[0,1,4,5,6,7,8,9,10,11,12,13,14,15,16,17,18,19,20,21,22],[.var (.p 2),.var (.p 3)],Bz⟩:=by kernel_rfl
def oG:an:=.seq (zR [zm 19 3,zc 20 .geq 19 0] (.cond (.l 20) (.skip) (.exit 0))) (.seq (.block 1 (.seq (.seq (.draw [(zm 23 0,[]),(zm 24 3,[0]),(za 25 1 23 24,[]),(zd 26 1 25,[]),(zm 27 1,[0,1,2,3]),(zm 28 3,[0,1,2,3,4]),(za 29 1 27 28,[0,1,2,3]),(zd 30 1 29,[0,1,2,3]),(zb 31 .lss 26 30,[])]) (.cond (.l 31) (zR [zi 2 (-1)] (.ret)) (.skip))) (.seq (.draw [(zm 32 0,[]),(zm 33 3,[0]),(za 34 1 32 33,[]),(zd 35 1 34,[]),(zm 36 1,[0,1,2,3]),(zm 37 3,[0,1,2,3,4]),(za 38 1 36 37,[0,1,2,3]),(zd 39 1 38,[0,1,2,3]),(zb 40 .gtr 35 39,[])]) (.cond (.l 40) (zR [zi 2 1] (.ret)) (.skip))))) (.region [zm 21 3,zc 22 .sub 21 1,zw 3 22]))
def BA:an:=zR [zi 2 0] (.seq (zR [zm 6 0,zl 7 6,zm 8 1,zl 9 8,zb 10 .neq 7 9] (.cond (.l 10) (.seq (zR [zm 11 0,zl 12 11,zm 13 1,zl 14 13,zb 15 .lss 12 14] (.cond (.l 15) (zR [zi 2 (-1)] (.ret)) (.skip))) (zR [zi 2 1] (.ret))) (.skip))) (.seq (zR [zm 16 0,zl 17 16,zc 18 .sub 17 1,zw 3 18] (.block 0 (.loop oG))) (zR [zi 2 0] (.ret))))
theorem We:FT 218=some ⟨41,[0,1,4,5],[.var (.p 2)],BA⟩:=by kernel_rfl
def vh:an:=.seq (zR [zm 22 6,zm 23 1,zl 24 23,zb 25 .lss 22 24] (.cond (.l 25) (.skip) (.exit 2))) (.seq (.block 3 (.seq (.draw [(zm 28 3,[]),(zm 29 4,[0]),(zm 30 6,[0,1]),(zb 31 .add 29 30,[0]),(za 32 1 28 31,[]),(zd 33 1 32,[]),(zm 34 0,[0,1,2,3,4,5]),(zm 35 4,[0,1,2,3,4,5,6]),(za 36 1 34 35,[0,1,2,3,4,5]),(zd 37 1 36,[0,1,2,3,4,5]),(zm 38 1,[0,1,2,3,4,5,6,7,8,9]),(zm 39 6,[0,1,2,3,4,5,6,7,8,9,10]),(za 40 1 38 39,[0,1,2,3,4,5,6,7,8,9]),(zd 41 1 40,[0,1,2,3,4,5,6,7,8,9]),(zb 42 .mul 37 41,[0,1,2,3,4,5]),(zb 43 .add 33 42,[]),(zm 44 5,[0,1,2,3,4,5,6,7,8,9,10,11,12,13,14,15]),(zb 45 .add 43 44,[]),(zw 7 45,[])]) (zR [zm 46 3,zm 47 4,zm 48 6,zb 49 .add 47 48,zm 50 7,zc 51 .rem 50 1000000000,za 52 1 46 49,zS 1 52 51] (.region [zm 53 7,zc 54 .quo 53 1000000000,zw 5 54])))) (.region [zm 26 6,zc 27 .add 26 1,zw 6 27]))
def vi:an:=.seq (zR [zm 16 4,zm 17 0,zl 18 17,zb 19 .lss 16 18] (.cond (.l 19) (.skip) (.exit 0))) (.seq (.block 1 (zR [zi 5 0] (.seq (zR [zi 6 0] (.block 2 (.loop vh))) (.region [zm 55 3,zm 56 4,zm 57 1,zl 58 57,zb 59 .add 56 58,zm 60 3,zm 61 4,zm 62 1,zl 63 62,zb 64 .add 61 63,za 65 1 60 64,zd 66 1 65,zm 67 5,zb 68 .add 66 67,za 69 1 55 59,zS 1 69 68])))) (.region [zm 20 4,zc 21 .add 20 1,zw 4 21]))
def BB:an:=zR [⟨.p 2,.mv (.c (.ae)),none⟩] (zR [zm 10 0,zl 11 10,zm 12 1,zl 13 12,zb 14 .add 11 13,⟨.l 15,.fK 3 1 8 [.iV (0)] (.l 14) (.l 14),none⟩,zw 3 15] (.seq (zR [zi 4 0] (.block 0 (.loop vi))) (zR [zm 70 3,z1 71 242 70,zw 2 71] (.ret))))
theorem IG:FT 197=some ⟨72,[0,1,4,5,6,7,8,9],[.var (.p 2)],BB⟩:=by kernel_rfl
def vj:an:=.seq (zR [zm 16 6,zc 17 .geq 16 0] (.cond (.l 17) (.skip) (.exit 0))) (.seq (.block 1 (zR [zm 20 5,zc 21 .mul 20 1000000000,zm 22 0,zm 23 6,za 24 1 22 23,zd 25 1 24,zb 26 .add 21 25,zw 7 26] (zR [zm 27 4,zm 28 6,zm 29 7,zm 30 1,zb 31 .quo 29 30,za 32 1 27 28,zS 1 32 31] (.region [zm 33 7,zm 34 1,zb 35 .rem 33 34,zw 5 35])))) (.region [zm 18 6,zc 19 .sub 18 1,zw 6 19]))
def IH:an:=zR [⟨.p 2,.mv (.c (.ae)),none⟩,zi 3 0] (zR [zm 10 0,zl 11 10,⟨.l 12,.fK 3 1 8 [.iV (0)] (.l 11) (.l 11),none⟩,zw 4 12] (zR [zi 5 0] (.seq (zR [zm 13 0,zl 14 13,zc 15 .sub 14 1,zw 6 15] (.block 0 (.loop vj))) (zR [zm 36 4,z1 37 242 36,zm 38 5,zw 2 37,zw 3 38] (.ret)))))
theorem Wf:FT 241=some ⟨39,[0,1,4,5,6,7,8,9],[.var (.p 2),.var (.p 3)],IH⟩:=by kernel_rfl
def qX:an:=.seq (.seq (.draw [(zm 42 6,[]),(zc 43 .geq 42 1000000000,[]),(zn 44 43,[]),(zg (zm 45 6) 44 false,[]),(zg (zm 46 1) 44 false,[3]),(zg (zm 47 4) 44 false,[3,4]),(zg (zc 48 .sub 47 2) 44 false,[3,4]),(zg (za 49 1 46 48) 44 false,[3]),(zg (zd 50 1 49) 44 false,[3]),(zg (zb 51 .mul 45 50) 44 false,[]),(zg (zm 52 7) 44 false,[3,4,5,6,7,8,9]),(zg (zc 53 .mul 52 1000000000) 44 false,[3,4,5,6,7,8,9]),(zg (zm 54 0) 44 false,[3,4,5,6,7,8,9,10,11]),(zg (zm 55 2) 44 false,[3,4,5,6,7,8,9,10,11,12]),(zg (zm 56 4) 44 false,[3,4,5,6,7,8,9,10,11,12,13]),(zg (zb 57 .add 55 56) 44 false,[3,4,5,6,7,8,9,10,11,12]),(zg (zc 58 .sub 57 2) 44 false,[3,4,5,6,7,8,9,10,11,12]),(zg (za 59 1 54 58) 44 false,[3,4,5,6,7,8,9,10,11]),(zg (zd 60 1 59) 44 false,[3,4,5,6,7,8,9,10,11]),(zg (zb 61 .add 53 60) 44 false,[3,4,5,6,7,8,9]),(zg (zb 62 .gtr 51 61) 44 false,[]),(zP 63 44 62,[])]) (.cond (.l 63) (.skip) (.exit 0))) (.block 1 (zR [zm 64 6,zc 65 .sub 64 1,zw 6 65] (zR [zm 66 7,zm 67 1,zm 68 4,zc 69 .sub 68 1,za 70 1 67 69,zd 71 1 70,zb 72 .add 66 71,zw 7 72] (zR [zm 73 7,zc 74 .geq 73 1000000000] (.cond (.l 74) (zR [zm 75 6,zw 3 75] (.ret)) (.skip))))))
def II:an:=zR [zi 3 0] (zR [zm 11 1,zl 12 11,zw 4 12] (.seq (.draw [(zm 13 0,[]),(zm 14 2,[0]),(zm 15 4,[0,1]),(zb 16 .add 14 15,[0]),(za 17 1 13 16,[]),(zd 18 1 17,[]),(zc 19 .mul 18 1000000000,[]),(zm 20 0,[0,1,2,3,4,5,6]),(zm 21 2,[0,1,2,3,4,5,6,7]),(zm 22 4,[0,1,2,3,4,5,6,7,8]),(zb 23 .add 21 22,[0,1,2,3,4,5,6,7]),(zc 24 .sub 23 1,[0,1,2,3,4,5,6,7]),(za 25 1 20 24,[0,1,2,3,4,5,6]),(zd 26 1 25,[0,1,2,3,4,5,6]),(zb 27 .add 19 26,[]),(zw 5 27,[])]) (.seq (.draw [(zm 28 5,[]),(zm 29 1,[0]),(zm 30 4,[0,1]),(zc 31 .sub 30 1,[0,1]),(za 32 1 29 31,[0]),(zd 33 1 32,[0]),(zb 34 .quo 28 33,[]),(zm 35 5,[0,1,2,3,4,5,6]),(zm 36 1,[0,1,2,3,4,5,6,7]),(zm 37 4,[0,1,2,3,4,5,6,7,8]),(zc 38 .sub 37 1,[0,1,2,3,4,5,6,7,8]),(za 39 1 36 38,[0,1,2,3,4,5,6,7]),(zd 40 1 39,[0,1,2,3,4,5,6,7]),(zb 41 .rem 35 40,[0,1,2,3,4,5,6]),(zw 6 34,[7,8,9,10,11,12,13]),(zw 7 41,[])]) (.seq (.block 0 (.loop qX)) (zR [zm 76 6,zw 3 76] (.ret))))))
theorem Wg:FT 243=some ⟨77,[0,1,2,6,7,8,9,10],[.var (.p 3)],II⟩:=by kernel_rfl
def IJ:an:=zR [zi 2 0] (.seq (zR [zm 5 1,zm 6 0,zl 7 6,zb 8 .lss 5 7] (.cond (.l 8) (zR [zm 9 0,zm 10 1,za 11 1 9 10,zd 12 1 11,zw 2 12] (.ret)) (.skip))) (zR [zi 2 0] (.ret)))
theorem Wh:FT 254=some ⟨13,[0,1,4],[.var (.p 2)],IJ⟩:=by kernel_rfl
theorem Wi {s:aM}{i:Nat}(h:i<s.length):s.drop i=s[i]! :: s.drop (i+1):=by
 rw[List.drop_eq_getElem_cons h,getElem!_pos s i h]
def mA (s:aM):Bool:=(bM 47 s).2.isSome
def cg (s:aM):Nat:=(bM 47 s).1.length
theorem IK (s:aM):cg s<=s.length:=VB 47 s
theorem Wj (hft:M.FT=FT)(s:aM)(hl:s.length<1000000):aU M 153 [.str s] [] ⟨.iV (cg s),[],[]⟩:=by
 refine bO (by rw[hft];exact VZ) (by simp) ?_;have loop:∀(r i:Nat) (lo:List (Nat×AV)) (wr:List Nat) {Q:Ex->al->Prop} (a1:AV),i+r=s.length->i+cg (s.drop i)=cg s ->
  (cg s<s.length->∀lo wr,Q .ret ⟨⟨[.str s,.iV (cg s),.iV (cg s)],lo,[],[]⟩,wr⟩) ->
  (cg s=s.length->∀lo wr,Q (.exit 0) ⟨⟨[.str s,a1,.iV s.length],lo,[],[]⟩,wr⟩) ->
  W M (.loop qT) ⟨⟨[.str s,a1,.iV i],lo,[],[]⟩,wr⟩ Q:=by
  intro r;induction r with
  | zero=>
   intro i lo wr Q a1 hi he h1 h2;obtain rfl:i=s.length:=by omega
   rw[List.drop_length]at he;have e0:cg ([]:aM)=0:=rfl;refine W.loop ?_;unfold qT;exact gg1
  | succ r ih=>
   intro i lo wr Q a1 hi he h1 h2;have hd:=Wi (s:=s) (i:=i) (by omega);refine W.loop ?_;by_cases h47:s[i]! = 47
   . have e1:cg (s.drop i)=0:=by rw[hd,h47];simp[cg,bM]
     have e2:cg s=i:=by omega
     have e47:((s[((i:Int)).toNat]!).toNat:Int)=47:=by rw[show s[((i:Int)).toNat]! = s[i]! from rfl,h47];rfl
     rw[e2]at h1;unfold qT;exact gg3
   . have e1:cg (s.drop i)=1+cg (s.drop (i+1)):=by
      rw[hd];simp only[cg,bM,if_neg h47,List.length_cons];omega
     have e47:((s[((i:Int)).toNat]!).toNat:Int)≠47:=fun e=>h47 (UInt8.toNat_inj.1 (by
                                                                                                  rw[show s[((i:Int)).toNat]! = s[i]! from rfl]at e;have:(47:UInt8).toNat=47:=rfl;omega))
     unfold qT;exact gg3
 unfold IA;simp only[enter];repeat' first|refine gc ?_|fail
 refine loop s.length 0 _ _ _ (by omega) (by simp) (fun h lo wr=>?_) (fun h lo wr=>?_)
 . exact gg0
 . rw[h];exact gg0
theorem Wk {s:aM}(h:s.all cS=true)(hl:s.length<=18)(i:Nat)(hi:i<=s.length):aT 0 (s.take i)<1000000000000000000:=by
 refine Im ?_ (by rw[List.length_take];omega);rw[List.all_eq_true]at h ⊢;exact fun x hx=>h x (List.mem_of_mem_take hx)
theorem Wl (hft:M.FT=FT)(s:aM)(hl:s.length<=18)(hd:s.all cS=true):aU M 192 [.str s] [] ⟨.iV (aT 0 s:Nat),[],[]⟩:=by
 refine bO (by rw[hft];exact Wb) (by simp) ?_;have loop:∀(r i:Nat) (lo:List (Nat×AV)) (wr:List Nat) {Q:Ex->al->Prop} (a1:AV),i+r=s.length ->
  (∀lo wr,Q (.exit 0) ⟨⟨[.str s,a1,.iV (aT 0 s:Nat),.iV s.length],lo,[],[]⟩,wr⟩) ->
  W M (.loop uW) ⟨⟨[.str s,a1,.iV (aT 0 (s.take i):Nat),.iV i],lo,[],[]⟩,wr⟩ Q:=by
  intro r;induction r with
  | zero=>
   intro i lo wr Q a1 hi hQ;obtain rfl:i=s.length:=by omega
   rw[List.take_length];refine W.loop ?_;unfold uW;exact gg1
  | succ r ih=>
   intro i lo wr Q a1 hi hQ;have tL:=Wk hd hl (i+1) (by omega);have hb:=(qK _).1 ((List.all_eq_true.1 hd) s[i]! (by rw[getElem!_pos s i (by omega)];exact List.getElem_mem (by omega)));have e1:aT 0 (s.take (i+1))=10*aT 0 (s.take i)+((s[i]!).toNat-48):=by
    rw[List.take_add_one,List.getElem?_eq_getElem (by omega),Option.toList_some,oy,uJ,getElem!_pos s i (by omega)]
   have ei:s[((i:Int)).toNat]! = s[i]! := rfl;rw[←ei]at hb e1;have ih':=ih (i+1);generalize aT 0 (s.take (i+1))=m at *
   generalize aT 0 (s.take i)=n at *
   have e2:(m:Int)=10*n+((s[((i:Int)).toNat]!).toNat:Int)-48:=by omega
   rw[e2]at ih';refine W.loop ?_;unfold uW;exact gg1
 unfold ID;simp only[enter];repeat' first|refine gc ?_|fail
 refine loop s.length 0 _ _ _ (by omega) (fun lo wr=>?_);exact gg0
variable {c1 c2:Option Nat}
abbrev iC (x:Int):List AV:=[.iV x]
abbrev aj (l:List Int):List AV:=arr iC l
abbrev dB:Int:=1000000000
theorem IL {l:List Int}:(aj l).length=l.length:=by
 have:=js (f:=iC) (esz:=1) (fun _=>rfl) l;simpa using this
theorem Wm {l:List Int}{m:Nat}(h:m<l.length):(aj l)[m]? = some (.iV l[m]!):=by
 induction l generalizing m with
 | nil=>simp at h
 | cons x l ih=>
  cases m with
  | zero=>rfl
  | succ m=>
   have e:(x::l)[m+1]! = l[m]! := by simp[List.getElem!_eq_getElem?_getD]
   rw[e,←ih (by simpa using h)];rfl
section
variable {t b m:Nat} {x y:ax} {l:List aO} {pe:List AV} {lo:List (Nat×AV)} {hp:ab} {df wr:List Nat} {L:List Int} {e:TypeId} {v:Int} {Q:al->Prop}
theorem abD (hx:(St.mk pe lo hp df).aa x=some (.ptr b m))(hb:hp.at b=some (.cells (aj L) e))(hi:m<L.length)
 (h:WO M l ⟨⟨pe,(t,.iV L[m]!)::lo,hp,df⟩,wr⟩ Q):WO M (⟨.l t,.load 1 false x,none⟩::l) ⟨⟨pe,lo,hp,df⟩,wr⟩ Q:=by
 refine abq (c:=aj L) (o:=m) (e:=e) (v:=.iV L[m]!) hx hb ?_ h;have h1:=Wm hi;have h2:m<(aj L).length:=by rw[IL];exact hi
 rw[List.drop_eq_getElem_cons h2];rw[List.getElem?_eq_getElem h2]at h1;rw[Option.some.inj h1];rfl
theorem Wn {L:List Int}{m:Nat}{v:Int}(h:m<L.length):overwrite (aj L) m (iC v)=aj (L.set m v):=by
 induction L generalizing m with
 | nil=>simp at h
 | cons x L ih=>
  cases m with
  | zero=>simp[overwrite,arr]
  | succ m=>
   have:=ih (m:=m) (by simpa using h);simp only[List.set_cons_succ];have e1:aj (x::L) = .iV x::aj L:=rfl;have e2:aj (x::L.set m v) = .iV x::aj (L.set m v):=rfl;rw[e1,e2,←this];simp[overwrite]
theorem abu (hx:(St.mk pe lo hp df).aa x=some (.ptr b m))(hy:(St.mk pe lo hp df).aa y=some (.iV v))(hb:hp.at b=some (.cells (aj L) e))(hi:m<L.length)
 (h:WO M l ⟨⟨pe,lo,hp.put b (some (.cells (aj (L.set m v)) e)),df⟩,b::wr⟩ Q):WO M (⟨.no,.store 1 x y,none⟩::l) ⟨⟨pe,lo,hp,df⟩,wr⟩ Q:=
 aaq (c:=aj L) (new:=iC v) hx (by rw[hy];rfl) hb ⟨rfl,by rw[IL];omega,rfl⟩ (Wn hi) h
end
def cj (hp:ab)(b:Nat)(e:TypeId)(P S X:List Int):ab:=hp.put b (some (.cells (aj (P++X++S)) e))
theorem IM {hp:ab}{b:Nat}{e:TypeId}{P S X:List Int}:(cj hp b e P S X).length=hp.length:=gG
section
variable {t bu bv m:Nat} {x y:ax} {l:List aO} {pe:List AV} {lo:List (Nat×AV)} {hp:ab} {df wr:List Nat} {P S X V Y:List Int} {e e':TypeId} {v:Int} {Q:al->Prop}
theorem acj {i:Nat}(hx:(St.mk pe lo (cj hp bu e P S X) df).aa x=some (.ptr bu m))(hl:bu<hp.length)(hi:i<X.length)(hm:m=P.length+i)
 (h:WO M l ⟨⟨pe,(t,.iV X[i]!)::lo,cj hp bu e P S X,df⟩,wr⟩ Q):WO M (⟨.l t,.load 1 false x,none⟩::l) ⟨⟨pe,lo,cj hp bu e P S X,df⟩,wr⟩ Q:=by
 subst hm;refine abD (L:=P++X++S) (e:=e) hx (by unfold cj;exact gg hl) (by simp;omega) ?_;rw[zY hi];exact h
theorem ack {i:Nat}(hx:(St.mk pe lo (cj hp bu e P S X) df).aa x=some (.ptr bu m))(hy:(St.mk pe lo (cj hp bu e P S X) df).aa y=some (.iV v))(hl:bu<hp.length)(hi:i<X.length)(hm:m=P.length+i)
 (h:WO M l ⟨⟨pe,lo,cj hp bu e P S (X.set i v),df⟩,bu::wr⟩ Q):WO M (⟨.no,.store 1 x y,none⟩::l) ⟨⟨pe,lo,cj hp bu e P S X,df⟩,wr⟩ Q:=by
 subst hm;refine abu (L:=P++X++S) (e:=e) hx hy (by unfold cj;exact gg hl) (by simp;omega) ?_;rw[GI hi];have:ab.put (cj hp bu e P S X) bu (some (.cells (aj (P++X.set i v++S)) e))=cj hp bu e P S (X.set i v):=by unfold cj;exact jt
 rw[this];exact h
end
def fD (v:AV)(hh:ab)(r:List Int):Prop:=∃v1,iB hh v v1/\v1.top=0/\bI v1 = .vs (aj r) r.length none
theorem BC (l:List Int):dx (aj l)=aj l:=yK (fun _=>rfl) l
theorem fz (l:List Int):aY (aj l)=0:=kB (fun _=>rfl) l
theorem fD.trim {b:Nat}{L:List Int}{e:TypeId}{hp:ab}{n:Nat}(hb:hp.at b=some (.cells (aj L) e))(hn:n<=L.length):fD (bl b (aL (L.take n)) cap) (if (aQ [bl b (aL (L.take n)) cap]).top<=0 then [] else hp) (L.take (aL (L.take n))):=by
 have hle:=gK (l:=L.take n);rw[List.length_take]at hle;obtain⟨k,hk⟩:∃k,k=aL (L.take n):=⟨_,rfl⟩;rw[←hk]at hle ⊢;by_cases h0:0<k
 . have e1:bl b k cap = .sl b 0 k 1 cap:=if_pos h0;rw[e1,if_neg (by simp[aQ,AV.top])];have hl:(L.take k).length=k:=by rw[List.length_take];omega
   have hF:Fr hp [b] (.sl b 0 k 1 cap) (.vs (aj (L.take k)) k none):=by
    refine .sl (m:=aj (L.take k)) (List.mem_singleton.2 rfl) hb ?_ rfl (fun i x y hx hy=>?_) (.inr rfl)
    . have:=jQ (f:=iC) (esz:=1) (fun _=>rfl) (l:=L) (i:=0) (n:=k) (by omega);simpa using this
    . rw[hx]at hy;cases hy;exact .same (bZ (fz _) hx)
   unfold fD;rw[hl];refine⟨_,⟨[b],hF,rfl,fun c l' e' hc hl'=>?_⟩,fz _,by rw[bI,BC]⟩;rw[List.mem_singleton.1 hc,hb]at hl';cases hl';exact lT (fun _=>rfl) _
 . obtain rfl:k=0:=by omega
   exact⟨.vs [] 0 cap,.same rfl rfl,rfl,rfl⟩
def vk (M:ao)(g:Nat)(ars:List AV)(z:Int):Prop:=∃r:List Int,(okW dB r/\aN r/\WV dB r=z)/\∃v hh,fD v hh r/\aU M g ars [] ⟨v,hh,[]⟩
theorem BD {f N:Nat}{az:List Nat}{res:List fc}{body:an}{ars:List AV}{z:Int}(hft:M.FT f=some ⟨N,az,res,body⟩)(hN:ars.length<=N)
 (h:W M body ⟨⟨az.map (fun t=>(ars[t]?).getD bJ),[],[],[]⟩,[]⟩ fun e s=>(e = .normal\/e = .ret)/\s.s.bA=[]/\∃vs,cU s.s res=some vs/\∃r:List Int,(okW dB r/\aN r/\WV dB r=z)/\fD (aQ vs) (if (aQ vs).top<=0 then [] else s.s.hp) r):vk M f ars z:=by
 obtain⟨v,hh,⟨r,hr,ho⟩,h2⟩:=gA (P:=fun v hh=>∃r:List Int,(okW dB r/\aN r/\WV dB r=z)/\fD v hh r) hft hN h;exact⟨r,hr,v,hh,ho,h2⟩
theorem mB {L:List Int}(ok:okW dB L):okW dB (L.take (aL L))/\aN (L.take (aL L))/\WV dB (L.take (aL L))=WV dB L:=⟨cY ok _,zU,ud⟩
def bX (x:AV)(l:List Int):Prop:=x = .vs (aj l) l.length none\/(x = .ae/\l=[])
def iF (v:AV)(hh:ab)(q r:List Int):Prop:=∃v1 x y,eh hh v v1/\v1.top=0/\bx v1 = .aq [x,y]/\bX x q/\bX y r
theorem oH (l:List Int):cB (aj l)=aj l:=yM (fun _=>rfl) l
theorem BE {b:Nat}{L:List Int}{e:TypeId}{hp:ab}{n:Nat}(hb:hp.at b=some (.cells (aj L) e))(hn:n<=L.length)(hh:ab)(he:(bl b (aL (L.take n)) cap).top≠0->hh=hp) :
 ∃v1,eh hh (bl b (aL (L.take n)) cap) v1/\v1.top=0/\bx v1 = .vs (aj (L.take (aL (L.take n)))) (L.take (aL (L.take n))).length none:=by
 have hle:=gK (l:=L.take n);rw[List.length_take]at hle;obtain⟨k,hk⟩:∃k,k=aL (L.take n):=⟨_,rfl⟩;rw[←hk]at hle he ⊢;by_cases h0:0<k
 . have e1:bl b k cap = .sl b 0 k 1 cap:=if_pos h0;rw[e1]at he ⊢;obtain rfl:=he (by simp[AV.top]);have hl:(L.take k).length=k:=by rw[List.length_take];omega
   have hF:eh hh (.sl b 0 k 1 cap) (.vs (aj (L.take k)) k none):=by
    refine .sl (m:=aj (L.take k)) hb ?_ rfl (fun i x y hx hy=>?_)
    . have:=jQ (f:=iC) (esz:=1) (fun _=>rfl) (l:=L) (i:=0) (n:=k) (by omega);simpa using this
    . rw[hx]at hy;cases hy;exact .same (bZ (fz _) hx)
   rw[hl];exact⟨_,hF,fz _,by rw[bx,oH]⟩
 . obtain rfl:k=0:=by omega
   exact⟨.vs [] 0 cap,.same rfl,rfl,rfl⟩
theorem iF.less {hh:ab}{l:List Int}:iF (aQ [.ae,.vs (aj l) l.length cap]) hh [] l:=by
 have ht:(aQ [.ae,.vs (aj l) l.length cap]).top=0:=by simp[aQ,AV.top,aY,fz l]
 refine⟨aQ [.ae,.vs (aj l) l.length cap],.ae,.vs (aj l) l.length none,.same ht,ht,?_,.inr ⟨rfl,rfl⟩,.inl rfl⟩;simp only[aQ,bx,cB,oH l]
def IN (M:ao)(g:Nat)(ars:List AV)(x y:Int):Prop:=∃q r:List Int,(okW dB q/\aN q/\WV dB q=x/y)/\(okW dB r/\aN r/\WV dB r=x%y)/\∃v hh,iF v hh q r/\aU M g ars [] ⟨v,hh,[]⟩
theorem Wo {f N:Nat}{az:List Nat}{res:List fc}{body:an}{ars:List AV}{x y:Int}(hft:M.FT f=some ⟨N,az,res,body⟩)(hN:ars.length<=N)
 (h:W M body ⟨⟨az.map (fun t=>(ars[t]?).getD bJ),[],[],[]⟩,[]⟩ fun e s=>(e = .normal\/e = .ret)/\s.s.bA=[]/\∃vs,cU s.s res=some vs/\∃q r:List Int,(okW dB q/\aN q/\WV dB q=x/y)/\(okW dB r/\aN r/\WV dB r=x%y)/\iF (aQ vs) (if (aQ vs).top<=0 then [] else s.s.hp) q r):IN M f ars x y:=by
 obtain⟨v,hh,⟨q,r,hq,hr,ho⟩,h2⟩:=gA (P:=fun v hh=>∃q r:List Int,(okW dB q/\aN q/\WV dB q=x/y)/\(okW dB r/\aN r/\WV dB r=x%y)/\iF v hh q r) hft hN h;exact⟨q,r,hq,hr,v,hh,ho,h2⟩
theorem qY {b:Nat}:bl b 0 cap = .vs [] 0 cap:=if_neg (by omega)
theorem IP {b r:Nat}:bl b (r+1) cap = .sl b 0 (r+1) 1 cap:=if_pos (by omega)
theorem Wp (hft:M.FT=FT){b n:Nat}{L:List Int}{e:TypeId}{hp:ab}(hb:hp.at b=some (.cells (aj L) e))(hn:n<=L.length)(hl:n<1000000000)(hc:∀c,cap=some c->n<=c) :
 aU M 242 [bl b n cap] hp ⟨bl b (aL (L.take n)) cap,hp,[]⟩:=by
 have hbl:=dQ hb;refine kD (by rw[hft];exact uY) (by simp) (by unfold bl;split <;> simp[AV.top,aY];omega) ?_;have loop:∀(r:Nat) (lo:List (Nat×AV)) (a1:AV) {Q:Ex->al->Prop},r<=n->aL (L.take r)=aL (L.take n)->(∀lo,Q (.exit 0) ⟨⟨[bl b (aL (L.take n)) cap,a1],lo,hp,[]⟩,[]⟩)->W M (.loop iE) ⟨⟨[bl b r cap,a1],lo,hp,[]⟩,[]⟩ Q:=by
  intro r;induction r with
  | zero=>
   intro lo a1 Q hr he hQ;have e0:aL (L.take n)=0:=by rw[←he];rfl
   rw[e0,qY]at hQ;rw[qY];refine W.loop ?_;unfold iE;exact gg4
  | succ r ih=>
   intro lo a1 Q hr he hQ;have e:=ml (l:=L) (i:=r) (by omega);have ei:0+((((r+1:Nat):Int)-1).toNat)*1=r:=by omega
   have er:((r+1:Nat):Int)-1=r:=by omega
   rw[IP];refine W.loop ?_;by_cases h0:L[r]! = 0
   . rw[if_pos h0]at e;unfold iE;exact gg6
   . rw[if_neg h0]at e;have e2:aL (L.take n)=r+1:=by rw[←he,e]
     rw[e2,IP]at hQ;unfold iE;exact gg6
 unfold qW;simp only[enter];repeat' first|refine gc ?_|fail
 refine loop n _ _ (Nat.le_refl _) rfl (fun lo=>?_);exact gg0
theorem mC (hft:M.FT=FT)(dr:∀ars h,M.ext 242 ars h=none){b n:Nat}{L:List Int}{e:TypeId}{hp:ab}(hb:hp.at b=some (.cells (aj L) e))(h0:0<n)(hn:n<=L.length)(hl:n<1000000000)(hc:∀c,cap=some c->n<=c) :
 CT M (iY 242) [.sl b 0 n 1 cap] hp ⟨bl b (aL (L.take n)) cap,hp,[]⟩:=by
 have h:=Wp (cap:=cap) hft hb hn hl hc;rw[show bl b n cap = .sl b 0 n 1 cap from if_pos h0]at h;exact CT.run (fi:=[]) (ca:=[]) (dr _ _) h
theorem IQ {b n:Nat}:bl b n cap = .sl b 0 n 1 cap\/bl b n cap = .vs [] 0 cap/\n=0:=by
 rcases Nat.eq_zero_or_pos n with rfl|h
 . exact .inr ⟨qY,rfl⟩
 . exact .inl (if_pos h)
theorem pD {st:St}{i b:Nat}{x y:AV}{e:TypeId}(h1:st.pe[i]? = some (.ptr b 0))(h2:st.hp.at b=some (.cells [x,y] e)):cU st [.cell 2 true (.p i)]=some [.agg [x,y]]:=by
 simp only[cU,St.aa,h1,Option.bind_some,ew,h2,List.drop];rfl
theorem IS (hft:M.FT=FT)(dr:∀ars h,M.ext 242 ars h=none){b n:Nat}{L:List Int}{e:TypeId}{hp:ab}(neg:Bool)(hb:hp.at b=some (.cells (aj L) e))(h0:0<n)(hn:n<=L.length)(hl:n<1000000000)(hc:∀c,cap=some c->n<=c) :
 aU M 196 [.bool neg,.sl b 0 n 1 cap] hp ⟨.agg [.bool (neg && decide (0<aL (L.take n))),bl b (aL (L.take n)) cap],hp,[]⟩:=by
 have hbl:=dQ hb;have q:=mC (cap:=cap) hft dr (hp:=hp++[some (.cells [.bool false,.ae] 162)]) (de hb) h0 hn hl hc;have ht:aL (L.take n)<=n:=by have:=gK (l:=L.take n);rw[List.length_take]at this;omega
 obtain⟨k,hk⟩:∃k,k=aL (L.take n):=⟨_,rfl⟩;rw[←hk]at q ht ⊢;refine kD (by rw[hft];exact uX) (by simp) (by rcases IQ (cap:=cap) (b:=b) (n:=k) with h|⟨h,_⟩ <;> rw[h] <;> simp[AV.top,aY] <;> omega) ?_;unfold qV;simp only[enter];rcases IQ (cap:=cap) (b:=b) (n:=k) with h|⟨h,h1⟩
 . rw[h]at q ⊢;by_cases hk0:0<k
   . rw[decide_eq_true hk0,Bool.and_true];cases neg;all_goals
     . exact gg4
   . exfalso;have:k=0:=by omega
     rw[this,qY]at h;cases h
 . rw[h]at q ⊢;subst h1;rw[decide_eq_false (by omega),Bool.and_false];cases neg;all_goals
   . exact gg4
def bD (v:AV)(z:Int):Prop:=∃neg x l,v = .agg [.bool neg,x]/\bX x l/\okW dB l/\aN l/\z=(if neg then -WV dB l else WV dB l)/\(neg=true->l≠[])
def mD (v:AV)(z:Int):Prop:=∃neg l,v = .agg [.bool neg,.vs (aj l) l.length none]/\okW dB l/\aN l/\z=(if neg then -WV dB l else WV dB l)/\(neg=true->l≠[])
theorem mD.BF {v:AV}{z:Int}(h:mD v z):bD v z:=by
 obtain⟨neg,l,h1,h2,h3,h4,h5⟩:=h;exact⟨neg,_,l,h1,.inl rfl,h2,h3,h4,h5⟩
theorem IT (n:Nat):((10^(9*n):Nat):Int)=dB^n:=by
 rw[Nat.pow_mul];exact Int.natCast_pow _ _
theorem Wq {t x:aM}(hx:x.length=9):aT 0 (t++x)=aT 0 t*1000000000+aT 0 x:=by
 rw[oy,Ba,hx]
structure BG (M:ao):Prop where
 ft:M.FT=FT
 dr:∀ars h,M.ext 242 ars h=none
 qZ:∀ars h,M.ext 196 ars h=none
 mE:∀(s:aM) h,s.length<=18->s.all cS=true->M.ext 192 [.str s] h=some ⟨.iV (aT 0 s:Nat),h,[]⟩
theorem IU {K:ab}{c:Nat}{L:List Int}{neg:Bool}(hc:K.at c=some (.cells (aj L) 3))(oL:okW dB L) :
 ∃v0,mD v0 (if neg then -WV dB L else WV dB L)/\eZ (.agg [.bool (neg && decide (0<aL (L.take L.length))),bl c (aL (L.take L.length)) none]) (if (AV.agg [.bool (neg && decide (0<aL (L.take L.length))),bl c (aL (L.take L.length)) none]).top<=0 then [] else K) v0:=by
 obtain⟨v1,f1,t1,k1⟩:=BE (cap:=none) hc (Nat.le_refl L.length) (if (AV.agg [.bool (neg && decide (0<aL (L.take L.length))),bl c (aL (L.take L.length)) none]).top<=0 then [] else K) (fun h=>by
  rw[if_neg];intro h2;apply h;have:(AV.agg [.bool (neg && decide (0<aL (L.take L.length))),bl c (aL (L.take L.length)) none]).top=max 0 (max (bl c (aL (L.take L.length)) none).top 0):=rfl;omega)
 obtain⟨g1,g2,g3⟩:=mB oL;rw[List.take_length]at k1 f1 ⊢;refine⟨.agg [.bool (neg && decide (0<aL L)),.vs (aj (L.take (aL L))) (L.take (aL L)).length none],⟨_,_,rfl,g1,g2,?_,?_⟩,.agg [.bool (neg && decide (0<aL L)),v1],.agg rfl (fun i a b ha hb=>?_),?_,?_⟩
 . rw[g3];cases neg with
   | false=>rfl
   | true=>
    by_cases h0:0<aL L
    . rw[decide_eq_true h0];rfl
    . rw[decide_eq_false h0];have:WV dB L=0:=by rw[←g3,show aL L=0 by omega];rfl
      rw[this];rfl
 . intro h e;rw[Bool.and_eq_true,decide_eq_true_eq]at h;have:=congrArg List.length e;have hle:=gK (l:=L);rw[List.length_take,List.length_nil]at this;omega
 . match i with
   | 0=>cases ha;cases hb;exact .same rfl
   | 1=>cases ha;cases hb;exact f1
   | i+2=>cases ha
 . simp[AV.top,aY,t1]
 . simp only[bx,cB,k1]
theorem Wr (C:BG M){Q:Ex->al->Prop}(full:aM)(hD:full.all cS=true)(hl:full.length<1000000)(a2:AV)
 (hQ:∀t acc o K lo wr,t.length<=9->t.all cS=true->okW dB acc->acc.length<1000000->(aT 0 full:Int)=aT 0 t*dB^acc.length+WV dB acc->bP iC 1 3 K o acc [0]->K.at 0=some (.cells [.bool false,.ae] 162)->Q (.exit 0) ⟨⟨[.str t,.ptr 0 0,a2,o],lo,K,[]⟩,wr⟩)
 (lo:List (Nat×AV)) (wr:List Nat) (K:ab) (hK:K.at 0=some (.cells [.bool false,.ae] 162)) :
 W M (.loop qU) ⟨⟨[.str full,.ptr 0 0,a2,.ae],lo,K,[]⟩,wr⟩ Q:=by
 refine W.fH (fun m st=>∃t acc o K lo wr,st=⟨⟨[.str t,.ptr 0 0,a2,o],lo,K,[]⟩,wr⟩/\t.length=m/\t.all cS=true/\okW dB acc/\acc.length*9+t.length<=full.length/\(aT 0 full:Int)=aT 0 t*dB^acc.length+WV dB acc/\bP iC 1 3 K o acc [0]/\K.at 0=some (.cells [.bool false,.ae] 162))
  (fun m st ⟨t,acc,o,K,lo,wr,hst,hm,hDt,oA,hln,hv,ho,hK⟩=>?_) (m:=full.length) ⟨full,[],.ae,K,lo,wr,rfl,rfl,hD,gH,by simp,by simp[WV],.nH,hK⟩
 subst hst;by_cases h9:t.length<=9
 . unfold qU;exact gg4
 . obtain⟨x,y,hxy,hxl⟩:∃x y,t=x++y/\y.length=9:=⟨t.take (t.length-9),t.drop (t.length-9),(List.take_append_drop _ t).symm,by rw[List.length_drop];omega⟩;have htl:t.length=x.length+9:=by rw[hxy,List.length_append,hxl]
   have hDx:x.all cS=true:=by rw[hxy,List.all_append,Bool.and_eq_true]at hDt;exact hDt.1
   have hDy:y.all cS=true:=by rw[hxy,List.all_append,Bool.and_eq_true]at hDt;exact hDt.2
   have q192:=fun h=>C.mE y h (by omega) hDy
   have hylt:aT 0 y<1000000000:=by have:=qM y hDy;rw[hxl]at this;exact this
   have edr:t.drop ((t.length:Int)-9).toNat=y:=by rw[show ((t.length:Int)-9).toNat=x.length by omega,hxy,List.drop_left]
   have etk:t.take ((t.length:Int)-9).toNat=x:=by rw[show ((t.length:Int)-9).toNat=x.length by omega,hxy,List.take_left]
   have hroom:(acc.length+1)*8<=dh:=by unfold dh;omega
   have hK1:=dQ hK;unfold qU;repeat' first|(apply aaH (s:=t) (r:=y);rfl;rfl;omega;exact edr)|(apply aaI (s:=t) (r:=x);rfl;rfl;omega;exact etk)|(refine bP.app (f:=iC) (m:=[(aT 0 y:Int)]) (S:=[0]) (fun _=>rfl) (fun _=>rfl) (by decide) (ho.grow [_]) (by simp) rfl rfl (Sl.ir (f:=iC) (esz:=1) (l:=[(aT 0 y:Int)]) (e:=3) (fun _=>rfl) cN rfl) hroom (fun H w' o' ho' hk hlen=>?_))|(apply aah;rfl;rfl)|refine gd0 ?_|refine gc ?_|(intro _;omega)|intro _
   all_goals try omega
   all_goals exact cL ⟨x.length,by omega,x,acc++[(aT 0 y:Int)],o',H,_,_,rfl,rfl,hDx,iu oA (fun z hz=>by rw[List.mem_singleton.1 hz];exact⟨by omega,by show _<(1000000000:Int);omega⟩),by rw[List.length_append,List.length_singleton];omega,by
    rw[hv,hxy,Wq hxl,List.length_append,List.length_singleton,Int.pow_succ,fh];rw[Int.natCast_add,Int.natCast_mul];have:WV dB [(aT 0 y:Int)]=aT 0 y:=by simp[WV]
    rw[this];show ((aT 0 x:Int)*1000000000+aT 0 y)*dB^acc.length+WV dB acc=aT 0 x*(dB^acc.length*1000000000)+(WV dB acc+dB^acc.length*aT 0 y);grind,ho',hk 0 _ (by simp) (de hK)⟩
theorem Ws (C:BG M)(s:aM)(hl:s.length<1000000)(hD:(bV 45 s).all cS=true):∃v0,mD v0 (if preB 45 s then -(aT 0 (bV 45 s):Int) else (aT 0 (bV 45 s):Nat))/\cH M 193 [.str s] v0:=by
 have hcl:=Bj 45 s;obtain⟨v',hh,⟨v0,h0,ho⟩,hr⟩:=gA (M:=M) (f:=193) (ars:=[.str s]) (P:=fun v hh=>∃v0,mD v0 (if preB 45 s then -(aT 0 (bV 45 s):Int) else (aT 0 (bV 45 s):Nat))/\eZ v hh v0) (by rw[C.ft];exact Wa) (by simp) (by
  have main:∀(neg:Bool) (lo:List (Nat×AV)) (wr:List Nat) {Q:Ex->al->Prop},(∀e st,((e = .normal\/e = .ret)/\st.s.bA=[]/\∃vs,cU st.s [.cell 2 true (.p 1)]=some vs/\∃v0,mD v0 (if neg then -(aT 0 (bV 45 s):Int) else (aT 0 (bV 45 s):Nat))/\eZ (aQ vs) (if (aQ vs).top<=0 then [] else st.s.hp) v0)->Q e st) ->
   W M (.loop qU) ⟨⟨[.str (bV 45 s),.ptr 0 0,.bool neg,.ae],lo,[some (.cells [.bool false,.ae] 162)],[]⟩,wr⟩ (BQ 0 (SQ M (zR [zm 33 2,
    zm 34 3,
    zm 35 0,
    z1 36 192 35,
    ⟨(.l 37),.dT 3 1 1 [.iV (0)] [(0,1,(.l 36))],none⟩,
    ⟨(.l 38),.append 3 1 8 (.l 34) (.l 37),none⟩,
    z2 39 196 33 38,
    zs 2 1 39]
     (.ret)) Q)):=by
   intro neg lo wr Q hQ;refine Wr C (bV 45 s) hD (by omega) _ (fun t acc o K lo wr ht hDt oA hacc hv ho hK=>?_) _ _ _ rfl;have q192:=fun h=>C.mE t h (by omega) hDt
   have htlt:aT 0 t<1000000000:=by
    have h1:=qM t hDt;exact Nat.lt_of_lt_of_le h1 (Nat.le_trans (Nat.pow_le_pow_right (by decide) ht) (by decide))
   have hroom:(acc.length+1)*8<=dh:=by unfold dh;omega
   have hK1:=dQ hK;repeat' first|(refine bP.app (f:=iC) (m:=[(aT 0 t:Int)]) (S:=[0]) (fun _=>rfl) (fun _=>rfl) (by decide) (ho.grow [_]) (by simp) rfl rfl (Sl.ir (f:=iC) (esz:=1) (l:=[(aT 0 t:Int)]) (e:=3) (fun _=>rfl) cN rfl) hroom (fun H w' o' ho' hk hlen=>?_))|refine gd0 ?_|refine gc ?_|fail
   rcases ho' with ⟨h1,_⟩|⟨c,cp,hc0,rfl,hc,hcap⟩
   . simp at h1
   obtain rfl:cp=none:=hcap.resolve_right fun h=>by simp at h
   have oL:okW dB (acc++[(aT 0 t:Int)]):=iu oA (fun z hz=>by rw[List.mem_singleton.1 hz];exact⟨by omega,by show _<(1000000000:Int);omega⟩);have vL:WV dB (acc++[(aT 0 t:Int)])=(aT 0 (bV 45 s):Int):=by
    rw[hv,fh];have:WV dB [(aT 0 t:Int)]=aT 0 t:=by simp[WV]
    rw[this];grind
   have h0':H.at 0=some (.cells [.bool false,.ae] 162):=hk 0 _ (by simp) (de hK);have hcn:c≠0:=fun e=>hc0 (by simp[e])
   obtain⟨L,hL⟩:∃L,L=acc++[(aT 0 t:Int)]:=⟨_,rfl⟩;rw[←hL]at oL vL hc;have hLl:(acc++[(aT 0 t:Int)]).length=L.length:=by rw[hL]
   rw[hLl];have hLn:0<L.length/\L.length<1000001:=by rw[hL,List.length_append,List.length_singleton];omega
   have q196:=CT.run (fi:=[]) (ca:=[]) (ars:=[.bool neg,.sl c 0 L.length 1 none]) (C.qZ _ _) (IS (cap:=none) C.ft C.dr neg hc hLn.1 (Nat.le_refl _) (by omega) (fun _ h=>by cases h));obtain⟨v0,k0,o0⟩:=IU (K:=H.put 0 (some (.cells [.bool (neg && decide (0<aL (L.take L.length))),bl c (aL (L.take L.length)) none] 162))) (neg:=neg) (jR hcn hc) oL;rw[vL]at k0;have hone:cw (bl c (aL (L.take L.length)) none)=true:=by unfold bl;split <;> rfl
   repeat' first|(apply aaq;rfl;rfl;exact h0';exact⟨rfl,Nat.le_refl _,by rw[List.all_cons,List.all_cons,List.all_nil,hone];rfl⟩;rfl)|(apply aaC;rfl;rfl;first|exact q196)|refine gc ?_|fail
   refine hQ _ _ ⟨.inr rfl,rfl,_,pD rfl (gg (dQ h0')),v0,k0,o0⟩
  unfold IC;simp only[enter];cases hp:preB 45 s with
  | true=>
   obtain⟨h1,h2⟩:=Bk hp;have h1:s.drop (1:Int).toNat=bV 45 s:=h1;have e0:s[0]! = 45:=by
    have h:=of_decide_eq_true hp;cases s with
    | nil=>simp at h
    | cons c t=>simp at h;exact h
   have e45:((s[(0:Int).toNat]!).toNat:Int)=45:=by rw[show s[(0:Int).toNat]! = s[0]! from rfl,e0];rfl
   exact gg6
  | false=>
   have e1:=oC hp;rw[e1]at main;by_cases h0:s.length=0
   . exact gg4
   . have e45:((s[(0:Int).toNat]!).toNat:Int)≠45:=fun e=>by
      have h:=of_decide_eq_false hp;cases s with
      | nil=>exact h0 rfl
      | cons c t=>
       refine h (congrArg some (UInt8.toNat_inj.1 ?_));have e:((c.toNat:Nat):Int)=45:=e;have:(45:UInt8).toNat=45:=rfl;omega
     repeat' first|(apply aah;rfl;rfl)|(apply aak;rfl;rfl)|refine gc ?_|(intro _;omega)|intro _
     all_goals try omega
     all_goals exact main false _ _ (fun e st h=>by rw[e1];exact h))
 exact⟨v0,h0,v',hh,ho,hr⟩
theorem ra (x:AV){l:List Int}(h:bX x l):cw x=true/\x.top=0/\bx x=x:=by
 rcases h with rfl|⟨rfl,rfl⟩
 . exact⟨rfl,fz l,by rw[bx,oH]⟩
 . exact⟨rfl,rfl,rfl⟩
theorem bD.shape {v:AV}{z:Int}(h:bD v z):∃neg x l,v = .agg [.bool neg,x]/\bX x l/\cw x=true/\x.top=0/\bx x=x:=by
 obtain⟨neg,x,l,rfl,hx,_⟩:=h;obtain⟨h1,h2,h3⟩:=ra x hx;exact⟨neg,x,l,rfl,hx,h1,h2,h3⟩
theorem kc {n:Bool}{x:AV}(h:cw x=true):[AV.bool n,x].all cw=true:=by rw[List.all_cons,List.all_cons,List.all_nil,h];rfl
theorem Wt {s:aM}(h:mA s=true):s.take (cg s)=(bM 47 s).1/\s.drop (cg s+1)=(bM 47 s).2.getD []/\cg s+1<=s.length:=by
 unfold mA at h;obtain⟨y,hy⟩:=Option.isSome_iff_exists.1 h;have h1:=Ie hy;have h2:=Ig hy;have h3:=Bi hy;refine⟨h1,?_,by unfold cg;omega⟩;rw[hy];exact h2
theorem Wu (hft:M.FT=FT)(s:aM)(hl:s.length<1000000)(hb:mA s=true)(q153:∀h,M.ext 153 [.str s] h=some ⟨.iV (cg s),h,[]⟩){v1 v2:AV}{z1 z2:Int}(k1:bD v1 z1)(k2:bD v2 z2)(qa:∀h,M.ext 193 [.str (bM 47 s).1] h=some ⟨v1,h,[]⟩)(qb:∀h,M.ext 193 [.str ((bM 47 s).2.getD [])] h=some ⟨v2,h,[]⟩):cH M 135 [.str s] (.aq [v1,v2]):=by
 obtain⟨e1,e2,hk⟩:=Wt hb;obtain⟨n1,x1,l1,rfl,_,o1,t1,b1⟩:=k1.shape;obtain⟨n2,x2,l2,rfl,_,o2,t2,b2⟩:=k2.shape;have e1':s.take ((cg s:Nat):Int).toNat=(bM 47 s).1:=e1;have e2':s.drop ((cg s:Int)+1).toNat=(bM 47 s).2.getD []:=by rw[show ((cg s:Int)+1).toNat=cg s+1 by omega];exact e2
 generalize (bM 47 s).1=X at *
 generalize (bM 47 s).2.getD []=Y at *
 refine cI (by rw[hft];exact IB) (by simp) ?_;unfold Bw;simp only[enter];refine gg18 ?_;refine cA rfl rfl (.same ?_ ?_)
 . show max (max 0 (max x1.top 0)) (max (max 0 (max x2.top 0)) 0)=0;rw[t1,t2];rfl
 . show AV.aq [.agg [.bool n1,bx x1],.agg [.bool n2,bx x2]]=_;rw[b1,b2]
theorem IV (hft:M.FT=FT)(a b:List Int)(ha:okW dB a)(hb:okW dB b)(na:aN a)(nb:aN b)(la:a.length<1000000000)(_lb:b.length<1000000000) :
 aU M 218 [.vs (aj a) a.length c1,.vs (aj b) b.length c2] [] ⟨.iV (aW (WV dB a-WV dB b)),[],[]⟩:=by
 have hB:(1:Int)<dB:=by decide
 refine bO (by rw[hft];exact We) (by simp) ?_;by_cases hl:a.length=b.length
 . have loop:∀(r:Nat) lo a2 wr {Q:Ex->al->Prop},r<=a.length->a.drop r=b.drop r ->
    (∀lo wr z,z=aW (WV dB a-WV dB b)->∀a3,Q .ret ⟨⟨[.vs (aj a) a.length c1,.vs (aj b) b.length c2,.iV z,a3],lo,[],[]⟩,wr⟩) ->
    (aW (WV dB a-WV dB b)=0->∀lo wr,Q (.exit 0) ⟨⟨[.vs (aj a) a.length c1,.vs (aj b) b.length c2,a2,.iV (-1)],lo,[],[]⟩,wr⟩) ->
    W M (.loop oG) ⟨⟨[.vs (aj a) a.length c1,.vs (aj b) b.length c2,a2,.iV ((r:Int)-1)],lo,[],[]⟩,wr⟩ Q:=by
    intro r;induction r with
    | zero=>
     intro lo a2 wr Q hr hd h1 h2;rw[List.drop_zero,List.drop_zero]at hd;refine W.loop ?_;unfold oG;exact gg0
    | succ r ih=>
     intro lo a2 wr Q hr hd h1 h2;have er:((r+1:Nat):Int)-1=r:=by omega
     rw[er];have hai:a[((r:Int)).toNat]! = a[r]! := rfl;have hbi:b[((r:Int)).toNat]! = b[r]! := rfl;refine W.loop ?_;by_cases hlt:a[r]! < b[r]!
     . have:=ue hB ha hb (i:=r) (by omega) (by omega) hd hlt;rw[←hai,←hbi]at hlt;unfold oG;exact gg20
     . by_cases hgt:b[r]! < a[r]!
       . have:=ue hB hb ha (i:=r) (by omega) (by omega) hd.symm hgt;rw[←hai,←hbi]at hlt hgt;unfold oG;exact gg9
       . have hd2:a.drop r=b.drop r:=by
          rw[List.drop_eq_getElem_cons (show r<a.length by omega),List.drop_eq_getElem_cons (show r<b.length by omega),hd,←getElem!_pos a r,←getElem!_pos b r];exact congrArg (· :: _) (show a[r]! = b[r]! by omega)
         rw[←hai,←hbi]at hlt hgt;unfold oG;exact gg9
   unfold BA;simp only[enter];refine gg13 ?_;refine loop a.length _ _ _ (Nat.le_refl _) (by rw[List.drop_length,hl,List.drop_length]) (fun lo wr z hz a3=>?_) (fun hz lo wr=>?_)
   . subst hz;exact gg0
   . rw[hz];exact gg0
 . unfold BA;simp only[enter];by_cases hlt:a.length<b.length
   . have:=mq hB ha hb nb hlt;rw[show aW (WV dB a-WV dB b) = -1 by rw[aW,if_pos (by omega)]];repeat' first|(apply aab;rfl;rfl)|(apply aaF;rfl;rfl)|refine gc ?_|(intro _;omega)|intro _
     all_goals first|contradiction|(omega)|skip
     all_goals exact⟨.inr rfl,rfl,_,rfl,rfl,rfl⟩
   . have:=mq hB hb ha na (by omega);rw[show aW (WV dB a-WV dB b)=1 by rw[aW,if_neg (by omega),if_pos (by omega)]];repeat' first|(apply aab;rfl;rfl)|(apply aaF;rfl;rfl)|refine gc ?_|(intro _;omega)|intro _
     all_goals first|contradiction|(omega)|skip
     all_goals exact⟨.inr rfl,rfl,_,rfl,rfl,rfl⟩
theorem Wv (a:List Int)(oa:okW dB a)(la:a.length<10000000)(d:Int)(hd:0<d/\d<=1000000000){Q:Ex->al->Prop}(a2 a3:AV)
 (hQ:∀L (re:Int) a7 lo wr,L.length=a.length->okW dB L->(0<=re/\re<d)->WV dB a=d*WV dB L+re ->
   Q (.exit 0) ⟨⟨[.vs (aj a) a.length c1,.iV d,a2,a3,.sl 0 0 a.length 1 (some a.length),.iV re,.iV (-1),a7],lo,[some (.cells (aj L) 3)],[]⟩,wr⟩) (a7:AV) (lo:List (Nat×AV)) :
 W M (.loop vj) ⟨⟨[.vs (aj a) a.length c1,.iV d,a2,a3,.sl 0 0 a.length 1 (some a.length),.iV 0,.iV ((a.length:Int)-1),a7],lo,[some (.cells (aj (List.replicate a.length 0)) 3)],[]⟩,[]⟩ Q:=by
 refine W.fH (fun t s=>∃L re iv a7 lo wr,s=⟨⟨[.vs (aj a) a.length c1,.iV d,a2,a3,.sl 0 0 a.length 1 (some a.length),.iV re,.iV iv,a7],lo,[some (.cells (aj L) 3)],[]⟩,wr⟩ /\
  iv=(t:Int)-1/\t<=a.length/\L.length=a.length/\okW dB L/\(0<=re/\re<d)/\(∀k,k<t->L[k]! = 0)/\WV dB a=d*WV dB L+dB^t*re+WV dB (a.take t)) (fun t s ⟨L,re,iv,a7,lo,wr,hs,hiv,ht,hL,oL,hre,hz,hv⟩=>?_) (m:=a.length)
  ⟨_,_,_,_,_,_,rfl,rfl,Nat.le_refl _,by simp,jv (by decide),⟨by decide,hd.1⟩,fun k _=>jz,by rw[jx,List.take_length];simp⟩
 subst hs;cases t with
 | zero=>
  obtain rfl:iv = -1:=by omega
  unfold vj;exact gg0
 | succ i=>
  obtain rfl:iv=(i:Int):=by omega
  have gx:=bL oa (i:=i) (by omega);obtain⟨x,hx⟩:∃x,x=a[((i:Int)).toNat]! := ⟨_,rfl⟩;rw[show a[i]! = x from hx.symm]at gx;have gx:0<=x/\x<1000000000:=gx;have e1:=Int.mul_ediv_add_emod (re*1000000000+x) d;have r0:=Int.emod_nonneg (re*1000000000+x) (show d≠0 by omega);have r1:=Int.emod_lt_of_pos (re*1000000000+x) hd.1;have d0:0<=(re*1000000000+x)/d:=Int.ediv_nonneg (by omega) (by omega);have d1:(re*1000000000+x)/d<1000000000:=Int.ediv_lt_of_lt_mul hd.1 (by omega);have eI:0+((i:Int)).toNat*1=i:=by omega
  obtain⟨q,hq⟩:∃q,q=(re*1000000000+x)/d:=⟨_,rfl⟩;obtain⟨r,hr⟩:∃r,r=(re*1000000000+x)%d:=⟨_,rfl⟩;have next:∀a7 lo wr,LI (fun s=>∃m',m'<i+1/\∃L re iv a7 lo wr,s=⟨⟨[.vs (aj a) a.length c1,.iV d,a2,a3,.sl 0 0 a.length 1 (some a.length),.iV re,.iV iv,a7],lo,[some (.cells (aj L) 3)],[]⟩,wr⟩ /\
   iv=(m':Int)-1/\m'<=a.length/\L.length=a.length/\okW dB L/\(0<=re/\re<d)/\(∀k,k<m'->L[k]! = 0)/\WV dB a=d*WV dB L+dB^m'*re+WV dB (a.take m')) Q .normal ⟨⟨[.vs (aj a) a.length c1,.iV d,a2,a3,.sl 0 0 a.length 1 (some a.length),.iV r,.iV ((i:Int)-1),a7],lo,[some (.cells (aj (L.set i q)) 3)],[]⟩,wr⟩:=fun a7 lo wr=>
   cL ⟨i,Nat.lt_succ_self i,_,_,_,a7,lo,wr,rfl,rfl,by omega,by rw[List.length_set];exact hL,fx oL ⟨by rw[hq];exact d0,by rw[hq];exact d1⟩,by rw[hr];exact⟨r0,r1⟩,fun k hk=>by rw[fR (by omega)];exact hz k (by omega),by
    rw[hv,fy (by omega),hz i (by omega),eu (by omega),show a[i]! = x from hx.symm,Int.pow_succ,Int.sub_zero];rw[←hq,←hr]at e1;have e2:dB^i*dB*re+dB^i*x=dB^i*(d*q+r):=by rw[e1];show dB^i*1000000000*re+_=_;grind
    rw[Int.mul_add]at e2 ⊢;have e3:d*(dB^i*q)=dB^i*(d*q):=by grind
    rw[e3];omega⟩
  rw[hq,hr,hx]at next
  rw[hx]at gx;have hre2:re<1000000000:=by omega
  unfold vj;exact gg20
section
variable {t b m:Nat} {x y:ax} {l:List aO} {pe:List AV} {lo:List (Nat×AV)} {hp:ab} {df wr:List Nat} {L:List Int} {e:TypeId} {v a d:Int} {Q:al->Prop}
theorem abv (hx:(St.mk pe lo hp df).aa x=some (.iV a))(hy:(St.mk pe lo hp df).aa y=some (.iV d))(ha:0<=a/\a<9223372036854775808)(hd:0<d)
 (h:WO M l ⟨⟨pe,(t,.iV (a/d))::lo,hp,df⟩,wr⟩ Q):WO M (⟨.l t,.bin .quo x y,none⟩::l) ⟨⟨pe,lo,hp,df⟩,wr⟩ Q:=by
 refine abj hx hy hd (by omega) ?_;rw[Int.tdiv_eq_ediv_of_nonneg ha.1];exact h
theorem abN (hx:(St.mk pe lo hp df).aa x=some (.iV a))(hy:(St.mk pe lo hp df).aa y=some (.iV d))(ha:0<=a)(hd:0<d)
 (h:WO M l ⟨⟨pe,(t,.iV (a%d))::lo,hp,df⟩,wr⟩ Q):WO M (⟨.l t,.bin .rem x y,none⟩::l) ⟨⟨pe,lo,hp,df⟩,wr⟩ Q:=by
 refine abk hx hy (by omega) ?_;rw[Int.tmod_eq_emod_of_nonneg ha];exact h
theorem abM (hx:(St.mk pe lo hp df).aa x=some (.ptr b m))(hb:hp.at b=some (.cells (aj L) e))(hi:m<L.length)(hv:L[m]! = v)
 (h:WO M l ⟨⟨pe,(t,.iV v)::lo,hp,df⟩,wr⟩ Q):WO M (⟨.l t,.load 1 false x,none⟩::l) ⟨⟨pe,lo,hp,df⟩,wr⟩ Q:=by
 subst hv;exact abD hx hb hi h
end
def jD (v:AV)(hh:ab)(r:List Int)(z:Int):Prop:=∃v1,iB hh v v1/\v1.top=0/\bI v1 = .aq [.vs (aj r) r.length none,.iV z]
theorem jD.trim {b:Nat}{L:List Int}{e:TypeId}{hp:ab}{n:Nat}{z:Int}(hb:hp.at b=some (.cells (aj L) e))(hn:n<=L.length):jD (aQ [bl b (aL (L.take n)) cap,.iV z]) (if (aQ [bl b (aL (L.take n)) cap,.iV z]).top<=0 then [] else hp) (L.take (aL (L.take n))) z:=by
 have hle:=gK (l:=L.take n);rw[List.length_take]at hle;obtain⟨k,hk⟩:∃k,k=aL (L.take n):=⟨_,rfl⟩;rw[←hk]at hle ⊢;by_cases h0:0<k
 . have e1:bl b k cap = .sl b 0 k 1 cap:=if_pos h0;rw[e1,if_neg (by simp[aQ,AV.top,aY])];have hl:(L.take k).length=k:=by rw[List.length_take];omega
   have hF:Fr hp [b] (.sl b 0 k 1 cap) (.vs (aj (L.take k)) k none):=by
    refine .sl (m:=aj (L.take k)) (List.mem_singleton.2 rfl) hb ?_ rfl (fun i x y hx hy=>?_) (.inr rfl)
    . have:=jQ (f:=iC) (esz:=1) (fun _=>rfl) (l:=L) (i:=0) (n:=k) (by omega);simpa using this
    . rw[hx]at hy;cases hy;exact .same (bZ (fz _) hx)
   unfold jD;rw[hl];refine⟨.aq [.vs (aj (L.take k)) k none,.iV z],⟨[b],.aq rfl (fun i x y hx hy=>?_),rfl,fun c l' e' hc hl'=>?_⟩,by simp[AV.top,aY,fz],by simp only[bI,dx,BC]⟩
   . match i with
     | 0=>cases hx;cases hy;exact hF
     | 1=>cases hx;cases hy;exact .same rfl
     | i+2=>cases hx
   . rw[List.mem_singleton.1 hc,hb]at hl';cases hl';exact lT (fun _=>rfl) _
 . obtain rfl:k=0:=by omega
   exact⟨.aq [.vs [] 0 cap,.iV z],.same rfl rfl,rfl,rfl⟩
theorem jD.zero {b:Nat}{e:TypeId}{hp:ab}{z:Int}(hb:hp.at b=some (.cells (aj []) e)):jD (aQ [.sl b 0 0 1 cap,.iV z]) (if (aQ [.sl b 0 0 1 cap,.iV z]).top<=0 then [] else hp) [] z:=by
 rw[if_neg (by simp[aQ,AV.top,aY])];refine⟨.aq [.vs [] 0 none,.iV z],⟨[b],.aq rfl (fun i x y hx hy=>?_),rfl,fun c l' e' hc hl'=>?_⟩,rfl,rfl⟩
 . match i with
   | 0=>cases hx;cases hy;exact .sl (m:=[]) (List.mem_singleton.2 rfl) hb rfl rfl (fun i x y hx=>by simp at hx) (.inr rfl)
   | 1=>cases hx;cases hy;exact .same rfl
   | i+2=>cases hx
 . rw[List.mem_singleton.1 hc,hb]at hl';cases hl';rfl
theorem BH (hft:M.FT=FT){b:Nat}{L:List Int}{e:TypeId}{hp:ab}(hb:hp.at b=some (.cells (aj L) e)):aU M 242 [.sl b 0 0 1 cap] hp ⟨.sl b 0 0 1 cap,hp,[]⟩:=by
 have hbl:=dQ hb;refine kD (by rw[hft];exact uY) (by simp) (by simp[AV.top];omega) ?_;unfold qW;simp only[enter];repeat' first|refine gc ?_|fail
 refine W.loop ?_;unfold iE;exact gg4
def IW (M:ao)(g:Nat)(ars:List AV)(x y:Int):Prop:=∃q:List Int,(okW dB q/\aN q/\WV dB q=x/y)/\∃v hh,jD v hh q (x%y)/\aU M g ars [] ⟨v,hh,[]⟩
theorem Ww {f N:Nat}{az:List Nat}{res:List fc}{body:an}{ars:List AV}{x y:Int}(hft:M.FT f=some ⟨N,az,res,body⟩)(hN:ars.length<=N)
 (h:W M body ⟨⟨az.map (fun t=>(ars[t]?).getD bJ),[],[],[]⟩,[]⟩ fun e s=>(e = .normal\/e = .ret)/\s.s.bA=[]/\∃vs,cU s.s res=some vs/\∃q:List Int,(okW dB q/\aN q/\WV dB q=x/y)/\jD (aQ vs) (if (aQ vs).top<=0 then [] else s.s.hp) q (x%y)):IW M f ars x y:=by
 obtain⟨v,hh,⟨q,hq,ho⟩,h2⟩:=gA (P:=fun v hh=>∃q:List Int,(okW dB q/\aN q/\WV dB q=x/y)/\jD v hh q (x%y)) hft hN h;exact⟨q,hq,v,hh,ho,h2⟩
theorem Wx (hft:M.FT=FT)(dr:∀ars h,M.ext 242 ars h=none)(a:List Int)(oa:okW dB a)(la:a.length<10000000)(d:Int)(hd:0<d/\d<=1000000000):IW M 241 [.vs (aj a) a.length c1,.iV d] (WV dB a) d:=by
 refine Ww (by rw[hft];exact Wf) (by simp) ?_;unfold IH;simp only[enter];repeat' first|refine gc ?_|fail
 rw[show ((a.length:Int)).toNat=a.length from rfl];refine Wv a oa la d hd _ _ (fun L re a7 lo wr hL oL hre hv=>?_) _ _;obtain⟨d1,d2⟩:=mu hv hre.1 hre.2;obtain⟨g1,g2,g3⟩:=mB oL;by_cases h0:a.length=0
 . have hL0:L=[]:=List.eq_nil_of_length_eq_zero (by omega);subst hL0;have hl0:a.length=0:=h0;have q0:CT M (iY 242) [.sl 0 0 a.length 1 (some a.length)] [some (.cells (aj []) 3)] ⟨.sl 0 0 a.length 1 (some a.length),[some (.cells (aj []) 3)],[]⟩:=by
    rw[hl0];exact CT.run (fi:=[]) (ca:=[]) (dr _ _) (BH hft rfl)
   repeat' first|(apply aaC;rfl;rfl;first|exact q0)|refine gc ?_|fail
   have hout:=jD.zero (cap:=some a.length) (e:=3) (hp:=[some (.cells (aj []) 3)]) (b:=0) (z:=re) rfl;refine⟨.inr rfl,rfl,_,rfl,[],⟨gH,iK,d1⟩,?_⟩;rw[←d2,hl0];rw[hl0]at hout;exact hout
 . have q1:CT M (iY 242) [.sl 0 0 a.length 1 (some a.length)] [some (.cells (aj L) 3)] ⟨bl 0 (aL (L.take a.length)) (some a.length),[some (.cells (aj L) 3)],[]⟩:=mC (cap:=some a.length) hft dr rfl (by omega) (by omega) (by omega) (fun c hc=>by cases hc;exact Nat.le_refl _);repeat' first|(apply aaC;rfl;rfl;first|exact q1)|refine gc ?_|fail
   have hout:=jD.trim (cap:=some a.length) (b:=0) (L:=L) (e:=3) (hp:=[some (.cells (aj L) 3)]) (n:=a.length) (z:=re) rfl (by omega);refine⟨.inr rfl,rfl,_,rfl,L.take (aL (L.take a.length)),?_,?_⟩
   . rw[List.take_of_length_le (show L.length<=a.length by omega)];exact⟨g1,g2,by rw[g3,d1]⟩
   . rw[←d2];exact hout
theorem IX {x y:Int}(hx:0<=x/\x<1000000000)(hy:0<=y/\y<1000000000):0<=x*y/\x*y<=999999998000000001:=by
 refine⟨Int.mul_nonneg hx.1 hy.1,?_⟩;have:=Int.mul_le_mul (a:=x) (b:=y) (c:=999999999) (d:=999999999) (by omega) (by omega) hy.1 (by omega);omega
theorem Wy (a b:List Int)(hb:okW dB b)(la:a.length<10000000)(lb:b.length<10000000)(i:Nat)(hi:i<a.length)(x P:Int)(hx:0<=x/\x<1000000000)(hax:a[((i:Int)).toNat]! = x){Q:Ex->al->Prop}(a2 a7:AV)(lo:List (Nat×AV))(wr:List Nat)(L:List Int)(hl:L.length=a.length+b.length)(ba:okW dB L)(hz:∀k,i+b.length<=k->L[k]! = 0)(hP:WV dB L=P)
 (hQ:∀L (c:Int) a7 lo wr,L.length=a.length+b.length->okW dB L->(0<=c/\c<1000000000)->(∀k,i+b.length<=k->L[k]! = 0)->WV dB L+dB^(i+b.length)*c=P+dB^i*x*WV dB b ->
   Q (.exit 2) ⟨⟨[.vs (aj a) a.length c1,.vs (aj b) b.length c2,a2,.sl 0 0 (a.length+b.length) 1 (some (a.length+b.length)),.iV i,.iV c,.iV b.length,a7],lo,[some (.cells (aj L) 3)],[]⟩,wr⟩) :
 W M (.loop vh) ⟨⟨[.vs (aj a) a.length c1,.vs (aj b) b.length c2,a2,.sl 0 0 (a.length+b.length) 1 (some (a.length+b.length)),.iV i,.iV 0,.iV 0,a7],lo,[some (.cells (aj L) 3)],[]⟩,wr⟩ Q:=by
 subst hax;refine W.gB b.length (fun j s=>∃L c a7 lo wr,s=⟨⟨[.vs (aj a) a.length c1,.vs (aj b) b.length c2,a2,.sl 0 0 (a.length+b.length) 1 (some (a.length+b.length)),.iV i,.iV c,.iV j,a7],lo,[some (.cells (aj L) 3)],[]⟩,wr⟩ /\
  L.length=a.length+b.length/\okW dB L/\(0<=c/\c<1000000000)/\(∀k,i+b.length<=k->L[k]! = 0)/\WV dB L+dB^(i+j)*c=P+dB^i*a[((i:Int)).toNat]! * WV dB (b.take j)) (fun j s hj ⟨L,c,a7,lo,wr,hs,hl,ba,hc,hz,hv⟩=>?_) (fun s ⟨L,c,a7,lo,wr,hs,hl,ba,hc,hz,hv⟩=>?_) (Nat.zero_le _)
  ⟨_,_,_,_,_,rfl,hl,ba,⟨by decide,by decide⟩,hz,by rw[hP];simp[WV]⟩
 . subst hs;have gy:=bL hb hj;rw[show b[j]! = b[((j:Int)).toNat]! from rfl]at gy;obtain⟨y,hy⟩:∃y,y=b[((j:Int)).toNat]! := ⟨_,rfl⟩;rw[←hy]at gy;have gy:0<=y/\y<1000000000:=gy;have hm:=IX hx gy;obtain⟨m,hmm⟩:∃m,m=a[((i:Int)).toNat]! * y:=⟨_,rfl⟩;rw[←hmm]at hm;have gL:=bL ba (i:=i+j) (by omega);obtain⟨w,hw⟩:∃w,w=L[i+j]! := ⟨_,rfl⟩;rw[←hw]at gL;have gL:0<=w/\w<1000000000:=gL;obtain⟨R,hR⟩:∃R,R=(w+m+c)%1000000000:=⟨_,rfl⟩;obtain⟨D,hD⟩:∃D,D=(w+m+c)/1000000000:=⟨_,rfl⟩;have hD2:(0<=D/\D<1000000000)/\w+m+c=R+1000000000*D/\(0<=R/\R<1000000000):=by omega
   have eI:0+(((i:Int)+(j:Int))).toNat*1=i+j:=by omega
   have next:∀a7 lo wr,LI (fun s=>∃L c a7 lo wr,s=⟨⟨[.vs (aj a) a.length c1,.vs (aj b) b.length c2,a2,.sl 0 0 (a.length+b.length) 1 (some (a.length+b.length)),.iV i,.iV c,.iV ((j+1:Nat):Int),a7],lo,[some (.cells (aj L) 3)],[]⟩,wr⟩ /\
    L.length=a.length+b.length/\okW dB L/\(0<=c/\c<1000000000)/\(∀k,i+b.length<=k->L[k]! = 0)/\WV dB L+dB^(i+(j+1))*c=P+dB^i*a[((i:Int)).toNat]! * WV dB (b.take (j+1))) Q .normal ⟨⟨[.vs (aj a) a.length c1,.vs (aj b) b.length c2,a2,.sl 0 0 (a.length+b.length) 1 (some (a.length+b.length)),.iV i,.iV D,.iV ((j:Int)+1),a7],lo,[some (.cells (aj (L.set (i+j) R)) 3)],[]⟩,wr⟩:=fun a7 lo wr=>
    cL ⟨_,_,a7,lo,wr,rfl,by rw[List.length_set];exact hl,fx ba hD2.2.2,hD2.1,fun k hk=>by rw[fR (by omega)];exact hz k hk,by
     rw[fy (by omega),←hw,eu hj,show i+(j+1)=(i+j)+1 from rfl,Int.pow_succ,show b[j]! = y from hy.symm];have e:=hD2.2.1;rw[hmm]at e;have e2:dB^(i+j)*(R-w)+dB^(i+j)*1000000000*D=dB^(i+j)*(a[((i:Int)).toNat]! * y+c):=by
      have:a[((i:Int)).toNat]! * y+c=R-w+1000000000*D:=by omega
      rw[this,Int.mul_add,Int.mul_assoc]
     have e3:dB^(i+j)=dB^i*dB^j:=Int.pow_add _ _ _;show WV dB L+dB^(i+j)*(R-w)+dB^(i+j)*1000000000*D=P+dB^i*a[((i:Int)).toNat]! * (WV dB (b.take j)+dB^j*y);generalize a[((i:Int)).toNat]! = x at *
     rw[Int.add_assoc,e2,Int.mul_add,←Int.add_assoc,Int.add_right_comm,hv];rw[e3];grind⟩
   rw[hD,hR,hmm]at next
   rw[hmm]at hm;rw[hy]at next hm gy
   unfold vh;exact gg20
 . subst hs;rw[List.take_length]at hv;unfold vh;exact gg1
theorem IY (hft:M.FT=FT)(dr:∀ars h,M.ext 242 ars h=none)(a b:List Int)(ha:okW dB a)(hb:okW dB b)(la:a.length<10000000)(lb:b.length<10000000)(h0:0<a.length+b.length):vk M 197 [.vs (aj a) a.length c1,.vs (aj b) b.length c2] (WV dB a*WV dB b):=by
 refine BD (by rw[hft];exact IG) (by simp) ?_;unfold BB;simp only[enter];repeat' first|refine gc ?_|fail
 have e0:((a.length:Int)+(b.length:Int)).toNat=a.length+b.length:=by omega
 rw[e0];refine W.gB a.length (fun i s=>∃L a5 a6 a7 lo wr,s=⟨⟨[.vs (aj a) a.length c1,.vs (aj b) b.length c2,.ae,.sl 0 0 (a.length+b.length) 1 (some (a.length+b.length)),.iV i,a5,a6,a7],lo,[some (.cells (aj L) 3)],[]⟩,wr⟩ /\
  L.length=a.length+b.length/\okW dB L/\(∀k,i+b.length<=k->L[k]! = 0)/\WV dB L=WV dB (a.take i)*WV dB b) (fun i s hi ⟨L,a5,a6,a7,lo,wr,hs,hl,ba,hz,hv⟩=>?_) (fun s ⟨L,a5,a6,a7,lo,wr,hs,hl,ba,hz,hv⟩=>?_) (Nat.zero_le _)
  ⟨List.replicate (a.length+b.length) 0,_,_,_,_,_,rfl,by simp,jv (by decide),fun k _=>jz,by rw[jx];simp[WV]⟩
 . subst hs;have gx:=bL ha hi;rw[show a[i]! = a[((i:Int)).toNat]! from rfl]at gx;have eI:0+(((i:Int)+(b.length:Int))).toNat*1=i+b.length:=by omega
   unfold vi;refine gg5 ?_;refine Wy (c1:=c1) (c2:=c2) a b hb la lb i hi a[((i:Int)).toNat]! _ gx rfl _ _ _ _ L hl ba hz hv (fun L2 c a7 lo wr h1 h2 h3 h4 h5=>?_);have h4':=h4 _ (Nat.le_refl _);have g0:=bL h2 (i:=i+b.length) (by omega);repeat' first|(apply abM (v:=0);exact congrArg (fun z=>some (AV.ptr 0 z)) eI;rfl;omega;exact h4')|(apply abu;exact congrArg (fun z=>some (AV.ptr 0 z)) eI;rfl;rfl;omega)|refine gc ?_|fail
   all_goals try omega
   refine cL ⟨L2.set (i+b.length) (0+c),_,_,_,_,_,rfl,by rw[List.length_set];exact h1,fx h2 (by rw[Int.zero_add];exact h3),fun k hk=>by rw[fR (by omega)];exact h4 k (by omega),?_⟩;rw[fy (by omega),h4',Int.sub_zero,Int.zero_add,h5,eu hi];show _=(WV dB (a.take i)+dB^i*a[i]!)*WV dB b;rw[Int.add_mul];rfl
 . subst hs;rw[List.take_length]at hv;have q:=mC (cap:=some (a.length+b.length)) (b:=0) (n:=a.length+b.length) (L:=L) (e:=3) (hp:=[some (.cells (aj L) 3)]) hft dr rfl (by omega) (by omega) (by omega) (fun c hc=>by cases hc;exact Nat.le_refl _);rw[List.take_of_length_le (by omega)]at q;unfold vi;refine gg5 ?_;refine⟨.inr rfl,rfl,_,rfl,L.take (aL L),?_,?_⟩
   . obtain⟨g1,g2,g3⟩:=mB ba;exact⟨g1,g2,by rw[g3,hv]⟩
   . have:=fD.trim (cap:=some (a.length+b.length)) (b:=0) (L:=L) (e:=3) (hp:=[some (.cells (aj L) 3)]) (n:=a.length+b.length) rfl (by omega);rw[List.take_of_length_le (by omega)]at this;exact this
end Go.Ab.Ch1

/-
  Own work: Knuth's division to the base 10^9: the guess of a digit is at most one too great.
-/
namespace Go.Ab.aR
structure gC (t2 t1 t0 v1 v0 T V p:Int):Prop where
 h2:0<=t2
 h1:0<=t1/\t1<1000000000
 h0:0<=t0/\t0<1000000000
 w1:500000000<=v1/\v1<1000000000
 w0:0<=v0/\v0<1000000000
 hp:1<=p
 lo:((t2*1000000000+t1)*1000000000+t0)*p<=T
 hi:T<((t2*1000000000+t1)*1000000000+t0+1)*p
 nW:(v1*1000000000+v0)*p<=V
 qu:V<(v1*1000000000+v0+1)*p
 hT:T<1000000000*V
structure gM (t2 t1 v1 T V q r:Int):Prop where
 q0:0<=q/\q<=1000000001
 r0:0<=r
 e:q*v1+r=t2*1000000000+t1
 ge:T<(q+1)*V
variable {t2 t1 t0 v1 v0 T V p q r:Int}
theorem gC.top (C:gC t2 t1 t0 v1 v0 T V p):t2<=v1:=by
 have h1:=C.h1;have h0:=C.h0;have w0:=C.w0;have a1:((t2*1000000000+t1)*1000000000+t0)*p<(1000000000*(v1*1000000000+v0+1))*p:=by
  have:=C.lo;have:=C.hT;have:=C.qu;rw[Int.mul_assoc 1000000000];omega
 have a2:=Int.lt_of_mul_lt_mul_right a1 (by have:=C.hp;omega);omega
theorem gC.geq (C:gC t2 t1 t0 v1 v0 T V p)(h0:0<=q)(h:(t2*1000000000+t1)*1000000000+t0+1<=q*(v1*1000000000+v0)):T<q*V:=by
 have hp:=C.hp;have a1:=Int.mul_le_mul_of_nonneg_right h (show 0<=p by omega);have a2:=Int.mul_le_mul_of_nonneg_left C.nW h0;rw[←Int.mul_assoc]at a2;have:=C.hi;omega
theorem gM.qD (I:gM t2 t1 v1 T V q r):q*(v1*1000000000+v0)=(t2*1000000000+t1-r)*1000000000+q*v0:=by
 have e:=I.e;have:t2*1000000000+t1-r=q*v1:=by omega
 rw[this,Int.mul_add,Int.mul_assoc]
theorem gM.init (C:gC t2 t1 t0 v1 v0 T V p):gM t2 t1 v1 T V ((t2*1000000000+t1)/v1) ((t2*1000000000+t1)%v1):=by
 have h2:=C.h2;have h1:=C.h1;have w1:=C.w1;have h0:=C.h0;have w0:=C.w0;have ht:=C.top;have q0:0<=(t2*1000000000+t1)/v1:=Int.ediv_nonneg (by omega) (by omega);have q1:(t2*1000000000+t1)/v1<1000000002:=Int.ediv_lt_of_lt_mul (by omega) (by omega);have e:=Int.mul_ediv_add_emod (t2*1000000000+t1) v1;have r0:=Int.emod_nonneg (t2*1000000000+t1) (show v1≠0 by omega);have r1:=Int.emod_lt_of_pos (t2*1000000000+t1) (show 0<v1 by omega);rw[Int.mul_comm]at e;refine⟨⟨q0,by omega⟩,r0,e,C.geq (by omega) ?_⟩;generalize (t2*1000000000+t1)/v1=q at *
 generalize (t2*1000000000+t1)%v1=r at *
 have a1:(q+1)*(v1*1000000000+v0)=(q*v1+v1)*1000000000+(q+1)*v0:=by grind
 have a2:0<=(q+1)*v0:=Int.mul_nonneg (by omega) w0.1;rw[a1];generalize q*v1=z at *
 generalize (q+1)*v0=y at *
 omega
theorem gC.V0 (C:gC t2 t1 t0 v1 v0 T V p):0<V:=by
 have:=C.w1;have:=C.w0;have:=C.nW;have:=Int.mul_pos (show 0<v1*1000000000+v0 by omega) (show 0<p by have:=C.hp;omega);omega
theorem gM.dec (C:gC t2 t1 t0 v1 v0 T V p)(I:gM t2 t1 v1 T V q r)(h:1000000000<=q\/r*1000000000+t0<q*v0):gM t2 t1 v1 T V (q-1) (r+v1):=by
 have w1:=C.w1;have q0:=I.q0;have r0:=I.r0;have h0:=C.h0;have q1:0<q:=by
  rcases Int.lt_or_le 0 q with h'|h'
  . exact h'
  . obtain rfl:q=0:=by omega
    omega
 refine⟨by omega,by omega,by have:=I.e;rw[Int.sub_mul];omega,?_⟩;rw[Int.sub_add_cancel];rcases h with h|h
 . have hT:=C.hT;have:=Int.mul_le_mul_of_nonneg_right h (Int.le_of_lt C.V0);omega
 . refine C.geq (by omega) ?_;rw[I.qD];omega
theorem gM.exit (C:gC t2 t1 t0 v1 v0 T V p)(I:gM t2 t1 v1 T V q r)(hq:q<1000000000)(h:q*v0<=r*1000000000+t0):(q-1)*V<=T:=by
 have w1:=C.w1;have q0:=I.q0;have r0:=I.r0;have w0:=C.w0;have hp:=C.hp;have a1:q*(v1*1000000000+v0)<=(t2*1000000000+t1)*1000000000+t0:=by rw[I.qD];omega
 have a2:=Int.mul_le_mul_of_nonneg_right a1 (show 0<=p by omega);have a3:=Int.mul_le_mul_of_nonneg_left (Int.le_of_lt C.qu) q0.1;have a4:q*((v1*1000000000+v0+1)*p)=q*(v1*1000000000+v0)*p+q*p:=by grind
 have a5:=Int.mul_le_mul_of_nonneg_right (show q<=1000000000 by omega) (show 0<=p by omega);have a6:=Int.mul_le_mul_of_nonneg_right (show 1000000000<=v1*1000000000+v0 by omega) (show 0<=p by omega);have a7:=C.nW;have a8:=C.lo;rw[Int.sub_mul,Int.one_mul];omega
theorem gM.kO (C:gC t2 t1 t0 v1 v0 T V p)(I:gM t2 t1 v1 T V q r)(h:1000000000<=r):q<1000000000/\(q-1)*V<=T:=by
 have q0:=I.q0;have w0:=C.w0;have h0:=C.h0;have w1:=C.w1;have h1:=C.h1;have ht:=C.top;have hq:q<1000000000:=by
  rcases Int.lt_or_le q 1000000000 with h'|h'
  . exact h'
  . have a:=Int.mul_le_mul_of_nonneg_right h' (show 0<=v1 by omega);have e:=I.e;omega
 refine⟨hq,I.exit C hq ?_⟩;have h3:=Int.mul_le_mul (a:=q) (b:=v0) (c:=999999999) (d:=999999999) (by omega) (by omega) w0.1 (by omega);omega
theorem gC.of {X V:List Int}{n:Nat}(hX:X.length=n+3)(hV:V.length=n+2)(oX:okW 1000000000 X)(oV:okW 1000000000 V)(hv:500000000<=V[n+1]!)(hT:WV 1000000000 X<1000000000*WV 1000000000 V) :
 gC X[n+2]! X[n+1]! X[n]! V[n+1]! V[n]! (WV 1000000000 X) (WV 1000000000 V) (1000000000^n):=by
 have x2:=bL oX (i:=n+2) (by omega);have x1:=bL oX (i:=n+1) (by omega);have x0:=bL oX (i:=n) (by omega);have v1:=bL oV (i:=n+1) (by omega);have v0:=bL oV (i:=n) (by omega);have eX:WV 1000000000 X=WV 1000000000 (X.take n)+((X[n+2]! * 1000000000+X[n+1]!)*1000000000+X[n]!)*1000000000^n:=by
  rw[iT (n:=n+2) (by omega),eu (by omega),eu (by omega),Int.pow_succ,Int.pow_succ];grind
 have eV:WV 1000000000 V=WV 1000000000 (V.take n)+(V[n+1]! * 1000000000+V[n]!)*1000000000^n:=by
  rw[iT (n:=n+1) (by omega),eu (by omega),Int.pow_succ];grind
 have lX:=cR (b:=1000000000) (by decide) (cY oX n);have lV:=cR (b:=1000000000) (by decide) (cY oV n);have pX:=bT (b:=1000000000) (by decide) (cY oX n);have pV:=bT (b:=1000000000) (by decide) (cY oV n);rw[List.length_take,Nat.min_eq_left (by omega)]at lX lV;have hp:(0:Int)<1000000000^n:=Int.pow_pos (by decide);refine⟨x2.1,x1,x0,⟨hv,v1.2⟩,v0,by omega,by omega,?_,by omega,?_,hT⟩
 . rw[Int.add_mul _ 1,Int.one_mul];omega
 . rw[Int.add_mul _ 1,Int.one_mul];omega
end Go.Ab.aR

/-
  Own work: the reference's integers: the guess of a digit.
-/
namespace Go.Ab.Ch1
open Go.Ab.aR
variable {M:ao} {cap c1 c2:Option Nat}
theorem aaM {t m m':Nat}{x:ax}{l:List aO}{pe:List AV}{lo:List (Nat×AV)}{hp:ab}{df wr:List Nat}{L:List Int}{v:Int}{Q:al->Prop}(hx:(St.mk pe lo hp df).aa x=some (.vp ((aj L).drop (m'*1))))(hm:m'=m)(hi:m<L.length)(hv:L[m]! = v)
 (h:WO M l ⟨⟨pe,(t,.iV v)::lo,hp,df⟩,wr⟩ Q):WO M (⟨.l t,.load 1 false x,none⟩::l) ⟨⟨pe,lo,hp,df⟩,wr⟩ Q:=by
 subst hm;subst hv;exact abT (f:=iC) (esz:=1) (c:=L) (i:=m') hx (fun _=>rfl) hi (by decide) rfl h
variable {k j:Nat} {U V:List Int}
theorem Wz (hV:V.length=k+2)(hU:j+k+2<U.length)(lU:U.length<100000000){t2 t1 t0 v1 v0 T D p:Int}(K:gC t2 t1 t0 v1 v0 T D p)(ht0:U[j+k]! = t0)(hv1:V[k+1]! = v1)(hv0:V[k]! = v0){Q:Ex->al->Prop}(a3 a5:AV)
 (hR:∀(q r:Int) lo wr,(0<=q/\q<1000000000)->T<(q+1)*D->(q-1)*D<=T->Q .ret ⟨⟨[.vs (aj U) U.length c1,.vs (aj V) V.length c2,.iV j,.iV q,.iV V.length,a5,.iV q,.iV r],lo,[],[]⟩,wr⟩)
 (hQ:∀(q r:Int) lo wr,(0<=q/\q<1000000000)->T<(q+1)*D->(q-1)*D<=T->Q (.exit 0) ⟨⟨[.vs (aj U) U.length c1,.vs (aj V) V.length c2,.iV j,a3,.iV V.length,a5,.iV q,.iV r],lo,[],[]⟩,wr⟩)
 (q r:Int) (lo:List (Nat×AV)) (wr:List Nat) (I:gM t2 t1 v1 T D q r) (hr:r<1000000000) :
 W M (.loop qX) ⟨⟨[.vs (aj U) U.length c1,.vs (aj V) V.length c2,.iV j,a3,.iV V.length,a5,.iV q,.iV r],lo,[],[]⟩,wr⟩ Q:=by
 refine W.fH (fun m s=>∃q r lo wr,s=⟨⟨[.vs (aj U) U.length c1,.vs (aj V) V.length c2,.iV j,a3,.iV V.length,a5,.iV q,.iV r],lo,[],[]⟩,wr⟩/\m=q.toNat/\gM t2 t1 v1 T D q r/\r<1000000000) (fun m s ⟨q,r,lo,wr,hs,hm,I,hr⟩=>?_) (m:=q.toNat) ⟨q,r,lo,wr,rfl,rfl,I,hr⟩;subst hs;subst hm;have q0:=I.q0;have r0:=I.r0;have w0:=K.w0;have w1:=K.w1;have h0:=K.h0;have step:(1000000000<=q\/r*1000000000+t0<q*v0)->0<q/\∀lo wr,(r+v1<1000000000->LI (fun s=>∃m',m'<q.toNat/\∃q r lo wr,s=⟨⟨[.vs (aj U) U.length c1,.vs (aj V) V.length c2,.iV j,a3,.iV V.length,a5,.iV q,.iV r],lo,[],[]⟩,wr⟩/\m'=q.toNat/\gM t2 t1 v1 T D q r/\r<1000000000) Q .normal ⟨⟨[.vs (aj U) U.length c1,.vs (aj V) V.length c2,.iV j,a3,.iV V.length,a5,.iV (q-1),.iV (r+v1)],lo,[],[]⟩,wr⟩) /\
  (1000000000<=r+v1->Q .ret ⟨⟨[.vs (aj U) U.length c1,.vs (aj V) V.length c2,.iV j,.iV (q-1),.iV V.length,a5,.iV (q-1),.iV (r+v1)],lo,[],[]⟩,wr⟩):=fun h=>by
  have I2:=I.dec K h;have i0:=I2.q0;refine⟨by omega,fun lo wr=>⟨fun h1=>cL ⟨(q-1).toNat,by omega,_,_,_,_,rfl,rfl,I2,h1⟩,fun h1=>?_⟩⟩;obtain⟨b1,b2⟩:=I2.kO K h1;exact hR _ _ _ _ ⟨i0.1,b1⟩ I2.ge b2
 obtain⟨m,hm⟩:∃m,m=q*v0:=⟨_,rfl⟩;have hmb:0<=m/\m<=1000000001000000001:=by
  rw[hm];refine⟨Int.mul_nonneg q0.1 w0.1,?_⟩;have:=Int.mul_le_mul (a:=q) (b:=v0) (c:=1000000001) (d:=1000000000) (by omega) (by omega) w0.1 (by omega);omega
 by_cases hB:1000000000<=q
 . obtain⟨hq,st⟩:=step (.inl hB);unfold qX;repeat' first|(apply aaM (m:=k+1) (v:=v1);rfl;omega;omega;exact hv1)|apply FJ|(apply aaE;rfl;rfl)|refine gc ?_|(intro _;omega)|intro _
   all_goals try omega
   all_goals first|exact(st _ _).1 (by omega)|exact(st _ _).2 (by omega)
 . by_cases ht:r*1000000000+t0<q*v0
   . obtain⟨hq,st⟩:=step (.inr ht);rw[←hm]at ht;rw[hm]at ht hmb;unfold qX;repeat' first|(apply aaM (L:=V) (m:=k+1) (v:=v1);rfl;omega;omega;exact hv1)|(apply aaM (L:=V) (m:=k) (v:=v0);rfl;omega;omega;exact hv0)|(apply aaM (L:=U) (m:=j+k) (v:=t0);rfl;omega;omega;exact ht0)|apply FJ|(apply aah;rfl;rfl)|(apply aaE;rfl;rfl)|refine gc ?_|(intro _;omega)|intro _
     all_goals try omega
     all_goals first|exact(st _ _).1 (by omega)|exact(st _ _).2 (by omega)
   . have fin:=I.exit K (by omega) (by omega);rw[hm]at hmb;unfold qX;exact gg21
theorem WA (hft:M.FT=FT)(hV:V.length=k+2)(hU:j+k+2<U.length)(lU:U.length<100000000){t2 t1 t0 v1 v0 T D p:Int}(K:gC t2 t1 t0 v1 v0 T D p)(ht2:U[j+k+2]! = t2)(ht1:U[j+k+1]! = t1)(ht0:U[j+k]! = t0)(hv1:V[k+1]! = v1)(hv0:V[k]! = v0) :
 ∃q:Int,(0<=q/\q<1000000000)/\T<(q+1)*D/\(q-1)*D<=T/\aU M 243 [.vs (aj U) U.length c1,.vs (aj V) V.length c2,.iV j] [] ⟨.iV q,[],[]⟩:=by
 have h2:=K.h2;have h1:=K.h1;have w1:=K.w1;have h0:=K.h0;have w0:=K.w0;have htop:=K.top;have I:=gM.init K;have r1:=Int.emod_lt_of_pos (t2*1000000000+t1) (show 0<v1 by omega);obtain⟨v,hh,⟨q,rfl,rfl,g1,g2,g3⟩,hr⟩:=gA (M:=M) (f:=243) (ars:=[.vs (aj U) U.length c1,.vs (aj V) V.length c2,.iV j]) (P:=fun v hh=>∃q:Int,v = .iV q/\hh=[]/\(0<=q/\q<1000000000)/\T<(q+1)*D/\(q-1)*D<=T) (by rw[hft];exact Wg) (by simp) (by
  unfold II;simp only[enter];repeat' first|(apply aaM (L:=U) (m:=j+k+2) (v:=t2);rfl;omega;omega;exact ht2)|(apply aaM (L:=U) (m:=j+k+1) (v:=t1);rfl;omega;omega;exact ht1)|(apply aaM (L:=V) (m:=k+1) (v:=v1);rfl;omega;omega;exact hv1)|(apply abv;rfl;rfl;omega;omega)|(apply abN;rfl;rfl;omega;omega)|refine gc ?_|fail
  all_goals try omega
  refine Wz hV hU lU K ht0 hv1 hv0 _ _ (fun q r lo wr g1 g2 g3=>?_) (fun q r lo wr g1 g2 g3=>?_) _ _ _ _ I (by omega)
  . exact gg0
  . repeat' first|refine gc ?_|fail
    all_goals exact⟨.inr rfl,rfl,_,rfl,q,rfl,rfl,g1,g2,g3⟩)
 exact⟨q,g1,g2,g3,hr⟩
variable {cu:Option Nat}
variable {bu N:Nat} {e:TypeId} {hp:ab} {P S Y:List Int}
theorem WB (hl:bu<hp.length)(lN:N<100000000)(hN:P.length+V.length<N)(hY:Y.length=V.length)(oY:okW dB Y)(oV:okW dB V)(q:Int)(q0:0<=q/\q<1000000000){Q:Ex->al->Prop}(a0 a1 a2 a3 a4 a5 a6 aA aF aG aH aI aJ aK:AV)(lo:List (Nat×AV))(wr:List Nat)
 (hQ:∀L (bo:Int) aF aG lo wr,L.length=V.length->okW dB L->(0<=bo/\bo<1000000000)->WV dB L=WV dB Y-q*WV dB V+dB^V.length*bo ->
   Q (.exit 4) ⟨⟨[a0,a1,a2,a3,a4,a5,a6,.vs (aj V) V.length c2,.iV V.length,.sl bu 0 N 1 cu,aA,.iV P.length,.iV q,.iV bo,.iV V.length,aF,aG,aH,aI,aJ,aK],lo,cj hp bu e P S L,[]⟩,wr⟩) :
 W M (.loop vc) ⟨⟨[a0,a1,a2,a3,a4,a5,a6,.vs (aj V) V.length c2,.iV V.length,.sl bu 0 N 1 cu,aA,.iV P.length,.iV q,.iV 0,.iV 0,aF,aG,aH,aI,aJ,aK],lo,cj hp bu e P S Y,[]⟩,wr⟩ Q:=by
 refine W.gB V.length (fun i s=>∃L bo aF aG lo wr,s=⟨⟨[a0,a1,a2,a3,a4,a5,a6,.vs (aj V) V.length c2,.iV V.length,.sl bu 0 N 1 cu,aA,.iV P.length,.iV q,.iV bo,.iV i,aF,aG,aH,aI,aJ,aK],lo,cj hp bu e P S L,[]⟩,wr⟩ /\
  L.length=V.length/\okW dB L/\(0<=bo/\bo<1000000000)/\WV dB L=WV dB Y-q*WV dB (V.take i)+dB^i*bo) (fun i s hi ⟨L,bo,aF,aG,lo,wr,hs,hL,oL,hbo,hv⟩=>?_) (fun s ⟨L,bo,aF,aG,lo,wr,hs,hL,oL,hbo,hv⟩=>?_) (Nat.zero_le _)
  ⟨_,_,_,_,_,_,rfl,hY,oY,⟨by decide,by decide⟩,by simp[WV]⟩
 . subst hs;have gy:=bL oV (i:=i) (by omega);obtain⟨y,hy⟩:∃y,y=V[i]! := ⟨_,rfl⟩;rw[←hy]at gy;have gy:0<=y/\y<1000000000:=gy;have gL:=bL oL (i:=i) (by omega);obtain⟨u,hu⟩:∃u,u=L[i]! := ⟨_,rfl⟩;rw[←hu]at gL;have gL:0<=u/\u<1000000000:=gL;have hm:=IX q0 gy;obtain⟨m,hmm⟩:∃m,m=q*y:=⟨_,rfl⟩;rw[←hmm]at hm;have next:∀(D d:Int) aF aG lo,(0<=D/\D<1000000000)->(0<=d/\d<1000000000)->u-m-bo=d-1000000000*D->LI (fun s=>∃L bo aF aG lo wr,s=⟨⟨[a0,a1,a2,a3,a4,a5,a6,.vs (aj V) V.length c2,.iV V.length,.sl bu 0 N 1 cu,aA,.iV P.length,.iV q,.iV bo,.iV ((i+1:Nat):Int),aF,aG,aH,aI,aJ,aK],lo,cj hp bu e P S L,[]⟩,wr⟩ /\
    L.length=V.length/\okW dB L/\(0<=bo/\bo<1000000000)/\WV dB L=WV dB Y-q*WV dB (V.take (i+1))+dB^(i+1)*bo) Q .normal ⟨⟨[a0,a1,a2,a3,a4,a5,a6,.vs (aj V) V.length c2,.iV V.length,.sl bu 0 N 1 cu,aA,.iV P.length,.iV q,.iV D,.iV ((i:Int)+1),aF,aG,aH,aI,aJ,aK],lo,cj hp bu e P S (L.set i d),[]⟩,bu::wr⟩:=fun D d aF aG lo hD hd he=>
    cL ⟨_,_,aF,aG,lo,_,rfl,by rw[List.length_set];exact hL,fx oL hd,hD,by
     rw[fy (by omega),←hu,eu (by omega),←hy,hv,Int.pow_succ];have e1:d-u=1000000000*D-q*y-bo:=by rw[←hmm];omega
     rw[e1];show _+dB^i*(1000000000*D-q*y-bo)=_-_+dB^i*1000000000*D;grind⟩
   have hV':V[((i:Int)).toNat]! = y:=hy.symm;rw[hmm]at hm next
   rw[hu]at gL next
   unfold vc;exact gg20
 . subst hs;rw[List.take_length]at hv;unfold vc;exact gg1
theorem WE (hl:bu<hp.length)(lN:N<100000000)(hN:P.length+V.length<N)(hY:Y.length=V.length)(oY:okW dB Y)(oV:okW dB V){Q:Ex->al->Prop}(a0 a1 a2 a3 a4 a5 a6 aA aC aD aE aF aG aJ aK:AV)(lo:List (Nat×AV))(wr:List Nat)
 (hQ:∀L (ca:Int) aJ lo wr,L.length=V.length->okW dB L->(0<=ca/\ca<=1)->WV dB L+dB^V.length*ca=WV dB Y+WV dB V ->
   Q (.exit 6) ⟨⟨[a0,a1,a2,a3,a4,a5,a6,.vs (aj V) V.length c2,.iV V.length,.sl bu 0 N 1 cu,aA,.iV P.length,aC,aD,aE,aF,aG,.iV ca,.iV V.length,aJ,aK],lo,cj hp bu e P S L,[]⟩,wr⟩) :
 W M (.loop vd) ⟨⟨[a0,a1,a2,a3,a4,a5,a6,.vs (aj V) V.length c2,.iV V.length,.sl bu 0 N 1 cu,aA,.iV P.length,aC,aD,aE,aF,aG,.iV 0,.iV 0,aJ,aK],lo,cj hp bu e P S Y,[]⟩,wr⟩ Q:=by
 refine W.gB V.length (fun i s=>∃L ca aJ lo wr,s=⟨⟨[a0,a1,a2,a3,a4,a5,a6,.vs (aj V) V.length c2,.iV V.length,.sl bu 0 N 1 cu,aA,.iV P.length,aC,aD,aE,aF,aG,.iV ca,.iV i,aJ,aK],lo,cj hp bu e P S L,[]⟩,wr⟩ /\
  L.length=V.length/\okW dB L/\(0<=ca/\ca<=1)/\WV dB L+dB^i*ca=WV dB Y+WV dB (V.take i)) (fun i s hi ⟨L,ca,aJ,lo,wr,hs,hL,oL,hca,hv⟩=>?_) (fun s ⟨L,ca,aJ,lo,wr,hs,hL,oL,hca,hv⟩=>?_) (Nat.zero_le _)
  ⟨_,_,_,_,_,rfl,hY,oY,⟨by decide,by decide⟩,by simp[WV]⟩
 . subst hs;have gy:=bL oV (i:=i) (by omega);obtain⟨y,hy⟩:∃y,y=V[i]! := ⟨_,rfl⟩;rw[←hy]at gy;have gy:0<=y/\y<1000000000:=gy;have gL:=bL oL (i:=i) (by omega);obtain⟨u,hu⟩:∃u,u=L[i]! := ⟨_,rfl⟩;rw[←hu]at gL;have gL:0<=u/\u<1000000000:=gL;have next:∀(D d:Int) aJ lo wr,(0<=D/\D<=1)->(0<=d/\d<1000000000)->u+y+ca=d+1000000000*D->LI (fun s=>∃L ca aJ lo wr,s=⟨⟨[a0,a1,a2,a3,a4,a5,a6,.vs (aj V) V.length c2,.iV V.length,.sl bu 0 N 1 cu,aA,.iV P.length,aC,aD,aE,aF,aG,.iV ca,.iV ((i+1:Nat):Int),aJ,aK],lo,cj hp bu e P S L,[]⟩,wr⟩ /\
    L.length=V.length/\okW dB L/\(0<=ca/\ca<=1)/\WV dB L+dB^(i+1)*ca=WV dB Y+WV dB (V.take (i+1))) Q .normal ⟨⟨[a0,a1,a2,a3,a4,a5,a6,.vs (aj V) V.length c2,.iV V.length,.sl bu 0 N 1 cu,aA,.iV P.length,aC,aD,aE,aF,aG,.iV D,.iV ((i:Int)+1),aJ,aK],lo,cj hp bu e P S (L.set i d),[]⟩,wr⟩:=fun D d aJ lo wr hD hd he=>
    cL ⟨_,_,aJ,lo,_,rfl,by rw[List.length_set];exact hL,fx oL hd,hD,by
     rw[fy (by omega),←hu,eu (by omega),←hy,Int.pow_succ];have e1:d-u=y+ca-1000000000*D:=by omega
     rw[e1];show WV dB L+dB^i*(y+ca-1000000000*D)+dB^i*1000000000*D=_;grind⟩
   rw[hu]at gL next
   unfold vd;exact gg20
 . subst hs;rw[List.take_length]at hv;unfold vd;exact gg1
variable {cq:Option Nat}
theorem WG {U V:List Int}{i k:Nat}(hj:i+(k+3)<=U.length)(oU:okW dB U)(hV:V.length=k+2)(oV:okW dB V)(hup:WV dB (U.drop (i+1))<WV dB V) :
 ∃P Y S,U=P++(Y++[U[i+k+2]!])++S/\P.length=i/\Y.length=k+2/\okW dB P/\okW dB Y/\okW dB S/\(0<=U[i+k+2]! /\ U[i+k+2]! < 1000000000)/\WV dB S=0/\WV dB (Y++[U[i+k+2]!])=WV dB (U.drop i)/\WV dB (Y++[U[i+k+2]!])<1000000000*WV dB V:=by
 obtain⟨P,hP⟩:∃P,P=U.take i:=⟨_,rfl⟩;obtain⟨X,hX⟩:∃X,X=(U.drop i).take (k+3):=⟨_,rfl⟩;obtain⟨S,hS⟩:∃S,S=U.drop (i+(k+3)):=⟨_,rfl⟩;have eU:U=P++X++S:=by
  rw[hP,hX,hS,List.append_assoc,←List.drop_drop,List.take_append_drop,List.take_append_drop]
 have lP:P.length=i:=by rw[hP,List.length_take];omega
 have lX:X.length=k+3:=by rw[hX,List.length_take,List.length_drop];omega
 have oX:okW dB X:=by rw[hX];exact cY (hC oU _) _
 have oS:okW dB S:=by rw[hS];exact hC oU _
 have oP:okW dB P:=by rw[hP];exact cY oU _
 have eD:U.drop i=X++S:=by rw[eU,←lP,List.append_assoc,List.drop_left]
 have gj:=bL oU (i:=i) (by omega);have d1:=mj (b:=dB) (l:=U) (i:=i) (by omega);have lt:=cR (b:=dB) (by decide) oV;rw[hV]at lt;have hpow:(0:Int)<dB^(k+2):=Int.pow_pos (by decide);have hS0:WV dB S=0:=by
  have h1:WV dB (U.drop (i+1))=WV dB ((U.drop (i+1)).take (k+2))+dB^(k+2)*WV dB S:=by
   have:=jU (b:=dB) (l:=U.drop (i+1)) (i:=k+2) (by rw[List.length_drop];omega);rwa [List.drop_drop,show i+1+(k+2)=i+(k+3) by omega,←hS]at this
  have h2:=bT (b:=dB) (by decide) (cY (hC oU (i+1)) (k+2));have h3:=bT (b:=dB) (by decide) oS;rcases Int.lt_or_le 0 (WV dB S) with h|h
  . have:=Int.mul_le_mul_of_nonneg_left (show 1<=WV dB S by omega) (Int.le_of_lt hpow);omega
  . omega
 have hXD:WV dB X=WV dB (U.drop i):=by rw[eD,fh,hS0,Int.mul_zero,Int.add_zero]
 have hT:WV dB X<1000000000*WV dB V:=by
  rw[hXD,d1];have gj:0<=U[i]! /\ U[i]! < 1000000000:=gj;show _+1000000000*_<1000000000*_;omega
 have hXt:X[k+2]! = U[i+k+2]! := by
  rw[hX];simp only[List.getElem!_eq_getElem?_getD];rw[List.getElem?_take_of_lt (by omega),List.getElem?_drop,Nat.add_assoc]
 have gt:=bL oX (i:=k+2) (by omega);have eX:X=X.take (k+2)++[X[k+2]!]:=by
  have h1:X.take (k+2+1)=X:=List.take_of_length_le (by omega);conv=>lhs;rw[←h1]
  rw[List.take_add_one,List.getElem?_eq_getElem (by omega),getElem!_pos X (k+2) (by omega),Option.toList_some]
 rw[hXt]at eX gt;refine⟨P,X.take (k+2),S,by rw[←eX];exact eU,lP,by rw[List.length_take];omega,oP,cY oX _,oS,gt,hS0,by rw[←eX];exact hXD,by rw[←eX];exact hT⟩
theorem WH {L V:List Int}{T q d n:Int}{m:Nat}(hn:n=dB^m)(oL:okW dB L)(_hL:L.length=m)(oV:okW dB V)(hV:V.length=m)(h:WV dB L+n*d=T-q*WV dB V)(hge:T<(q+1)*WV dB V)(hd:¬d<0):d=0/\WV dB L=T-q*WV dB V/\WV dB L<WV dB V:=by
 subst hn;have lV:=cR (b:=dB) (by decide) oV;have l0:=bT (b:=dB) (by decide) oL;have hp:0<dB^m:=Int.pow_pos (by decide);rw[hV]at lV;rw[Int.add_mul,Int.one_mul]at hge;have d0:d=0:=by
  rcases Int.lt_or_le 0 d with h'|h'
  . have:=Int.mul_le_mul_of_nonneg_left (show 1<=d by omega) (Int.le_of_lt hp);omega
  . omega
 subst d0;rw[Int.mul_zero,Int.add_zero]at h;exact⟨rfl,h,by omega⟩
theorem WI {L L2 V:List Int}{T q d n ca:Int}{m:Nat}(hn:n=dB^m)(oL:okW dB L)(hL:L.length=m)(oL2:okW dB L2)(hL2:L2.length=m)(oV:okW dB V)(hV:V.length=m)(h:WV dB L+n*d=T-q*WV dB V)(hle:(q-1)*WV dB V<=T)(hT0:0<=T)(hd:d<0)(q0:0<=q)(h2:WV dB L2+n*ca=WV dB L+WV dB V):1<=q/\d+ca=0/\WV dB L2=T-(q-1)*WV dB V/\WV dB L2<WV dB V:=by
 subst hn;have lL:=cR (b:=dB) (by decide) oL;have lL2:=cR (b:=dB) (by decide) oL2;have lV:=cR (b:=dB) (by decide) oV;have l0:=bT (b:=dB) (by decide) oL2;have hp:0<dB^m:=Int.pow_pos (by decide);rw[hV]at lV;rw[hL]at lL;rw[hL2]at lL2;have hneg:T-q*WV dB V<0:=by
  have:=Int.mul_le_mul_of_nonneg_left (show d <= -1 by omega) (Int.le_of_lt hp);omega
 have q1:1<=q:=by
  rcases Int.lt_or_le 0 q with h'|h'
  . omega
  . obtain rfl:q=0:=by omega
    rw[Int.zero_mul]at hneg;omega
 rw[Int.sub_mul,Int.one_mul]at hle ⊢;have hs:WV dB L2+dB^m*(d+ca)=T-q*WV dB V+WV dB V:=by rw[Int.mul_add];omega
 have d0:d+ca=0:=by
  rcases Int.lt_or_le 0 (d+ca) with h'|h'
  . have:=Int.mul_le_mul_of_nonneg_left (show 1<=d+ca by omega) (Int.le_of_lt hp);omega
  . rcases Int.lt_or_le (d+ca) 0 with h''|h''
    . have:=Int.mul_le_mul_of_nonneg_left (show d+ca <= -1 by omega) (Int.le_of_lt hp);omega
    . omega
 rw[d0,Int.mul_zero,Int.add_zero]at hs;exact⟨q1,d0,by omega,by omega⟩
structure IZ (M:ao):Prop where
 ft:M.FT=FT
 dr:∀ars h,M.ext 242 ars h=none
 Ja:∀(U V:List Int) (bu i k:Nat) cu c2 e h (T D p:Int),h.at bu=some (.cells (aj U) e)->V.length=k+2->i+k+2<U.length->U.length<100000000->gC U[i+k+2]! U[i+k+1]! U[i+k]! V[k+1]! V[k]! T D p->∃q:Int,(0<=q/\q<1000000000)/\T<(q+1)*D/\(q-1)*D<=T/\M.ext 243 [.sl bu 0 U.length 1 cu,.vs (aj V) V.length c2,.iV i] h=some ⟨.iV q,h,[]⟩
theorem WJ {hp:ab}{b:Nat}{e:TypeId}{P S X U:List Int}(hU:hp.at b=some (.cells (aj U) e))(h:U=P++X++S):cj hp b e P S X=hp:=by
 unfold cj;rw[←h];exact yH hU
theorem WK {hp:ab}{b:Nat}{e:TypeId}{P S X:List Int}(hl:b<hp.length):(cj hp b e P S X).at b=some (.cells (aj (P++X++S)) e):=gg hl
theorem BI {hp:ab}{b c:Nat}{e:TypeId}{P S X:List Int}(h:b≠c):(cj hp b e P S X).at c=hp.at c:=uq h
theorem BJ {hp:ab}{b:Nat}{e:TypeId}{P S X:List Int}{t:Int}:cj hp b e P (t::S) X=cj hp b e (P++X) S [t]:=by
 unfold cj;rw[show P++X++(t::S)=P++X++[t]++S by simp]
section
variable {t m:Nat} {x y:ax} {l:List aO} {pe:List AV} {lo:List (Nat×AV)} {df wr:List Nat} {v d:Int} {Q:al->Prop}
theorem abX (hx:(St.mk pe lo (cj hp bu e P S [v]) df).aa x=some (.ptr bu m))(hl:bu<hp.length)(hm:m=P.length)
 (h:WO M l ⟨⟨pe,(t,.iV v)::lo,cj hp bu e P S [v],df⟩,wr⟩ Q):WO M (⟨.l t,.load 1 false x,none⟩::l) ⟨⟨pe,lo,cj hp bu e P S [v],df⟩,wr⟩ Q:=
 acj (i:=0) hx hl Nat.zero_lt_one hm h
theorem abY (hx:(St.mk pe lo (cj hp bu e P S [v]) df).aa x=some (.ptr bu m))(hy:(St.mk pe lo (cj hp bu e P S [v]) df).aa y=some (.iV d))(hl:bu<hp.length)(hm:m=P.length)
 (h:WO M l ⟨⟨pe,lo,cj hp bu e P S [d],df⟩,bu::wr⟩ Q):WO M (⟨.no,.store 1 x y,none⟩::l) ⟨⟨pe,lo,cj hp bu e P S [v],df⟩,wr⟩ Q:=
 ack (i:=0) hx hy hl Nat.zero_lt_one hm h
end
theorem WL (C:IZ M){k N bu bq bf:Nat}{V U0:List Int}{fb:bc}(hbq:bu≠bq)(hbf:bu≠bf/\bq≠bf)(lN:N<100000000)(hN:k+3<=N)(hV:V.length=k+2)(oV:okW dB V)(hv:500000000<=V[k+1]!)(hU0:U0.length=N)(oU0:okW dB U0)(hup:WV dB (U0.drop (N-(k+2)))<WV dB V){Q:Ex->al->Prop}(a0 a1 a2 a3 a4 a5 a6:AV)
 (hQ:∀U L K aC aD aE aF aG aH aI aJ aK lo wr,U.length=N->okW dB U->L.length=N-(k+2)->okW dB L->WV dB U0=WV dB V*WV dB L+WV dB U->WV dB U<WV dB V->ab.at K bu=some (.cells (aj U) 3)->ab.at K bq=some (.cells (aj L) 3)->ab.at K bf=some fb ->
   Q (.exit 2) ⟨⟨[a0,a1,a2,a3,a4,a5,a6,.vs (aj V) V.length c2,.iV V.length,.sl bu 0 N 1 cu,.sl bq 0 (N-(k+2)) 1 cq,.iV (-1),aC,aD,aE,aF,aG,aH,aI,aJ,aK],lo,K,[]⟩,wr⟩)
 (aC aD aE aF aG aH aI aJ aK:AV) (K:ab) (lo:List (Nat×AV)) (wr:List Nat) (hKu:K.at bu=some (.cells (aj U0) 3)) (hKq:K.at bq=some (.cells (aj (List.replicate (N-(k+2)) 0)) 3)) (hKf:K.at bf=some fb) (j:Int) (hj:j=(N:Int)-(k+3)) :
 W M (.loop ve) ⟨⟨[a0,a1,a2,a3,a4,a5,a6,.vs (aj V) V.length c2,.iV V.length,.sl bu 0 N 1 cu,.sl bq 0 (N-(k+2)) 1 cq,.iV j,aC,aD,aE,aF,aG,aH,aI,aJ,aK],lo,K,[]⟩,wr⟩ Q:=by
 refine W.fH (fun t s=>∃U L K iv aC aD aE aF aG aH aI aJ aK lo wr,s=⟨⟨[a0,a1,a2,a3,a4,a5,a6,.vs (aj V) V.length c2,.iV V.length,.sl bu 0 N 1 cu,.sl bq 0 (N-(k+2)) 1 cq,.iV iv,aC,aD,aE,aF,aG,aH,aI,aJ,aK],lo,K,[]⟩,wr⟩ /\
  iv=(t:Int)-1/\t<=N-(k+2)/\U.length=N/\okW dB U/\L.length=N-(k+2)/\okW dB L/\(∀k,k<t->L[k]! = 0)/\WV dB U0=WV dB V*WV dB L+WV dB U/\WV dB (U.drop t)<WV dB V/\ab.at K bu=some (.cells (aj U) 3)/\ab.at K bq=some (.cells (aj L) 3)/\ab.at K bf=some fb) (fun t s ⟨U,L,K,iv,aC,aD,aE,aF,aG,aH,aI,aJ,aK,lo,wr,hs,hiv,ht,hU,oU,hL,oL,hz,hv1,hv2,hKu,hKq,hKf⟩=>?_) (m:=N-(k+2))
  ⟨_,_,_,_,_,_,_,_,_,_,_,_,_,_,_,rfl,by omega,Nat.le_refl _,hU0,oU0,by simp,jv (by decide),fun k _=>jz,by rw[jx,Int.mul_zero,Int.zero_add],hup,hKu,hKq,hKf⟩
 subst hs;cases t with
 | zero=>
  obtain rfl:iv = -1:=by omega
  unfold ve;exact gg0
 | succ i=>
  obtain rfl:iv=(i:Int):=by omega
  obtain⟨P,Y,S,eU,lP,lY,oP,oY,oS,gt,hS0,hXD,hT⟩:=WG (i:=i) (by omega) oU hV oV hv2;obtain⟨t2,ht2⟩:∃t2,t2=U[i+k+2]! := ⟨_,rfl⟩;rw[←ht2]at eU gt hXD hT;have oX:okW dB (Y++[t2]):=iu oY (fun x hx=>by rw[List.mem_singleton.1 hx];exact gt);have lX:(Y++[t2]).length=k+3:=by simp[lY]
  have K3:=gC.of lX hV oX oV hv hT;have gX:∀m,m<k+3->(Y++[t2])[m]! = U[i+m]! := fun m hm=>by
   have:=zY (P:=P) (X:=Y++[t2]) (S:=S) (i:=m) (by omega);rw[←eU,lP]at this;exact this.symm
  rw[gX _ (by omega),gX _ (by omega),gX _ (by omega),←Nat.add_assoc,←Nat.add_assoc]at K3;obtain⟨q,q0,hge,hle,q243⟩:=C.Ja U V bu i k cu c2 3 K _ _ _ hKu hV (by omega) (by omega) K3;rw[hU]at q243;have hT0:0<=WV dB (Y++[t2]):=bT (by decide) oX;have hkl:=dQ hKu;have hkq:=dQ hKq;have hself:cj K bu 3 P (t2::S) Y=K:=WJ hKu (by rw[eU];simp);have vX:WV dB (Y++[t2])=WV dB Y+dB^V.length*t2:=by rw[fh,lY,hV];simp[WV]
  have lYV:Y.length=V.length:=by omega
  have hPN:P.length+V.length<N:=by omega
  have eI:0+((i:Int)).toNat*1=i:=by omega
  have hiP:(i:Int)=(P.length:Int):=by omega
  have fin:∀(q' d:Int) L2 K' aC aD aE aF aG aH aI aJ aK lo wr,(0<=q'/\q'<1000000000)->L2.length=V.length->okW dB L2->d=0->WV dB L2=WV dB (Y++[t2])-q'*WV dB V->WV dB L2<WV dB V->K'=(cj K bu 3 (P++L2) S [d]).put bq (some (.cells (aj (L.set i q')) 3)) ->
   LI (fun s=>∃m',m'<i+1/\∃U L K iv aC aD aE aF aG aH aI aJ aK lo wr,s=⟨⟨[a0,a1,a2,a3,a4,a5,a6,.vs (aj V) V.length c2,.iV V.length,.sl bu 0 N 1 cu,.sl bq 0 (N-(k+2)) 1 cq,.iV iv,aC,aD,aE,aF,aG,aH,aI,aJ,aK],lo,K,[]⟩,wr⟩ /\
    iv=(m':Int)-1/\m'<=N-(k+2)/\U.length=N/\okW dB U/\L.length=N-(k+2)/\okW dB L/\(∀k,k<m'->L[k]! = 0)/\WV dB U0=WV dB V*WV dB L+WV dB U/\WV dB (U.drop m')<WV dB V/\ab.at K bu=some (.cells (aj U) 3)/\ab.at K bq=some (.cells (aj L) 3)/\ab.at K bf=some fb) Q .normal ⟨⟨[a0,a1,a2,a3,a4,a5,a6,.vs (aj V) V.length c2,.iV V.length,.sl bu 0 N 1 cu,.sl bq 0 (N-(k+2)) 1 cq,.iV ((P.length:Int)-1),aC,aD,aE,aF,aG,aH,aI,aJ,aK],lo,K',[]⟩,wr⟩:=fun q' d L2 K' aC aD aE aF aG aH aI aJ aK lo wr hq' hL2 oL2 hd vL2 hlt hK'=>by
   subst hd;subst hK';have hl1:bu<(cj K bu 3 (P++L2) S [0]).length:=by rw[IM];exact hkl
   have hl2:bq<(cj K bu 3 (P++L2) S [0]).length:=by rw[IM];exact hkq
   have e0:WV dB ([0]++S)=0:=by rw[List.singleton_append,WV,hS0];rfl
   have vU':WV dB (P++L2++[0]++S)=WV dB P+dB^i*WV dB L2:=by
    rw[List.append_assoc,fh,e0,Int.mul_zero,Int.add_zero,fh,lP]
   have vU:WV dB U=WV dB P+dB^i*WV dB (Y++[t2]):=by
    rw[eU,fh,hS0,Int.mul_zero,Int.add_zero,fh,lP]
   have lU':(P++L2++[0]++S).length=N:=by
    have h1:=congrArg List.length eU;simp only[List.length_append,List.length_cons,List.length_nil]at h1 ⊢;omega
   refine cL ⟨i,Nat.lt_succ_self i,P++L2++[0]++S,L.set i q',_,_,aC,aD,aE,aF,aG,aH,aI,aJ,aK,lo,wr,rfl,by omega,by omega,lU',iu (iu (iu oP oL2) (fun x hx=>by rw[List.mem_singleton.1 hx];exact⟨by decide,by decide⟩)) oS,by rw[List.length_set];exact hL,fx oL hq',fun k hk=>by rw[fR (by omega)];exact hz k (by omega),?_,?_,?_,?_,?_⟩
   . rw[fy (by omega),hz i (by omega),Int.sub_zero,vU',hv1,vU,vL2,Int.mul_add,Int.mul_sub];have e3:WV dB V*(dB^i*q')=dB^i*(q'*WV dB V):=by rw[←Int.mul_assoc,Int.mul_comm (WV dB V),Int.mul_assoc,Int.mul_comm (WV dB V)]
     rw[e3];omega
   . rw[←lP,List.append_assoc,List.append_assoc,List.drop_left,fh,e0,Int.mul_zero,Int.add_zero];exact hlt
   . rw[uq (Ne.symm hbq)];rw[WK hkl]
   . exact gg hl2
   . rw[uq hbf.2,BI hbf.1];exact hKf
  rw[hiP]at q243;have hQK:=hself;unfold ve;rw[hiP];refine gg19 ?_;rw[←hself];refine WB (c2:=c2) (cu:=cu) hkl lN hPN lYV oY oV q q0 _ _ _ _ _ _ _ _ _ _ _ _ _ _ _ _ (fun L1 bo aF aG lo wr hL1 oL1 hbo hv3=>?_);have hmv:=BJ (hp:=K) (b:=bu) (e:=3) (P:=P) (S:=S) (X:=L1) (t:=t2);rw[hmv];have eq1:WV dB L1+dB^V.length*(t2-bo)=WV dB (Y++[t2])-q*WV dB V:=by
   rw[hv3,vX,Int.mul_sub];omega
  have lPL:(P++L1).length=P.length+V.length:=by rw[List.length_append,hL1]
  by_cases hd:t2-bo<0
  . refine gg5 ?_;have hmv2:=BJ (hp:=K) (b:=bu) (e:=3) (P:=P) (S:=S) (X:=L1) (t:=t2-bo);rw[←hmv2];refine WE (c2:=c2) (cu:=cu) hkl lN hPN hL1 oL1 oV _ _ _ _ _ _ _ _ _ _ _ _ _ _ _ _ _ (fun L2 ca aJ lo wr hL2 oL2 hca hv4=>?_);have hmv3:=BJ (hp:=K) (b:=bu) (e:=3) (P:=P) (S:=S) (X:=L2) (t:=t2-bo);rw[hmv3];have lPL2:(P++L2).length=P.length+V.length:=by rw[List.length_append,hL2]
    obtain⟨q1,hz0,vL2,hlt⟩:=WI rfl oL1 hL1 oL2 hL2 oV rfl eq1 hle hT0 hd q0.1 hv4;have hq2:(cj K bu 3 (P++L2) S [t2-bo+ca]).at bq=some (.cells (aj L) 3):=by rw[BI hbq];exact hKq
    have eP:0+((P.length:Int)).toNat*1=i:=by omega
    exact gg22
  . obtain⟨hz0,vL1,hlt⟩:=WH rfl oL1 hL1 oV rfl eq1 hge hd;have hq2:(cj K bu 3 (P++L1) S [t2-bo]).at bq=some (.cells (aj L) 3):=by rw[BI hbq];exact hKq
    have eP:0+((P.length:Int)).toNat*1=i:=by omega
    exact gg22
theorem BK {h:ab}(l:List Int):qi h (aj l):=tH (fun _=>.cons (.atom rfl) .nil) l
theorem vn {h:ab}{l:List Int}{n:Nat}:cX h (.vs (aj l) n cap) (.vs (aj l) n cap):=cX.lZ (BK l)
theorem BL {h:ab}{b n:Nat}{L:List Int}{e:TypeId}(hb:h.at b=some (.cells (aj L) e))(hn:n<=L.length):cX h (.sl b 0 n 1 cap) (.vs (aj (L.take n)) (L.take n).length none):=by
 have hl:(L.take n).length=n:=by rw[List.length_take];omega
 rw[hl];refine .sl (m:=aj (L.take n)) hb ?_ rfl fun i x y hx hy=>?_
 . have:=jQ (f:=iC) (esz:=1) (fun _=>rfl) (l:=L) (i:=0) (n:=n) (by omega);simpa using this
 . rw[hx]at hy;cases hy;obtain⟨z,hz⟩:∃z,x = .iV z:=by
    have hm:=List.mem_of_getElem? hx;have:∀l:List Int,∀x∈aj l,∃z,x = .iV z:=by
     intro l;induction l with
     | nil=>intro x hx;cases hx
     | cons a l ih=>
      intro x hx;have:aj (a::l) = .iV a::aj l:=rfl;rw[this]at hx;rcases List.mem_cons.1 hx with rfl|hx
      . exact⟨a,rfl⟩
      . exact ih x hx
    exact this _ _ hm
   subst hz;exact .atom rfl
structure Jb (M:ao):Prop extends IZ M where
 rf:∀(a b:List Int) c1 c2 h,okW dB a->okW dB b->aN a->aN b->a.length<1000000000->b.length<1000000000->M.ext 218 [.vs (aj a) a.length c1,.vs (aj b) b.length c2] h=some ⟨.iV (aW (WV dB a-WV dB b)),h,[]⟩
 oI:∀(x y:AV) (a b:List Int) c1 c2 h,cX h x (.vs (aj a) a.length c1)->cX h y (.vs (aj b) b.length c2)->okW dB a->okW dB b->a.length<10000000->b.length<10000000->0<a.length+b.length->∃r,okW dB r/\aN r/\WV dB r=WV dB a*WV dB b/\M.ext 197 [x,y] h=some ⟨.vs (aj r) r.length none,h,[]⟩
 BM:∀(x:AV) (a:List Int) c h (d:Int),cX h x (.vs (aj a) a.length c)->okW dB a->a.length<10000000->(0<d/\d<=1000000000)->∃q,okW dB q/\aN q/\WV dB q=WV dB a/d/\M.ext 241 [x,.iV d] h=some ⟨.aq [.vs (aj q) q.length none,.iV (WV dB a%d)],h,[]⟩
theorem WM {t f r:Int}(ht:1<=t/\t<1000000000)(hf:(t+1)*f+r=1000000000)(hr:0<=r/\r<t+1):1<=f/\f<=500000000/\500000000<=t*f:=by
 have e:(t+1)*f=t*f+f:=by rw[Int.add_mul,Int.one_mul]
 have f0:1<=f:=by
  rcases Int.lt_or_le f 1 with h|h
  . have:=Int.mul_le_mul_of_nonneg_left (show f<=0 by omega) (show 0<=t+1 by omega);rw[Int.mul_zero]at this;omega
  . exact h
 have h2:2*f<=(t+1)*f:=Int.mul_le_mul_of_nonneg_right (by omega) (by omega);refine⟨f0,by omega,?_⟩;by_cases hbig:500000000<=t
 . have:=Int.mul_le_mul_of_nonneg_left f0 (show 0<=t by omega);omega
 . have f2:2<=f:=by
    rcases Int.lt_or_le f 2 with h|h
    . obtain rfl:f=1:=by omega
      omega
    . exact h
   have h3:=Int.mul_nonneg (show 0<=t-1 by omega) (show 0<=f-2 by omega);have e3:(t-1)*(f-2)=t*f-2*t-f+2:=by grind
   rw[e3]at h3;by_cases r2:2<=r
   . omega
   . by_cases r0:r=0
     . subst r0;omega
     . have r1:r=1:=by omega
       subst r1;by_cases t1:t=1
       . subst t1;omega
       . have h4:3*f<=(t+1)*f:=Int.mul_le_mul_of_nonneg_right (by omega) (by omega);omega
theorem WN {b V:List Int}{k:Nat}{f:Int}(hb:b.length=k+2)(ob:okW dB b)(hf:1<=f)(hth:500000000<=b[k+1]! * f)(htf:(b[k+1]! + 1)*f<=1000000000)(oV:okW dB V)(nV:aN V)(vV:WV dB V=WV dB b*f):V.length=k+2/\500000000<=V[k+1]! := by
 have e0:=iT (b:=dB) (l:=b) (n:=k+1) (by omega);have l0:=bT (b:=dB) (by decide) (cY ob (k+1));have l1:=cR (b:=dB) (by decide) (cY ob (k+1));rw[List.length_take,Nat.min_eq_left (by omega)]at l1;have hP:0<dB^(k+1):=Int.pow_pos (by decide);obtain⟨t,ht⟩:∃t,t=b[k+1]! := ⟨_,rfl⟩;rw[←ht]at e0 hth htf;have m1:dB^(k+1)*500000000<=WV dB V:=by
  have h1:=Int.mul_le_mul_of_nonneg_left hth (Int.le_of_lt hP);have h2:=Int.mul_nonneg l0 (show 0<=f by omega);rw[vV,e0,Int.add_mul,Int.mul_assoc];omega
 have m2:WV dB V<dB^(k+1)*1000000000:=by
  have h1:=Int.mul_le_mul_of_nonneg_left htf (Int.le_of_lt hP);have h2:=Int.mul_lt_mul_of_pos_right l1 (show 0<f by omega);rw[Int.add_mul,Int.one_mul,Int.mul_add]at h1;rw[vV,e0,Int.add_mul,Int.mul_assoc];omega
 have hPs:dB^(k+2)=dB^(k+1)*1000000000:=Int.pow_succ _ _;have hlen:V.length<=k+2:=fQ (b:=dB) (by decide) oV nV (by rw[hPs];exact m2);have hlen2:k+2<=V.length:=by
  rcases Nat.lt_or_ge V.length (k+2) with h|h
  . have h1:=cR (b:=dB) (by decide) oV;have h2:=fI (b:=dB) (by decide) (show V.length<=k+1 by omega);omega
  . exact h
 have hl:V.length=k+2:=by omega
 refine⟨hl,?_⟩;have e1:=iT (b:=dB) (l:=V) (n:=k+1) (by omega);have g1:=cR (b:=dB) (by decide) (cY oV (k+1));rw[List.length_take,Nat.min_eq_left (by omega)]at g1;have:dB^(k+1)*500000000<dB^(k+1)*(V[k+1]! + 1):=by rw[Int.mul_add,Int.mul_one];omega
 have:=Int.lt_of_mul_lt_mul_left this (Int.le_of_lt hP);omega
theorem WQ {a b U:List Int}{k:Nat}{f:Int}(hf:0<f)(ha:k+2<=a.length)(oa:okW dB a)(hb:b.length=k+2)(ob:okW dB b)(nb:aN b)(hU:U.length=a.length+1)(oU:okW dB U)(vU:WV dB U=WV dB a*f) :
 WV dB (U.drop (a.length+1-(k+2)))<WV dB b*f:=by
 have e1:=jU (b:=dB) (l:=U) (i:=a.length+1-(k+2)) (by omega);have l0:=bT (b:=dB) (by decide) (cY oU (a.length+1-(k+2)));have l1:=cR (b:=dB) (by decide) oa;have hg:=nT (b:=dB) (by decide) ob nb (by omega);rw[hb,show k+2-1=k+1 by omega]at hg;have hP:0<dB^(a.length+1-(k+2)):=Int.pow_pos (by decide);have ep:dB^a.length=dB^(a.length+1-(k+2))*dB^(k+1):=by rw[←Int.pow_add,show a.length+1-(k+2)+(k+1)=a.length by omega]
 have m1:=Int.mul_lt_mul_of_pos_right l1 hf;have m2:=Int.mul_le_mul_of_nonneg_right hg (Int.le_of_lt hf);rw[ep,Int.mul_assoc]at m1;have:dB^(a.length+1-(k+2))*WV dB (U.drop (a.length+1-(k+2)))<dB^(a.length+1-(k+2))*(dB^(k+1)*f):=by omega
 have:=Int.lt_of_mul_lt_mul_left this (Int.le_of_lt hP);omega
theorem WR {a A:List Int}{f:Int}(hf:1<=f/\f<=500000000)(oa:okW dB a)(na:aN a)(ha:a≠[])(oA:okW dB A)(nA:aN A)(vA:WV dB A=WV dB a*f):A≠[]/\A.length<=a.length+1:=by
 have p:=(iS (b:=dB) (by decide) oa na).2 ha;have hp:0<WV dB a*f:=Int.mul_pos p (by omega);refine⟨fun e=>by rw[e]at vA;simp[WV]at vA;omega,fQ (b:=dB) (by decide) oA nA ?_⟩;have l1:=cR (b:=dB) (by decide) oa;have h1:=Int.mul_lt_mul_of_pos_right l1 (show 0<f by omega);have h2:=Int.mul_le_mul_of_nonneg_left (show f<=1000000000 by omega) (Int.le_of_lt (Int.pow_pos (n:=dB) (m:=a.length) (by decide)));have h3:dB^(a.length+1)=dB^a.length*1000000000:=Int.pow_succ _ _;omega
end Go.Ab.Ch1
