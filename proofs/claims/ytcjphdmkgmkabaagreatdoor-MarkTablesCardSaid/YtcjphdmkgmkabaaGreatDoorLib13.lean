/-
  Own work: the reference's tables: their values.
-/
import Derived.Test.YtcjphdmkgmkabaaGreatDoorLib12
import Derived.Test.YtcjphdmkgmkabaaGreatDoorLib5
import Derived.Test.YtcjphdmkgmkabaaGreatDoorCh1Base
set_option maxHeartbeats 8000000
set_option maxRecDepth 20000
namespace Go.Ab.Ch1
open Go.Ab.aW
variable {M:aw} {cap:Option Nat} {N:Nat}
theorem GG {t:List (ah×ah)}{x:Rat}:∀{i n:Nat},i<=n->(∀k,k<i->0<cZ x (aX t[k]!.1))->jG t x n 0=jG t x (n-i) i
 | 0,_,_,_=>rfl
 | i+1,n,h,ha=>by
  have ih:=GG (i:=i) (n:=n) (by omega) fun k hk=>ha k (by omega)
  have:=ha i (by omega);rw[ih,show n-i=n-(i+1)+1 by omega,jG,if_pos this]
theorem ahA {p q:Rat}(h:0<cZ p q):p-q≠0:=fun e=>by
 rw[←EX,e]at h;exact absurd h (by decide)
structure jl (s:ah):Prop where
 ok:cw s=0
 len:s.length<=60
theorem jl.eq {s:ah}(h:jl s):ao (aX s)=s:=(kh h.ok h.len).1.symm
theorem jl.dq {s:ah}(h:jl s):Dq 60 (aX s):=(kh h.ok h.len).2
theorem ahB (C:rk M){xs a b ya yb:ah}(hx:jl xs)(ha:jl a)(hb:jl b)(hya:jl ya)(hyb:jl yb)(h0:aX b-aX a≠0):∃D1 D2 P D3 R,(∀h,M.ext 57 [.str xs,.str a] h=some ⟨.str D1,h,[]⟩)/\(∀h,M.ext 57 [.str b,.str a] h=some ⟨.str D2,h,[]⟩)/\(∀h,M.ext 52 [.str D1,.str D2] h=some ⟨.str P,h,[]⟩)/\(∀h,M.ext 57 [.str yb,.str ya] h=some ⟨.str D3,h,[]⟩)/\(∀h,M.ext 53 [.str P,.str D3] h=some ⟨.str R,h,[]⟩)/\∀h,M.ext 90 [.str ya,.str R] h=some ⟨.str (ao (aX ya+(aX xs-aX a)*(aX b-aX a)⁻¹*(aX yb-aX ya))),h,[]⟩:=by
 have m:=fun {k n:Nat} {q:Rat} (h:Dq k q) (hk:k<=n)=>h.mono hk
 have d1:=hx.dq.sub ha.dq;have d2:=hb.dq.sub ha.dq;have d3:=hyb.dq.sub hya.dq;have dp:=d1.mul (d2.inv h0);have dr:=dp.mul d3;have q1:=fun h=>C.Ad _ _ h (m hx.dq (by decide)) (m ha.dq (by decide))
 have q2:=fun h=>C.Ad _ _ h (m hb.dq (by decide)) (m ha.dq (by decide))
 have q4:=fun h=>C.Ad _ _ h (m hyb.dq (by decide)) (m hya.dq (by decide))
 have q6:=fun h=>C.Qc _ _ h (m hya.dq (by decide)) (m dr (by decide))
 rw[hx.eq,ha.eq]at q1;rw[hb.eq,ha.eq]at q2;rw[hyb.eq,hya.eq]at q4;rw[hya.eq]at q6;exact⟨_,_,_,_,_,q1,q2,fun h=>C.Qa _ _ h (m d1 (by decide)) (m d2 (by decide)) h0,q4,fun h=>C.Qb _ _ h (m dp (by decide)) (m d3 (by decide)),q6⟩
theorem w76 (C:rk M)(t:List (ah×ah))(xs:ah)(h0:t.length≠0)(h64:t.length<=64)(hS:iF t)(hx:jl xs)(hT:∀i,i<t.length->db t i=0):aS M 76 [.vs (arr fP t) t.length cap,.str xs] [] ⟨.str (ao (nt t (aX xs))),[],[]⟩:=by
 have f1:∀i,i<t.length->jl t[i]!.1:=fun i hi=>⟨(nu (hT i hi)).1,(hS i hi).1⟩
 have f2:∀i,i<t.length->jl t[i]!.2:=fun i hi=>⟨(nu (hT i hi)).2.1,(hS i hi).2⟩
 refine bC (by rw[C.ft];exact ahx) (by simp) ?_;show W M GF _ (nj _ _);unfold nt;unfold GF;simp only[enter];repeat' first|refine gc ?_|fail
 refine W.gI t.length (fun i s=>∃a4 lo wr,s=⟨⟨[.vs (arr fP t) t.length cap,.str xs,.str [],.iV i,a4],lo,[],[]⟩,wr⟩/\∀k,k<i->0<cZ (aX xs) (aX t[k]!.1)) (fun i s hi ⟨a4,lo,wr,hs,ha⟩=>?_) (fun s ⟨a4,lo,wr,hs,ha⟩=>?_) (Nat.zero_le _) ⟨_,_,_,rfl,fun k hk=>absurd hk (Nat.not_lt_zero k)⟩
 . subst hs;have ei:((i:Int)).toNat=i:=by omega
   have q55:∀h,M.ext 55 [.str xs,.str t[((i:Int)).toNat]!.1] h=some ⟨.iV (cZ (aX xs) (aX t[i]!.1)),h,[]⟩:=C.cmp hx.ok (f1 i hi).ok hx.len (f1 i hi).len;by_cases hc:0<cZ (aX xs) (aX t[i]!.1)
   . have ha':∀k,k<i+1->0<cZ (aX xs) (aX t[k]!.1):=fun k hk=>by
      rcases Nat.lt_or_eq_of_le (Nat.le_of_lt_succ hk) with h|h
      . exact ha k h
      . rw[h];exact hc
     generalize cZ (aX xs) (aX t[i]!.1)=c at *
     unfold um;exact gg2
   . have hv:jG t (aX xs) t.length 0=if i=0 then aX t[0]!.2 else aX t[i-1]!.2+(aX xs-aX t[i-1]!.1)*(aX t[i]!.1-aX t[i-1]!.1)⁻¹*(aX t[i]!.2-aX t[i-1]!.2):=by
      rw[GG (Nat.le_of_lt hi) ha,show t.length-i=t.length-(i+1)+1 by omega,jG,if_neg hc]
     rw[hv];generalize cZ (aX xs) (aX t[i]!.1)=c at *
     rcases Nat.eq_zero_or_pos i with rfl|hp
     . rw[if_pos rfl,(f2 0 hi).eq];unfold um;exact gg5
     . rw[if_neg (by omega)];have ej:((i:Int)-1).toNat=i-1:=by omega
       obtain⟨D1,D2,P,D3,R,q1,q2,q3,q4,q5,q6⟩:=ahB C hx (f1 (i-1) (by omega)) (f1 i hi) (f2 (i-1) (by omega)) (f2 i hi) (ahA ((nu (hT i hi)).2.2 hp));generalize aX t[i-1]!.2+(aX xs-aX t[i-1]!.1)*(aX t[i]!.1-aX t[i-1]!.1)⁻¹*(aX t[i]!.2-aX t[i-1]!.2)=V at *
       rw[←ej]at q1 q2 q4 q6;have q2:∀h,M.ext 57 [.str t[((i:Int)).toNat]!.1,.str t[((i:Int)-1).toNat]!.1] h=some ⟨.str D2,h,[]⟩:=q2;have q4:∀h,M.ext 57 [.str t[((i:Int)).toNat]!.2,.str t[((i:Int)-1).toNat]!.2] h=some ⟨.str D3,h,[]⟩:=q4;unfold um;exact gg5
 . subst hs;have hv:jG t (aX xs) t.length 0=aX t[t.length-1]!.2:=by rw[GG (Nat.le_refl _) ha,Nat.sub_self,jG]
   rw[hv,(f2 _ (by omega)).eq];have el:((t.length:Int)-1).toNat=t.length-1:=by omega
   unfold um;rw[←el];exact gg0
abbrev IC:=Int×Option (List Int)
def wv:Option (List Int)->AV
 | none=>.aa
 | some l=>.vs (ak l) l.length none
abbrev FC:=IC×IC
def cF (c:FC):List AV:=[.iV c.1.1,wv c.1.2,.iV c.2.1,wv c.2.2]
def fB (p:FC×FC):List AV:=[.iV p.1.1.1,wv p.1.1.2,.iV p.1.2.1,wv p.1.2.2,.iV p.2.1.1,wv p.2.1.2,.iV p.2.2.1,wv p.2.2.2]
theorem Qd (w:Option (List Int)):cG (wv w)=true:=by cases w <;> rfl
theorem ahD (w:Option (List Int)):(wv w).top=0:=by
 cases w with
 | none=>rfl
 | some l=>exact fU l
theorem Qe (p:FC×FC):(fB p).all cG=true:=by simp[fB,List.all_cons,Qd,fO]
theorem ay.ic {v:AV}{z:Int}(h:ay v z):∃c:IC,v = .agg [.iV c.1,wv c.2]:=by
 cases h with
 | small=>exact⟨(_,none),rfl⟩
 | @eO σ z w=>exact⟨(σ,some w),rfl⟩
theorem aZ.fc {v:AV}{q:Rat}(h:aZ v q):∃c:FC,v = .agg (cF c):=by
 obtain⟨s,w,s',w',rfl,h1,h2⟩:=h;obtain⟨c,e1⟩:=h1.ic;obtain⟨d,e2⟩:=h2.ic;cases e1;cases e2;exact⟨(c,d),rfl⟩
structure pw (M:aw):Prop where
 ft:M.FT=FT
 jB:∀t (e:Int) h,M.ext 97 [.bool t,.iV e] h=some ⟨.iV (if t then e else 0),h,[]⟩
 jj:∀v h l,ie h v=some l->l.length<1000->M.ext 96 [v] h=some ⟨.iV (dD l),h,[]⟩
 GH:∀v h a b,cO h v (.vs [.str a,.str b] 2 none)->a.length<1000000->b.length<1000000->M.ext 101 [v] h=some ⟨.iV (dD [cw a,cw b]),h,[]⟩
 uo:∀q,Dq 60 q->∃v0,aZ v0 q/\∀h,M.ext 103 [.str (ao q)] h=some ⟨v0,h,[]⟩
 Ae:∀a b p q,aZ a p->aZ b q->Dq 60 p->Dq 60 q->∀h,M.ext 148 [a,b] h=some ⟨.iV (cZ p q),h,[]⟩
def jH (t:List (ah×ah))(acc:List (FC×FC)):Prop:=∀k,k<acc.length->aZ (.agg (cF acc[k]!.1)) (aX t[k]!.1)/\aZ (.agg (cF acc[k]!.2)) (aX t[k]!.2)
theorem jH.snoc {t:List (ah×ah)}{acc:List (FC×FC)}{c:FC×FC}(h:jH t acc)(h1:aZ (.agg (cF c.1)) (aX t[acc.length]!.1))(h2:aZ (.agg (cF c.2)) (aX t[acc.length]!.2)):jH t (acc++[c]):=fun k hk=>by
 rw[List.length_append,List.length_singleton]at hk;rcases Nat.lt_or_eq_of_le (Nat.le_of_lt_succ hk) with h3|h3
 . rw[getElem!_pos _ k (by simp;omega),List.getElem_append_left h3,←getElem!_pos acc k h3];exact h k h3
 . subst h3;rw[getElem!_pos _ acc.length (by simp),List.getElem_append_right (Nat.le_refl _)];simp only[Nat.sub_self,List.getElem_cons_zero];exact⟨h1,h2⟩
theorem GI {a b:Int}:dD [a,b]=if a≠0 then a else b:=by
 by_cases h:a=0 <;> by_cases k:b=0 <;> simp[dD,h,k]
theorem ahE {A:List (FC×FC)}{i:Nat}{K:ab}{o:AV}(hA:A.length=i+1)(hi:i<1000000)(hO:bS fB 8 175 K o A []){z:Int}(q148:0<i->∀h,M.ext 148 [.agg (cF A[i-1]!.1),.agg (cF A[i]!.1)] h=some ⟨.iV z,h,[]⟩)(a0 a3 a6 a7 a8 a9:AV)(lo:List (Nat×AV))(wr:List Nat){Q:Ex->aq->Prop}
 (hR:0<i->0<=z->∀lo wr,Q .ret ⟨⟨[a0,.aa,.iV 11,a3,o,.iV i,a6,a7,a8,a9,.iV i],lo,K,[]⟩,wr⟩)
 (hN:(0<i->z<0)->∀lo wr,Q .normal ⟨⟨[a0,.aa,.iV 0,a3,o,.iV i,a6,a7,a8,a9,.iV i],lo,K,[]⟩,wr⟩) :
 W M t145 ⟨⟨[a0,.aa,.iV 0,a3,o,.iV i,a6,a7,a8,a9,.iV i],lo,K,[]⟩,wr⟩ Q:=by
 rcases Nat.eq_zero_or_pos i with rfl|hp
 . unfold t145;exact gg2
 . have q148:=q148 hp;rcases hO with ⟨h,_⟩|⟨d,cp,_,rfl,hd,_⟩
   . rw[h]at hA;cases hA
   . have ej:((i:Int)-1).toNat=i-1:=by omega
     have ei:((i:Int)).toNat=i:=by omega
     have q148:∀h,M.ext 148 [.agg (cF A[((i:Int)-1).toNat]!.1),.agg (cF A[((i:Int)).toNat]!.1)] h=some ⟨.iV z,h,[]⟩:=by rw[ej,ei];exact q148
     unfold t145;repeat' first|refine gd1 ?_|(apply acs;rfl;rfl)|(apply afd;rfl;rfl)|refine gc ?_|(intro _;omega)|intro _
     all_goals try omega
     . exact hR hp (by omega) _ _
     . exact hN (fun _=>by omega) _ _
attribute [local irreducible] t145
theorem ahF (C:pw M){t:List (ah×ah)}(hS:iF t){i:Nat}(hi:i<t.length)(h64:t.length<=64)(ha:∀k,k<i->db t k=0){acc:List (FC×FC)}(hl:acc.length=i)(hH:jH t acc){K:ab}{o:AV}(hO:bS fB 8 175 K o acc [])(a3 a5 a6 a7:AV)(lo:List (Nat×AV))(wr:List Nat){Q:Ex->aq->Prop}{I:aq->Prop}
 (hR:db t i≠0->∀a3 a4 a5 a6 a7 a10 lo K wr,Q .ret ⟨⟨[.vs (arr fP t) t.length cap,.aa,.iV (db t i),a3,a4,a5,a6,a7,.vs (arr fP t) t.length cap,.iV t.length,a10],lo,K,[]⟩,wr⟩)
 (hN:db t i=0->∀A o K a3 a5 a6 a7 lo wr,A.length=i+1->jH t A->bS fB 8 175 K o A []->I ⟨⟨[.vs (arr fP t) t.length cap,.aa,.iV 0,a3,o,a5,a6,a7,.vs (arr fP t) t.length cap,.iV t.length,.iV ((i+1:Nat):Int)],lo,K,[]⟩,wr⟩) :
 W M pr ⟨⟨[.vs (arr fP t) t.length cap,.aa,.iV 0,a3,o,a5,a6,a7,.vs (arr fP t) t.length cap,.iV t.length,.iV i],lo,K,[]⟩,wr⟩ (LI I Q):=by
 obtain⟨s1,s2⟩:=hS i hi;have ei:((i:Int)).toNat=i:=by omega
 have q101:=fun v h hf=>C.GH v h t[i]!.1 t[i]!.2 hf (by omega) (by omega)
 rw[GI]at q101;by_cases he:(if cw t[i]!.1≠0 then cw t[i]!.1 else cw t[i]!.2)=0
 . rw[he]at q101;have e1:cw t[i]!.1=0:=by split at he <;> omega
   have e2:cw t[i]!.2=0:=by split at he <;> omega
   obtain⟨x1,d1⟩:=kh e1 s1;obtain⟨x2,d2⟩:=kh e2 s2;obtain⟨v1,k1,q1⟩:=C.uo _ d1;obtain⟨v2,k2,q2⟩:=C.uo _ d2;rw[←x1]at q1;rw[←x2]at q2;obtain⟨c1,rfl⟩:=k1.fc;obtain⟨c2,rfl⟩:=k2.fc;have hH':jH t (acc++[(c1,c2)]):=hH.snoc (by rw[hl];exact k1) (by rw[hl];exact k2);have hroom:(acc.length+1)*128<=dv:=by unfold dv;omega
   have hstep:db t i=if 0<i/\cZ (aX t[i]!.1) (aX t[i-1]!.1)<=0 then 11 else 0:=by unfold db;rw[if_neg (by omega),if_neg (by omega)]
   have hlA:(acc++[(c1,c2)]).length=i+1:=by simp[hl]
   have q148:0<i->∀h,M.ext 148 [.agg (cF (acc++[(c1,c2)])[i-1]!.1),.agg (cF (acc++[(c1,c2)])[i]!.1)] h=some ⟨.iV (cZ (aX t[i-1]!.1) (aX t[i]!.1)),h,[]⟩:=fun hp=>by
    obtain⟨p1,p2,_⟩:=nu (ha (i-1) (by omega));obtain⟨y1,g1⟩:=kh p1 (hS (i-1) (by omega)).1;exact C.Ae _ _ _ _ (hH' (i-1) (by omega)).1 (hH' i (by omega)).1 g1 d1
   have hcmp:∀p q:Rat,cZ p q = -cZ q p:=fun p q=>by
    unfold cZ bg;split <;> split <;> (try split) <;> (try split) <;> omega
   rw[←ei]at q101 q1 q2;unfold pr;repeat' first|(refine bS.app (f:=fB) (m:=[(c1,c2)]) (S:=[]) (fun _=>rfl) Qe (by decide) (((hO.grow [_]).grow [_]).grow [_]) (by simp) rfl rfl (Sl.iJ (f:=fB) (esz:=8) (l:=[(c1,c2)]) (e:=175) (fun _=>rfl) cU rfl) hroom (fun H w' o' ho' hk hlen=>?_))|refine gd3 ?_|refine gd2 ?_|refine gd1 ?_|(apply akc;rfl;rfl;intro _)|(apply abt;rfl;rfl)|(apply adW;rfl;rfl)|(apply aal;rfl;rfl;exact q101 _ _ (uA rfl rfl cU))|refine gc ?_|(intro _;omega)|intro _
   all_goals try omega
   refine ahE (A:=acc++[(c1,c2)]) hlA (by omega) ho' q148 _ _ _ _ _ _ _ _ (fun hp hz lo wr=>?_) (fun hz lo wr=>?_)
   . have rU:db t i=11:=by
      rw[hstep,if_pos];have:=hcmp (aX t[i-1]!.1) (aX t[i]!.1);exact⟨hp,by omega⟩
     rw[rU]at hR;repeat' first|refine gc ?_|fail
     all_goals exact hR (by decide) _ _ _ _ _ _ _ _ _
   . have h00:db t i=0:=by
      rw[hstep,if_neg];rintro⟨hp,hc⟩;have:=hcmp (aX t[i-1]!.1) (aX t[i]!.1);have:=hz hp;omega
     repeat' first|refine gc ?_|fail
     all_goals exact cN (hN h00 _ _ _ _ _ _ _ _ _ hlA hH' ho')
 . have hv:db t i=if cw t[i]!.1≠0 then cw t[i]!.1 else cw t[i]!.2:=by
    unfold db;split
    . rfl
    . rename_i h1;rw[if_neg h1]at he;rw[if_pos he]
   rw[←hv]at he q101;have hR:=hR he;generalize db t i=e at *
   rw[←ei]at q101;unfold pr;exact gg15
theorem Qf (p:FC×FC):bh (fB p)=0:=by simp[fB,bh,AV.top,ahD]
theorem ahG (w:Option (List Int)):bG (wv w)=wv w:=by
 cases w with
 | none=>rfl
 | some l=>rw[wv,bG,kY]
theorem ahH (p:FC×FC):cA (fB p)=fB p:=by simp[fB,cA,bG,ahG]
def Af (t:List (ah×ah))(r:AV):Prop:=fg t≠0/\r = .au [.aa,.iV (fg t)]\/fg t=0/\∃A:List (FC×FC),A.length=t.length/\jH t A/\r = .au [.vs (arr fB A) A.length none,.iV 0]
theorem ahI {A:List (FC×FC)}{K:ab}{o:AV}(hO:bS fB 8 175 K o A [])(hA:0<A.length):ew (aU [o,.iV 0]) (if (aU [o,.iV 0]).top<=0 then [] else K) (.au [.vs (arr fB A) A.length none,.iV 0]):=by
 have hs:=bS.sl (f:=fB) (fun _=>rfl) hO;rcases hO with ⟨h,_⟩|⟨d,cp,_,rfl,hd,_⟩
 . rw[h]at hA;exact absurd hA (Nat.lt_irrefl 0)
 . rw[if_neg (by simp[aU,AV.top,bh])];rcases eu.US Qf hs with ⟨h,_⟩|⟨c,h⟩
   . cases h
   . refine⟨.au [.vs (arr fB A) A.length c,.iV 0],.au rfl fun i x y hx hy=>?_,?_,?_⟩
     . match i,hx,hy with
       | 0,hx,hy=>cases hx;cases hy;exact h
       | 1,hx,hy=>cases hx;cases hy;exact .same rfl
     . simp[AV.top,bh,jQ Qf A]
     . simp[bG,cA,wq ahH A]
theorem Az {t:List (ah×ah)}{e:Int}(h:fg t=e)(he:e≠0)(h':ab):∃r,Af t r/\ew (aU [.aa,.iV e]) h' r:=
 ⟨.au [.aa,.iV e],.inl ⟨by omega,by rw[h]⟩,.same rfl (by simp[aU,bG,cA])⟩
theorem ahJ (C:pw M){t:List (ah×ah)}(hS:iF t)(h64:t.length<=64)(a3 a5 a6 a7:AV)(K:ab)(lo:List (Nat×AV))(wr:List Nat){Q:Ex->aq->Prop}
 (hR:∀e,e≠0->iO t t.length 0=e->∀a3 a4 a5 a6 a7 a10 lo K wr,Q .ret ⟨⟨[.vs (arr fP t) t.length cap,.aa,.iV e,a3,a4,a5,a6,a7,.vs (arr fP t) t.length cap,.iV t.length,a10],lo,K,[]⟩,wr⟩)
 (hN:iO t t.length 0=0->∀A o K a3 a5 a6 a7 lo wr,A.length=t.length->jH t A->bS fB 8 175 K o A []->Q (.exit 0) ⟨⟨[.vs (arr fP t) t.length cap,.aa,.iV 0,a3,o,a5,a6,a7,.vs (arr fP t) t.length cap,.iV t.length,.iV t.length],lo,K,[]⟩,wr⟩) :
 W M (.loop pr) ⟨⟨[.vs (arr fP t) t.length cap,.aa,.iV 0,a3,.aa,a5,a6,a7,.vs (arr fP t) t.length cap,.iV t.length,.iV 0],lo,K,[]⟩,wr⟩ Q:=by
 refine W.gI t.length (fun i s=>∃A o K a3 a5 a6 a7 lo wr,A.length=i/\jH t A/\bS fB 8 175 K o A []/\(∀k,k<i->db t k=0)/\s=⟨⟨[.vs (arr fP t) t.length cap,.aa,.iV 0,a3,o,a5,a6,a7,.vs (arr fP t) t.length cap,.iV t.length,.iV i],lo,K,[]⟩,wr⟩) (fun i s hi ⟨A,o,K,a3,a5,a6,a7,lo,wr,hl,hH,hO,ha,hs⟩=>?_) (fun s ⟨A,o,K,a3,a5,a6,a7,lo,wr,hl,hH,hO,ha,hs⟩=>?_) (Nat.zero_le _) ⟨[],_,K,a3,a5,a6,a7,lo,wr,rfl,fun k hk=>absurd hk (Nat.not_lt_zero k),.mJ,fun k hk=>absurd hk (Nat.not_lt_zero k),rfl⟩
 . subst hs;refine ahF C hS hi h64 ha hl hH hO a3 a5 a6 a7 lo wr (fun he a3 a4 a5 a6 a7 a10 lo K wr=>hR _ he (PU hi ha he) _ _ _ _ _ _ _ _ _) (fun h0 A o K a3 a5 a6 a7 lo wr hl hH hO=>?_);refine⟨A,o,K,a3,a5,a6,a7,lo,wr,hl,hH,hO,fun k hk=>?_,rfl⟩;rcases Nat.lt_or_eq_of_le (Nat.le_of_lt_succ hk) with h|h
   . exact ha k h
   . rw[h];exact h0
 . subst hs;have hN:=hN (PV ha) A o K;unfold pr;exact gg0
attribute [local irreducible] pr
theorem ahK (C:pw M){t:List (ah×ah)}(hS:t.length<=64->iF t)(hl:t.length<1000000):∃r,Af t r/\cD M 145 [.vs (arr fP t) t.length cap] r:=by
 have t12:=C.jB true 12;have f12:=C.jB false 12;have t5:=C.jB true 5;have f5:=C.jB false 5;simp only[if_true,Bool.false_eq_true,if_false]at t12 f12 t5 f5;have q1:∀v h,ie h v=some [12,0]->M.ext 96 [v] h=some ⟨.iV 12,h,[]⟩:=fun v h hi=>C.jj v h _ hi (by decide)
 have q2:∀v h,ie h v=some [0,5]->M.ext 96 [v] h=some ⟨.iV 5,h,[]⟩:=fun v h hi=>C.jj v h _ hi (by decide)
 have q3:∀v h,ie h v=some [0,0]->M.ext 96 [v] h=some ⟨.iV 0,h,[]⟩:=fun v h hi=>C.jj v h _ hi (by decide)
 have r:∃v hh,(∃r,Af t r/\ew v hh r)/\aS M 145 [.vs (arr fP t) t.length cap] [] ⟨v,hh,[]⟩:=by
  refine gH (by rw[C.ft];exact aht) (by simp) ?_;unfold PX;simp only[enter];rcases Nat.eq_zero_or_pos t.length with h0|h0
  . have hE:fg t=12:=by rw[fg,if_pos h0]
    exact gg5
  . rcases Nat.lt_or_ge 64 t.length with h1|h1
    . have hE:fg t=5:=by rw[fg,if_neg (by omega),if_pos h1]
      repeat' first|apply ads|apply dw|apply adt|apply adP|apply afP|apply mf|(apply aff;rfl)|(apply acs;rfl;rfl)|(apply acJ;rfl;rfl)|(apply adW;rfl;rfl)|(apply aal;rfl;rfl;first|exact f12 _|exact t5 _|exact q2 _ _ rfl)|(apply ade;rfl;rfl;rfl)|(apply aak;rfl;rfl)|(apply adU;rfl;rfl)|(intro _;omega)|intro _
      all_goals try omega
      all_goals exact⟨.inr rfl,rfl,_,rfl,Az hE (by decide) _⟩
    . have hE:fg t=iO t t.length 0:=by rw[fg,if_neg (by omega),if_neg (by omega)]
      repeat' first|apply ads|apply dw|apply adt|apply adP|apply ahQ|apply afX|(apply agf;rfl)|(apply acs;rfl;rfl)|(apply acJ;rfl;rfl)|(apply adW;rfl;rfl)|(apply aal;rfl;rfl;first|exact f12 _|exact f5 _|exact q3 _ _ rfl)|(apply ade;rfl;rfl;rfl)|(apply aak;rfl;rfl)|(apply adU;rfl;rfl)|(intro _;omega)|intro _
      all_goals try omega
      all_goals
       refine ahJ C (hS h1) h1 _ _ _ _ _ _ _ (fun e he h a3 a4 a5 a6 a7 a10 lo K wr=>?_) (fun h A o K a3 a5 a6 a7 lo wr hl hH hO=>?_)
      . repeat' first|refine gc ?_|fail
        all_goals exact⟨.inr rfl,rfl,_,rfl,Az (hE.trans h) he _⟩
      . repeat' first|refine gc ?_|fail
        all_goals exact⟨.inr rfl,rfl,_,rfl,_,.inr ⟨hE.trans h,A,hl,hH,rfl⟩,ahI hO (by omega)⟩
 obtain⟨v,hh,⟨r,h1,h2⟩,h3⟩:=r;exact⟨r,h1,v,hh,h2,h3⟩
set_option maxRecDepth 1000000
def Ag:an:=zR [zr 9 .lss 5 4] (.seq (.cond (.l 9) (.skip) (.exit 0)) (.seq (.block 1 (zR [zm 10 5,zw 3 10] (zR [zm 11 1,zm 12 0,zm 13 3,za 14 8 12 13,zT 15 8 14,⟨.l 16,.call (.l 11) [(.l 15)],none⟩] (.cond (.l 16) (zR [zm 17 3,zw 2 17] (.ret)) (.skip))))) (.region [zq 18 .add 5 1,zw 5 18])))
def Qg:an:=zR [zi 2 0] (.seq (zR [zm 6 0,⟨.p 4,.len .sl (.l 6),none⟩,zi 5 0] (.block 0 (.loop Ag))) (zR [zi 2 (-1)] (.ret)))
theorem ahL:FT 146=some ⟨19,[0,1,4,5,7,8],[.var (.p 2)],Qg⟩:=by kernel_rfl
theorem ahM (C:pw M)(hn:∀ars h,M.ext 147 ars h=none){x p:Rat}{cx:FC}{c:FC×FC}(hx:aZ (.agg (cF cx)) x)(hp:aZ (.agg (cF c.1)) p)(dx:Dq 60 x)(dp:Dq 60 p){h:ab}{b:Nat}{e:TypeId}(hb:h.at b=some (.cells (cF cx) e)) :
 CT M (.fn (.func 147) [] [.ptr b 0]) [.agg (fB c)] h ⟨.bool (decide (cZ x p<=0)),h,[]⟩:=by
 have q148:=C.Ae _ _ _ _ hx hp dx dp;refine CT.run (hn _ _) (Uq (by rw[C.ft];exact ahu) (by simp) rfl ?_);unfold PY;simp only[List.nil_append,List.cons_append];simp only[enter];have hb':∀J,(h++J).at b=some (.cells (cF cx) e):=fun J=>dL hb
 exact gg10
noncomputable def dK (t:List (ah×ah))(x:Rat):Nat->Nat->Int
 | 0,_=>-1
 | r+1,i=>if 0<cZ x (aX t[i]!.1) then dK t x r (i+1) else i
theorem GJ {t:List (ah×ah)}{x:Rat}:∀{i n:Nat},i<=n->(∀k,k<i->0<cZ x (aX t[k]!.1))->dK t x n 0=dK t x (n-i) i
 | 0,_,_,_=>rfl
 | i+1,n,h,ha=>by
  have ih:=GJ (i:=i) (n:=n) (by omega) fun k hk=>ha k (by omega)
  rw[ih,show n-i=n-(i+1)+1 by omega,dK,if_pos (ha i (by omega))]
theorem ahN {t:List (ah×ah)}{x:Rat}{i n:Nat}(h:i<n)(ha:∀k,k<i->0<cZ x (aX t[k]!.1))(hi:¬0<cZ x (aX t[i]!.1)):dK t x n 0=i:=by
 rw[GJ (by omega) ha,show n-i=n-(i+1)+1 by omega,dK,if_neg hi]
theorem ahO {t:List (ah×ah)}{x:Rat}{n:Nat}(ha:∀k,k<n->0<cZ x (aX t[k]!.1)):dK t x n 0 = -1:=by
 rw[GJ (Nat.le_refl _) ha,Nat.sub_self,dK]
theorem GK (t:List (ah×ah))(x:Rat):∀r i,dK t x r i = -1\/(i:Int)<=dK t x r i/\dK t x r i<(i+r:Nat)
 | 0,_=>.inl rfl
 | r+1,i=>by
  rw[dK];split
  . rcases GK t x r (i+1) with h|h
    . exact .inl h
    . exact .inr (by omega)
  . exact .inr (by omega)
theorem GL (t:List (ah×ah))(x:Rat):∀r i,jG t x r i=if dK t x r i = -1 then aX t[t.length-1]!.2 else if dK t x r i=0 then aX t[0]!.2 else
 aX t[(dK t x r i).toNat-1]!.2+(x-aX t[(dK t x r i).toNat-1]!.1)*(aX t[(dK t x r i).toNat]!.1-aX t[(dK t x r i).toNat-1]!.1)⁻¹*(aX t[(dK t x r i).toNat]!.2-aX t[(dK t x r i).toNat-1]!.2)
 | 0,_=>rfl
 | r+1,i=>by
  by_cases hc:0<cZ x (aX t[i]!.1)
  . have e:dK t x (r+1) i=dK t x r (i+1):=by rw[dK,if_pos hc]
    rw[e,jG,if_pos hc];exact GL t x r (i+1)
  . have e:dK t x (r+1) i=i:=by rw[dK,if_neg hc]
    rw[e,jG,if_neg hc,Int.toNat_natCast,if_neg (show ¬(i:Int) = -1 by omega)];by_cases h:i=0
    . rw[if_pos h,if_pos (by omega)]
    . rw[if_neg h,if_neg (by omega)]
theorem ahP (C:pw M)(hn:∀ars h,M.ext 147 ars h=none)(hm:∀ars h,M.ext 146 ars h=none){t:List (ah×ah)}(h64:t.length<=64){A:List (FC×FC)}(hl:A.length=t.length)(hA:jH t A)(hd:∀i,i<t.length->Dq 60 (aX t[i]!.1)){x:Rat}{cx:FC}(hx:aZ (.agg (cF cx)) x)(dx:Dq 60 x){h:ab}{b:Nat}{e:TypeId}(hb:h.at b=some (.cells (cF cx) e)){n:Option Nat} :
 CT M (.fn (.func 146) [] []) [.vs (arr fB A) A.length n,.fn (.func 147) [] [.ptr b 0]] h ⟨.iV (dK t x t.length 0),h,[]⟩:=by
 refine CT.run (hm _ _) (mI (by rw[C.ft];exact ahL) (by simp) ?_);unfold Qg;simp only[List.nil_append,List.append_nil];simp only[enter];repeat' first|refine gc ?_|fail
 refine W.gI t.length (fun i s=>(∀k,k<i->0<cZ x (aX t[k]!.1))/\∃a3 lo,s=⟨⟨[.vs (arr fB A) A.length n,.fn (.func 147) [] [.ptr b 0],.iV 0,a3,.iV A.length,.iV i],lo,h,[]⟩,[]⟩) (fun i s hi ⟨ha,a3,lo,hs⟩=>?_) (fun s ⟨ha,a3,lo,hs⟩=>?_) (Nat.zero_le _) ⟨fun k hk=>absurd hk (Nat.not_lt_zero k),_,_,rfl⟩
 . subst hs;have ei:((i:Int)).toNat=i:=by omega
   have q:=ahM C hn hx (hA i (by omega)).1 dx (hd i hi) hb;by_cases hc:0<cZ x (aX t[i]!.1)
   . rw[decide_eq_false (by omega),←ei]at q;unfold Ag;repeat' first|(apply abt;rfl;rfl)|refine gd4 ?_|refine gc ?_|(intro _;omega)|intro _
     all_goals try omega
     all_goals
      refine cN ⟨fun k hk=>?_,_,_,rfl⟩;rcases Nat.lt_or_eq_of_le (Nat.le_of_lt_succ hk) with h|h
      . exact ha k h
      . rw[h];exact hc
   . rw[decide_eq_true (by omega),←ei]at q;have hf:=ahN hi ha hc;unfold Ag;repeat' first|(apply abt;rfl;rfl)|refine gd4 ?_|refine gc ?_|(intro _;omega)|intro _
     all_goals try omega
     all_goals
      exact⟨.inr rfl,rfl,rfl,rfl,_,rfl,by rw[hf];rfl⟩
 . subst hs;have hf:=ahO ha;unfold Ag;exact gg0
structure GM (M:aw):Prop extends pw M where
 Qh:∀ars h,M.ext 146 ars h=none
 Qi:∀ars h,M.ext 147 ars h=none
 Qj:∀(s:ah) h,s.length<1000000->M.ext 84 [.str s] h=some ⟨.iV (cw s),h,[]⟩
 GN:∀(t:List (ah×ah)) cap,(t.length<=64->iF t)->t.length<1000000->∃r,Af t r/\∀h,M.ext 145 [.vs (arr fP t) t.length cap] h=some ⟨r,h,[]⟩
 Ah:∀a b p q,aZ a p->aZ b q->Dq 450 p->Dq 450 q->∃v0,aZ v0 (p-q)/\∀h,M.ext 149 [a,b] h=some ⟨v0,h,[]⟩
 Qk:∀a b p q,aZ a p->aZ b q->Dq 450 p->Dq 450 q->q≠0->∃v0,aZ v0 (p*q⁻¹)/\∀h,M.ext 150 [a,b] h=some ⟨v0,h,[]⟩
 sX:∀a b p q,aZ a p->aZ b q->Dq 450 p->Dq 450 q->∃v0,aZ v0 (p+q)/\∀h,M.ext 151 [a,b] h=some ⟨v0,h,[]⟩
 sY:∀a b p q,aZ a p->aZ b q->Dq 450 p->Dq 450 q->∃v0,aZ v0 (p*q)/\∀h,M.ext 152 [a,b] h=some ⟨v0,h,[]⟩
 Ai:∀v q,aZ v q->Dq 450 q->∀h,M.ext 105 [v] h=some ⟨.au [.str (ao q),.iV 0],h,[]⟩
theorem w74 (C:GM M){t:List (ah×ah)}(hS:t.length<=64->iF t)(hl:t.length<1000000):aS M 74 [.vs (arr fP t) t.length cap] [] ⟨.iV (fg t),[],[]⟩:=by
 obtain⟨r,hr,q145⟩:=C.GN t cap hS hl;refine bC (by rw[C.ft];exact ahs) (by simp) ?_;rcases hr with ⟨_,rfl⟩|⟨h0,A,_,_,rfl⟩
 . unfold GB;simp only[enter];exact gg1
 . rw[h0];unfold GB;simp only[enter];exact gg1
noncomputable def jm (t:List (ah×ah))(x:ah):Int:=if fg t≠0 then fg t else cw x
noncomputable def kP (t:List (ah×ah))(x:ah):ah:=if jm t x≠0 then [] else ao (nt t (aX x))
theorem GO {t:List (ah×ah)}(h:fg t=0):0<t.length/\t.length<=64/\∀i,i<t.length->db t i=0:=by
 unfold fg at h;split at h
 . omega
 . split at h
   . omega
   . refine⟨by omega,by omega,fun i hi=>?_⟩;have key:∀r i,iO t r i=0->∀k,k<r->db t (i+k)=0:=by
      intro r;induction r with
      | zero=>intro i _ k hk;omega
      | succ r ih=>
       intro i h0 k hk;rw[iO]at h0;split at h0
       . omega
       . rename_i h1;cases k with
         | zero=>rw[Nat.add_zero];omega
         | succ k=>rw[show i+(k+1)=i+1+k by omega];exact ih _ h0 k (by omega)
     have:=key _ _ h i hi;rwa [Nat.zero_add]at this
theorem jH.get {t:List (ah×ah)}{A:List (FC×FC)}(h:jH t A)(hl:A.length=t.length){i:Nat}(hi:i<t.length):aZ (.agg (cF A[i]!.1)) (aX t[i]!.1)/\aZ (.agg (cF A[i]!.2)) (aX t[i]!.2):=h i (by omega)
theorem rm {t:List (ah×ah)}(hS:iF t){i:Nat}(hi:i<t.length)(h:db t i=0):Dq 60 (aX t[i]!.1)/\Dq 60 (aX t[i]!.2):=by
 obtain⟨h1,h2,_⟩:=nu h;exact⟨(kh h1 (hS i hi).1).2,(kh h2 (hS i hi).2).2⟩
theorem sub_pos {p q:Rat}(h:0<cZ p q):p-q≠0:=fun e=>by
 rw[←EX,e,EW]at h;exact absurd h (by decide)
theorem Ql (p:FC×FC):(fB p).all cG=true:=Qe p
theorem GP (c:FC):(cF c).all cG=true:=by simp[cF,List.all_cons,Qd,fO]
theorem w61 (C:GM M){t:List (ah×ah)}(hS:t.length<=64->iF t)(hl:t.length<1000000){x:ah}(hx:x.length<=60):aS M 61 [.vs (arr fP t) t.length cap,.str x] [] ⟨.au [.str (kP t x),.iV (jm t x)],[],[]⟩:=by
 obtain⟨r,hr,q145⟩:=C.GN t cap hS hl;have q84:=fun h=>C.Qj x h (by omega)
 have q96:=fun v h hi=>C.jj v h [fg t,cw x] hi (by simp)
 rw[GI]at q96;refine bC (by rw[C.ft];exact ahr) (by simp) ?_;rcases hr with ⟨h0,rfl⟩|⟨h0,A,hA,hH,rfl⟩
 . have hE:jm t x=fg t:=by rw[jm,if_pos h0]
   rw[if_pos h0]at q96;have hs:kP t x=[]:=by rw[kP,if_pos (by omega)]
   rw[hs,hE];generalize fg t=e at *
   unfold rj;simp only[enter];exact gg4
 . rw[h0]at q96;by_cases h1:cw x=0
   . have hE:jm t x=0:=by rw[jm,if_neg (by omega),h1]
     have hs:kP t x=ao (nt t (aX x)):=by rw[kP,if_neg (by omega)]
     rw[hs,hE];obtain⟨ex,dx⟩:=kh h1 hx;obtain⟨v0,kx,q103⟩:=C.uo _ dx;rw[←ex]at q103;obtain⟨cx,rfl⟩:=kx.fc;obtain⟨p0,p64,pz⟩:=GO h0;have hS:=hS p64;have q146:∀{h:ab} {b:Nat} {e:TypeId},h.at b=some (.cells (cF cx) e)->CT M (.fn (.func 146) [] []) [.vs (arr fB A) A.length none,.fn (.func 147) [] [.ptr b 0]] h ⟨.iV (dK t (aX x) t.length 0),h,[]⟩:=fun hb=>
      ahP C.topw C.Qi C.Qh p64 hA hH (fun i hi=>(rm hS hi (pz i hi)).1) kx dx hb
     have q96:∀v h,ie h v=some [0,0]->M.ext 96 [v] h=some ⟨.iV 0,h,[]⟩:=fun v h hi=>C.jj v h _ hi (by decide)
     rw[h1]at q84;have hv:nt t (aX x)=_:=GL t (aX x) t.length 0;rcases GK t (aX x) t.length 0 with hI|⟨g1,g2⟩
     . rw[hI]at q146;rw[hv,if_pos hI];have q105:=C.Ai _ _ (hH.get hA (i:=t.length-1) (by omega)).2 ((rm hS (by omega) (pz _ (by omega))).2.mono (by decide));have ei:((A.length:Int)-1).toNat=t.length-1:=by omega
       rw[←ei]at q105;unfold rj;simp only[enter];repeat' first|(apply aiC;rfl;rfl;exact⟨rfl,Nat.le_refl _,GP cx⟩;rfl)|apply ads|apply dw|apply adt|apply adP|apply ahQ|apply afP|apply afX|apply mf|apply As|(apply aff;rfl)|(apply agf;rfl)|(apply acJ;rfl;rfl)|(apply adW;rfl;rfl)|(apply ahc;rfl;rfl;omega)|(apply aal;rfl;rfl;first|exact q145 _|exact q84 _|exact q96 _ _ rfl|exact q103 _|exact q105 _)|(apply aeT;rfl;rfl;exact q146 rfl)|(apply aiq;rfl;rfl;omega)|(apply aiM;rfl;exact fun _=>rfl;(first|omega|(simp only[List.length_set];omega)|(simp;omega));decide;rfl;case ia=>infer_instance)|(apply ade;rfl;rfl;rfl)|(apply agt;rfl;rfl;rfl)|(apply aak;rfl;rfl)|(apply adU;rfl;rfl)|(intro _;omega)|intro _
       all_goals try omega
       all_goals exact⟨.inr rfl,rfl,_,rfl,by rw[ei];rfl,rfl⟩
     . rw[Int.natCast_zero]at g1;rcases Int.lt_or_eq_of_le g1 with g0|g0
       . obtain⟨i,hI⟩:∃i:Nat,dK t (aX x) t.length 0=i:=⟨(dK t (aX x) t.length 0).toNat,by omega⟩;have hi:0<i/\i<t.length:=by omega
         rw[hI]at q146;rw[hv,hI,if_neg (by omega),if_neg (by omega),Int.toNat_natCast];obtain⟨k1,k2⟩:=hH.get hA (i:=i-1) (by omega);obtain⟨k3,k4⟩:=hH.get hA (i:=i) (by omega);obtain⟨d1,d2⟩:=rm hS (i:=i-1) (by omega) (pz _ (by omega));obtain⟨d3,d4⟩:=rm hS (i:=i) (by omega) (pz _ (by omega));have hne:=sub_pos ((nu (pz i hi.2)).2.2 hi.1);have ej:((i:Int)-1).toNat=i-1:=by omega
         have ei:((i:Int)).toNat=i:=by omega
         generalize aX t[i-1]!.1=p1 at *
         generalize aX t[i-1]!.2=p2 at *
         generalize aX t[i]!.1=p3 at *
         generalize aX t[i]!.2=p4 at *
         have d13:=dx.sub d1;have d31:=d3.sub d1;have d42:=d4.sub d2;have dq:=d13.mul (d31.inv hne);have dm:=dq.mul d42;have da:=d2.add dm;obtain⟨v1,l1,q1⟩:=C.Ah _ _ _ _ kx k1 (dx.mono (by decide)) (d1.mono (by decide));obtain⟨v2,l2,q2⟩:=C.Ah _ _ _ _ k3 k1 (d3.mono (by decide)) (d1.mono (by decide));obtain⟨v3,l3,q3⟩:=C.Qk _ _ _ _ l1 l2 (d13.mono (by decide)) (d31.mono (by decide)) hne;obtain⟨c3,rfl⟩:=l3.fc;obtain⟨v4,l4,q4⟩:=C.Ah _ _ _ _ k4 k2 (d4.mono (by decide)) (d2.mono (by decide));obtain⟨v5,l5,q5⟩:=C.sY _ _ _ _ l3 l4 (dq.mono (by decide)) (d42.mono (by decide));obtain⟨v6,l6,q6⟩:=C.sX _ _ _ _ k2 l5 (d2.mono (by decide)) (dm.mono (by decide));have q7:=C.Ai _ _ l6 (da.mono (by decide));have q1:∀h,M.ext 149 [.agg (cF cx),.agg (cF A[((i:Int)-1).toNat]!.1)] h=some ⟨v1,h,[]⟩:=by rw[ej];exact q1
         have q2:∀h,M.ext 149 [.agg (cF A[((i:Int)).toNat]!.1),.agg (cF A[((i:Int)-1).toNat]!.1)] h=some ⟨v2,h,[]⟩:=by rw[ej,ei];exact q2
         have q4:∀h,M.ext 149 [.agg (cF A[((i:Int)).toNat]!.2),.agg (cF A[((i:Int)-1).toNat]!.2)] h=some ⟨v4,h,[]⟩:=by rw[ej,ei];exact q4
         have q6:∀h,M.ext 151 [.agg (cF A[((i:Int)-1).toNat]!.2),v5] h=some ⟨v6,h,[]⟩:=by rw[ej];exact q6
         unfold rj;simp only[enter];repeat' first|(apply aiO;rfl;(first|(focus((repeat' first|exact cU|assumption|apply dL);done))|exact fx (by simp));rfl)|(apply aiC;rfl;rfl;exact⟨rfl,Nat.le_refl _,GP _⟩;rfl)|(apply ajt;rfl;rfl;exact⟨rfl,Nat.le_refl _,Ql _⟩;rfl)|(apply aju;rfl;rfl;simp;exact⟨rfl,Nat.le_refl _,Ql _⟩;rfl)|(apply ahy;rfl;rfl;(first|(simp only[nca];rfl)|rfl);first|exact q1 _|exact q2 _|exact q3 _|exact q4 _|exact q5 _|exact q6 _|exact q7 _)|apply ads|apply dw|apply adt|apply adP|apply ahQ|apply afP|apply afX|apply uw|apply agJ|apply agV|(apply agW;rfl)|(apply ahC;rfl;rfl;(first|(simp only[nca];rfl)|rfl))|(apply aiz;rfl;(first|(simp only[];rfl)|rfl);(first|(simp only[];rfl)|rfl))|(apply aiA;rfl)|(apply agf;rfl)|(apply acJ;rfl;rfl)|(apply adW;rfl;rfl)|(apply ahc;rfl;rfl;omega)|(apply aal;rfl;rfl;first|exact q145 _|exact q84 _|exact q96 _ _ rfl|exact q103 _)|(apply aeT;rfl;rfl;exact q146 rfl)|(apply aiq;rfl;rfl;omega)|(apply aiB;rfl;exact fun _=>rfl;(first|omega|(simp only[List.length_set];omega)|(simp;omega));decide;rfl;case ia=>infer_instance)|(apply ade;rfl;rfl;rfl)|(apply agt;rfl;rfl;rfl)|(apply aak;rfl;rfl)|(apply adU;rfl;rfl)|(intro _;omega)|intro _
         all_goals try omega
         all_goals exact⟨.inr rfl,rfl,_,rfl,rfl,rfl⟩
       . rw[←g0]at q146;rw[hv,if_neg (by omega),if_pos g0.symm];have q105:=C.Ai _ _ (hH.get hA (i:=0) (by omega)).2 ((rm hS (by omega) (pz _ (by omega))).2.mono (by decide));rw[show (0:Nat)=((0:Int)).toNat from rfl]at q105;unfold rj;simp only[enter];repeat' first|(apply aiC;rfl;rfl;exact⟨rfl,Nat.le_refl _,GP cx⟩;rfl)|apply ads|apply dw|apply adt|apply adP|apply ahQ|apply afP|apply afX|apply mf|apply As|(apply aff;rfl)|(apply agf;rfl)|(apply acJ;rfl;rfl)|(apply adW;rfl;rfl)|(apply aal;rfl;rfl;first|exact q145 _|exact q84 _|exact q96 _ _ rfl|exact q103 _|exact q105 _)|(apply aeT;rfl;rfl;exact q146 rfl)|(apply aiq;rfl;rfl;omega)|(apply aiM;rfl;exact fun _=>rfl;(first|omega|(simp only[List.length_set];omega)|(simp;omega));decide;rfl;case ia=>infer_instance)|(apply ade;rfl;rfl;rfl)|(apply agt;rfl;rfl;rfl)|(apply aak;rfl;rfl)|(apply adU;rfl;rfl)|(intro _;omega)|intro _
         all_goals try omega
         all_goals exact⟨.inr rfl,rfl,_,rfl,rfl,rfl⟩
   . have hE:jm t x=cw x:=by rw[jm,if_neg (by omega)]
     rw[if_neg (by omega)]at q96;have hs:kP t x=[]:=by rw[kP,if_pos (by omega)]
     rw[hs,hE];generalize cw x=e at *
     unfold rj;simp only[enter];exact gg4
theorem ahS {t:List (ah×ah)}(hS:iF t)(h0:fg t=0){x:Rat}(dx:Dq 60 x):Dq 424 (nt t x):=by
 obtain⟨p0,p64,pz⟩:=GO h0;have d:=fun i hi=>rm hS (i:=i) hi (pz i hi)
 rw[nt,GL];rcases GK t x t.length 0 with hI|⟨g1,g2⟩
 . rw[if_pos hI];exact(d _ (by omega)).2.mono (by decide)
 . rw[if_neg (by omega)];by_cases h:dK t x t.length 0=0
   . rw[if_pos h];exact(d _ p0).2.mono (by decide)
   . rw[if_neg h];obtain⟨i,hI⟩:∃i:Nat,dK t x t.length 0=i:=⟨(dK t x t.length 0).toNat,by omega⟩;rw[hI,Int.toNat_natCast];have hi:0<i/\i<t.length:=by omega
     obtain⟨d1,d2⟩:=d (i-1) (by omega);obtain⟨d3,d4⟩:=d i (by omega);have hne:=sub_pos ((nu (pz i hi.2)).2.2 hi.1);exact d2.add (((dx.sub d1).mul ((d3.sub d1).inv hne)).mul (d4.sub d2))
theorem ahT {t:List (ah×ah)}(h:lZ 70 60 t=true):iF t/\t.length<=70:=by
 unfold lZ at h;rw[Bool.and_eq_true,List.all_eq_true,decide_eq_true_eq]at h;refine⟨fun i hi=>?_,h.2⟩;have:=h.1 t[i]! (by
  rw[List.take_of_length_le (by omega),getElem!_pos t i hi];exact List.getElem_mem hi)
 simpa using this
structure Qm (M:aw):Prop where
 ft:M.FT=FT
 Qn:∀h,M.ext 18 [] h=some ⟨.bool true,h,[]⟩
 Qo:∀(t:List (ah×ah)) cap h,M.ext 71 [.vs (arr fP t) t.length cap,.iV 70,.iV 60] h=some ⟨.bool (lZ 70 60 t),h,[]⟩
 Qp:∀v h a,cO h v (.vs [.str a] 1 none)->M.ext 72 [v] h=some ⟨.bool (decide (a.length<=60)),h,[]⟩
 Qq:∀(t:List (ah×ah)) cap h,t.length<1000000->iF t->M.ext 73 [.vs (arr fP t) t.length cap] h=some ⟨.iV (fg t),h,[]⟩
 Qr:∀(t:List (ah×ah)) cap h,t.length<1000000->iF t->M.ext 74 [.vs (arr fP t) t.length cap] h=some ⟨.iV (fg t),h,[]⟩
 Qs:∀(t:List (ah×ah)) cap (x:ah) h,t.length<1000000->iF t->x.length<=60->M.ext 61 [.vs (arr fP t) t.length cap,.str x] h=some ⟨.au [.str (kP t x),.iV (jm t x)],h,[]⟩
 rl:∀(s:ah) h,s.length<=60->M.ext 62 [.str s] h=some ⟨.iV (cw s),h,[]⟩
 Qt:∀v h l,ie h v=some l->l.length<1000->M.ext 24 [v] h=some ⟨.iV (dD l),h,[]⟩
 Qu:∀(t:List (ah×ah)) cap (x:ah) h,t.length≠0->t.length<=64->iF t->jl x->(∀i,i<t.length->db t i=0)->M.ext 76 [.vs (arr fP t) t.length cap,.str x] h=some ⟨.str (ao (nt t (aX x))),h,[]⟩
 Qv:∀e h,e≠0->M.ext 75 [.str [],.iV e,.iV e,.str []] h=some ⟨.bool true,h,[]⟩
 Qw:∀q h,Dq 600 q->M.ext 75 [.str (ao q),.iV 0,.iV 0,.str (ao q)] h=some ⟨.bool true,h,[]⟩
theorem w14 (C:Qm M)(t:List (ah×ah))(x:ah):aS M 14 [.vs (arr fP t) t.length cap,.str x] [] ⟨.bool true,[],[]⟩:=by
 refine bC (by rw[C.ft];exact ahq) (by simp) ?_;have q18:=C.Qn;have q71:=fun h=>C.Qo t cap h
 have q72:=fun v h hf=>C.Qp v h x hf
 unfold PW;simp only[enter];cases hs:lZ 70 60 t
 . rw[hs]at q71;exact gg1
 . rw[hs]at q71;by_cases hx:x.length<=60
   . rw[decide_eq_true hx]at q72;obtain⟨hS,hl70⟩:=ahT hs;have hl:t.length<1000000:=by omega
     have q73:=fun h=>C.Qq t cap h hl hS
     have q74:=fun h=>C.Qr t cap h hl hS
     have q61:=fun h=>C.Qs t cap x h hl hS hx
     have q62:=fun h=>C.rl x h hx
     have q24:∀v h,ie h v=some [fg t,cw x]->M.ext 24 [v] h=some ⟨.iV (jm t x),h,[]⟩:=fun v h hi=>by
      rw[C.Qt v h _ hi (by simp),GI];rfl
     by_cases hE:jm t x=0
     . have h0:fg t=0/\cw x=0:=by
        unfold jm at hE;split at hE
        . omega
        . omega
       obtain⟨ex,dx⟩:=kh h0.2 hx;obtain⟨p0,p64,pz⟩:=GO h0.1;have q76:=fun h=>C.Qu t cap x h (by omega) p64 hS ⟨h0.2,hx⟩ pz
       have q75:=fun h=>C.Qw _ h ((ahS hS h0.1 dx).mono (by decide))
       rw[kP,if_neg (by omega),hE]at q61;rw[hE,h0.1,h0.2]at q24;rw[h0.1]at q73 q74;rw[h0.2]at q62;exact gg5
     . have q75:=fun h=>C.Qv _ h hE
       rw[kP,if_pos hE]at q61;generalize jm t x=e at *
       generalize fg t=e1 at *
       generalize cw x=e2 at *
       exact gg5
   . rw[decide_eq_false hx]at q72;exact gg5
open Go.Proofs
theorem uq (t:List (ah×ah))(n:Nat)(cap:Option Nat):(AV.vs (arr fP t) n cap).top=0:=jQ (fun _=>rfl) t
noncomputable def Qx:Spec:=sK [] 71
theorem ahV:aR Tryz.prog gl 71 Qx:=bc bx
noncomputable def Aj:List (Nat×Spec):=[(62,zE),(55,Gt),(57,uj),(52,Gu),(53,ri),(90,rf)]
theorem Qy:cf Tryz.prog gl (bk Aj):=aL OB (aL agT (aL PN (aL agU (aL PM (aL PL bx)))))
theorem Qz:rk (aY Tryz.prog FT Aj) where
 ft:=bm
 rl:=fun s h hl=>OC s h (by omega)
 PZ:=fun p q h hp hq=>k55 p q h hp hq
 Ad:=fun p q h hp hq=>PQ p q h hp hq
 Qa:=fun p q h hp hq h0=>k52 p q h hp hq h0
 Qb:=fun p q h hp hq=>agY p q h hp hq
 Qc:=fun p q h hp hq=>agX p q h hp hq
noncomputable def QA:Spec:=sK Aj 73
noncomputable def QB:Spec:=sK Aj 76
theorem ahW:aR Tryz.prog gl 73 QA:=bc Qy
theorem ahX:aR Tryz.prog gl 76 QB:=bc Qy
noncomputable def GR:List (Nat×Spec):=[(97,sx),(96,ky),(101,yQ),(103,yN),(148,xN)]
theorem ahY:cf Tryz.prog gl (bk GR):=aL CY (aL CZ (aL NB (aL Ny (aL KY bx))))
theorem cOn:pw (aY Tryz.prog FT GR) where
 ft:=bm
 jB:=fun _ _ _=>rfl
 jj:=fun v h l hl hn=>yP hl hn
 GH:=fun v h a b hf ha hb=>NC v h a b hf ha hb
 uo:=fun q hq=>Nz (N:=1000) (by decide) (by decide) q (hq.lq (by decide) (by decide))
 Ae:=fun a b p q ha hb hp hq=>Lb (N:=1000) (by decide) (by decide) a b p q ha hb (hp.bq (by decide)) (hq.bq (by decide))
noncomputable def QC:Spec:=sK GR 145
theorem aia:aR Tryz.prog gl 145 QC:=bc ahY
noncomputable def Ak:List (Nat×Spec):=[(97,sx),(96,ky),(101,yQ),(103,yN),(148,xN),(84,tH),(145,QC),(149,DS),(150,DT),(151,tj),(152,th),(105,Fc)]
theorem QD:cf Tryz.prog gl (bk Ak):=aL CY (aL CZ (aL NB (aL Ny (aL KY (aL NA (aL aia (aL ZO (aL ZP (aL Le (aL KX (aL adG bx)))))))))))
theorem QE:GM (aY Tryz.prog FT Ak) where
 ft:=bm
 jB:=fun _ _ _=>rfl
 jj:=fun v h l hl hn=>yP hl hn
 GH:=fun v h a b hf ha hb=>NC v h a b hf ha hb
 uo:=fun q hq=>Nz (N:=1000) (by decide) (by decide) q (hq.lq (by decide) (by decide))
 Ae:=fun a b p q ha hb hp hq=>Lb (N:=1000) (by decide) (by decide) a b p q ha hb (hp.bq (by decide)) (hq.bq (by decide))
 Qh:=fun _ _=>rfl
 Qi:=fun _ _=>rfl
 Qj:=fun s h hl=>Fe s h hl
 GN:=fun t cap hS hl=>by
  obtain⟨r,h1,h2⟩:=ahK (cap:=cap) cOn hS hl;exact⟨r,h1,cY h2 (gw (uq t _ cap))⟩
 Ah:=fun a b p q ha hb hp hq=>ZQ (N:=1000) (by decide) (by decide) a b p q ha hb (hp.bq (by decide)) (hq.bq (by decide))
 Qk:=fun a b p q ha hb hp hq h0=>ZR (N:=1000) (by decide) (by decide) a b p q ha hb (hp.bq (by decide)) (hq.bq (by decide)) ((hq.inv h0).bq (by decide)) h0
 sX:=fun a b p q ha hb hp hq=>Lf (N:=1000) (by decide) (by decide) a b p q ha hb (hp.bq (by decide)) (hq.bq (by decide))
 sY:=fun a b p q ha hb hp hq=>La (N:=1000) (by decide) (by decide) a b p q ha hb (hp.bq (by decide)) (hq.bq (by decide))
 Ai:=fun v q hv hq=>adH v q hv hq
noncomputable def QF:Spec:=sK Ak 74
noncomputable def QG:Spec:=sK Ak 61
theorem aib:aR Tryz.prog gl 74 QF:=bc QD
theorem aic:aR Tryz.prog gl 61 QG:=bc QD
noncomputable def GS:List (Nat×Spec):=[(18,CX),(71,Qx),(72,PS),(73,QA),(74,QF),(61,QG),(62,zE),(24,ky),(76,QB),(75,PR)]
theorem aid:cf Tryz.prog gl (bk GS):=aL VM (aL ahV (aL ahi (aL ahW (aL aib (aL aic (aL OB (aL VW (aL ahX (aL ahh bx)))))))))
theorem c14:Qm (aY Tryz.prog FT GS) where
 ft:=bm
 Qn:=fun h=>VN h
 Qo:=fun t cap h=>bL (w71 (M:=aY Tryz.prog FT []) (cap:=cap) bm t 70 60 (by decide)) (by simp[bh,AV.top];exact jQ (fun _=>rfl) t) rfl rfl h
 Qp:=fun v h a hf=>ot (ahm (M:=aY Tryz.prog FT []) (cap:=none) bm a) rfl rfl rfl (.cons hf .nil)
 Qq:=fun t cap h hl hS=>bL (w73 (cap:=cap) Qz t hl hS) (gw (uq t _ cap)) rfl rfl h
 Qr:=fun t cap h hl hS=>bL (w74 (cap:=cap) QE (fun _=>hS) hl) (gw (uq t _ cap)) rfl rfl h
 Qs:=fun t cap x h hl hS hx=>bL (w61 (cap:=cap) QE (fun _=>hS) hl hx) (eA (uq t _ cap) rfl) rfl rfl h
 rl:=fun s h hl=>OC s h (by omega)
 Qt:=fun v h l hl hn=>yP hl hn
 Qu:=fun t cap x h h0 h64 hS hx hT=>bL (w76 (cap:=cap) Qz t x h0 h64 hS hx hT) (eA (uq t _ cap) rfl) rfl rfl h
 Qv:=fun e h he=>bL (ags (M:=aY Tryz.prog FT [(108,uk)]) bm he) rfl rfl rfl h
 Qw:=fun q h hq=>bL (w75 (M:=aY Tryz.prog FT [(108,uk)]) bm fun h=>ahj q h hq) rfl rfl rfl h
end Go.Ab.Ch1
