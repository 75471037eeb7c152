import Derived.Test.YtcjphdmkgmkabaaGreatDoorLib8
open List renaming length_range→b6,range→b7
open Nat renaming le_refl→b5
set_option maxHeartbeats 8000000
set_option maxRecDepth 20000
namespace Go.Ab.Ch1
open Go.Ab.aU
variable {M:aw} {cap:Option Nat}
noncomputable def jc (n:Nat)(q:QM):AV:=match eL n n 0 q with
 | none=>.au [.ab,.int .i64 15]
 | some r=>if gY (fun a=>r a n) n 0 then .au [.ab,.int .i64 4] else .au [.vs (arr fS (gV r n)) n none,.int .i64 0]
theorem Si (s:ah):bc (fS s)=0:=rfl
theorem akj (s:ah):cG (fS s)=fS s:=rfl
theorem akk {A:List ah}{K:aa}{o:AV}{S:List Nat}{n:Nat}(hO:bj fS 1 75 K o A S)(hA:A.length=n)(h0:0<n):dZ (aW [o,.iV 0]) (if (aW [o,.iV 0]).top<=0 then [] else K) (.au [.vs (arr fS A) n none,.iV 0]):=by
 subst hA;have hs:=bj.sl (f:=fS) (fun _=>rfl) hO;rcases hO with ⟨h,_⟩|⟨d,cp,_,rfl,hd,_⟩
 . rw[h]at h0;exact absurd h0 (Nat.lt_irrefl 0)
 . rw[if_neg (by simp[aW,AV.top,bc])];rcases eH.Xb Si hs with ⟨h,_⟩|⟨c,h⟩
   . cases h
   . refine⟨.au [.vs (arr fS A) A.length c,.iV 0],.au rfl fun i x y hx hy=>?_,?_,?_⟩
     . match i,hx,hy with
       | 0,hx,hy=>cases hx;cases hy;exact h
       | 1,hx,hy=>cases hx;cases hy;exact .same rfl
     . simp[AV.top,bc,jK Si A]
     . simp[bL,cG,ra akj A]
theorem akl (C:mQ M){n c6:Nat}{r:QM}(hn:n<=24)(dr:∀i,i<n->Dq 10000 (r i n))
 (a0 a1 a3 a5 a6 a7 a8 a9 aA aF aG aH aI aJ:AV) {Q:Ex->aq->Prop} {K0:aa} {rs:List (Nat×Option Nat)} {A:List (List FC)} (hM:bQ cF 4 (n+1) 133 127 K0 c6 rs A) (hA:A.length=n) (hH:gK n (n+1) A r)
 (hE:gY (fun a=>r a n) n 0=true->∀K p0 p1 p4 p5 p6 p7 p8 p9 p10 p11 p12 p13 p14 p15 p16 p17 p18 p19 p20 p21 p22 lo wr,Q .ret ⟨⟨[p0,p1,.ab,.iV 4,p4,p5,p6,p7,p8,p9,p10,p11,p12,p13,p14,p15,p16,p17,p18,p19,p20,p21,p22],lo,K,[]⟩,wr⟩)
 (hQ:gY (fun a=>r a n) n 0=false->∀K o aC aD aE lo wr,bj fS 1 75 K o (gV r n) (gu c6 rs)->Q (.exit 4) ⟨⟨[a0,a1,.ab,a3,.iV n,a5,a6,a7,a8,a9,aA,o,aC,aD,aE,aF,aG,aH,aI,aJ,.sl c6 0 n 1 none,.iV n,.iV n],lo,K,[]⟩,wr⟩)
 (aC aD aE:AV) (lo:List (Nat×AV)) (wr:List Nat) :
 W M (.loop Bm) ⟨⟨[a0,a1,.ab,a3,.iV n,a5,a6,a7,a8,a9,aA,.ab,aC,aD,aE,aF,aG,aH,aI,aJ,.sl c6 0 n 1 none,.iV n,.iV 0],lo,K0,[]⟩,wr⟩ Q:=by
 refine W.di n (fun i st=>∃K o aC aD aE lo wr,st=⟨⟨[a0,a1,.ab,a3,.iV n,a5,a6,a7,a8,a9,aA,o,aC,aD,aE,aF,aG,aH,aI,aJ,.sl c6 0 n 1 none,.iV n,.iV i],lo,K,[]⟩,wr⟩/\bQ cF 4 (n+1) 133 127 K c6 rs A/\bj fS 1 75 K o ((b7 i).map fun a=>ao (r a n)) (gu c6 rs)/\gY (fun a=>r a n) n 0=gY (fun a=>r a n) n i)
  (fun i st hi ⟨K,o,aC,aD,aE,lo,wr,hst,hM,hO,he⟩=>?_) (fun st ⟨K,o,aC,aD,aE,lo,wr,hst,hM,hO,he⟩=>?_) (Nat.zero_le _) ⟨K0,.ab,aC,aD,aE,lo,wr,rfl,hM,.jL,rfl⟩
 . subst hst;have hout:=hM.out;have hlen:rs.length=n:=by rw[hM.len,hA]
   have hrow:=hM.row i ac;have hwi:=hM.wid i ac;have fi:=hH i hi n ac;rw[RZ hi]at he;have q105:=C.Sd _ _ fi (dr i hi);have hrow:K.at (rs[((i:Nat):Int).toNat]!).1=some (.cells (arr cF A[((i:Nat):Int).toNat]!) 133):=hrow;have hwi:(A[((i:Nat):Int).toNat]!).length=n+1:=hwi;have q105:∀h,M.ext 105 [.agg (cF (A[((i:Nat):Int).toNat]!)[((n:Nat):Int).toNat]!)] h=some ⟨.au (if iD (r i n) then [.str [],.iV 4] else [.str (ao (r i n)),.iV 0]),h,[]⟩:=q105;unfold Bm;cases hg:iD (r i n) with
   | true=>
    rw[hg,Bool.true_or]at he;rw[hg,if_pos rfl]at q105;have hE:=hE he;repeat' first|(apply ahJ (f:=cw 4 (n+1)) (c:=rs) (e:=127);rfl;exact hout;exact fun _=>rfl;omega;decide;rfl)|(apply ahJ (f:=cF) (e:=133);rfl;exact hrow;exact fun _=>rfl;omega;decide;rfl)|apply afc|apply cV|apply afl|apply afm|apply ain|apply agR|apply agH|apply ku|apply sA|apply sB|(apply afH;rfl)|(apply abd;rfl;rfl)|(apply acr;rfl;rfl)|(apply acq;rfl;rfl;first|exact q105 _)|(apply alN;rfl;rfl;omega)|(apply abL;rfl;rfl)|(apply afx;rfl;rfl)|(intro _;omega)|intro _
    all_goals try omega
    all_goals first|exact hE _ _ _ _ _ _ _ _ _ _ _ _ _ _ _ _ _ _ _ _ _ _ _ _|infer_instance
   | false=>
    rw[hg,Bool.false_or]at he;rw[hg,if_neg am]at q105;have hlt:∀x∈gu c6 rs,x<(K++[some (ba.cells [AV.str (ao (r i n))] 75)]).length:=fun x hx=>by
     have:=hM.RQ x hx;rw[List.length_append];omega
    have hroom:(((b7 i).map fun a=>ao (r a n)).length+1)*16<=cz:=by rw[List.length_map,b6];unfold cz;omega
    repeat' first|(apply ahJ (f:=cw 4 (n+1)) (c:=rs) (e:=127);rfl;exact hout;exact fun _=>rfl;omega;decide;rfl)|(apply ahJ (f:=cF) (e:=133);rfl;exact hrow;exact fun _=>rfl;omega;decide;rfl)|(refine bj.app (f:=fS) (m:=[ao (r i n)]) (S:=gu c6 rs) (fun _=>rfl) vy am (hO.grow [_]) hlt rfl rfl (Sl.gN (f:=fS) (esz:=1) (l:=[ao (r i n)]) (e:=75) (fun _=>rfl) cC rfl) hroom (fun H6 w6 o6 ho6 hk6 hlen6=>?_))|apply afc|apply cV|apply afl|apply afm|apply ain|apply agH|apply oI|(apply afH;rfl)|(apply ahB;rfl)|(apply abd;rfl;rfl)|(apply acr;rfl;rfl)|(apply ajM;rfl;rfl;omega)|(apply acq;rfl;rfl;first|exact q105 _)|(apply alN;rfl;rfl;omega)|(apply afC;rfl;rfl;rfl)|(apply abL;rfl;rfl)|(apply afx;rfl;rfl)|(intro _;omega)|intro _
    all_goals try omega
    all_goals try infer_instance
    all_goals exact bW ⟨H6,o6,_,_,_,_,_,rfl,hM.RR (fun x v hx hv=>hk6 x v hx (cE hv)),by rw[List.range_succ,List.map_append];exact ho6,he⟩
 . subst hst;rw[RY]at he;unfold Bm;repeat' first|(apply abd;rfl;rfl)|refine gc ?_|(intro _;omega)|intro _
   all_goals try omega
   all_goals first|exact hQ he K o _ _ _ _ _ hO|infer_instance
theorem akm {m:List (List ah)}{b:List ah}(h0:m.length≠0)(h24:m.length<=24):eM m b=if gW m.length m≠0 then gW m.length m else if b.length≠m.length then 2 else cT b:=by
 unfold eM;omega
theorem akn (C:mQ M){m:List (List ah)}{bv:List ah}{n:Nat}(hm:m.length=n)(hn:n<=30)(hS:∀i,i<n->Small m[i]!)(hb:Small bv)(he:eM m bv≠0) :
 aV M 30 [.vs (arr (bB fS) m) n none,.vs (arr fS bv) bv.length none] [] ⟨.au [.ab,.iV (eM m bv)],[],[]⟩:=by
 refine bH (by rw[C.ft];exact RF) be ?_;have hb8:=hb.1;have q101:=fun h=>C.Bp bv h ac (fun i hi=>by have:=hb.2 i hi;omega)
 by_cases h0:n=0
 . subst h0;have e:eM m bv=12:=by unfold eM;rw[if_pos hm]
   rw[e];have q96:∀v h,gg h v=some [if true=true then 12 else 0,if false=true then 5 else 0]->M.ext 96 [v] h=some ⟨.iV 12,h,[]⟩:=fun v h hi=>by
    rw[C.iZ v h _ hi be,oy];rfl
   unfold vu;simp only[enter];repeat' first|(apply aev;rfl;rfl)|(apply aeJ;rfl;rfl)|(apply acr;rfl;rfl)|refine gd29 ?_|refine gc ?_|(intro _;omega)|intro _
   all_goals try omega
   all_goals first|exact⟨.inr rfl,rfl,_,rfl,rfl,rfl⟩|infer_instance
 . by_cases h24:24<n
   . have e:eM m bv=5:=by unfold eM;rw[if_neg ac,if_pos ac]
     rw[e];have q96:∀v h,gg h v=some [if false=true then 12 else 0,if true=true then 5 else 0]->M.ext 96 [v] h=some ⟨.iV 5,h,[]⟩:=fun v h hi=>by
      rw[C.iZ v h _ hi be,oy];rfl
     unfold vu;simp only[enter];repeat' first|(apply aev;rfl;rfl)|(apply aeJ;rfl;rfl)|(apply acr;rfl;rfl)|refine gd29 ?_|refine gc ?_|(intro _;omega)|intro _
     all_goals try omega
     all_goals first|exact⟨.inr rfl,rfl,_,rfl,rfl,rfl⟩|infer_instance
   . have e:=akm (b:=bv) (show m.length≠0 by omega) ac;rw[hm]at e;rw[e]at he ⊢;have q96:∀v h,gg h v=some [if false=true then 12 else 0,if false=true then 5 else 0]->M.ext 96 [v] h=some ⟨.iV 0,h,[]⟩:=fun v h hi=>by
      rw[C.iZ v h _ hi be,oy];rfl
     unfold vu;simp only[enter];repeat' first|(apply aev;rfl;rfl)|(apply aeJ;rfl;rfl)|(apply acr;rfl;rfl)|refine gd29 ?_|refine gc ?_|(intro _;omega)|intro _
     all_goals try omega
     all_goals try infer_instance
     refine Sf C hm ac ac hS (fun hr K p0 p1 p4 p5 p6 p7 p8 p9 p10 p11 p12 p13 p14 p15 p16 p17 p18 p19 p20 p21 p22 lo wr=>?_) (fun hr hg K rs A o p7 p8 lo wr hR hA hH hO hc=>?_) _ _ _ _ _
     . rw[if_pos hr];exact gg2
     . rw[if_neg ac]at he ⊢;by_cases hbn:bv.length=n
       . rw[if_neg ac]at he ⊢;have q96:∀v h,gg h v=some [if false=true then 2 else 0,cT bv]->M.ext 96 [v] h=some ⟨.iV (cT bv),h,[]⟩:=fun v h hi=>by
          rw[C.iZ v h _ hi be,oy];rfl
         generalize cT bv=x at *
         repeat' first|(apply acr;rfl;rfl)|refine gd25 ?_|refine gc ?_|(intro _;omega)|intro _
         all_goals try omega
         all_goals first|exact⟨.inr rfl,rfl,_,rfl,rfl,rfl⟩|infer_instance
       . rw[if_pos hbn]at he ⊢;have q96:∀v h,gg h v=some [if true=true then 2 else 0,cT bv]->M.ext 96 [v] h=some ⟨.iV 2,h,[]⟩:=fun v h hi=>by
          rw[C.iZ v h _ hi be,oy];rfl
         generalize cT bv=x at *
         repeat' first|(apply acr;rfl;rfl)|refine gd25 ?_|refine gc ?_|(intro _;omega)|intro _
         all_goals try omega
         all_goals first|exact⟨.inr rfl,rfl,_,rfl,rfl,rfl⟩|infer_instance
noncomputable def dH (m:List (List ah))(b:List ah)(n:Nat):QM:=fun i k=>if k<n then kX (m[i]!)[k]! else kX b[i]!
theorem oz {m:List (List ah)}{b:List ah}{n:Nat}(hm:m.length=n)(he:eM m b=0):n≠0/\n<=24/\gW n m=0/\b.length=n/\cT b=0:=by
 subst hm;unfold eM at he;omega
theorem Bs {n:Nat}:∀{m:List (List ah)},gW n m=0->∀i,i<m.length->m[i]!.length=n/\cT m[i]! = 0
 | [],_,i,hi=>bS
 | l::m,h,i,hi=>by
  rw[gW]at h;split at h
  . cases h
  . split at h
    . omega
    . rename_i h0 h1;cases i with
      | zero=>grind
      | succ i=>exact Bs h i bS
theorem ako (C:mQ M){m:List (List ah)}{bv:List ah}{n:Nat}(hm:m.length=n)(hn:n<=5)(hS:∀i,i<n->Small m[i]!)(hb:Small bv)(he:eM m bv=0){P:AV->aa->Prop}
 (pN:eL n n 0 (dH m bv n)=none->P (.au [.ab,.iV 15]) []) (pL:∀r,eL n n 0 (dH m bv n)=some r->gY (fun a=>r a n) n 0=true->P (.au [.ab,.iV 4]) [])
 (pS:∀r,eL n n 0 (dH m bv n)=some r->gY (fun a=>r a n) n 0=false->∀K o S,bj fS 1 75 K o (gV r n) S->P (aW [o,.iV 0]) (if (aW [o,.iV 0]).top<=0 then [] else K)) :
 ∃v hh,P v hh/\aV M 30 [.vs (arr (bB fS) m) n none,.vs (arr fS bv) n none] [] ⟨v,hh,[]⟩:=by
 obtain⟨h0,h24,hrows,hbl,hbe⟩:=oz hm he;have hg:=Bs hrows;rw[hm]at hg;obtain⟨hbq,hbd⟩:=qx hbe hbl hb;have q101:=fun h=>C.Bp bv h ac (fun i hi=>by have:=hb.2 i hi;omega)
 rw[hbl,hbe]at q101;have dq:cY n (n+1) 8 (dH m bv n):=fun i k hi hk=>by
  unfold dH;split
  . rename_i hk';exact(qx (hg i hi).2 (hg i hi).1 (hS i hi)).2 k hk'
  grind
 have nq:∀i,dH m bv n i n=kX bv[i]! := fun i=>if_neg be
 have q96:∀v h,gg h v=some [if false=true then 12 else 0,if false=true then 5 else 0]->M.ext 96 [v] h=some ⟨.iV 0,h,[]⟩:=fun v h hi=>by
  rw[C.iZ v h _ hi be,oy];rfl
 have q96b:∀v h,gg h v=some [if false=true then 2 else 0,0]->M.ext 96 [v] h=some ⟨.iV 0,h,[]⟩:=bS;refine gO (M:=M) (P:=P) (by rw[C.ft];exact RF) be ?_;unfold vu;simp only[enter];repeat' first|(apply aev;rfl;rfl)|(apply aeJ;rfl;rfl)|(apply acr;rfl;rfl)|refine gd29 ?_|refine gc ?_|(intro _;omega)|intro _
 all_goals try omega
 all_goals try infer_instance
 refine Sf C hm ac ac hS ac (fun _ _ K rs A o p7 p8 lo wr hR hA hH hO hc=>?_) _ _ _ _ _;have hrl:rs.length=n:=by rw[hR.len,hA]
 rcases hO with ⟨hx,_⟩|⟨c6,cp,hc6,rfl,hat,hcp⟩
 . grind
 obtain rfl:cp=none:=by
  grind
 rw[hrl];repeat' first|(apply acr;rfl;rfl)|(apply acq;rfl;rfl;first|exact C.lj _ _ _|exact q101 _|exact q96b _ _ BI)|refine gc ?_|(intro _;omega)|intro _
 all_goals try omega
 all_goals try infer_instance
 refine aki C hbl ac hA (q:=dH m bv n) (fun i hi k hk=>by
  have:=hH i hi k hk;unfold dH;grind) bS (fun i hi=>by rw[nq];exact(hbd i hi).mono am) _ _ _ _ _ _ _ _ _ _ _ _ _ _ _ _ _ _ (hR.Br .app) (cE hat) hc6 hc (fun K2 rs2 A2 aA lo wr hM2 hA2 hH2=>?_) _ _ _
 obtain⟨⟨v,K3,wr3⟩,hr3,hk3⟩:=(ajk C.toqu (cap:=none) hA2 hn ac ac dq hH2 hM2).out;have ct:CT M (.fn (.func 104) [] []) [.sl c6 0 n 1 none] K2 ⟨v,K3,wr3⟩:=CT.run (C.Sc _ _) hr3;unfold Bn at hk3;cases hs:eL n n 0 (dH m bv n) with
 | none=>
  rw[hs]at hk3;have hk3:v = .bool false:=hk3;subst hk3;repeat' first|(apply afJ;rfl;rfl;first|exact ct)|refine gc ?_|fail
  all_goals try omega
  all_goals first|exact⟨.inr rfl,rfl,_,rfl,pN hs⟩|infer_instance
 | some r=>
  rw[hs]at hk3;obtain⟨hv,rs3,A3,hM3,hA3,hH3,_⟩:=hk3;have hv:v = .bool true:=hv;subst hv;have dr:=HN (w:=n+1) ac n 0 _ _ ac dq hs;have hd5:=AU (c:=n) hn;repeat' first|(apply afJ;rfl;rfl;first|exact ct)|refine gc ?_|fail
  all_goals try omega
  all_goals try infer_instance
  refine akl C ac (fun i hi=>(dr i n hi ac).mono ac) _ _ _ _ _ _ _ _ _ _ _ _ _ _ hM3 hA3 hH3 (fun hg K p0 p1 p4 p5 p6 p7 p8 p9 p10 p11 p12 p13 p14 p15 p16 p17 p18 p19 p20 p21 p22 lo wr=>?_) (fun hg K o aC aD aE lo wr hO=>?_) _ _ _ _ _
  . exact gg2
  . exact gg2
theorem w30 (C:mQ M){m:List (List ah)}{bv:List ah}{n:Nat}(hm:m.length=n)(hn:n<=5)(hS:∀i,i<n->Small m[i]!)(hb:Small bv)(he:eM m bv=0) :
 cQ M 30 [.vs (arr (bB fS) m) n none,.vs (arr fS bv) n none] (jc n (dH m bv n)):=by
 have h0:=(oz hm he).1;refine ako C hm hn hS hb he (P:=fun v hh=>dZ v hh (jc n (dH m bv n))) (fun hs=>?_) (fun r hs hg=>?_) (fun r hs hg K o S hO=>?_)
 . have e:jc n (dH m bv n) = .au [.ab,.iV 15]:=by unfold jc;rw[hs]
   show dZ _ _ (jc n (dH m bv n));rw[e];exact .same rfl rfl
 . have e:jc n (dH m bv n) = .au [.ab,.iV 4]:=by
    unfold jc;rw[hs];show (if gY (fun a=>r a n) n 0=true then _ else _)=_;rw[hg];rfl
   show dZ _ _ (jc n (dH m bv n));rw[e];exact .same rfl rfl
 . have e:jc n (dH m bv n) = .au [.vs (arr fS (gV r n)) n none,.iV 0]:=by
    unfold jc;rw[hs];show (if gY (fun a=>r a n) n 0=true then _ else _)=_;rw[hg];rfl
   show dZ _ _ (jc n (dH m bv n));rw[e];exact akk hO sm ac
structure C4 (M:aw):Prop where
 ft:M.FT=FT
 Sj:∀h,M.ext 18 [] h=some ⟨.bool true,h,[]⟩
 HW:∀(l:List ah) h,M.ext 28 [.vs (arr fS l) l.length none,.iV 8] h=some ⟨.bool (jz 8 l),h,[]⟩
 Sk:∀(m:List (List ah)) (b:List ah) h,m.length<=30->(∀i,i<m.length->Small m[i]!)->Small b->M.ext 29 [.vs (arr (bB fS) m) m.length none,.vs (arr fS b) b.length none] h=some ⟨.iV (eM m b),h,[]⟩
 Sm:∀(m:List (List ah)) (b:List ah) h,m.length<=30->(∀i,i<m.length->Small m[i]!)->Small b->eM m b≠0->M.ext 30 [.vs (arr (bB fS) m) m.length none,.vs (arr fS b) b.length none] h=some ⟨.au [.ab,.iV (eM m b)],h,[]⟩
 Sn:∀(m:List (List ah)) (b:List ah) n h,m.length=n->n<=5->(∀i,i<n->Small m[i]!)->Small b->eM m b=0->M.ext 30 [.vs (arr (bB fS) m) n none,.vs (arr fS b) n none] h=some ⟨jc n (dH m b n),h,[]⟩
 Bt:∀(m:List (List ah)) (b:List ah) n h,m.length=n->n<=5->(∀i,i<n->Small m[i]!)->Small b->eM m b=0->eL n n 0 (dH m b n)=none->M.ext 31 [.vs (arr (bB fS) m) n none,.vs (arr fS b) n none] h=some ⟨.au [.ab,.bool false],h,[]⟩
 mR:∀(m:List (List ah)) (b:List ah) n r h,m.length=n->n<=5->(∀i,i<n->Small m[i]!)->Small b->eM m b=0->eL n n 0 (dH m b n)=some r->M.ext 31 [.vs (arr (bB fS) m) n none,.vs (arr fS b) n none] h=some ⟨.au [.vs (arr fS (gV r n)) n none,.bool true],h,[]⟩
 HX:∀t e h,M.ext 25 [.bool t,.iV e] h=some ⟨.iV (if t then e else 0),h,[]⟩
 So:∀(r:QM) n h,n<=5->cY n (n+1) 8533 r->M.ext 32 [.vs (arr fS (gV r n)) n none] h=some ⟨.iV (if gY (fun a=>r a n) n 0 then 4 else 0),h,[]⟩
 Sp:∀(l:List ah) n h,l.length=n->n<1000000->M.ext 33 [.vs (arr fS l) n none,.vs (arr fS l) n none] h=some ⟨.bool true,h,[]⟩
theorem Sq {l:List ah}(h:jz 8 l=true):Small l:=ajT h
theorem HY {m:List (List ah)}{bv:List ah}{n:Nat}(hm:m.length=n)(hS:∀i,i<n->Small m[i]!)(hb:Small bv)(he:eM m bv=0):cY n (n+1) 8 (dH m bv n):=fun i k hi hk=>by
 obtain⟨h0,h24,hrows,hbl,hbe⟩:=oz hm he;have hg:=Bs hrows;rw[hm]at hg;unfold dH;split
 . rename_i hk';exact(qx (hg i hi).2 (hg i hi).1 (hS i hi)).2 k hk'
 . exact(qx hbe hbl hb).2 i hi
theorem w4 (C:C4 M)(m:List (List ah))(bv:List ah):aV M 4 [.vs (arr (bB fS) m) m.length none,.vs (arr fS bv) bv.length none] [] ⟨.bool true,[],[]⟩:=by
 refine bH (by rw[C.ft];exact ft4) be ?_;have q18:=C.Sj;have q28:=C.HW bv;have q25t:∀h,M.ext 25 [.bool true,.iV 15] h=some ⟨.iV 15,h,[]⟩:=fun h=>C.HX true 15 h
 have q25f:∀h,M.ext 25 [.bool false,.iV 15] h=some ⟨.iV 0,h,[]⟩:=fun h=>C.HX false 15 h
 unfold b4;simp only[enter];by_cases hm30:m.length<=30
 . cases hsb:jz 8 bv with
   | false=>
    rw[hsb]at q28;repeat' first|(apply aev;rfl;rfl)|refine gd0 ?_|refine gc ?_|(intro _;omega)|intro _
    all_goals try omega
    all_goals first|exact⟨.inr rfl,rfl,_,rfl,rfl,rfl⟩|infer_instance
   | true=>
    rw[hsb]at q28;have hb:=Sq hsb;have hb8:=hb.1;repeat' first|(apply aev;rfl;rfl)|refine gd0 ?_|refine gc ?_|(intro _;omega)|intro _
    all_goals try omega
    all_goals try infer_instance
    refine W.di m.length (fun i st=>∃lo wr,st=⟨⟨[.vs (arr (bB fS) m) m.length none,.vs (arr fS bv) bv.length none,.bool false,.iV i,bD,bD,bD,bD,bD],lo,[],[]⟩,wr⟩/\∀j,j<i->Small m[j]!) (fun i st hi ⟨lo,wr,hst,hS⟩=>?_) (fun st ⟨lo,wr,hst,hS⟩=>?_) (Nat.zero_le _) ⟨_,_,rfl,fun j hj=>ac⟩
    . subst hst;have q28i:∀h,M.ext 28 [.vs (arr fS m[((i:Nat):Int).toNat]!) m[((i:Nat):Int).toNat]!.length none,.iV 8] h=some ⟨.bool (jz 8 m[i]!),h,[]⟩:=fun h=>C.HW _ h
      unfold HJ;cases hs:jz 8 m[i]! with
      | false=>
       rw[hs]at q28i;repeat' first|refine gd28 ?_|(apply abd;rfl;rfl)|refine gd0 ?_|refine gc ?_|(intro _;omega)|intro _
       all_goals try omega
       all_goals first|exact⟨.inr rfl,rfl,_,rfl,rfl,rfl⟩|infer_instance
      | true=>
       rw[hs]at q28i;have hsi:=Sq hs;have hli:m[((i:Nat):Int).toNat]!.length<=8:=hsi.1;have hS':∀j,j<i+1->Small m[j]! := bS;repeat' first|refine gd28 ?_|(apply abd;rfl;rfl)|(apply aev;rfl;rfl)|refine gd0 ?_|refine gc ?_|(intro _;omega)|intro _
       all_goals try omega
       all_goals first|exact bW ⟨_,_,rfl,hS'⟩|infer_instance
    . subst hst;have q29:=fun h=>C.Sk m bv h hm30 hS hb
      unfold HJ;by_cases he:eM m bv=0
      . rw[he]at q29;by_cases h5:m.length<=5
        . obtain⟨h0,h24,hrows,hbl,hbe⟩:=oz rfl he;have q30:=fun h=>C.Sn m bv m.length h rfl h5 hS hb he
          have Bt:=fun h=>C.Bt m bv m.length h rfl h5 hS hb he
          have mR:=fun r h=>C.mR m bv m.length r h rfl h5 hS hb he
          have dq:=HY rfl hS hb he;rw[hbl]at q29 ⊢;generalize hn:m.length=n at *
          cases hso:eL n n 0 (dH m bv n) with
          | none=>
           have er:jc n (dH m bv n) = .au [.ab,.iV 15]:=by unfold jc;rw[hso]
           rw[er]at q30;have q31:=fun h=>Bt h hso
           repeat' first|apply afc|apply cV|apply afl|apply afm|apply agR|apply alL|apply agH|apply ku|apply vJ|apply vK|apply vM|(apply afH;rfl)|(apply ahB;rfl)|(apply ahY;rfl)|(apply abd;rfl;rfl)|(apply aev;rfl;rfl)|(apply aeJ;rfl;rfl)|(apply acr;rfl;rfl)|(apply ahR;rfl;rfl)|(apply acq;rfl;rfl;first|exact q29 _|exact q30 _|exact q31 _|exact q25t _|exact q25f _)|(apply abL;rfl;rfl)|(apply afx;rfl;rfl)|(intro _;omega)|intro _
           all_goals try omega
           all_goals first|exact⟨.inr rfl,rfl,_,rfl,rfl,rfl⟩|infer_instance
          | some r=>
           have er:jc n (dH m bv n)=if gY (fun a=>r a n) n 0 then .au [.ab,.iV 4] else .au [.vs (arr fS (gV r n)) n none,.iV 0]:=by unfold jc;rw[hso]
           rw[er]at q30;have q31:=fun h=>mR r h hso
           have dr:=HN (w:=n+1) ac n 0 _ _ ac dq hso;have q32:=fun h=>C.So r n h h5 (dr.mono (AU h5))
           have q33:=fun h=>C.Sp (gV r n) n h sm ac
           cases hg:gY (fun a=>r a n) n 0 with
           | true=>
            rw[hg,if_pos rfl]at q30 q32;repeat' first|apply afc|apply cV|apply afl|apply afm|apply agR|apply alL|apply agH|apply ku|apply vJ|apply vK|apply vM|(apply afH;rfl)|(apply ahB;rfl)|(apply ahY;rfl)|(apply abd;rfl;rfl)|(apply aev;rfl;rfl)|(apply aeJ;rfl;rfl)|(apply acr;rfl;rfl)|(apply ahR;rfl;rfl)|(apply acq;rfl;rfl;first|exact q29 _|exact q30 _|exact q31 _|exact q25t _|exact q25f _|exact q32 _)|(apply abL;rfl;rfl)|(apply afx;rfl;rfl)|(intro _;omega)|intro _
            all_goals try omega
            all_goals first|exact⟨.inr rfl,rfl,_,rfl,rfl,rfl⟩|infer_instance
           | false=>
            rw[hg,if_neg am]at q30 q32;repeat' first|apply afc|apply cV|apply afl|apply afm|apply agR|apply alL|apply agH|apply vJ|apply vK|apply vM|(apply afH;rfl)|(apply ahB;rfl)|(apply ahY;rfl)|(apply abd;rfl;rfl)|(apply aev;rfl;rfl)|(apply aeJ;rfl;rfl)|(apply acr;rfl;rfl)|(apply ahR;rfl;rfl)|(apply acq;rfl;rfl;first|exact q29 _|exact q30 _|exact q31 _|exact q25t _|exact q25f _|exact q32 _|exact q33 _)|(apply abL;rfl;rfl)|(apply afx;rfl;rfl)|(intro _;omega)|intro _
            all_goals try omega
            all_goals first|exact⟨.inr rfl,rfl,_,rfl,rfl,rfl⟩|infer_instance
        . repeat' first|(apply abd;rfl;rfl)|(apply aev;rfl;rfl)|(apply aeJ;rfl;rfl)|refine gd0 ?_|refine gc ?_|(intro _;omega)|intro _
          all_goals try omega
          all_goals first|exact⟨.inr rfl,rfl,_,rfl,rfl,rfl⟩|infer_instance
      . have q30:=fun h=>C.Sm m bv h hm30 hS hb he
        generalize eM m bv=x at *
        repeat' first|(apply abd;rfl;rfl)|(apply aeJ;rfl;rfl)|(apply acr;rfl;rfl)|refine gd0 ?_|refine gc ?_|(intro _;omega)|intro _
        all_goals try omega
        all_goals first|exact⟨.inr rfl,rfl,_,rfl,rfl,rfl⟩|infer_instance
 . repeat' first|(apply aev;rfl;rfl)|refine gd0 ?_|refine gc ?_|(intro _;omega)|intro _
   all_goals try omega
   all_goals first|exact⟨.inr rfl,rfl,_,rfl,rfl,rfl⟩|infer_instance
open Go.Proofs
section
variable {N:Nat}
theorem akq (hN:N<100000){a:AV}{z:Int}(ha:bU a z)(l:aj z<dB^N):∃v0,bU v0 (-z)/\∀h,AN [a] h=some ⟨v0,h,[]⟩:=by
 obtain⟨v0,h1,h2⟩:=Qo AM ha l ac;exact⟨v0,h1,dm h2 (fH ha.top)⟩
theorem akr (hN:N<100000){a b:AV}{x y:Int}(ha:bU a x)(hb:bU b y)(la:aj x<dB^N)(lb:aj y<dB^N):∃v0,bU v0 (x*y)/\∀h,Hm [a,b] h=some ⟨v0,h,[]⟩:=by
 obtain⟨v0,h1,h2⟩:=ahr AM ha hb la lb ac;exact⟨v0,h1,dm h2 (eK ha.top hb.top)⟩
theorem aks (hN:N<100000){a b:AV}{x y:Int}(ha:bU a x)(hb:bU b y)(la:aj x<dB^N)(lb:aj y<dB^N):∃v0,bU v0 (x+y)/\∀h,Hl [a,b] h=some ⟨v0,h,[]⟩:=by
 obtain⟨v0,h1,h2⟩:=aht AM ha hb la lb ac;exact⟨v0,h1,dm h2 (eK ha.top hb.top)⟩
theorem akt (hN:N<100000){a:AV}{z:Int}(h:aa)(ha:bU a z)(l:aj z<dB^N):AP [a] h=some ⟨.str (bM z),h,[]⟩:=bO (Qu QT ha l ac) (fH ha.top) rfl rfl h
theorem uFn (hN:N<100000):uX (aZ Tryz.prog FT vn) N where
 ft:=bm
 uY:=akq hN
 qp:=Hj
 kV:=AI
 ko:=AL
 uZ:=akt hN
theorem akv (hN:N<100000){a b:AV}{x y:Int}(h:aa)(ha:bU a x)(hb:bU b y)(la:aj x<dB^N)(lb:aj y<dB^N)(h0:y≠0):vo [a,b] h=some ⟨.str (ao (Rat.divInt x y)),h,[]⟩:=
 bO (Qw (uFn hN) hN ha hb la lb h0) (eK ha.top hb.top) rfl rfl h
theorem HZ (hN:N<100000):AH (aZ Tryz.prog FT vt) N where
 ft:=bm
 vh:=fun q hl=>by
  obtain⟨n,d,b,h1,h2⟩:=ahW cQk hl;exact⟨n,d,b,h1,fun h=>bO h2 rfl rfl rfl h⟩
 mN:=aix
 se:=akr hN
 QF:=aks hN
 qq:=akv hN
 Hi:=k78
end
theorem Ia:(10:Int)^(2*20000+1)<=dB^5000:=by
 grind
theorem qy {q:Rat}(h:Dq 20000 q):(ao q).length<1000000:=by
 have:=Ow (h.lq (N:=20001) am am);omega
theorem u90 (p q:Rat)(h:aa)(hp:Dq 20000 p)(hq:Dq 20000 q):AQ [.str (ao p),.str (ao q)] h=some ⟨.str (ao (p+q)),h,[]⟩:=
 bO (w90 (HZ am) Ia hp hq (qy hp) (qy hq)) rfl rfl rfl h
theorem u53 (p q:Rat)(h:aa)(hp:Dq 20000 p)(hq:Dq 20000 q):Hs [.str (ao p),.str (ao q)] h=some ⟨.str (ao (p*q)),h,[]⟩:=
 bO (w53 (HZ am) Ia hp hq (qy hp) (qy hq)) rfl rfl rfl h
theorem aky (q:Rat)(h:aa)(hq:Dq 20000 q)(h0:q≠0):Ht [.str (ao q)] h=some ⟨.str (ao q⁻¹),h,[]⟩:=
 bO (ahZ (HZ am) Ia hq (qy hq) h0) rfl rfl rfl h
theorem akz (q:Rat)(h:aa)(hq:Dq 20000 q):AR [.str (ao q)] h=some ⟨.str (ao (-q)),h,[]⟩:=
 bO (ahQ (M:=aZ Tryz.prog FT [(140,sf)]) bm (qy hq) (Rb q)) rfl rfl rfl h
theorem u57 (p q:Rat)(h:aa)(hp:Dq 20000 p)(hq:Dq 20000 q):Hu [.str (ao p),.str (ao q)] h=some ⟨.str (ao (p-q)),h,[]⟩:=
 bO (w57 (M:=aZ Tryz.prog FT [(141,AR),(90,AQ)]) bm (fun h=>akz q h hq) (fun h=>u90 p (-q) h hp hq.neg)) rfl rfl rfl h
theorem akB (q:Rat)(h:aa)(hq:Dq 20000 q):AS [.str (ao q)] h=some ⟨.iV (if iD q then 4 else 0),h,[]⟩:=by
 have hl:=qy hq;have q153:=fun h=>uW (ao q) h hl
 refine bO (ajO (M:=aZ Tryz.prog FT [(142,Hw),(56,Hv),(143,Hx)]) bm (fun h=>?_) (fun h=>?_) (fun h=>?_)) rfl rfl rfl h
 . rw[sd];exact bO (ahS (M:=aZ Tryz.prog FT [(153,mc)]) bm q153) rfl rfl rfl h
 . have:=bO (w56 (M:=aZ Tryz.prog FT [(140,sf)]) bm (q:=(q.num:Rat)) (Rb _)) rfl rfl rfl h;rw[Rat.num_intCast]at this;exact this
 . exact bO (ahU (M:=aZ Tryz.prog FT [(153,mc)]) bm hl q153) rfl rfl rfl h
theorem kZ (l:List ah):bc (arr fS l)=0:=jK (fun _=>rfl) l
theorem akC (l:List ah):bc (bB fS l)=0:=by simp[bc,AV.top,kZ]
theorem vC (m:List (List ah)):bc (arr (bB fS) m)=0:=jK akC m
theorem Sr (l:List ah):dE (arr fS l)=arr fS l:=qZ (fun _=>rfl) l
theorem akD (m:List (List ah)):dE (arr (bB fS) m)=arr (bB fS) m:=qZ (fun l=>by simp[dE,cf,Sr]) m
theorem Ss (l:List ah):cG (arr fS l)=arr fS l:=ra (fun _=>rfl) l
theorem akE (m:List (List ah)):cG (arr (bB fS) m)=arr (bB fS) m:=ra (fun l=>by simp[cG,bL,Ss]) m
theorem akF (l:List Int):bc (arr iC l)=0:=jK (fun _=>rfl) l
theorem akG (l:List Int):dE (arr iC l)=arr iC l:=qZ (fun _=>rfl) l
theorem vD (m:List (List ah))(b:List ah)(n k:Nat):bc [.vs (arr (bB fS) m) n none,.vs (arr fS b) k none]=0:=by simp[bc,AV.top,vC,kZ]
theorem akH {h:aa}(m:List (List ah))(b:List ah)(n k:Nat):gE h [.vs (arr (bB fS) m) n none,.vs (arr fS b) k none] [.vs (arr (bB fS) m) n none,.vs (arr fS b) k none]:=.cons (HQ m n none) (.cons (RS b k none) .nil)
noncomputable def Bu:Spec:=sL [] 65
theorem Su:aT Tryz.prog gl 65 Bu:=jj bA
theorem Sv:∀v (m:List (List ah)) h w,cK h v (.vs (arr (bB fS) m) m.length none)->(∀i,i<m.length->m[i]!.length=w)->0<m.length->Bu [v] h=some ⟨.iV w,h,[]⟩:=fun v m h w hf hw h0=>
 rl (w65 (M:=aZ Tryz.prog FT []) bm m h0 (hw 0 h0)) rfl rfl rfl (.cons hf .nil)
noncomputable def Ib:List (Nat×Spec):=[(53,Hs),(57,Hu),(133,Ht),(91,Rc),(65,Bu)]
theorem akI:cD Tryz.prog gl (bk Ib):=aO aiz (aO aiC (aO aiA (aO aiH (aO Su bA))))
theorem cSr:qt (aZ Tryz.prog FT Ib) where
 ft:=bm
 HK:=u53
 Rz:=u57
 RA:=aky
 HL:=fun s h=>bO (w91 bm s) rfl rfl rfl h
 si:=Sv
 RB:=fun _ _=>rfl
noncomputable def sn:Spec:=sL Ib 178
theorem Sw:aT Tryz.prog gl 178 sn:=jj akI
theorem akK (m:List (List ah))(w n:Nat)(q:QM)(hn:m.length=n)(hn1:n<=5)(hn0:0<n)(hw:w<1000000)(hw0:0<w)(hwid:∀i,i<n->m[i]!.length=w)(hq:fy n w m q)(dq:cY n w 8 q) :
 ∃A' q' l,fx n w 0 q []=(q',l)/\A'.length=n/\(∀i,i<n->A'[i]!.length=w)/\fy n w A' q'/\cY n w (iu l.length) q'/\l.length<=n /\
  ∀v h,cK h v (.vs (arr (bB fS) m) m.length none)->sn [v] h=some ⟨.au [.vs (arr (bB fS) (A'.take l.length)) l.length none,.vs (arr iC (fz l)) l.length none],h,[]⟩:=by
 obtain⟨A',q',l,h1,h2,h3,h4,h5,h6,v,hh,h7,h8⟩:=ajz cSr m hn hn1 hn0 hw hw0 hwid hq dq;exact⟨A',q',l,h1,h2,h3,h4,h5,h6,fun x h hf=>kL (.cons hf .nil) ⟨v,hh,_,h8,h7,by simp[AV.top,bc,vC,akF],by simp[cf,dE,akD,akG]⟩⟩
theorem Sx (T:List (Nat×Spec))(e:∀ar h,bk T 178 ar h=sn ar h):HS (aZ Tryz.prog FT T) where
 ft:=bm
 HT:=fun m w n q hn hn1 hn0 hw hw0 hwid hq dq=>by
  simp only[gG,e];exact akK m w n q hn hn1 hn0 hw hw0 hwid hq dq
noncomputable def Bv:Spec:=sK [(178,sn)] 177
noncomputable def Ic:Spec:=sK [(177,Bv)] 106
theorem akL:aT Tryz.prog gl 177 Bv:=bh (aO Sw bA)
theorem akM:aT Tryz.prog gl 106 Ic:=bh (aO akL bA)
theorem Sy (m:List (List ah)){w n:Nat}{q:QM}(hn:m.length=n)(hn1:n<=5)(hn0:0<n)(hw:w<1000000)(hw0:0<w)(hwid:∀i,i<n->m[i]!.length=w)(hq:fy n w m q)(dq:cY n w 8 q)(h:aa):Ic [.vs (arr (bB fS) m) n none] h=some ⟨.iV (fx n w 0 q []).2.length,h,[]⟩:=by
 obtain⟨L,h1,h2⟩:=ajB (Sx [(178,sn)] fun _ _=>rfl) m hn hn1 hn0 hw hw0 hwid hq dq;rw[←h1];have q177:∀h,bk [(177,Bv)] 177 [.vs (arr (bB fS) m) m.length none] h=some ⟨.vs (arr (bB fS) L) L.length none,h,[]⟩:=fun h=>bO h2 (fH (vC m)) (vC L) (by simp[bL,akE]) h
 have:=bO (ajC (M:=aZ Tryz.prog FT [(177,Bv)]) bm m q177) (fH (vC m)) rfl rfl h;rw[hn]at this;exact this
noncomputable def Ie:List (Nat×Spec):=[(178,sn),(65,Bu)]
noncomputable def Sz:Spec:=sL Ie 107
theorem akN:aT Tryz.prog gl 107 Sz:=jj (aO Sw (aO Su bA))
theorem cSo:RU (aZ Tryz.prog FT Ie):={ Sx Ie fun _ _=>rfl with
 si:=Sv
 RV:=fun _ _=>rfl }
noncomputable def vE:List (Nat×Spec):=[(106,Ic),(107,Sz)]
noncomputable def mR:Spec:=sK vE 31
theorem akP:aT Tryz.prog gl 31 mR:=bh (aO akM (aO akN bA))
theorem Ig {m:List (List ah)}{bv:List ah}{n:Nat}(hm:m.length=n)(he:eM m bv=0)(hS:∀i,i<n->Small m[i]!):(∀i,i<n->m[i]!.length=n)/\fy n n m (dH m bv n):=by
 obtain⟨h0,h24,hrows,hbl,hbe⟩:=oz hm he;have hg:=Bs hrows;rw[hm]at hg;refine⟨fun i hi=>(hg i hi).1,fun i hi k hk=>?_⟩;unfold dH;rw[if_pos hk];exact(qx (hg i hi).2 (hg i hi).1 (hS i hi)).1 k hk
theorem akQ {m:List (List ah)}{bv:List ah}{n:Nat}(hm:m.length=n)(he:eM m bv=0)(hS:∀i,i<n->Small m[i]!)(hb:Small bv):fy n (n+1) (jm m bv n) (dH m bv n):=by
 obtain⟨h0,h24,hrows,hbl,hbe⟩:=oz hm he;obtain⟨hw,hH⟩:=Ig hm he hS;intro i hi k hk;rw[RT hi];by_cases h:k<n
 . rw[ox bS];exact hH i hi k h
 . obtain rfl:k=n:=by omega
   have:=HO (l:=m[i]!) (a:=bv[i]!);rw[hw i hi]at this;rw[this];unfold dH;rw[if_neg be];exact(qx hbe hbl hb).1 i hi
theorem akR (m:List (List ah))(b:List ah)(n:Nat)(h:aa)(hm:m.length=n)(hn:n<=5)(hS:∀i,i<n->Small m[i]!)(hb:Small b)(he:eM m b=0)(hs:eL n n 0 (dH m b n)=none):mR [.vs (arr (bB fS) m) n none,.vs (arr fS b) n none] h=some ⟨.au [.ab,.bool false],h,[]⟩:=by
 have h0:=(oz hm he).1;obtain⟨hw,hH⟩:=Ig hm he hS;have dq:cY n n 8 (dH m b n):=fun i k hi hk=>HY hm hS hb he i k hi ac
 have hk:(fx n n 0 (dH m b n) []).2.length<n:=Rg (n:=n) n 0 _ _ ac (fun _ _ _=>rfl) hs;exact bO (ajV (M:=aZ Tryz.prog FT vE) bm rfl hk ac fun h=>Sy m hm hn ac ac ac hw hH dq h) (vD m b n n) rfl rfl h
theorem akS (m:List (List ah))(b:List ah)(n:Nat)(r:QM)(h:aa)(hm:m.length=n)(hn:n<=5)(hS:∀i,i<n->Small m[i]!)(hb:Small b)(he:eM m b=0)(hs:eL n n 0 (dH m b n)=some r):mR [.vs (arr (bB fS) m) n none,.vs (arr fS b) n none] h=some ⟨.au [.vs (arr fS (gV r n)) n none,.bool true],h,[]⟩:=by
 obtain⟨h0,h24,hrows,hbl,hbe⟩:=oz hm he;obtain⟨hw,hH⟩:=Ig hm he hS;have dqw:=HY hm hS hb he;have dq:cY n n 8 (dH m b n):=fun i k hi hk=>dqw i k hi ac
 obtain⟨r',hp,_⟩:=Rf (n:=n) n 0 _ _ r ac (fun _ _ _=>rfl) hs;have hp:fx n n 0 (dH m b n) []=(r',b7 n):=hp;have q106:∀h,bk vE 106 [.vs (arr (bB fS) m) n none] h=some ⟨.iV n,h,[]⟩:=fun h=>by
  have:=Sy m hm hn ac ac ac hw hH dq h;rw[hp,b6]at this;exact this
 obtain⟨v,hh,f,hr⟩:=ajI cSo hm hbl hn ac hw (akQ hm he hS hb) dqw hs;have q107:∀h,bk vE 107 [.vs (arr (bB fS) m) n none,.vs (arr fS b) n none] h=some ⟨.au [.vs (arr fS (gV r n)) n none,.bool true],h,[]⟩:=fun h=>kL (akH m b n n) ⟨v,hh,_,hr,f,by simp[AV.top,bc,kZ],by simp[cf,dE,Sr]⟩
 exact bO (ajW (M:=aZ Tryz.prog FT vE) bm rfl ac (by rw[AV.top];exact kZ _) q106 q107) (vD m b n n) (by simp[AV.top,bc,kZ]) (by simp[bL,cG,Ss]) h
noncomputable def Bw:Spec:=sK [(62,AA)] 67
noncomputable def Ih:Spec:=sK [(67,Bw)] 29
noncomputable def SA:Spec:=sK [] 28
noncomputable def SB:Spec:=sK [(108,AS)] 32
noncomputable def SC:Spec:=sK [] 33
noncomputable def SD:Spec:=sK [(84,Af)] 101
theorem akT:aT Tryz.prog gl 67 Bw:=bh (aO agU bA)
theorem akU:aT Tryz.prog gl 29 Ih:=bh (aO akT bA)
theorem akV:aT Tryz.prog gl 28 SA:=bh bA
theorem akW:aT Tryz.prog gl 32 SB:=bh (aO aiG bA)
theorem akX:aT Tryz.prog gl 33 SC:=bh bA
theorem akY:aT Tryz.prog gl 101 SD:=bh (aO afI bA)
theorem SE (l:List ah)(h:aa)(hl:Small l):Bw [.vs (arr fS l) l.length none] h=some ⟨.iV (cT l),h,[]⟩:=
 bO (w67 (M:=aZ Tryz.prog FT [(62,AA)]) bm (fun s h hl=>k62 s h hl) l (by have:=hl.1;omega) (fun i hi=>by have:=hl.2 i hi;omega)) (fH (kZ l)) rfl rfl h
theorem u29 (m:List (List ah))(b:List ah)(h:aa)(hm:m.length<=30)(hS:∀i,i<m.length->Small m[i]!)(hb:Small b):Ih [.vs (arr (bB fS) m) m.length none,.vs (arr fS b) b.length none] h=some ⟨.iV (eM m b),h,[]⟩:=
 bO (w29 (M:=aZ Tryz.prog FT [(67,Bw)]) bm m b ac (by have:=hb.1;omega) (fun i hi=>by have:=(hS i hi).1;omega) (fun i h hi=>SE _ h (hS i hi)) (fun h=>SE b h hb)) (vD m b _ _) rfl rfl h
noncomputable def SF:List (Nat×Spec):=[(262,Gl),(224,zW),(213,uE)]
noncomputable def Bx:Spec:=sK SF 223
noncomputable def Ii:Spec:=sK [(223,Bx)] 175
noncomputable def SG:List (Nat×Spec):=[(175,Ii),(176,Gm)]
noncomputable def Ij:Spec:=sK SG 105
noncomputable def Ik:Spec:=sK TJ 355
theorem ala:aT Tryz.prog gl 223 Bx:=bh (aO afo (aO OU (aO OK bA)))
theorem alb:aT Tryz.prog gl 175 Ii:=bh (aO ala bA)
theorem alc:aT Tryz.prog gl 105 Ij:=bh (aO alb (aO afp bA))
theorem ald:aT Tryz.prog gl 355 Ik:=bh uf
theorem ale {x:Int}{N:Nat}(h0:0<=x)(h:x<wB^N):cj x<=64*N:=by
 have e:wB=2^64:=by decide
 rw[e,←Int.pow_mul]at h;exact pO h h0
theorem SH (v:AV)(z:Int)(h:aa)(hv:ax v z)(lz:aj z<wB^10000)(hl:(bM z).length<1000000):Bx [v] h=some ⟨.bool (mf z),h,[]⟩:=by
 have q262:∀h,Gl [v] h=some ⟨.iV (cj (aj z)),h,[]⟩:=dm (aal (M:=aZ Tryz.prog FT Gk) (afn.c (N:=10000) am) (fun x h hx=>EY x h hx) hv lz) (fH hv.top);have hb:=ale ju lz;refine bO (akb (M:=aZ Tryz.prog FT SF) bm hv ac q262 (fun h=>Gj (N:=10000) am v z hv lz h) (fun h=>?_)) (fH hv.top) rfl rfl h;rw[←ajX];exact OL (bM z) 45 h hl
theorem alf:∀v q,br v q->Dq 10000 q->∀h,Gm [v] h=some ⟨.str (ao q),h,[]⟩:=fun v q hv hq=>by
 have lq:=hq.lq (N:=10001) am am;have bq:=hq.bq (N:=10000) (b5 _);exact bO (ade (M:=aZ Tryz.prog FT OV) bm hv ⟨by have:=lq.1;omega,by have:=lq.2;omega⟩ (fun h=>MG v q hv h) (fun v h hv=>Gj am v _ hv bq.1 h) (fun v h hv=>by
  have:=Gj (N:=10000) am v _ hv (by rw[cH ac];exact bq.2) h;rw[OW]at this;exact this)) (fH hv.top) rfl rfl
theorem alg:∀v q,br v q->Dq 10000 q->∀h,Ij [v] h=some ⟨.au (if iD q then [.str [],.iV 4] else [.str (ao q),.iV 0]),h,[]⟩:=fun v q hv hq h=>by
 have lq:=hq.lq (N:=10001) am am;have bq:=hq.bq (N:=10000) (b5 _);have q175:∀h,Ii [v] h=some ⟨.bool (iD q),h,[]⟩:=fun h=>bO (akd (M:=aZ Tryz.prog FT [(223,Bx)]) bm hv fun v z h hv hz=>by
  rcases hz with rfl|rfl
  . exact SH v _ h hv bq.1 (by have:=lq.1;omega)
  . refine SH v _ h hv (by rw[cH ac];exact bq.2) ?_;rw[OW];have:=lq.2;omega) (fH hv.top) rfl rfl h
 refine bO (ake (M:=aZ Tryz.prog FT SG) bm hv q175 (fun h=>alf v q hv hq h)) (fH hv.top) ?_ ?_ h
 . split <;> rfl
 . split <;> rfl
theorem alh:∀v q,br v q->∃s:Int,(s=0↔q=0)/\∀h,Ik [v] h=some ⟨.iV s,h,[]⟩:=fun v q hv=>
 ⟨bz q.num,by rw[←ve];unfold bz;omega,dm (ZW (eJ.c (N:=1) am) hv) (fH hv.top)⟩
noncomputable def Il:List (Nat×Spec):=[(97,pF),(96,pG),(101,SD),(103,Gn),(105,Ij),(355,Ik),(149,Fi),(150,Fj),(152,uh)]
theorem ali:cD Tryz.prog gl (bk Il):=aO KS (aO KT (aO akY (aO afD (aO alc (aO ald (aO abS (aO abT (aO MD bA))))))))
theorem alj : ew Tryz.prog 133 "Div" = some 150 := by kernel_rfl
theorem inv_mul : ew Tryz.prog 133 "Mul" = some 152 := by kernel_rfl
theorem alk : ew Tryz.prog 133 "Sub" = some 149 := by kernel_rfl
theorem alm : ew Tryz.prog 133 "Sign" = some 355 := by kernel_rfl
set_option maxRecDepth 100000 in
theorem SI:mQ (aZ Tryz.prog FT Il) where
 ft:=bm
 RG:=alj
 RH:=inv_mul
 RI:=alk
 vv:=alm
 HM:=alh
 RJ:=fun a b p q ha hb hp hq=>abU (N:=40000) ac ac a b p q ha hb (hp.bq (b5 _)) (hq.bq (b5 _))
 RK:=fun a b p q ha hb hp hq h0=>abV (N:=40000) ac ac a b p q ha hb (hp.bq (b5 _)) (hq.bq (b5 _)) ((hq.inv h0).bq (b5 _)) h0
 ua:=fun a b p q ha hb hp hq=>MF (N:=40000) ac ac a b p q ha hb (hp.bq (b5 _)) (hq.bq (b5 _))
 lj:=fun _ _ _=>rfl
 iZ:=fun v h l hl hn=>OZ hl hn
 Bp:=fun l h hl hs=>bO (ajL (M:=aZ Tryz.prog FT [(84,Af)]) bm (fun s h hl=>k84 s h hl) l hl hs) (fH (kZ l)) rfl rfl h
 vB:=fun q hq=>afE (N:=1000) am am q (hq.lq am am)
 Sb:=fun _ _=>rfl
 Sc:=fun _ _=>rfl
 Sd:=alg
noncomputable def SJ:Spec:=sK Il 30
theorem aln:aT Tryz.prog gl 30 SJ:=bh ali
noncomputable def Im:List (Nat×Spec):=[(18,Eg),(28,SA),(29,Ih),(30,SJ),(31,mR),(25,pF),(32,SB),(33,SC)]
theorem alo:cD Tryz.prog gl (bk Im):=aO XV (aO akV (aO akU (aO aln (aO akP (aO Ye (aO akW (aO akX bA)))))))
theorem c4:C4 (aZ Tryz.prog FT Im) where
 ft:=bm
 Sj:=fun h=>XW h
 HW:=fun l h=>bO (w28 (M:=aZ Tryz.prog FT []) bm l 8 am) (eK (kZ l) rfl) rfl rfl h
 Sk:=u29
 Sm:=fun m b h hm hS hb he=>bO (akn SI rfl hm hS hb he) (vD m b _ _) rfl rfl h
 Sn:=fun m b n h hm hn hS hb he=>dm (w30 SI hm hn hS hb he) (vD m b n n) h
 Bt:=akR
 mR:=akS
 HX:=fun _ _ _=>rfl
 So:=fun r n h hn hd=>bO (w32 (M:=aZ Tryz.prog FT [(108,AS)]) bm (f:=fun a=>r a n) sm ac (fun i hi=>by
  rw[getElem!_pos _ i (by rw[sm];exact hi)];simp[gV]) (fun i h hi=>akB _ h ((hd i n hi ac).mono am))) (fH (kZ _)) rfl rfl h
 Sp:=fun l n h hl hn=>bO (w33 (M:=aZ Tryz.prog FT []) bm hl hn) (eK (kZ l) (kZ l)) rfl rfl h
end Go.Ab.Ch1
