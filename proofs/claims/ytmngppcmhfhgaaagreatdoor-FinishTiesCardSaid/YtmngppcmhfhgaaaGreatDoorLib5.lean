/-
  Own work: the reference's integers: read from texts.
-/
import Derived.Test.YtmngppcmhfhgaaaGreatDoorLib4
import Derived.Test.YtmngppcmhfhgaaaGreatDoorLib3
import Derived.Test.YtmngppcmhfhgaaaGreatDoorCh5Base
open Bool renaming and_eq_true→ib,false_and→i5,true_and→ne,not_false→p9
open Int renaming mul_le_mul_of_nonneg_left→az,mul_le_mul_of_nonneg_right→be,pow_succ→b8,gcd→ci,le_of_lt→cN,mul_zero→c6,emod_lt_of_pos→c8,lt_or_le→dh,add_zero→dr,mul_lt_mul_of_pos_right→dF,mul_assoc→dU,emod_nonneg→d9,toNat_natCast→fg,pow_pos→fF,gcd_pos_of_ne_zero_right→f6,ediv_eq_of_eq_mul_right→f8,mul_add→gF,tdiv_eq_ediv_of_nonneg→gT,tmod_eq_emod_of_nonneg→gU,add_mul→g9,one_mul→iB,mul_nonneg→iK,mul_ediv_add_emod→i7,ediv_lt_of_lt_mul→i8,toNat→jj,mul_le_mul→jN,lt_of_mul_lt_mul_left→j0,mul_tdiv_cancel_left→lc,ediv_le_self→l9,sub_zero→mn,gcd_zero_right→n3,lt_of_lt_of_le→n5,lt_of_le_of_lt→n6,zero_add→n9,mul_comm→ox,pow_add→pm,mul_pos→pp,sub_mul→pu,natCast_pow→pB,ediv_nonneg→pL,natAbs_tdiv→p6,add_assoc→qo
open List renaming length_set→aZ,length_append→bc,mem_singleton→bj,length_take→b5,take_of_length_le→b7,length_nil→cd,getElem!_eq_getElem?_getD→ce,length_pos_iff→cK,take_length→cV,replicate→c5,length_cons→c7,eq_nil_of_length_eq_zero→db,length_drop→d6,length_singleton→d7,drop_eq_getElem_cons→d8,append_assoc→ff,all_cons→f7,take_append_drop→i6,drop_append_of_le_length→i9,length→j9,getElem?_take_of_lt→k9,drop_length→le,drop_left→m7,drop_zero→m8,getElem?_drop→nO,all_nil→n8,all_append→pC,drop_drop→p7,take_take→p8
open Nat renaming le_refl→aW,zero_lt_one→fM,pow_le_pow_right→gc,min_eq_left→ii,lt_of_le_of_lt→ip,gcd→ja,eq_zero_or_pos→jR,zero_le→kw,le_of_not_lt→li,lt_or_ge→mp,div_le_self→m6,add_assoc→m9,lt_of_lt_of_le→nz,add_sub_cancel→n4,lt_succ_self→oy,div_eq_of_lt→pi
open Option renaming isSome_iff_exists→kM
open Rat renaming divInt→b6,neg_divInt_neg→n7
open UInt8 renaming toNat_inj→m5
set_option maxHeartbeats 8000000
set_option maxRecDepth 20000
namespace Go.Ab.Ch5.N
open Go.Ab.aX
variable {M:ax} {cap c1 c2:Option Nat}
def bW (v:AV)(z:Int):Prop:=∃neg x l,v = .agg [.bool neg,x]/\cH x l/\okW dB l/\aR l/\z=(if neg then -WV dB l else WV dB l)/\(neg=true->l≠[])
def ji (v:AV)(z:Int):Prop:=∃neg l,v = .agg [.bool neg,.vs (ak l) l.length none]/\okW dB l/\aR l/\z=(if neg then -WV dB l else WV dB l)/\(neg=true->l≠[])
theorem ji.sN {v:AV}{z:Int}(h:ji v z):bW v z:=by
 obtain⟨neg,l,h1,h2,h3,h4,h5⟩:=h;exact⟨neg,_,l,h1,.inl rfl,h2,h3,h4,h5⟩
theorem Lc (n:Nat):((10^(9*n):Nat):Int)=dB^n:=by
 rw[Nat.pow_mul];exact pB _ _
theorem Zs {t x:aj}(hx:x.length=9):aL 0 (t++x)=aL 0 t*1000000000+aL 0 x:=by
 rw[nU,wH,hx]
structure DH (M:ax):Prop where
 ft:M.FT=FT
 dV:∀ars h,M.ext 236 ars h=none
 sO:∀ars h,M.ext 183 ars h=none
 ou:∀(s:aj) h,s.length<=18->s.all bI=true->M.ext 232 [.str s] h=some ⟨.iV (aL 0 s:Nat),h,[]⟩
theorem Ld {K:ae}{c:Nat}{L:List Int}{neg:Bool}(hc:K.at c=some (.cells (ak L) 3))(oL:okW dB L) :
 ∃v0,ji v0 (if neg then -WV dB L else WV dB L)/\dQ (.agg [.bool (neg && decide (0<aS (L.take L.length))),bO c (aS (L.take L.length)) none]) (if (AV.agg [.bool (neg && decide (0<aS (L.take L.length))),bO c (aS (L.take L.length)) none]).top<=0 then [] else K) v0:=by
 obtain⟨v1,f1,t1,k1⟩:=DG (cap:=none) hc (aW L.length) (if (AV.agg [.bool (neg && decide (0<aS (L.take L.length))),bO c (aS (L.take L.length)) none]).top<=0 then [] else K) (fun h=>by
  rw[if_neg];intro h2;apply h;have:(AV.agg [.bool (neg && decide (0<aS (L.take L.length))),bO c (aS (L.take L.length)) none]).top=max 0 (max (bO c (aS (L.take L.length)) none).top 0):=rfl;omega)
 obtain⟨g1,g2,g3⟩:=od oL;rw[cV]at k1 f1 ⊢;refine⟨.agg [.bool (neg && decide (0<aS L)),.vs (ak (L.take (aS L))) (L.take (aS L)).length none],⟨_,_,rfl,g1,g2,?_,?_⟩,.agg [.bool (neg && decide (0<aS L)),v1],.agg rfl (fun i a b ha hb=>?_),?_,?_⟩
 . rw[g3];cases neg with
   | false=>rfl
   | true=>
    by_cases h0:0<aS L
    . rw[decide_eq_true h0];rfl
    . rw[decide_eq_false h0];have:WV dB L=0:=by rw[←g3,show aS L=0 by omega];rfl
      rw[this];rfl
 . intro h e;rw[ib,decide_eq_true_eq]at h;have:=congrArg j9 e;have hle:=iJ (l:=L);rw[b5,cd]at this;omega
 . match i with
   | 0=>cases ha;cases hb;exact .same rfl
   | 1=>cases ha;cases hb;exact f1
   | i+2=>cases ha
 . simp[AV.top,bz,t1]
 . simp only[bD,cC,k1]
theorem Zt (C:DH M){Q:Ex->au->Prop}(full:aj)(hD:full.all bI=true)(hl:full.length<1000000)(a2:AV)
 (hQ:∀t acc o K lo wr,t.length<=9->t.all bI=true->okW dB acc->acc.length<1000000->(aL 0 full:Int)=aL 0 t*dB^acc.length+WV dB acc->bC iC 1 3 K o acc [0]->K.at 0=some (.cells [.bool false,.ab] 200)->Q (.exit 0) ⟨⟨[.str t,.ptr 0 0,a2,o],lo,K,[]⟩,wr⟩)
 (lo:List (Nat×AV)) (wr:List Nat) (K:ae) (hK:K.at 0=some (.cells [.bool false,.ab] 200)) :
 W M (.loop sE) ⟨⟨[.str full,.ptr 0 0,a2,.ab],lo,K,[]⟩,wr⟩ Q:=by
 refine W.gH (fun m st=>∃t acc o K lo wr,st=⟨⟨[.str t,.ptr 0 0,a2,o],lo,K,[]⟩,wr⟩/\t.length=m/\t.all bI=true/\okW dB acc/\acc.length*9+t.length<=full.length/\(aL 0 full:Int)=aL 0 t*dB^acc.length+WV dB acc/\bC iC 1 3 K o acc [0]/\K.at 0=some (.cells [.bool false,.ab] 200))
  (fun m st ⟨t,acc,o,K,lo,wr,hst,hm,hDt,oA,hln,hv,ho,hK⟩=>?_) (m:=full.length) ⟨full,[],.ab,K,lo,wr,rfl,rfl,hD,iI,aq,by simp[WV],.kj,hK⟩
 subst hst;by_cases h9:t.length<=9
 . unfold sE;repeat' first|apply aaQ|apply aa|apply aaf|apply aad|apply acH|apply bN|apply cX|(apply abx;rfl)|(apply abV;rfl;rfl)|(apply abh;rfl;rfl)|(intro _;omega)|intro _
   all_goals try omega
   all_goals exact hQ _ _ _ _ _ _ h9 hDt oA ac hv ho hK
 . obtain⟨x,y,hxy,hxl⟩:∃x y,t=x++y/\y.length=9:=⟨t.take (t.length-9),t.drop (t.length-9),(i6 _ t).symm,by rw[d6];omega⟩;have htl:t.length=x.length+9:=by rw[hxy,bc,hxl]
   have hDx:x.all bI=true:=by rw[hxy,pC,ib]at hDt;exact hDt.1
   have hDy:y.all bI=true:=by rw[hxy,pC,ib]at hDt;exact hDt.2
   have q232:=fun h=>C.ou y h ac hDy
   have hylt:aL 0 y<1000000000:=by have:=mF y hDy;rw[hxl]at this;exact this
   have edr:t.drop ((t.length:Int)-9).toNat=y:=by rw[show ((t.length:Int)-9).toNat=x.length by omega,hxy,m7]
   have etk:t.take ((t.length:Int)-9).toNat=x:=by rw[show ((t.length:Int)-9).toNat=x.length by omega,hxy,List.take_left]
   have hroom:(acc.length+1)*8<=dO:=by unfold dO;omega
   have hK1:=gG hK;unfold sE;repeat' first|(apply adY (s:=t) (r:=y);rfl;rfl;omega;exact edr)|(apply aec (s:=t) (r:=x);rfl;rfl;omega;exact etk)|(refine bC.app (f:=iC) (m:=[(aL 0 y:Int)]) (S:=[0]) (fun _=>rfl) (fun _=>rfl) am (ho.grow [_]) aq rfl rfl (Sl.iZ (f:=iC) (esz:=1) (l:=[(aL 0 y:Int)]) (e:=3) (fun _=>rfl) bS rfl) hroom (fun H w' o' ho' hk hlen=>?_))|apply aaQ|apply aa|apply aaf|apply aad|apply abI|apply abC|apply bE|(apply abz;rfl)|(apply abV;rfl;rfl)|(apply adj;rfl;rfl;omega)|(apply abJ;rfl;rfl;first|exact q232 _)|(apply acn;rfl;rfl;rfl)|(apply abh;rfl;rfl)|(apply abl;rfl;rfl)|(intro _;omega)|intro _
   all_goals try omega
   all_goals exact cW ⟨x.length,ac,x,acc++[(aL 0 y:Int)],o',H,_,_,rfl,rfl,hDx,js oA (fun z hz=>by rw[bj.1 hz];exact⟨ac,by show _<(1000000000:Int);omega⟩),by rw[bc,d7];omega,by
    rw[hv,hxy,Zs hxl,bc,d7,b8,fN];rw[Int.natCast_add,Int.natCast_mul];have:WV dB [(aL 0 y:Int)]=aL 0 y:=by simp[WV]
    rw[this];show ((aL 0 x:Int)*1000000000+aL 0 y)*dB^acc.length+WV dB acc=aL 0 x*(dB^acc.length*1000000000)+(WV dB acc+dB^acc.length*aL 0 y);grind,ho',hk 0 _ aq (cm hK)⟩
theorem Zu (C:DH M)(s:aj)(hl:s.length<1000000)(hD:(bL 45 s).all bI=true):∃v0,ji v0 (if preB 45 s then -(aL 0 (bL 45 s):Int) else (aL 0 (bL 45 s):Nat))/\de M 178 [.str s] v0:=by
 have hcl:=qi 45 s;obtain⟨v',hh,⟨v0,h0,ho⟩,hr⟩:=gS (M:=M) (f:=178) (ars:=[.str s]) (P:=fun v hh=>∃v0,ji v0 (if preB 45 s then -(aL 0 (bL 45 s):Int) else (aL 0 (bL 45 s):Nat))/\dQ v hh v0) (by rw[C.ft];exact Zc) aq (by
  have main:∀(neg:Bool) (lo:List (Nat×AV)) (wr:List Nat) {Q:Ex->au->Prop},(∀e st,((e = .normal\/e = .ret)/\st.s.cg=[]/\∃vs,dH st.s [.cell 2 true (.p 1)]=some vs/\∃v0,ji v0 (if neg then -(aL 0 (bL 45 s):Int) else (aL 0 (bL 45 s):Nat))/\dQ (aV vs) (if (aV vs).top<=0 then [] else st.s.hp) v0)->Q e st) ->
   W M (.loop sE) ⟨⟨[.str (bL 45 s),.ptr 0 0,.bool neg,.ab],lo,[some (.cells [.bool false,.ab] 200)],[]⟩,wr⟩ (BQ 0 (SQ M (zR [zm 33 2,
    zm 34 3,
    zm 35 0,
    z1 36 232 35,
    ⟨(.l 37),.dX 3 1 1 [.iV (0)] [(0,1,(.l 36))],none⟩,
    ⟨(.l 38),.append 3 1 8 (.l 34) (.l 37),none⟩,
    z2 39 183 33 38,
    zs 2 1 39]
     (.ret)) Q)):=by
   intro neg lo wr Q hQ;refine Zt C (bL 45 s) hD ac _ (fun t acc o K lo wr ht hDt oA hacc hv ho hK=>?_) _ _ _ rfl;have q232:=fun h=>C.ou t h ac hDt
   have htlt:aL 0 t<1000000000:=by
    have h1:=mF t hDt;exact nz h1 (Nat.le_trans (gc am ht) am)
   have hroom:(acc.length+1)*8<=dO:=by unfold dO;omega
   have hK1:=gG hK;repeat' first|(refine bC.app (f:=iC) (m:=[(aL 0 t:Int)]) (S:=[0]) (fun _=>rfl) (fun _=>rfl) am (ho.grow [_]) aq rfl rfl (Sl.iZ (f:=iC) (esz:=1) (l:=[(aL 0 t:Int)]) (e:=3) (fun _=>rfl) bS rfl) hroom (fun H w' o' ho' hk hlen=>?_))|apply aaQ|apply aa|apply aaf|apply bJ|(apply abJ;rfl;rfl;first|exact q232 _)|(apply acn;rfl;rfl;rfl)|(apply abh;rfl;rfl)
   rcases ho' with ⟨h1,_⟩|⟨c,cp,hc0,rfl,hc,hcap⟩
   . simp at h1
   obtain rfl:cp=none:=hcap.resolve_right fun h=>by simp at h
   have oL:okW dB (acc++[(aL 0 t:Int)]):=js oA (fun z hz=>by rw[bj.1 hz];exact⟨ac,by show _<(1000000000:Int);omega⟩);have vL:WV dB (acc++[(aL 0 t:Int)])=(aL 0 (bL 45 s):Int):=by
    rw[hv,fN];have:WV dB [(aL 0 t:Int)]=aL 0 t:=by simp[WV]
    rw[this];grind
   have h0':H.at 0=some (.cells [.bool false,.ab] 200):=hk 0 _ aq (cm hK);have hcn:c≠0:=fun e=>hc0 (by simp[e])
   obtain⟨L,hL⟩:∃L,L=acc++[(aL 0 t:Int)]:=⟨_,rfl⟩;rw[←hL]at oL vL hc;have hLl:(acc++[(aL 0 t:Int)]).length=L.length:=by rw[hL]
   rw[hLl];have hLn:0<L.length/\L.length<1000001:=by rw[hL,bc,d7];omega
   have q183:=CT.run (fi:=[]) (ca:=[]) (ars:=[.bool neg,.sl c 0 L.length 1 none]) (C.sO _ _) (Lb (cap:=none) C.ft C.dV neg hc hLn.1 (aW _) ac (fun _ h=>by cases h));obtain⟨v0,k0,o0⟩:=Ld (K:=H.put 0 (some (.cells [.bool (neg && decide (0<aS (L.take L.length))),bO c (aS (L.take L.length)) none] 200))) (neg:=neg) (Al hcn hc) oL;rw[vL]at k0;have hone:cI (bO c (aS (L.take L.length)) none)=true:=by unfold bO;split <;> rfl
   repeat' first|(apply adM;rfl;rfl;exact h0';exact⟨rfl,aW _,by rw[f7,f7,n8,hone];rfl⟩;rfl)|apply aa|apply aad|apply abw|(apply adQ;rfl;rfl;first|exact q183)
   refine hQ _ _ ⟨.inr rfl,rfl,_,ot rfl (cJ (gG h0')),v0,k0,o0⟩
  unfold KN;simp only[enter];cases hp:preB 45 s with
  | true=>
   obtain⟨h1,h2⟩:=ss hp;have h1:s.drop (1:Int).toNat=bL 45 s:=h1;have e0:s[0]! = 45:=by
    have h:=of_decide_eq_true hp;cases s with
    | nil=>simp at h
    | cons c t=>simp at h;exact h
   have e45:((s[(0:Int).toNat]!).toNat:Int)=45:=by rw[show s[(0:Int).toNat]! = s[0]! from rfl,e0];rfl
   repeat' first|(apply adY;rfl;rfl;omega;exact h1)|apply aaQ|apply aa|apply aaf|apply aad|apply abI|(apply abz;rfl)|(apply acF;rfl)|(apply abV;rfl;rfl)|(apply acR;rfl;rfl)|(apply aco;rfl;rfl)|(apply adT;rfl;rfl;omega)|(apply abU;rfl;rfl;rfl)|(apply abh;rfl;rfl)|(apply abl;rfl;rfl)|(intro _;omega)|intro _
   all_goals try omega
   all_goals exact main true _ _ (fun e st h=>h)
  | false=>
   have e1:=jX hp;rw[e1]at main;by_cases h0:s.length=0
   . repeat' first|apply aaQ|apply aa|apply aaf|apply aad|apply abI|apply abC|(apply abx;rfl)|(apply adu;rfl)|(apply abV;rfl;rfl)|(apply acw;rfl;rfl)|(apply abU;rfl;rfl;rfl)|(apply abh;rfl;rfl)|(apply abl;rfl;rfl)|(intro _;omega)|intro _
     all_goals try omega
     all_goals exact main false _ _ (fun e st h=>by rw[e1];exact h)
   . have e45:((s[(0:Int).toNat]!).toNat:Int)≠45:=fun e=>by
      have h:=of_decide_eq_false hp;cases s with
      | nil=>exact h0 rfl
      | cons c t=>
       refine h (congrArg some (m5.1 ?_));have e:((c.toNat:Nat):Int)=45:=e;have:(45:UInt8).toNat=45:=rfl;omega
     repeat' first|apply aaQ|apply aa|apply aaf|apply aad|apply abI|apply abC|(apply abx;rfl)|(apply acF;rfl)|(apply abV;rfl;rfl)|(apply acR;rfl;rfl)|(apply aco;rfl;rfl)|(apply adT;rfl;rfl;omega)|(apply abU;rfl;rfl;rfl)|(apply abh;rfl;rfl)|(apply abl;rfl;rfl)|(intro _;omega)|intro _
     all_goals try omega
     all_goals exact main false _ _ (fun e st h=>by rw[e1];exact h))
 exact⟨v0,h0,v',hh,ho,hr⟩
theorem sP (x:AV){l:List Int}(h:cH x l):cI x=true/\x.top=0/\bD x=x:=by
 rcases h with rfl|⟨rfl,rfl⟩
 . exact⟨rfl,fv l,by rw[bD,oe]⟩
 . exact⟨rfl,rfl,rfl⟩
theorem bW.shape {v:AV}{z:Int}(h:bW v z):∃neg x l,v = .agg [.bool neg,x]/\cH x l/\cI x=true/\x.top=0/\bD x=x:=by
 obtain⟨neg,x,l,rfl,hx,_⟩:=h;obtain⟨h1,h2,h3⟩:=sP x hx;exact⟨neg,x,l,rfl,hx,h1,h2,h3⟩
theorem iM {n:Bool}{x:AV}(h:cI x=true):[AV.bool n,x].all cI=true:=by rw[f7,f7,n8,h];rfl
theorem Le {s:aj}(h:jA s=true):s.take (cE s)=(bH 47 s).1/\s.drop (cE s+1)=(bH 47 s).2.getD []/\cE s+1<=s.length:=by
 unfold jA at h;obtain⟨y,hy⟩:=kM.1 h;have h1:=Dc hy;have h2:=JY hy;have h3:=sr hy;refine⟨h1,?_,by unfold cE;omega⟩;rw[hy];exact h2
theorem Lf (hft:M.FT=FT)(s:aj)(hl:s.length<1000000)(hb:jA s=true)(q152:∀h,M.ext 152 [.str s] h=some ⟨.iV (cE s),h,[]⟩){v1 v2:AV}{z1 z2:Int}(k1:bW v1 z1)(k2:bW v2 z2)(qa:∀h,M.ext 178 [.str (bH 47 s).1] h=some ⟨v1,h,[]⟩)(qb:∀h,M.ext 178 [.str ((bH 47 s).2.getD [])] h=some ⟨v2,h,[]⟩):de M 170 [.str s] (.ay [v1,v2]):=by
 obtain⟨e1,e2,hk⟩:=Le hb;obtain⟨n1,x1,l1,rfl,_,o1,t1,b1⟩:=k1.shape;obtain⟨n2,x2,l2,rfl,_,o2,t2,b2⟩:=k2.shape;have e1':s.take ((cE s:Nat):Int).toNat=(bH 47 s).1:=e1;have e2':s.drop ((cE s:Int)+1).toNat=(bH 47 s).2.getD []:=by rw[show ((cE s:Int)+1).toNat=cE s+1 by omega];exact e2
 generalize (bH 47 s).1=X at *
 generalize (bH 47 s).2.getD []=Y at *
 refine du (by rw[hft];exact KM) aq ?_;unfold Du;simp only[enter];repeat' first|(apply aec (s:=s) (r:=X);rfl;rfl;omega;exact e1')|(apply adY (s:=s) (r:=Y);rfl;rfl;omega;exact e2')|(apply adN;rfl;rfl;(first|(simp only[nca];rfl)|rfl);first|exact qa _|exact qb _)|(apply adM;rfl;rfl;rfl;exact⟨rfl,aW _,by first|exact iM o1|exact iM o2⟩;rfl)|apply aaQ|apply aa|apply aaf|apply aad|apply abw|apply abC|apply adr|apply adI|(apply adO;rfl)|(apply adW;rfl;(first|(simp only[nca];rfl)|rfl);(first|(simp only[nca];rfl)|rfl))|(apply abx;rfl)|(apply acR;rfl;rfl)|(apply acS;rfl;rfl;omega)|(apply abJ;rfl;rfl;first|exact q152 _)|(apply abU;rfl;rfl;rfl)|(apply abh;rfl;rfl)|(apply abl;rfl;rfl)|(intro _;omega)|intro _
 all_goals try omega
 refine cD rfl rfl (.same ?_ ?_)
 . show max (max 0 (max x1.top 0)) (max (max 0 (max x2.top 0)) 0)=0;rw[t1,t2];rfl
 . show AV.ay [.agg [.bool n1,bD x1],.agg [.bool n2,bD x2]]=_;rw[b1,b2]
theorem Lg (hft:M.FT=FT)(a b:List Int)(ha:okW dB a)(hb:okW dB b)(na:aR a)(nb:aR b)(la:a.length<1000000000)(_lb:b.length<1000000000) :
 bg M 255 [.vs (ak a) a.length c1,.vs (ak b) b.length c2] [] ⟨.iV (br (WV dB a-WV dB b)),[],[]⟩:=by
 have hB:(1:Int)<dB:=by decide
 refine bY (by rw[hft];exact Zf) aq ?_;by_cases hl:a.length=b.length
 . have loop:∀(r:Nat) lo a2 wr {Q:Ex->au->Prop},r<=a.length->a.drop r=b.drop r ->
    (∀lo wr z,z=br (WV dB a-WV dB b)->∀a3,Q .ret ⟨⟨[.vs (ak a) a.length c1,.vs (ak b) b.length c2,.iV z,a3],lo,[],[]⟩,wr⟩) ->
    (br (WV dB a-WV dB b)=0->∀lo wr,Q (.exit 0) ⟨⟨[.vs (ak a) a.length c1,.vs (ak b) b.length c2,a2,.iV (-1)],lo,[],[]⟩,wr⟩) ->
    W M (.loop qm) ⟨⟨[.vs (ak a) a.length c1,.vs (ak b) b.length c2,a2,.iV ((r:Int)-1)],lo,[],[]⟩,wr⟩ Q:=by
    intro r;induction r with
    | zero=>
     intro lo a2 wr Q hr hd h1 h2;rw[m8,m8]at hd;refine W.loop ?_;unfold qm;repeat' first|apply aaQ|apply aa|apply aaf|apply aad|apply acH|apply bN|apply dP|(apply abx;rfl)|(apply adK;rfl;rfl)|(apply abh;rfl;rfl)|(intro _;omega)|intro _
     all_goals try omega
     exact h2 (by rw[hd,Int.sub_self];rfl) _ _
    | succ r ih=>
     intro lo a2 wr Q hr hd h1 h2;have er:((r+1:Nat):Int)-1=r:=by omega
     rw[er];have hai:a[((r:Int)).toNat]! = a[r]! := rfl;have hbi:b[((r:Int)).toNat]! = b[r]! := rfl;refine W.loop ?_;by_cases hlt:a[r]! < b[r]!
     . have:=vh hB ha hb (i:=r) ac ac hd hlt;rw[←hai,←hbi]at hlt;unfold qm;repeat' first|apply aaQ|apply aa|apply aaf|apply aad|apply abI|apply abw|apply abC|apply aU|apply cQ|apply jJ|(apply adX;rfl)|(apply abz;rfl)|(apply abR;rfl;rfl)|(apply adK;rfl;rfl)|(apply adp;rfl;rfl;omega)|(apply adL;rfl;exact fun _=>rfl;(first|omega|(simp only[aZ];omega)|(simp;omega));decide;rfl;case ia=>infer_instance)|(apply abh;rfl;rfl)|(apply abl;rfl;rfl)|(intro _;omega)|intro _
       all_goals try omega
       all_goals exact h1 _ _ _ (by rw[br,if_pos ac]) _
     . by_cases hgt:b[r]! < a[r]!
       . have:=vh hB hb ha (i:=r) ac ac hd.symm hgt;rw[←hai,←hbi]at hlt hgt;unfold qm;repeat' first|apply aaQ|apply aa|apply aaf|apply aad|apply abI|apply abw|apply abC|apply aU|apply cQ|apply jJ|(apply adX;rfl)|(apply abz;rfl)|(apply abx;rfl)|(apply abR;rfl;rfl)|(apply abV;rfl;rfl)|(apply adK;rfl;rfl)|(apply adp;rfl;rfl;omega)|(apply adL;rfl;exact fun _=>rfl;(first|omega|(simp only[aZ];omega)|(simp;omega));decide;rfl;case ia=>infer_instance)|(apply abh;rfl;rfl)|(apply abl;rfl;rfl)|(intro _;omega)|intro _
         all_goals try omega
         all_goals exact h1 _ _ _ (by rw[br,if_neg ac,if_pos ac]) _
       . have hd2:a.drop r=b.drop r:=by
          rw[d8 (show r<a.length by omega),d8 (show r<b.length by omega),hd,←getElem!_pos a r,←getElem!_pos b r];exact congrArg (· :: _) (show a[r]! = b[r]! by omega)
         rw[←hai,←hbi]at hlt hgt;unfold qm;repeat' first|apply aaQ|apply aa|apply aaf|apply aad|apply abI|apply abC|apply bE|(apply adX;rfl)|(apply abz;rfl)|(apply abx;rfl)|(apply abR;rfl;rfl)|(apply abV;rfl;rfl)|(apply adK;rfl;rfl)|(apply adj;rfl;rfl;omega)|(apply adp;rfl;rfl;omega)|(apply adL;rfl;exact fun _=>rfl;(first|omega|(simp only[aZ];omega)|(simp;omega));decide;rfl;case ia=>infer_instance)|(apply abh;rfl;rfl)|(apply abl;rfl;rfl)|(intro _;omega)|intro _
         all_goals try omega
         all_goals exact gk (ih _ _ _ ac hd2 h1 h2)
   unfold Dy;simp only[enter];repeat' first|apply aaQ|apply aa|apply aaf|apply aad|apply abI|apply abC|(apply abx;rfl)|(apply adf;rfl;rfl)|(apply adj;rfl;rfl;omega)|(apply abh;rfl;rfl)|(apply abl;rfl;rfl)|(intro _;omega)|intro _
   all_goals try omega
   refine loop a.length _ _ _ (aW _) (by rw[le,hl,le]) (fun lo wr z hz a3=>?_) (fun hz lo wr=>?_)
   . subst hz;repeat' first|apply aU|apply cQ
     all_goals exact⟨.inr rfl,rfl,_,rfl,rfl,rfl⟩
   . rw[hz];repeat' first|apply aaQ|apply aa|apply aaf|apply aad|apply abw|apply bJ|(apply abl;rfl;rfl)
     all_goals exact⟨.inr rfl,rfl,_,rfl,rfl,rfl⟩
 . unfold Dy;simp only[enter];by_cases hlt:a.length<b.length
   . have:=nM hB ha hb nb hlt;rw[show br (WV dB a-WV dB b) = -1 by rw[br,if_pos ac]];repeat' first|apply aaQ|apply aa|apply aaf|apply aad|apply abw|apply aU|(apply abz;rfl)|(apply abR;rfl;rfl)|(apply adf;rfl;rfl)|(apply abh;rfl;rfl)|(apply abl;rfl;rfl)|(intro _;omega)|intro _
     all_goals first|contradiction|(omega)|skip
     all_goals exact⟨.inr rfl,rfl,_,rfl,rfl,rfl⟩
   . have:=nM hB hb ha na ac;rw[show br (WV dB a-WV dB b)=1 by rw[br,if_neg ac,if_pos ac]];repeat' first|apply aaQ|apply aa|apply aaf|apply aad|apply abw|apply abC|apply aU|(apply abz;rfl)|(apply abx;rfl)|(apply abR;rfl;rfl)|(apply adf;rfl;rfl)|(apply abh;rfl;rfl)|(apply abl;rfl;rfl)|(intro _;omega)|intro _
     all_goals first|contradiction|(omega)|skip
     all_goals exact⟨.inr rfl,rfl,_,rfl,rfl,rfl⟩
theorem Zv (a:List Int)(oa:okW dB a)(la:a.length<10000000)(d:Int)(hd:0<d/\d<=1000000000){Q:Ex->au->Prop}(a2 a3:AV)
 (hQ:∀L (re:Int) a7 lo wr,L.length=a.length->okW dB L->(0<=re/\re<d)->WV dB a=d*WV dB L+re ->
   Q (.exit 0) ⟨⟨[.vs (ak a) a.length c1,.iV d,a2,a3,.sl 0 0 a.length 1 (some a.length),.iV re,.iV (-1),a7],lo,[some (.cells (ak L) 3)],[]⟩,wr⟩) (a7:AV) (lo:List (Nat×AV)) :
 W M (.loop xE) ⟨⟨[.vs (ak a) a.length c1,.iV d,a2,a3,.sl 0 0 a.length 1 (some a.length),.iV 0,.iV ((a.length:Int)-1),a7],lo,[some (.cells (ak (c5 a.length 0)) 3)],[]⟩,[]⟩ Q:=by
 refine W.gH (fun t s=>∃L re iv a7 lo wr,s=⟨⟨[.vs (ak a) a.length c1,.iV d,a2,a3,.sl 0 0 a.length 1 (some a.length),.iV re,.iV iv,a7],lo,[some (.cells (ak L) 3)],[]⟩,wr⟩ /\
  iv=(t:Int)-1/\t<=a.length/\L.length=a.length/\okW dB L/\(0<=re/\re<d)/\(∀k,k<t->L[k]! = 0)/\WV dB a=d*WV dB L+dB^t*re+WV dB (a.take t)) (fun t s ⟨L,re,iv,a7,lo,wr,hs,hiv,ht,hL,oL,hre,hz,hv⟩=>?_) (m:=a.length)
  ⟨_,_,_,_,_,_,rfl,rfl,aW _,aq,km am,⟨am,hd.1⟩,fun k _=>kp,by rw[kn,cV];simp⟩
 subst hs;cases t with
 | zero=>
  obtain rfl:iv = -1:=by omega
  unfold xE;repeat' first|apply aaQ|apply aa|apply aaf|apply aad|apply acH|apply bN|apply cX|(apply abx;rfl)|(apply adK;rfl;rfl)|(apply abh;rfl;rfl)|(intro _;omega)|intro _
  all_goals try omega
  exact hQ L re _ _ _ hL oL hre (by rw[hv];simp[WV])
 | succ i=>
  obtain rfl:iv=(i:Int):=by omega
  have gx:=cj oa (i:=i) ac;obtain⟨x,hx⟩:∃x,x=a[((i:Int)).toNat]! := ⟨_,rfl⟩;rw[show a[i]! = x from hx.symm]at gx;have gx:0<=x/\x<1000000000:=gx;have e1:=i7 (re*1000000000+x) d;have r0:=d9 (re*1000000000+x) (show d≠0 by omega);have r1:=c8 (re*1000000000+x) hd.1;have d0:0<=(re*1000000000+x)/d:=pL ac ac;have d1:(re*1000000000+x)/d<1000000000:=i8 hd.1 ac;have eI:0+((i:Int)).toNat*1=i:=by omega
  obtain⟨q,hq⟩:∃q,q=(re*1000000000+x)/d:=⟨_,rfl⟩;obtain⟨r,hr⟩:∃r,r=(re*1000000000+x)%d:=⟨_,rfl⟩;have next:∀a7 lo wr,LI (fun s=>∃m',m'<i+1/\∃L re iv a7 lo wr,s=⟨⟨[.vs (ak a) a.length c1,.iV d,a2,a3,.sl 0 0 a.length 1 (some a.length),.iV re,.iV iv,a7],lo,[some (.cells (ak L) 3)],[]⟩,wr⟩ /\
   iv=(m':Int)-1/\m'<=a.length/\L.length=a.length/\okW dB L/\(0<=re/\re<d)/\(∀k,k<m'->L[k]! = 0)/\WV dB a=d*WV dB L+dB^m'*re+WV dB (a.take m')) Q .normal ⟨⟨[.vs (ak a) a.length c1,.iV d,a2,a3,.sl 0 0 a.length 1 (some a.length),.iV r,.iV ((i:Int)-1),a7],lo,[some (.cells (ak (L.set i q)) 3)],[]⟩,wr⟩:=fun a7 lo wr=>
   cW ⟨i,oy i,_,_,_,a7,lo,wr,rfl,rfl,ac,by rw[aZ];exact hL,gq oL ⟨by rw[hq];exact d0,by rw[hq];exact d1⟩,by rw[hr];exact⟨r0,r1⟩,fun k hk=>by rw[gV ac];exact hz k ac,by
    rw[hv,gr ac,hz i ac,fo ac,show a[i]! = x from hx.symm,b8,mn];rw[←hq,←hr]at e1;have e2:dB^i*dB*re+dB^i*x=dB^i*(d*q+r):=by rw[e1];show dB^i*1000000000*re+_=_;grind
    rw[gF]at e2 ⊢;have e3:d*(dB^i*q)=dB^i*(d*q):=by grind
    rw[e3];omega⟩
  rw[hq,hr,hx]at next
  rw[hx]at gx;have hre2:re<1000000000:=by omega
  unfold xE;repeat' first|(apply aex;exact congrArg (fun z=>some (AV.ptr 0 z)) eI;rfl;rfl;omega)|apply aaQ|apply aa|apply aaf|apply aad|apply abI|apply abC|apply bE|(apply abz;rfl)|(apply adK;rfl;rfl)|(apply acS;rfl;rfl;omega)|(apply adj;rfl;rfl;omega)|(apply ael;rfl;rfl;omega)|(apply afj;rfl;rfl;omega;intro _ _)|(apply afi;rfl;rfl;omega;omega;intro _ _)|(apply adp;rfl;rfl;omega)|(apply adP;rfl;rfl;omega)|(apply adL;rfl;exact fun _=>rfl;(first|omega|(simp only[aZ];omega)|(simp;omega));decide;rfl;case ia=>infer_instance)|(apply abh;rfl;rfl)|(apply abl;rfl;rfl)|(intro _;omega)|intro _
  all_goals try omega
  all_goals exact next _ _ _
section
variable {t b m:Nat} {x y:aO} {l:List aY} {pe:List AV} {lo:List (Nat×AV)} {hp:ae} {df wr:List Nat} {L:List Int} {e:TypeId} {v a d:Int} {Q:au->Prop}
theorem aer (hx:(St.mk pe lo hp df).ah x=some (.iV a))(hy:(St.mk pe lo hp df).ah y=some (.iV d))(ha:0<=a/\a<9223372036854775808)(hd:0<d)
 (h:WO M l ⟨⟨pe,(t,.iV (a/d))::lo,hp,df⟩,wr⟩ Q):WO M (⟨.l t,.bin .quo x y,none⟩::l) ⟨⟨pe,lo,hp,df⟩,wr⟩ Q:=by
 refine aey hx hy hd ac ?_;rw[gT ha.1];exact h
theorem aes (hx:(St.mk pe lo hp df).ah x=some (.iV a))(hy:(St.mk pe lo hp df).ah y=some (.iV d))(ha:0<=a)(hd:0<d)
 (h:WO M l ⟨⟨pe,(t,.iV (a%d))::lo,hp,df⟩,wr⟩ Q):WO M (⟨.l t,.bin .rem x y,none⟩::l) ⟨⟨pe,lo,hp,df⟩,wr⟩ Q:=by
 refine aez hx hy ac ?_;rw[gU ha];exact h
theorem aeU (hx:(St.mk pe lo hp df).ah x=some (.ptr b m))(hb:hp.at b=some (.cells (ak L) e))(hi:m<L.length)(hv:L[m]! = v)
 (h:WO M l ⟨⟨pe,(t,.iV v)::lo,hp,df⟩,wr⟩ Q):WO M (⟨.l t,.load 1 false x,none⟩::l) ⟨⟨pe,lo,hp,df⟩,wr⟩ Q:=by
 subst hv;exact aeF hx hb hi h
end
def ku (v:AV)(hh:ae)(r:List Int)(z:Int):Prop:=∃v1,kl hh v v1/\v1.top=0/\cw v1 = .ay [.vs (ak r) r.length none,.iV z]
theorem ku.trim {b:Nat}{L:List Int}{e:TypeId}{hp:ae}{n:Nat}{z:Int}(hb:hp.at b=some (.cells (ak L) e))(hn:n<=L.length):ku (aV [bO b (aS (L.take n)) cap,.iV z]) (if (aV [bO b (aS (L.take n)) cap,.iV z]).top<=0 then [] else hp) (L.take (aS (L.take n))) z:=by
 have hle:=iJ (l:=L.take n);rw[b5]at hle;obtain⟨k,hk⟩:∃k,k=aS (L.take n):=⟨_,rfl⟩;rw[←hk]at hle ⊢;by_cases h0:0<k
 . have e1:bO b k cap = .sl b 0 k 1 cap:=if_pos h0;rw[e1,if_neg (by simp[aV,AV.top,bz])];have hl:(L.take k).length=k:=by rw[b5];omega
   have hF:Fr hp [b] (.sl b 0 k 1 cap) (.vs (ak (L.take k)) k none):=by
    refine .sl (m:=ak (L.take k)) (bj.2 rfl) hb ?_ rfl (fun i x y hx hy=>?_) (.inr rfl)
    . have:=kO (f:=iC) (esz:=1) (fun _=>rfl) (l:=L) (i:=0) (n:=k) ac;simpa using this
    . rw[hx]at hy;cases hy;exact .same (cR (fv _) hx)
   unfold ku;rw[hl];refine⟨.ay [.vs (ak (L.take k)) k none,.iV z],⟨[b],.ay rfl (fun i x y hx hy=>?_),rfl,fun c l' e' hc hl'=>?_⟩,by simp[AV.top,bz,fv],by simp only[cw,eA,DD]⟩
   . match i with
     | 0=>cases hx;cases hy;exact hF
     | 1=>cases hx;cases hy;exact .same rfl
     | i+2=>cases hx
   . rw[bj.1 hc,hb]at hl';cases hl';exact pz (fun _=>rfl) _
 . obtain rfl:k=0:=by omega
   exact⟨.ay [.vs [] 0 cap,.iV z],.same rfl rfl,rfl,rfl⟩
theorem ku.zero {b:Nat}{e:TypeId}{hp:ae}{z:Int}(hb:hp.at b=some (.cells (ak []) e)):ku (aV [.sl b 0 0 1 cap,.iV z]) (if (aV [.sl b 0 0 1 cap,.iV z]).top<=0 then [] else hp) [] z:=by
 rw[if_neg (by simp[aV,AV.top,bz])];refine⟨.ay [.vs [] 0 none,.iV z],⟨[b],.ay rfl (fun i x y hx hy=>?_),rfl,fun c l' e' hc hl'=>?_⟩,rfl,rfl⟩
 . match i with
   | 0=>cases hx;cases hy;exact .sl (m:=[]) (bj.2 rfl) hb rfl rfl (fun i x y hx=>by simp at hx) (.inr rfl)
   | 1=>cases hx;cases hy;exact .same rfl
   | i+2=>cases hx
 . rw[bj.1 hc,hb]at hl';cases hl';rfl
theorem DJ (hft:M.FT=FT){b:Nat}{L:List Int}{e:TypeId}{hp:ae}(hb:hp.at b=some (.cells (ak L) e)):bg M 236 [.sl b 0 0 1 cap] hp ⟨.sl b 0 0 1 cap,hp,[]⟩:=by
 have hbl:=gG hb;refine mg (by rw[hft];exact xu) aq (by simp[AV.top];omega) ?_;unfold sH;simp only[enter];repeat' first|apply aaQ|apply aa|apply aaf|apply aad|apply abI|(apply abl;rfl;rfl)
 refine W.loop ?_;unfold jz;repeat' first|apply aaQ|apply aa|apply aaf|apply aad|apply abw|apply acH|apply bN|apply bJ|apply dP|(apply abx;rfl)|(apply adu;rfl)|(apply abV;rfl;rfl)|(apply acw;rfl;rfl)|(apply abh;rfl;rfl)|(apply abl;rfl;rfl)|(intro _;omega)|intro _
 all_goals try omega
 exact⟨.inr rfl,rfl,⟨[],aq⟩,aq,_,rfl,rfl⟩
def Lh (M:ax)(g:Nat)(ars:List AV)(x y:Int):Prop:=∃q:List Int,(okW dB q/\aR q/\WV dB q=x/y)/\∃v hh,ku v hh q (x%y)/\bg M g ars [] ⟨v,hh,[]⟩
theorem Zw {f N:Nat}{aP:List Nat}{res:List fw}{body:ao}{ars:List AV}{x y:Int}(hft:M.FT f=some ⟨N,aP,res,body⟩)(hN:ars.length<=N)
 (h:W M body ⟨⟨aP.map (fun t=>(ars[t]?).getD cG),[],[],[]⟩,[]⟩ fun e s=>(e = .normal\/e = .ret)/\s.s.cg=[]/\∃vs,dH s.s res=some vs/\∃q:List Int,(okW dB q/\aR q/\WV dB q=x/y)/\ku (aV vs) (if (aV vs).top<=0 then [] else s.s.hp) q (x%y)):Lh M f ars x y:=by
 obtain⟨v,hh,⟨q,hq,ho⟩,h2⟩:=gS (P:=fun v hh=>∃q:List Int,(okW dB q/\aR q/\WV dB q=x/y)/\ku v hh q (x%y)) hft hN h;exact⟨q,hq,v,hh,ho,h2⟩
theorem Zx (hft:M.FT=FT)(dV:∀ars h,M.ext 236 ars h=none)(a:List Int)(oa:okW dB a)(la:a.length<10000000)(d:Int)(hd:0<d/\d<=1000000000):Lh M 294 [.vs (ak a) a.length c1,.iV d] (WV dB a) d:=by
 refine Zw (by rw[hft];exact Zg) aq ?_;unfold KS;simp only[enter];repeat' first|apply aaQ|apply aa|apply aaf|apply aad|apply abI|(apply adj;rfl;rfl;omega)|(apply aeh;rfl;rfl;omega)|(apply abh;rfl;rfl)|(apply abl;rfl;rfl)
 rw[show ((a.length:Int)).toNat=a.length from rfl];refine Zv a oa la d hd _ _ (fun L re a7 lo wr hL oL hre hv=>?_) _ _;obtain⟨d1,d2⟩:=nP hv hre.1 hre.2;obtain⟨g1,g2,g3⟩:=od oL;by_cases h0:a.length=0
 . have hL0:L=[]:=db ac;subst hL0;have hl0:a.length=0:=h0;have q0:CT M (iR 236) [.sl 0 0 a.length 1 (some a.length)] [some (.cells (ak []) 3)] ⟨.sl 0 0 a.length 1 (some a.length),[some (.cells (ak []) 3)],[]⟩:=by
    rw[hl0];exact CT.run (fi:=[]) (ca:=[]) (dV _ _) (DJ hft rfl)
   repeat' first|apply aaQ|apply aa|apply aaf|apply aad|apply abw|apply bJ|(apply adQ;rfl;rfl;first|exact q0)|(apply abh;rfl;rfl)|(apply abl;rfl;rfl)
   have hout:=ku.zero (cap:=some a.length) (e:=3) (hp:=[some (.cells (ak []) 3)]) (b:=0) (z:=re) rfl;refine⟨.inr rfl,rfl,_,rfl,[],⟨iI,jP,d1⟩,?_⟩;rw[←d2,hl0];rw[hl0]at hout;exact hout
 . have q1:CT M (iR 236) [.sl 0 0 a.length 1 (some a.length)] [some (.cells (ak L) 3)] ⟨bO 0 (aS (L.take a.length)) (some a.length),[some (.cells (ak L) 3)],[]⟩:=oh (cap:=some a.length) hft dV rfl ac ac ac (fun c hc=>by cases hc;exact aW _);repeat' first|apply aaQ|apply aa|apply aaf|apply aad|apply abw|apply bJ|(apply adQ;rfl;rfl;first|exact q1)|(apply abh;rfl;rfl)|(apply abl;rfl;rfl)
   have hout:=ku.trim (cap:=some a.length) (b:=0) (L:=L) (e:=3) (hp:=[some (.cells (ak L) 3)]) (n:=a.length) (z:=re) rfl ac;refine⟨.inr rfl,rfl,_,rfl,L.take (aS (L.take a.length)),?_,?_⟩
   . rw[b7 (show L.length<=a.length by omega)];exact⟨g1,g2,by rw[g3,d1]⟩
   . rw[←d2];exact hout
theorem Li {x y:Int}(hx:0<=x/\x<1000000000)(hy:0<=y/\y<1000000000):0<=x*y/\x*y<=999999998000000001:=by
 refine⟨iK hx.1 hy.1,?_⟩;have:=jN (a:=x) (b:=y) (c:=999999999) (d:=999999999) ac ac hy.1 ac;omega
theorem Zy (a b:List Int)(hb:okW dB b)(la:a.length<10000000)(lb:b.length<10000000)(i:Nat)(hi:i<a.length)(x P:Int)(hx:0<=x/\x<1000000000)(hax:a[((i:Int)).toNat]! = x){Q:Ex->au->Prop}(a2 a7:AV)(lo:List (Nat×AV))(wr:List Nat)(L:List Int)(hl:L.length=a.length+b.length)(bT:okW dB L)(hz:∀k,i+b.length<=k->L[k]! = 0)(hP:WV dB L=P)
 (hQ:∀L (c:Int) a7 lo wr,L.length=a.length+b.length->okW dB L->(0<=c/\c<1000000000)->(∀k,i+b.length<=k->L[k]! = 0)->WV dB L+dB^(i+b.length)*c=P+dB^i*x*WV dB b ->
   Q (.exit 2) ⟨⟨[.vs (ak a) a.length c1,.vs (ak b) b.length c2,a2,.sl 0 0 (a.length+b.length) 1 (some (a.length+b.length)),.iV i,.iV c,.iV b.length,a7],lo,[some (.cells (ak L) 3)],[]⟩,wr⟩) :
 W M (.loop xC) ⟨⟨[.vs (ak a) a.length c1,.vs (ak b) b.length c2,a2,.sl 0 0 (a.length+b.length) 1 (some (a.length+b.length)),.iV i,.iV 0,.iV 0,a7],lo,[some (.cells (ak L) 3)],[]⟩,wr⟩ Q:=by
 subst hax;refine W.gn b.length (fun j s=>∃L c a7 lo wr,s=⟨⟨[.vs (ak a) a.length c1,.vs (ak b) b.length c2,a2,.sl 0 0 (a.length+b.length) 1 (some (a.length+b.length)),.iV i,.iV c,.iV j,a7],lo,[some (.cells (ak L) 3)],[]⟩,wr⟩ /\
  L.length=a.length+b.length/\okW dB L/\(0<=c/\c<1000000000)/\(∀k,i+b.length<=k->L[k]! = 0)/\WV dB L+dB^(i+j)*c=P+dB^i*a[((i:Int)).toNat]! * WV dB (b.take j)) (fun j s hj ⟨L,c,a7,lo,wr,hs,hl,bT,hc,hz,hv⟩=>?_) (fun s ⟨L,c,a7,lo,wr,hs,hl,bT,hc,hz,hv⟩=>?_) (kw _)
  ⟨_,_,_,_,_,rfl,hl,bT,⟨am,am⟩,hz,by rw[hP];simp[WV]⟩
 . subst hs;have gy:=cj hb hj;rw[show b[j]! = b[((j:Int)).toNat]! from rfl]at gy;obtain⟨y,hy⟩:∃y,y=b[((j:Int)).toNat]! := ⟨_,rfl⟩;rw[←hy]at gy;have gy:0<=y/\y<1000000000:=gy;have hm:=Li hx gy;obtain⟨m,hmm⟩:∃m,m=a[((i:Int)).toNat]! * y:=⟨_,rfl⟩;rw[←hmm]at hm;have gL:=cj bT (i:=i+j) ac;obtain⟨w,hw⟩:∃w,w=L[i+j]! := ⟨_,rfl⟩;rw[←hw]at gL;have gL:0<=w/\w<1000000000:=gL;obtain⟨R,hR⟩:∃R,R=(w+m+c)%1000000000:=⟨_,rfl⟩;obtain⟨D,hD⟩:∃D,D=(w+m+c)/1000000000:=⟨_,rfl⟩;have hD2:(0<=D/\D<1000000000)/\w+m+c=R+1000000000*D/\(0<=R/\R<1000000000):=by omega
   have eI:0+(((i:Int)+(j:Int))).toNat*1=i+j:=by omega
   have next:∀a7 lo wr,LI (fun s=>∃L c a7 lo wr,s=⟨⟨[.vs (ak a) a.length c1,.vs (ak b) b.length c2,a2,.sl 0 0 (a.length+b.length) 1 (some (a.length+b.length)),.iV i,.iV c,.iV ((j+1:Nat):Int),a7],lo,[some (.cells (ak L) 3)],[]⟩,wr⟩ /\
    L.length=a.length+b.length/\okW dB L/\(0<=c/\c<1000000000)/\(∀k,i+b.length<=k->L[k]! = 0)/\WV dB L+dB^(i+(j+1))*c=P+dB^i*a[((i:Int)).toNat]! * WV dB (b.take (j+1))) Q .normal ⟨⟨[.vs (ak a) a.length c1,.vs (ak b) b.length c2,a2,.sl 0 0 (a.length+b.length) 1 (some (a.length+b.length)),.iV i,.iV D,.iV ((j:Int)+1),a7],lo,[some (.cells (ak (L.set (i+j) R)) 3)],[]⟩,wr⟩:=fun a7 lo wr=>
    cW ⟨_,_,a7,lo,wr,rfl,by rw[aZ];exact hl,gq bT hD2.2.2,hD2.1,fun k hk=>by rw[gV ac];exact hz k hk,by
     rw[gr ac,←hw,fo hj,show i+(j+1)=(i+j)+1 from rfl,b8,show b[j]! = y from hy.symm];have e:=hD2.2.1;rw[hmm]at e;have e2:dB^(i+j)*(R-w)+dB^(i+j)*1000000000*D=dB^(i+j)*(a[((i:Int)).toNat]! * y+c):=by
      have:a[((i:Int)).toNat]! * y+c=R-w+1000000000*D:=by omega
      rw[this,gF,dU]
     have e3:dB^(i+j)=dB^i*dB^j:=pm _ _ _;show WV dB L+dB^(i+j)*(R-w)+dB^(i+j)*1000000000*D=P+dB^i*a[((i:Int)).toNat]! * (WV dB (b.take j)+dB^j*y);generalize a[((i:Int)).toNat]! = x at *
     rw[qo,e2,gF,←qo,Int.add_right_comm,hv];rw[e3];grind⟩
   rw[hD,hR,hmm]at next
   rw[hmm]at hm;rw[hy]at next hm gy
   unfold xC;repeat' first|(apply aeU (v:=w);exact congrArg (fun z=>some (AV.ptr 0 z)) eI;rfl;omega;exact hw.symm)|(apply aex;exact congrArg (fun z=>some (AV.ptr 0 z)) eI;rfl;rfl;omega)|(apply aer;rfl;rfl;omega;omega)|(apply aes;rfl;rfl;omega;omega)|apply aaQ|apply aa|apply aaf|apply aad|apply abI|apply abC|apply bE|(apply adX;rfl)|(apply abz;rfl)|(apply abR;rfl;rfl)|(apply acS;rfl;rfl;omega)|(apply ael;rfl;rfl;omega)|(apply adp;rfl;rfl;omega)|(apply adP;rfl;rfl;omega)|(apply adL;rfl;exact fun _=>rfl;(first|omega|(simp only[aZ];omega)|(simp;omega));decide;rfl;case ia=>infer_instance)|(apply abh;rfl;rfl)|(apply abl;rfl;rfl)|(intro _;omega)|intro _
   all_goals try omega
   all_goals exact next _ _ _
 . subst hs;rw[cV]at hv;unfold xC;repeat' first|apply aaQ|apply aa|apply aaf|apply aad|apply acH|apply bN|apply cX|(apply abx;rfl)|(apply abR;rfl;rfl)|(apply abh;rfl;rfl)|(intro _;omega)|intro _
   all_goals try omega
   exact hQ L c _ _ _ hl bT hc hz hv
theorem Lj (hft:M.FT=FT)(dV:∀ars h,M.ext 236 ars h=none)(a b:List Int)(ha:okW dB a)(hb:okW dB b)(la:a.length<10000000)(lb:b.length<10000000)(h0:0<a.length+b.length):xG M 257 [.vs (ak a) a.length c1,.vs (ak b) b.length c2] (WV dB a*WV dB b):=by
 refine DE (by rw[hft];exact KR) aq ?_;unfold Dz;simp only[enter];repeat' first|apply aaQ|apply aa|apply aaf|apply aad|apply abI|(apply acS;rfl;rfl;omega)|(apply aeh;rfl;rfl;omega)|(apply abh;rfl;rfl)|(apply abl;rfl;rfl)
 have e0:((a.length:Int)+(b.length:Int)).toNat=a.length+b.length:=by omega
 rw[e0];refine W.gn a.length (fun i s=>∃L a5 a6 a7 lo wr,s=⟨⟨[.vs (ak a) a.length c1,.vs (ak b) b.length c2,.ab,.sl 0 0 (a.length+b.length) 1 (some (a.length+b.length)),.iV i,a5,a6,a7],lo,[some (.cells (ak L) 3)],[]⟩,wr⟩ /\
  L.length=a.length+b.length/\okW dB L/\(∀k,i+b.length<=k->L[k]! = 0)/\WV dB L=WV dB (a.take i)*WV dB b) (fun i s hi ⟨L,a5,a6,a7,lo,wr,hs,hl,bT,hz,hv⟩=>?_) (fun s ⟨L,a5,a6,a7,lo,wr,hs,hl,bT,hz,hv⟩=>?_) (kw _)
  ⟨c5 (a.length+b.length) 0,_,_,_,_,_,rfl,aq,km am,fun k _=>kp,by rw[kn];simp[WV]⟩
 . subst hs;have gx:=cj ha hi;rw[show a[i]! = a[((i:Int)).toNat]! from rfl]at gx;have eI:0+(((i:Int)+(b.length:Int))).toNat*1=i+b.length:=by omega
   unfold xD;repeat' first|apply aaQ|apply aa|apply aaf|apply aad|apply abI|apply abC|(apply abz;rfl)|(apply abR;rfl;rfl)|(apply abh;rfl;rfl)|(apply abl;rfl;rfl)|(intro _;omega)|intro _
   refine Zy (c1:=c1) (c2:=c2) a b hb la lb i hi a[((i:Int)).toNat]! _ gx rfl _ _ _ _ L hl bT hz hv (fun L2 c a7 lo wr h1 h2 h3 h4 h5=>?_);have h4':=h4 _ (aW _);have g0:=cj h2 (i:=i+b.length) ac;repeat' first|(apply aeU (v:=0);exact congrArg (fun z=>some (AV.ptr 0 z)) eI;rfl;omega;exact h4')|(apply aex;exact congrArg (fun z=>some (AV.ptr 0 z)) eI;rfl;rfl;omega)|apply aa|apply aaf|apply aad|apply bE|apply bJ|(apply acS;rfl;rfl;omega)|(apply adP;rfl;rfl;omega)|(apply abh;rfl;rfl)|(apply abl;rfl;rfl)
   all_goals try omega
   refine cW ⟨L2.set (i+b.length) (0+c),_,_,_,_,_,rfl,by rw[aZ];exact h1,gq h2 (by rw[n9];exact h3),fun k hk=>by rw[gV ac];exact h4 k ac,?_⟩;rw[gr ac,h4',mn,n9,h5,fo hi];show _=(WV dB (a.take i)+dB^i*a[i]!)*WV dB b;rw[g9];rfl
 . subst hs;rw[cV]at hv;have q:=oh (cap:=some (a.length+b.length)) (b:=0) (n:=a.length+b.length) (L:=L) (e:=3) (hp:=[some (.cells (ak L) 3)]) hft dV rfl ac ac ac (fun c hc=>by cases hc;exact aW _);rw[b7 ac]at q;unfold xD;repeat' first|apply aaQ|apply aa|apply aaf|apply aad|apply abw|apply acH|apply bN|apply bJ|apply cX|(apply abx;rfl)|(apply abR;rfl;rfl)|(apply adQ;rfl;rfl;first|exact q)|(apply abh;rfl;rfl)|(apply abl;rfl;rfl)|(intro _;omega)|intro _
   all_goals try omega
   refine⟨.inr rfl,rfl,_,rfl,L.take (aS L),?_,?_⟩
   . obtain⟨g1,g2,g3⟩:=od bT;exact⟨g1,g2,by rw[g3,hv]⟩
   . have:=gJ.trim (cap:=some (a.length+b.length)) (b:=0) (L:=L) (e:=3) (hp:=[some (.cells (ak L) 3)]) (n:=a.length+b.length) rfl ac;rw[b7 ac]at this;exact this
end Go.Ab.Ch5.N

/-
  Own work: Knuth's division to the base 10^9: the guess of a digit is at most one too great.
-/
namespace Go.Ab.aX
structure iE (t2 t1 t0 v1 v0 T V p:Int):Prop where
 h2:0<=t2
 h1:0<=t1/\t1<1000000000
 h0:0<=t0/\t0<1000000000
 w1:500000000<=v1/\v1<1000000000
 w0:0<=v0/\v0<1000000000
 hp:1<=p
 lo:((t2*1000000000+t1)*1000000000+t0)*p<=T
 hi:T<((t2*1000000000+t1)*1000000000+t0+1)*p
 pR:(v1*1000000000+v0)*p<=V
 rM:V<(v1*1000000000+v0+1)*p
 hT:T<1000000000*V
structure iN (t2 t1 v1 T V q r:Int):Prop where
 q0:0<=q/\q<=1000000001
 r0:0<=r
 e:q*v1+r=t2*1000000000+t1
 ge:T<(q+1)*V
variable {t2 t1 t0 v1 v0 T V p q r:Int}
theorem iE.top (C:iE t2 t1 t0 v1 v0 T V p):t2<=v1:=by
 have h1:=C.h1;have h0:=C.h0;have w0:=C.w0;have a1:((t2*1000000000+t1)*1000000000+t0)*p<(1000000000*(v1*1000000000+v0+1))*p:=by
  have:=C.lo;have:=C.hT;have:=C.rM;rw[dU 1000000000];omega
 have a2:=Int.lt_of_mul_lt_mul_right a1 (by have:=C.hp;omega);omega
theorem iE.geq (C:iE t2 t1 t0 v1 v0 T V p)(h0:0<=q)(h:(t2*1000000000+t1)*1000000000+t0+1<=q*(v1*1000000000+v0)):T<q*V:=by
 have hp:=C.hp;have a1:=be h (show 0<=p by omega);have a2:=az C.pR h0;rw[←dU]at a2;have:=C.hi;omega
theorem iN.qD (I:iN t2 t1 v1 T V q r):q*(v1*1000000000+v0)=(t2*1000000000+t1-r)*1000000000+q*v0:=by
 have e:=I.e;have:t2*1000000000+t1-r=q*v1:=by omega
 rw[this,gF,dU]
theorem iN.init (C:iE t2 t1 t0 v1 v0 T V p):iN t2 t1 v1 T V ((t2*1000000000+t1)/v1) ((t2*1000000000+t1)%v1):=by
 have h2:=C.h2;have h1:=C.h1;have w1:=C.w1;have h0:=C.h0;have w0:=C.w0;have ht:=C.top;have q0:0<=(t2*1000000000+t1)/v1:=pL ac ac;have q1:(t2*1000000000+t1)/v1<1000000002:=i8 ac ac;have e:=i7 (t2*1000000000+t1) v1;have r0:=d9 (t2*1000000000+t1) (show v1≠0 by omega);have r1:=c8 (t2*1000000000+t1) (show 0<v1 by omega);rw[ox]at e;refine⟨⟨q0,ac⟩,r0,e,C.geq ac ?_⟩;generalize (t2*1000000000+t1)/v1=q at *
 generalize (t2*1000000000+t1)%v1=r at *
 have a1:(q+1)*(v1*1000000000+v0)=(q*v1+v1)*1000000000+(q+1)*v0:=by grind
 have a2:0<=(q+1)*v0:=iK ac w0.1;rw[a1];generalize q*v1=z at *
 generalize (q+1)*v0=y at *
 omega
theorem iE.V0 (C:iE t2 t1 t0 v1 v0 T V p):0<V:=by
 have:=C.w1;have:=C.w0;have:=C.pR;have:=pp (show 0<v1*1000000000+v0 by omega) (show 0<p by have:=C.hp;omega);omega
theorem iN.dec (C:iE t2 t1 t0 v1 v0 T V p)(I:iN t2 t1 v1 T V q r)(h:1000000000<=q\/r*1000000000+t0<q*v0):iN t2 t1 v1 T V (q-1) (r+v1):=by
 have w1:=C.w1;have q0:=I.q0;have r0:=I.r0;have h0:=C.h0;have q1:0<q:=by
  rcases dh 0 q with h'|h'
  . exact h'
  . obtain rfl:q=0:=by omega
    omega
 refine⟨ac,ac,by have:=I.e;rw[pu];omega,?_⟩;rw[Int.sub_add_cancel];rcases h with h|h
 . have hT:=C.hT;have:=be h (cN C.V0);omega
 . refine C.geq ac ?_;rw[I.qD];omega
theorem iN.exit (C:iE t2 t1 t0 v1 v0 T V p)(I:iN t2 t1 v1 T V q r)(hq:q<1000000000)(h:q*v0<=r*1000000000+t0):(q-1)*V<=T:=by
 have w1:=C.w1;have q0:=I.q0;have r0:=I.r0;have w0:=C.w0;have hp:=C.hp;have a1:q*(v1*1000000000+v0)<=(t2*1000000000+t1)*1000000000+t0:=by rw[I.qD];omega
 have a2:=be a1 (show 0<=p by omega);have a3:=az (cN C.rM) q0.1;have a4:q*((v1*1000000000+v0+1)*p)=q*(v1*1000000000+v0)*p+q*p:=by grind
 have a5:=be (show q<=1000000000 by omega) (show 0<=p by omega);have a6:=be (show 1000000000<=v1*1000000000+v0 by omega) (show 0<=p by omega);have a7:=C.pR;have a8:=C.lo;rw[pu,iB];omega
theorem iN.my (C:iE t2 t1 t0 v1 v0 T V p)(I:iN t2 t1 v1 T V q r)(h:1000000000<=r):q<1000000000/\(q-1)*V<=T:=by
 have q0:=I.q0;have w0:=C.w0;have h0:=C.h0;have w1:=C.w1;have h1:=C.h1;have ht:=C.top;have hq:q<1000000000:=by
  rcases dh q 1000000000 with h'|h'
  . exact h'
  . have a:=be h' (show 0<=v1 by omega);have e:=I.e;omega
 refine⟨hq,I.exit C hq ?_⟩;have h3:=jN (a:=q) (b:=v0) (c:=999999999) (d:=999999999) ac ac w0.1 ac;omega
theorem iE.of {X V:List Int}{n:Nat}(hX:X.length=n+3)(hV:V.length=n+2)(oX:okW 1000000000 X)(oV:okW 1000000000 V)(hv:500000000<=V[n+1]!)(hT:WV 1000000000 X<1000000000*WV 1000000000 V) :
 iE X[n+2]! X[n+1]! X[n]! V[n+1]! V[n]! (WV 1000000000 X) (WV 1000000000 V) (1000000000^n):=by
 have x2:=cj oX (i:=n+2) ac;have x1:=cj oX (i:=n+1) ac;have x0:=cj oX (i:=n) ac;have v1:=cj oV (i:=n+1) ac;have v0:=cj oV (i:=n) ac;have eX:WV 1000000000 X=WV 1000000000 (X.take n)+((X[n+2]! * 1000000000+X[n+1]!)*1000000000+X[n]!)*1000000000^n:=by
  rw[jQ (n:=n+2) ac,fo ac,fo ac,b8,b8];grind
 have eV:WV 1000000000 V=WV 1000000000 (V.take n)+(V[n+1]! * 1000000000+V[n]!)*1000000000^n:=by
  rw[jQ (n:=n+1) ac,fo ac,b8];grind
 have lX:=dz (b:=1000000000) am (dL oX n);have lV:=dz (b:=1000000000) am (dL oV n);have pX:=cA (b:=1000000000) am (dL oX n);have pV:=cA (b:=1000000000) am (dL oV n);rw[b5,ii ac]at lX lV;have hp:(0:Int)<1000000000^n:=fF am;refine⟨x2.1,x1,x0,⟨hv,v1.2⟩,v0,ac,ac,?_,ac,?_,hT⟩
 . rw[g9 _ 1,iB];omega
 . rw[g9 _ 1,iB];omega
end Go.Ab.aX

/-
  Own work: the reference's integers: the guess of a digit.
-/
namespace Go.Ab.Ch5.N
open Go.Ab.aX
variable {M:ax} {cap c1 c2:Option Nat}
theorem aeg {t m m':Nat}{x:aO}{l:List aY}{pe:List AV}{lo:List (Nat×AV)}{hp:ae}{df wr:List Nat}{L:List Int}{v:Int}{Q:au->Prop}(hx:(St.mk pe lo hp df).ah x=some (.vp ((ak L).drop (m'*1))))(hm:m'=m)(hi:m<L.length)(hv:L[m]! = v)
 (h:WO M l ⟨⟨pe,(t,.iV v)::lo,hp,df⟩,wr⟩ Q):WO M (⟨.l t,.load 1 false x,none⟩::l) ⟨⟨pe,lo,hp,df⟩,wr⟩ Q:=by
 subst hm;subst hv;exact adL (f:=iC) (esz:=1) (c:=L) (i:=m') hx (fun _=>rfl) hi am rfl h
variable {k j:Nat} {U V:List Int}
theorem Zz (hV:V.length=k+2)(hU:j+k+2<U.length)(lU:U.length<100000000){t2 t1 t0 v1 v0 T D p:Int}(K:iE t2 t1 t0 v1 v0 T D p)(ht0:U[j+k]! = t0)(hv1:V[k+1]! = v1)(hv0:V[k]! = v0){Q:Ex->au->Prop}(a3 a5:AV)
 (hR:∀(q r:Int) lo wr,(0<=q/\q<1000000000)->T<(q+1)*D->(q-1)*D<=T->Q .ret ⟨⟨[.vs (ak U) U.length c1,.vs (ak V) V.length c2,.iV j,.iV q,.iV V.length,a5,.iV q,.iV r],lo,[],[]⟩,wr⟩)
 (hQ:∀(q r:Int) lo wr,(0<=q/\q<1000000000)->T<(q+1)*D->(q-1)*D<=T->Q (.exit 0) ⟨⟨[.vs (ak U) U.length c1,.vs (ak V) V.length c2,.iV j,a3,.iV V.length,a5,.iV q,.iV r],lo,[],[]⟩,wr⟩)
 (q r:Int) (lo:List (Nat×AV)) (wr:List Nat) (I:iN t2 t1 v1 T D q r) (hr:r<1000000000) :
 W M (.loop sJ) ⟨⟨[.vs (ak U) U.length c1,.vs (ak V) V.length c2,.iV j,a3,.iV V.length,a5,.iV q,.iV r],lo,[],[]⟩,wr⟩ Q:=by
 refine W.gH (fun m s=>∃q r lo wr,s=⟨⟨[.vs (ak U) U.length c1,.vs (ak V) V.length c2,.iV j,a3,.iV V.length,a5,.iV q,.iV r],lo,[],[]⟩,wr⟩/\m=q.toNat/\iN t2 t1 v1 T D q r/\r<1000000000) (fun m s ⟨q,r,lo,wr,hs,hm,I,hr⟩=>?_) (m:=q.toNat) ⟨q,r,lo,wr,rfl,rfl,I,hr⟩;subst hs;subst hm;have q0:=I.q0;have r0:=I.r0;have w0:=K.w0;have w1:=K.w1;have h0:=K.h0;have step:(1000000000<=q\/r*1000000000+t0<q*v0)->0<q/\∀lo wr,(r+v1<1000000000->LI (fun s=>∃m',m'<q.toNat/\∃q r lo wr,s=⟨⟨[.vs (ak U) U.length c1,.vs (ak V) V.length c2,.iV j,a3,.iV V.length,a5,.iV q,.iV r],lo,[],[]⟩,wr⟩/\m'=q.toNat/\iN t2 t1 v1 T D q r/\r<1000000000) Q .normal ⟨⟨[.vs (ak U) U.length c1,.vs (ak V) V.length c2,.iV j,a3,.iV V.length,a5,.iV (q-1),.iV (r+v1)],lo,[],[]⟩,wr⟩) /\
  (1000000000<=r+v1->Q .ret ⟨⟨[.vs (ak U) U.length c1,.vs (ak V) V.length c2,.iV j,.iV (q-1),.iV V.length,a5,.iV (q-1),.iV (r+v1)],lo,[],[]⟩,wr⟩):=fun h=>by
  have I2:=I.dec K h;have i0:=I2.q0;refine⟨ac,fun lo wr=>⟨fun h1=>cW ⟨(q-1).toNat,ac,_,_,_,_,rfl,rfl,I2,h1⟩,fun h1=>?_⟩⟩;obtain⟨b1,b2⟩:=I2.my K h1;exact hR _ _ _ _ ⟨i0.1,b1⟩ I2.ge b2
 obtain⟨m,hm⟩:∃m,m=q*v0:=⟨_,rfl⟩;have hmb:0<=m/\m<=1000000001000000001:=by
  rw[hm];refine⟨iK q0.1 w0.1,?_⟩;have:=jN (a:=q) (b:=v0) (c:=1000000001) (d:=1000000000) ac ac w0.1 ac;omega
 by_cases hB:1000000000<=q
 . obtain⟨hq,st⟩:=step (.inl hB);unfold sJ;repeat' first|(apply aeg (m:=k+1) (v:=v1);rfl;omega;omega;exact hv1)|apply aaQ|apply aa|apply aaf|apply aad|apply abI|apply abw|apply abC|apply bE|apply cQ|apply uH|(apply adX;rfl)|(apply abz;rfl)|(apply abx;rfl)|(apply adU;rfl)|(apply adK;rfl;rfl)|(apply aco;rfl;rfl)|(apply acS;rfl;rfl;omega)|(apply adj;rfl;rfl;omega)|(apply adp;rfl;rfl;omega)|(apply abh;rfl;rfl)|(apply abl;rfl;rfl)|(intro _;omega)|intro _
   all_goals try omega
   all_goals first|exact(st _ _).1 ac|exact(st _ _).2 ac
 . by_cases ht:r*1000000000+t0<q*v0
   . obtain⟨hq,st⟩:=step (.inr ht);rw[←hm]at ht;rw[hm]at ht hmb;unfold sJ;repeat' first|(apply aeg (L:=V) (m:=k+1) (v:=v1);rfl;omega;omega;exact hv1)|(apply aeg (L:=V) (m:=k) (v:=v0);rfl;omega;omega;exact hv0)|(apply aeg (L:=U) (m:=j+k) (v:=t0);rfl;omega;omega;exact ht0)|apply aaQ|apply aa|apply aaf|apply aad|apply abI|apply abw|apply abC|apply bE|apply cQ|apply uH|(apply adX;rfl)|(apply abz;rfl)|(apply abx;rfl)|(apply adb;rfl)|(apply abV;rfl;rfl)|(apply adK;rfl;rfl)|(apply acw;rfl;rfl)|(apply acS;rfl;rfl;omega)|(apply adj;rfl;rfl;omega)|(apply ael;rfl;rfl;omega)|(apply adp;rfl;rfl;omega)|(apply abh;rfl;rfl)|(apply abl;rfl;rfl)|(intro _;omega)|intro _
     all_goals try omega
     all_goals first|exact(st _ _).1 ac|exact(st _ _).2 ac
   . have fin:=I.exit K ac ac;rw[hm]at hmb;unfold sJ;repeat' first|(apply aeg (L:=V) (m:=k) (v:=v0);rfl;omega;omega;exact hv0)|(apply aeg (L:=U) (m:=j+k) (v:=t0);rfl;omega;omega;exact ht0)|apply aaQ|apply aa|apply aad|apply acH|apply bN|apply cX|(apply adX;rfl)|(apply abx;rfl)|(apply adb;rfl)|(apply abV;rfl;rfl)|(apply adK;rfl;rfl)|(apply acw;rfl;rfl)|(apply acS;rfl;rfl;omega)|(apply adj;rfl;rfl;omega)|(apply ael;rfl;rfl;omega)|(apply adp;rfl;rfl;omega)|(apply abh;rfl;rfl)|(intro _;omega)|intro _
     all_goals try omega
     all_goals exact hQ _ _ _ _ ⟨q0.1,ac⟩ I.ge fin
theorem ZA (hft:M.FT=FT)(hV:V.length=k+2)(hU:j+k+2<U.length)(lU:U.length<100000000){t2 t1 t0 v1 v0 T D p:Int}(K:iE t2 t1 t0 v1 v0 T D p)(ht2:U[j+k+2]! = t2)(ht1:U[j+k+1]! = t1)(ht0:U[j+k]! = t0)(hv1:V[k+1]! = v1)(hv0:V[k]! = v0) :
 ∃q:Int,(0<=q/\q<1000000000)/\T<(q+1)*D/\(q-1)*D<=T/\bg M 295 [.vs (ak U) U.length c1,.vs (ak V) V.length c2,.iV j] [] ⟨.iV q,[],[]⟩:=by
 have h2:=K.h2;have h1:=K.h1;have w1:=K.w1;have h0:=K.h0;have w0:=K.w0;have htop:=K.top;have I:=iN.init K;have r1:=c8 (t2*1000000000+t1) (show 0<v1 by omega);obtain⟨v,hh,⟨q,rfl,rfl,g1,g2,g3⟩,hr⟩:=gS (M:=M) (f:=295) (ars:=[.vs (ak U) U.length c1,.vs (ak V) V.length c2,.iV j]) (P:=fun v hh=>∃q:Int,v = .iV q/\hh=[]/\(0<=q/\q<1000000000)/\T<(q+1)*D/\(q-1)*D<=T) (by rw[hft];exact Zh) aq (by
  unfold KT;simp only[enter];repeat' first|(apply aeg (L:=U) (m:=j+k+2) (v:=t2);rfl;omega;omega;exact ht2)|(apply aeg (L:=U) (m:=j+k+1) (v:=t1);rfl;omega;omega;exact ht1)|(apply aeg (L:=V) (m:=k+1) (v:=v1);rfl;omega;omega;exact hv1)|(apply aer;rfl;rfl;omega;omega)|(apply aes;rfl;rfl;omega;omega)|apply aaQ|apply aa|apply aaf|apply aad|apply abI|(apply adX;rfl)|(apply acS;rfl;rfl;omega)|(apply adj;rfl;rfl;omega)|(apply ael;rfl;rfl;omega)|(apply adp;rfl;rfl;omega)|(apply abh;rfl;rfl)|(apply abl;rfl;rfl)
  all_goals try omega
  refine Zz hV hU lU K ht0 hv1 hv0 _ _ (fun q r lo wr g1 g2 g3=>?_) (fun q r lo wr g1 g2 g3=>?_) _ _ _ _ I ac
  . repeat' first|apply aU|apply cQ
    all_goals exact⟨.inr rfl,rfl,_,rfl,q,rfl,rfl,g1,g2,g3⟩
  . repeat' first|apply aaQ|apply aa|apply aaf|apply aad|apply abw|apply bJ|(apply abh;rfl;rfl)|(apply abl;rfl;rfl)
    all_goals exact⟨.inr rfl,rfl,_,rfl,q,rfl,rfl,g1,g2,g3⟩)
 exact⟨q,g1,g2,g3,hr⟩
variable {cu:Option Nat}
variable {bu N:Nat} {e:TypeId} {hp:ae} {P S Y:List Int}
theorem ZB (hl:bu<hp.length)(lN:N<100000000)(hN:P.length+V.length<N)(hY:Y.length=V.length)(oY:okW dB Y)(oV:okW dB V)(q:Int)(q0:0<=q/\q<1000000000){Q:Ex->au->Prop}(a0 a1 a2 a3 a4 a5 a6 aA aF aG aH aI aJ aK:AV)(lo:List (Nat×AV))(wr:List Nat)
 (hQ:∀L (bo:Int) aF aG lo wr,L.length=V.length->okW dB L->(0<=bo/\bo<1000000000)->WV dB L=WV dB Y-q*WV dB V+dB^V.length*bo ->
   Q (.exit 4) ⟨⟨[a0,a1,a2,a3,a4,a5,a6,.vs (ak V) V.length c2,.iV V.length,.sl bu 0 N 1 cu,aA,.iV P.length,.iV q,.iV bo,.iV V.length,aF,aG,aH,aI,aJ,aK],lo,cZ hp bu e P S L,[]⟩,wr⟩) :
 W M (.loop xy) ⟨⟨[a0,a1,a2,a3,a4,a5,a6,.vs (ak V) V.length c2,.iV V.length,.sl bu 0 N 1 cu,aA,.iV P.length,.iV q,.iV 0,.iV 0,aF,aG,aH,aI,aJ,aK],lo,cZ hp bu e P S Y,[]⟩,wr⟩ Q:=by
 refine W.gn V.length (fun i s=>∃L bo aF aG lo wr,s=⟨⟨[a0,a1,a2,a3,a4,a5,a6,.vs (ak V) V.length c2,.iV V.length,.sl bu 0 N 1 cu,aA,.iV P.length,.iV q,.iV bo,.iV i,aF,aG,aH,aI,aJ,aK],lo,cZ hp bu e P S L,[]⟩,wr⟩ /\
  L.length=V.length/\okW dB L/\(0<=bo/\bo<1000000000)/\WV dB L=WV dB Y-q*WV dB (V.take i)+dB^i*bo) (fun i s hi ⟨L,bo,aF,aG,lo,wr,hs,hL,oL,hbo,hv⟩=>?_) (fun s ⟨L,bo,aF,aG,lo,wr,hs,hL,oL,hbo,hv⟩=>?_) (kw _)
  ⟨_,_,_,_,_,_,rfl,hY,oY,⟨am,am⟩,by simp[WV]⟩
 . subst hs;have gy:=cj oV (i:=i) ac;obtain⟨y,hy⟩:∃y,y=V[i]! := ⟨_,rfl⟩;rw[←hy]at gy;have gy:0<=y/\y<1000000000:=gy;have gL:=cj oL (i:=i) ac;obtain⟨u,hu⟩:∃u,u=L[i]! := ⟨_,rfl⟩;rw[←hu]at gL;have gL:0<=u/\u<1000000000:=gL;have hm:=Li q0 gy;obtain⟨m,hmm⟩:∃m,m=q*y:=⟨_,rfl⟩;rw[←hmm]at hm;have next:∀(D d:Int) aF aG lo,(0<=D/\D<1000000000)->(0<=d/\d<1000000000)->u-m-bo=d-1000000000*D->LI (fun s=>∃L bo aF aG lo wr,s=⟨⟨[a0,a1,a2,a3,a4,a5,a6,.vs (ak V) V.length c2,.iV V.length,.sl bu 0 N 1 cu,aA,.iV P.length,.iV q,.iV bo,.iV ((i+1:Nat):Int),aF,aG,aH,aI,aJ,aK],lo,cZ hp bu e P S L,[]⟩,wr⟩ /\
    L.length=V.length/\okW dB L/\(0<=bo/\bo<1000000000)/\WV dB L=WV dB Y-q*WV dB (V.take (i+1))+dB^(i+1)*bo) Q .normal ⟨⟨[a0,a1,a2,a3,a4,a5,a6,.vs (ak V) V.length c2,.iV V.length,.sl bu 0 N 1 cu,aA,.iV P.length,.iV q,.iV D,.iV ((i:Int)+1),aF,aG,aH,aI,aJ,aK],lo,cZ hp bu e P S (L.set i d),[]⟩,bu::wr⟩:=fun D d aF aG lo hD hd he=>
    cW ⟨_,_,aF,aG,lo,_,rfl,by rw[aZ];exact hL,gq oL hd,hD,by
     rw[gr ac,←hu,fo ac,←hy,hv,b8];have e1:d-u=1000000000*D-q*y-bo:=by rw[←hmm];omega
     rw[e1];show _+dB^i*(1000000000*D-q*y-bo)=_-_+dB^i*1000000000*D;grind⟩
   have hV':V[((i:Int)).toNat]! = y:=hy.symm;rw[hmm]at hm next
   rw[hu]at gL next
   unfold xy;repeat' first|(apply aeg (L:=V) (m:=i) (v:=y);rfl;omega;omega;exact hy.symm)|(apply aeS (i:=i);rfl;exact hl;omega;omega)|(apply aeT (i:=i);rfl;rfl;exact hl;omega;omega)|(apply aer;rfl;rfl;omega;omega)|(apply aes;rfl;rfl;omega;omega)|apply aaQ|apply aa|apply aaf|apply aad|apply abI|apply abC|apply bE|(apply abz;rfl)|(apply abx;rfl)|(apply abR;rfl;rfl)|(apply acS;rfl;rfl;omega)|(apply adj;rfl;rfl;omega)|(apply ael;rfl;rfl;omega)|(apply adp;rfl;rfl;omega)|(apply adP;rfl;rfl;omega)|(apply abh;rfl;rfl)|(apply abl;rfl;rfl)|(intro _;omega)|intro _
   all_goals try omega
   all_goals exact next _ _ _ _ _ ac ac ac
 . subst hs;rw[cV]at hv;unfold xy;repeat' first|apply aaQ|apply aa|apply aaf|apply aad|apply acH|apply bN|apply cX|(apply abx;rfl)|(apply abR;rfl;rfl)|(apply abh;rfl;rfl)|(intro _;omega)|intro _
   all_goals try omega
   exact hQ L bo _ _ _ _ hL oL hbo hv
theorem ZC (hl:bu<hp.length)(lN:N<100000000)(hN:P.length+V.length<N)(hY:Y.length=V.length)(oY:okW dB Y)(oV:okW dB V){Q:Ex->au->Prop}(a0 a1 a2 a3 a4 a5 a6 aA aC aD aE aF aG aJ aK:AV)(lo:List (Nat×AV))(wr:List Nat)
 (hQ:∀L (ca:Int) aJ lo wr,L.length=V.length->okW dB L->(0<=ca/\ca<=1)->WV dB L+dB^V.length*ca=WV dB Y+WV dB V ->
   Q (.exit 6) ⟨⟨[a0,a1,a2,a3,a4,a5,a6,.vs (ak V) V.length c2,.iV V.length,.sl bu 0 N 1 cu,aA,.iV P.length,aC,aD,aE,aF,aG,.iV ca,.iV V.length,aJ,aK],lo,cZ hp bu e P S L,[]⟩,wr⟩) :
 W M (.loop xz) ⟨⟨[a0,a1,a2,a3,a4,a5,a6,.vs (ak V) V.length c2,.iV V.length,.sl bu 0 N 1 cu,aA,.iV P.length,aC,aD,aE,aF,aG,.iV 0,.iV 0,aJ,aK],lo,cZ hp bu e P S Y,[]⟩,wr⟩ Q:=by
 refine W.gn V.length (fun i s=>∃L ca aJ lo wr,s=⟨⟨[a0,a1,a2,a3,a4,a5,a6,.vs (ak V) V.length c2,.iV V.length,.sl bu 0 N 1 cu,aA,.iV P.length,aC,aD,aE,aF,aG,.iV ca,.iV i,aJ,aK],lo,cZ hp bu e P S L,[]⟩,wr⟩ /\
  L.length=V.length/\okW dB L/\(0<=ca/\ca<=1)/\WV dB L+dB^i*ca=WV dB Y+WV dB (V.take i)) (fun i s hi ⟨L,ca,aJ,lo,wr,hs,hL,oL,hca,hv⟩=>?_) (fun s ⟨L,ca,aJ,lo,wr,hs,hL,oL,hca,hv⟩=>?_) (kw _)
  ⟨_,_,_,_,_,rfl,hY,oY,⟨am,am⟩,by simp[WV]⟩
 . subst hs;have gy:=cj oV (i:=i) ac;obtain⟨y,hy⟩:∃y,y=V[i]! := ⟨_,rfl⟩;rw[←hy]at gy;have gy:0<=y/\y<1000000000:=gy;have gL:=cj oL (i:=i) ac;obtain⟨u,hu⟩:∃u,u=L[i]! := ⟨_,rfl⟩;rw[←hu]at gL;have gL:0<=u/\u<1000000000:=gL;have next:∀(D d:Int) aJ lo wr,(0<=D/\D<=1)->(0<=d/\d<1000000000)->u+y+ca=d+1000000000*D->LI (fun s=>∃L ca aJ lo wr,s=⟨⟨[a0,a1,a2,a3,a4,a5,a6,.vs (ak V) V.length c2,.iV V.length,.sl bu 0 N 1 cu,aA,.iV P.length,aC,aD,aE,aF,aG,.iV ca,.iV ((i+1:Nat):Int),aJ,aK],lo,cZ hp bu e P S L,[]⟩,wr⟩ /\
    L.length=V.length/\okW dB L/\(0<=ca/\ca<=1)/\WV dB L+dB^(i+1)*ca=WV dB Y+WV dB (V.take (i+1))) Q .normal ⟨⟨[a0,a1,a2,a3,a4,a5,a6,.vs (ak V) V.length c2,.iV V.length,.sl bu 0 N 1 cu,aA,.iV P.length,aC,aD,aE,aF,aG,.iV D,.iV ((i:Int)+1),aJ,aK],lo,cZ hp bu e P S (L.set i d),[]⟩,wr⟩:=fun D d aJ lo wr hD hd he=>
    cW ⟨_,_,aJ,lo,_,rfl,by rw[aZ];exact hL,gq oL hd,hD,by
     rw[gr ac,←hu,fo ac,←hy,b8];have e1:d-u=y+ca-1000000000*D:=by omega
     rw[e1];show WV dB L+dB^i*(y+ca-1000000000*D)+dB^i*1000000000*D=_;grind⟩
   rw[hu]at gL next
   unfold xz;repeat' first|(apply aeg (L:=V) (m:=i) (v:=y);rfl;omega;omega;exact hy.symm)|(apply aeS (i:=i);rfl;exact hl;omega;omega)|(apply aeT (i:=i);rfl;rfl;exact hl;omega;omega)|(apply aer;rfl;rfl;omega;omega)|(apply aes;rfl;rfl;omega;omega)|apply aaQ|apply aa|apply aaf|apply aad|apply abI|apply abC|apply bE|(apply adX;rfl)|(apply abz;rfl)|(apply abR;rfl;rfl)|(apply acS;rfl;rfl;omega)|(apply adp;rfl;rfl;omega)|(apply adP;rfl;rfl;omega)|(apply abh;rfl;rfl)|(apply abl;rfl;rfl)|(intro _;omega)|intro _
   all_goals try omega
   all_goals exact next _ _ _ _ _ ac ac ac
 . subst hs;rw[cV]at hv;unfold xz;repeat' first|apply aaQ|apply aa|apply aaf|apply aad|apply acH|apply bN|apply cX|(apply abx;rfl)|(apply abR;rfl;rfl)|(apply abh;rfl;rfl)|(intro _;omega)|intro _
   all_goals try omega
   exact hQ L ca _ _ _ hL oL hca hv
variable {cq:Option Nat}
theorem ZD {U V:List Int}{i k:Nat}(hj:i+(k+3)<=U.length)(oU:okW dB U)(hV:V.length=k+2)(oV:okW dB V)(hup:WV dB (U.drop (i+1))<WV dB V) :
 ∃P Y S,U=P++(Y++[U[i+k+2]!])++S/\P.length=i/\Y.length=k+2/\okW dB P/\okW dB Y/\okW dB S/\(0<=U[i+k+2]! /\ U[i+k+2]! < 1000000000)/\WV dB S=0/\WV dB (Y++[U[i+k+2]!])=WV dB (U.drop i)/\WV dB (Y++[U[i+k+2]!])<1000000000*WV dB V:=by
 obtain⟨P,hP⟩:∃P,P=U.take i:=⟨_,rfl⟩;obtain⟨X,hX⟩:∃X,X=(U.drop i).take (k+3):=⟨_,rfl⟩;obtain⟨S,hS⟩:∃S,S=U.drop (i+(k+3)):=⟨_,rfl⟩;have eU:U=P++X++S:=by
  rw[hP,hX,hS,ff,←p7,i6,i6]
 have lP:P.length=i:=by rw[hP,b5];omega
 have lX:X.length=k+3:=by rw[hX,b5,d6];omega
 have oX:okW dB X:=by rw[hX];exact dL (jd oU _) _
 have oS:okW dB S:=by rw[hS];exact jd oU _
 have oP:okW dB P:=by rw[hP];exact dL oU _
 have eD:U.drop i=X++S:=by rw[eU,←lP,ff,m7]
 have gj:=cj oU (i:=i) ac;have d1:=nJ (b:=dB) (l:=U) (i:=i) ac;have lt:=dz (b:=dB) am oV;rw[hV]at lt;have hpow:(0:Int)<dB^(k+2):=fF am;have hS0:WV dB S=0:=by
  have h1:WV dB (U.drop (i+1))=WV dB ((U.drop (i+1)).take (k+2))+dB^(k+2)*WV dB S:=by
   have:=kP (b:=dB) (l:=U.drop (i+1)) (i:=k+2) (by rw[d6];omega);rwa [p7,show i+1+(k+2)=i+(k+3) by omega,←hS]at this
  have h2:=cA (b:=dB) am (dL (jd oU (i+1)) (k+2));have h3:=cA (b:=dB) am oS;rcases dh 0 (WV dB S) with h|h
  . have:=az (show 1<=WV dB S by omega) (cN hpow);omega
  . omega
 have hXD:WV dB X=WV dB (U.drop i):=by rw[eD,fN,hS0,c6,dr]
 have hT:WV dB X<1000000000*WV dB V:=by
  rw[hXD,d1];have gj:0<=U[i]! /\ U[i]! < 1000000000:=gj;show _+1000000000*_<1000000000*_;omega
 have hXt:X[k+2]! = U[i+k+2]! := by
  rw[hX];simp only[ce];rw[k9 ac,nO,m9]
 have gt:=cj oX (i:=k+2) ac;have eX:X=X.take (k+2)++[X[k+2]!]:=by
  have h1:X.take (k+2+1)=X:=b7 ac;conv=>lhs;rw[←h1]
  rw[List.take_add_one,List.getElem?_eq_getElem ac,getElem!_pos X (k+2) ac,Option.toList_some]
 rw[hXt]at eX gt;refine⟨P,X.take (k+2),S,by rw[←eX];exact eU,lP,by rw[b5];omega,oP,dL oX _,oS,gt,hS0,by rw[←eX];exact hXD,by rw[←eX];exact hT⟩
theorem ZE {L V:List Int}{T q d n:Int}{m:Nat}(hn:n=dB^m)(oL:okW dB L)(_hL:L.length=m)(oV:okW dB V)(hV:V.length=m)(h:WV dB L+n*d=T-q*WV dB V)(hge:T<(q+1)*WV dB V)(hd:¬d<0):d=0/\WV dB L=T-q*WV dB V/\WV dB L<WV dB V:=by
 subst hn;have lV:=dz (b:=dB) am oV;have l0:=cA (b:=dB) am oL;have hp:0<dB^m:=fF am;rw[hV]at lV;rw[g9,iB]at hge;have d0:d=0:=by
  rcases dh 0 d with h'|h'
  . have:=az (show 1<=d by omega) (cN hp);omega
  . omega
 subst d0;rw[c6,dr]at h;exact⟨rfl,h,ac⟩
theorem ZF {L L2 V:List Int}{T q d n ca:Int}{m:Nat}(hn:n=dB^m)(oL:okW dB L)(hL:L.length=m)(oL2:okW dB L2)(hL2:L2.length=m)(oV:okW dB V)(hV:V.length=m)(h:WV dB L+n*d=T-q*WV dB V)(hle:(q-1)*WV dB V<=T)(hT0:0<=T)(hd:d<0)(q0:0<=q)(h2:WV dB L2+n*ca=WV dB L+WV dB V):1<=q/\d+ca=0/\WV dB L2=T-(q-1)*WV dB V/\WV dB L2<WV dB V:=by
 subst hn;have lL:=dz (b:=dB) am oL;have lL2:=dz (b:=dB) am oL2;have lV:=dz (b:=dB) am oV;have l0:=cA (b:=dB) am oL2;have hp:0<dB^m:=fF am;rw[hV]at lV;rw[hL]at lL;rw[hL2]at lL2;have hneg:T-q*WV dB V<0:=by
  have:=az (show d <= -1 by omega) (cN hp);omega
 have q1:1<=q:=by
  rcases dh 0 q with h'|h'
  . omega
  . obtain rfl:q=0:=by omega
    rw[Int.zero_mul]at hneg;omega
 rw[pu,iB]at hle ⊢;have hs:WV dB L2+dB^m*(d+ca)=T-q*WV dB V+WV dB V:=by rw[gF];omega
 have d0:d+ca=0:=by
  rcases dh 0 (d+ca) with h'|h'
  . have:=az (show 1<=d+ca by omega) (cN hp);omega
  . rcases dh (d+ca) 0 with h''|h''
    . have:=az (show d+ca <= -1 by omega) (cN hp);omega
    . omega
 rw[d0,c6,dr]at hs;exact⟨q1,d0,ac,ac⟩
structure Lk (M:ax):Prop where
 ft:M.FT=FT
 dV:∀ars h,M.ext 236 ars h=none
 Ll:∀(U V:List Int) (bu i k:Nat) cu c2 e h (T D p:Int),h.at bu=some (.cells (ak U) e)->V.length=k+2->i+k+2<U.length->U.length<100000000->iE U[i+k+2]! U[i+k+1]! U[i+k]! V[k+1]! V[k]! T D p->∃q:Int,(0<=q/\q<1000000000)/\T<(q+1)*D/\(q-1)*D<=T/\M.ext 295 [.sl bu 0 U.length 1 cu,.vs (ak V) V.length c2,.iV i] h=some ⟨.iV q,h,[]⟩
theorem ZG {hp:ae}{b:Nat}{e:TypeId}{P S X U:List Int}(hU:hp.at b=some (.cells (ak U) e))(h:U=P++X++S):cZ hp b e P S X=hp:=by
 unfold cZ;rw[←h];exact Hm hU
theorem ZH {hp:ae}{b:Nat}{e:TypeId}{P S X:List Int}(hl:b<hp.length):(cZ hp b e P S X).at b=some (.cells (ak (P++X++S)) e):=cJ hl
theorem DK {hp:ae}{b c:Nat}{e:TypeId}{P S X:List Int}(h:b≠c):(cZ hp b e P S X).at c=hp.at c:=vv h
theorem DL {hp:ae}{b:Nat}{e:TypeId}{P S X:List Int}{t:Int}:cZ hp b e P (t::S) X=cZ hp b e (P++X) S [t]:=by
 unfold cZ;rw[show P++X++(t::S)=P++X++[t]++S by simp]
section
variable {t m:Nat} {x y:aO} {l:List aY} {pe:List AV} {lo:List (Nat×AV)} {df wr:List Nat} {v d:Int} {Q:au->Prop}
theorem aeV (hx:(St.mk pe lo (cZ hp bu e P S [v]) df).ah x=some (.ptr bu m))(hl:bu<hp.length)(hm:m=P.length)
 (h:WO M l ⟨⟨pe,(t,.iV v)::lo,cZ hp bu e P S [v],df⟩,wr⟩ Q):WO M (⟨.l t,.load 1 false x,none⟩::l) ⟨⟨pe,lo,cZ hp bu e P S [v],df⟩,wr⟩ Q:=
 aeS (i:=0) hx hl fM hm h
theorem aeW (hx:(St.mk pe lo (cZ hp bu e P S [v]) df).ah x=some (.ptr bu m))(hy:(St.mk pe lo (cZ hp bu e P S [v]) df).ah y=some (.iV d))(hl:bu<hp.length)(hm:m=P.length)
 (h:WO M l ⟨⟨pe,lo,cZ hp bu e P S [d],df⟩,bu::wr⟩ Q):WO M (⟨.no,.store 1 x y,none⟩::l) ⟨⟨pe,lo,cZ hp bu e P S [v],df⟩,wr⟩ Q:=
 aeT (i:=0) hx hy hl fM hm h
end
theorem ZI (C:Lk M){k N bu bq bf:Nat}{V U0:List Int}{fb:bR}(hbq:bu≠bq)(hbf:bu≠bf/\bq≠bf)(lN:N<100000000)(hN:k+3<=N)(hV:V.length=k+2)(oV:okW dB V)(hv:500000000<=V[k+1]!)(hU0:U0.length=N)(oU0:okW dB U0)(hup:WV dB (U0.drop (N-(k+2)))<WV dB V){Q:Ex->au->Prop}(a0 a1 a2 a3 a4 a5 a6:AV)
 (hQ:∀U L K aC aD aE aF aG aH aI aJ aK lo wr,U.length=N->okW dB U->L.length=N-(k+2)->okW dB L->WV dB U0=WV dB V*WV dB L+WV dB U->WV dB U<WV dB V->ae.at K bu=some (.cells (ak U) 3)->ae.at K bq=some (.cells (ak L) 3)->ae.at K bf=some fb ->
   Q (.exit 2) ⟨⟨[a0,a1,a2,a3,a4,a5,a6,.vs (ak V) V.length c2,.iV V.length,.sl bu 0 N 1 cu,.sl bq 0 (N-(k+2)) 1 cq,.iV (-1),aC,aD,aE,aF,aG,aH,aI,aJ,aK],lo,K,[]⟩,wr⟩)
 (aC aD aE aF aG aH aI aJ aK:AV) (K:ae) (lo:List (Nat×AV)) (wr:List Nat) (hKu:K.at bu=some (.cells (ak U0) 3)) (hKq:K.at bq=some (.cells (ak (c5 (N-(k+2)) 0)) 3)) (hKf:K.at bf=some fb) (j:Int) (hj:j=(N:Int)-(k+3)) :
 W M (.loop xB) ⟨⟨[a0,a1,a2,a3,a4,a5,a6,.vs (ak V) V.length c2,.iV V.length,.sl bu 0 N 1 cu,.sl bq 0 (N-(k+2)) 1 cq,.iV j,aC,aD,aE,aF,aG,aH,aI,aJ,aK],lo,K,[]⟩,wr⟩ Q:=by
 refine W.gH (fun t s=>∃U L K iv aC aD aE aF aG aH aI aJ aK lo wr,s=⟨⟨[a0,a1,a2,a3,a4,a5,a6,.vs (ak V) V.length c2,.iV V.length,.sl bu 0 N 1 cu,.sl bq 0 (N-(k+2)) 1 cq,.iV iv,aC,aD,aE,aF,aG,aH,aI,aJ,aK],lo,K,[]⟩,wr⟩ /\
  iv=(t:Int)-1/\t<=N-(k+2)/\U.length=N/\okW dB U/\L.length=N-(k+2)/\okW dB L/\(∀k,k<t->L[k]! = 0)/\WV dB U0=WV dB V*WV dB L+WV dB U/\WV dB (U.drop t)<WV dB V/\ae.at K bu=some (.cells (ak U) 3)/\ae.at K bq=some (.cells (ak L) 3)/\ae.at K bf=some fb) (fun t s ⟨U,L,K,iv,aC,aD,aE,aF,aG,aH,aI,aJ,aK,lo,wr,hs,hiv,ht,hU,oU,hL,oL,hz,hv1,hv2,hKu,hKq,hKf⟩=>?_) (m:=N-(k+2))
  ⟨_,_,_,_,_,_,_,_,_,_,_,_,_,_,_,rfl,ac,aW _,hU0,oU0,aq,km am,fun k _=>kp,by rw[kn,c6,n9],hup,hKu,hKq,hKf⟩
 subst hs;cases t with
 | zero=>
  obtain rfl:iv = -1:=by omega
  unfold xB;repeat' first|apply aaQ|apply aa|apply aaf|apply aad|apply acH|apply bN|apply cX|(apply abx;rfl)|(apply adK;rfl;rfl)|(apply abh;rfl;rfl)|(intro _;omega)|intro _
  all_goals try omega
  exact hQ U L K _ _ _ _ _ _ _ _ _ _ _ hU oU hL oL hv1 hv2 hKu hKq hKf
 | succ i=>
  obtain rfl:iv=(i:Int):=by omega
  obtain⟨P,Y,S,eU,lP,lY,oP,oY,oS,gt,hS0,hXD,hT⟩:=ZD (i:=i) ac oU hV oV hv2;obtain⟨t2,ht2⟩:∃t2,t2=U[i+k+2]! := ⟨_,rfl⟩;rw[←ht2]at eU gt hXD hT;have oX:okW dB (Y++[t2]):=js oY (fun x hx=>by rw[bj.1 hx];exact gt);have lX:(Y++[t2]).length=k+3:=by simp[lY]
  have K3:=iE.of lX hV oX oV hv hT;have gX:∀m,m<k+3->(Y++[t2])[m]! = U[i+m]! := fun m hm=>by
   have:=Ca (P:=P) (X:=Y++[t2]) (S:=S) (i:=m) ac;rw[←eU,lP]at this;exact this.symm
  rw[gX _ ac,gX _ ac,gX _ ac,←m9,←m9]at K3;obtain⟨q,q0,hge,hle,q295⟩:=C.Ll U V bu i k cu c2 3 K _ _ _ hKu hV ac ac K3;rw[hU]at q295;have hT0:0<=WV dB (Y++[t2]):=cA am oX;have hkl:=gG hKu;have hkq:=gG hKq;have hself:cZ K bu 3 P (t2::S) Y=K:=ZG hKu (by rw[eU];simp);have vX:WV dB (Y++[t2])=WV dB Y+dB^V.length*t2:=by rw[fN,lY,hV];simp[WV]
  have lYV:Y.length=V.length:=by omega
  have hPN:P.length+V.length<N:=by omega
  have eI:0+((i:Int)).toNat*1=i:=by omega
  have hiP:(i:Int)=(P.length:Int):=by omega
  have fin:∀(q' d:Int) L2 K' aC aD aE aF aG aH aI aJ aK lo wr,(0<=q'/\q'<1000000000)->L2.length=V.length->okW dB L2->d=0->WV dB L2=WV dB (Y++[t2])-q'*WV dB V->WV dB L2<WV dB V->K'=(cZ K bu 3 (P++L2) S [d]).put bq (some (.cells (ak (L.set i q')) 3)) ->
   LI (fun s=>∃m',m'<i+1/\∃U L K iv aC aD aE aF aG aH aI aJ aK lo wr,s=⟨⟨[a0,a1,a2,a3,a4,a5,a6,.vs (ak V) V.length c2,.iV V.length,.sl bu 0 N 1 cu,.sl bq 0 (N-(k+2)) 1 cq,.iV iv,aC,aD,aE,aF,aG,aH,aI,aJ,aK],lo,K,[]⟩,wr⟩ /\
    iv=(m':Int)-1/\m'<=N-(k+2)/\U.length=N/\okW dB U/\L.length=N-(k+2)/\okW dB L/\(∀k,k<m'->L[k]! = 0)/\WV dB U0=WV dB V*WV dB L+WV dB U/\WV dB (U.drop m')<WV dB V/\ae.at K bu=some (.cells (ak U) 3)/\ae.at K bq=some (.cells (ak L) 3)/\ae.at K bf=some fb) Q .normal ⟨⟨[a0,a1,a2,a3,a4,a5,a6,.vs (ak V) V.length c2,.iV V.length,.sl bu 0 N 1 cu,.sl bq 0 (N-(k+2)) 1 cq,.iV ((P.length:Int)-1),aC,aD,aE,aF,aG,aH,aI,aJ,aK],lo,K',[]⟩,wr⟩:=fun q' d L2 K' aC aD aE aF aG aH aI aJ aK lo wr hq' hL2 oL2 hd vL2 hlt hK'=>by
   subst hd;subst hK';have hl1:bu<(cZ K bu 3 (P++L2) S [0]).length:=by rw[KX];exact hkl
   have hl2:bq<(cZ K bu 3 (P++L2) S [0]).length:=by rw[KX];exact hkq
   have e0:WV dB ([0]++S)=0:=by rw[List.singleton_append,WV,hS0];rfl
   have vU':WV dB (P++L2++[0]++S)=WV dB P+dB^i*WV dB L2:=by
    rw[ff,fN,e0,c6,dr,fN,lP]
   have vU:WV dB U=WV dB P+dB^i*WV dB (Y++[t2]):=by
    rw[eU,fN,hS0,c6,dr,fN,lP]
   have lU':(P++L2++[0]++S).length=N:=by
    have h1:=congrArg j9 eU;simp only[bc,c7,cd]at h1 ⊢;omega
   refine cW ⟨i,oy i,P++L2++[0]++S,L.set i q',_,_,aC,aD,aE,aF,aG,aH,aI,aJ,aK,lo,wr,rfl,ac,ac,lU',js (js (js oP oL2) (fun x hx=>by rw[bj.1 hx];exact⟨am,am⟩)) oS,by rw[aZ];exact hL,gq oL hq',fun k hk=>by rw[gV ac];exact hz k ac,?_,?_,?_,?_,?_⟩
   . rw[gr ac,hz i ac,mn,vU',hv1,vU,vL2,gF,Int.mul_sub];have e3:WV dB V*(dB^i*q')=dB^i*(q'*WV dB V):=by rw[←dU,ox (WV dB V),dU,ox (WV dB V)]
     rw[e3];omega
   . rw[←lP,ff,ff,m7,fN,e0,c6,dr];exact hlt
   . rw[vv (Ne.symm hbq)];rw[ZH hkl]
   . exact cJ hl2
   . rw[vv hbf.2,DK hbf.1];exact hKf
  rw[hiP]at q295;have hQK:=hself;unfold xB;rw[hiP];repeat' first|apply aaQ|apply aa|apply aaf|apply aad|apply abI|apply abC|(apply abz;rfl)|(apply adK;rfl;rfl)|(apply abJ;rfl;rfl;first|exact q295)|(apply abh;rfl;rfl)|(apply abl;rfl;rfl)|(intro _;omega)|intro _
  all_goals try omega
  rw[←hself];refine ZB (c2:=c2) (cu:=cu) hkl lN hPN lYV oY oV q q0 _ _ _ _ _ _ _ _ _ _ _ _ _ _ _ _ (fun L1 bo aF aG lo wr hL1 oL1 hbo hv3=>?_);have hmv:=DL (hp:=K) (b:=bu) (e:=3) (P:=P) (S:=S) (X:=L1) (t:=t2);rw[hmv];have eq1:WV dB L1+dB^V.length*(t2-bo)=WV dB (Y++[t2])-q*WV dB V:=by
   rw[hv3,vX,Int.mul_sub];omega
  have lPL:(P++L1).length=P.length+V.length:=by rw[bc,hL1]
  by_cases hd:t2-bo<0
  . repeat' first|(apply aeV;rfl;exact hkl;omega)|(apply aeW;rfl;rfl;exact hkl;omega)|apply aaQ|apply aa|apply aaf|apply aad|apply abI|apply bJ|(apply abz;rfl)|(apply abR;rfl;rfl)|(apply acS;rfl;rfl;omega)|(apply adj;rfl;rfl;omega)|(apply adP;rfl;rfl;omega)|(apply abh;rfl;rfl)|(apply abl;rfl;rfl)|(intro _;omega)|intro _
    all_goals try omega
    have hmv2:=DL (hp:=K) (b:=bu) (e:=3) (P:=P) (S:=S) (X:=L1) (t:=t2-bo);rw[←hmv2];refine ZC (c2:=c2) (cu:=cu) hkl lN hPN hL1 oL1 oV _ _ _ _ _ _ _ _ _ _ _ _ _ _ _ _ _ (fun L2 ca aJ lo wr hL2 oL2 hca hv4=>?_);have hmv3:=DL (hp:=K) (b:=bu) (e:=3) (P:=P) (S:=S) (X:=L2) (t:=t2-bo);rw[hmv3];have lPL2:(P++L2).length=P.length+V.length:=by rw[bc,hL2]
    obtain⟨q1,hz0,vL2,hlt⟩:=ZF rfl oL1 hL1 oL2 hL2 oV rfl eq1 hle hT0 hd q0.1 hv4;have hq2:(cZ K bu 3 (P++L2) S [t2-bo+ca]).at bq=some (.cells (ak L) 3):=by rw[DK hbq];exact hKq
    have eP:0+((P.length:Int)).toNat*1=i:=by omega
    repeat' first|(apply aeV;rfl;exact hkl;omega)|(apply aeW;rfl;rfl;exact hkl;omega)|(apply aex;exact congrArg (fun z=>some (AV.ptr bq z)) eP;rfl;exact hq2;omega)|apply aa|apply aaf|apply aad|apply bE|apply bJ|(apply acS;rfl;rfl;omega)|(apply adj;rfl;rfl;omega)|(apply adP;rfl;rfl;omega)|(apply abh;rfl;rfl)|(apply abl;rfl;rfl)
    all_goals try omega
    all_goals exact fin (q-1) _ L2 _ _ _ _ _ _ _ _ _ _ _ _ ⟨ac,ac⟩ hL2 oL2 hz0 vL2 hlt rfl
  . obtain⟨hz0,vL1,hlt⟩:=ZE rfl oL1 hL1 oV rfl eq1 hge hd;have hq2:(cZ K bu 3 (P++L1) S [t2-bo]).at bq=some (.cells (ak L) 3):=by rw[DK hbq];exact hKq
    have eP:0+((P.length:Int)).toNat*1=i:=by omega
    repeat' first|(apply aeV;rfl;exact hkl;omega)|(apply aeW;rfl;rfl;exact hkl;omega)|(apply aex;exact congrArg (fun z=>some (AV.ptr bq z)) eP;rfl;exact hq2;omega)|apply aaQ|apply aa|apply aaf|apply aad|apply abC|apply bE|apply bJ|(apply abx;rfl)|(apply abR;rfl;rfl)|(apply acS;rfl;rfl;omega)|(apply adj;rfl;rfl;omega)|(apply adP;rfl;rfl;omega)|(apply abh;rfl;rfl)|(apply abl;rfl;rfl)|(intro _;omega)|intro _
    all_goals try omega
    all_goals exact fin q _ L1 _ _ _ _ _ _ _ _ _ _ _ _ q0 hL1 oL1 hz0 vL1 hlt rfl
theorem DO {h:ae}(l:List Int):rB h (ak l):=uI (fun _=>.cons (.atom rfl) .nil) l
theorem xH {h:ae}{l:List Int}{n:Nat}:dv h (.vs (ak l) n cap) (.vs (ak l) n cap):=dv.pF (DO l)
theorem DP {h:ae}{b n:Nat}{L:List Int}{e:TypeId}(hb:h.at b=some (.cells (ak L) e))(hn:n<=L.length):dv h (.sl b 0 n 1 cap) (.vs (ak (L.take n)) (L.take n).length none):=by
 have hl:(L.take n).length=n:=by rw[b5];omega
 rw[hl];refine .sl (m:=ak (L.take n)) hb ?_ rfl fun i x y hx hy=>?_
 . have:=kO (f:=iC) (esz:=1) (fun _=>rfl) (l:=L) (i:=0) (n:=n) ac;simpa using this
 . rw[hx]at hy;cases hy;obtain⟨z,hz⟩:∃z,x = .iV z:=by
    have hm:=List.mem_of_getElem? hx;have:∀l:List Int,∀x∈ak l,∃z,x = .iV z:=by
     intro l;induction l with
     | nil=>intro x hx;cases hx
     | cons a l ih=>
      intro x hx;have:ak (a::l) = .iV a::ak l:=rfl;rw[this]at hx;rcases List.mem_cons.1 hx with rfl|hx
      . exact⟨a,rfl⟩
      . exact ih x hx
    exact this _ _ hm
   subst hz;exact .atom rfl
structure Lm (M:ax):Prop extends Lk M where
 sQ:∀(a b:List Int) c1 c2 h,okW dB a->okW dB b->aR a->aR b->a.length<1000000000->b.length<1000000000->M.ext 255 [.vs (ak a) a.length c1,.vs (ak b) b.length c2] h=some ⟨.iV (br (WV dB a-WV dB b)),h,[]⟩
 qp:∀(x y:AV) (a b:List Int) c1 c2 h,dv h x (.vs (ak a) a.length c1)->dv h y (.vs (ak b) b.length c2)->okW dB a->okW dB b->a.length<10000000->b.length<10000000->0<a.length+b.length->∃r,okW dB r/\aR r/\WV dB r=WV dB a*WV dB b/\M.ext 257 [x,y] h=some ⟨.vs (ak r) r.length none,h,[]⟩
 DQ:∀(x:AV) (a:List Int) c h (d:Int),dv h x (.vs (ak a) a.length c)->okW dB a->a.length<10000000->(0<d/\d<=1000000000)->∃q,okW dB q/\aR q/\WV dB q=WV dB a/d/\M.ext 294 [x,.iV d] h=some ⟨.ay [.vs (ak q) q.length none,.iV (WV dB a%d)],h,[]⟩
theorem ZJ {t f r:Int}(ht:1<=t/\t<1000000000)(hf:(t+1)*f+r=1000000000)(hr:0<=r/\r<t+1):1<=f/\f<=500000000/\500000000<=t*f:=by
 have e:(t+1)*f=t*f+f:=by rw[g9,iB]
 have f0:1<=f:=by
  rcases dh f 1 with h|h
  . have:=az (show f<=0 by omega) (show 0<=t+1 by omega);rw[c6]at this;omega
  . exact h
 have h2:2*f<=(t+1)*f:=be ac ac;refine⟨f0,ac,?_⟩;by_cases hbig:500000000<=t
 . have:=az f0 (show 0<=t by omega);omega
 . have f2:2<=f:=by
    rcases dh f 2 with h|h
    . obtain rfl:f=1:=by omega
      omega
    . exact h
   have h3:=iK (show 0<=t-1 by omega) (show 0<=f-2 by omega);have e3:(t-1)*(f-2)=t*f-2*t-f+2:=by grind
   rw[e3]at h3;by_cases r2:2<=r
   . omega
   . by_cases r0:r=0
     . subst r0;omega
     . have r1:r=1:=by omega
       subst r1;by_cases t1:t=1
       . subst t1;omega
       . have h4:3*f<=(t+1)*f:=be ac ac;omega
theorem ZK {b V:List Int}{k:Nat}{f:Int}(hb:b.length=k+2)(ob:okW dB b)(hf:1<=f)(hth:500000000<=b[k+1]! * f)(htf:(b[k+1]! + 1)*f<=1000000000)(oV:okW dB V)(nV:aR V)(vV:WV dB V=WV dB b*f):V.length=k+2/\500000000<=V[k+1]! := by
 have e0:=jQ (b:=dB) (l:=b) (n:=k+1) ac;have l0:=cA (b:=dB) am (dL ob (k+1));have l1:=dz (b:=dB) am (dL ob (k+1));rw[b5,ii ac]at l1;have hP:0<dB^(k+1):=fF am;obtain⟨t,ht⟩:∃t,t=b[k+1]! := ⟨_,rfl⟩;rw[←ht]at e0 hth htf;have m1:dB^(k+1)*500000000<=WV dB V:=by
  have h1:=az hth (cN hP);have h2:=iK l0 (show 0<=f by omega);rw[vV,e0,g9,dU];omega
 have m2:WV dB V<dB^(k+1)*1000000000:=by
  have h1:=az htf (cN hP);have h2:=dF l1 (show 0<f by omega);rw[g9,iB,gF]at h1;rw[vV,e0,g9,dU];omega
 have hPs:dB^(k+2)=dB^(k+1)*1000000000:=b8 _ _;have hlen:V.length<=k+2:=gu (b:=dB) am oV nV (by rw[hPs];exact m2);have hlen2:k+2<=V.length:=by
  rcases mp V.length (k+2) with h|h
  . have h1:=dz (b:=dB) am oV;have h2:=ie (b:=dB) am (show V.length<=k+1 by omega);omega
  . exact h
 have hl:V.length=k+2:=by omega
 refine⟨hl,?_⟩;have e1:=jQ (b:=dB) (l:=V) (n:=k+1) ac;have g1:=dz (b:=dB) am (dL oV (k+1));rw[b5,ii ac]at g1;have:dB^(k+1)*500000000<dB^(k+1)*(V[k+1]! + 1):=by rw[gF,Int.mul_one];omega
 have:=j0 this (cN hP);omega
theorem ZL {a b U:List Int}{k:Nat}{f:Int}(hf:0<f)(ha:k+2<=a.length)(oa:okW dB a)(hb:b.length=k+2)(ob:okW dB b)(nb:aR b)(hU:U.length=a.length+1)(oU:okW dB U)(vU:WV dB U=WV dB a*f) :
 WV dB (U.drop (a.length+1-(k+2)))<WV dB b*f:=by
 have e1:=kP (b:=dB) (l:=U) (i:=a.length+1-(k+2)) ac;have l0:=cA (b:=dB) am (dL oU (a.length+1-(k+2)));have l1:=dz (b:=dB) am oa;have hg:=pP (b:=dB) am ob nb ac;rw[hb,show k+2-1=k+1 by omega]at hg;have hP:0<dB^(a.length+1-(k+2)):=fF am;have ep:dB^a.length=dB^(a.length+1-(k+2))*dB^(k+1):=by rw[←pm,show a.length+1-(k+2)+(k+1)=a.length by omega]
 have m1:=dF l1 hf;have m2:=be hg (cN hf);rw[ep,dU]at m1;have:dB^(a.length+1-(k+2))*WV dB (U.drop (a.length+1-(k+2)))<dB^(a.length+1-(k+2))*(dB^(k+1)*f):=by omega
 have:=j0 this (cN hP);omega
theorem ZM {a A:List Int}{f:Int}(hf:1<=f/\f<=500000000)(oa:okW dB a)(na:aR a)(ha:a≠[])(oA:okW dB A)(nA:aR A)(vA:WV dB A=WV dB a*f):A≠[]/\A.length<=a.length+1:=by
 have p:=(je (b:=dB) am oa na).2 ha;have hp:0<WV dB a*f:=pp p ac;refine⟨fun e=>by rw[e]at vA;simp[WV]at vA;omega,gu (b:=dB) am oA nA ?_⟩;have l1:=dz (b:=dB) am oa;have h1:=dF l1 (show 0<f by omega);have h2:=az (show f<=1000000000 by omega) (cN (fF (n:=dB) (m:=a.length) am));have h3:dB^(a.length+1)=dB^a.length*1000000000:=b8 _ _;omega
theorem ZN {a A:List Int}(la:a.length<1000000)(hA:A.length<=a.length+1){Q:Ex->au->Prop}{fb:bR}(a1 a2 a3 a4 a5 a6 a7 a8 aA aB aC aD aE aF aG aH aI aJ aK:AV)
 (hQ:∀o K lo wr,bC iC 1 3 K o (A++c5 (a.length+1-A.length) 0) [0]->ae.at K 0=some fb->Q (.exit 0) ⟨⟨[.vs (ak a) a.length c1,a1,a2,a3,a4,a5,a6,a7,a8,o,aA,aB,aC,aD,aE,aF,aG,aH,aI,aJ,aK],lo,K,[]⟩,wr⟩)
 (o:AV) (K:ae) (lo:List (Nat×AV)) (wr:List Nat) (ho:bC iC 1 3 K o A [0]) (hK:K.at 0=some fb) :
 W M (.loop xw) ⟨⟨[.vs (ak a) a.length c1,a1,a2,a3,a4,a5,a6,a7,a8,o,aA,aB,aC,aD,aE,aF,aG,aH,aI,aJ,aK],lo,K,[]⟩,wr⟩ Q:=by
 refine W.gH (fun m st=>∃d o K lo wr,st=⟨⟨[.vs (ak a) a.length c1,a1,a2,a3,a4,a5,a6,a7,a8,o,aA,aB,aC,aD,aE,aF,aG,aH,aI,aJ,aK],lo,K,[]⟩,wr⟩/\A.length+d+m=a.length+1/\bC iC 1 3 K o (A++c5 d 0) [0]/\ae.at K 0=some fb)
  (fun m st ⟨d,o,K,lo,wr,hst,hm,ho,hK⟩=>?_) (m:=a.length+1-A.length) ⟨0,o,K,lo,wr,rfl,ac,by simpa using ho,hK⟩
 subst hst;have hlen:(A++c5 d (0:Int)).length=A.length+d:=by simp
 have hsl:∃b cp,o = .ab/\A.length+d=0\/o = .sl b 0 (A++c5 d (0:Int)).length 1 cp:=by
  rcases ho with ⟨h1,h2⟩|⟨c,cp,_,h2,_,_⟩
  . exact⟨0,none,.inl ⟨h2,by rw[←hlen,h1];rfl⟩⟩
  . exact⟨c,cp,.inr h2⟩
 have hroom:((A++c5 d (0:Int)).length+1)*8<=dO:=by rw[hlen];unfold dO;omega
 have hK1:=gG hK;have next:∀H o' lo w',bC iC 1 3 H o' (A++c5 d 0++[0]) [0]->ae.at H 0=some fb->0<m->LI (fun st=>∃m',m'<m/\∃d o K lo wr,st=⟨⟨[.vs (ak a) a.length c1,a1,a2,a3,a4,a5,a6,a7,a8,o,aA,aB,aC,aD,aE,aF,aG,aH,aI,aJ,aK],lo,K,[]⟩,wr⟩/\A.length+d+m'=a.length+1/\bC iC 1 3 K o (A++c5 d 0) [0]/\ae.at K 0=some fb) Q .normal ⟨⟨[.vs (ak a) a.length c1,a1,a2,a3,a4,a5,a6,a7,a8,o',aA,aB,aC,aD,aE,aF,aG,aH,aI,aJ,aK],lo,H,[]⟩,w'⟩:=fun H o' lo w' h1 h2 h3=>
  cW ⟨m-1,ac,d+1,o',H,lo,w',rfl,ac,by rw[ff,←List.replicate_succ']at h1;exact h1,h2⟩
 have stop:∀lo wr,m=0->Q (.exit 0) ⟨⟨[.vs (ak a) a.length c1,a1,a2,a3,a4,a5,a6,a7,a8,o,aA,aB,aC,aD,aE,aF,aG,aH,aI,aJ,aK],lo,K,[]⟩,wr⟩:=fun lo wr h=>by
  have:d=a.length+1-A.length:=by omega
  subst this;exact hQ o K lo wr ho hK
 obtain⟨b,cp,⟨rfl,hz⟩|rfl⟩:=hsl
 . unfold xw;repeat' first|(refine bC.app (f:=iC) (m:=[(0:Int)]) (S:=[0]) (fun _=>rfl) (fun _=>rfl) am (ho.grow [_]) aq rfl rfl (Sl.iZ (f:=iC) (esz:=1) (l:=[(0:Int)]) (e:=3) (fun _=>rfl) bS rfl) hroom (fun H w' o' ho' hk hlen=>?_))|apply aaQ|apply aa|apply aaf|apply aad|apply abI|apply abC|apply bE|(apply abz;rfl)|(apply abR;rfl;rfl)|(apply acS;rfl;rfl;omega)|(apply acn;rfl;rfl;rfl)|(apply abh;rfl;rfl)|(apply abl;rfl;rfl)|(intro _;omega)|intro _
   all_goals try omega
   all_goals exact next _ _ _ _ ho' (hk 0 _ aq (cm hK)) ac
 . unfold xw;repeat' first|(refine bC.app (f:=iC) (m:=[(0:Int)]) (S:=[0]) (fun _=>rfl) (fun _=>rfl) am (ho.grow [_]) aq rfl rfl (Sl.iZ (f:=iC) (esz:=1) (l:=[(0:Int)]) (e:=3) (fun _=>rfl) bS rfl) hroom (fun H w' o' ho' hk hlen=>?_))|apply aaQ|apply aa|apply aaf|apply aad|apply abI|apply acH|apply abC|apply bN|apply bE|apply cX|(apply abz;rfl)|(apply abx;rfl)|(apply abR;rfl;rfl)|(apply acS;rfl;rfl;omega)|(apply acn;rfl;rfl;rfl)|(apply abh;rfl;rfl)|(apply abl;rfl;rfl)|(intro _;omega)|intro _
   all_goals try omega
   all_goals first|exact next _ _ _ _ ho' (hk 0 _ aq (cm hK)) ac|exact stop _ _ ac
theorem ZO {h:ae}{b m:Nat}{U:List Int}{e:TypeId}(hb:h.at b=some (.cells (ak U) e))(hm:m<=U.length):dv h (bO b m none) (.vs (ak (U.take m)) (U.take m).length none):=by
 rcases jR m with rfl|h0
 . rw[sM];exact xH (l:=[]) (n:=0)
 . rw[show bO b m none = .sl b 0 m 1 none from if_pos h0];exact DP hb hm
theorem jB.mix {d1:Option Nat}{b1:Nat}{L1 R:List Int}{e1:TypeId}{hp:ae}{n1:Nat}(h1:hp.at b1=some (.cells (ak L1) e1))(hn1:n1<=L1.length) :
 jB (aV [bO b1 (aS (L1.take n1)) d1,.vs (ak R) R.length none]) (if (aV [bO b1 (aS (L1.take n1)) d1,.vs (ak R) R.length none]).top<=0 then [] else hp) (L1.take (aS (L1.take n1))) R:=by
 obtain⟨x,hx⟩:∃x,x=bO b1 (aS (L1.take n1)) d1:=⟨_,rfl⟩;obtain⟨hh,hhh⟩:∃hh,hh=(if (aV [x,.vs (ak R) R.length none]).top<=0 then [] else hp):=⟨_,rfl⟩;have et:(aV [x,.vs (ak R) R.length none]).top=max x.top (max (bz (ak R)) 0):=rfl;rw[fv]at et;obtain⟨v1,f1,t1,k1⟩:=DG (cap:=d1) h1 hn1 hh (fun h=>by rw[hhh,if_neg];rw[←hx]at h;omega);rw[←hx,←hhh];rw[←hx]at f1;refine⟨.ay [v1,.vs (ak R) R.length none],_,_,.ay rfl (fun i a b ha hb=>?_),?_,?_,.inl rfl,.inl rfl⟩
 . match i with
   | 0=>cases ha;cases hb;exact f1
   | 1=>cases ha;cases hb;exact .same (fv R)
   | i+2=>cases ha
 . show max v1.top (max (bz (ak R)) 0)=0;rw[t1,fv];rfl
 . simp only[bD,cC,k1,oe]
theorem jB.ZP {d1:Option Nat}{b1:Nat}{L1 R:List Int}{e1:TypeId}{hp:ae}{n1:Nat}(h1:hp.at b1=some (.cells (ak L1) e1))(hn1:n1<=L1.length) :
 jB (aV [.vs (ak R) R.length none,bO b1 (aS (L1.take n1)) d1]) (if (aV [.vs (ak R) R.length none,bO b1 (aS (L1.take n1)) d1]).top<=0 then [] else hp) R (L1.take (aS (L1.take n1))):=by
 obtain⟨x,hx⟩:∃x,x=bO b1 (aS (L1.take n1)) d1:=⟨_,rfl⟩;obtain⟨hh,hhh⟩:∃hh,hh=(if (aV [.vs (ak R) R.length none,x]).top<=0 then [] else hp):=⟨_,rfl⟩;have et:(aV [.vs (ak R) R.length none,x]).top=max (bz (ak R)) (max x.top 0):=rfl;rw[fv]at et;obtain⟨v1,f1,t1,k1⟩:=DG (cap:=d1) h1 hn1 hh (fun h=>by rw[hhh,if_neg];rw[←hx]at h;omega);rw[←hx,←hhh];rw[←hx]at f1;refine⟨.ay [.vs (ak R) R.length none,v1],_,_,.ay rfl (fun i a b ha hb=>?_),?_,?_,.inl rfl,.inl rfl⟩
 . match i with
   | 0=>cases ha;cases hb;exact .same (fv R)
   | 1=>cases ha;cases hb;exact f1
   | i+2=>cases ha
 . show max (bz (ak R)) (max v1.top 0)=0;rw[t1,fv];rfl
 . simp only[bD,cC,k1,oe]
theorem Ln {L:List Int}{n:Nat}:L.take (aS (L.take n))=(L.take n).take (aS (L.take n)):=by
 have h:=iJ (l:=L.take n);rw[b5]at h;rw[p8,ii ac]
theorem aft {t:Nat}{x y:aO}{l:List aY}{pe:List AV}{lo:List (Nat×AV)}{hp:ae}{df wr:List Nat}{a d v:Int}{Q:au->Prop}(hx:(St.mk pe lo hp df).ah x=some (.iV a))(hy:(St.mk pe lo hp df).ah y=some (.iV d))(ha:0<=a/\a<9223372036854775808)(hd:0<d)(hv:a/d=v)
 (h:WO M l ⟨⟨pe,(t,.iV v)::lo,hp,df⟩,wr⟩ Q):WO M (⟨.l t,.bin .quo x y,none⟩::l) ⟨⟨pe,lo,hp,df⟩,wr⟩ Q:=by
 subst hv;exact aer hx hy ha hd h
theorem Lo (C:Lm M)(a b:List Int)(oa:okW dB a)(ob:okW dB b)(na:aR a)(nb:aR b)(la:a.length<100000)(lb:b.length<100000)(hb:b≠[]):KY M 224 [.vs (ak a) a.length c1,.vs (ak b) b.length c2] (WV dB a) (WV dB b):=by
 have a0:=cA (b:=dB) am oa;have b0:=(je (b:=dB) am ob nb).2 hb;have q255:=fun h=>C.sQ a b c1 c2 h oa ob na nb ac ac
 refine Zq (by rw[C.ft];exact KQ) aq ?_;unfold Dx;simp only[enter];by_cases hlt:WV dB a<WV dB b
 . have e:br (WV dB a-WV dB b) = -1:=if_pos ac;rw[e]at q255;repeat' first|apply aaQ|apply aa|apply aaf|apply aad|apply abw|apply aU|(apply abz;rfl)|(apply abR;rfl;rfl)|(apply abJ;rfl;rfl;first|exact q255 _)|(apply abh;rfl;rfl)|(apply abl;rfl;rfl)|(intro _;omega)|intro _
   all_goals try omega
   exact⟨.inr rfl,rfl,_,rfl,[],a,⟨iI,jP,(Int.ediv_eq_zero_of_lt a0 hlt).symm⟩,⟨oa,na,(Int.emod_eq_of_lt a0 hlt).symm⟩,jB.less⟩
 obtain⟨g,hg⟩:∃g,g=br (WV dB a-WV dB b):=⟨_,rfl⟩;have g0:0<=g:=by
  rw[hg];unfold br;split
  . omega
  . split <;> omega
 rw[←hg]at q255;have lb0:b.length≠0:=fun h=>hb (db h)
 by_cases hl1:b.length=1
 . have t0:=nL nb ac;rw[hl1,show 1-1=0 by omega]at t0;have gb:=cj ob (i:=0) ac;have vb:WV dB b=b[0]! := by
    have:=jQ (b:=dB) (l:=b) (n:=0) ac;simpa[WV] using this
   have gb2:0<b[0]! /\ b[0]! < 1000000000:=⟨ac,gb.2⟩;obtain⟨Q,oQ,nQ,vQ,q294⟩:=C.DQ (.vs (ak a) a.length c1) a c1 [] b[0]! xH oa ac ⟨gb2.1,ac⟩;have r0:=d9 (WV dB a) (show b[0]! ≠ 0 by omega);have r1:=c8 (WV dB a) gb2.1;obtain⟨re,hre⟩:∃re,re=WV dB a%b[0]! := ⟨_,rfl⟩;rw[←hre]at q294 r0 r1;have e0:b[(0:Int).toNat]! = b[0]! := rfl;have q2:CT M (iR 236) [.sl 0 0 1 1 (some 1)] [some (.cells (ak [re]) 3)] ⟨bO 0 (aS ([re].take 1)) (some 1),[some (.cells (ak [re]) 3)],[]⟩:=oh (cap:=some 1) C.ft C.dV rfl fM (aW _) am (fun c hc=>by cases hc;exact aW _);repeat' first|apply aaQ|apply aa|apply aaf|apply aad|apply abw|apply abC|apply aU|(apply abz;rfl)|(apply abx;rfl)|(apply abR;rfl;rfl)|(apply acR;rfl;rfl)|(apply abJ;rfl;rfl;first|exact q255 _|exact q294)|(apply adQ;rfl;rfl;first|exact q2)|(apply adp;rfl;rfl;omega)|(apply adL;rfl;exact fun _=>rfl;(first|omega|(simp only[aZ];omega)|(simp;omega));decide;rfl;case ia=>infer_instance)|(apply acn;rfl;rfl;rfl)|(apply abh;rfl;rfl)|(apply abl;rfl;rfl)|(intro _;omega)|intro _
   all_goals try omega
   have hout:=jB.ZP (d1:=some 1) (b1:=0) (L1:=[re]) (R:=Q) (e1:=3) (hp:=[some (.cells (ak [re]) 3)]) (n1:=1) rfl (aW _);refine⟨.inr rfl,rfl,_,rfl,Q,_,⟨oQ,nQ,by rw[vQ,vb]⟩,?_,hout⟩;rw[b7 (show [re].length<=1 from aW _)];obtain⟨h1,h2,h3⟩:=od (L:=[re]) (fun x hx=>by rw[bj.1 hx];exact⟨r0,by show _<(1000000000:Int);omega⟩);exact⟨h1,h2,by rw[h3,vb,←hre];simp[WV]⟩
 obtain⟨k,hk⟩:∃k,b.length=k+2:=⟨b.length-2,ac⟩;have ha:k+2<=a.length:=by
  rcases mp a.length (k+2) with h|h
  . exact absurd (nM (b:=dB) am oa ob nb ac) hlt
  . exact h
 have ane:a≠[]:=fun e=>by rw[e]at ha;simp at ha
 have t0:=nL nb ac;rw[show b.length-1=k+1 by omega]at t0;have gt:=cj ob (i:=k+1) ac;obtain⟨t,ht⟩:∃t,t=b[k+1]! := ⟨_,rfl⟩;rw[←ht]at t0 gt;have gt:0<=t/\t<1000000000:=gt;have htb:b[((b.length:Int)-1).toNat]! = t:=by rw[show ((b.length:Int)-1).toNat=k+1 by omega];exact ht.symm
 obtain⟨f,hf⟩:∃f,f=1000000000/(t+1):=⟨_,rfl⟩;have hfe:=i7 1000000000 (t+1);rw[←hf]at hfe;obtain⟨f1,f2,f3⟩:=ZJ (t:=t) (f:=f) ⟨ac,gt.2⟩ hfe ⟨d9 _ ac,c8 _ ac⟩;have f4:(t+1)*f<=1000000000:=by
  have:=d9 1000000000 (show t+1≠0 by omega);omega
 have of:okW dB [f]:=fun x hx=>by rw[bj.1 hx];exact⟨ac,by show _<(1000000000:Int);omega⟩
 have vf:WV dB [f]=f:=by simp[WV]
 obtain⟨V,oV,nV,vV,q257b⟩:=C.qp (.vs (ak b) b.length c2) (.sl 0 0 1 1 (some 1)) b [f] c2 none [some (.cells (ak [f]) 3)] xH (DP (L:=[f]) (n:=1) (e:=3) rfl (aW _)) ob of ac aq ac;rw[vf]at vV;rw[ht]at f3 f4;obtain⟨lV,hvt⟩:=ZK hk ob f1 f3 f4 oV nV vV;obtain⟨A,oA,nA,vA,q257a⟩:=C.qp (.vs (ak a) a.length c1) (.sl 0 0 1 1 (some 1)) a [f] c1 none [some (.cells (ak [f]) 3),some (.cells (ak []) 3)] xH (DP (L:=[f]) (n:=1) (e:=3) rfl (aW _)) oa of ac aq ac;rw[vf]at vA;obtain⟨Ane,lA⟩:=ZM ⟨f1,f2⟩ oa na ane oA nA vA;rw[←ht]at f3 f4;have hroom:(([]:List Int).length+A.length)*8<=dO:=by rw[cd];unfold dO;omega
 have hfq:1000000000/(b[((b.length:Int)-1).toNat]! + 1)=f:=by rw[htb,hf]
 repeat' first|(apply aft (a:=1000000000) (v:=f);rfl;rfl;decide;(rw[htb];omega);exact hfq)|(refine bC.app (f:=iC) (m:=A) (acc:=[]) (S:=[0]) (hp:=[some (.cells (ak [f]) 3),some (.cells (ak []) 3)]) (fun _=>rfl) (fun _=>rfl) am (.inr ⟨1,some 0,aq,rfl,rfl,.inr ⟨rfl,rfl⟩⟩) aq rfl rfl (.inr (.inl ⟨_,rfl⟩)) hroom (fun H w' o' ho' hk' hlen=>?_))|apply aaQ|apply aa|apply aaf|apply aad|apply abI|apply abC|(apply abx;rfl)|(apply abR;rfl;rfl)|(apply acR;rfl;rfl)|(apply acS;rfl;rfl;omega)|(apply adj;rfl;rfl;omega)|(apply abJ;rfl;rfl;first|exact q255 _|exact q257b|exact q257a)|(apply adp;rfl;rfl;omega)|(apply adL;rfl;exact fun _=>rfl;(first|omega|(simp only[aZ];omega)|(simp;omega));decide;rfl;case ia=>infer_instance)|(apply acn;rfl;rfl;rfl)|(apply abh;rfl;rfl)|(apply abl;rfl;rfl)|(intro _;omega)|intro _
 all_goals try omega
 rw[List.nil_append]at ho';refine ZN (c1:=c1) (fb:=.cells (ak [f]) 3) ac lA _ _ _ _ _ _ _ _ _ _ _ _ _ _ _ _ _ _ _ (fun o K lo wr hoK hK0=>?_) _ _ _ _ ho' (hk' 0 _ aq rfl);obtain⟨U0,hU0⟩:∃U0,U0=A++c5 (a.length+1-A.length) 0:=⟨_,rfl⟩;rw[←hU0]at hoK;have lU0:U0.length=a.length+1:=by rw[hU0];simp;omega
 have oU0:okW dB U0:=by rw[hU0];exact js oA (km am)
 have vU0:WV dB U0=WV dB a*f:=by rw[hU0,fN,kn,c6,dr,vA]
 rcases hoK with ⟨h1,_⟩|⟨bu,cp,hb0,rfl,hbu,hcap⟩
 . rw[h1]at lU0;simp at lU0
 obtain rfl:cp=none:=hcap.resolve_right fun h=>by rw[h.1]at lU0;simp at lU0
 have hb0:bu≠0:=fun e=>hb0 (by simp[e])
 have hbl:=gG hbu;have hK0l:=gG hK0;rw[lU0];repeat' first|apply aaQ|apply aa|apply aaf|apply aad|apply abI|apply bJ|(apply adj;rfl;rfl;omega)|(apply aeh;rfl;rfl;omega)|(apply abh;rfl;rfl)|(apply abl;rfl;rfl)
 all_goals try omega
 rw[show (((a.length+1:Nat):Int)-(V.length:Int)).toNat=a.length+1-(k+2) by omega];have hup:=ZL (f:=f) ac ha oa hk ob nb lU0 oU0 vU0;rw[←vV]at hup;refine ZI (c2:=none) (cu:=none) (cq:=some (a.length+1-(k+2))) (k:=k) (N:=a.length+1) (bu:=bu) (bq:=K.length) (bf:=0) (V:=V) (U0:=U0) (fb:=.cells (ak [f]) 3) C.toLk ac ⟨hb0,ac⟩ ac ac lV oV hvt lU0 oU0 hup _ _ _ _ _ _ _ (fun U L K2 aC aD aE aF aG aH aI aJ aK lo wr lU oU lL oL hv hlU hK2u hK2q hK2f=>?_) _ _ _ _ _ _ _ _ _ _ _ _ (cm hbu) bS (cm hK0) _ ac;have lt:=dz (b:=dB) am oV;have hU0n:=cA (b:=dB) am oU;rw[vU0,vV]at hv;rw[vV]at hlU;obtain⟨d1,d2⟩:=IG (p:=f) ac hv hU0n hlU;have q1:CT M (iR 236) [.sl bu 0 V.length 1 none] K2 ⟨bO bu (aS (U.take V.length)) none,K2,[]⟩:=oh (cap:=none) C.ft C.dV hK2u ac ac ac (fun _ h=>by cases h);have q2:CT M (iR 236) [.sl K.length 0 (a.length+1-(k+2)) 1 (some (a.length+1-(k+2)))] K2 ⟨bO K.length (aS (L.take (a.length+1-(k+2)))) (some (a.length+1-(k+2))),K2,[]⟩:=oh (cap:=some (a.length+1-(k+2))) C.ft C.dV hK2q ac ac ac (fun c hc=>by cases hc;exact aW _);have hm:=iJ (l:=U.take V.length);rw[b5]at hm;have hfrc:=ZO hK2u (m:=aS (U.take V.length)) ac;have vT:WV dB (U.take (aS (U.take V.length)))=WV dB U:=by
  rw[Ln,ve];have e1:=kP (b:=dB) (l:=U) (i:=V.length) ac;have l0:=cA (b:=dB) am (dL oU V.length);have l1:=cA (b:=dB) am (jd oU V.length);have hP:0<dB^V.length:=fF am;rcases dh 0 (WV dB (U.drop V.length)) with h|h
  . have:=az (show 1<=WV dB (U.drop V.length) by omega) (cN hP);rw[←vV]at hlU;omega
  . have z:WV dB (U.drop V.length)=0:=by omega
    rw[z,c6,dr]at e1;exact e1.symm
 obtain⟨R,oR,nR,vR,q294⟩:=C.DQ (bO bu (aS (U.take V.length)) none) (U.take (aS (U.take V.length))) none K2 f hfrc (dL oU _) (by rw[b5];omega) ⟨ac,ac⟩;have vR:WV dB R=WV dB a%WV dB b:=by rw[vR,vT,d2,Int.mul_ediv_cancel_left _ ac]
 repeat' first|(apply afg (r:=V.length) (k:=.i64);rfl;rfl;omega;omega;(intro c hc;cases hc))|(apply afb;rfl;rfl;rfl;exact q1)|(apply adQ;rfl;rfl;first|exact q1|exact q2)|(apply aeU (L:=[f]) (v:=f);rfl;exact hK2f;exact fM;rfl)|(apply adN;rfl;rfl;(first|(simp only[nca];rfl)|rfl);first|exact q294)|apply aaQ|apply aa|apply aaf|apply aad|apply abw|apply bJ|apply adr|apply adI|(apply adO;rfl)|(apply adJ;rfl;rfl;(first|(simp only[nca];rfl)|rfl))|(apply adP;rfl;rfl;omega)|(apply abh;rfl;rfl)|(apply abl;rfl;rfl)
 all_goals try omega
 have hout:=jB.mix (d1:=some (a.length+1-(k+2))) (b1:=K.length) (L1:=L) (R:=R) (e1:=3) (hp:=K2) (n1:=a.length+1-(k+2)) hK2q ac;refine⟨.inr rfl,rfl,_,rfl,_,_,?_,⟨oR,nR,vR⟩,hout⟩;rw[Ln,b7 (show L.length<=a.length+1-(k+2) by omega)];obtain⟨h1,h2,h3⟩:=od oL;exact⟨h1,h2,by rw[h3,d1]⟩
structure Lp (M:ax):Prop where
 ft:M.FT=FT
 ky:∀(a b:List Int),okW dB a->okW dB b->aR a->aR b->a.length<100000->b.length<100000->b≠[]->∃qv q rv r,cH qv q/\cH rv r/\okW dB r/\aR r/\WV dB q=WV dB a/WV dB b/\WV dB r=WV dB a%WV dB b/\∀h,M.ext 224 [.vs (ak a) a.length none,.vs (ak b) b.length none] h=some ⟨.ay [qv,rv],h,[]⟩
theorem ZR (C:Lp M)(a b:List Int)(oa:okW dB a)(ob:okW dB b)(na:aR a)(nb:aR b)(la:a.length<100000)(lb:b.length<100000) :
 ∃g,okW dB g/\aR g/\WV dB g=(ci (WV dB a) (WV dB b):Nat)/\de M 171 [.vs (ak a) a.length none,.vs (ak b) b.length none] (.vs (ak g) g.length none):=by
 obtain⟨v,hh,⟨g,og,ng,vg,ho⟩,hr⟩:=gS (M:=M) (f:=171) (ars:=[.vs (ak a) a.length none,.vs (ak b) b.length none]) (P:=fun v hh=>∃g,okW dB g/\aR g/\WV dB g=(ci (WV dB a) (WV dB b):Nat)/\dQ v hh (.vs (ak g) g.length none)) (by rw[C.ft];exact KP) aq (by
  unfold Dw;simp only[enter];repeat' first|apply aaQ|apply aa|apply aaf|apply aad|apply abI|(apply abl;rfl;rfl)
  refine W.gH (fun m st=>∃A B y a3 lo wr,st=⟨⟨[.vs (ak A) A.length none,y,.ab,a3],lo,[],[]⟩,wr⟩/\cH y B/\m=(WV dB B).toNat/\okW dB A/\aR A/\A.length<100000/\okW dB B/\aR B/\B.length<100000/\ci (WV dB A) (WV dB B)=ci (WV dB a) (WV dB b))
   (fun m st ⟨A,B,y,a3,lo,wr,hst,hy,hm,oA,nA,lA,oB,nB,lB,hg⟩=>?_) (m:=(WV dB b).toNat) ⟨a,b,_,_,_,_,rfl,.inl rfl,rfl,oa,na,la,ob,nb,lb,rfl⟩
  subst hst;by_cases hB:B=[]
  . subst hB;have hl0:([]:List Int).length=0:=rfl;have fin:dQ (aV [.vs (ak A) A.length none]) (if (aV [AV.vs (ak A) A.length none]).top<=0 then [] else []) (.vs (ak A) A.length none):=.same (fv A) (by rw[aV,bD,oe]);have hv:WV dB A=(ci (WV dB a) (WV dB b):Nat):=by
     rw[←hg];have:=cA (b:=dB) am oA;show WV dB A=(ci (WV dB A) 0:Nat);rw[n3];omega
    rcases hy with rfl|⟨rfl,_⟩;all_goals
    . unfold sI;repeat' first|apply aaQ|apply aa|apply aaf|apply aad|apply abw|apply acH|apply bN|apply bJ|apply cX|(apply abx;rfl)|(apply abV;rfl;rfl)|(apply abh;rfl;rfl)|(apply abl;rfl;rfl)|(intro _;omega)|intro _
      all_goals try omega
      all_goals exact⟨.inr rfl,rfl,_,rfl,A,oA,nA,hv,fin⟩
  . obtain rfl:y = .vs (ak B) B.length none:=hy.resolve_right fun h=>hB h.2
    have hBl:0<B.length:=cK.2 hB;have hBp:=(je (b:=dB) am oB nB).2 hB;have hA0:=cA (b:=dB) am oA;obtain⟨qv,q,rv,r,hq,hr,or_,nr,vq,vr,q224⟩:=C.ky A B oA oB nA nB lA lB hB;have r1:=c8 (WV dB A) hBp;have r0:=d9 (WV dB A) (show WV dB B≠0 by omega);have lr:r.length<=B.length:=gu (b:=dB) am or_ nr (Int.lt_trans (by rw[vr];exact r1) (dz am oB));have hg2:ci (WV dB B) (WV dB r)=ci (WV dB a) (WV dB b):=by
     rw[←hg,vr,Cu]
    unfold sI;repeat' first|apply aaQ|apply aa|apply aaf|apply aad|apply abI|apply abC|apply bE|(apply abz;rfl)|(apply abV;rfl;rfl)|(apply abJ;rfl;rfl;first|exact q224 _)|(apply abh;rfl;rfl)|(apply abl;rfl;rfl)|(intro _;omega)|intro _
    all_goals try omega
    all_goals exact cW ⟨(WV dB r).toNat,by rw[vr];omega,B,r,rv,_,_,_,rfl,hr,rfl,oB,nB,lB,or_,nr,ac,hg2⟩)
 exact⟨g,og,ng,vg,v,hh,ho,hr⟩
theorem Lr {g:List Int}(og:okW dB g)(ng:aR g):WV dB g=1↔g=[1]:=by
 constructor
 . intro h;have h1:=gu (b:=dB) am og ng (n:=1) (by rw[h];decide);match g,h1 with
   | [],_=>simp[WV]at h
   | [x],_=>simp[WV]at h;rw[h]
 . rintro rfl;rfl
def t104:ao:=
 .seq (
       zR [zm 37 3,
          zm 38 2,
          zL 39 38,
          zb 40 .lss 37 39,
          zn 41 40,
          zg (zm 42 2) 41 true,
          zg (zm 43 3) 41 true,
          zg (zc 44 .add 43 1) 41 true,
          ⟨(.l 45),.slice .str 1 (.l 42) (some (.l 44)) none none,some ((.l 41),true)⟩,
          zg (z1 46 169 45) 41 true,
          zg (zu 47 46) 41 true,
          zg (zn 48 47) 41 true,
          zg (zm 49 2) 48 false,
          zg (zm 50 3) 48 false,
          zg (zc 51 .add 50 1) 48 false,
          ⟨(.l 52),.slice .str 1 (.l 49) (some (.l 51)) none none,some ((.l 48),false)⟩,
          ⟨(.l 53),.bin .eql (.l 52) (.c (.str [48])),some ((.l 48),false)⟩,
          zg (zP 54 48 53) 41 true,
          zg (zn 55 54) 41 true,
          zg (zm 56 2) 55 false,
          zg (zm 57 3) 55 false,
          zg (zc 58 .add 57 1) 55 false,
          ⟨(.l 59),.slice .str 1 (.l 56) (some (.l 58)) none none,some ((.l 55),false)⟩,
          ⟨(.l 60),.bin .eql (.l 59) (.c (.str [49])),some ((.l 55),false)⟩,
          zg (zP 61 55 60) 41 true,
          zp 62 41 61]
        (
         .cond (.l 62)
         (
          zR [zi 1 1]
          (.ret))
         (.skip)))
       (
        .seq (zR [zm 63 3,
           zc 64 .gtr 63 600,
           zn 65 64,
           zg (zm 66 2) 65 false,
           zg (zL 67 66) 65 false,
           zg (zm 68 3) 65 false,
           zg (zb 69 .sub 67 68) 65 false,
           zg (zc 70 .sub 69 1) 65 false,
           zg (zc 71 .gtr 70 600) 65 false,
           zP 72 65 71]
         (
          .cond (.l 72)
          (
           zR [zi 1 4]
           (.ret))
          (.skip)))
        (
         .seq (zR [zm 73 3,
            zm 74 2,
            zL 75 74,
            zb 76 .lss 73 75]
          (
           .cond (.l 76)
           (
            zR [zm 78 2,
              z1 79 170 78,
              zn 77 79,
              ze 80 0 77,
              ze 81 1 77,
              ⟨(.p 4),.alloc 200 [.bool false,.ab],none⟩,
              ⟨(.p 5),.alloc 200 [.bool false,.ab],none⟩,
              zs 2 4 80,
              zs 2 5 81]
            (
             zR [zf 82 1 4,
               zd 83 1 82,
               zf 84 1 5,
               zd 85 1 84,
               z2 86 171 83 85,
               zw 6 86]
             (
              zR [zm 87 6,
                zl 88 87,
                zc 89 .neq 88 1,
                zn 90 89,
                zg (zm 91 6) 90 false,
                ⟨(.l 92),.eL none 1 (.l 91) (kI 0),some ((.l 90),false)⟩,
                zg (zd 93 1 92) 90 false,
                zg (zc 94 .neq 93 1) 90 false,
                zP 95 90 94]
              (
               .cond (.l 95)
               (
                zR [zi 1 1]
                (.ret))
               (.skip)))))
           (.skip)))
         (
          zR [zi 1 0]
          (.ret))))
structure DR (M:ax):Prop where
 ft:M.FT=FT
 sR:∀(s:aj) h,s.length<1000000->M.ext 152 [.str s] h=some ⟨.iV (cE s),h,[]⟩
 DS:∀(s:aj) h,s.length<1000000->M.ext 169 [.str s] h=some ⟨.bool (dR s),h,[]⟩
 qq:∀(s:aj),s.length<1000000->jA s=true->(bH 47 s).1.all bI=true->((bH 47 s).2.getD []).all bI=true->∃v1 v2,ji v1 (aL 0 (bH 47 s).1:Nat)/\ji v2 (aL 0 ((bH 47 s).2.getD []):Nat)/\∀h,M.ext 170 [.str s] h=some ⟨.ay [v1,v2],h,[]⟩
 qs:∀(a b:List Int),okW dB a->okW dB b->aR a->aR b->a.length<100000->b.length<100000->∃g,okW dB g/\aR g/\WV dB g=(ci (WV dB a) (WV dB b):Nat)/\∀h,M.ext 171 [.vs (ak a) a.length none,.vs (ak b) b.length none] h=some ⟨.vs (ak g) g.length none,h,[]⟩
theorem ji.pos {v:AV}{n:Nat}(h:ji v n):∃neg l,v = .agg [.bool neg,.vs (ak l) l.length none]/\okW dB l/\aR l/\WV dB l=n:=by
 obtain⟨neg,l,rfl,ok,nr,hz,hn⟩:=h;refine⟨neg,l,rfl,ok,nr,?_⟩;cases neg with
 | false=>exact hz.symm
 | true=>
  have:=(je (b:=dB) am ok nr).2 (hn rfl);simp at hz;omega
theorem ZS (C:DR M)(s u top bot:aj)(B:Bool)(lu:u.length<1000000)(htop:(bH 47 u).1=top)(hbot:(bH 47 u).2.getD []=bot)(hB:jA u=B)(dt:top.all bI=true)(a4 a5 a6:AV)(lo:List (Nat×AV))(wr:List Nat) :
 W M t104 ⟨⟨[.str s,.iV 0,.str u,.iV top.length,a4,a5,a6],lo,[],[]⟩,wr⟩ (Dn [.var (.p 1)] (if B=true/\(dR bot && decide (bot≠[48]) && decide (bot≠[49]))=false then 1 else if 600<top.length\/600<bot.length then 4 else if B=true/\fT (aL 0 top) (aL 0 bot)=true then 1 else 0)):=by
 have hs:cE u=top.length:=by rw[cE,htop]
 cases B with
 | false=>
  rw[if_neg aq];have hn:(bH 47 u).2=none:=by unfold jA at hB;cases h:(bH 47 u).2 with
    | none=>rfl
    | some y=>rw[h]at hB;cases hB
  have hul:u.length=top.length:=by rw[←htop,(mI hn).1]
  have hb0:bot=[]:=by rw[←hbot,hn];rfl
  subst hb0;have hl0:([]:aj).length=0:=rfl;by_cases h6:600<top.length\/600<([]:aj).length
  . rw[if_pos h6];unfold t104;repeat' first|apply aaQ|apply aa|apply aaf|apply aad|apply abw|apply abC|apply aU|(apply abz;rfl)|(apply abx;rfl)|(apply adu;rfl)|(apply adU;rfl)|(apply aej;rfl)|(apply abR;rfl;rfl)|(apply abV;rfl;rfl)|(apply aco;rfl;rfl)|(apply acw;rfl;rfl)|(apply abh;rfl;rfl)|(apply abl;rfl;rfl)|(intro _;omega)|intro _
    all_goals try omega
    all_goals exact iT (.inr rfl) rfl rfl rfl rfl
  . rw[if_neg h6,if_neg aq];unfold t104;repeat' first|apply aaQ|apply aa|apply aaf|apply aad|apply abw|apply abC|(apply abx;rfl)|(apply adb;rfl)|(apply adu;rfl)|(apply aej;rfl)|(apply abR;rfl;rfl)|(apply abV;rfl;rfl)|(apply acw;rfl;rfl)|(apply adj;rfl;rfl;omega)|(apply abh;rfl;rfl)|(apply abl;rfl;rfl)|(intro _;omega)|intro _
    all_goals try omega
    all_goals exact iT (.inr rfl) rfl rfl rfl rfl
 | true=>
  obtain⟨e1,e2,hk⟩:=Le hB;rw[hs,hbot]at e2;have hul:u.length=top.length+1+bot.length:=by
   unfold jA at hB;obtain⟨y,hy⟩:=kM.1 hB;have:=sr hy;rw[hy]at hbot;simp at hbot;rw[←htop,←hbot];exact this
  have e2':u.drop ((top.length:Int)+1).toNat=bot:=by rw[show ((top.length:Int)+1).toNat=top.length+1 by omega];exact e2
  have q169:=fun h=>C.DS bot h ac
  cases hC:dR bot with
  | false=>
   rw[if_pos ⟨rfl,rfl⟩];rw[hC]at q169;unfold t104;repeat' first|(apply adY (s:=u) (r:=bot);rfl;rfl;omega;exact e2')|apply aaQ|apply aa|apply aaf|apply aad|apply abw|apply aU|(apply abz;rfl)|(apply acF;rfl)|(apply adU;rfl)|(apply abR;rfl;rfl)|(apply aco;rfl;rfl)|(apply acS;rfl;rfl;omega)|(apply abJ;rfl;rfl;first|exact q169 _)|(apply abh;rfl;rfl)|(apply abl;rfl;rfl)|(intro _;omega)|intro _
   all_goals try omega
   all_goals exact iT (.inr rfl) rfl rfl rfl rfl
  | true=>
   rw[hC]at q169;by_cases h48:bot=[48]
   . rw[if_pos ⟨rfl,by rw[decide_eq_false (show ¬bot≠[48] from fun h=>h h48)];rfl⟩];unfold t104;repeat' first|(apply adY (s:=u) (r:=bot);rfl;rfl;omega;exact e2')|(apply adV;rfl;rfl;all_goals first|(intro h;exact absurd h48 h)|intro _)|apply aaQ|apply aa|apply aaf|apply aad|apply abw|apply aU|(apply abz;rfl)|(apply acF;rfl)|(apply adb;rfl)|(apply adU;rfl)|(apply abR;rfl;rfl)|(apply aco;rfl;rfl)|(apply acw;rfl;rfl)|(apply acS;rfl;rfl;omega)|(apply abJ;rfl;rfl;first|exact q169 _)|(apply abh;rfl;rfl)|(apply abl;rfl;rfl)|(intro _;omega)|intro _
     all_goals try omega
     all_goals exact iT (.inr rfl) rfl rfl rfl rfl
   . by_cases h49:bot=[49]
     . rw[if_pos ⟨rfl,by rw[decide_eq_true (show bot≠[48] from h48),decide_eq_false (show ¬bot≠[49] from fun h=>h h49)];rfl⟩];unfold t104;repeat' first|(apply adY (s:=u) (r:=bot);rfl;rfl;omega;exact e2')|(apply adV;rfl;rfl;all_goals first|(intro h;exact absurd h h48)|(intro h;exact absurd h49 h)|intro _)|apply aaQ|apply aa|apply aaf|apply aad|apply abw|apply aU|(apply abz;rfl)|(apply acF;rfl)|(apply adb;rfl)|(apply abR;rfl;rfl)|(apply aco;rfl;rfl)|(apply acw;rfl;rfl)|(apply acS;rfl;rfl;omega)|(apply abJ;rfl;rfl;first|exact q169 _)|(apply abh;rfl;rfl)|(apply abl;rfl;rfl)|(intro _;omega)|intro _
       all_goals try omega
       all_goals exact iT (.inr rfl) rfl rfl rfl rfl
     . rw[if_neg (by rw[decide_eq_true (show bot≠[48] from h48),decide_eq_true (show bot≠[49] from h49)];simp)];by_cases h6:600<top.length\/600<bot.length
       . rw[if_pos h6];unfold t104;repeat' first|(apply adY (s:=u) (r:=bot);rfl;rfl;omega;exact e2')|(apply adV;rfl;rfl;all_goals first|(intro h;exact absurd h h48)|(intro h;exact absurd h h49)|intro _)|apply aaQ|apply aa|apply aaf|apply aad|apply abw|apply abC|apply aU|(apply abz;rfl)|(apply abx;rfl)|(apply acF;rfl)|(apply adb;rfl)|(apply adU;rfl)|(apply abR;rfl;rfl)|(apply abV;rfl;rfl)|(apply aco;rfl;rfl)|(apply acw;rfl;rfl)|(apply acS;rfl;rfl;omega)|(apply adj;rfl;rfl;omega)|(apply abJ;rfl;rfl;first|exact q169 _)|(apply abh;rfl;rfl)|(apply abl;rfl;rfl)|(intro _;omega)|intro _
         all_goals try omega
         all_goals exact iT (.inr rfl) rfl rfl rfl rfl
       . rw[if_neg h6];have dbt:=(sy hC).2;obtain⟨v1,v2,k1,k2,q170⟩:=C.qq u lu hB (by rw[htop];exact dt) (by rw[hbot];exact dbt);rw[htop]at k1;rw[hbot]at k2;obtain⟨n1,l1,rfl,ok1,nr1,vl1⟩:=k1.pos;obtain⟨n2,l2,rfl,ok2,nr2,vl2⟩:=k2.pos;have len1:∀(t:aj) (l:List Int),t.all bI=true->okW dB l->aR l->WV dB l=(aL 0 t:Nat)->t.length<=600->l.length<100000:=fun t l ht ok nr hv hl6=>by
          have h1:=mF t ht;have h2:l.length<=t.length:=gu (b:=dB) am ok nr (by
           rw[hv];have h3:(aL 0 t:Int)<(10:Int)^t.length:=by exact_mod_cast h1
           have h4:∀n:Nat,(10:Int)^n<=dB^n:=by
            intro n;induction n with
            | zero=>decide
            | succ n ih=>
             rw[b8,b8];exact jN ih am am (Int.pow_nonneg am)
           have h5:=h4 t.length;omega)
          omega
         obtain⟨g,og,ng,vg,q171⟩:=C.qs l1 l2 ok1 ok2 nr1 nr2 (len1 top l1 dt ok1 nr1 vl1 ac) (len1 bot l2 dbt ok2 nr2 vl2 ac);rw[vl1,vl2]at vg;have hgn:(ci (aL 0 top:Nat) (aL 0 bot:Nat))=ja (aL 0 top) (aL 0 bot):=rfl;rw[hgn]at vg;have h1d:=Lr og ng;by_cases h1:g=[1]
         . have hc:fT (aL 0 top) (aL 0 bot)=false:=by
            have:=h1d.2 h1;rw[vg]at this;rw[fT,show ja (aL 0 top) (aL 0 bot)=1 by omega];rfl
           rw[if_neg (by rw[hc];simp)];subst h1;have hl1:([1]:List Int).length=1:=rfl;unfold t104;repeat' first|(apply adY (s:=u) (r:=bot);rfl;rfl;omega;exact e2')|(apply adV;rfl;rfl;all_goals first|(intro h;exact absurd h h48)|(intro h;exact absurd h h49)|intro _)|(apply aeg (L:=[1]) (m:=0) (v:=1);rfl;rfl;exact fM;rfl)|apply aaQ|apply aa|apply aaf|apply aad|apply abw|apply abC|(apply abz;rfl)|(apply abx;rfl)|(apply acF;rfl)|(apply adb;rfl)|(apply abR;rfl;rfl)|(apply abV;rfl;rfl)|(apply adf;rfl;rfl)|(apply aco;rfl;rfl)|(apply acw;rfl;rfl)|(apply acS;rfl;rfl;omega)|(apply adj;rfl;rfl;omega)|(apply abJ;rfl;rfl;first|exact q169 _|exact q170 _|exact q171 _)|(apply adp;rfl;rfl;omega)|(apply acn;rfl;rfl;rfl)|(apply abU;rfl;rfl;rfl)|(apply aea;rfl;rfl;rfl)|(apply abh;rfl;rfl)|(apply abl;rfl;rfl)|(intro _;omega)|intro _
           all_goals try omega
           all_goals exact iT (.inr rfl) rfl rfl rfl rfl
         . have hc:fT (aL 0 top) (aL 0 bot)=true:=by
            have:ja (aL 0 top) (aL 0 bot)≠1:=fun e=>h1 (h1d.1 (by rw[vg,e];rfl))
            rw[fT];simp[this]
           rw[if_pos ⟨rfl,hc⟩];by_cases hl1:g.length=1
           . obtain⟨x,rfl⟩:∃x,g=[x]:=by
              match g,hl1 with
              | [x],_=>exact⟨x,rfl⟩
             have hx:x≠1:=fun e=>h1 (by rw[e])
             unfold t104;repeat' first|(apply adY (s:=u) (r:=bot);rfl;rfl;omega;exact e2')|(apply adV;rfl;rfl;all_goals first|(intro h;exact absurd h h48)|(intro h;exact absurd h h49)|intro _)|(apply aeg (L:=[x]) (m:=0) (v:=x);rfl;rfl;exact fM;rfl)|apply aaQ|apply aa|apply aaf|apply aad|apply abw|apply abC|apply aU|(apply abz;rfl)|(apply abx;rfl)|(apply acF;rfl)|(apply adb;rfl)|(apply abR;rfl;rfl)|(apply abV;rfl;rfl)|(apply adf;rfl;rfl)|(apply aco;rfl;rfl)|(apply acw;rfl;rfl)|(apply acS;rfl;rfl;omega)|(apply adj;rfl;rfl;omega)|(apply abJ;rfl;rfl;first|exact q169 _|exact q170 _|exact q171 _)|(apply adp;rfl;rfl;omega)|(apply acn;rfl;rfl;rfl)|(apply abU;rfl;rfl;rfl)|(apply aea;rfl;rfl;rfl)|(apply abh;rfl;rfl)|(apply abl;rfl;rfl)|(intro _;omega)|intro _
             all_goals try omega
             all_goals exact iT (.inr rfl) rfl rfl rfl rfl
           . unfold t104;repeat' first|(apply adY (s:=u) (r:=bot);rfl;rfl;omega;exact e2')|(apply adV;rfl;rfl;all_goals first|(intro h;exact absurd h h48)|(intro h;exact absurd h h49)|intro _)|apply aaQ|apply aa|apply aaf|apply aad|apply abw|apply abC|apply aU|(apply abz;rfl)|(apply abx;rfl)|(apply acF;rfl)|(apply adb;rfl)|(apply adU;rfl)|(apply abR;rfl;rfl)|(apply abV;rfl;rfl)|(apply adf;rfl;rfl)|(apply aco;rfl;rfl)|(apply acw;rfl;rfl)|(apply acS;rfl;rfl;omega)|(apply adj;rfl;rfl;omega)|(apply abJ;rfl;rfl;first|exact q169 _|exact q170 _|exact q171 _)|(apply acn;rfl;rfl;rfl)|(apply abU;rfl;rfl;rfl)|(apply aea;rfl;rfl;rfl)|(apply abh;rfl;rfl)|(apply abl;rfl;rfl)|(intro _;omega)|intro _
             all_goals try omega
             all_goals exact iT (.inr rfl) rfl rfl rfl rfl
theorem ZT (C:DR M)(s:aj)(hl:s.length<1000000):bg M 104 [.str s] [] ⟨.iV (cO s),[],[]⟩:=by
 have hcl:=qi 45 s;have q152:=fun h=>C.sR (bL 45 s) h ac
 have hsl:=DA (bL 45 s);have etk:(bL 45 s).take ((cE (bL 45 s):Nat):Int).toNat=cY s:=by
  show (bL 45 s).take (bH 47 (bL 45 s)).1.length=(bH 47 (bL 45 s)).1;cases h:(bH 47 (bL 45 s)).2 with
  | none=>rw[(mI h).1,cV]
  | some y=>exact Dc h
 have htl:(cY s).length<=s.length:=Nat.le_trans (sA 47 _) hcl;have q169:=fun h=>C.DS (cY s) h ac
 have hsT:cE (bL 45 s)=(cY s).length:=rfl;have tl:=fun dt=>ZS C s (bL 45 s) (cY s) (dJ s) (im s) ac rfl rfl rfl dt
 rw[hsT]at q152 etk hsl;have hchk:cO s=if jh s=false then 1 else if 600<(cY s).length\/600<(dJ s).length then 4 else if im s=true/\fT (aL 0 (cY s)) (aL 0 (dJ s))=true then 1 else 0:=rfl
 have hform:jh s=(dR (cY s) && !(preB 45 s && decide (cY s=[48])) && (!im s || (dR (dJ s) && decide (dJ s≠[48]) && decide (dJ s≠[49])))):=rfl;have dA:=fun h=>(sy (s:=cY s) h)
 have hhd:preB 45 s=true->s[0]! = 45:=fun h=>by
  have h:=of_decide_eq_true h;cases s with
  | nil=>simp at h
  | cons c t=>simp at h;exact h
 have hnhd:preB 45 s=false->s≠[]->s[0]! ≠ 45:=fun h h0 e=>by
  have h:=of_decide_eq_false h;cases s with
  | nil=>exact h0 rfl
  | cons c t=>exact h (congrArg some e)
 have hne:cY s≠[]->s≠[]:=fun h e=>h (by rw[e];rfl)
 have hpc:=fun h=>ss (b:=45) (s:=s) h
 have hpn:=fun h=>jX (b:=45) (s:=s) h
 rw[hchk];clear hchk;generalize cY s=top at *
 generalize dJ s=bot at *
 generalize im s=B at *
 generalize bL 45 s=u at *
 have ei:s[(0:Int).toNat]! = s[0]! := rfl;refine bY (by rw[C.ft];exact YY) aq ?_;unfold KJ;simp only[enter];cases hP:preB 45 s with
 | true=>
  rw[hP]at hform;have h45:=hhd hP;obtain⟨hc1,hc2⟩:=hpc hP;have hc1:s.drop (1:Int).toNat=u:=hc1;have e45:((s[(0:Int).toNat]!).toNat:Int)=45:=by rw[ei,h45];rfl
  cases hA:dR top with
  | false=>
   rw[hA]at q169 hform;simp only[i5]at hform;rw[hform,if_pos rfl];repeat' first|(apply adY (s:=s) (r:=u);rfl;rfl;omega;exact hc1)|(apply aec (s:=u) (r:=top);rfl;rfl;omega;exact etk)|apply aaQ|apply aa|apply aaf|apply aad|apply abw|apply aU|(apply abz;rfl)|(apply acF;rfl)|(apply adU;rfl)|(apply aej;rfl)|(apply abV;rfl;rfl)|(apply acR;rfl;rfl)|(apply aco;rfl;rfl)|(apply abJ;rfl;rfl;first|exact q152 _|exact q169 _)|(apply adT;rfl;rfl;omega)|(apply abh;rfl;rfl)|(apply abl;rfl;rfl)|(intro _;omega)|intro _
   all_goals try omega
   all_goals exact⟨.inr rfl,rfl,_,rfl,rfl,rfl⟩
  | true=>
   rw[hA]at q169 hform;simp only[ne]at hform;obtain⟨d1,d2⟩:=dA hA;have tl:=tl d2;by_cases hz:top=[48]
   . rw[decide_eq_true hz]at hform;simp only[Bool.not_true,i5]at hform;rw[hform,if_pos rfl];repeat' first|(apply adY (s:=s) (r:=u);rfl;rfl;omega;exact hc1)|(apply aec (s:=u) (r:=top);rfl;rfl;omega;exact etk)|(apply adV;rfl;rfl;all_goals first|(intro h;exact absurd hz h)|intro _)|apply aaQ|apply aa|apply aaf|apply aad|apply abw|apply aU|(apply abz;rfl)|(apply acF;rfl)|(apply adb;rfl)|(apply abV;rfl;rfl)|(apply acR;rfl;rfl)|(apply aco;rfl;rfl)|(apply acw;rfl;rfl)|(apply abJ;rfl;rfl;first|exact q152 _|exact q169 _)|(apply adT;rfl;rfl;omega)|(apply abh;rfl;rfl)|(apply abl;rfl;rfl)|(intro _;omega)|intro _
     all_goals try omega
     all_goals exact⟨.inr rfl,rfl,_,rfl,rfl,rfl⟩
   . rw[decide_eq_false hz]at hform;simp only[p9,ne]at hform;have hres:(if B=true/\(dR bot && decide (bot≠[48]) && decide (bot≠[49]))=false then 1 else if 600<top.length\/600<bot.length then 4 else if B=true/\fT (aL 0 top) (aL 0 bot)=true then (1:Int) else 0)=(if jh s=false then 1 else if 600<top.length\/600<bot.length then 4 else if B=true/\fT (aL 0 top) (aL 0 bot)=true then 1 else 0):=by
      rw[hform];cases B with
      | false=>simp
      | true=>simp
     rw[hres]at tl;repeat' first|(exact tl _ _ _ _ _)|(apply adY (s:=s) (r:=u);rfl;rfl;omega;exact hc1)|(apply aec (s:=u) (r:=top);rfl;rfl;omega;exact etk)|(apply adV;rfl;rfl;all_goals first|(intro h;exact absurd h hz)|intro _)|apply aaQ|apply aa|apply aaf|apply aad|apply abC|(apply abz;rfl)|(apply abx;rfl)|(apply acF;rfl)|(apply adb;rfl)|(apply abV;rfl;rfl)|(apply acR;rfl;rfl)|(apply aco;rfl;rfl)|(apply acw;rfl;rfl)|(apply abJ;rfl;rfl;first|exact q152 _|exact q169 _)|(apply adT;rfl;rfl;omega)|(apply abh;rfl;rfl)|(apply abl;rfl;rfl)|(intro _;omega)|intro _
     all_goals try omega
 | false=>
  rw[hP]at hform;obtain rfl:u=s:=hpn hP;simp only[i5,p9,Bool.and_true]at hform;by_cases h0:u=[]
  . have hA:dR top=false:=by
     cases h:dR top with
     | false=>rfl
     | true=>exact absurd h0 (hne (dA h).1)
    rw[hA]at q169 hform;simp only[i5]at hform;rw[hform,if_pos rfl];have hu0:u.length=0:=by rw[h0];rfl
    repeat' first|(apply aec (s:=u) (r:=top);rfl;rfl;omega;exact etk)|apply aaQ|apply aa|apply aaf|apply aad|apply abw|apply abC|apply aU|(apply abz;rfl)|(apply abx;rfl)|(apply adu;rfl)|(apply adU;rfl)|(apply aej;rfl)|(apply abV;rfl;rfl)|(apply aco;rfl;rfl)|(apply acw;rfl;rfl)|(apply abJ;rfl;rfl;first|exact q152 _|exact q169 _)|(apply abh;rfl;rfl)|(apply abl;rfl;rfl)|(intro _;omega)|intro _
    all_goals try omega
    all_goals exact⟨.inr rfl,rfl,_,rfl,rfl,rfl⟩
  . have hpos:0<u.length:=cK.2 h0;have h45:=hnhd hP h0;have e45:((u[(0:Int).toNat]!).toNat:Int)≠45:=fun e=>h45 (m5.1 (by rw[ei]at e;have:(45:UInt8).toNat=45:=rfl;omega))
    cases hA:dR top with
    | false=>
     rw[hA]at q169 hform;simp only[i5]at hform;rw[hform,if_pos rfl];repeat' first|(apply aec (s:=u) (r:=top);rfl;rfl;omega;exact etk)|apply aaQ|apply aa|apply aaf|apply aad|apply abw|apply abC|apply aU|(apply abz;rfl)|(apply abx;rfl)|(apply acF;rfl)|(apply adU;rfl)|(apply aej;rfl)|(apply abV;rfl;rfl)|(apply acR;rfl;rfl)|(apply aco;rfl;rfl)|(apply abJ;rfl;rfl;first|exact q152 _|exact q169 _)|(apply adT;rfl;rfl;omega)|(apply abh;rfl;rfl)|(apply abl;rfl;rfl)|(intro _;omega)|intro _
     all_goals try omega
     all_goals exact⟨.inr rfl,rfl,_,rfl,rfl,rfl⟩
    | true=>
     rw[hA]at q169 hform;simp only[ne]at hform;obtain⟨d1,d2⟩:=dA hA;have tl:=tl d2;have hres:(if B=true/\(dR bot && decide (bot≠[48]) && decide (bot≠[49]))=false then 1 else if 600<top.length\/600<bot.length then 4 else if B=true/\fT (aL 0 top) (aL 0 bot)=true then (1:Int) else 0)=(if jh u=false then 1 else if 600<top.length\/600<bot.length then 4 else if B=true/\fT (aL 0 top) (aL 0 bot)=true then 1 else 0):=by
      rw[hform];cases B with
      | false=>simp
      | true=>simp
     rw[hres]at tl;repeat' first|(exact tl _ _ _ _ _)|(apply aec (s:=u) (r:=top);rfl;rfl;omega;exact etk)|apply aaQ|apply aa|apply aaf|apply aad|apply abC|(apply abx;rfl)|(apply acF;rfl)|(apply adb;rfl)|(apply adu;rfl)|(apply abV;rfl;rfl)|(apply acR;rfl;rfl)|(apply aco;rfl;rfl)|(apply acw;rfl;rfl)|(apply abJ;rfl;rfl;first|exact q152 _|exact q169 _)|(apply adT;rfl;rfl;omega)|(apply abh;rfl;rfl)|(apply abl;rfl;rfl)|(intro _;omega)|intro _
     all_goals try omega
open Go.Proofs
variable {T:List (Nat×Spec)}
noncomputable def qt:Spec:=sK [] 152
noncomputable def DT:Spec:=sK [] 223
noncomputable def DU:Spec:=sK [(223,DT)] 169
noncomputable def xI:Spec:=sK [] 232
theorem xJ:ba Tryz.prog gl 152 qt:=bG bP
theorem ZU:ba Tryz.prog gl 223 DT:=bG bP
theorem ZV:ba Tryz.prog gl 169 DU:=bG (aT ZU bP)
theorem Ls:ba Tryz.prog gl 232 xI:=bG bP
theorem xK:∀(s:aj) h,s.length<1000000->qt [.str s] h=some ⟨.iV (cE s),h,[]⟩:=fun s h hl=>cz (Zj bF s hl) rfl rfl rfl h
theorem ZW:∀(s:aj) h,s.length<1000000->DU [.str s] h=some ⟨.bool (dR s),h,[]⟩:=fun s h hl=>
 cz (Zl (M:=bx Tryz.prog FT [(223,DT)]) bF s hl fun h=>cz (Zk bF s hl) rfl rfl rfl h) rfl rfl rfl h
theorem Lt:∀(s:aj) h,s.length<=18->s.all bI=true->xI [.str s] h=some ⟨.iV (aL 0 s:Nat),h,[]⟩:=fun s h hl hd=>cz (Zn bF s hl hd) rfl rfl rfl h
noncomputable def Lu:List (Nat×Spec):=[(232,xI)]
theorem ZX:DH (bx Tryz.prog FT Lu) where
 ft:=bF
 dV:=fun _ _=>rfl
 sO:=fun _ _=>rfl
 ou:=fun s h hl hd=>Lt s h hl hd
noncomputable def xL:Spec:=sK Lu 178
theorem Lv:ba Tryz.prog gl 178 xL:=bG (aT Ls bP)
theorem xM:∀(s:aj),s.length<1000000->(bL 45 s).all bI=true->∃v0,ji v0 (if preB 45 s then -(aL 0 (bL 45 s):Int) else (aL 0 (bL 45 s):Nat))/\∀h,xL [.str s] h=some ⟨v0,h,[]⟩:=fun s hl hd=>by
 obtain⟨v0,h1,h2⟩:=Zu ZX s hl hd;exact⟨v0,h1,dM h2 rfl⟩
noncomputable def Lw:List (Nat×Spec):=[(152,qt),(178,xL)]
noncomputable def DV:Spec:=sK Lw 170
theorem ZY:ba Tryz.prog gl 170 DV:=bG (aT xJ (aT Lv bP))
theorem DW {s:aj}(h:s.all bI=true):preB 45 s=false/\bL 45 s=s:=by
 have hp:preB 45 s=false:=by
  cases s with
  | nil=>rfl
  | cons c t=>
   rw[f7,ib]at h;unfold preB;rw[decide_eq_false_iff_not];intro e;simp at e;rw[e]at h;exact absurd h.1 am
 exact⟨hp,jX hp⟩
theorem ZZ:∀(s:aj),s.length<1000000->jA s=true->(bH 47 s).1.all bI=true->((bH 47 s).2.getD []).all bI=true->∃v1 v2,ji v1 (aL 0 (bH 47 s).1:Nat)/\ji v2 (aL 0 ((bH 47 s).2.getD []):Nat)/\∀h,DV [.str s] h=some ⟨.ay [v1,v2],h,[]⟩:=fun s hl hb h1 h2=>by
 obtain⟨p1,c1⟩:=DW h1;obtain⟨p2,c2⟩:=DW h2;obtain⟨v1,k1,q1⟩:=xM (bH 47 s).1 (ip (sA 47 s) hl) (by rw[c1];exact h1);obtain⟨v2,k2,q2⟩:=xM ((bH 47 s).2.getD []) (ip (Dm 47 s) hl) (by rw[c2];exact h2);rw[p1,c1,if_neg am]at k1;rw[p2,c2,if_neg am]at k2;exact⟨v1,v2,k1,k2,dM (Lf (M:=bx Tryz.prog FT Lw) bF s hl hb (fun h=>xK s h hl) k1.sN k2.sN q1 q2) rfl⟩
theorem xN {h:ae}(l:List Int){n:Nat}{c:Option Nat}:dv h (.vs (ak l) n c) (.vs (ak l) n c):=.pF (DO l)
noncomputable def xO:Spec:=sL [] 255
noncomputable def Lx:Spec:=sL [] 294
noncomputable def DX:Spec:=sL [] 257
noncomputable def Ly:Spec:=sL [] 295
theorem Lz:ba Tryz.prog gl 255 xO:=jv bP
theorem aaa:ba Tryz.prog gl 294 Lx:=jv bP
theorem LA:ba Tryz.prog gl 257 DX:=jv bP
theorem aab:ba Tryz.prog gl 295 Ly:=jv bP
noncomputable def xP:List (Nat×Spec):=[(255,xO),(257,DX),(294,Lx),(295,Ly)]
theorem aac:cB Tryz.prog gl (bB xP):=aT Lz (aT LA (aT aaa (aT aab bP)))
theorem LB:Lm (bx Tryz.prog FT xP) where
 ft:=bF
 dV:=fun _ _=>rfl
 Ll:=fun U V bu i k cu c2 e h T D p hb hV hi hU hK=>by
  obtain⟨q,h1,h2,h3,hr⟩:=ZA (M:=bx Tryz.prog FT []) (c1:=none) (c2:=c2) bF hV hi hU hK rfl rfl rfl rfl rfl;refine⟨q,h1,h2,h3,?_⟩;have hf:dv h (.sl bu 0 U.length 1 cu) (.vs (ak U) U.length none):=by
   refine .sl (m:=ak U) hb ?_ rfl (DO U).2;have:=kO (f:=iC) (esz:=1) (fun _=>rfl) (l:=U) (i:=0) (n:=U.length) ac;simpa using this
  exact pJ hr rfl rfl rfl (.cons hf (.cons (xN V) (.cons (.atom rfl) .nil)))
 sQ:=fun a b c1 c2 h o1 o2 n1 n2 l1 l2=>pJ (Lg bF a b o1 o2 n1 n2 l1 l2) rfl rfl rfl (.cons (xN a) (.cons (xN b) .nil))
 qp:=fun x y a b c1 c2 h hx hy o1 o2 l1 l2 h0=>by
  obtain⟨r,⟨h1,h2,h3⟩,v,hh,⟨v1,f,t,k⟩,hr⟩:=Lj (M:=bx Tryz.prog FT []) (c1:=c1) (c2:=c2) bF (fun _ _=>rfl) a b o1 o2 l1 l2 h0;exact⟨r,h1,h2,h3,ml (.cons hx (.cons hy .nil)) ⟨v,hh,v1,hr,f,t,k⟩⟩
 DQ:=fun x a c h d hx o l hd=>by
  obtain⟨q,⟨h1,h2,h3⟩,v,hh,⟨v1,f,t,k⟩,hr⟩:=Zx (M:=bx Tryz.prog FT []) (c1:=c) bF (fun _ _=>rfl) a o l d hd;exact⟨q,h1,h2,h3,ml (.cons hx (.cons (.atom rfl) .nil)) ⟨v,hh,v1,hr,f,t,k⟩⟩
noncomputable def qu:Spec:=sK xP 224
theorem LC:ba Tryz.prog gl 224 qu:=bG aac
theorem cCm:Lp (bx Tryz.prog FT [(224,qu)]) where
 ft:=bF
 ky:=fun a b o1 o2 n1 n2 l1 l2 hb=>by
  obtain⟨q,r,⟨h1,h2,h3⟩,⟨h4,h5,h6⟩,v,hh,⟨v1,x,y,f,t,k,i1,i2⟩,hr⟩:=Lo (c1:=none) (c2:=none) LB a b o1 o2 n1 n2 l1 l2 hb;exact⟨x,q,y,r,i1,i2,h4,h5,h3,h6,fun h=>rD ⟨v,hh,v1,hr,f,fy (fv a) (fv b),t,k⟩⟩
noncomputable def xQ:Spec:=sK [(224,qu)] 171
theorem LD:ba Tryz.prog gl 171 xQ:=bG (aT LC bP)
noncomputable def DY:List (Nat×Spec):=[(152,qt),(169,DU),(170,DV),(171,xQ)]
theorem aae:cB Tryz.prog gl (bB DY):=aT xJ (aT ZV (aT ZY (aT LD bP)))
theorem cCh:DR (bx Tryz.prog FT DY) where
 ft:=bF
 sR:=fun s h hl=>xK s h hl
 DS:=fun s h hl=>ZW s h hl
 qq:=fun s hl hb h1 h2=>ZZ s hl hb h1 h2
 qs:=fun a b o1 o2 n1 n2 l1 l2=>by
  obtain⟨g,h1,h2,h3,h4⟩:=ZR cCm a b o1 o2 n1 n2 l1 l2;exact⟨g,h1,h2,h3,dM h4 (fy (fv a) (fv b))⟩
noncomputable def xR:Spec:=sK DY 104
theorem aag:ba Tryz.prog gl 104 xR:=bG aae
theorem LF:∀(s:aj) h,s.length<1000000->xR [.str s] h=some ⟨.iV (cO s),h,[]⟩:=fun s h hl=>cz (ZT cCh s hl) rfl rfl rfl h
set_option maxRecDepth 1000000
def DZ:ao:=.seq (zR [zm 9 5,zm 10 0,zl 11 10,zb 12 .lss 9 11,zn 13 12,zg (zm 14 5) 13 false,zg (zm 15 1) 13 false,zg (zl 16 15) 13 false,zg (zb 17 .lss 14 16) 13 false,zP 18 13 17,zn 19 18,zg (zm 20 4) 19 false,zg (zc 21 .gtr 20 0) 19 false,zP 22 19 21] (.cond (.l 22) (.skip) (.exit 0))) (.seq (.block 1 (zR [zm 25 0,zm 26 5,z2 27 300 25 26,zm 28 1,zm 29 5,z2 30 300 28 29,zb 31 .add 27 30,zm 32 4,zb 33 .add 31 32,zw 6 33] (zR [zm 34 3,zm 35 6,zc 36 .rem 35 1000000000,⟨.l 37,.dX 3 1 1 [.iV (0)] [(0,1,(.l 36))],none⟩,⟨.l 38,.append 3 1 8 (.l 34) (.l 37),none⟩,zw 3 38] (.region [zm 39 6,zc 40 .quo 39 1000000000,zw 4 40])))) (.region [zm 23 5,zc 24 .add 23 1,zw 5 24]))
def LG:ao:=zR [⟨.p 2,.mv (.c (.ab)),none⟩] (zR [⟨.p 3,.mv (.c (.ab)),none⟩] (zR [zi 4 0] (.seq (zR [zi 5 0] (.block 0 (.loop DZ))) (zR [zm 41 3,zw 2 41] (.ret)))))
theorem aah:FT 233=some ⟨42,[0,1,4,5,6,7,8],[.var (.p 2)],LG⟩:=by kernel_rfl
def qw:ao:=.seq (zR [zm 9 5,zm 10 0,zl 11 10,zb 12 .lss 9 11] (.cond (.l 12) (.skip) (.exit 0))) (.seq (.block 1 (.seq (.draw [(zm 15 0,[]),(zm 16 5,[0]),(za 17 1 15 16,[]),(zd 18 1 17,[]),(zm 19 1,[0,1,2,3]),(zm 20 5,[0,1,2,3,4]),(z2 21 300 19 20,[0,1,2,3]),(zb 22 .sub 18 21,[]),(zm 23 4,[0,1,2,3,4,5,6,7]),(zb 24 .sub 22 23,[]),(zw 6 24,[])]) (zR [zi 4 0] (.seq (zR [zm 25 6,zc 26 .lss 25 0] (.cond (.l 26) (zR [zm 27 6,zc 28 .add 27 1000000000,zw 6 28] (.region [zi 4 1])) (.skip))) (.region [zm 29 3,zm 30 6,⟨.l 31,.dX 3 1 1 [.iV (0)] [(0,1,(.l 30))],none⟩,⟨.l 32,.append 3 1 8 (.l 29) (.l 31),none⟩,zw 3 32]))))) (.region [zm 13 5,zc 14 .add 13 1,zw 5 14]))
def LH:ao:=zR [⟨.p 2,.mv (.c (.ab)),none⟩] (zR [⟨.p 3,.mv (.c (.ab)),none⟩] (zR [zi 4 0] (.seq (zR [zi 5 0] (.block 0 (.loop qw))) (zR [zm 33 3,z1 34 236 33,zw 2 34] (.ret)))))
theorem aai:FT 256=some ⟨35,[0,1,4,5,6,7,8],[.var (.p 2)],LH⟩:=by kernel_rfl
def LJ:ao:=zR [zx 2 200 2 0,zx 3 200 2 1,⟨.p 4,.alloc 200 [.bool false,.ab],none⟩] (.seq (zR [zf 5 0 2,zd 6 1 5,zf 7 0 3,zd 8 1 7,⟨.l 9,.eq false .bool (.l 6) (.l 8),none⟩] (.cond (.l 9) (.seq (.draw [(zf 10 0 2,[]),(zd 11 1 10,[]),(zf 12 1 2,[0,1]),(zd 13 1 12,[0,1]),(zf 14 1 3,[0,1,2,3]),(zd 15 1 14,[0,1,2,3]),(z2 16 233 13 15,[0,1]),(z2 17 183 11 16,[]),(zs 2 4 17,[])]) (.ret)) (.skip))) (.seq (zR [zf 18 1 2,zd 19 1 18,zf 20 1 3,zd 21 1 20,z2 22 255 19 21,zc 23 .geq 22 0] (.cond (.l 23) (.seq (.draw [(zf 24 0 2,[]),(zd 25 1 24,[]),(zf 26 1 2,[0,1]),(zd 27 1 26,[0,1]),(zf 28 1 3,[0,1,2,3]),(zd 29 1 28,[0,1,2,3]),(z2 30 256 27 29,[0,1]),(z2 31 183 25 30,[]),(zs 2 4 31,[])]) (.ret)) (.skip))) (.seq (.draw [(zf 32 0 3,[]),(zd 33 1 32,[]),(zf 34 1 3,[0,1]),(zd 35 1 34,[0,1]),(zf 36 1 2,[0,1,2,3]),(zd 37 1 36,[0,1,2,3]),(z2 38 256 35 37,[0,1]),(z2 39 183 33 38,[]),(zs 2 4 39,[])]) (.ret))))
theorem aaj:FT 193=some ⟨40,[0,1,2,3,4],[.cell 2 true (.p 4)],LJ⟩:=by kernel_rfl
def LK:ao:=zR [zx 1 200 2 0,⟨.p 2,.alloc 200 [.bool false,.ab],none⟩] (zR [zf 3 0 1,zd 4 1 3,zu 5 4,zf 6 1 1,zd 7 1 6,z2 8 183 5 7,zs 2 2 8] (.ret))
theorem aak:FT 254=some ⟨9,[0,1,2],[.cell 2 true (.p 2)],LK⟩:=by kernel_rfl
def LL:ao:=zR [zx 2 200 2 0,zx 3 200 2 1,⟨.p 4,.alloc 200 [.bool false,.ab],none⟩] (.seq (.draw [(zf 5 0 2,[]),(zd 6 1 5,[]),(zf 7 0 3,[0,1]),(zd 8 1 7,[0,1]),(⟨.l 9,.eq true .bool (.l 6) (.l 8),none⟩,[]),(zf 10 1 2,[0,1,2,3,4]),(zd 11 1 10,[0,1,2,3,4]),(zf 12 1 3,[0,1,2,3,4,5,6]),(zd 13 1 12,[0,1,2,3,4,5,6]),(z2 14 257 11 13,[0,1,2,3,4]),(z2 15 183 9 14,[]),(zs 2 4 15,[])]) (.ret))
theorem aal:FT 194=some ⟨16,[0,1,2,3,4],[.cell 2 true (.p 4)],LL⟩:=by kernel_rfl
def LM:ao:=.seq (zR [zm 5 1,zc 6 .gtr 5 0] (.cond (.l 6) (.skip) (.exit 0))) (.block 1 (.draw [(zm 7 1,[]),(zm 8 0,[0]),(zm 9 1,[0,1]),(zb 10 .rem 8 9,[0]),(zw 0 7,[2,3]),(zw 1 10,[])]))
def LN:ao:=zR [zi 2 0] (.seq (.block 0 (.loop LM)) (zR [zm 11 0,zw 2 11] (.ret)))
theorem aam:FT 202=some ⟨12,[0,1,4],[.var (.p 2)],LN⟩:=by kernel_rfl
def Ea:ao:=.seq (zR [zm 6 0,zc 7 .gtr 6 0,zn 8 7,zg (zm 9 3) 8 false,zg (zL 10 9) 8 false,zg (zm 11 1) 8 false,zg (zb 12 .lss 10 11) 8 false,zP 13 8 12] (.cond (.l 13) (.skip) (.exit 0))) (.block 1 (zR [zm 14 0,zc 15 .rem 14 10,zm 16 0,zc 17 .rem 16 10,zc 18 .add 17 1,⟨.l 19,.slice .str 1 (.c (.str zD2)) (some (.l 15)) (some (.l 18)) none,none⟩,zm 20 3,zb 21 .add 19 20,zw 3 21] (.region [zm 22 0,zc 23 .quo 22 10,zw 0 23])))
def LO:ao:=zR [⟨.p 2,.mv (.c (.str [])),none⟩] (zR [⟨.p 3,.mv (.c (.str [])),none⟩] (.seq (.block 0 (.loop Ea)) (zR [zm 24 3,zw 2 24] (.ret))))
theorem aan:FT 182=some ⟨25,[0,1,4,5],[.var (.p 2)],LO⟩:=by kernel_rfl
def xS:ao:=.seq (zR [zm 22 4,zc 23 .geq 22 0] (.cond (.l 23) (.skip) (.exit 0))) (.seq (.block 1 (.region [zm 26 3,zf 27 1 1,zd 28 1 27,zm 29 4,za 30 1 28 29,zd 31 1 30,⟨.l 32,.call (kF 182) [(.l 31),(kI 9)],none⟩,zb 33 .add 26 32,zw 3 33])) (.region [zm 24 4,zc 25 .sub 24 1,zw 4 25]))
def Eb:ao:=zR [zx 1 200 2 0,⟨.p 2,.mv (.c (.str [])),none⟩] (.seq (zR [zf 5 1 1,zd 6 1 5,zl 7 6,zc 8 .eql 7 0] (.cond (.l 8) (zR [⟨.p 2,.mv (.c (.str [48])),none⟩] (.ret)) (.skip))) (zR [zf 9 1 1,zd 10 1 9,zf 11 1 1,zd 12 1 11,zl 13 12,zc 14 .sub 13 1,za 15 1 10 14,zd 16 1 15,⟨.l 17,.call (kF 182) [(.l 16),(kI 1)],none⟩,zw 3 17] (.seq (zR [zf 18 1 1,zd 19 1 18,zl 20 19,zc 21 .sub 20 2,zw 4 21] (.block 0 (.loop xS))) (.seq (zR [zf 34 0 1,zd 35 1 34] (.cond (.l 35) (zR [zm 36 3,⟨.l 37,.bin .add (.c (.str [45])) (.l 36),none⟩,zw 2 37] (.ret)) (.skip))) (zR [zm 38 3,zw 2 38] (.ret))))))
theorem LP:FT 129=some ⟨39,[0,1,2,3,4],[.var (.p 2)],Eb⟩:=by kernel_rfl
def t191:ao:=zR [zm 25 4,z1 26 152 25,zw 6 26] (.seq (zR [zm 27 6,zc 28 .gtr 27 9,zn 29 28,zg (zm 30 4) 29 false,zg (zL 31 30) 29 false,zg (zm 32 6) 29 false,zg (zb 33 .sub 31 32) 29 false,zg (zc 34 .gtr 33 10) 29 false,zP 35 29 34] (.cond (.l 35) (zR [zi 1 0,zi 2 0,⟨.p 3,.mv (.c (.bool false)),none⟩] (.ret)) (.skip))) (zR [zm 36 4,zm 37 6,⟨.l 38,.slice .str 1 (.l 36) none (some (.l 37)) none,none⟩,z1 39 232 38,zw 7 39,zi 8 1] (.seq (zR [zm 40 6,zm 41 4,zL 42 41,zb 43 .lss 40 42] (.cond (.l 43) (.region [zm 44 4,zm 45 6,zc 46 .add 45 1,⟨.l 47,.slice .str 1 (.l 44) (some (.l 46)) none none,none⟩,z1 48 232 47,zw 8 48]) (.skip))) (.seq (zR [zm 49 5] (.cond (.l 49) (.region [zm 50 7,⟨.l 51,.bin .sub (kI 0) (.l 50),none⟩,zw 7 51]) (.skip))) (zR [zm 52 7,zm 53 8,zw 1 52,zw 2 53,⟨.p 3,.mv (.c (.bool true)),none⟩] (.ret))))))
def xT:ao:=zR [zi 1 0,zi 2 0,⟨.p 3,.mv (.c (.bool false)),none⟩] (zR [zm 10 0,zw 4 10] (.seq (zR [zm 11 4,zL 12 11,zc 13 .gtr 12 20] (.cond (.l 13) (zR [zi 1 0,zi 2 0,⟨.p 3,.mv (.c (.bool false)),none⟩] (.ret)) (.skip))) (zR [zm 14 4,zL 15 14,zc 16 .gtr 15 0,zn 17 16,zg (zm 18 4) 17 true,⟨.l 19,.index (.l 18) (kI 0),some ((.l 17),true)⟩,⟨.l 20,.bin .eql (.l 19) (.c (.int .u8 (45))),some ((.l 17),true)⟩,zp 21 17 20,zw 5 21] (.seq (zR [zm 22 5] (.cond (.l 22) (.region [zm 23 4,⟨.l 24,.slice .str 1 (.l 23) (some (kI 1)) none none,none⟩,zw 4 24]) (.skip)))
      t191))))
theorem LR:FT 191=some ⟨54,[0,2,3,4,5,6,7,8,9],[.var (.p 1),.var (.p 2),.var (.p 3)],xT⟩:=by kernel_rfl
def t192:ao:=zR [zf 17 1 2,zd 18 1 17,zf 19 1 3,zd 20 1 19,z2 21 171 18 20,zw 5 21] (zR [zf 23 1 2,zd 24 1 23,zm 25 5,z2 26 224 24 25,zn 22 26,ze 27 0 22,ze 28 1 22,zw 6 27,zn 7 28] (zR [zf 30 1 3,zd 31 1 30,zm 32 5,z2 33 224 31 32,zn 29 33,ze 34 0 29,ze 35 1 29,zw 7 34,zn 9 35] (zR [zf 36 0 2,zd 37 1 36,zm 38 6,z2 39 183 37 38,z1 40 129 39,zw 8 40] (.seq (zR [zm 41 7,zl 42 41,zc 43 .eql 42 1,zn 44 43,zg (zm 45 7) 44 true,⟨.l 46,.eL none 1 (.l 45) (kI 0),some ((.l 44),true)⟩,zg (zd 47 1 46) 44 true,zg (zc 48 .eql 47 1) 44 true,zp 49 44 48] (.cond (.l 49) (zR [zm 50 8,zw 4 50] (.ret)) (.skip))) (zR [zm 51 8,⟨.l 52,.bin .add (.l 51) (.c (.str [47])),none⟩,zm 53 7,⟨.l 54,.call (kF 183) [(.c (.bool false)),(.l 53)],none⟩,z1 55 129 54,zb 56 .add 52 55,zw 4 56] (.ret))))))
def Ec:ao:=zR [zx 2 200 2 0,zx 3 200 2 1,⟨.p 4,.mv (.c (.str [])),none⟩] (.seq (zR [zf 11 0 3,zd 12 1 11] (.cond (.l 12) (.draw [(zt 13 2 2,[]),(z1 14 254 13,[]),(zt 15 2 3,[0,1]),(z1 16 254 15,[]),(zs 2 2 14,[]),(zs 2 3 16,[])]) (.skip)))
   t192)
theorem aao:FT 192=some ⟨57,[0,1,2,3,4,5,6,8,10],[.var (.p 4)],Ec⟩:=by kernel_rfl
def LS:ao:=zR [⟨.p 1,.mv (.c (.str [])),none⟩] (zR [zm 3 0,z1 4 130 3,z1 5 129 4,zw 1 5] (.ret))
theorem aap:FT 49=some ⟨6,[0,2],[.var (.p 1)],LS⟩:=by kernel_rfl
def t149:ao:=zR [zm 32 0,zm 33 0,⟨.l 34,.bin .sub (kI 0) (.l 33),none⟩,⟨.l 35,.mm true [(.l 32),(.l 34)],none⟩,zm 36 1,z2 37 202 35 36,zw 3 37] (.seq (.draw [(zm 38 0,[]),(zm 39 3,[0]),(zb 40 .quo 38 39,[]),(zm 41 1,[0,1,2]),(zm 42 3,[0,1,2,3]),(zb 43 .quo 41 42,[0,1,2]),(zw 0 40,[3,4,5]),(zw 1 43,[])]) (zR [⟨.p 4,.mv (.c (.str [])),none⟩] (.seq (zR [zm 44 0,zc 45 .lss 44 0] (.cond (.l 45) (.region [⟨.p 4,.mv (.c (.str [45])),none⟩]) (.skip))) (zR [zm 46 4,zm 47 0,zm 48 0,⟨.l 49,.bin .sub (kI 0) (.l 48),none⟩,⟨.l 50,.mm true [(.l 47),(.l 49)],none⟩,⟨.l 51,.call (kF 182) [(.l 50),(kI 1)],none⟩,zb 52 .add 46 51,zw 4 52] (.seq (zR [zm 53 1,zc 54 .gtr 53 1] (.cond (.l 54) (.region [zm 55 4,⟨.l 56,.bin .add (.l 55) (.c (.str [47])),none⟩,zm 57 1,⟨.l 58,.call (kF 182) [(.l 57),(kI 1)],none⟩,zb 59 .add 56 58,zw 4 59]) (.skip))) (zR [zm 60 4,zw 2 60] (.ret)))))))
def Ed:ao:=zR [⟨.p 2,.mv (.c (.str [])),none⟩] (.seq (zR [zm 7 0,zc 8 .lss 7 (-4000000000000000000),zn 9 8,zg (zm 10 0) 9 false,zg (zc 11 .gtr 10 4000000000000000000) 9 false,zP 12 9 11,zn 13 12,zg (zm 14 1) 13 false,zg (zc 15 .lss 14 (-4000000000000000000)) 13 false,zP 16 13 15,zn 17 16,zg (zm 18 1) 17 false,zg (zc 19 .gtr 18 4000000000000000000) 17 false,zP 20 17 19] (.cond (.l 20) (zR [zm 21 0,z1 22 130 21,zm 23 1,z1 24 130 23,z2 25 192 22 24,zw 2 25] (.ret)) (.skip))) (.seq (zR [zm 26 1,zc 27 .lss 26 0] (.cond (.l 27) (.region [zm 28 0,⟨.l 29,.bin .sub (kI 0) (.l 28),none⟩,zm 30 1,⟨.l 31,.bin .sub (kI 0) (.l 30),none⟩,zw 0 29,zw 1 31]) (.skip)))
 t149))
theorem aaq:FT 149=some ⟨61,[0,1,4,5,6],[.var (.p 2)],Ed⟩:=by kernel_rfl
def LU:ao:=zR [zi 1 0] (.seq (zR [zm 3 0,⟨.l 4,.bin .eql (.l 3) (.c (.str [48])),none⟩] (.cond (.l 4) (zR [zi 1 0] (.ret)) (.skip))) (.seq (zR [zm 5 0,zL 6 5,zc 7 .gtr 6 0,zn 8 7,zg (zm 9 0) 8 true,⟨.l 10,.index (.l 9) (kI 0),some ((.l 8),true)⟩,⟨.l 11,.bin .eql (.l 10) (.c (.int .u8 (45))),some ((.l 8),true)⟩,zp 12 8 11] (.cond (.l 12) (zR [zi 1 (-1)] (.ret)) (.skip))) (zR [zi 1 1] (.ret))))
theorem aar:FT 105=some ⟨13,[0,2],[.var (.p 1)],LU⟩:=by kernel_rfl
def LV:ao:=zR [⟨.p 1,.mv (.c (.str [])),none⟩] (.seq (zR [zm 3 0,z1 4 105 3,zc 5 .lss 4 0] (.cond (.l 5) (zR [zm 6 0,⟨.l 7,.slice .str 1 (.l 6) (some (kI 1)) none none,none⟩,zw 1 7] (.ret)) (.skip))) (.seq (zR [zm 8 0,z1 9 105 8,zc 10 .eql 9 0] (.cond (.l 10) (zR [zm 11 0,zw 1 11] (.ret)) (.skip))) (zR [zm 12 0,⟨.l 13,.bin .add (.c (.str [45])) (.l 12),none⟩,zw 1 13] (.ret))))
theorem aas:FT 113=some ⟨14,[0,2],[.var (.p 1)],LV⟩:=by kernel_rfl
def Ee:ao:=zR [⟨.p 2,.mv (.c (.str [])),none⟩] (zR [zm 16 0,z1 17 191 16,zn 15 17,ze 18 0 15,ze 19 1 15,ze 20 2 15,zw 3 18,zw 4 19,zw 5 20] (zR [zm 22 1,z1 23 191 22,zn 21 23,ze 24 0 21,ze 25 1 21,ze 26 2 21,zw 6 24,zw 7 25,zw 8 26] (.seq (zR [zm 27 5,zn 28 27,zg (zm 29 8) 28 true,zp 30 28 29] (.cond (.l 30) (zR [zm 31 3,zm 32 7,zb 33 .mul 31 32,zm 34 6,zm 35 4,zb 36 .mul 34 35,zb 37 .add 33 36,zm 38 4,zm 39 7,zb 40 .mul 38 39,z2 41 149 37 40,zw 2 41] (.ret)) (.skip))) (zR [zm 43 0,z1 44 170 43,zn 42 44,ze 45 0 42,ze 46 1 42,⟨.p 9,.alloc 200 [.bool false,.ab],none⟩,⟨.p 10,.alloc 200 [.bool false,.ab],none⟩,zs 2 9 45,zs 2 10 46] (zR [zm 48 1,z1 49 170 48,zn 47 49,ze 50 0 47,ze 51 1 47,⟨.p 11,.alloc 200 [.bool false,.ab],none⟩,⟨.p 12,.alloc 200 [.bool false,.ab],none⟩,zs 2 11 50,zs 2 12 51] (.seq (.draw [(zt 52 2 9,[]),(zt 53 2 12,[0]),(z2 54 194 52 53,[]),(zt 55 2 11,[0,1,2]),(zt 56 2 10,[0,1,2,3]),(z2 57 194 55 56,[]),(z2 58 193 54 57,[]),(zt 59 2 10,[0,1,2,3,4,5,6]),(zt 60 2 12,[0,1,2,3,4,5,6,7]),(z2 61 194 59 60,[]),(z2 62 192 58 61,[]),(zw 2 62,[])]) (.ret)))))))
theorem aat:FT 139=some ⟨63,[0,1,4,5,6,7,8,9,10,11,12,13,14],[.var (.p 2)],Ee⟩:=by kernel_rfl
def LW:ao:=zR [⟨.p 2,.mv (.c (.str [])),none⟩] (zR [zm 5 0,zm 6 1,z1 7 113 6,z2 8 139 5 7,zw 2 8] (.ret))
theorem aau:FT 128=some ⟨9,[0,1,4],[.var (.p 2)],LW⟩:=by kernel_rfl
def LX:ao:=zR [zi 2 0] (zR [zm 5 0,zm 6 1,z2 7 128 5 6,z1 8 105 7,zw 2 8] (.ret))
theorem aav:FT 48=some ⟨9,[0,1,4],[.var (.p 2)],LX⟩:=by kernel_rfl
theorem Ef {y:List Int}(ok:okW dB y)(i:Nat):0<=fO y i/\fO y i<1000000000:=by
 unfold fO;split
 . rename_i h;exact cj ok h
 . exact⟨am,am⟩
theorem aaw (hft:M.FT=FT)(a:List Int)(i:Int)(hi:0<=i):bg M 300 [.vs (ak a) a.length c1,.iV i] [] ⟨.iV (fO a i.toNat),[],[]⟩:=by
 refine bY (by rw[hft];exact Zi) aq ?_;unfold fO;unfold KU;simp only[enter];by_cases h:i.toNat<a.length
 . rw[if_pos h];repeat' first|apply aaQ|apply aa|apply aaf|apply aad|apply abw|apply aU|(apply abz;rfl)|(apply abR;rfl;rfl)|(apply adp;rfl;rfl;omega)|(apply adL;rfl;exact fun _=>rfl;(first|omega|(simp only[aZ];omega)|(simp;omega));decide;rfl;case ia=>infer_instance)|(apply abh;rfl;rfl)|(apply abl;rfl;rfl)|(intro _;omega)|intro _
   all_goals try omega
   all_goals exact⟨.inr rfl,rfl,_,rfl,rfl,rfl⟩
 . rw[if_neg h];repeat' first|apply aaQ|apply aa|apply aaf|apply aad|apply abw|apply abC|(apply abx;rfl)|(apply abR;rfl;rfl)|(apply abh;rfl;rfl)|(apply abl;rfl;rfl)|(intro _;omega)|intro _
   all_goals try omega
   all_goals exact⟨.inr rfl,rfl,_,rfl,rfl,rfl⟩
theorem Eg (hft:M.FT=FT)(K:ae):bg M 236 [.ab] K ⟨.ab,K,[]⟩:=by
 refine mg (by rw[hft];exact xu) aq (by simp[AV.top]) ?_;unfold sH;simp only[enter];repeat' first|apply aaQ|apply aa|apply aaf|apply aad|apply abI|(apply abl;rfl;rfl)
 refine W.loop ?_;unfold jz;repeat' first|apply aaQ|apply aa|apply aaf|apply aad|apply abw|apply acH|apply bN|apply bJ|apply dP|(apply abx;rfl)|(apply adu;rfl)|(apply abV;rfl;rfl)|(apply acw;rfl;rfl)|(apply abh;rfl;rfl)|(apply abl;rfl;rfl)|(intro _;omega)|intro _
 all_goals try omega
 exact⟨.inr rfl,rfl,⟨[],aq⟩,aq,_,rfl,rfl⟩
def LY (M:ax)(g:Nat)(ars:List AV)(n:Nat)(z:Int):Prop:=∃r:List Int,(okW dB r/\WV dB r=z/\r.length<=n)/\∃v hh,gJ v hh r/\bg M g ars [] ⟨v,hh,[]⟩
theorem aax {f N n:Nat}{aP:List Nat}{res:List fw}{body:ao}{ars:List AV}{z:Int}(hft:M.FT f=some ⟨N,aP,res,body⟩)(hN:ars.length<=N)
 (h:W M body ⟨⟨aP.map (fun t=>(ars[t]?).getD cG),[],[],[]⟩,[]⟩ fun e s=>(e = .normal\/e = .ret)/\s.s.cg=[]/\∃vs,dH s.s res=some vs/\∃r:List Int,(okW dB r/\WV dB r=z/\r.length<=n)/\gJ (aV vs) (if (aV vs).top<=0 then [] else s.s.hp) r):LY M f ars n z:=by
 obtain⟨v,hh,⟨r,hr,ho⟩,h2⟩:=gS (P:=fun v hh=>∃r:List Int,(okW dB r/\WV dB r=z/\r.length<=n)/\gJ v hh r) hft hN h;exact⟨r,hr,v,hh,ho,h2⟩
theorem gJ.LZ {K:ae}{o:AV}{acc:List Int}{S:List Nat}(h:bC iC 1 3 K o acc S):gJ (aV [o]) (if (aV [o]).top<=0 then [] else K) acc:=
 ⟨.vs (ak acc) acc.length none,h.Rg (fun _=>rfl) (fun _=>rfl) (fun _=>rfl),fv acc,by rw[cw,DD]⟩
section
variable {t:Nat} {x y:aO} {l:List aY} {pe:List AV} {lo:List (Nat×AV)} {df wr:List Nat} {v a d:Int} {Q:au->Prop}
theorem afu (hx:(St.mk pe lo hp df).ah x=some (.iV a))(hy:(St.mk pe lo hp df).ah y=some (.iV d))(ha:0<=a/\a<9223372036854775808)(hd:0<d)(hv:a/d=v)
 (h:WO M l ⟨⟨pe,(t,.iV v)::lo,hp,df⟩,wr⟩ Q):WO M (⟨.l t,.bin .quo x y,none⟩::l) ⟨⟨pe,lo,hp,df⟩,wr⟩ Q:=aer hx hy ha hd (by rw[hv];exact h)
theorem afv (hx:(St.mk pe lo hp df).ah x=some (.iV a))(hy:(St.mk pe lo hp df).ah y=some (.iV d))(ha:0<=a)(hd:0<d)(hv:a%d=v)
 (h:WO M l ⟨⟨pe,(t,.iV v)::lo,hp,df⟩,wr⟩ Q):WO M (⟨.l t,.bin .rem x y,none⟩::l) ⟨⟨pe,lo,hp,df⟩,wr⟩ Q:=aes hx hy ha hd (by rw[hv];exact h)
end
structure Eh (M:ax):Prop where
 ft:M.FT=FT
 xU:∀(a:List Int) c (i:Int) h,0<=i->M.ext 300 [.vs (ak a) a.length c,.iV i] h=some ⟨.iV (fO a i.toNat),h,[]⟩
 dV:∀ars h,M.ext 236 ars h=none
theorem aaA (C:Eh M)(a b:List Int)(oa:okW dB a)(ob:okW dB b)(la:a.length<1000000)(lb:b.length<1000000):LY M 233 [.vs (ak a) a.length c1,.vs (ak b) b.length c2] (a.length+b.length+1) (WV dB a+WV dB b):=by
 refine aax (by rw[C.ft];exact aah) aq ?_;unfold LG;simp only[enter];repeat' first|apply aaQ|apply aa|apply aaf|apply aad|apply abI|(apply abl;rfl;rfl)
 obtain⟨n,hn⟩:∃n:Nat,a.length<=n/\b.length<=n/\n<=a.length+b.length/\(n=a.length\/n=b.length):=⟨max a.length b.length,ac,ac,ac,ac⟩;refine W.gH (fun m st=>∃i acc o c a6 K lo wr,st=⟨⟨[.vs (ak a) a.length c1,.vs (ak b) b.length c2,.ab,o,.iV c,.iV (i:Nat),a6],lo,K,[]⟩,wr⟩/\m=n+1-i/\i<=n+1/\(i=n+1->c=0)/\(0<=c/\c<=1)/\okW dB acc/\acc.length=i/\bC iC 1 3 K o acc []/\WV dB acc+dB^i*c=WV dB (a.take i)+WV dB (b.take i))
  (fun m st ⟨i,acc,o,c,a6,K,lo,wr,hst,hm,hi,hic,hc,oA,lA,ho,hv⟩=>?_) (m:=n+1) ⟨0,[],.ab,0,_,_,_,_,rfl,rfl,ac,fun _=>rfl,⟨am,am⟩,iI,rfl,.kj,by simp[WV]⟩
 subst hst;by_cases hend:i<a.length\/i<b.length\/0<c
 . have ga:=Ef oa i;have gb:=Ef ob i;have ta:=rK (B:=dB) (y:=a) (i:=i);have tb:=rK (B:=dB) (y:=b) (i:=i);have q1:=fun h=>C.xU a c1 i h ac
   have q2:=fun h=>C.xU b c2 i h ac
   rw[fg]at q1 q2;have za:a.length<=i->fO a i=0:=fun h=>if_neg ac
   have zb:b.length<=i->fO b i=0:=fun h=>if_neg ac
   generalize fO a i=x at *
   generalize fO b i=y at *
   have hi2:i<=n:=by
    rcases mp n i with h|h
    . have:=hic ac;omega
    . exact h
   obtain⟨R,hR⟩:∃R,R=(x+y+c)%1000000000:=⟨_,rfl⟩;obtain⟨D,hD⟩:∃D,D=(x+y+c)/1000000000:=⟨_,rfl⟩;have hroom:(acc.length+1)*8<=dO:=by unfold dO;omega
   have hD0:i+1=n+1->D=0:=fun h=>by
    have h1:=za ac;have h2:=zb ac;omega
   have hval:WV dB (acc++[R])+dB^(i+1)*D=WV dB (a.take (i+1))+WV dB (b.take (i+1)):=by
    rw[fN,lA,ta,tb,b8];have e1:WV dB [R]=R:=by simp[WV]
    have e2:R+1000000000*D=x+y+c:=by omega
    have e3:dB^i*(R+1000000000*D)=dB^i*(x+y+c):=by rw[e2]
    rw[e1];show WV dB acc+dB^i*R+dB^i*1000000000*D=_;grind
   unfold DZ;repeat' first|(apply afu (v:=D);rfl;rfl;omega;omega;exact hD.symm)|(apply afv (v:=R);rfl;rfl;omega;omega;exact hR.symm)|(refine bC.app (f:=iC) (m:=[R]) (S:=[]) (fun _=>rfl) (fun _=>rfl) am (ho.grow [_]) aq rfl rfl (Sl.iZ (f:=iC) (esz:=1) (l:=[R]) (e:=3) (fun _=>rfl) bS rfl) hroom (fun H w' o' ho' hk hlen=>?_))|apply aaQ|apply aa|apply aaf|apply aad|apply abI|apply abC|apply bE|(apply abz;rfl)|(apply adb;rfl)|(apply adU;rfl)|(apply abR;rfl;rfl)|(apply abV;rfl;rfl)|(apply aco;rfl;rfl)|(apply acw;rfl;rfl)|(apply acS;rfl;rfl;omega)|(apply abJ;rfl;rfl;first|exact q1 _|exact q2 _)|(apply acn;rfl;rfl;rfl)|(apply abh;rfl;rfl)|(apply abl;rfl;rfl)|(intro _;omega)|intro _
   all_goals try omega
   all_goals exact cW ⟨n+1-(i+1),ac,i+1,acc++[R],o',D,_,_,_,_,rfl,rfl,ac,hD0,ac,js oA (fun z hz=>by rw[bj.1 hz];exact⟨ac,by show _<(1000000000:Int);omega⟩),by simp[lA],ho',hval⟩
 . have h1:a.take i=a:=b7 ac;have h2:b.take i=b:=b7 ac;have hc0:c=0:=by omega
   rw[h1,h2,hc0,c6,dr]at hv;unfold DZ;repeat' first|apply aaQ|apply aa|apply aaf|apply aad|apply abw|apply acH|apply bN|apply bJ|apply cX|(apply abx;rfl)|(apply adb;rfl)|(apply abR;rfl;rfl)|(apply abV;rfl;rfl)|(apply acw;rfl;rfl)|(apply abh;rfl;rfl)|(apply abl;rfl;rfl)|(intro _;omega)|intro _
   all_goals try omega
   all_goals exact⟨.inr rfl,rfl,_,rfl,acc,⟨oA,hv,ac⟩,gJ.LZ ho⟩
theorem aaB (C:Eh M)(a b:List Int)(oa:okW dB a)(ob:okW dB b)(la:a.length<1000000)(lb:b.length<=a.length)(hle:WV dB b<=WV dB a):xG M 256 [.vs (ak a) a.length c1,.vs (ak b) b.length c2] (WV dB a-WV dB b):=by
 refine DE (by rw[C.ft];exact aai) aq ?_;unfold LH;simp only[enter];repeat' first|apply aaQ|apply aa|apply aaf|apply aad|apply abI|(apply abl;rfl;rfl)
 refine W.gn a.length (fun i st=>∃acc o c a6 K lo wr,st=⟨⟨[.vs (ak a) a.length c1,.vs (ak b) b.length c2,.ab,o,.iV c,.iV i,a6],lo,K,[]⟩,wr⟩/\(0<=c/\c<=1)/\okW dB acc/\acc.length=i/\bC iC 1 3 K o acc []/\WV dB acc-dB^i*c=WV dB (a.take i)-WV dB (b.take i))
  (fun i st hi ⟨acc,o,c,a6,K,lo,wr,hst,hc,oA,lA,ho,hv⟩=>?_) (fun st ⟨acc,o,c,a6,K,lo,wr,hst,hc,oA,lA,ho,hv⟩=>?_) (kw _) ⟨[],.ab,0,_,_,_,_,rfl,⟨am,am⟩,iI,rfl,.kj,by simp[WV]⟩
 . subst hst;have ga:=cj oa hi;have gb:=Ef ob i;have ta:=fo (b:=dB) (l:=a) hi;have tb:=rK (B:=dB) (y:=b) (i:=i);have q2:=fun h=>C.xU b c2 i h ac
   rw[fg]at q2;obtain⟨x,hx⟩:∃x,x=a[((i:Int)).toNat]! := ⟨_,rfl⟩;rw[show a[i]! = x from hx.symm]at ga ta;have ga:0<=x/\x<1000000000:=ga;generalize fO b i=y at *
   have hroom:(acc.length+1)*8<=dO:=by unfold dO;omega
   have next:∀(R D:Int) H o' a6 lo wr,bC iC 1 3 H o' (acc++[R]) []->(0<=D/\D<=1)->(0<=R/\R<1000000000)->R-1000000000*D=x-y-c->LI (fun st=>∃acc o c a6 K lo wr,st=⟨⟨[.vs (ak a) a.length c1,.vs (ak b) b.length c2,.ab,o,.iV c,.iV ((i+1:Nat):Int),a6],lo,K,[]⟩,wr⟩/\(0<=c/\c<=1)/\okW dB acc/\acc.length=i+1/\bC iC 1 3 K o acc []/\WV dB acc-dB^(i+1)*c=WV dB (a.take (i+1))-WV dB (b.take (i+1)))
    (BQ 0 (SQ M (zR [zm 33 3,z1 34 236 33,zw 2 34] (.ret)) (fun e s=>(e = .normal\/e = .ret)/\s.s.cg=[]/\∃vs,dH s.s [.var (.p 2)]=some vs/\∃r:List Int,(okW dB r/\aR r/\WV dB r=WV dB a-WV dB b)/\gJ (aV vs) (if (aV vs).top<=0 then [] else s.s.hp) r)))
    .normal ⟨⟨[.vs (ak a) a.length c1,.vs (ak b) b.length c2,.ab,o',.iV D,.iV ((i:Int)+1),a6],lo,H,[]⟩,wr⟩:=fun R D H o' a6 lo wr ho' hD hR he=>
    cW ⟨acc++[R],o',D,a6,H,lo,wr,rfl,hD,js oA (fun z hz=>by rw[bj.1 hz];exact hR),by simp[lA],ho',by
     rw[fN,lA,ta,tb,b8];have e1:WV dB [R]=R:=by simp[WV]
     have e3:dB^i*(R-1000000000*D)=dB^i*(x-y-c):=by rw[he]
     rw[e1];show WV dB acc+dB^i*R-dB^i*1000000000*D=_;grind⟩
   by_cases hneg:x-y-c<0
   . rw[hx]at hneg;unfold qw;repeat' first|(apply adN;rfl;rfl;(first|(simp only[nca];rfl)|rfl);first|exact q2 _)|(refine bC.app (f:=iC) (m:=[a[((i:Int)).toNat]! - y-c+1000000000]) (S:=[]) (fun _=>rfl) (fun _=>rfl) am (ho.grow [_]) aq rfl rfl (Sl.iZ (f:=iC) (esz:=1) (l:=[a[((i:Int)).toNat]! - y-c+1000000000]) (e:=3) (fun _=>rfl) bS rfl) hroom (fun H w' o' ho' hk hlen=>?_))|apply aaQ|apply aa|apply aaf|apply aad|apply abI|apply abC|apply bE|apply adr|apply adI|(apply adO;rfl)|(apply adJ;rfl;rfl;(first|(simp only[nca];rfl)|rfl))|(apply abz;rfl)|(apply abR;rfl;rfl)|(apply acS;rfl;rfl;omega)|(apply adj;rfl;rfl;omega)|(apply adp;rfl;rfl;omega)|(apply adL;rfl;exact fun _=>rfl;(first|omega|(simp only[aZ];omega)|(simp;omega));decide;rfl;case ia=>infer_instance)|(apply acn;rfl;rfl;rfl)|(apply abh;rfl;rfl)|(apply abl;rfl;rfl)|(intro _;omega)|intro _
     all_goals try omega
     all_goals exact next _ 1 _ _ _ _ _ ho' am ac ac
   . rw[hx]at hneg;unfold qw;repeat' first|(apply adN;rfl;rfl;(first|(simp only[nca];rfl)|rfl);first|exact q2 _)|(refine bC.app (f:=iC) (m:=[a[((i:Int)).toNat]! - y-c]) (S:=[]) (fun _=>rfl) (fun _=>rfl) am (ho.grow [_]) aq rfl rfl (Sl.iZ (f:=iC) (esz:=1) (l:=[a[((i:Int)).toNat]! - y-c]) (e:=3) (fun _=>rfl) bS rfl) hroom (fun H w' o' ho' hk hlen=>?_))|apply aaQ|apply aa|apply aaf|apply aad|apply abI|apply abC|apply bE|apply adr|apply adI|(apply adO;rfl)|(apply adJ;rfl;rfl;(first|(simp only[nca];rfl)|rfl))|(apply abz;rfl)|(apply abx;rfl)|(apply abR;rfl;rfl)|(apply acS;rfl;rfl;omega)|(apply adj;rfl;rfl;omega)|(apply adp;rfl;rfl;omega)|(apply adL;rfl;exact fun _=>rfl;(first|omega|(simp only[aZ];omega)|(simp;omega));decide;rfl;case ia=>infer_instance)|(apply acn;rfl;rfl;rfl)|(apply abh;rfl;rfl)|(apply abl;rfl;rfl)|(intro _;omega)|intro _
     all_goals try omega
     all_goals exact next _ 0 _ _ _ _ _ ho' am ac ac
 . subst hst;have h2:b.take a.length=b:=b7 lb;rw[cV,h2]at hv;have hc0:c=0:=by
    have h1:=dz (b:=dB) am oA;rw[lA]at h1;rcases (show c=0\/c=1 by omega) with h|h
    . exact h
    . rw[h,Int.mul_one]at hv;omega
   rw[hc0,c6,mn]at hv;obtain⟨g1,g2,g3⟩:=od oA;rcases ho with ⟨rfl,rfl⟩|⟨k,cap,_,rfl,hk,hcap⟩
   . have ha0:a.length=0:=lA.symm;have q0:CT M (iR 236) [.ab] K ⟨.ab,K,[]⟩:=CT.run (fi:=[]) (ca:=[]) (C.dV _ _) (Eg C.ft K);unfold qw;repeat' first|apply aaQ|apply aa|apply aaf|apply aad|apply abw|apply acH|apply bN|apply bJ|apply cX|(apply abx;rfl)|(apply abR;rfl;rfl)|(apply adQ;rfl;rfl;first|exact q0)|(apply abh;rfl;rfl)|(apply abl;rfl;rfl)|(intro _;omega)|intro _
     all_goals try omega
     all_goals exact⟨.inr rfl,rfl,_,rfl,[],⟨iI,jP,hv⟩,_,.nil,rfl,rfl⟩
   . have hpos:0<acc.length\/acc.length=0:=by omega
     rcases hpos with h0|h0
     . obtain rfl:cap=none:=hcap.resolve_right fun h=>by rw[h.1]at h0;simp at h0
       have q1:=oh (cap:=none) C.ft C.dV hk h0 (aW _) ac (fun c hc=>by cases hc);have hout:=gJ.trim (cap:=none) hk (aW acc.length);rw[cV]at q1 hout;unfold qw;repeat' first|apply aaQ|apply aa|apply aaf|apply aad|apply abw|apply acH|apply bN|apply bJ|apply cX|(apply abx;rfl)|(apply abR;rfl;rfl)|(apply adQ;rfl;rfl;first|exact q1)|(apply abh;rfl;rfl)|(apply abl;rfl;rfl)|(intro _;omega)|intro _
       all_goals try omega
       all_goals exact⟨.inr rfl,rfl,_,rfl,_,⟨g1,g2,by rw[g3,hv]⟩,hout⟩
     . have ha0:acc=[]:=db h0;subst ha0;have q1:CT M (iR 236) [.sl k 0 ([]:List Int).length 1 cap] K ⟨.sl k 0 ([]:List Int).length 1 cap,K,[]⟩:=CT.run (fi:=[]) (ca:=[]) (C.dV _ _) (DJ C.ft hk);unfold qw;repeat' first|apply aaQ|apply aa|apply aaf|apply aad|apply abw|apply acH|apply bN|apply bJ|apply cX|(apply abx;rfl)|(apply abR;rfl;rfl)|(apply adQ;rfl;rfl;first|exact q1)|(apply abh;rfl;rfl)|(apply abl;rfl;rfl)|(intro _;omega)|intro _
       all_goals try omega
       all_goals exact⟨.inr rfl,rfl,_,rfl,[],⟨iI,jP,hv⟩,gJ.LZ (S:=[]) (.inr ⟨k,cap,aq,rfl,hk,hcap⟩)⟩
theorem aaC (hft:M.FT=FT)(l:List Int)(hl:l.length<1000000000)(K:ae):bg M 236 [.vs (ak l) l.length cap] K ⟨.vs (ak (l.take (aS l))) (l.take (aS l)).length cap,K,[]⟩:=by
 refine mg (by rw[hft];exact xu) aq (by simp[AV.top,fv]) ?_;have loop:∀(r:Nat) (lo:List (Nat×AV)) (a1:AV) {Q:Ex->au->Prop},r<=l.length->aS (l.take r)=aS l->(∀lo,Q (.exit 0) ⟨⟨[.vs (ak (l.take (aS l))) (l.take (aS l)).length cap,a1],lo,K,[]⟩,[]⟩)->W M (.loop jz) ⟨⟨[.vs (ak (l.take r)) (l.take r).length cap,a1],lo,K,[]⟩,[]⟩ Q:=by
  intro r;induction r with
  | zero=>
   intro lo a1 Q hr he hQ;have e0:aS l=0:=by rw[←he];rfl
   rw[e0]at hQ;have hl0:(l.take 0).length=0:=rfl;refine W.loop ?_;unfold jz;repeat' first|apply aaQ|apply aa|apply aaf|apply aad|apply acH|apply bN|apply dP|(apply abx;rfl)|(apply adu;rfl)|(apply abV;rfl;rfl)|(apply acw;rfl;rfl)|(apply abh;rfl;rfl)|(intro _;omega)|intro _
   all_goals try omega
   all_goals exact hQ _
  | succ r ih=>
   intro lo a1 Q hr he hQ;have e:=nK (l:=l) (i:=r) ac;have hlr:(l.take (r+1)).length=r+1:=by rw[b5];omega
   have eg:(l.take (r+1))[(((l.take (r+1)).length:Int)-1).toNat]! = l[r]! := by
    rw[hlr,show (((r+1:Nat):Int)-1).toNat=r by omega,ce,ce,k9 ac]
   have et:(l.take (r+1)).take ((((l.take (r+1)).length:Nat):Int)-1).toNat=l.take r:=by
    rw[hlr,show (((r+1:Nat):Int)-1).toNat=r by omega,p8,ii ac]
   have next:∀lo,W M (.loop jz) ⟨⟨[.vs (ak ((l.take (r+1)).take ((((l.take (r+1)).length:Nat):Int)-1).toNat)) ((l.take (r+1)).take ((((l.take (r+1)).length:Nat):Int)-1).toNat).length cap,a1],lo,K,[]⟩,[]⟩ Q\/l[r]! ≠ 0:=fun lo=>by
    by_cases h0:l[r]! = 0
    . rw[if_pos h0]at e;rw[et];exact .inl (ih _ _ ac (e.symm.trans he) hQ)
    . exact .inr h0
   have fin:l[r]! ≠ 0->l.take (aS l)=l.take (r+1):=fun h0=>by
    rw[if_neg h0]at e;rw[←he,e]
   rw[←eg]at next fin
   refine W.loop ?_;by_cases h0:(l.take (r+1))[(((l.take (r+1)).length:Int)-1).toNat]! = 0
   . have next:=fun lo=>(next lo).resolve_right fun h=>h h0
     generalize l.take (r+1)=L at *
     unfold jz;repeat' first|(apply afm (f:=iC) (l:=L);rfl;rfl;(intro _;rfl);omega)|apply aaQ|apply aa|apply aaf|apply aad|apply abI|apply abC|apply bE|(apply abz;rfl)|(apply acF;rfl)|(apply abV;rfl;rfl)|(apply acR;rfl;rfl)|(apply aco;rfl;rfl)|(apply adj;rfl;rfl;omega)|(apply adp;rfl;rfl;omega)|(apply adL;rfl;exact fun _=>rfl;(first|omega|(simp only[aZ];omega)|(simp;omega));decide;rfl;case ia=>infer_instance)|(apply abh;rfl;rfl)|(apply abl;rfl;rfl)|(intro _;omega)|intro _
     all_goals try omega
     all_goals exact gk (next _)
   . rw[fin h0]at hQ;generalize l.take (r+1)=L at *
     unfold jz;repeat' first|apply aaQ|apply aa|apply aaf|apply aad|apply acH|apply bN|apply dP|(apply abx;rfl)|(apply acF;rfl)|(apply abV;rfl;rfl)|(apply acR;rfl;rfl)|(apply aco;rfl;rfl)|(apply adj;rfl;rfl;omega)|(apply adp;rfl;rfl;omega)|(apply adL;rfl;exact fun _=>rfl;(first|omega|(simp only[aZ];omega)|(simp;omega));decide;rfl;case ia=>infer_instance)|(apply abh;rfl;rfl)|(intro _;omega)|intro _
     all_goals try omega
     all_goals exact hQ _
 unfold sH;simp only[enter];repeat' first|apply aaQ|apply aa|apply aaf|apply aad|apply abI|(apply abl;rfl;rfl)
 have h0:=loop l.length;rw[cV]at h0;refine h0 _ _ (aW _) rfl (fun lo=>?_);repeat' first|apply aaQ|apply aa|apply aaf|apply aad|apply abw|apply bJ|(apply abh;rfl;rfl)|(apply abl;rfl;rfl)
 exact⟨.inr rfl,rfl,⟨[],aq⟩,aq,_,rfl,rfl⟩
def bQ (neg:Bool)(z:Int):Int:=if neg then -z else z
theorem aaD (hft:M.FT=FT)(dV:∀ars h,M.ext 236 ars h=none)(neg:Bool){x:AV}{l:List Int}(hx:cH x l)(ok:okW dB l)(hl:l.length<1000000000):∃v0,bW v0 (bQ neg (WV dB l))/\de M 183 [.bool neg,x] v0:=by
 obtain⟨g1,g2,g3⟩:=od ok;rcases hx with rfl|⟨rfl,rfl⟩
 . refine⟨.agg [.bool (neg && decide (0<aS l)),.vs (ak (l.take (aS l))) (l.take (aS l)).length none],⟨_,_,_,rfl,.inl rfl,g1,g2,?_,fun h e=>?_⟩,?_⟩
   . rw[g3,bQ];cases neg with
     | false=>rfl
     | true=>
      by_cases h0:0<aS l
      . rw[decide_eq_true h0];rfl
      . rw[decide_eq_false h0];have:WV dB l=0:=by rw[←g3,show aS l=0 by omega];rfl
        rw[this];rfl
   . rw[ib,decide_eq_true_eq]at h;have:=congrArg j9 e;have hle:=iJ (l:=l);rw[b5,cd]at this;omega
   . have q1:=fun K=>CT.run (fi:=[]) (ca:=[]) (ars:=[.vs (ak l) l.length none]) (dV _ _) (aaC (cap:=none) hft l hl K)
     have hT:(l.take (aS l)).length=aS l:=by rw[b5];have:=iJ (l:=l);omega
     generalize l.take (aS l)=L at *
     rw[←hT];have fin:∀(b:Bool) hh,dQ (.agg [.bool b,.vs (ak L) L.length none]) hh (.agg [.bool b,.vs (ak L) L.length none]):=fun b hh=>.same (by simp[AV.top,bz,fv]) (by simp[bD,cC,oe])
     refine du (by rw[hft];exact xr) aq ?_;unfold sG;simp only[enter];cases neg with
     | false=>
      repeat' first|apply aaQ|apply aa|apply aaf|apply aad|apply abw|(apply adu;rfl)|(apply acw;rfl;rfl)|(apply adQ;rfl;rfl;first|exact q1 _)|(apply adS;rfl;rfl;exact⟨rfl,by first|exact aW _|decide|(simp[overwrite]),rfl⟩;rfl)|(apply abU;rfl;rfl;rfl)|(apply abh;rfl;rfl)|(apply abl;rfl;rfl)
      all_goals try omega
      all_goals exact cD rfl rfl (fin _ _)
     | true=>
      by_cases h0:0<L.length
      . rw[decide_eq_true h0];repeat' first|apply aaQ|apply aa|apply aaf|apply aad|apply abw|(apply acF;rfl)|(apply abV;rfl;rfl)|(apply aco;rfl;rfl)|(apply adQ;rfl;rfl;first|exact q1 _)|(apply adS;rfl;rfl;exact⟨rfl,by first|exact aW _|decide|(simp[overwrite]),rfl⟩;rfl)|(apply abU;rfl;rfl;rfl)|(apply abh;rfl;rfl)|(apply abl;rfl;rfl)|(intro _;omega)|intro _
        all_goals try omega
        all_goals exact cD rfl rfl (fin _ _)
      . rw[decide_eq_false h0];repeat' first|apply aaQ|apply aa|apply aaf|apply aad|apply abw|(apply acF;rfl)|(apply abV;rfl;rfl)|(apply aco;rfl;rfl)|(apply adQ;rfl;rfl;first|exact q1 _)|(apply adS;rfl;rfl;exact⟨rfl,by first|exact aW _|decide|(simp[overwrite]),rfl⟩;rfl)|(apply abU;rfl;rfl;rfl)|(apply abh;rfl;rfl)|(apply abl;rfl;rfl)|(intro _;omega)|intro _
        all_goals try omega
        all_goals exact cD rfl rfl (fin _ _)
 . refine⟨.agg [.bool false,.ab],⟨false,.ab,[],rfl,.inr ⟨rfl,rfl⟩,iI,jP,by cases neg <;> rfl,fun h=>by cases h⟩,?_⟩;have q1:=fun K=>CT.run (fi:=[]) (ca:=[]) (ars:=[.ab]) (dV _ _) (Eg hft K)
   refine du (by rw[hft];exact xr) aq ?_;unfold sG;simp only[enter];cases neg with
   | false=>
    repeat' first|apply aaQ|apply aa|apply aaf|apply aad|apply abw|(apply adu;rfl)|(apply acw;rfl;rfl)|(apply adQ;rfl;rfl;first|exact q1 _)|(apply adS;rfl;rfl;exact⟨rfl,by first|exact aW _|decide|(simp[overwrite]),rfl⟩;rfl)|(apply abU;rfl;rfl;rfl)|(apply abh;rfl;rfl)|(apply abl;rfl;rfl)
    all_goals try omega
    all_goals exact cD rfl rfl (.same rfl rfl)
   | true=>
    repeat' first|apply aaQ|apply aa|apply aaf|apply aad|apply abw|(apply acF;rfl)|(apply abV;rfl;rfl)|(apply aco;rfl;rfl)|(apply adQ;rfl;rfl;first|exact q1 _)|(apply adS;rfl;rfl;exact⟨rfl,by first|exact aW _|decide|(simp[overwrite]),rfl⟩;rfl)|(apply abU;rfl;rfl;rfl)|(apply abh;rfl;rfl)|(apply abl;rfl;rfl)|(intro _;omega)|intro _
    all_goals try omega
    all_goals exact cD rfl rfl (.same rfl rfl)
theorem cH.gI {h:ae}{x:AV}{l:List Int}(hx:cH x l):dv h x (.vs (ak l) l.length none):=by
 rcases hx with rfl|⟨rfl,rfl⟩
 . exact dv.pF (uI (fun _=>.cons (.atom rfl) .nil) l)
 . exact .nil
theorem bW.abs {v:AV}{z:Int}(h:bW v z)(lz:al z<dB^N):∃neg x l,v = .agg [.bool neg,x]/\cH x l/\okW dB l/\aR l/\l.length<=N/\z=bQ neg (WV dB l)/\WV dB l=al z/\(neg=true->l≠[]):=by
 obtain⟨neg,x,l,rfl,hx,ok,nr,hz,hn⟩:=h;have h0:=cA (b:=dB) am ok;have e:WV dB l=al z:=by
  rw[hz];unfold al;cases neg with
  | false=>simp only[Bool.false_eq_true,↓reduceIte];rw[if_neg ac]
  | true=>simp only[↓reduceIte];split <;> omega
 exact⟨neg,x,l,rfl,hx,ok,nr,gu (b:=dB) am ok nr (by rw[e];exact lz),hz,e,hn⟩
structure xV (M:ax):Prop where
 ft:M.FT=FT
 Ma:∀l m k1 k2,okW dB l->okW dB m->l.length<1000000->m.length<1000000->∃r,okW dB r/\WV dB r=WV dB l+WV dB m/\r.length<=l.length+m.length+1/\∀x y h,dv h x (.vs (ak l) l.length k1)->dv h y (.vs (ak m) m.length k2)->M.ext 233 [x,y] h=some ⟨.vs (ak r) r.length none,h,[]⟩
 Ei:∀l m,okW dB l->okW dB m->aR l->aR m->l.length<1000000->m.length<1000000->WV dB m<=WV dB l->∃r,okW dB r/\aR r/\WV dB r=WV dB l-WV dB m/\∀x y h,cH x l->cH y m->M.ext 256 [x,y] h=some ⟨.vs (ak r) r.length none,h,[]⟩
 sQ:∀l m x y h,okW dB l->okW dB m->aR l->aR m->l.length<1000000->m.length<1000000->cH x l->cH y m->M.ext 255 [x,y] h=some ⟨.iV (br (WV dB l-WV dB m)),h,[]⟩
 qp:∀l m,okW dB l->okW dB m->l.length<1000000->m.length<1000000->∃r,okW dB r/\aR r/\WV dB r=WV dB l*WV dB m/\∀x y h,cH x l->cH y m->M.ext 257 [x,y] h=some ⟨.vs (ak r) r.length none,h,[]⟩
 jY:∀neg x l,cH x l->okW dB l->l.length<1000000000->∃v0,bW v0 (bQ neg (WV dB l))/\∀h,M.ext 183 [.bool neg,x] h=some ⟨v0,h,[]⟩
theorem bW.out {v:AV}{z:Int}{hh:ae}(h:bW v z):dQ (aV [v]) hh v:=by
 obtain⟨neg,x,l,rfl,_,_,ht,hc⟩:=h.shape;refine .same ?_ ?_
 . show max 0 (max x.top 0)=0;rw[ht];rfl
 . show AV.agg [.bool neg,bD x]=_;rw[hc]
theorem aaE (C:xV M){a:AV}{z:Int}(ha:bW a z)(lz:al z<dB^N)(hN:N<=100000):∃v0,bW v0 (-z)/\de M 254 [a] v0:=by
 obtain⟨neg,x,l,rfl,hx,ok,nr,ll,hz,_,_⟩:=ha.abs lz;obtain⟨v0,h0,q⟩:=C.jY (!neg) x l hx ok ac;have e:bQ (!neg) (WV dB l) = -z:=by rw[hz];cases neg <;> simp[bQ]
 rw[e]at h0;refine⟨v0,h0,du (by rw[C.ft];exact aak) aq ?_⟩;have out:=fun hh=>h0.out (hh:=hh)
 obtain⟨n0,x0,l0,rfl,hx0,o0,_,_⟩:=h0.shape;unfold LK;simp only[enter];cases neg;all_goals
 . rcases hx with rfl|⟨rfl,rfl⟩;all_goals
   . repeat' first|(apply adM;rfl;rfl;rfl;exact⟨rfl,aW _,iM o0⟩;rfl)|apply aaQ|apply aa|apply aaf|apply aad|apply abw|(apply abJ;rfl;rfl;first|exact q _)|(apply adR;rfl;(first|(focus((repeat' first|exact bS|assumption|apply cm);done))|exact cJ aq);rfl)|(apply abU;rfl;rfl;rfl)|(apply abh;rfl;rfl)
     all_goals exact cD rfl rfl (out _)
theorem aaF (C:xV M){a b:AV}{za zb:Int}(ha:bW a za)(hb:bW b zb)(la:al za<dB^N)(lb:al zb<dB^N)(hN:N<=100000):∃v0,bW v0 (za*zb)/\de M 194 [a,b] v0:=by
 obtain⟨na,x,l,rfl,hx,ok,nr,ll,hz,_,_⟩:=ha.abs la;obtain⟨nb,y,m,rfl,hy,ok',nr',lm,hz',_,_⟩:=hb.abs lb;obtain⟨r,okr,nrr,vr,q257⟩:=C.qp l m ok ok' ac ac;have q257a:=fun h=>q257 x y h hx hy
 have hrl:r.length<=2*N:=gu (b:=dB) am okr nrr (by
  have h1:=dz (b:=dB) am ok;have h2:=dz (b:=dB) am ok';have h3:=cA (b:=dB) am ok;have h4:=cA (b:=dB) am ok';have p1:dB^l.length<=dB^N:=ie am ll;have p2:dB^m.length<=dB^N:=ie am lm;rw[vr,show 2*N=N+N by omega,pm];have hp:(0:Int)<dB^N:=fF am;have a1:=az (show WV dB m<=dB^N by omega) h3;have a2:=dF (show WV dB l<dB^N by omega) hp;omega)
 obtain⟨v0,h0,q183⟩:=C.jY (na != nb) _ r (.inl rfl) okr ac;have e:bQ (na != nb) (WV dB r)=za*zb:=by
  rw[hz,hz',vr];cases na <;> cases nb <;> simp[bQ,Int.neg_mul,Int.mul_neg]
 rw[e]at h0;refine⟨v0,h0,du (by rw[C.ft];exact aal) aq ?_⟩;have out:=fun hh=>h0.out (hh:=hh)
 obtain⟨n0,x0,l0,rfl,hx0,o0,_,_⟩:=h0.shape;unfold LL;simp only[enter];cases na;all_goals
 . cases nb;all_goals
   . rcases hx with rfl|⟨rfl,rfl⟩;all_goals
     . rcases hy with rfl|⟨rfl,rfl⟩;all_goals
       . repeat' first|(apply adN;rfl;rfl;(first|(simp only[nca];rfl)|rfl);first|exact q257a _|exact q183 _)|(apply adM;rfl;rfl;rfl;exact⟨rfl,aW _,iM o0⟩;rfl)|(apply adR;rfl;(first|(focus((repeat' first|exact bS|assumption|apply cm);done))|exact cJ aq);rfl)|apply aaQ|apply aa|apply aaf|apply aad|apply abw|apply adr|apply adI|(apply adO;rfl)|(apply adJ;rfl;rfl;(first|(simp only[nca];rfl)|rfl))|(apply adW;rfl;(first|(simp only[nca];rfl)|rfl);(first|(simp only[nca];rfl)|rfl))|(apply abU;rfl;rfl;rfl)|(apply abh;rfl;rfl)
         all_goals exact cD rfl rfl (out _)
theorem aaG {x y:Int}:(y<=x/\0<=br (x-y))\/(x<y/\br (x-y) = -1):=by
 unfold br;by_cases h:x<y
 . exact .inr ⟨h,if_pos ac⟩
 . refine .inl ⟨ac,?_⟩;rw[if_neg ac];split <;> omega
theorem aaH (C:xV M){a b:AV}{za zb:Int}(ha:bW a za)(hb:bW b zb)(la:al za<dB^N)(lb:al zb<dB^N)(hN:N<=100000):∃v0,bW v0 (za+zb)/\de M 193 [a,b] v0:=by
 obtain⟨na,x,l,rfl,hx,ok,nr,ll,hz,_,_⟩:=ha.abs la;obtain⟨nb,y,m,rfl,hy,ok',nr',lm,hz',_,_⟩:=hb.abs lb;have q255:=fun h=>C.sQ l m x y h ok ok' nr nr' ac ac hx hy
 have goal:∃v0,bW v0 (za+zb)/\((na=nb/\∃r:List Int,(∀h,M.ext 233 [x,y] h=some ⟨.vs (ak r) r.length none,h,[]⟩)/\∀h,M.ext 183 [.bool na,.vs (ak r) r.length none] h=some ⟨v0,h,[]⟩)
  \/ (na≠nb/\0<=br (WV dB l-WV dB m)/\∃r:List Int,(∀h,M.ext 256 [x,y] h=some ⟨.vs (ak r) r.length none,h,[]⟩)/\∀h,M.ext 183 [.bool na,.vs (ak r) r.length none] h=some ⟨v0,h,[]⟩)
  \/ (na≠nb/\br (WV dB l-WV dB m) = -1/\∃r:List Int,(∀h,M.ext 256 [y,x] h=some ⟨.vs (ak r) r.length none,h,[]⟩)/\∀h,M.ext 183 [.bool nb,.vs (ak r) r.length none] h=some ⟨v0,h,[]⟩)):=by
  by_cases hn:na=nb
  . subst hn;obtain⟨r,okr,vr,lr,q233⟩:=C.Ma l m none none ok ok' ac ac;obtain⟨v0,h0,q183⟩:=C.jY na _ r (.inl rfl) okr ac;refine⟨v0,?_,.inl ⟨rfl,r,fun h=>q233 x y h hx.gI hy.gI,q183⟩⟩;have e:bQ na (WV dB r)=za+zb:=by rw[hz,hz',vr];cases na <;> simp[bQ] <;> omega
    rw[e]at h0;exact h0
  . rcases aaG (x:=WV dB l) (y:=WV dB m) with ⟨h1,h2⟩|⟨h1,h2⟩
    . obtain⟨r,okr,nrr,vr,q256⟩:=C.Ei l m ok ok' nr nr' ac ac h1;have lr:r.length<=N:=gu (b:=dB) am okr nrr (by
       have:=dz (b:=dB) am ok;have:=cA (b:=dB) am ok';have:dB^l.length<=dB^N:=ie am ll;omega)
      obtain⟨v0,h0,q183⟩:=C.jY na _ r (.inl rfl) okr ac;refine⟨v0,?_,.inr (.inl ⟨hn,h2,r,fun h=>q256 x y h hx hy,q183⟩)⟩;have e:bQ na (WV dB r)=za+zb:=by rw[hz,hz',vr];cases na <;> cases nb <;> simp[bQ]at hn ⊢ <;> omega
      rw[e]at h0;exact h0
    . obtain⟨r,okr,nrr,vr,q256⟩:=C.Ei m l ok' ok nr' nr ac ac ac;have lr:r.length<=N:=gu (b:=dB) am okr nrr (by
       have:=dz (b:=dB) am ok';have:=cA (b:=dB) am ok;have:dB^m.length<=dB^N:=ie am lm;omega)
      obtain⟨v0,h0,q183⟩:=C.jY nb _ r (.inl rfl) okr ac;refine⟨v0,?_,.inr (.inr ⟨hn,h2,r,fun h=>q256 y x h hy hx,q183⟩)⟩;have e:bQ nb (WV dB r)=za+zb:=by rw[hz,hz',vr];cases na <;> cases nb <;> simp[bQ]at hn ⊢ <;> omega
      rw[e]at h0;exact h0
 obtain⟨v0,h0,goal⟩:=goal;refine⟨v0,h0,du (by rw[C.ft];exact aaj) aq ?_⟩;have out:=fun hh=>h0.out (hh:=hh)
 obtain⟨n0,x0,l0,rfl,hx0,o0,_,_⟩:=h0.shape;clear ha hb hz hz' h0;generalize br (WV dB l-WV dB m)=g at *
 have hxs:x = .vs (ak l) l.length none\/x = .ab:=by rcases hx with h|⟨h,_⟩ <;> simp[h]
 have hys:y = .vs (ak m) m.length none\/y = .ab:=by rcases hy with h|⟨h,_⟩ <;> simp[h]
 clear hx hy;unfold LJ;simp only[enter];rcases goal with ⟨rfl,r,qa,qb⟩|⟨hn,hg,r,qa,qb⟩|⟨hn,rfl,r,qa,qb⟩
 . cases na;all_goals
   . rcases hxs with rfl|rfl;all_goals
     . rcases hys with rfl|rfl;all_goals
       . repeat' first|(apply adN;rfl;rfl;(first|(simp only[nca];rfl)|rfl);first|exact qa _|exact qb _)|(apply adM;rfl;rfl;rfl;exact⟨rfl,aW _,iM o0⟩;rfl)|(apply adR;rfl;(first|(focus((repeat' first|exact bS|assumption|apply cm);done))|exact cJ aq);rfl)|apply aaQ|apply aa|apply aaf|apply aad|apply abw|apply aU|apply adr|apply adI|(apply adO;rfl)|(apply adJ;rfl;rfl;(first|(simp only[nca];rfl)|rfl))|(apply adW;rfl;(first|(simp only[nca];rfl)|rfl);(first|(simp only[nca];rfl)|rfl))|(apply abz;rfl)|(apply abU;rfl;rfl;rfl)|(apply abh;rfl;rfl)
         all_goals exact cD rfl rfl (out _)
 . cases na;all_goals
   . cases nb;all_goals first|exact absurd rfl hn|skip
     all_goals
     . rcases hxs with rfl|rfl;all_goals
       . rcases hys with rfl|rfl;all_goals
         . repeat' first|(apply abJ;rfl;rfl;first|exact q255 _|exact qa _|exact qb _)|(apply adN;rfl;rfl;(first|(simp only[nca];rfl)|rfl);first|exact q255 _|exact qa _|exact qb _)|(apply adM;rfl;rfl;rfl;exact⟨rfl,aW _,iM o0⟩;rfl)|(apply adR;rfl;(first|(focus((repeat' first|exact bS|assumption|apply cm);done))|exact cJ aq);rfl)|apply aaQ|apply aa|apply aaf|apply aad|apply abw|apply abC|apply aU|apply adr|apply adI|(apply adO;rfl)|(apply adJ;rfl;rfl;(first|(simp only[nca];rfl)|rfl))|(apply adW;rfl;(first|(simp only[nca];rfl)|rfl);(first|(simp only[nca];rfl)|rfl))|(apply abz;rfl)|(apply abx;rfl)|(apply adK;rfl;rfl)|(apply abU;rfl;rfl;rfl)|(apply abh;rfl;rfl)|(intro _;omega)|intro _
           all_goals try omega
           all_goals exact cD rfl rfl (out _)
 . cases na;all_goals
   . cases nb;all_goals first|exact absurd rfl hn|skip
     all_goals
     . rcases hxs with rfl|rfl;all_goals
       . rcases hys with rfl|rfl;all_goals
         . repeat' first|(apply abJ;rfl;rfl;first|exact q255 _|exact qa _|exact qb _)|(apply adN;rfl;rfl;(first|(simp only[nca];rfl)|rfl);first|exact q255 _|exact qa _|exact qb _)|(apply adM;rfl;rfl;rfl;exact⟨rfl,aW _,iM o0⟩;rfl)|(apply adR;rfl;(first|(focus((repeat' first|exact bS|assumption|apply cm);done))|exact cJ aq);rfl)|apply aaQ|apply aa|apply aaf|apply aad|apply abw|apply abC|apply adr|apply adI|(apply adO;rfl)|(apply adJ;rfl;rfl;(first|(simp only[nca];rfl)|rfl))|(apply adW;rfl;(first|(simp only[nca];rfl)|rfl);(first|(simp only[nca];rfl)|rfl))|(apply abx;rfl)|(apply adK;rfl;rfl)|(apply abU;rfl;rfl;rfl)|(apply abh;rfl;rfl)|(intro _;omega)|intro _
           all_goals try omega
           all_goals exact cD rfl rfl (out _)
theorem aaI (k n:Nat):fS (n/10^k%10)::dg k n=dg (k+1) n:=by
 refine Jx (by simp[mE]) fun j hj=>?_
 cases j with
 | zero=>rfl
 | succ j=>
  have e:(fS (n/10^k%10)::dg k n)[j+1]! = (dg k n)[j]! := by simp[ce]
  rw[e,CU ac,show k+1-1-(j+1)=k-1-j by omega]
theorem aaJ {d:Nat}(h:d<10):(([48,49,50,51,52,53,54,55,56,57]:aj).drop d).take (d+1-d)=[fS d]:=by
 match d,h with
 | 0,_=>rfl
 | 1,_=>rfl
 | 2,_=>rfl
 | 3,_=>rfl
 | 4,_=>rfl
 | 5,_=>rfl
 | 6,_=>rfl
 | 7,_=>rfl
 | 8,_=>rfl
 | 9,_=>rfl
theorem Ej:(10:Nat)^19=10000000000000000000:=rfl
theorem Mb (hft:M.FT=FT)(n L:Nat)(hn:n<9223372036854775808)(hL:1<=L/\L<=18):∃k,L<=k/\n<10^k/\(k=L\/10^(k-1)<=n)/\bg M 182 [.iV (n:Nat),.iV (L:Nat)] [] ⟨.str (dg k n),[],[]⟩:=by
 obtain⟨v,hh,⟨k,h1,h2,h3,rfl,rfl⟩,hr⟩:=gS (M:=M) (f:=182) (ars:=[.iV (n:Nat),.iV (L:Nat)]) (P:=fun v hh=>∃k,L<=k/\n<10^k/\(k=L\/10^(k-1)<=n)/\v = .str (dg k n)/\hh=[]) (by rw[hft];exact aan) aq (by
  unfold LO;simp only[enter];repeat' first|apply aaQ|apply aa|apply aaf|apply aad|apply abI|(apply abl;rfl;rfl)
  refine W.gH (fun m st=>∃j lo wr,st=⟨⟨[.iV (n/10^j:Nat),.iV L,.str [],.str (dg j n)],lo,[],[]⟩,wr⟩/\m=20-j/\j<=20/\(j<=L\/10^(j-1)<=n)) (fun m st ⟨j,lo,wr,hst,hm,hj,hb⟩=>?_) (m:=20) ⟨0,[],[],by rw[Nat.pow_zero,Nat.div_one];rfl,rfl,ac,.inl ac⟩;subst hst;have hl:=mE j n;by_cases hgo:0<n/10^j\/j<L
  . have hj19:j<19:=by
     rcases mp j 19 with h|h
     . exact h
     . exfalso;have p:(10:Nat)^19<=10^j:=gc am h;rw[Ej]at p;have:n/10^j=0:=pi ac;omega
    have hd:n/10^j%10<10:=Nat.mod_lt _ am;have ec:=aaJ hd;have ef:=aaI j n;have eq:n/10^j/10=n/10^(j+1):=by rw[Nat.div_div_eq_div_mul,Nat.pow_succ]
    have hb':j+1<=L\/10^(j+1-1)<=n:=by
     rcases hgo with h|h
     . right;rw[n4];refine li fun h2=>?_
       rw[pi h2]at h;omega
     . exact .inl h
    have hq:n/10^j<=n:=m6 _ _;obtain⟨q,hqq⟩:∃q,q=n/10^j:=⟨_,rfl⟩;rw[←hqq]at hd ec ef eq hq hgo;rw[←hqq];generalize dg j n=s at *
    have e1:(((q:Nat):Int)%10).toNat=q%10:=by omega
    have e2:(((q:Nat):Int)%10+1).toNat=q%10+1:=by omega
    have ec':(([48,49,50,51,52,53,54,55,56,57]:aj).drop (((q:Nat):Int)%10).toNat).take ((((q:Nat):Int)%10+1).toNat-(((q:Nat):Int)%10).toNat)=[fS (q%10)]:=by rw[e1,e2];exact ec
    have l1:([fS (q%10)]:aj).length=1:=rfl;have fin:∀lo wr,LI (fun st=>∃m',m'<m/\∃j lo wr,st=⟨⟨[.iV (n/10^j:Nat),.iV L,.str [],.str (dg j n)],lo,[],[]⟩,wr⟩/\m'=20-j/\j<=20/\(j<=L\/10^(j-1)<=n))
     (BQ 0 (SQ M (zR [zm 24 3,zw 2 24] (.ret)) (fun e s=>(e = .normal\/e = .ret)/\s.s.cg=[]/\∃vs,dH s.s [.var (.p 2)]=some vs/\∃k,L<=k/\n<10^k/\(k=L\/10^(k-1)<=n)/\aV vs = .str (dg k n)/\(if (aV vs).top<=0 then [] else s.s.hp)=[])))
     .normal ⟨⟨[.iV (((q:Nat):Int)/10),.iV L,.str [],.str ([fS (q%10)]++s)],lo,[],[]⟩,wr⟩:=fun lo wr=>
     cW ⟨20-(j+1),ac,j+1,lo,wr,by
      rw[←ef,←eq];rfl,rfl,ac,hb'⟩
    unfold Ea;repeat' first|(apply afk (r:=[fS (q%10)]);rfl;rfl;rfl;(simp only[c7,cd];omega);exact ec')|(apply aer;rfl;rfl;omega;omega)|(apply aes;rfl;rfl;omega;omega)|apply aaQ|apply aa|apply aaf|apply aad|apply abI|apply abC|apply bE|(apply abz;rfl)|(apply adb;rfl)|(apply adU;rfl)|(apply abR;rfl;rfl)|(apply abV;rfl;rfl)|(apply aco;rfl;rfl)|(apply acw;rfl;rfl)|(apply acS;rfl;rfl;omega)|(apply aeo;rfl;rfl;first|omega|(simp only[bc,c7,cd];omega)|(simp;omega))|(apply abh;rfl;rfl)|(apply abl;rfl;rfl)|(intro _;omega)|intro _
    all_goals try omega
    all_goals exact fin _ _
  . have h0:n/10^j=0:=(jR _).resolve_right fun h=>hgo (.inl h)
    rw[h0];have hlt:n<10^j:=by
     refine Nat.lt_of_not_le fun h=>?_
     have:=Nat.div_pos h (Nat.pow_pos am);omega
    have hk:j=L\/10^(j-1)<=n:=by omega
    unfold Ea;repeat' first|apply aaQ|apply aa|apply aaf|apply aad|apply abw|apply acH|apply bN|apply bJ|apply cX|(apply abx;rfl)|(apply adb;rfl)|(apply abR;rfl;rfl)|(apply abV;rfl;rfl)|(apply acw;rfl;rfl)|(apply abh;rfl;rfl)|(apply abl;rfl;rfl)|(intro _;omega)|intro _
    all_goals try omega
    all_goals exact⟨.inr rfl,rfl,_,rfl,j,ac,hlt,hk,rfl,rfl⟩)
 exact⟨k,h1,h2,h3,hr⟩
theorem aaK (hft:M.FT=FT)(n:Nat)(hn:n<9223372036854775808):bg M 182 [.iV (n:Nat),.iV 1] [] ⟨.str (bh n),[],[]⟩:=by
 obtain⟨k,h1,h2,h3,hr⟩:=Mb hft n 1 ac am;obtain⟨k,rfl⟩:∃j,k=j+1:=⟨k-1,ac⟩;rw[n4]at h3;rw[CV h2 ac];exact hr
theorem aaL (hft:M.FT=FT)(n:Nat)(hn:n<1000000000):bg M 182 [.iV (n:Nat),.iV 9] [] ⟨.str (dg 9 n),[],[]⟩:=by
 obtain⟨k,h1,h2,h3,hr⟩:=Mb hft n 9 ac am;have:k=9:=by
  rcases h3 with h|h
  . exact h
  . refine Nat.le_antisymm (li fun h9=>?_) h1;have p:(10:Nat)^9<=10^(k-1):=gc am ac;have e:(10:Nat)^9=1000000000:=rfl;omega
 subst this;exact hr
structure Mc (M:ax):Prop where
 ft:M.FT=FT
 Md:∀(n:Nat) h,n<1000000000->M.ext 182 [.iV (n:Nat),.iV 1] h=some ⟨.str (bh n),h,[]⟩
 Me:∀(n:Nat) h,n<1000000000->M.ext 182 [.iV (n:Nat),.iV 9] h=some ⟨.str (dg 9 n),h,[]⟩
theorem Mf {x:Int}(h:0<=x/\x<1000000000):∃n:Nat,x=(n:Int)/\n<1000000000:=⟨x.toNat,ac,ac⟩
theorem aaM (C:Mc M){a:AV}{z:Int}(ha:bW a z)(lz:al z<dB^N)(hN:N<=100000):bg M 129 [a] [] ⟨.str (cM z),[],[]⟩:=by
 obtain⟨neg,x,l,rfl,hx,ok,nr,ll,hz,hv,hnn⟩:=ha.abs lz;by_cases h0:l=[]
 . subst h0;have hneg:neg=false:=by
    cases neg with
    | false=>rfl
    | true=>exact absurd rfl (hnn rfl)
   subst hneg;have z0:z=0:=by rw[hz];rfl
   subst z0;have e0:cM 0=[48]:=by rw[mG am];exact jV am
   rw[e0];refine bY (by rw[C.ft];exact LP) aq ?_;have hl0:([]:List Int).length=0:=rfl;unfold Eb;simp only[enter];rcases hx with rfl|⟨rfl,_⟩;all_goals
   . repeat' first|apply aaQ|apply aa|apply aaf|apply aad|apply abw|apply aU|(apply abz;rfl)|(apply acR;rfl;rfl)|(apply adR;rfl;(first|(focus((repeat' first|exact bS|assumption|apply cm);done))|exact cJ aq);rfl)|(apply abU;rfl;rfl;rfl)|(apply abh;rfl;rfl)|(apply abl;rfl;rfl)|(intro _;omega)|intro _
     all_goals try omega
     all_goals exact⟨.inr rfl,rfl,_,rfl,rfl,rfl⟩
 . obtain rfl:x = .vs (ak l) l.length none:=hx.resolve_right fun h=>h0 h.2
   have hl0:0<l.length:=cK.2 h0;have hzs:cM z=(if neg then 45::bh (WV dB l).toNat else bh (WV dB l).toNat):=by
    have hp:=(je (b:=dB) am ok nr).2 h0;rw[hz];cases neg with
    | false=>
     have e:bQ false (WV dB l)=WV dB l:=rfl;rw[e,mG ac,fu ac];rfl
    | true=>
     have e:bQ true (WV dB l) = -WV dB l:=rfl;rw[e,nW ac,jt,fu ac];rfl
   have dlen:∀k,k<=l.length->(bh (WV dB (l.drop (l.length-k))).toNat).length<=9*k+1:=fun k hk=>by
    refine wI (k:=9*k+1) ?_ ac;have h1:=dz (b:=dB) am (jd ok (l.length-k));have h2:=cA (b:=dB) am (jd ok (l.length-k));rw[d6,show l.length-(l.length-k)=k by omega,←Lc]at h1;have:(10:Nat)^(9*k+1)=10^(9*k)*10:=Nat.pow_succ ..;omega
   have hlast:=(BU hl0).1 nr;have gl:=cj ok (i:=l.length-1) ac;have gl:0<=l[l.length-1]! /\ l[l.length-1]! < 1000000000:=gl;obtain⟨n0,hn0,hn0l⟩:=Mf gl;have eIl:(((l.length:Int))-1).toNat=l.length-1:=by omega
   have q1:∀h,M.ext 182 [.iV l[(((l.length:Int))-1).toNat]!,.iV 1] h=some ⟨.str (bh n0),h,[]⟩:=fun h=>by rw[eIl,hn0];exact C.Md n0 h hn0l
   have ed0:(WV dB (l.drop (l.length-1))).toNat=n0:=by
    rw[d8 (show l.length-1<l.length by omega),show l.length-1+1=l.length by omega,le,←getElem!_pos l (l.length-1) ac,hn0];simp[WV]
   refine bY (by rw[C.ft];exact LP) aq ?_;unfold Eb;simp only[enter];repeat' first|apply aaQ|apply aa|apply aaf|apply aad|apply abI|apply abC|(apply abx;rfl)|(apply acR;rfl;rfl)|(apply adj;rfl;rfl;omega)|(apply abJ;rfl;rfl;first|exact q1 _)|(apply adR;rfl;(first|(focus((repeat' first|exact bS|assumption|apply cm);done))|exact cJ aq);rfl)|(apply adp;rfl;rfl;omega)|(apply adL;rfl;exact fun _=>rfl;(first|omega|(simp only[aZ];omega)|(simp;omega));decide;rfl;case ia=>infer_instance)|(apply abU;rfl;rfl;rfl)|(apply abh;rfl;rfl)|(apply abl;rfl;rfl)|(intro _;omega)|intro _
   all_goals try omega
   refine W.gH (fun m st=>∃k lo wr,st=⟨⟨[.agg [.bool neg,.vs (ak l) l.length none],.ptr 0 0,.str [],.str (bh (WV dB (l.drop (l.length-k))).toNat),.iV ((l.length:Int)-1-(k:Nat))],lo,[some (.cells [.bool neg,.vs (ak l) l.length none] 200)],[]⟩,wr⟩/\m=l.length-k/\1<=k/\k<=l.length) (fun m st ⟨k,lo,wr,hst,hm,hk1,hk⟩=>?_) (m:=l.length-1) ⟨1,_,_,by rw[ed0,show (l.length:Int)-1-((1:Nat):Int)=(l.length:Int)-2 by omega];rfl,rfl,ac,ac⟩;subst hst;have dk:=dlen k hk;by_cases hend:k=l.length
   . subst hend;have e0:l.drop (l.length-l.length)=l:=by rw[Nat.sub_self,m8]
     rw[e0]at dk ⊢;have l45:([45]:aj).length=1:=rfl;rw[hzs];generalize bh (WV dB l).toNat=s0 at *
     cases neg with
     | true=>
      unfold xS;repeat' first|apply aaQ|apply aa|apply aaf|apply aad|apply abw|apply acH|apply aU|apply bN|apply bJ|apply cX|(apply abz;rfl)|(apply abx;rfl)|(apply adK;rfl;rfl)|(apply aeo;rfl;rfl;first|omega|(simp only[bc,c7,cd];omega)|(simp;omega))|(apply acn;rfl;rfl;rfl)|(apply abh;rfl;rfl)|(apply abl;rfl;rfl)|(intro _;omega)|intro _
      all_goals try omega
      all_goals exact⟨.inr rfl,rfl,_,rfl,rfl,rfl⟩
     | false=>
      unfold xS;repeat' first|apply aaQ|apply aa|apply aaf|apply aad|apply abw|apply acH|apply abC|apply bN|apply bJ|apply cX|(apply abx;rfl)|(apply adK;rfl;rfl)|(apply acn;rfl;rfl;rfl)|(apply abh;rfl;rfl)|(apply abl;rfl;rfl)|(intro _;omega)|intro _
      all_goals try omega
      all_goals exact⟨.inr rfl,rfl,_,rfl,rfl,rfl⟩
   . have gi:=cj ok (i:=l.length-1-k) ac;have gi:0<=l[l.length-1-k]! /\ l[l.length-1-k]! < 1000000000:=gi;obtain⟨ni,hni,hnil⟩:=Mf gi;have eIi:(((l.length:Int))-1-(k:Nat)).toNat=l.length-1-k:=by omega
     have q2:∀h,M.ext 182 [.iV l[(((l.length:Int))-1-(k:Nat)).toNat]!,.iV 9] h=some ⟨.str (dg 9 ni),h,[]⟩:=fun h=>by rw[eIi,hni];exact C.Me ni h hnil
     have hnext:bh (WV dB (l.drop (l.length-(k+1)))).toNat=bh (WV dB (l.drop (l.length-k))).toNat++dg 9 ni:=by
      have e1:l.drop (l.length-(k+1))=(ni:Int)::l.drop (l.length-k):=by
       rw[d8 (show l.length-(k+1)<l.length by omega),←getElem!_pos l (l.length-(k+1)) ac,show l.length-(k+1)=l.length-1-k by omega,hni,show l.length-1-k+1=l.length-k by omega]
      have h0:=cA (b:=dB) am (jd ok (l.length-k));have hp:0<WV dB (l.drop (l.length-k)):=by
       refine(je (b:=dB) am (jd ok _) ?_).2 (fun e=>?_)
       . refine(BU (by rw[d6];omega)).2 ?_;rw[d6,ce,nO,show l.length-k+(l.length-(l.length-k)-1)=l.length-1 by omega,←ce];exact hlast
       . have:=congrArg j9 e;rw[d6,cd]at this;omega
      obtain⟨A,hA⟩:∃A:Nat,WV dB (l.drop (l.length-k))=(A:Int):=⟨_,(Int.toNat_of_nonneg h0).symm⟩;have e2:WV dB ((ni:Int)::l.drop (l.length-k))=((A*10^9+ni:Nat):Int):=by
       show (ni:Int)+dB*WV dB (l.drop (l.length-k))=_;rw[hA];show (ni:Int)+1000000000*A=_;omega
      rw[e1,e2,hA,fg,fg];exact Jy ac (by show ni<1000000000;exact hnil)
     have hl9:=mE 9 ni;generalize bh (WV dB (l.drop (l.length-k))).toNat=s0 at *
     generalize dg 9 ni=s9 at *
     have next:∀lo wr Q,LI (fun st=>∃m',m'<m/\∃k lo wr,st=⟨⟨[.agg [.bool neg,.vs (ak l) l.length none],.ptr 0 0,.str [],.str (bh (WV dB (l.drop (l.length-k))).toNat),.iV ((l.length:Int)-1-(k:Nat))],lo,[some (.cells [.bool neg,.vs (ak l) l.length none] 200)],[]⟩,wr⟩/\m'=l.length-k/\1<=k/\k<=l.length) Q .normal ⟨⟨[.agg [.bool neg,.vs (ak l) l.length none],.ptr 0 0,.str [],.str (s0++s9),.iV ((l.length:Int)-1-(k:Nat)-1)],lo,[some (.cells [.bool neg,.vs (ak l) l.length none] 200)],[]⟩,wr⟩:=fun lo wr Q=>
      cW ⟨l.length-(k+1),ac,k+1,lo,wr,by rw[hnext,show (l.length:Int)-1-((k+1:Nat):Int)=(l.length:Int)-1-(k:Nat)-1 by omega],rfl,ac,ac⟩
     unfold xS;repeat' first|apply aaQ|apply aa|apply aaf|apply aad|apply abI|apply abC|apply bE|(apply abz;rfl)|(apply adK;rfl;rfl)|(apply adj;rfl;rfl;omega)|(apply aeo;rfl;rfl;first|omega|(simp only[bc,c7,cd];omega)|(simp;omega))|(apply abJ;rfl;rfl;first|exact q2 _)|(apply adp;rfl;rfl;omega)|(apply adL;rfl;exact fun _=>rfl;(first|omega|(simp only[aZ];omega)|(simp;omega));decide;rfl;case ia=>infer_instance)|(apply acn;rfl;rfl;rfl)|(apply abh;rfl;rfl)|(apply abl;rfl;rfl)|(intro _;omega)|intro _
     all_goals try omega
     all_goals exact next _ _ _
section
variable {t:Nat} {x y:aO} {l:List aY} {pe:List AV} {lo:List (Nat×AV)} {df wr:List Nat} {v a d:Int} {Q:au->Prop}
theorem aeX (hx:(St.mk pe lo hp df).ah x=some (.iV a))(hy:(St.mk pe lo hp df).ah y=some (.iV d))(ha : -9223372036854775808<=a/\a<9223372036854775808)(hd:0<d)(hv:a.tdiv d=v)
 (h:WO M l ⟨⟨pe,(t,.iV v)::lo,hp,df⟩,wr⟩ Q):WO M (⟨.l t,.bin .quo x y,none⟩::l) ⟨⟨pe,lo,hp,df⟩,wr⟩ Q:=aey hx hy hd ha (by rw[hv];exact h)
theorem afh (hx:(St.mk pe lo hp df).ah x=some (.iV a))(hy:(St.mk pe lo hp df).ah y=some (.iV d))(hd:0<d)(hv:a.tmod d=v)
 (h:WO M l ⟨⟨pe,(t,.iV v)::lo,hp,df⟩,wr⟩ Q):WO M (⟨.l t,.bin .rem x y,none⟩::l) ⟨⟨pe,lo,hp,df⟩,wr⟩ Q:=aez hx hy ac (by rw[hv];exact h)
end
theorem aaN {neg:Bool}{m:Int}(h:0<=m):(bQ neg m).tmod 1000000000=bQ neg (m%1000000000):=by
 cases neg with
 | false=>exact gU h
 | true=>show (-m).tmod _=_;rw[Int.neg_tmod,gU h];rfl
theorem aaO {neg:Bool}{m:Int}(h:0<=m):(bQ neg m).tdiv 1000000000=bQ neg (m/1000000000):=by
 cases neg with
 | false=>exact gT h
 | true=>show (-m).tdiv _=_;rw[Int.neg_tdiv,gT h];rfl
theorem aaP (hft:M.FT=FT)(dV:∀ars h,M.ext 236 ars h=none)(neg:Bool)(K:ae):bg M 183 [.bool neg,.ab] K ⟨.agg [.bool false,.ab],K,[]⟩:=by
 have q1:=fun K=>CT.run (fi:=[]) (ca:=[]) (ars:=[.ab]) (dV _ _) (Eg hft K)
 refine mg (by rw[hft];exact xr) aq (by simp[AV.top,bz]) ?_;unfold sG;simp only[enter];cases neg with
 | false=>
  repeat' first|(apply adS;rfl;rfl;exact⟨rfl,by first|exact aW _|decide|(simp[overwrite]),rfl⟩;rfl)|apply aaQ|apply aa|apply aaf|apply aad|apply abw|(apply adu;rfl)|(apply acw;rfl;rfl)|(apply adQ;rfl;rfl;first|exact q1 _)|(apply abU;rfl;rfl;rfl)|(apply abh;rfl;rfl)|(apply abl;rfl;rfl)
  all_goals try omega
  all_goals exact⟨.inr rfl,rfl,⟨_,rfl⟩,aq,_,ot rfl bS,rfl⟩
 | true=>
  repeat' first|(apply adS;rfl;rfl;exact⟨rfl,by first|exact aW _|decide|(simp[overwrite]),rfl⟩;rfl)|apply aaQ|apply aa|apply aaf|apply aad|apply abw|(apply acF;rfl)|(apply abV;rfl;rfl)|(apply aco;rfl;rfl)|(apply adQ;rfl;rfl;first|exact q1 _)|(apply abU;rfl;rfl;rfl)|(apply abh;rfl;rfl)|(apply abl;rfl;rfl)|(intro _;omega)|intro _
  all_goals try omega
  all_goals exact⟨.inr rfl,rfl,⟨_,rfl⟩,aq,_,ot rfl bS,rfl⟩
structure CWh (M:ax):Prop where
 ft:M.FT=FT
 dV:∀ars h,M.ext 236 ars h=none
 sO:∀ars h,M.ext 183 ars h=none
theorem Mh:(dB:Int)^3=1000000000000000000000000000:=by decide
theorem aaR (C:CWh M)(n:Int)(hn : -9223372036854775808<=n/\n<9223372036854775808):∃v0,bW v0 n/\de M 130 [.iV n] v0:=by
 obtain⟨neg,m0,hm0,rfl,hneg⟩:∃(neg:Bool) (m:Int),0<=m/\n=bQ neg m/\neg=decide (n<0):=by
  by_cases h:n<0
  . exact⟨true,-n,ac,by show n = - -n;omega,(decide_eq_true h).symm⟩
  . exact⟨false,n,ac,rfl,(decide_eq_false h).symm⟩
 have hmb:m0<=9223372036854775808:=by cases neg <;> simp[bQ]at hn <;> omega
 obtain⟨v,hh,⟨v0,h0,ho⟩,hr⟩:=gS (M:=M) (f:=130) (ars:=[.iV (bQ neg m0)]) (P:=fun v hh=>∃v0,bW v0 (bQ neg m0)/\dQ v hh v0) (by rw[C.ft];exact Ze) aq (by
  have start:∀(Q:Ex->au->Prop),(∀lo wr,W M (.loop ql) ⟨⟨[.iV (bQ neg m0),.ptr 0 0,.ab,.bool neg,cG],lo,[some (.cells [.bool false,.ab] 200)],[]⟩,wr⟩ (BQ 0 (SQ M (zR [zm 22 3,
   zm 23 2,
   z2 24 183 22 23,
   zs 2 1 24]
   (.ret)) Q)))->W M Dv ⟨⟨[.iV (bQ neg m0),cG,cG,cG,cG],[],[],[]⟩,[]⟩ Q:=fun Q hQ=>by
   unfold Dv;cases neg with
   | true=>
    have h1:bQ true m0<0:=of_decide_eq_true hneg.symm;generalize bQ true m0=z at *
    repeat' first|apply aaQ|apply aa|apply aaf|apply aad|apply abI|(apply abR;rfl;rfl)|(apply abU;rfl;rfl;rfl)|(apply abh;rfl;rfl)|(apply abl;rfl;rfl)|(intro _;omega)|intro _
    all_goals try omega
    all_goals exact hQ _ _
   | false=>
    have h1:¬bQ false m0<0:=of_decide_eq_false hneg.symm;generalize bQ false m0=z at *
    repeat' first|apply aaQ|apply aa|apply aaf|apply aad|apply abI|(apply abR;rfl;rfl)|(apply abU;rfl;rfl;rfl)|(apply abh;rfl;rfl)|(apply abl;rfl;rfl)|(intro _;omega)|intro _
    all_goals try omega
    all_goals exact hQ _ _
  simp only[enter];refine start _ fun lo wr=>?_
  refine W.gH (fun k st=>∃m acc o a4 K lo wr,st=⟨⟨[.iV (bQ neg m),.ptr 0 0,o,.bool neg,a4],lo,K,[]⟩,wr⟩/\0<=m/\k=m.toNat/\m<=m0/\(acc=[]->o = .ab)/\acc.length<=3/\m<dB^(3-acc.length)/\okW dB acc/\WV dB acc+dB^acc.length*m=m0/\bC iC 1 3 K o acc [0]/\K.at 0=some (.cells [.bool false,.ab] 200))
   (fun k st ⟨m,acc,o,a4,K,lo,wr,hst,hm,hk,hmx,hnil,hla,hlt,oA,hv,ho,hK⟩=>?_) (m:=m0.toNat) ⟨m0,[],.ab,_,_,_,_,rfl,hm0,rfl,Int.le_refl _,fun _=>rfl,aq,by show m0<dB^3;rw[Mh];omega,iI,by simp[WV],.kj,rfl⟩
  subst hst;have hK1:=gG hK;by_cases hz:m=0
  . subst hz;have e0:bQ neg 0=0:=by cases neg <;> rfl
    rw[e0];rw[c6,dr]at hv;rcases ho with ⟨rfl,rfl⟩|⟨c,cp,hc0,rfl,hc,hcap⟩
    . have q:=fun K=>CT.run (fi:=[]) (ca:=[]) (ars:=[.bool neg,.ab]) (C.sO _ _) (aaP C.ft C.dV neg K)
      have z0:m0=0:=by rw[←hv];rfl
      subst z0;have out:∃v0,bW v0 (bQ neg 0)/\∀hh,dQ (.agg [.bool false,.ab]) hh v0:=⟨_,⟨false,.ab,[],rfl,.inr ⟨rfl,rfl⟩,iI,jP,by rw[e0];rfl,fun h=>by cases h⟩,fun hh=>.same rfl rfl⟩;obtain⟨v0,k0,out⟩:=out;unfold ql;repeat' first|(apply adM;rfl;rfl;exact hK;exact⟨rfl,aW _,rfl⟩;rfl)|apply aaQ|apply aa|apply aaf|apply aad|apply abw|apply acH|apply bN|apply bJ|apply cX|(apply abx;rfl)|(apply adf;rfl;rfl)|(apply adQ;rfl;rfl;first|exact q _)|(apply abh;rfl;rfl)|(intro _;omega)|intro _
      all_goals try omega
      all_goals exact⟨.inr rfl,rfl,_,ot rfl (cJ hK1),v0,k0,out _⟩
    . have hpos:0<acc.length\/acc.length=0:=by omega
      rcases hpos with hp|hp
      . obtain rfl:cp=none:=hcap.resolve_right fun h=>by rw[h.1]at hp;simp at hp
        have q183:=CT.run (fi:=[]) (ca:=[]) (ars:=[.bool neg,.sl c 0 acc.length 1 none]) (C.sO _ _) (Lb (cap:=none) C.ft C.dV neg hc hp (aW _) ac (fun _ h=>by cases h));have hcn:c≠0:=fun e=>hc0 (by simp[e])
        obtain⟨v0,k0,o0⟩:=Ld (K:=K.put 0 (some (.cells [.bool (neg && decide (0<aS (acc.take acc.length))),bO c (aS (acc.take acc.length)) none] 200))) (neg:=neg) (Al hcn hc) oA;have k0:=k0.sN;rw[hv]at k0;have hone:cI (bO c (aS (acc.take acc.length)) none)=true:=by unfold bO;split <;> rfl
        unfold ql;repeat' first|(apply adM;rfl;rfl;exact hK;exact⟨rfl,aW _,by rw[f7,f7,n8,hone];rfl⟩;rfl)|apply aaQ|apply aa|apply aaf|apply aad|apply abw|apply acH|apply bN|apply bJ|apply cX|(apply abx;rfl)|(apply adf;rfl;rfl)|(apply adQ;rfl;rfl;first|exact q183)|(apply abh;rfl;rfl)|(intro _;omega)|intro _
        all_goals try omega
        all_goals exact⟨.inr rfl,rfl,_,ot rfl (cJ hK1),v0,k0,o0⟩
      . have ha:acc=[]:=db hp;have:=hnil ha;cases this
  . have hm1:1<=m:=by omega
    have hl2:acc.length<=2:=by
     refine li fun h=>?_
     have:acc.length=3:=by omega
     rw[this]at hlt;simp at hlt;omega
    have hmod:=aaN (neg:=neg) hm;have hdiv:=aaO (neg:=neg) hm;obtain⟨r,hr⟩:∃r,r=m%1000000000:=⟨_,rfl⟩;obtain⟨q,hq⟩:∃q,q=m/1000000000:=⟨_,rfl⟩;rw[←hr]at hmod;rw[←hq]at hdiv;have hroom:(acc.length+1)*8<=dO:=by unfold dO;omega
    have hnz:bQ neg m≠0:=by cases neg <;> simp[bQ] <;> omega
    have hrange : -9223372036854775808<=bQ neg m/\bQ neg m<9223372036854775808:=by
     cases neg <;> simp[bQ]at hn ⊢ <;> omega
    have next:∀(o':AV) H a4 lo wr Q,bC iC 1 3 H o' (acc++[r]) [0]->H.at 0=some (.cells [.bool false,.ab] 200)->LI (fun st=>∃k',k'<k/\∃m acc o a4 K lo wr,st=⟨⟨[.iV (bQ neg m),.ptr 0 0,o,.bool neg,a4],lo,K,[]⟩,wr⟩/\0<=m/\k'=m.toNat/\m<=m0/\(acc=[]->o = .ab)/\acc.length<=3/\m<dB^(3-acc.length)/\okW dB acc/\WV dB acc+dB^acc.length*m=m0/\bC iC 1 3 K o acc [0]/\K.at 0=some (.cells [.bool false,.ab] 200)) Q .normal ⟨⟨[.iV (bQ neg q),.ptr 0 0,o',.bool neg,a4],lo,H,[]⟩,wr⟩:=fun o' H a4 lo wr Q ho' hH=>
     cW ⟨q.toNat,ac,q,acc++[r],o',a4,H,lo,wr,rfl,ac,rfl,ac,fun h=>by simp at h,by simp;omega,by
      have e:dB^(3-acc.length)=dB^(3-(acc++[r]).length)*dB:=by
       rw[←b8,bc,d7];congr 1;omega
      rw[e]at hlt;rw[hq];exact i8 am hlt,js oA (fun z hz=>by rw[bj.1 hz];exact⟨ac,by show _<(1000000000:Int);omega⟩),by
      rw[fN,bc,d7,b8,←hv];have e1:WV dB [r]=r:=by simp[WV]
      have e2:m=r+1000000000*q:=by omega
      rw[e1,e2];show WV dB acc+dB^acc.length*r+dB^acc.length*1000000000*q=_;grind,ho',hH⟩
    have hr9:0<=r/\r<1000000000:=by omega
    have fin:∀rv,rv=r->∀(o':AV) H a4 lo wr Q,bC iC 1 3 H o' (acc++[rv]) [0]->H.at 0=some (.cells [.bool false,.ab] 200)->LI (fun st=>∃k',k'<k/\∃m acc o a4 K lo wr,st=⟨⟨[.iV (bQ neg m),.ptr 0 0,o,.bool neg,a4],lo,K,[]⟩,wr⟩/\0<=m/\k'=m.toNat/\m<=m0/\(acc=[]->o = .ab)/\acc.length<=3/\m<dB^(3-acc.length)/\okW dB acc/\WV dB acc+dB^acc.length*m=m0/\bC iC 1 3 K o acc [0]/\K.at 0=some (.cells [.bool false,.ab] 200)) Q .normal ⟨⟨[.iV (bQ neg q),.ptr 0 0,o',.bool neg,a4],lo,H,[]⟩,wr⟩:=fun rv e=>by subst e;exact next
    clear next
    obtain⟨d,hd⟩:∃d,d=bQ neg r:=⟨_,rfl⟩;rw[←hd]at hmod;by_cases hdn:d<0
    . have e:0-d=r:=by cases neg <;> simp[bQ]at hd <;> omega
      unfold ql;repeat' first|(apply afh (v:=d);rfl;rfl;omega;exact hmod)|(apply aeX (v:=bQ neg q);rfl;rfl;exact hrange;omega;exact hdiv)|(refine bC.app (f:=iC) (m:=[0-d]) (S:=[0]) (fun _=>rfl) (fun _=>rfl) am (ho.grow [_]) aq rfl rfl (Sl.iZ (f:=iC) (esz:=1) (l:=[0-d]) (e:=3) (fun _=>rfl) bS rfl) hroom (fun H w' o' ho' hk hlen=>?_))|apply aaQ|apply aa|apply aaf|apply aad|apply abI|apply abC|apply bE|(apply abz;rfl)|(apply abR;rfl;rfl)|(apply adf;rfl;rfl)|(apply adj;rfl;rfl;omega)|(apply acn;rfl;rfl;rfl)|(apply abh;rfl;rfl)|(apply abl;rfl;rfl)|(intro _;omega)|intro _
      all_goals try omega
      all_goals exact fin _ e _ _ _ _ _ _ ho' (hk 0 _ aq (cm hK))
    . have e:d=r:=by cases neg <;> simp[bQ]at hd <;> omega
      unfold ql;repeat' first|(apply afh (v:=d);rfl;rfl;omega;exact hmod)|(apply aeX (v:=bQ neg q);rfl;rfl;exact hrange;omega;exact hdiv)|(refine bC.app (f:=iC) (m:=[d]) (S:=[0]) (fun _=>rfl) (fun _=>rfl) am (ho.grow [_]) aq rfl rfl (Sl.iZ (f:=iC) (esz:=1) (l:=[d]) (e:=3) (fun _=>rfl) bS rfl) hroom (fun H w' o' ho' hk hlen=>?_))|apply aaQ|apply aa|apply aaf|apply aad|apply abI|apply abC|apply bE|(apply abz;rfl)|(apply abx;rfl)|(apply abR;rfl;rfl)|(apply adf;rfl;rfl)|(apply acn;rfl;rfl;rfl)|(apply abh;rfl;rfl)|(apply abl;rfl;rfl)|(intro _;omega)|intro _
      all_goals try omega
      all_goals exact fin _ e _ _ _ _ _ _ ho' (hk 0 _ aq (cm hK)))
 exact⟨v0,h0,v,hh,ho,hr⟩
theorem aaS (hft:M.FT=FT)(b:List Int)(q255:∀h,M.ext 255 [.ab,.vs (ak b) b.length c2] h=some ⟨.iV (-1),h,[]⟩):bg M 224 [.ab,.vs (ak b) b.length c2] [] ⟨.ay [.ab,.ab],[],[]⟩:=by
 refine bY (by rw[hft];exact KQ) aq ?_;unfold Dx;simp only[enter];repeat' first|apply aaQ|apply aa|apply aaf|apply aad|apply abw|apply aU|(apply abz;rfl)|(apply abR;rfl;rfl)|(apply abJ;rfl;rfl;first|exact q255 _)|(apply abh;rfl;rfl)|(apply abl;rfl;rfl)|(intro _;omega)|intro _
 all_goals try omega
 all_goals exact⟨.inr rfl,rfl,_,rfl,rfl,rfl⟩
structure Mi (M:ax):Prop where
 ft:M.FT=FT
 ky:∀(x:AV) (a b:List Int),cH x a->okW dB a->okW dB b->aR a->aR b->a.length<100000->b.length<100000->b≠[]->∃qv q rv r,cH qv q/\cH rv r/\okW dB q/\aR q/\okW dB r/\aR r/\WV dB q=WV dB a/WV dB b/\WV dB r=WV dB a%WV dB b/\∀h,M.ext 224 [x,.vs (ak b) b.length none] h=some ⟨.ay [qv,rv],h,[]⟩
theorem aaT (C:Mi M){x y:AV}(a b:List Int)(hx:cH x a)(hy:cH y b)(oa:okW dB a)(ob:okW dB b)(na:aR a)(nb:aR b)(la:a.length<100000)(lb:b.length<100000) :
 ∃gv g,cH gv g/\okW dB g/\aR g/\WV dB g=(ci (WV dB a) (WV dB b):Nat)/\g.length<100000/\de M 171 [x,y] gv:=by
 obtain⟨v,hh,⟨gv,g,ig,og,ng,vg,lg,ho⟩,hr⟩:=gS (M:=M) (f:=171) (ars:=[x,y]) (P:=fun v hh=>∃gv g,cH gv g/\okW dB g/\aR g/\WV dB g=(ci (WV dB a) (WV dB b):Nat)/\g.length<100000/\dQ v hh gv) (by rw[C.ft];exact KP) aq (by
  unfold Dw;simp only[enter];repeat' first|apply aaQ|apply aa|apply aaf|apply aad|apply abI|(apply abl;rfl;rfl)
  refine W.gH (fun m st=>∃A B xA y a3 lo wr,st=⟨⟨[xA,y,.ab,a3],lo,[],[]⟩,wr⟩/\cH xA A/\cH y B/\m=(WV dB B).toNat/\okW dB A/\aR A/\A.length<100000/\okW dB B/\aR B/\B.length<100000/\ci (WV dB A) (WV dB B)=ci (WV dB a) (WV dB b))
   (fun m st ⟨A,B,xA,y,a3,lo,wr,hst,hxA,hy,hm,oA,nA,lA,oB,nB,lB,hg⟩=>?_) (m:=(WV dB b).toNat) ⟨a,b,x,y,_,_,_,rfl,hx,hy,rfl,oa,na,la,ob,nb,lb,rfl⟩
  subst hst;by_cases hB:B=[]
  . subst hB;have hl0:([]:List Int).length=0:=rfl;obtain⟨_,t1,k1⟩:=sP xA hxA;have fin:dQ (aV [xA]) (if (aV [xA]).top<=0 then [] else []) xA:=.same t1 k1;have hv:WV dB A=(ci (WV dB a) (WV dB b):Nat):=by
     rw[←hg];have:=cA (b:=dB) am oA;show WV dB A=(ci (WV dB A) 0:Nat);rw[n3];omega
    rcases hy with rfl|⟨rfl,_⟩;all_goals
    . unfold sI;repeat' first|apply aaQ|apply aa|apply aaf|apply aad|apply abw|apply acH|apply bN|apply bJ|apply cX|(apply abx;rfl)|(apply abV;rfl;rfl)|(apply abh;rfl;rfl)|(apply abl;rfl;rfl)|(intro _;omega)|intro _
      all_goals try omega
      all_goals exact⟨.inr rfl,rfl,_,rfl,xA,A,hxA,oA,nA,hv,lA,fin⟩
  . obtain rfl:y = .vs (ak B) B.length none:=hy.resolve_right fun h=>hB h.2
    have hBl:0<B.length:=cK.2 hB;have hBp:=(je (b:=dB) am oB nB).2 hB;have hA0:=cA (b:=dB) am oA;obtain⟨qv,q,rv,r,hq,hr,_,_,or_,nr,vq,vr,q224⟩:=C.ky xA A B hxA oA oB nA nB lA lB hB;have r1:=c8 (WV dB A) hBp;have r0:=d9 (WV dB A) (show WV dB B≠0 by omega);have lr:r.length<=B.length:=gu (b:=dB) am or_ nr (Int.lt_trans (by rw[vr];exact r1) (dz am oB));have hg2:ci (WV dB B) (WV dB r)=ci (WV dB a) (WV dB b):=by
     rw[←hg,vr,Cu]
    unfold sI;repeat' first|apply aaQ|apply aa|apply aaf|apply aad|apply abI|apply abC|apply bE|(apply abz;rfl)|(apply abV;rfl;rfl)|(apply abJ;rfl;rfl;first|exact q224 _)|(apply abh;rfl;rfl)|(apply abl;rfl;rfl)|(intro _;omega)|intro _
    all_goals try omega
    all_goals exact cW ⟨(WV dB r).toNat,by rw[vr];omega,B,r,_,rv,_,_,_,rfl,.inl rfl,hr,rfl,oB,nB,lB,or_,nr,ac,hg2⟩)
 exact⟨gv,g,ig,og,ng,vg,lg,v,hh,ho,hr⟩
theorem aaU (hft:M.FT=FT)(s:aj)(_hl:s.length<1000000)(hb:jA s=false)(q152:∀h,M.ext 152 [.str s] h=some ⟨.iV (cE s),h,[]⟩){v1 v2:AV}{z1 z2:Int}(k1:bW v1 z1)(k2:bW v2 z2)(qa:∀h,M.ext 178 [.str s] h=some ⟨v1,h,[]⟩)(qb:∀h,M.ext 130 [.iV 1] h=some ⟨v2,h,[]⟩):de M 170 [.str s] (.ay [v1,v2]):=by
 have hk:cE s=s.length:=by
  unfold cE;have hn:(bH 47 s).2=none:=by
   unfold jA at hb;cases h:(bH 47 s).2 with
   | none=>rfl
   | some y=>rw[h]at hb;cases hb
  rw[(mI hn).1]
 rw[hk]at q152;obtain⟨n1,x1,l1,rfl,_,o1,t1,b1⟩:=k1.shape;obtain⟨n2,x2,l2,rfl,_,o2,t2,b2⟩:=k2.shape;refine du (by rw[hft];exact KM) aq ?_;unfold Du;simp only[enter];repeat' first|(apply adM;rfl;rfl;rfl;exact⟨rfl,aW _,by first|exact iM o1|exact iM o2⟩;rfl)|apply aaQ|apply aa|apply aaf|apply aad|apply abw|apply aU|(apply abz;rfl)|(apply acR;rfl;rfl)|(apply abJ;rfl;rfl;first|exact q152 _|exact qa _|exact qb _)|(apply abU;rfl;rfl;rfl)|(apply abh;rfl;rfl)|(apply abl;rfl;rfl)|(intro _;omega)|intro _
 all_goals try omega
 refine cD rfl rfl (.same ?_ ?_)
 . show max (max 0 (max x1.top 0)) (max (max 0 (max x2.top 0)) 0)=0;rw[t1,t2];rfl
 . show AV.ay [.agg [.bool n1,bD x1],.agg [.bool n2,bD x2]]=_;rw[b1,b2]
structure xW (M:ax)(N:Nat):Prop where
 ft:M.FT=FT
 xX:∀{a z},bW a z->al z<dB^N->∃v0,bW v0 (-z)/\∀h,M.ext 254 [a] h=some ⟨v0,h,[]⟩
 qs:∀{x y:AV} (a b:List Int),cH x a->cH y b->okW dB a->okW dB b->aR a->aR b->a.length<100000->b.length<100000->∃gv g,cH gv g/\okW dB g/\aR g/\WV dB g=(ci (WV dB a) (WV dB b):Nat)/\g.length<100000/\∀h,M.ext 171 [x,y] h=some ⟨gv,h,[]⟩
 ky:∀(x:AV) (a b:List Int),cH x a->okW dB a->okW dB b->aR a->aR b->a.length<100000->b.length<100000->b≠[]->∃qv q rv r,cH qv q/\cH rv r/\okW dB q/\aR q/\okW dB r/\aR r/\WV dB q=WV dB a/WV dB b/\WV dB r=WV dB a%WV dB b/\∀h,M.ext 224 [x,.vs (ak b) b.length none] h=some ⟨.ay [qv,rv],h,[]⟩
 jY:∀neg x l,cH x l->okW dB l->l.length<1000000000->∃v0,bW v0 (bQ neg (WV dB l))/\∀h,M.ext 183 [.bool neg,x] h=some ⟨v0,h,[]⟩
 xY:∀{a z} h,bW a z->al z<dB^N->M.ext 129 [a] h=some ⟨.str (cM z),h,[]⟩
def sS (res:List fw)(r:AV)(e:Ex)(s:au):Prop:=(e = .normal\/e = .ret)/\s.s.cg=[]/\∃vs,dH s.s res=some vs/\aV vs=r/\(if r.top<=0 then [] else s.s.hp)=[]
theorem Ek {neg:Bool}{z:Int}(h:0<=z):al (bQ neg z)=z:=by
 unfold al bQ;cases neg <;> simp <;> omega
theorem aaV {z:Int}(h:0<=z):cM z=bh z.toNat:=if_neg ac
theorem aaW {neg:Bool}{a b:Int}(hb:0<b):(b6 (bQ neg a) b).num=bQ neg (a/(ci a b:Nat))/\((b6 (bQ neg a) b).den:Int)=b/(ci a b:Nat):=by
 obtain⟨k1,k2,e1,e2,e3,e4⟩:=vF (n:=bQ neg a) hb;have hg:ci (bQ neg a) b=ci a b:=by cases neg <;> simp[bQ]
 rw[hg]at e1 e2;have g0:((ci a b:Nat):Int)≠0:=by
  have:=f6 a (show b≠0 by omega);omega
 rw[e3,e4];constructor
 . cases neg with
   | false=>
    have e1:a=(ci a b:Nat)*k1:=e1;show k1=a/_;exact(f8 g0 e1).symm
   | true=>
    have e1 : -a=(ci a b:Nat)*k1:=e1;show k1 = -(a/_);rw[f8 g0 (show a=(ci a b:Nat)*(-k1) by rw[Int.mul_neg,←e1];omega)];omega
 . exact(f8 g0 e2).symm
theorem Mj (C:xW M N)(hN:N<100000){neg:Bool}{x y:AV}{l m:List Int}(hx:cH x l)(hy:cH y m)(ol:okW dB l)(om:okW dB m)(nl:aR l)(nm:aR m)(ll:l.length<=N)(lm:m.length<=N)(hm:m≠[])(a0 a1 a5 a6 a7 a8:AV)(lo:List (Nat×AV))(wr:List Nat) :
 W M t192 ⟨⟨[a0,a1,.ptr 0 0,.ptr 1 0,.str [],a5,a6,a7,a8],lo,[some (.cells [.bool neg,x] 200),some (.cells [.bool false,y] 200)],[]⟩,wr⟩ (sS [.var (.p 4)] (.str (aQ (b6 (bQ neg (WV dB l)) (WV dB m))))):=by
 have m0:=(je (b:=dB) am om nm).2 hm;have l0:=cA (b:=dB) am ol;obtain⟨en,ed⟩:=aaW (neg:=neg) (a:=WV dB l) m0;obtain⟨gv,g,hg,og,ng,vg,lg,q171⟩:=C.qs l m hx hy ol om nl nm ac ac;have g0:0<WV dB g:=by
  rw[vg];have:=f6 (WV dB l) (show WV dB m≠0 by omega);omega
 have hg1:g≠[]:=(je (b:=dB) am og ng).1 g0;obtain rfl:gv = .vs (ak g) g.length none:=hg.resolve_right fun h=>hg1 h.2
 obtain⟨pv,p,_,_,hp,_,op,np,_,_,vp,_,qa⟩:=C.ky x l g hx ol og nl ng ac lg hg1;obtain⟨qv,q,_,_,hq,_,oq,nq,_,_,vq,_,qb⟩:=C.ky y m g hy om og nm ng ac lg hg1;rw[vg]at vp vq;rw[←vp]at en;rw[←vq]at ed;have lw:∀{r:List Int},r.length<=N->okW dB r->WV dB r<dB^N:=fun h o=>n5 (dz am o) (ie am h)
 have le_div:∀{a b:Int},0<=a->0<b->a/b<=a:=fun h1 h2=>l9 _ h1
 have p0:=cA (b:=dB) am op;have q0:=cA (b:=dB) am oq;have lp:WV dB p<dB^N:=n6 (by rw[vp];exact l9 _ l0) (lw ll ol);have lq:WV dB q<dB^N:=n6 (by rw[vq];exact l9 _ (cN m0)) (lw lm om);have ln:=gu (b:=dB) am op np lp;have lk:=gu (b:=dB) am oq nq lq;obtain⟨v1,k1,q1⟩:=C.jY neg pv p hp op ac;have t1:=fun h=>C.xY h k1 (by rw[Ek p0];exact lp)
 obtain⟨v2,k2,q2⟩:=C.jY false qv q hq oq ac;have t2:=fun h=>C.xY h k2 (by rw[Ek q0];exact lq)
 rw[←en]at t1;rw[show bQ false (WV dB q)=((b6 (bQ neg (WV dB l)) (WV dB m)).den:Int) from ed.symm,aaV ac,fg]at t2;have hd0:=(b6 (bQ neg (WV dB l)) (WV dB m)).den_pos;have hq1:q≠[]:=fun h=>by subst h;simp[WV]at ed;omega
 obtain rfl:qv = .vs (ak q) q.length none:=hq.resolve_right fun h=>hq1 h.2
 have hs:aQ (b6 (bQ neg (WV dB l)) (WV dB m))=if q=[1] then cM (b6 (bQ neg (WV dB l)) (WV dB m)).num else cM (b6 (bQ neg (WV dB l)) (WV dB m)).num++47::bh (b6 (bQ neg (WV dB l)) (WV dB m)).den:=by
  have:=Lr oq nq;rw[←ed]at this;unfold aQ;by_cases h:q=[1]
  . rw[if_pos h,if_pos (by have:=this.2 h;omega)]
  . rw[if_neg h,if_neg (by intro h2;exact h (this.1 ac))]
 rw[hs];have hN1:0<9*N:=by
  have:=cK.2 hm;omega
 have e9:(dB:Int)^N=10^(9*N):=by rw[←Lc];exact pB _ _
 have lA:=Kz hN1 (z:=(b6 (bQ neg (WV dB l)) (WV dB m)).num) (by rw[en,Ek p0,←e9];exact lp);generalize cM (b6 (bQ neg (WV dB l)) (WV dB m)).num=A at *
 have lB:(bh (b6 (bQ neg (WV dB l)) (WV dB m)).den).length<2000000:=by
  have:=xe (k:=9*N) hN1 (z:=WV dB q) (by rw[fu q0,←e9];exact lq);rw[fu q0,←ed,fg]at this;omega
 generalize bh (b6 (bQ neg (WV dB l)) (WV dB m)).den=B at *
 clear hs;have ap:A++47::B=A++[47]++B:=by simp
 unfold t192;have hcase:q=[1]\/q.length≠1\/q.length=1/\q[jj 0]! ≠ 1:=by
  match q,hq1 with
  | [x],_=>
   by_cases h:x=1
   . exact .inl (by rw[h])
   . exact .inr (.inr ⟨rfl,h⟩)
  | x::y::r,_=>exact .inr (.inl aq)
 rcases hcase with rfl|hc|⟨hc,hc2⟩
 . rw[if_pos rfl];have e1:([1]:List Int).length=1:=rfl;have e2:([1]:List Int)[jj 0]! = 1:=rfl;repeat' first|apply aaQ|apply aa|apply aaf|apply aad|apply abw|apply aU|(apply abz;rfl)|(apply acF;rfl)|(apply acR;rfl;rfl)|(apply aco;rfl;rfl)|(apply abJ;rfl;rfl;first|exact q171 _|exact qa _|exact qb _|exact q1 _|exact q2 _|exact t1 _|exact t2 _)|(apply adp;rfl;rfl;omega)|(apply adL;rfl;exact fun _=>rfl;(first|omega|(simp only[aZ];omega)|(simp;omega));decide;rfl;case ia=>infer_instance)|(apply acn;rfl;rfl;rfl)|(apply abh;rfl;rfl)|(apply abl;rfl;rfl)|(intro _;omega)|intro _
   all_goals try omega
   all_goals exact⟨.inr rfl,rfl,_,rfl,rfl,rfl⟩
 . rw[if_neg (fun h=>hc (by rw[h];rfl)),ap];repeat' first|apply aaQ|apply aa|apply aaf|apply aad|apply abw|apply abC|(apply abx;rfl)|(apply adu;rfl)|(apply acR;rfl;rfl)|(apply acw;rfl;rfl)|(apply aeo;rfl;rfl;first|omega|(simp only[bc,c7,cd];omega)|(simp;omega))|(apply abJ;rfl;rfl;first|exact q171 _|exact qa _|exact qb _|exact q1 _|exact q2 _|exact t1 _|exact t2 _)|(apply acn;rfl;rfl;rfl)|(apply abh;rfl;rfl)|(apply abl;rfl;rfl)|(intro _;omega)|intro _
   all_goals try omega
   all_goals exact⟨.inr rfl,rfl,_,rfl,rfl,rfl⟩
 . rw[if_neg (fun h=>hc2 (by rw[h];rfl)),ap];repeat' first|apply aaQ|apply aa|apply aaf|apply aad|apply abw|apply abC|(apply abx;rfl)|(apply acF;rfl)|(apply acR;rfl;rfl)|(apply aco;rfl;rfl)|(apply aeo;rfl;rfl;first|omega|(simp only[bc,c7,cd];omega)|(simp;omega))|(apply abJ;rfl;rfl;first|exact q171 _|exact qa _|exact qb _|exact q1 _|exact q2 _|exact t1 _|exact t2 _)|(apply adp;rfl;rfl;omega)|(apply adL;rfl;exact fun _=>rfl;(first|omega|(simp only[aZ];omega)|(simp;omega));decide;rfl;case ia=>infer_instance)|(apply acn;rfl;rfl;rfl)|(apply abh;rfl;rfl)|(apply abl;rfl;rfl)|(intro _;omega)|intro _
   all_goals try omega
   all_goals exact⟨.inr rfl,rfl,_,rfl,rfl,rfl⟩
theorem aaX (C:xW M N)(hN:N<100000){a b:AV}{za zb:Int}(ha:bW a za)(hb:bW b zb)(la:al za<dB^N)(lb:al zb<dB^N)(hz:zb≠0):bg M 192 [a,b] [] ⟨.str (aQ (b6 za zb)),[],[]⟩:=by
 have ha':=ha;have hb':=hb;obtain⟨na,x,l,rfl,hx,ol,nl,ll,ea,_,_⟩:=ha.abs la;obtain⟨nb,y,m,rfl,hy,om,nm,lm,eb,_,hn⟩:=hb.abs lb;have hm:m≠[]:=fun h=>by subst h;cases nb <;> simp[bQ,WV]at eb <;> omega
 refine bY (by rw[C.ft];exact aao) aq ?_;cases nb with
 | false=>
  rw[ea,show zb=WV dB m from eb];unfold Ec;simp only[enter];repeat' first|(exact Mj C hN hx hy ol om nl nm ll lm hm _ _ _ _ _ _ _ _)|apply aaQ|apply aa|apply aaf|apply aad|apply abC|(apply abx;rfl)|(apply adR;rfl;(first|(focus((repeat' first|exact bS|assumption|apply cm);done))|exact cJ aq);rfl)|(apply abU;rfl;rfl;rfl)|(apply abh;rfl;rfl)|(apply abl;rfl;rfl)
 | true=>
  obtain⟨v1,k1,q1⟩:=C.xX ha' la;obtain⟨v2,k2,q2⟩:=C.xX hb' lb;obtain⟨n1,x1,l1,rfl,hx1,ol1,nl1,ll1,ea1,_,_⟩:=k1.abs (N:=N) (by rw[jt];exact la);obtain⟨n2,x2,m1,rfl,hy1,om1,nm1,lm1,eb1,_,hn1⟩:=k2.abs (N:=N) (by rw[jt];exact lb);have o1:=(sP x1 hx1).1;have o2:=(sP x2 hy1).1;have m0:=(je (b:=dB) am om nm).2 hm;have e2:zb = -WV dB m:=eb;have m1p:=cA (b:=dB) am om1;have hm1:m1≠[]:=fun h=>by subst h;cases n2 <;> simp[bQ,WV]at eb1 <;> omega
  cases n2 with
  | true=>
   have : -zb = -WV dB m1:=eb1;omega
  | false=>
  rw[←n7,ea1,show -zb=WV dB m1 from eb1];unfold Ec;simp only[enter];repeat' first|(exact Mj C hN hx1 hy1 ol1 om1 nl1 nm1 ll1 lm1 hm1 _ _ _ _ _ _ _ _)|(apply adN;rfl;rfl;(first|(simp only[nca];rfl)|rfl);first|exact q1 _|exact q2 _)|(apply adM;rfl;rfl;rfl;exact⟨rfl,aW _,by first|exact iM o1|exact iM o2⟩;rfl)|apply aaQ|apply aa|apply aaf|apply aad|apply adr|apply adI|(apply adJ;rfl;rfl;(first|(simp only[nca];rfl)|rfl))|(apply adW;rfl;(first|(simp only[nca];rfl)|rfl);(first|(simp only[nca];rfl)|rfl))|(apply abz;rfl)|(apply adR;rfl;(first|(focus((repeat' first|exact bS|assumption|apply cm);done))|exact cJ aq);rfl)|(apply abU;rfl;rfl;rfl)|(apply abh;rfl;rfl)|(apply abl;rfl;rfl)
theorem aaY (hft:M.FT=FT)(a b:Nat)(ha:a<9223372036854775808)(hb:b<9223372036854775808):bg M 202 [.iV a,.iV b] [] ⟨.iV (ja a b:Nat),[],[]⟩:=by
 refine bY (by rw[hft];exact aam) aq ?_;unfold LN;simp only[enter];repeat' first|apply aaQ|apply aa|apply aaf|apply aad|apply abI|(apply abl;rfl;rfl)
 refine W.gH (fun m st=>∃(A B:Nat) (lo:List (Nat×AV)) (wr:List Nat),st=⟨⟨[.iV A,.iV B,.iV 0],lo,[],[]⟩,wr⟩/\m=B/\A<9223372036854775808/\B<9223372036854775808/\ja A B=ja a b) (fun m st ⟨A,B,lo,wr,hst,hm,hA,hB,hg⟩=>?_) (m:=b) ⟨a,b,_,_,rfl,rfl,ha,hb,rfl⟩;subst hst;unfold LM;rcases jR B with rfl|hp
 . rw[Nat.gcd_zero_right]at hg;rw[←hg];repeat' first|apply aaQ|apply aa|apply aaf|apply aad|apply abw|apply acH|apply bN|apply bJ|apply cX|(apply abx;rfl)|(apply abV;rfl;rfl)|(apply abh;rfl;rfl)|(apply abl;rfl;rfl)|(intro _;omega)|intro _
   all_goals try omega
   all_goals exact⟨.inr rfl,rfl,_,rfl,rfl,rfl⟩
 . have hlt:=Nat.mod_lt A hp;have hn:ja B (A%B)=ja a b:=by rw[←hg,Nat.gcd_comm A B,Nat.gcd_rec B A,Nat.gcd_comm]
   have e:((A:Int)%(B:Int))=((A%B:Nat):Int):=rfl;repeat' first|(apply aes;rfl;rfl;omega;omega)|apply aaQ|apply aa|apply aaf|apply aad|apply abI|apply abC|apply bE|(apply adX;rfl)|(apply abz;rfl)|(apply abV;rfl;rfl)|(apply abh;rfl;rfl)|(apply abl;rfl;rfl)|(intro _;omega)|intro _
   all_goals try omega
   all_goals exact cW ⟨A%B,ac,B,A%B,_,_,rfl,rfl,ac,ac,hn⟩
structure El (M:ax)(N:Nat):Prop extends xW M N where
 Mk:∀(a b:Nat) h,a<9223372036854775808->b<9223372036854775808->M.ext 202 [.iV a,.iV b] h=some ⟨.iV (ja a b:Nat),h,[]⟩
 Em:∀(n:Nat) h,n<9223372036854775808->M.ext 182 [.iV (n:Nat),.iV 1] h=some ⟨.str (bh n),h,[]⟩
 En:∀n:Int,-9223372036854775808<=n/\n<9223372036854775808->∃v0,bW v0 n/\∀h,M.ext 130 [.iV n] h=some ⟨v0,h,[]⟩
 sV:∀{a b za zb} h,bW a za->bW b zb->al za<dB^N->al zb<dB^N->zb≠0->M.ext 192 [a,b] h=some ⟨.str (aQ (b6 za zb)),h,[]⟩
theorem xZ (q:Rat):aQ q=(if q.num<0 then [45] else [])++bh q.num.natAbs++(if 1<q.den then 47::bh q.den else []):=by
 have:=q.den_pos;have e:cM q.num=(if q.num<0 then [45] else [])++bh q.num.natAbs:=by
  unfold cM;split
  . rw[show (-q.num).toNat=q.num.natAbs by omega];rfl
  . rw[show q.num.toNat=q.num.natAbs by omega];rfl
 unfold aQ;by_cases h:q.den=1
 . rw[if_pos h,if_neg (show ¬1<q.den by omega),e,List.append_nil]
 . rw[if_neg h,if_pos (show 1<q.den by omega),e]
theorem Ml (C:El M N){n d:Int}(hd:0<d/\d<=4000000000000000000)(hn : -4000000000000000000<=n/\n<=4000000000000000000)(a3 a4:AV)(lo:List (Nat×AV))(wr:List Nat) :
 W M t149 ⟨⟨[.iV n,.iV d,.str [],a3,a4],lo,[],[]⟩,wr⟩ (sS [.var (.p 2)] (.str (aQ (b6 n d)))):=by
 obtain⟨k1,k2,e1,e2,e3,e4⟩:=vF (n:=n) hd.1;have g0:=f6 n (show d≠0 by omega);have eg:ja n.natAbs d.natAbs=ci n d:=rfl;have q202:=fun h=>C.Mk n.natAbs d.natAbs h ac ac
 rw[show ((d.natAbs:Nat):Int)=d by omega,eg]at q202;have hle:((ci n d:Nat):Int)<=d:=Int.le_of_dvd hd.1 (Int.gcd_dvd_right _ _);have hv1:n.tdiv (ci n d:Nat)=(b6 n d).num:=by
  rw[e3];conv=>lhs;arg 1;rw[e1]
  exact lc _ ac
 have hv2:d.tdiv (ci n d:Nat)=((b6 n d).den:Int):=by
  rw[e4];conv=>lhs;arg 1;rw[e2]
  exact lc _ ac
 have hs:=xZ (b6 n d);have b1:(b6 n d).num.natAbs<=n.natAbs:=by
  rw[←hv1,p6];exact m6 _ _
 have b2:(b6 n d).den<=d.natAbs:=by
  have:=p6 d (ci n d:Nat);rw[hv2,Int.natAbs_natCast]at this;rw[this];exact m6 _ _
 rw[hs];generalize (b6 n d).num=P at *
 generalize (b6 n d).den=D at *
 generalize ci n d=g at *
 have t1:=fun h=>C.Em P.natAbs h ac
 have t2:=fun h=>C.Em D h ac
 have l1:=wI (n:=P.natAbs) (k:=19) (ip b1 (by rw[Ej];omega)) am;have l2:=wI (n:=D) (k:=19) (ip b2 (by rw[Ej];omega)) am;generalize bh P.natAbs=A at *
 generalize bh D=B at *
 unfold t149;repeat' first|(apply aeq (m:=(n.natAbs:Int));rfl;rfl;omega)|(apply aeq (m:=(P.natAbs:Int));rfl;rfl;omega)|(apply aeX;rfl;rfl;omega;omega;first|exact hv1|exact hv2)|apply aaQ|apply aa|apply aaf|apply aad|apply abw|apply abC|(apply adX;rfl)|(apply abz;rfl)|(apply abx;rfl)|(apply abR;rfl;rfl)|(apply abV;rfl;rfl)|(apply adj;rfl;rfl;omega)|(apply aeo;rfl;rfl;first|omega|(simp only[bc,c7,cd];omega)|(simp;omega))|(apply abJ;rfl;rfl;first|exact q202 _|exact t1 _|exact t2 _)|(apply abh;rfl;rfl)|(apply abl;rfl;rfl)|(intro _;omega)|intro _
 all_goals try omega
 all_goals refine⟨.inr rfl,rfl,_,rfl,?_,rfl⟩
 all_goals
  rename_i u1 u2;first|rw[if_pos u1]|rw[if_neg ac]
  first|rw[if_pos ac]|rw[if_neg ac]
  simp[aV]
theorem Eo (hN:3<=N){n:Int}(h : -9223372036854775808<=n/\n<9223372036854775808):al n<dB^N:=by
 have h1:al n<dB^3:=by rw[Mh];unfold al;split <;> omega
 exact n5 h1 (ie am hN)
theorem aaZ (C:El M N)(hN:3<=N){n d:Int}(hn : -9223372036854775808<=n/\n<9223372036854775808)(hd : -9223372036854775808<=d/\d<9223372036854775808)(h0:d≠0):bg M 149 [.iV n,.iV d] [] ⟨.str (aQ (b6 n d)),[],[]⟩:=by
 obtain⟨v1,k1,q1⟩:=C.En n hn;obtain⟨v2,k2,q2⟩:=C.En d hd;have q3:=fun h=>C.sV h k1 k2 (Eo hN hn) (Eo hN hd) h0
 refine bY (by rw[C.ft];exact aaq) aq ?_;show W M Ed _ (sS _ _);unfold Ed;simp only[enter];by_cases hs:(-4000000000000000000<=n/\n<=4000000000000000000) /\ -4000000000000000000<=d/\d<=4000000000000000000
 . by_cases hp:0<d
   . repeat' first|(exact Ml C ⟨hp,ac⟩ hs.1 _ _ _ _)|apply aaQ|apply aa|apply aaf|apply aad|apply abC|(apply abx;rfl)|(apply adb;rfl)|(apply abR;rfl;rfl)|(apply abV;rfl;rfl)|(apply acw;rfl;rfl)|(apply abh;rfl;rfl)|(apply abl;rfl;rfl)|(intro _;omega)|intro _
     all_goals try omega
   . rw[←n7];have e1:0-n = -n:=by omega
     have e2:0-d = -d:=by omega
     have tl:=fun a3 a4 lo wr=>Ml C (n:=-n) (d:=-d) ⟨ac,ac⟩ ⟨ac,ac⟩ a3 a4 lo wr
     rw[←e1,←e2]at tl;rw[←e1,←e2];repeat' first|(exact tl _ _ _ _)|apply aaQ|apply aa|apply aaf|apply aad|apply abC|(apply abz;rfl)|(apply abx;rfl)|(apply adb;rfl)|(apply abR;rfl;rfl)|(apply abV;rfl;rfl)|(apply acw;rfl;rfl)|(apply adj;rfl;rfl;omega)|(apply abh;rfl;rfl)|(apply abl;rfl;rfl)|(intro _;omega)|intro _
     all_goals try omega
 . repeat' first|(apply abR;rfl;rfl)|apply aaQ|apply aa|apply aaf|apply aad|apply abw|apply aU|(apply abz;rfl)|(apply adb;rfl)|(apply adU;rfl)|(apply abV;rfl;rfl)|(apply aco;rfl;rfl)|(apply acw;rfl;rfl)|(apply abJ;rfl;rfl;first|exact q1 _|exact q2 _|exact q3 _)|(apply abh;rfl;rfl)|(apply abl;rfl;rfl)|(intro _;omega)|intro _
   all_goals try omega
   all_goals exact⟨.inr rfl,rfl,_,rfl,rfl,rfl⟩
theorem yb (q:Rat):aQ q≠[]:=fun h=>by
 have:=xZ q;rw[h]at this;have:=congrArg j9 this;have:=cK.2 (qf q.num.natAbs);simp at *
 omega
theorem Mm (q:Rat):0<(aQ q).length/\(((aQ q)[jj 0]!).toNat:Int)=45↔q.num<0:=by
 have h:=(oc q).1;have h0:=yb q;generalize aQ q=s at *
 cases s with
 | nil=>exact absurd rfl h0
 | cons c t=>
  rw[preB,List.head?_cons,decide_eq_decide]at h;rw[←h];show 0<t.length+1/\((c.toNat:Int)=45)↔some c=some 45;constructor
  . intro h;rw[show c=45 from m5.1 (by have:=h.2;have e:(45:UInt8).toNat=45:=rfl;omega)]
  . intro h;cases h;exact⟨ac,rfl⟩
theorem Mn {q:Rat}(h:q.num<0):aQ q=45::aQ (-q):=by
 rw[xZ,xZ,Rat.neg_num,Rat.neg_den,if_pos h,if_neg (show ¬ -q.num<0 by omega),Int.natAbs_neg];simp
theorem aba {q:Rat}(h:0<q.num):aQ (-q)=45::aQ q:=by
 have:=Mn (q:=-q) (by rw[Rat.neg_num];omega);rw[Rat.neg_neg]at this;exact this
theorem Ep {q:Rat}:q.num=0↔q=0:=Rat.num_eq_zero
theorem abb (hft:M.FT=FT)(q:Rat):bg M 105 [.str (aQ q)] [] ⟨.iV (br q.num),[],[]⟩:=by
 refine bY (by rw[hft];exact aar) aq ?_;unfold LU;simp only[enter];by_cases h0:q.num=0
 . rw[h0,Ep.1 h0,YD];repeat' first|apply aaQ|apply aa|apply aaf|apply aad|apply abw|apply aU|(apply abz;rfl)|(apply adV;rfl;rfl;all_goals first|(intro h;exact absurd h am)|(intro h;exact absurd rfl h)|(intro h;contradiction)|intro _)|(apply abh;rfl;rfl)|(apply abl;rfl;rfl)
   all_goals exact⟨.inr rfl,rfl,_,rfl,rfl,rfl⟩
 . have hne:aQ q≠[48]:=fun h=>h0 (Ep.2 (YE h))
   have hl:=cK.2 (yb q);have hh:=Mm q;unfold br;by_cases hn:q.num<0
   . rw[if_pos hn];obtain⟨_,h45⟩:=hh.2 hn;generalize aQ q=s at *
     repeat' first|apply aaQ|apply aa|apply aaf|apply aad|apply abw|apply abC|apply aU|(apply abz;rfl)|(apply abx;rfl)|(apply acF;rfl)|(apply abV;rfl;rfl)|(apply acR;rfl;rfl)|(apply aco;rfl;rfl)|(apply adT;rfl;rfl;omega)|(apply adV;rfl;rfl;all_goals first|(intro h;exact absurd h am)|(intro h;exact absurd rfl h)|(intro h;contradiction)|intro _)|(apply abh;rfl;rfl)|(apply abl;rfl;rfl)|(intro _;omega)|intro _
     all_goals try omega
     all_goals exact⟨.inr rfl,rfl,_,rfl,rfl,rfl⟩
   . rw[if_neg hn,if_pos (show 0<q.num by omega)];have h45:¬(((aQ q)[jj 0]!).toNat:Int)=45:=fun h=>hn (hh.1 ⟨hl,h⟩)
     generalize aQ q=s at *
     repeat' first|apply aaQ|apply aa|apply aaf|apply aad|apply abw|apply abC|(apply abx;rfl)|(apply acF;rfl)|(apply abV;rfl;rfl)|(apply acR;rfl;rfl)|(apply aco;rfl;rfl)|(apply adT;rfl;rfl;omega)|(apply adV;rfl;rfl;all_goals first|(intro h;exact absurd h am)|(intro h;exact absurd rfl h)|(intro h;contradiction)|intro _)|(apply abh;rfl;rfl)|(apply abl;rfl;rfl)|(intro _;omega)|intro _
     all_goals try omega
     all_goals exact⟨.inr rfl,rfl,_,rfl,rfl,rfl⟩
theorem abc (hft:M.FT=FT){q:Rat}(hl:(aQ q).length<1000000)(q105:∀h,M.ext 105 [.str (aQ q)] h=some ⟨.iV (br q.num),h,[]⟩):bg M 113 [.str (aQ q)] [] ⟨.str (aQ (-q)),[],[]⟩:=by
 refine bY (by rw[hft];exact aas) aq ?_;have h0:=cK.2 (yb q);unfold LV;simp only[enter];by_cases hn:q.num<0
 . have e:=Mn hn;have e1:(aQ q).drop (jj 1)=aQ (-q):=by rw[e];rfl
   have e2:br q.num = -1:=if_pos hn;rw[e2]at q105;generalize aQ (-q)=t at *
   generalize aQ q=s at *
   repeat' first|(apply adY (r:=t);rfl;rfl;omega;exact e1)|apply aaQ|apply aa|apply aaf|apply aad|apply abw|apply aU|(apply abz;rfl)|(apply abR;rfl;rfl)|(apply abJ;rfl;rfl;first|exact q105 _)|(apply abh;rfl;rfl)|(apply abl;rfl;rfl)|(intro _;omega)|intro _
   all_goals try omega
   all_goals exact⟨.inr rfl,rfl,_,rfl,rfl,rfl⟩
 . by_cases hz:q.num=0
   . have e:=Ep.1 hz;subst e;have e2:br (0:Rat).num=0:=rfl;rw[e2]at q105;rw[show (-0:Rat)=0 by simp];generalize aQ 0=s at *
     repeat' first|apply aaQ|apply aa|apply aaf|apply aad|apply abw|apply abC|apply aU|(apply abz;rfl)|(apply abx;rfl)|(apply abR;rfl;rfl)|(apply acR;rfl;rfl)|(apply abJ;rfl;rfl;first|exact q105 _)|(apply abh;rfl;rfl)|(apply abl;rfl;rfl)|(intro _;omega)|intro _
     all_goals try omega
     all_goals exact⟨.inr rfl,rfl,_,rfl,rfl,rfl⟩
   . have e:=aba (show 0<q.num by omega);have e2:br q.num=1:=by unfold br;rw[if_neg hn,if_pos ac]
     rw[e2]at q105;rw[e];generalize aQ q=s at *
     have l1:([45]:aj).length=1:=rfl;repeat' first|apply aaQ|apply aa|apply aaf|apply aad|apply abw|apply abC|(apply abx;rfl)|(apply abR;rfl;rfl)|(apply acR;rfl;rfl)|(apply aeo;rfl;rfl;first|omega|(simp only[bc,c7,cd];omega)|(simp;omega))|(apply abJ;rfl;rfl;first|exact q105 _)|(apply abh;rfl;rfl)|(apply abl;rfl;rfl)|(intro _;omega)|intro _
     all_goals try omega
     all_goals exact⟨.inr rfl,rfl,_,rfl,rfl,rfl⟩
theorem sW (q:Rat):cE (aQ q)=(cM q.num).length/\(aQ q).take (cE (aQ q))=cM q.num/\(cE (aQ q)=(aQ q).length↔q.den=1)/\(q.den≠1->(aQ q).drop (cE (aQ q)+1)=bh q.den/\cE (aQ q)+1<=(aQ q).length)/\jA (aQ q)=decide (q.den≠1)/\bH 47 (aQ q)=(cM q.num,if q.den=1 then none else some (bh q.den)):=by
 have e:bH 47 (aQ q)=(cM q.num,if q.den=1 then none else some (bh q.den)):=by
  unfold aQ;split
  . exact su (wP _)
  . exact sv (wP _)
 have e1:cE (aQ q)=(cM q.num).length:=by unfold cE;rw[e]
 refine⟨e1,?_,?_,?_,?_,e⟩
 . rw[e1];unfold aQ;split <;> simp
 . rw[e1];unfold aQ;split <;> simp[*]
 . intro h;rw[e1];unfold aQ;rw[if_neg h];constructor
   . rw[show cM q.num++47::bh q.den=(cM q.num++[47])++bh q.den by simp,i9 aq];simp
   . simp
 . unfold jA;rw[e];by_cases h:q.den=1 <;> simp[h]
theorem Er (z:Int):aQ (z:Rat)=cM z:=by
 unfold aQ;rw[if_pos (Rat.den_intCast z),Rat.num_intCast]
theorem abd {q:Rat}{u num:aj}{k dl:Nat}(neg:Bool)(hs:(if neg then -((al q.num).toNat:Int) else ((al q.num).toNat:Int))=q.num)
 (hk:k=num.length) (hkl:k<=u.length) (hu:u.length<1000000) (ht:u.take k=num) (h1:k=u.length↔q.den=1) (hd:q.den≠1->u.drop (k+1)=bh q.den/\k+1+(bh q.den).length=u.length) (hdl:dl=u.length-k)
 (q152:∀h,M.ext 152 [.str u] h=some ⟨.iV k,h,[]⟩) (qn:k<=9->∀h,M.ext 232 [.str num] h=some ⟨.iV (al q.num).toNat,h,[]⟩) (qd:dl<=10->q.den≠1->∀h,M.ext 232 [.str (bh q.den)] h=some ⟨.iV (q.den:Nat),h,[]⟩)
 (bn:k<=9->(al q.num).toNat<1000000000) (a0 a5 a6 a7:AV) (lo:List (Nat×AV)) (wr:List Nat) :
 W M t191 ⟨⟨[a0,.iV 0,.iV 0,.bool false,.str u,.bool neg,a5,a6,a7],lo,[],[]⟩,wr⟩ (sS [.var (.p 1),.var (.p 2),.var (.p 3)] (if k<=9/\dl<=10 then .ay [.iV q.num,.iV q.den,.bool true] else .ay [.iV 0,.iV 0,.bool false])):=by
 have ht':u.take ((k:Nat):Int).toNat=num:=ht;by_cases hc:k<=9/\dl<=10
 . rw[if_pos hc];have qn:=qn hc.1;have bn:=bn hc.1;by_cases hd1:q.den=1
   . have hku:=h1.2 hd1;rw[hd1];generalize (al q.num).toNat=A at *
     generalize q.num=P at *
     unfold t191;cases neg with
     | false=>
      obtain rfl:P=A:=hs.symm;repeat' first|(apply aec (r:=num);rfl;rfl;omega;exact ht')|apply aaQ|apply aa|apply aaf|apply aad|apply abw|apply abC|(apply abx;rfl)|(apply adb;rfl)|(apply abR;rfl;rfl)|(apply abV;rfl;rfl)|(apply acw;rfl;rfl)|(apply adj;rfl;rfl;omega)|(apply abJ;rfl;rfl;first|exact q152 _|exact qn _)|(apply abh;rfl;rfl)|(apply abl;rfl;rfl)|(intro _;omega)|intro _
      all_goals try omega
      all_goals exact⟨.inr rfl,rfl,_,rfl,rfl,rfl⟩
     | true=>
      have e:(0:Int)-A=P:=by rw[←hs];simp
      repeat' first|(apply aec (r:=num);rfl;rfl;omega;exact ht')|apply aaQ|apply aa|apply aaf|apply aad|apply abw|apply abC|(apply abz;rfl)|(apply abx;rfl)|(apply adb;rfl)|(apply abR;rfl;rfl)|(apply abV;rfl;rfl)|(apply acw;rfl;rfl)|(apply adj;rfl;rfl;omega)|(apply abJ;rfl;rfl;first|exact q152 _|exact qn _)|(apply abh;rfl;rfl)|(apply abl;rfl;rfl)|(intro _;omega)|intro _
      all_goals try omega
      all_goals exact⟨.inr rfl,rfl,_,rfl,by rw[e];rfl,rfl⟩
   . have qd:=qd hc.2 hd1;obtain⟨e1,e2⟩:=hd hd1;have hne:k≠u.length:=fun h=>hd1 (h1.1 h)
     have e1':u.drop ((k:Nat)+1:Int).toNat=bh q.den:=by rw[show ((k:Nat)+1:Int).toNat=k+1 by omega];exact e1
     generalize bh q.den=B at *
     generalize q.den=D at *
     generalize (al q.num).toNat=A at *
     generalize q.num=P at *
     unfold t191;cases neg with
     | false=>
      obtain rfl:P=A:=hs.symm;repeat' first|(apply aec (r:=num);rfl;rfl;omega;exact ht')|(apply adY (r:=B);rfl;rfl;omega;exact e1')|apply aaQ|apply aa|apply aaf|apply aad|apply abw|apply abC|(apply abz;rfl)|(apply abx;rfl)|(apply adb;rfl)|(apply abR;rfl;rfl)|(apply abV;rfl;rfl)|(apply acw;rfl;rfl)|(apply acS;rfl;rfl;omega)|(apply adj;rfl;rfl;omega)|(apply abJ;rfl;rfl;first|exact q152 _|exact qn _|exact qd _)|(apply abh;rfl;rfl)|(apply abl;rfl;rfl)|(intro _;omega)|intro _
      all_goals try omega
      all_goals exact⟨.inr rfl,rfl,_,rfl,rfl,rfl⟩
     | true=>
      have e:(0:Int)-A=P:=by rw[←hs];simp
      repeat' first|(apply aec (r:=num);rfl;rfl;omega;exact ht')|(apply adY (r:=B);rfl;rfl;omega;exact e1')|apply aaQ|apply aa|apply aaf|apply aad|apply abw|apply abC|(apply abz;rfl)|(apply abx;rfl)|(apply adb;rfl)|(apply abR;rfl;rfl)|(apply abV;rfl;rfl)|(apply acw;rfl;rfl)|(apply acS;rfl;rfl;omega)|(apply adj;rfl;rfl;omega)|(apply abJ;rfl;rfl;first|exact q152 _|exact qn _|exact qd _)|(apply abh;rfl;rfl)|(apply abl;rfl;rfl)|(intro _;omega)|intro _
      all_goals try omega
      all_goals exact⟨.inr rfl,rfl,_,rfl,by rw[e];rfl,rfl⟩
 . rw[if_neg hc];unfold t191;repeat' first|apply aaQ|apply aa|apply aaf|apply aad|apply abw|apply aU|(apply abz;rfl)|(apply adb;rfl)|(apply adU;rfl)|(apply abV;rfl;rfl)|(apply aco;rfl;rfl)|(apply acw;rfl;rfl)|(apply adj;rfl;rfl;omega)|(apply abJ;rfl;rfl;first|exact q152 _)|(apply abh;rfl;rfl)|(apply abl;rfl;rfl)|(intro _;omega)|intro _
   all_goals try omega
   all_goals exact⟨.inr rfl,rfl,_,rfl,rfl,rfl⟩
structure Mo (M:ax):Prop where
 ft:M.FT=FT
 sR:∀(s:aj) h,s.length<1000000->M.ext 152 [.str s] h=some ⟨.iV (cE s),h,[]⟩
 ou:∀(s:aj) h,s.length<=18->s.all bI=true->M.ext 232 [.str s] h=some ⟨.iV (aL 0 s:Nat),h,[]⟩
theorem dec_lt {n k:Nat}(h:(bh n).length<=k):n<10^k:=by
 have:=mF (bh n) (jx n);rw[iL]at this;exact nz this (gc am h)
theorem abe (C:Mo M){q:Rat}(hl:(aQ q).length<1000000):∃n d b,(b=true->n=q.num/\d=q.den/\al q.num<1000000000/\q.den<1000000000)/\bg M 191 [.str (aQ q)] [] ⟨.ay [.iV n,.iV d,.bool b],[],[]⟩:=by
 by_cases AW:20<(aQ q).length
 . refine⟨0,0,false,nofun,bY (by rw[C.ft];exact LR) aq ?_⟩;generalize aQ q=s at *
   unfold xT;simp only[enter];repeat' first|apply aaQ|apply aa|apply aaf|apply aad|apply abw|apply aU|(apply abz;rfl)|(apply abV;rfl;rfl)|(apply abh;rfl;rfl)|(apply abl;rfl;rfl)|(intro _;omega)|intro _
   all_goals try omega
   all_goals exact⟨.inr rfl,rfl,_,rfl,rfl,rfl⟩
 . obtain⟨hp,hc⟩:=oc q;obtain⟨v,hv⟩:∃u,u=bL 45 (aQ q):=⟨_,rfl⟩;have hul:=qi 45 (aQ q);have hsp:bH 47 v=(bh (al q.num).toNat,if q.den=1 then none else some (bh q.den)):=by
    have n47:∀n,(47:UInt8)∉bh n:=fun n h=>by
     have:=List.all_eq_true.1 (jx n) _ h;exact absurd this am
    rw[hv,hc];split
    . exact su (n47 _)
    . exact sv (n47 _)
   have hk:cE v=(bh (al q.num).toNat).length:=by unfold cE;rw[hsp]
   have hvt:v=if q.den=1 then bh (al q.num).toNat else bh (al q.num).toNat++47::bh q.den:=by rw[hv,hc]
   obtain⟨dl,hdl⟩:∃dl,dl=v.length-cE v:=⟨_,rfl⟩;have hdlen:q.den≠1->v.drop (cE v+1)=bh q.den/\cE v+1+(bh q.den).length=v.length:=fun h=>by
    rw[hk,hvt,if_neg h];constructor
    . rw[show bh (al q.num).toNat++47::bh q.den=(bh (al q.num).toNat++[47])++bh q.den by simp,i9 aq];simp
    . simp;omega
   have hsgn:(if decide (q.num<0) then -((al q.num).toNat:Int) else ((al q.num).toNat:Int))=q.num:=by
    unfold al;by_cases h:q.num<0
    . simp only[h,decide_true,if_true];omega
    . simp only[h,decide_false,if_false];show ((q.num.toNat:Nat):Int)=_;omega
   have tl:=fun a0 a5 a6 a7 lo wr=>abd (M:=M) (q:=q) (u:=v) (num:=bh (al q.num).toNat) (k:=cE v) (dl:=dl) (decide (q.num<0)) hsgn hk (DA v) (by rw[hv];omega) (by rw[hk,hvt];split <;> simp) (by rw[hk,hvt];split <;> simp[*]) hdlen hdl
     (fun h=>C.sR v h (by rw[hv];omega)) (fun hk9 h=>by
      have:=C.ou (bh (al q.num).toNat) h ac (jx _);rw[iL]at this;exact this) (fun zh hd1 h=>by
      have:=C.ou (bh q.den) h (by have:=(hdlen hd1).2;omega) (jx _);rw[iL]at this;exact this) (fun hk9=>dec_lt (n:=(al q.num).toNat) (k:=9) ac) a0 a5 a6 a7 lo wr
   have key:∃n d b,(b=true->n=q.num/\d=q.den/\al q.num<1000000000/\q.den<1000000000)/\(if cE v<=9/\dl<=10 then AV.ay [.iV q.num,.iV q.den,.bool true] else .ay [.iV 0,.iV 0,.bool false]) = .ay [.iV n,.iV d,.bool b]:=by
    by_cases h:cE v<=9/\dl<=10
    . refine⟨q.num,q.den,true,fun _=>⟨rfl,rfl,?_,?_⟩,if_pos h⟩
      . have:=dec_lt (n:=(al q.num).toNat) (k:=9) ac;have:=jU (x:=q.num);omega
      . by_cases hd1:q.den=1
        . omega
        . exact dec_lt (n:=q.den) (k:=9) (by have:=(hdlen hd1).2;omega)
    . exact⟨0,0,false,nofun,if_neg h⟩
   obtain⟨n,d,b,h1,h2⟩:=key;rw[h2]at tl;refine⟨n,d,b,h1,bY (by rw[C.ft];exact LR) aq ?_⟩;have hh:=Mm q;have h0:=cK.2 (yb q);show W M xT _ (sS _ _);unfold xT;simp only[enter];by_cases hn:q.num<0
   . rw[decide_eq_true hn]at tl hp;have e1:(aQ q).drop (jj 1)=v:=by rw[hv];exact(ss hp).1
     obtain⟨_,h45⟩:=hh.2 hn;generalize aQ q=s at *
     repeat' first|(exact tl _ _ _ _ _ _)|(apply adY (r:=v);rfl;rfl;omega;exact e1)|apply aaQ|apply aa|apply aaf|apply aad|apply abC|(apply abz;rfl)|(apply abx;rfl)|(apply acF;rfl)|(apply abV;rfl;rfl)|(apply acR;rfl;rfl)|(apply aco;rfl;rfl)|(apply adT;rfl;rfl;omega)|(apply abh;rfl;rfl)|(apply abl;rfl;rfl)|(intro _;omega)|intro _
     all_goals try omega
   . rw[decide_eq_false hn]at tl hp;have e1:aQ q=v:=by rw[hv];exact(jX hp).symm
     have h45:¬(((aQ q)[jj 0]!).toNat:Int)=45:=fun h=>hn (hh.1 ⟨h0,h⟩)
     rw[e1]at AW h0 h45 ⊢;repeat' first|(exact tl _ _ _ _ _ _)|apply aaQ|apply aa|apply aaf|apply aad|apply abC|(apply abx;rfl)|(apply acF;rfl)|(apply abV;rfl;rfl)|(apply acR;rfl;rfl)|(apply aco;rfl;rfl)|(apply adT;rfl;rfl;omega)|(apply abh;rfl;rfl)|(apply abl;rfl;rfl)|(intro _;omega)|intro _
     all_goals try omega
structure Mp (M:ax)(N:Nat):Prop where
 ft:M.FT=FT
 Es:∀q,(aQ q).length<1000000->∃n d b,(b=true->n=q.num/\d=q.den/\al q.num<1000000000/\q.den<1000000000)/\∀h,M.ext 191 [.str (aQ q)] h=some ⟨.ay [.iV n,.iV d,.bool b],h,[]⟩
 qq:∀q,(aQ q).length<1000000->∃v1 v2,bW v1 q.num/\bW v2 (q.den:Nat)/\∀h,M.ext 170 [.str (aQ q)] h=some ⟨.ay [v1,v2],h,[]⟩
 yc:∀{a b x y},bW a x->bW b y->al x<dB^N->al y<dB^N->∃v0,bW v0 (x*y)/\∀h,M.ext 194 [a,b] h=some ⟨v0,h,[]⟩
 Mq:∀{a b x y},bW a x->bW b y->al x<dB^N->al y<dB^N->∃v0,bW v0 (x+y)/\∀h,M.ext 193 [a,b] h=some ⟨v0,h,[]⟩
 sV:∀{a b x y} h,bW a x->bW b y->al x<dB^N->al y<dB^N->y≠0->M.ext 192 [a,b] h=some ⟨.str (aQ (b6 x y)),h,[]⟩
 Mr:∀(n d:Int) h,-9223372036854775808<=n/\n<9223372036854775808 -> -9223372036854775808<=d/\d<9223372036854775808->d≠0->M.ext 149 [.iV n,.iV d] h=some ⟨.str (aQ (b6 n d)),h,[]⟩
structure Fit (N k:Nat)(q:Rat):Prop where
 dq:Dq k q
 n0:al q.num<dB^N
 d0:al (q.den:Int)<dB^N
theorem fit {k:Nat}(hk:(10:Int)^(2*k+1)<=dB^N){q:Rat}(h:Dq k q):Fit N k q:=by
 have h1:=nZ (m:=k) (n:=2*k+1) ac;exact⟨h,by have:=h.1;omega,by rw[fu ac];have:=h.2;omega⟩
theorem Et {x y:Int}(hx:al x<1000000000)(hy:al y<1000000000) : -1000000000000000000<x*y/\x*y<1000000000000000000:=by
 have h:=xc (m:=9) (n:=9) hx hy;have e:(10:Int)^(9+9)=1000000000000000000:=by decide
 rw[e]at h;unfold al at h;split at h <;> omega
theorem abf (C:Mp M N){k:Nat}(hk:(10:Int)^(2*k+1)<=dB^N){p q:Rat}(hp:Dq k p)(hq:Dq k q)(lp:(aQ p).length<1000000)(lq:(aQ q).length<1000000):bg M 139 [.str (aQ p),.str (aQ q)] [] ⟨.str (aQ (p+q)),[],[]⟩:=by
 obtain⟨n,d,b,hb,q1⟩:=C.Es p lp;obtain⟨m,e,b',hb',q2⟩:=C.Es q lq;obtain⟨v1,v2,k1,k2,q3⟩:=C.qq p lp;obtain⟨v3,v4,k3,k4,q4⟩:=C.qq q lq;have fp:=fit hk hp;have fq:=fit hk hq;have dp:=den_pos (q:=p);have dq:=den_pos (q:=q);have b2:al (p.den:Int)<10^k:=by rw[fu ac];exact hp.2
 have b4:al (q.den:Int)<10^k:=by rw[fu ac];exact hq.2
 have e2:(10:Int)^(2*k+1)=10^(k+k)*10:=by rw[show 2*k+1=(k+k)+1 by omega];exact b8 _ _
 have t0:=wZ (k+k);have m1:=xc hp.1 b4;have m2:=xc hq.1 b2;have m3:=xc b2 b4;obtain⟨v5,k5,q5⟩:=C.yc k1 k4 fp.n0 fq.d0;obtain⟨v6,k6,q6⟩:=C.yc k3 k2 fq.n0 fp.d0;obtain⟨v7,k7,q7⟩:=C.Mq k5 k6 ac ac;obtain⟨v8,k8,q8⟩:=C.yc k2 k4 fp.d0 fq.d0;have hne:(p.den:Int)*q.den≠0:=Int.ne_of_gt (pp dp dq);have q9:=fun h=>C.sV h k7 k8 (by have:=Yy (x:=p.num*q.den) (y:=q.num*p.den);omega) ac hne
 rw[←Cy]at q9;obtain⟨_,_,_,rfl,_,o1,_⟩:=k1.shape;obtain⟨_,_,_,rfl,_,o2,_⟩:=k2.shape;obtain⟨_,_,_,rfl,_,o3,_⟩:=k3.shape;obtain⟨_,_,_,rfl,_,o4,_⟩:=k4.shape;refine bY (by rw[C.ft];exact aat) aq ?_;by_cases hbb:b=true/\b'=true
 . obtain⟨rfl,rfl⟩:=hbb;obtain⟨rfl,rfl,s1,s2⟩:=hb rfl;obtain⟨rfl,rfl,s3,s4⟩:=hb' rfl;have s2':al (p.den:Int)<1000000000:=by rw[fu ac];omega
   have s4':al (q.den:Int)<1000000000:=by rw[fu ac];omega
   have r1:=Et s1 s4';have r2:=Et s3 s2';have r3:=Et s2' s4';have qa:=fun h=>C.Mr (p.num*q.den+q.num*p.den) (p.den*q.den) h ac ac hne
   rw[←Cy]at qa;clear q3 q4 q5 q6 q7 q8 q9;unfold Ee;simp only[enter];generalize p.num=P at *
   generalize q.num=Q at *
   generalize (p.den:Int)=D at *
   generalize (q.den:Int)=E at *
   repeat' first|apply aaQ|apply aa|apply aaf|apply aad|apply abw|apply aU|(apply abz;rfl)|(apply acF;rfl)|(apply aco;rfl;rfl)|(apply acS;rfl;rfl;omega)|(apply ael;rfl;rfl;omega)|(apply abJ;rfl;rfl;first|exact q1 _|exact q2 _|exact qa _)|(apply abh;rfl;rfl)|(apply abl;rfl;rfl)
   all_goals exact⟨.inr rfl,rfl,_,rfl,rfl,rfl⟩
 . have hc:b=false\/b=true/\b'=false:=by cases b <;> cases b' <;> simp at hbb ⊢
   unfold Ee;simp only[enter];rcases hc with rfl|⟨rfl,rfl⟩;all_goals
   . repeat' first|(apply adM;rfl;rfl;rfl;exact⟨rfl,aW _,by first|exact iM o1|exact iM o2|exact iM o3|exact iM o4⟩;rfl)|(apply aeA;rfl;rfl;rfl)|(apply abJ;rfl;rfl;first|exact q1 _|exact q2 _|exact q3 _|exact q4 _|exact q5 _|exact q6 _|exact q7 _|exact q8 _|exact q9 _)|(apply adN;rfl;rfl;(first|(simp only[nca];rfl)|rfl);first|exact q1 _|exact q2 _|exact q3 _|exact q4 _|exact q5 _|exact q6 _|exact q7 _|exact q8 _|exact q9 _)|apply aaQ|apply aa|apply aaf|apply aad|apply abw|apply abC|apply adr|apply adI|(apply adO;rfl)|(apply adJ;rfl;rfl;(first|(simp only[nca];rfl)|rfl))|(apply abx;rfl)|(apply acF;rfl)|(apply adu;rfl)|(apply aco;rfl;rfl)|(apply acw;rfl;rfl)|(apply abU;rfl;rfl;rfl)|(apply abh;rfl;rfl)|(apply abl;rfl;rfl)
     all_goals exact⟨.inr rfl,rfl,_,rfl,rfl,rfl⟩
theorem abg (hft:M.FT=FT){p q:Rat}(q113:∀h,M.ext 113 [.str (aQ q)] h=some ⟨.str (aQ (-q)),h,[]⟩)(q139:∀h,M.ext 139 [.str (aQ p),.str (aQ (-q))] h=some ⟨.str (aQ (p + -q)),h,[]⟩):bg M 128 [.str (aQ p),.str (aQ q)] [] ⟨.str (aQ (p-q)),[],[]⟩:=by
 rw[Rat.sub_eq_add_neg];refine bY (by rw[hft];exact aau) aq ?_;unfold LW;simp only[enter];repeat' first|apply aaQ|apply aa|apply aaf|apply aad|apply abw|(apply abJ;rfl;rfl;first|exact q113 _|exact q139 _)|(apply abh;rfl;rfl)|(apply abl;rfl;rfl)
 all_goals exact⟨.inr rfl,rfl,_,rfl,rfl,rfl⟩
theorem w48 (hft:M.FT=FT){p q:Rat}(q128:∀h,M.ext 128 [.str (aQ p),.str (aQ q)] h=some ⟨.str (aQ (p-q)),h,[]⟩)(q105:∀h,M.ext 105 [.str (aQ (p-q))] h=some ⟨.iV (br (p-q).num),h,[]⟩):bg M 48 [.str (aQ p),.str (aQ q)] [] ⟨.iV (br (p-q).num),[],[]⟩:=by
 refine bY (by rw[hft];exact aav) aq ?_;unfold LX;simp only[enter];repeat' first|apply aaQ|apply aa|apply aaf|apply aad|apply abw|(apply abJ;rfl;rfl;first|exact q128 _|exact q105 _)|(apply abh;rfl;rfl)|(apply abl;rfl;rfl)
 all_goals exact⟨.inr rfl,rfl,_,rfl,rfl,rfl⟩
def Eu:ao:=zR [⟨.p 4,.mv (.c (.bool false)),none⟩] (.seq (zR [zm 9 2,zc 10 .neq 9 0] (.cond (.l 10) (zR [zm 11 0,zc 12 .eql 11 0,zn 13 12,zg (zm 14 1) 13 true,zg (zm 15 2) 13 true,zg (zb 16 .eql 14 15) 13 true,zp 17 13 16,zw 4 17] (.ret)) (.skip))) (zR [zm 18 1,zc 19 .eql 18 0,zn 20 19,zg (zm 21 0) 20 true,zg (zm 22 3) 20 true,zg (zb 23 .eql 21 22) 20 true,zp 24 20 23,zw 4 24] (.ret)))
theorem Ms:FT 42=some ⟨25,[0,1,2,3,8],[.var (.p 4)],Eu⟩:=by kernel_rfl
theorem abi (hft:M.FT=FT){e:Int}(he:e≠0):bg M 42 [.iV 0,.iV e,.iV e,.iV 0] [] ⟨.bool true,[],[]⟩:=by
 refine bY (by rw[hft];exact Ms) aq ?_;unfold Eu;simp only[enter];repeat' first|apply aaQ|apply aa|apply aaf|apply aad|apply abw|apply aU|(apply abz;rfl)|(apply acF;rfl)|(apply acR;rfl;rfl)|(apply adf;rfl;rfl)|(apply aco;rfl;rfl)|(apply abh;rfl;rfl)|(apply abl;rfl;rfl)|(intro _;omega)|intro _
 all_goals try omega
 all_goals exact⟨.inr rfl,rfl,_,rfl,rfl,rfl⟩
theorem abj (hft:M.FT=FT)(c:Int):bg M 42 [.iV c,.iV 0,.iV 0,.iV c] [] ⟨.bool true,[],[]⟩:=by
 refine bY (by rw[hft];exact Ms) aq ?_;unfold Eu;simp only[enter];repeat' first|apply aaQ|apply aa|apply aaf|apply aad|apply abw|apply abC|(apply abx;rfl)|(apply acF;rfl)|(apply acR;rfl;rfl)|(apply adf;rfl;rfl)|(apply aco;rfl;rfl)|(apply abh;rfl;rfl)|(apply abl;rfl;rfl)|(intro _;omega)|intro _
 all_goals try omega
 all_goals exact⟨.inr rfl,rfl,_,rfl,rfl,rfl⟩
theorem gJ.zero {b:Nat}{e:TypeId}{hp:ae}(hb:hp.at b=some (.cells (ak []) e)):gJ (aV [.sl b 0 0 1 cap]) (if (aV [.sl b 0 0 1 cap]).top<=0 then [] else hp) []:=by
 rw[if_neg (by simp[aV,AV.top])];refine⟨.vs [] 0 none,⟨[b],.sl (m:=[]) (bj.2 rfl) hb rfl rfl (fun i x y hx=>by simp at hx) (.inr rfl),rfl,fun c l' e' hc hl'=>?_⟩,rfl,rfl⟩;rw[bj.1 hc,hb]at hl';cases hl';exact pz (fun _=>rfl) []
theorem abk (hft:M.FT=FT)(dV:∀ars h,M.ext 236 ars h=none):xG M 257 [.vs (ak []) ([]:List Int).length c1,.vs (ak []) ([]:List Int).length c2] (WV dB []*WV dB []):=by
 refine DE (by rw[hft];exact KR) aq ?_;have q:=CT.run (fi:=[]) (ca:=[]) (ars:=[.sl 0 0 0 1 (some 0)]) (dV _ _) (DJ hft (b:=0) (L:=[]) (e:=3) (hp:=[some (.cells (ak []) 3)]) (cap:=some 0) rfl);have hl:([]:List Int).length=0:=rfl;unfold Dz;simp only[enter];rw[hl];repeat' first|apply aaQ|apply aa|apply aaf|apply aad|apply abI|(apply acS;rfl;rfl;omega)|(apply aeh;rfl;rfl;omega)|(apply abh;rfl;rfl)|(apply abl;rfl;rfl)
 refine W.loop ?_;unfold xD;repeat' first|apply aaQ|apply aa|apply aaf|apply aad|apply abw|apply acH|apply bN|apply bJ|apply dP|(apply abx;rfl)|(apply abR;rfl;rfl)|(apply adQ;rfl;rfl;first|exact q)|(apply abh;rfl;rfl)|(apply abl;rfl;rfl)|(intro _;omega)|intro _
 all_goals try omega
 all_goals exact⟨.inr rfl,rfl,_,rfl,[],⟨iI,jP,rfl⟩,gJ.zero rfl⟩
end Go.Ab.Ch5.N
