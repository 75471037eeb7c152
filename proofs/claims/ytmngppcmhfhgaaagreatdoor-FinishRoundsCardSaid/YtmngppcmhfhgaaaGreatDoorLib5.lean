/-
  Own work: the reference's integers: read from texts.
-/
import Derived.Test.YtmngppcmhfhgaaaGreatDoorLib4
import Derived.Test.YtmngppcmhfhgaaaGreatDoorLib3
import Derived.Test.YtmngppcmhfhgaaaGreatDoorCh5Base
open Bool renaming and_eq_true→ip,false_and→i6,true_and→le,not_false→pp
open Int renaming mul_le_mul_of_nonneg_left→be,mul_le_mul_of_nonneg_right→bZ,pow_succ→cD,gcd→c5,le_of_lt→c6,mul_zero→dc,emod_lt_of_pos→dg,lt_or_le→dz,add_zero→d6,mul_lt_mul_of_pos_right→d7,mul_assoc→d8,emod_nonneg→fo,toNat_natCast→fY,pow_pos→f6,gcd_pos_of_ne_zero_right→f9,ediv_eq_of_eq_mul_right→gC,mul_add→gF,tdiv_eq_ediv_of_nonneg→gT,tmod_eq_emod_of_nonneg→g9,add_mul→ii,one_mul→iI,mul_nonneg→i5,mul_ediv_add_emod→i8,ediv_lt_of_lt_mul→i9,toNat→je,mul_le_mul→jt,lt_of_mul_lt_mul_left→jV,mul_tdiv_cancel_left→j4,ediv_le_self→j7,sub_zero→j8,gcd_zero_right→mp,lt_of_lt_of_le→m6,lt_of_le_of_lt→m7,zero_add→ne,mul_comm→nk,pow_add→n4,mul_pos→n5,sub_mul→n6,natCast_pow→n7,ediv_nonneg→n9,natAbs_tdiv→oZ,add_assoc→pu
open List renaming length_set→br,length_append→bA,length_take→b9,mem_singleton→ce,take_of_length_le→cC,length_pos_iff→cP,length_nil→cT,getElem!_eq_getElem?_getD→cZ,take_length→c7,replicate→c9,length_cons→de,eq_nil_of_length_eq_zero→du,length_drop→d9,length_singleton→eA,drop_eq_getElem_cons→eL,append_assoc→fu,all_cons→gc,take_append_drop→i7,drop_append_of_le_length→jg,length→j0,getElem?_take_of_lt→j3,drop_length→j5,drop_left→kT,drop_zero→k9,getElem?_drop→l9,all_nil→m9,all_append→n8,drop_drop→pi,take_take→pm
open Nat renaming le_refl→bj,zero_lt_one→f7,pow_le_pow_right→gD,min_eq_left→iq,lt_of_le_of_lt→iH,gcd→jj,eq_zero_or_pos→jN,zero_le→j1,le_of_not_lt→j6,lt_or_ge→j9,div_le_self→kO,add_assoc→lc,lt_of_lt_of_le→li,add_sub_cancel→m5,lt_succ_self→nD,div_eq_of_lt→n3
open Option renaming isSome_iff_exists→j2
open Rat renaming divInt→ci,neg_divInt_neg→m8
open UInt8 renaming toNat_inj→kw
set_option maxHeartbeats 8000000
set_option maxRecDepth 20000
namespace Go.Ab.Ch5.N
open Go.Ab.bB
variable {M:ay} {cap c1 c2:Option Nat}
def cG (v:AV)(z:Int):Prop:=∃neg x l,v = .agg [.bool neg,x]/\da x l/\okW dB l/\bg l/\z=(if neg then -WV dB l else WV dB l)/\(neg=true->l≠[])
def jU (v:AV)(z:Int):Prop:=∃neg l,v = .agg [.bool neg,.vs (aj l) l.length none]/\okW dB l/\bg l/\z=(if neg then -WV dB l else WV dB l)/\(neg=true->l≠[])
theorem jU.uq {v:AV}{z:Int}(h:jU v z):cG v z:=by
 obtain⟨neg,l,h1,h2,h3,h4,h5⟩:=h;exact⟨neg,_,l,h1,.inl rfl,h2,h3,h4,h5⟩
theorem MN (n:Nat):((10^(9*n):Nat):Int)=dB^n:=by
 rw[Nat.pow_mul];exact n7 _ _
theorem abY {t x:az}(hx:x.length=9):aU 0 (t++x)=aU 0 t*1000000000+aU 0 x:=by
 rw[pC,yg,hx]
structure Fk (M:ay):Prop where
 ft:M.FT=FT
 ff:∀ars h,M.ext 236 ars h=none
 ur:∀ars h,M.ext 183 ars h=none
 pM:∀(s:az) h,s.length<=18->s.all bT=true->M.ext 232 [.str s] h=some ⟨.iV (aU 0 s:Nat),h,[]⟩
theorem MO {K:ab}{c:Nat}{L:List Int}{neg:Bool}(hc:K.at c=some (.cells (aj L) 3))(oL:okW dB L) :
 ∃v0,jU v0 (if neg then -WV dB L else WV dB L)/\fG (.agg [.bool (neg && decide (0<bh (L.take L.length))),bY c (bh (L.take L.length)) none]) (if (AV.agg [.bool (neg && decide (0<bh (L.take L.length))),bY c (bh (L.take L.length)) none]).top<=0 then [] else K) v0:=by
 obtain⟨v1,f1,t1,k1⟩:=Fj (cap:=none) hc (bj L.length) (if (AV.agg [.bool (neg && decide (0<bh (L.take L.length))),bY c (bh (L.take L.length)) none]).top<=0 then [] else K) (fun h=>by
  rw[if_neg];intro h2;apply h;have:(AV.agg [.bool (neg && decide (0<bh (L.take L.length))),bY c (bh (L.take L.length)) none]).top=max 0 (max (bY c (bh (L.take L.length)) none).top 0):=rfl;omega)
 obtain⟨g1,g2,g3⟩:=pI oL;rw[c7]at k1 f1 ⊢;refine⟨.agg [.bool (neg && decide (0<bh L)),.vs (aj (L.take (bh L))) (L.take (bh L)).length none],⟨_,_,rfl,g1,g2,?_,?_⟩,.agg [.bool (neg && decide (0<bh L)),v1],.agg rfl (fun i a b ha hb=>?_),?_,?_⟩
 . rw[g3];cases neg with
   | false=>rfl
   | true=>
    by_cases h0:0<bh L
    . rw[decide_eq_true h0];rfl
    . rw[decide_eq_false h0];have:WV dB L=0:=by rw[←g3,show bh L=0 by omega];rfl
      rw[this];rfl
 . intro h e;rw[ip,decide_eq_true_eq]at h;have:=congrArg j0 e;have hle:=js (l:=L);rw[b9,cT]at this;omega
 . match i with
   | 0=>cases ha;cases hb;exact .same rfl
   | 1=>cases ha;cases hb;exact f1
   | i+2=>cases ha
 . simp[AV.top,bO,t1]
 . simp only[bS,dh,k1]
theorem abZ (C:Fk M){Q:Ex->au->Prop}(full:az)(hD:full.all bT=true)(hl:full.length<1000000)(a2:AV)
 (hQ:∀t acc o K lo wr,t.length<=9->t.all bT=true->okW dB acc->acc.length<1000000->(aU 0 full:Int)=aU 0 t*dB^acc.length+WV dB acc->cU iC 1 3 K o acc [0]->K.at 0=some (.cells [.bool false,.ah] 200)->Q (.exit 0) ⟨⟨[.str t,.ptr 0 0,a2,o],lo,K,[]⟩,wr⟩)
 (lo:List (Nat×AV)) (wr:List Nat) (K:ab) (hK:K.at 0=some (.cells [.bool false,.ah] 200)) :
 W M (.loop ug) ⟨⟨[.str full,.ptr 0 0,a2,.ah],lo,K,[]⟩,wr⟩ Q:=by
 refine W.ir (fun m st=>∃t acc o K lo wr,st=⟨⟨[.str t,.ptr 0 0,a2,o],lo,K,[]⟩,wr⟩/\t.length=m/\t.all bT=true/\okW dB acc/\acc.length*9+t.length<=full.length/\(aU 0 full:Int)=aU 0 t*dB^acc.length+WV dB acc/\cU iC 1 3 K o acc [0]/\K.at 0=some (.cells [.bool false,.ah] 200))
  (fun m st ⟨t,acc,o,K,lo,wr,hst,hm,hDt,oA,hln,hv,ho,hK⟩=>?_) (m:=full.length) ⟨full,[],.ah,K,lo,wr,rfl,rfl,hD,jr,ax,by simp[WV],.nu,hK⟩
 subst hst;by_cases h9:t.length<=9
 . unfold ug;repeat' first|apply abx|apply aa|apply abr|apply aaL|apply aeM|apply bH|apply ck|(apply acM;rfl)|(apply aeq;rfl;rfl)|(apply abA;rfl;rfl)|(intro _;omega)|intro _
   all_goals try omega
   all_goals exact hQ _ _ _ _ _ _ h9 hDt oA ac hv ho hK
 . obtain⟨x,y,hxy,hxl⟩:∃x y,t=x++y/\y.length=9:=⟨t.take (t.length-9),t.drop (t.length-9),(i7 _ t).symm,by rw[d9];omega⟩;have htl:t.length=x.length+9:=by rw[hxy,bA,hxl]
   have hDx:x.all bT=true:=by rw[hxy,n8,ip]at hDt;exact hDt.1
   have hDy:y.all bT=true:=by rw[hxy,n8,ip]at hDt;exact hDt.2
   have q232:=fun h=>C.pM y h ac hDy
   have hylt:aU 0 y<1000000000:=by have:=nN y hDy;rw[hxl]at this;exact this
   have edr:t.drop ((t.length:Int)-9).toNat=y:=by rw[show ((t.length:Int)-9).toNat=x.length by omega,hxy,kT]
   have etk:t.take ((t.length:Int)-9).toNat=x:=by rw[show ((t.length:Int)-9).toNat=x.length by omega,hxy,List.take_left]
   have hroom:(acc.length+1)*8<=fa:=by unfold fa;omega
   have hK1:=gS hK;unfold ug;repeat' first|(apply air (s:=t) (r:=y);rfl;rfl;omega;exact edr)|(apply aiz (s:=t) (r:=x);rfl;rfl;omega;exact etk)|(refine cU.app (f:=iC) (m:=[(aU 0 y:Int)]) (S:=[0]) (fun _=>rfl) (fun _=>rfl) ao (ho.grow [_]) ax rfl rfl (Sl.ke (f:=iC) (esz:=1) (l:=[(aU 0 y:Int)]) (e:=3) (fun _=>rfl) cj rfl) hroom (fun H w' o' ho' hk hlen=>?_))|apply abx|apply aa|apply abr|apply aaL|apply aef|apply adA|apply bC|(apply acO;rfl)|(apply aeq;rfl;rfl)|(apply afS;rfl;rfl;omega)|(apply adX;rfl;rfl;first|exact q232 _)|(apply aev;rfl;rfl;rfl)|(apply abA;rfl;rfl)|(apply abC;rfl;rfl)|(intro _;omega)|intro _
   all_goals try omega
   all_goals exact dQ ⟨x.length,ac,x,acc++[(aU 0 y:Int)],o',H,_,_,rfl,rfl,hDx,ki oA (fun z hz=>by rw[ce.1 hz];exact⟨ac,by show _<(1000000000:Int);omega⟩),by rw[bA,eA];omega,by
    rw[hv,hxy,abY hxl,bA,eA,cD,gE];rw[Int.natCast_add,Int.natCast_mul];have:WV dB [(aU 0 y:Int)]=aU 0 y:=by simp[WV]
    rw[this];show ((aU 0 x:Int)*1000000000+aU 0 y)*dB^acc.length+WV dB acc=aU 0 x*(dB^acc.length*1000000000)+(WV dB acc+dB^acc.length*aU 0 y);grind,ho',hk 0 _ ax (cB hK)⟩
theorem aca (C:Fk M)(s:az)(hl:s.length<1000000)(hD:(bW 45 s).all bT=true):∃v0,jU v0 (if preB 45 s then -(aU 0 (bW 45 s):Int) else (aU 0 (bW 45 s):Nat))/\dD M 178 [.str s] v0:=by
 have hcl:=rA 45 s;obtain⟨v',hh,⟨v0,h0,ho⟩,hr⟩:=iR (M:=M) (f:=178) (ars:=[.str s]) (P:=fun v hh=>∃v0,jU v0 (if preB 45 s then -(aU 0 (bW 45 s):Int) else (aU 0 (bW 45 s):Nat))/\fG v hh v0) (by rw[C.ft];exact abI) ax (by
  have main:∀(neg:Bool) (lo:List (Nat×AV)) (wr:List Nat) {Q:Ex->au->Prop},(∀e st,((e = .normal\/e = .ret)/\st.s.cI=[]/\∃vs,dK st.s [.cell 2 true (.p 1)]=some vs/\∃v0,jU v0 (if neg then -(aU 0 (bW 45 s):Int) else (aU 0 (bW 45 s):Nat))/\fG (bk vs) (if (bk vs).top<=0 then [] else st.s.hp) v0)->Q e st) ->
   W M (.loop ug) ⟨⟨[.str (bW 45 s),.ptr 0 0,.bool neg,.ah],lo,[some (.cells [.bool false,.ah] 200)],[]⟩,wr⟩ (BQ 0 (SQ M (zR [zm 33 2,
    zm 34 3,
    zm 35 0,
    z1 36 232 35,
    ⟨(.l 37),.dW 3 1 1 [.iV (0)] [(0,1,(.l 36))],none⟩,
    ⟨(.l 38),.append 3 1 8 (.l 34) (.l 37),none⟩,
    z2 39 183 33 38,
    zs 2 1 39]
     (.ret)) Q)):=by
   intro neg lo wr Q hQ;refine abZ C (bW 45 s) hD ac _ (fun t acc o K lo wr ht hDt oA hacc hv ho hK=>?_) _ _ _ rfl;have q232:=fun h=>C.pM t h ac hDt
   have htlt:aU 0 t<1000000000:=by
    have h1:=nN t hDt;exact li h1 (Nat.le_trans (gD ao ht) ao)
   have hroom:(acc.length+1)*8<=fa:=by unfold fa;omega
   have hK1:=gS hK;repeat' first|(refine cU.app (f:=iC) (m:=[(aU 0 t:Int)]) (S:=[0]) (fun _=>rfl) (fun _=>rfl) ao (ho.grow [_]) ax rfl rfl (Sl.ke (f:=iC) (esz:=1) (l:=[(aU 0 t:Int)]) (e:=3) (fun _=>rfl) cj rfl) hroom (fun H w' o' ho' hk hlen=>?_))|apply abx|apply aa|apply abr|apply bJ|(apply adX;rfl;rfl;first|exact q232 _)|(apply aev;rfl;rfl;rfl)|(apply abA;rfl;rfl)
   rcases ho' with ⟨h1,_⟩|⟨c,cp,hc0,rfl,hc,hcap⟩
   . simp at h1
   obtain rfl:cp=none:=hcap.resolve_right fun h=>by simp at h
   have oL:okW dB (acc++[(aU 0 t:Int)]):=ki oA (fun z hz=>by rw[ce.1 hz];exact⟨ac,by show _<(1000000000:Int);omega⟩);have vL:WV dB (acc++[(aU 0 t:Int)])=(aU 0 (bW 45 s):Int):=by
    rw[hv,gE];have:WV dB [(aU 0 t:Int)]=aU 0 t:=by simp[WV]
    rw[this];grind
   have h0':H.at 0=some (.cells [.bool false,.ah] 200):=hk 0 _ ax (cB hK);have hcn:c≠0:=fun e=>hc0 (by simp[e])
   obtain⟨L,hL⟩:∃L,L=acc++[(aU 0 t:Int)]:=⟨_,rfl⟩;rw[←hL]at oL vL hc;have hLl:(acc++[(aU 0 t:Int)]).length=L.length:=by rw[hL]
   rw[hLl];have hLn:0<L.length/\L.length<1000001:=by rw[hL,bA,eA];omega
   have q183:=CT.run (fi:=[]) (ca:=[]) (ars:=[.bool neg,.sl c 0 L.length 1 none]) (C.ur _ _) (MM (cap:=none) C.ft C.ff neg hc hLn.1 (bj _) ac (fun _ h=>by cases h));obtain⟨v0,k0,o0⟩:=MO (K:=H.put 0 (some (.cells [.bool (neg && decide (0<bh (L.take L.length))),bY c (bh (L.take L.length)) none] 200))) (neg:=neg) (wC hcn hc) oL;rw[vL]at k0;have hone:dx (bY c (bh (L.take L.length)) none)=true:=by unfold bY;split <;> rfl
   repeat' first|(apply aia;rfl;rfl;exact h0';exact⟨rfl,bj _,by rw[gc,gc,m9,hone];rfl⟩;rfl)|apply aa|apply aaL|apply acG|(apply ahW;rfl;rfl;first|exact q183)
   refine hQ _ _ ⟨.inr rfl,rfl,_,pL rfl (cQ (gS h0')),v0,k0,o0⟩
  unfold My;simp only[enter];cases hp:preB 45 s with
  | true=>
   obtain⟨h1,h2⟩:=tW hp;have h1:s.drop (1:Int).toNat=bW 45 s:=h1;have e0:s[0]! = 45:=by
    have h:=of_decide_eq_true hp;cases s with
    | nil=>simp at h
    | cons c t=>simp at h;exact h
   have e45:((s[(0:Int).toNat]!).toNat:Int)=45:=by rw[show s[(0:Int).toNat]! = s[0]! from rfl,e0];rfl
   repeat' first|(apply air;rfl;rfl;omega;exact h1)|apply abx|apply aa|apply abr|apply aaL|apply aef|(apply acO;rfl)|(apply afg;rfl)|(apply aeq;rfl;rfl)|(apply afe;rfl;rfl)|(apply aeB;rfl;rfl)|(apply aii;rfl;rfl;omega)|(apply aes;rfl;rfl;rfl)|(apply abA;rfl;rfl)|(apply abC;rfl;rfl)|(intro _;omega)|intro _
   all_goals try omega
   all_goals exact main true _ _ (fun e st h=>h)
  | false=>
   have e1:=kZ hp;rw[e1]at main;by_cases h0:s.length=0
   . repeat' first|apply abx|apply aa|apply abr|apply aaL|apply aef|apply adA|(apply acM;rfl)|(apply ahU;rfl)|(apply aeq;rfl;rfl)|(apply aeC;rfl;rfl)|(apply aes;rfl;rfl;rfl)|(apply abA;rfl;rfl)|(apply abC;rfl;rfl)|(intro _;omega)|intro _
     all_goals try omega
     all_goals exact main false _ _ (fun e st h=>by rw[e1];exact h)
   . have e45:((s[(0:Int).toNat]!).toNat:Int)≠45:=fun e=>by
      have h:=of_decide_eq_false hp;cases s with
      | nil=>exact h0 rfl
      | cons c t=>
       refine h (congrArg some (kw.1 ?_));have e:((c.toNat:Nat):Int)=45:=e;have:(45:UInt8).toNat=45:=rfl;omega
     repeat' first|apply abx|apply aa|apply abr|apply aaL|apply aef|apply adA|(apply acM;rfl)|(apply afg;rfl)|(apply aeq;rfl;rfl)|(apply afe;rfl;rfl)|(apply aeB;rfl;rfl)|(apply aii;rfl;rfl;omega)|(apply aes;rfl;rfl;rfl)|(apply abA;rfl;rfl)|(apply abC;rfl;rfl)|(intro _;omega)|intro _
     all_goals try omega
     all_goals exact main false _ _ (fun e st h=>by rw[e1];exact h))
 exact⟨v0,h0,v',hh,ho,hr⟩
theorem uu (x:AV){l:List Int}(h:da x l):dx x=true/\x.top=0/\bS x=x:=by
 rcases h with rfl|⟨rfl,rfl⟩
 . exact⟨rfl,fU l,by rw[bS,pJ]⟩
 . exact⟨rfl,rfl,rfl⟩
theorem cG.shape {v:AV}{z:Int}(h:cG v z):∃neg x l,v = .agg [.bool neg,x]/\da x l/\dx x=true/\x.top=0/\bS x=x:=by
 obtain⟨neg,x,l,rfl,hx,_⟩:=h;obtain⟨h1,h2,h3⟩:=uu x hx;exact⟨neg,x,l,rfl,hx,h1,h2,h3⟩
theorem jx {n:Bool}{x:AV}(h:dx x=true):[AV.bool n,x].all dx=true:=by rw[gc,gc,m9,h];rfl
theorem MP {s:az}(h:ku s=true):s.take (cK s)=(bR 47 s).1/\s.drop (cK s+1)=(bR 47 s).2.getD []/\cK s+1<=s.length:=by
 unfold ku at h;obtain⟨y,hy⟩:=j2.1 h;have h1:=EA hy;have h2:=LC hy;have h3:=tT hy;refine⟨h1,?_,by unfold cK;omega⟩;rw[hy];exact h2
theorem MQ (hft:M.FT=FT)(s:az)(hl:s.length<1000000)(hb:ku s=true)(q152:∀h,M.ext 152 [.str s] h=some ⟨.iV (cK s),h,[]⟩){v1 v2:AV}{z1 z2:Int}(k1:cG v1 z1)(k2:cG v2 z2)(qa:∀h,M.ext 178 [.str (bR 47 s).1] h=some ⟨v1,h,[]⟩)(qb:∀h,M.ext 178 [.str ((bR 47 s).2.getD [])] h=some ⟨v2,h,[]⟩):dD M 170 [.str s] (.aw [v1,v2]):=by
 obtain⟨e1,e2,hk⟩:=MP hb;obtain⟨n1,x1,l1,rfl,_,o1,t1,b1⟩:=k1.shape;obtain⟨n2,x2,l2,rfl,_,o2,t2,b2⟩:=k2.shape;have e1':s.take ((cK s:Nat):Int).toNat=(bR 47 s).1:=e1;have e2':s.drop ((cK s:Int)+1).toNat=(bR 47 s).2.getD []:=by rw[show ((cK s:Int)+1).toNat=cK s+1 by omega];exact e2
 generalize (bR 47 s).1=X at *
 generalize (bR 47 s).2.getD []=Y at *
 refine dH (by rw[hft];exact Mx) ax ?_;unfold EY;simp only[enter];repeat' first|(apply aiz (s:=s) (r:=X);rfl;rfl;omega;exact e1')|(apply air (s:=s) (r:=Y);rfl;rfl;omega;exact e2')|(apply ahR;rfl;rfl;(first|(simp only[nca];rfl)|rfl);first|exact qa _|exact qb _)|(apply aia;rfl;rfl;rfl;exact⟨rfl,bj _,by first|exact jx o1|exact jx o2⟩;rfl)|apply abx|apply aa|apply abr|apply aaL|apply acG|apply adA|apply afU|apply agy|(apply ahl;rfl)|(apply ahY;rfl;(first|(simp only[nca];rfl)|rfl);(first|(simp only[nca];rfl)|rfl))|(apply acM;rfl)|(apply afe;rfl;rfl)|(apply aeX;rfl;rfl;omega)|(apply adX;rfl;rfl;first|exact q152 _)|(apply aes;rfl;rfl;rfl)|(apply abA;rfl;rfl)|(apply abC;rfl;rfl)|(intro _;omega)|intro _
 all_goals try omega
 refine cV rfl rfl (.same ?_ ?_)
 . show max (max 0 (max x1.top 0)) (max (max 0 (max x2.top 0)) 0)=0;rw[t1,t2];rfl
 . show AV.aw [.agg [.bool n1,bS x1],.agg [.bool n2,bS x2]]=_;rw[b1,b2]
theorem MR (hft:M.FT=FT)(a b:List Int)(ha:okW dB a)(hb:okW dB b)(na:bg a)(nb:bg b)(la:a.length<1000000000)(_lb:b.length<1000000000) :
 bm M 255 [.vs (aj a) a.length c1,.vs (aj b) b.length c2] [] ⟨.iV (bE (WV dB a-WV dB b)),[],[]⟩:=by
 have hB:(1:Int)<dB:=by decide
 refine bX (by rw[hft];exact abL) ax ?_;by_cases hl:a.length=b.length
 . have loop:∀(r:Nat) lo a2 wr {Q:Ex->au->Prop},r<=a.length->a.drop r=b.drop r ->
    (∀lo wr z,z=bE (WV dB a-WV dB b)->∀a3,Q .ret ⟨⟨[.vs (aj a) a.length c1,.vs (aj b) b.length c2,.iV z,a3],lo,[],[]⟩,wr⟩) ->
    (bE (WV dB a-WV dB b)=0->∀lo wr,Q (.exit 0) ⟨⟨[.vs (aj a) a.length c1,.vs (aj b) b.length c2,a2,.iV (-1)],lo,[],[]⟩,wr⟩) ->
    W M (.loop rF) ⟨⟨[.vs (aj a) a.length c1,.vs (aj b) b.length c2,a2,.iV ((r:Int)-1)],lo,[],[]⟩,wr⟩ Q:=by
    intro r;induction r with
    | zero=>
     intro lo a2 wr Q hr hd h1 h2;rw[k9,k9]at hd;refine W.loop ?_;unfold rF;repeat' first|apply abx|apply aa|apply abr|apply aaL|apply aeM|apply bH|apply cA|(apply acM;rfl)|(apply ahS;rfl;rfl)|(apply abA;rfl;rfl)|(intro _;omega)|intro _
     all_goals try omega
     exact h2 (by rw[hd,Int.sub_self];rfl) _ _
    | succ r ih=>
     intro lo a2 wr Q hr hd h1 h2;have er:((r+1:Nat):Int)-1=r:=by omega
     rw[er];have hai:a[((r:Int)).toNat]! = a[r]! := rfl;have hbi:b[((r:Int)).toNat]! = b[r]! := rfl;refine W.loop ?_;by_cases hlt:a[r]! < b[r]!
     . have:=xg hB ha hb (i:=r) ac ac hd hlt;rw[←hai,←hbi]at hlt;unfold rF;repeat' first|apply abx|apply aa|apply abr|apply aaL|apply aef|apply acG|apply adA|apply ba|apply cn|apply dr|(apply ahZ;rfl)|(apply acO;rfl)|(apply aep;rfl;rfl)|(apply ahS;rfl;rfl)|(apply ahT;rfl;rfl;omega)|(apply aib;rfl;exact fun _=>rfl;(first|omega|(simp only[br];omega)|(simp;omega));decide;rfl;case ia=>infer_instance)|(apply abA;rfl;rfl)|(apply abC;rfl;rfl)|(intro _;omega)|intro _
       all_goals try omega
       all_goals exact h1 _ _ _ (by rw[bE,if_pos ac]) _
     . by_cases hgt:b[r]! < a[r]!
       . have:=xg hB hb ha (i:=r) ac ac hd.symm hgt;rw[←hai,←hbi]at hlt hgt;unfold rF;repeat' first|apply abx|apply aa|apply abr|apply aaL|apply aef|apply acG|apply adA|apply ba|apply cn|apply dr|(apply ahZ;rfl)|(apply acO;rfl)|(apply acM;rfl)|(apply aep;rfl;rfl)|(apply aeq;rfl;rfl)|(apply ahS;rfl;rfl)|(apply ahT;rfl;rfl;omega)|(apply aib;rfl;exact fun _=>rfl;(first|omega|(simp only[br];omega)|(simp;omega));decide;rfl;case ia=>infer_instance)|(apply abA;rfl;rfl)|(apply abC;rfl;rfl)|(intro _;omega)|intro _
         all_goals try omega
         all_goals exact h1 _ _ _ (by rw[bE,if_neg ac,if_pos ac]) _
       . have hd2:a.drop r=b.drop r:=by
          rw[eL (show r<a.length by omega),eL (show r<b.length by omega),hd,←getElem!_pos a r,←getElem!_pos b r];exact congrArg (· :: _) (show a[r]! = b[r]! by omega)
         rw[←hai,←hbi]at hlt hgt;unfold rF;repeat' first|apply abx|apply aa|apply abr|apply aaL|apply aef|apply adA|apply bC|(apply ahZ;rfl)|(apply acO;rfl)|(apply acM;rfl)|(apply aep;rfl;rfl)|(apply aeq;rfl;rfl)|(apply ahS;rfl;rfl)|(apply afS;rfl;rfl;omega)|(apply ahT;rfl;rfl;omega)|(apply aib;rfl;exact fun _=>rfl;(first|omega|(simp only[br];omega)|(simp;omega));decide;rfl;case ia=>infer_instance)|(apply abA;rfl;rfl)|(apply abC;rfl;rfl)|(intro _;omega)|intro _
         all_goals try omega
         all_goals exact fX (ih _ _ _ ac hd2 h1 h2)
   unfold Fc;simp only[enter];repeat' first|apply abx|apply aa|apply abr|apply aaL|apply aef|apply adA|(apply acM;rfl)|(apply agx;rfl;rfl)|(apply afS;rfl;rfl;omega)|(apply abA;rfl;rfl)|(apply abC;rfl;rfl)|(intro _;omega)|intro _
   all_goals try omega
   refine loop a.length _ _ _ (bj _) (by rw[j5,hl,j5]) (fun lo wr z hz a3=>?_) (fun hz lo wr=>?_)
   . subst hz;repeat' first|apply ba|apply cn
     all_goals exact⟨.inr rfl,rfl,_,rfl,rfl,rfl⟩
   . rw[hz];repeat' first|apply abx|apply aa|apply abr|apply aaL|apply acG|apply bJ|(apply abC;rfl;rfl)
     all_goals exact⟨.inr rfl,rfl,_,rfl,rfl,rfl⟩
 . unfold Fc;simp only[enter];by_cases hlt:a.length<b.length
   . have:=pt hB ha hb nb hlt;rw[show bE (WV dB a-WV dB b) = -1 by rw[bE,if_pos ac]];repeat' first|apply abx|apply aa|apply abr|apply aaL|apply acG|apply ba|(apply acO;rfl)|(apply aep;rfl;rfl)|(apply agx;rfl;rfl)|(apply abA;rfl;rfl)|(apply abC;rfl;rfl)|(intro _;omega)|intro _
     all_goals first|contradiction|(omega)|skip
     all_goals exact⟨.inr rfl,rfl,_,rfl,rfl,rfl⟩
   . have:=pt hB hb ha na ac;rw[show bE (WV dB a-WV dB b)=1 by rw[bE,if_neg ac,if_pos ac]];repeat' first|apply abx|apply aa|apply abr|apply aaL|apply acG|apply adA|apply ba|(apply acO;rfl)|(apply acM;rfl)|(apply aep;rfl;rfl)|(apply agx;rfl;rfl)|(apply abA;rfl;rfl)|(apply abC;rfl;rfl)|(intro _;omega)|intro _
     all_goals first|contradiction|(omega)|skip
     all_goals exact⟨.inr rfl,rfl,_,rfl,rfl,rfl⟩
theorem acb (a:List Int)(oa:okW dB a)(la:a.length<10000000)(d:Int)(hd:0<d/\d<=1000000000){Q:Ex->au->Prop}(a2 a3:AV)
 (hQ:∀L (re:Int) a7 lo wr,L.length=a.length->okW dB L->(0<=re/\re<d)->WV dB a=d*WV dB L+re ->
   Q (.exit 0) ⟨⟨[.vs (aj a) a.length c1,.iV d,a2,a3,.sl 0 0 a.length 1 (some a.length),.iV re,.iV (-1),a7],lo,[some (.cells (aj L) 3)],[]⟩,wr⟩) (a7:AV) (lo:List (Nat×AV)) :
 W M (.loop yV) ⟨⟨[.vs (aj a) a.length c1,.iV d,a2,a3,.sl 0 0 a.length 1 (some a.length),.iV 0,.iV ((a.length:Int)-1),a7],lo,[some (.cells (aj (c9 a.length 0)) 3)],[]⟩,[]⟩ Q:=by
 refine W.ir (fun t s=>∃L re iv a7 lo wr,s=⟨⟨[.vs (aj a) a.length c1,.iV d,a2,a3,.sl 0 0 a.length 1 (some a.length),.iV re,.iV iv,a7],lo,[some (.cells (aj L) 3)],[]⟩,wr⟩ /\
  iv=(t:Int)-1/\t<=a.length/\L.length=a.length/\okW dB L/\(0<=re/\re<d)/\(∀k,k<t->L[k]! = 0)/\WV dB a=d*WV dB L+dB^t*re+WV dB (a.take t)) (fun t s ⟨L,re,iv,a7,lo,wr,hs,hiv,ht,hL,oL,hre,hz,hv⟩=>?_) (m:=a.length)
  ⟨_,_,_,_,_,_,rfl,rfl,bj _,ax,lJ ao,⟨ao,hd.1⟩,fun k _=>lO,by rw[lK,c7];simp⟩
 subst hs;cases t with
 | zero=>
  obtain rfl:iv = -1:=by omega
  unfold yV;repeat' first|apply abx|apply aa|apply abr|apply aaL|apply aeM|apply bH|apply ck|(apply acM;rfl)|(apply ahS;rfl;rfl)|(apply abA;rfl;rfl)|(intro _;omega)|intro _
  all_goals try omega
  exact hQ L re _ _ _ hL oL hre (by rw[hv];simp[WV])
 | succ i=>
  obtain rfl:iv=(i:Int):=by omega
  have gx:=cL oa (i:=i) ac;obtain⟨x,hx⟩:∃x,x=a[((i:Int)).toNat]! := ⟨_,rfl⟩;rw[show a[i]! = x from hx.symm]at gx;have gx:0<=x/\x<1000000000:=gx;have e1:=i8 (re*1000000000+x) d;have r0:=fo (re*1000000000+x) (show d≠0 by omega);have r1:=dg (re*1000000000+x) hd.1;have d0:0<=(re*1000000000+x)/d:=n9 ac ac;have d1:(re*1000000000+x)/d<1000000000:=i9 hd.1 ac;have eI:0+((i:Int)).toNat*1=i:=by omega
  obtain⟨q,hq⟩:∃q,q=(re*1000000000+x)/d:=⟨_,rfl⟩;obtain⟨r,hr⟩:∃r,r=(re*1000000000+x)%d:=⟨_,rfl⟩;have next:∀a7 lo wr,LI (fun s=>∃m',m'<i+1/\∃L re iv a7 lo wr,s=⟨⟨[.vs (aj a) a.length c1,.iV d,a2,a3,.sl 0 0 a.length 1 (some a.length),.iV re,.iV iv,a7],lo,[some (.cells (aj L) 3)],[]⟩,wr⟩ /\
   iv=(m':Int)-1/\m'<=a.length/\L.length=a.length/\okW dB L/\(0<=re/\re<d)/\(∀k,k<m'->L[k]! = 0)/\WV dB a=d*WV dB L+dB^m'*re+WV dB (a.take m')) Q .normal ⟨⟨[.vs (aj a) a.length c1,.iV d,a2,a3,.sl 0 0 a.length 1 (some a.length),.iV r,.iV ((i:Int)-1),a7],lo,[some (.cells (aj (L.set i q)) 3)],[]⟩,wr⟩:=fun a7 lo wr=>
   dQ ⟨i,nD i,_,_,_,a7,lo,wr,rfl,rfl,ac,by rw[br];exact hL,hJ oL ⟨by rw[hq];exact d0,by rw[hq];exact d1⟩,by rw[hr];exact⟨r0,r1⟩,fun k hk=>by rw[iJ ac];exact hz k ac,by
    rw[hv,hZ ac,hz i ac,fT ac,show a[i]! = x from hx.symm,cD,j8];rw[←hq,←hr]at e1;have e2:dB^i*dB*re+dB^i*x=dB^i*(d*q+r):=by rw[e1];show dB^i*1000000000*re+_=_;grind
    rw[gF]at e2 ⊢;have e3:d*(dB^i*q)=dB^i*(d*q):=by grind
    rw[e3];omega⟩
  rw[hq,hr,hx]at next
  rw[hx]at gx;have hre2:re<1000000000:=by omega
  unfold yV;repeat' first|(apply aiU;exact congrArg (fun z=>some (AV.ptr 0 z)) eI;rfl;rfl;omega)|apply abx|apply aa|apply abr|apply aaL|apply aef|apply adA|apply bC|(apply acO;rfl)|(apply ahS;rfl;rfl)|(apply aeX;rfl;rfl;omega)|(apply afS;rfl;rfl;omega)|(apply aiE;rfl;rfl;omega)|(apply aiy;rfl;rfl;omega;intro _ _)|(apply aju;rfl;rfl;omega;omega;intro _ _)|(apply ahT;rfl;rfl;omega)|(apply aic;rfl;rfl;omega)|(apply aib;rfl;exact fun _=>rfl;(first|omega|(simp only[br];omega)|(simp;omega));decide;rfl;case ia=>infer_instance)|(apply abA;rfl;rfl)|(apply abC;rfl;rfl)|(intro _;omega)|intro _
  all_goals try omega
  all_goals exact next _ _ _
section
variable {t b m:Nat} {x y:aZ} {l:List bz} {pe:List AV} {lo:List (Nat×AV)} {hp:ab} {df wr:List Nat} {L:List Int} {e:TypeId} {v a d:Int} {Q:au->Prop}
theorem aiQ (hx:(St.mk pe lo hp df).ae x=some (.iV a))(hy:(St.mk pe lo hp df).ae y=some (.iV d))(ha:0<=a/\a<9223372036854775808)(hd:0<d)
 (h:WO M l ⟨⟨pe,(t,.iV (a/d))::lo,hp,df⟩,wr⟩ Q):WO M (⟨.l t,.bin .quo x y,none⟩::l) ⟨⟨pe,lo,hp,df⟩,wr⟩ Q:=by
 refine aiV hx hy hd ac ?_;rw[gT ha.1];exact h
theorem aiR (hx:(St.mk pe lo hp df).ae x=some (.iV a))(hy:(St.mk pe lo hp df).ae y=some (.iV d))(ha:0<=a)(hd:0<d)
 (h:WO M l ⟨⟨pe,(t,.iV (a%d))::lo,hp,df⟩,wr⟩ Q):WO M (⟨.l t,.bin .rem x y,none⟩::l) ⟨⟨pe,lo,hp,df⟩,wr⟩ Q:=by
 refine ais hx hy ac ?_;rw[g9 ha];exact h
theorem ajq (hx:(St.mk pe lo hp df).ae x=some (.ptr b m))(hb:hp.at b=some (.cells (aj L) e))(hi:m<L.length)(hv:L[m]! = v)
 (h:WO M l ⟨⟨pe,(t,.iV v)::lo,hp,df⟩,wr⟩ Q):WO M (⟨.l t,.load 1 false x,none⟩::l) ⟨⟨pe,lo,hp,df⟩,wr⟩ Q:=by
 subst hv;exact ajf hx hb hi h
end
def lT (v:AV)(hh:ab)(r:List Int)(z:Int):Prop:=∃v1,lI hh v v1/\v1.top=0/\cR v1 = .aw [.vs (aj r) r.length none,.iV z]
theorem lT.trim {b:Nat}{L:List Int}{e:TypeId}{hp:ab}{n:Nat}{z:Int}(hb:hp.at b=some (.cells (aj L) e))(hn:n<=L.length):lT (bk [bY b (bh (L.take n)) cap,.iV z]) (if (bk [bY b (bh (L.take n)) cap,.iV z]).top<=0 then [] else hp) (L.take (bh (L.take n))) z:=by
 have hle:=js (l:=L.take n);rw[b9]at hle;obtain⟨k,hk⟩:∃k,k=bh (L.take n):=⟨_,rfl⟩;rw[←hk]at hle ⊢;by_cases h0:0<k
 . have e1:bY b k cap = .sl b 0 k 1 cap:=if_pos h0;rw[e1,if_neg (by simp[bk,AV.top,bO])];have hl:(L.take k).length=k:=by rw[b9];omega
   have hF:Fr hp [b] (.sl b 0 k 1 cap) (.vs (aj (L.take k)) k none):=by
    refine .sl (m:=aj (L.take k)) (ce.2 rfl) hb ?_ rfl (fun i x y hx hy=>?_) (.inr rfl)
    . have:=mE (f:=iC) (esz:=1) (fun _=>rfl) (l:=L) (i:=0) (n:=k) ac;simpa using this
    . rw[hx]at hy;cases hy;exact .same (dj (fU _) hx)
   unfold lT;rw[hl];refine⟨.aw [.vs (aj (L.take k)) k none,.iV z],⟨[b],.aw rfl (fun i x y hx hy=>?_),rfl,fun c l' e' hc hl'=>?_⟩,by simp[AV.top,bO,fU],by simp only[cR,fv,Fh]⟩
   . match i with
     | 0=>cases hx;cases hy;exact hF
     | 1=>cases hx;cases hy;exact .same rfl
     | i+2=>cases hx
   . rw[ce.1 hc,hb]at hl';cases hl';exact qK (fun _=>rfl) _
 . obtain rfl:k=0:=by omega
   exact⟨.aw [.vs [] 0 cap,.iV z],.same rfl rfl,rfl,rfl⟩
theorem lT.zero {b:Nat}{e:TypeId}{hp:ab}{z:Int}(hb:hp.at b=some (.cells (aj []) e)):lT (bk [.sl b 0 0 1 cap,.iV z]) (if (bk [.sl b 0 0 1 cap,.iV z]).top<=0 then [] else hp) [] z:=by
 rw[if_neg (by simp[bk,AV.top,bO])];refine⟨.aw [.vs [] 0 none,.iV z],⟨[b],.aw rfl (fun i x y hx hy=>?_),rfl,fun c l' e' hc hl'=>?_⟩,rfl,rfl⟩
 . match i with
   | 0=>cases hx;cases hy;exact .sl (m:=[]) (ce.2 rfl) hb rfl rfl (fun i x y hx=>by simp at hx) (.inr rfl)
   | 1=>cases hx;cases hy;exact .same rfl
   | i+2=>cases hx
 . rw[ce.1 hc,hb]at hl';cases hl';rfl
theorem Fm (hft:M.FT=FT){b:Nat}{L:List Int}{e:TypeId}{hp:ab}(hb:hp.at b=some (.cells (aj L) e)):bm M 236 [.sl b 0 0 1 cap] hp ⟨.sl b 0 0 1 cap,hp,[]⟩:=by
 have hbl:=gS hb;refine nt (by rw[hft];exact yO) ax (by simp[AV.top];omega) ?_;unfold ui;simp only[enter];repeat' first|apply abx|apply aa|apply abr|apply aaL|apply aef|(apply abC;rfl;rfl)
 refine W.loop ?_;unfold kq;repeat' first|apply abx|apply aa|apply abr|apply aaL|apply acG|apply aeM|apply bH|apply bJ|apply cA|(apply acM;rfl)|(apply ahU;rfl)|(apply aeq;rfl;rfl)|(apply aeC;rfl;rfl)|(apply abA;rfl;rfl)|(apply abC;rfl;rfl)|(intro _;omega)|intro _
 all_goals try omega
 exact⟨.inr rfl,rfl,⟨[],ax⟩,ax,_,rfl,rfl⟩
def MS (M:ay)(g:Nat)(ars:List AV)(x y:Int):Prop:=∃q:List Int,(okW dB q/\bg q/\WV dB q=x/y)/\∃v hh,lT v hh q (x%y)/\bm M g ars [] ⟨v,hh,[]⟩
theorem acd {f N:Nat}{aY:List Nat}{res:List fO}{body:al}{ars:List AV}{x y:Int}(hft:M.FT f=some ⟨N,aY,res,body⟩)(hN:ars.length<=N)
 (h:W M body ⟨⟨aY.map (fun t=>(ars[t]?).getD cM),[],[],[]⟩,[]⟩ fun e s=>(e = .normal\/e = .ret)/\s.s.cI=[]/\∃vs,dK s.s res=some vs/\∃q:List Int,(okW dB q/\bg q/\WV dB q=x/y)/\lT (bk vs) (if (bk vs).top<=0 then [] else s.s.hp) q (x%y)):MS M f ars x y:=by
 obtain⟨v,hh,⟨q,hq,ho⟩,h2⟩:=iR (P:=fun v hh=>∃q:List Int,(okW dB q/\bg q/\WV dB q=x/y)/\lT v hh q (x%y)) hft hN h;exact⟨q,hq,v,hh,ho,h2⟩
theorem ace (hft:M.FT=FT)(ff:∀ars h,M.ext 236 ars h=none)(a:List Int)(oa:okW dB a)(la:a.length<10000000)(d:Int)(hd:0<d/\d<=1000000000):MS M 294 [.vs (aj a) a.length c1,.iV d] (WV dB a) d:=by
 refine acd (by rw[hft];exact abM) ax ?_;unfold MD;simp only[enter];repeat' first|apply abx|apply aa|apply abr|apply aaL|apply aef|(apply afS;rfl;rfl;omega)|(apply aiI;rfl;rfl;omega)|(apply abA;rfl;rfl)|(apply abC;rfl;rfl)
 rw[show ((a.length:Int)).toNat=a.length from rfl];refine acb a oa la d hd _ _ (fun L re a7 lo wr hL oL hre hv=>?_) _ _;obtain⟨d1,d2⟩:=pz hv hre.1 hre.2;obtain⟨g1,g2,g3⟩:=pI oL;by_cases h0:a.length=0
 . have hL0:L=[]:=du ac;subst hL0;have hl0:a.length=0:=h0;have q0:CT M (ic 236) [.sl 0 0 a.length 1 (some a.length)] [some (.cells (aj []) 3)] ⟨.sl 0 0 a.length 1 (some a.length),[some (.cells (aj []) 3)],[]⟩:=by
    rw[hl0];exact CT.run (fi:=[]) (ca:=[]) (ff _ _) (Fm hft rfl)
   repeat' first|apply abx|apply aa|apply abr|apply aaL|apply acG|apply bJ|(apply ahW;rfl;rfl;first|exact q0)|(apply abA;rfl;rfl)|(apply abC;rfl;rfl)
   have hout:=lT.zero (cap:=some a.length) (e:=3) (hp:=[some (.cells (aj []) 3)]) (b:=0) (z:=re) rfl;refine⟨.inr rfl,rfl,_,rfl,[],⟨jr,kR,d1⟩,?_⟩;rw[←d2,hl0];rw[hl0]at hout;exact hout
 . have q1:CT M (ic 236) [.sl 0 0 a.length 1 (some a.length)] [some (.cells (aj L) 3)] ⟨bY 0 (bh (L.take a.length)) (some a.length),[some (.cells (aj L) 3)],[]⟩:=pK (cap:=some a.length) hft ff rfl ac ac ac (fun c hc=>by cases hc;exact bj _);repeat' first|apply abx|apply aa|apply abr|apply aaL|apply acG|apply bJ|(apply ahW;rfl;rfl;first|exact q1)|(apply abA;rfl;rfl)|(apply abC;rfl;rfl)
   have hout:=lT.trim (cap:=some a.length) (b:=0) (L:=L) (e:=3) (hp:=[some (.cells (aj L) 3)]) (n:=a.length) (z:=re) rfl ac;refine⟨.inr rfl,rfl,_,rfl,L.take (bh (L.take a.length)),?_,?_⟩
   . rw[cC (show L.length<=a.length by omega)];exact⟨g1,g2,by rw[g3,d1]⟩
   . rw[←d2];exact hout
theorem MT {x y:Int}(hx:0<=x/\x<1000000000)(hy:0<=y/\y<1000000000):0<=x*y/\x*y<=999999998000000001:=by
 refine⟨i5 hx.1 hy.1,?_⟩;have:=jt (a:=x) (b:=y) (c:=999999999) (d:=999999999) ac ac hy.1 ac;omega
theorem acf (a b:List Int)(hb:okW dB b)(la:a.length<10000000)(lb:b.length<10000000)(i:Nat)(hi:i<a.length)(x P:Int)(hx:0<=x/\x<1000000000)(hax:a[((i:Int)).toNat]! = x){Q:Ex->au->Prop}(a2 a7:AV)(lo:List (Nat×AV))(wr:List Nat)(L:List Int)(hl:L.length=a.length+b.length)(cw:okW dB L)(hz:∀k,i+b.length<=k->L[k]! = 0)(hP:WV dB L=P)
 (hQ:∀L (c:Int) a7 lo wr,L.length=a.length+b.length->okW dB L->(0<=c/\c<1000000000)->(∀k,i+b.length<=k->L[k]! = 0)->WV dB L+dB^(i+b.length)*c=P+dB^i*x*WV dB b ->
   Q (.exit 2) ⟨⟨[.vs (aj a) a.length c1,.vs (aj b) b.length c2,a2,.sl 0 0 (a.length+b.length) 1 (some (a.length+b.length)),.iV i,.iV c,.iV b.length,a7],lo,[some (.cells (aj L) 3)],[]⟩,wr⟩) :
 W M (.loop yT) ⟨⟨[.vs (aj a) a.length c1,.vs (aj b) b.length c2,a2,.sl 0 0 (a.length+b.length) 1 (some (a.length+b.length)),.iV i,.iV 0,.iV 0,a7],lo,[some (.cells (aj L) 3)],[]⟩,wr⟩ Q:=by
 subst hax;refine W.jf b.length (fun j s=>∃L c a7 lo wr,s=⟨⟨[.vs (aj a) a.length c1,.vs (aj b) b.length c2,a2,.sl 0 0 (a.length+b.length) 1 (some (a.length+b.length)),.iV i,.iV c,.iV j,a7],lo,[some (.cells (aj L) 3)],[]⟩,wr⟩ /\
  L.length=a.length+b.length/\okW dB L/\(0<=c/\c<1000000000)/\(∀k,i+b.length<=k->L[k]! = 0)/\WV dB L+dB^(i+j)*c=P+dB^i*a[((i:Int)).toNat]! * WV dB (b.take j)) (fun j s hj ⟨L,c,a7,lo,wr,hs,hl,cw,hc,hz,hv⟩=>?_) (fun s ⟨L,c,a7,lo,wr,hs,hl,cw,hc,hz,hv⟩=>?_) (j1 _)
  ⟨_,_,_,_,_,rfl,hl,cw,⟨ao,ao⟩,hz,by rw[hP];simp[WV]⟩
 . subst hs;have gy:=cL hb hj;rw[show b[j]! = b[((j:Int)).toNat]! from rfl]at gy;obtain⟨y,hy⟩:∃y,y=b[((j:Int)).toNat]! := ⟨_,rfl⟩;rw[←hy]at gy;have gy:0<=y/\y<1000000000:=gy;have hm:=MT hx gy;obtain⟨m,hmm⟩:∃m,m=a[((i:Int)).toNat]! * y:=⟨_,rfl⟩;rw[←hmm]at hm;have gL:=cL cw (i:=i+j) ac;obtain⟨w,hw⟩:∃w,w=L[i+j]! := ⟨_,rfl⟩;rw[←hw]at gL;have gL:0<=w/\w<1000000000:=gL;obtain⟨R,hR⟩:∃R,R=(w+m+c)%1000000000:=⟨_,rfl⟩;obtain⟨D,hD⟩:∃D,D=(w+m+c)/1000000000:=⟨_,rfl⟩;have hD2:(0<=D/\D<1000000000)/\w+m+c=R+1000000000*D/\(0<=R/\R<1000000000):=by omega
   have eI:0+(((i:Int)+(j:Int))).toNat*1=i+j:=by omega
   have next:∀a7 lo wr,LI (fun s=>∃L c a7 lo wr,s=⟨⟨[.vs (aj a) a.length c1,.vs (aj b) b.length c2,a2,.sl 0 0 (a.length+b.length) 1 (some (a.length+b.length)),.iV i,.iV c,.iV ((j+1:Nat):Int),a7],lo,[some (.cells (aj L) 3)],[]⟩,wr⟩ /\
    L.length=a.length+b.length/\okW dB L/\(0<=c/\c<1000000000)/\(∀k,i+b.length<=k->L[k]! = 0)/\WV dB L+dB^(i+(j+1))*c=P+dB^i*a[((i:Int)).toNat]! * WV dB (b.take (j+1))) Q .normal ⟨⟨[.vs (aj a) a.length c1,.vs (aj b) b.length c2,a2,.sl 0 0 (a.length+b.length) 1 (some (a.length+b.length)),.iV i,.iV D,.iV ((j:Int)+1),a7],lo,[some (.cells (aj (L.set (i+j) R)) 3)],[]⟩,wr⟩:=fun a7 lo wr=>
    dQ ⟨_,_,a7,lo,wr,rfl,by rw[br];exact hl,hJ cw hD2.2.2,hD2.1,fun k hk=>by rw[iJ ac];exact hz k hk,by
     rw[hZ ac,←hw,fT hj,show i+(j+1)=(i+j)+1 from rfl,cD,show b[j]! = y from hy.symm];have e:=hD2.2.1;rw[hmm]at e;have e2:dB^(i+j)*(R-w)+dB^(i+j)*1000000000*D=dB^(i+j)*(a[((i:Int)).toNat]! * y+c):=by
      have:a[((i:Int)).toNat]! * y+c=R-w+1000000000*D:=by omega
      rw[this,gF,d8]
     have e3:dB^(i+j)=dB^i*dB^j:=n4 _ _ _;show WV dB L+dB^(i+j)*(R-w)+dB^(i+j)*1000000000*D=P+dB^i*a[((i:Int)).toNat]! * (WV dB (b.take j)+dB^j*y);generalize a[((i:Int)).toNat]! = x at *
     rw[pu,e2,gF,←pu,Int.add_right_comm,hv];rw[e3];grind⟩
   rw[hD,hR,hmm]at next
   rw[hmm]at hm;rw[hy]at next hm gy
   unfold yT;repeat' first|(apply ajq (v:=w);exact congrArg (fun z=>some (AV.ptr 0 z)) eI;rfl;omega;exact hw.symm)|(apply aiU;exact congrArg (fun z=>some (AV.ptr 0 z)) eI;rfl;rfl;omega)|(apply aiQ;rfl;rfl;omega;omega)|(apply aiR;rfl;rfl;omega;omega)|apply abx|apply aa|apply abr|apply aaL|apply aef|apply adA|apply bC|(apply ahZ;rfl)|(apply acO;rfl)|(apply aep;rfl;rfl)|(apply aeX;rfl;rfl;omega)|(apply aiE;rfl;rfl;omega)|(apply ahT;rfl;rfl;omega)|(apply aic;rfl;rfl;omega)|(apply aib;rfl;exact fun _=>rfl;(first|omega|(simp only[br];omega)|(simp;omega));decide;rfl;case ia=>infer_instance)|(apply abA;rfl;rfl)|(apply abC;rfl;rfl)|(intro _;omega)|intro _
   all_goals try omega
   all_goals exact next _ _ _
 . subst hs;rw[c7]at hv;unfold yT;repeat' first|apply abx|apply aa|apply abr|apply aaL|apply aeM|apply bH|apply ck|(apply acM;rfl)|(apply aep;rfl;rfl)|(apply abA;rfl;rfl)|(intro _;omega)|intro _
   all_goals try omega
   exact hQ L c _ _ _ hl cw hc hz hv
theorem MU (hft:M.FT=FT)(ff:∀ars h,M.ext 236 ars h=none)(a b:List Int)(ha:okW dB a)(hb:okW dB b)(la:a.length<10000000)(lb:b.length<10000000)(h0:0<a.length+b.length):yX M 257 [.vs (aj a) a.length c1,.vs (aj b) b.length c2] (WV dB a*WV dB b):=by
 refine Fi (by rw[hft];exact MC) ax ?_;unfold Fe;simp only[enter];repeat' first|apply abx|apply aa|apply abr|apply aaL|apply aef|(apply aeX;rfl;rfl;omega)|(apply aiI;rfl;rfl;omega)|(apply abA;rfl;rfl)|(apply abC;rfl;rfl)
 have e0:((a.length:Int)+(b.length:Int)).toNat=a.length+b.length:=by omega
 rw[e0];refine W.jf a.length (fun i s=>∃L a5 a6 a7 lo wr,s=⟨⟨[.vs (aj a) a.length c1,.vs (aj b) b.length c2,.ah,.sl 0 0 (a.length+b.length) 1 (some (a.length+b.length)),.iV i,a5,a6,a7],lo,[some (.cells (aj L) 3)],[]⟩,wr⟩ /\
  L.length=a.length+b.length/\okW dB L/\(∀k,i+b.length<=k->L[k]! = 0)/\WV dB L=WV dB (a.take i)*WV dB b) (fun i s hi ⟨L,a5,a6,a7,lo,wr,hs,hl,cw,hz,hv⟩=>?_) (fun s ⟨L,a5,a6,a7,lo,wr,hs,hl,cw,hz,hv⟩=>?_) (j1 _)
  ⟨c9 (a.length+b.length) 0,_,_,_,_,_,rfl,ax,lJ ao,fun k _=>lO,by rw[lK];simp[WV]⟩
 . subst hs;have gx:=cL ha hi;rw[show a[i]! = a[((i:Int)).toNat]! from rfl]at gx;have eI:0+(((i:Int)+(b.length:Int))).toNat*1=i+b.length:=by omega
   unfold yU;repeat' first|apply abx|apply aa|apply abr|apply aaL|apply aef|apply adA|(apply acO;rfl)|(apply aep;rfl;rfl)|(apply abA;rfl;rfl)|(apply abC;rfl;rfl)|(intro _;omega)|intro _
   refine acf (c1:=c1) (c2:=c2) a b hb la lb i hi a[((i:Int)).toNat]! _ gx rfl _ _ _ _ L hl cw hz hv (fun L2 c a7 lo wr h1 h2 h3 h4 h5=>?_);have h4':=h4 _ (bj _);have g0:=cL h2 (i:=i+b.length) ac;repeat' first|(apply ajq (v:=0);exact congrArg (fun z=>some (AV.ptr 0 z)) eI;rfl;omega;exact h4')|(apply aiU;exact congrArg (fun z=>some (AV.ptr 0 z)) eI;rfl;rfl;omega)|apply aa|apply abr|apply aaL|apply bC|apply bJ|(apply aeX;rfl;rfl;omega)|(apply aic;rfl;rfl;omega)|(apply abA;rfl;rfl)|(apply abC;rfl;rfl)
   all_goals try omega
   refine dQ ⟨L2.set (i+b.length) (0+c),_,_,_,_,_,rfl,by rw[br];exact h1,hJ h2 (by rw[ne];exact h3),fun k hk=>by rw[iJ ac];exact h4 k ac,?_⟩;rw[hZ ac,h4',j8,ne,h5,fT hi];show _=(WV dB (a.take i)+dB^i*a[i]!)*WV dB b;rw[ii];rfl
 . subst hs;rw[c7]at hv;have q:=pK (cap:=some (a.length+b.length)) (b:=0) (n:=a.length+b.length) (L:=L) (e:=3) (hp:=[some (.cells (aj L) 3)]) hft ff rfl ac ac ac (fun c hc=>by cases hc;exact bj _);rw[cC ac]at q;unfold yU;repeat' first|apply abx|apply aa|apply abr|apply aaL|apply acG|apply aeM|apply bH|apply bJ|apply ck|(apply acM;rfl)|(apply aep;rfl;rfl)|(apply ahW;rfl;rfl;first|exact q)|(apply abA;rfl;rfl)|(apply abC;rfl;rfl)|(intro _;omega)|intro _
   all_goals try omega
   refine⟨.inr rfl,rfl,_,rfl,L.take (bh L),?_,?_⟩
   . obtain⟨g1,g2,g3⟩:=pI cw;exact⟨g1,g2,by rw[g3,hv]⟩
   . have:=iy.trim (cap:=some (a.length+b.length)) (b:=0) (L:=L) (e:=3) (hp:=[some (.cells (aj L) 3)]) (n:=a.length+b.length) rfl ac;rw[cC ac]at this;exact this
end Go.Ab.Ch5.N

/-
  Own work: Knuth's division to the base 10^9: the guess of a digit is at most one too great.
-/
namespace Go.Ab.bB
structure ji (t2 t1 t0 v1 v0 T V p:Int):Prop where
 h2:0<=t2
 h1:0<=t1/\t1<1000000000
 h0:0<=t0/\t0<1000000000
 w1:500000000<=v1/\v1<1000000000
 w0:0<=v0/\v0<1000000000
 hp:1<=p
 lo:((t2*1000000000+t1)*1000000000+t0)*p<=T
 hi:T<((t2*1000000000+t1)*1000000000+t0+1)*p
 ri:(v1*1000000000+v0)*p<=V
 tn:V<(v1*1000000000+v0+1)*p
 hT:T<1000000000*V
structure jy (t2 t1 v1 T V q r:Int):Prop where
 q0:0<=q/\q<=1000000001
 r0:0<=r
 e:q*v1+r=t2*1000000000+t1
 ge:T<(q+1)*V
variable {t2 t1 t0 v1 v0 T V p q r:Int}
theorem ji.top (C:ji t2 t1 t0 v1 v0 T V p):t2<=v1:=by
 have h1:=C.h1;have h0:=C.h0;have w0:=C.w0;have a1:((t2*1000000000+t1)*1000000000+t0)*p<(1000000000*(v1*1000000000+v0+1))*p:=by
  have:=C.lo;have:=C.hT;have:=C.tn;rw[d8 1000000000];omega
 have a2:=Int.lt_of_mul_lt_mul_right a1 (by have:=C.hp;omega);omega
theorem ji.geq (C:ji t2 t1 t0 v1 v0 T V p)(h0:0<=q)(h:(t2*1000000000+t1)*1000000000+t0+1<=q*(v1*1000000000+v0)):T<q*V:=by
 have hp:=C.hp;have a1:=bZ h (show 0<=p by omega);have a2:=be C.ri h0;rw[←d8]at a2;have:=C.hi;omega
theorem jy.qD (I:jy t2 t1 v1 T V q r):q*(v1*1000000000+v0)=(t2*1000000000+t1-r)*1000000000+q*v0:=by
 have e:=I.e;have:t2*1000000000+t1-r=q*v1:=by omega
 rw[this,gF,d8]
theorem jy.init (C:ji t2 t1 t0 v1 v0 T V p):jy t2 t1 v1 T V ((t2*1000000000+t1)/v1) ((t2*1000000000+t1)%v1):=by
 have h2:=C.h2;have h1:=C.h1;have w1:=C.w1;have h0:=C.h0;have w0:=C.w0;have ht:=C.top;have q0:0<=(t2*1000000000+t1)/v1:=n9 ac ac;have q1:(t2*1000000000+t1)/v1<1000000002:=i9 ac ac;have e:=i8 (t2*1000000000+t1) v1;have r0:=fo (t2*1000000000+t1) (show v1≠0 by omega);have r1:=dg (t2*1000000000+t1) (show 0<v1 by omega);rw[nk]at e;refine⟨⟨q0,ac⟩,r0,e,C.geq ac ?_⟩;generalize (t2*1000000000+t1)/v1=q at *
 generalize (t2*1000000000+t1)%v1=r at *
 have a1:(q+1)*(v1*1000000000+v0)=(q*v1+v1)*1000000000+(q+1)*v0:=by grind
 have a2:0<=(q+1)*v0:=i5 ac w0.1;rw[a1];generalize q*v1=z at *
 generalize (q+1)*v0=y at *
 omega
theorem ji.V0 (C:ji t2 t1 t0 v1 v0 T V p):0<V:=by
 have:=C.w1;have:=C.w0;have:=C.ri;have:=n5 (show 0<v1*1000000000+v0 by omega) (show 0<p by have:=C.hp;omega);omega
theorem jy.dec (C:ji t2 t1 t0 v1 v0 T V p)(I:jy t2 t1 v1 T V q r)(h:1000000000<=q\/r*1000000000+t0<q*v0):jy t2 t1 v1 T V (q-1) (r+v1):=by
 have w1:=C.w1;have q0:=I.q0;have r0:=I.r0;have h0:=C.h0;have q1:0<q:=by
  rcases dz 0 q with h'|h'
  . exact h'
  . obtain rfl:q=0:=by omega
    omega
 refine⟨ac,ac,by have:=I.e;rw[n6];omega,?_⟩;rw[Int.sub_add_cancel];rcases h with h|h
 . have hT:=C.hT;have:=bZ h (c6 C.V0);omega
 . refine C.geq ac ?_;rw[I.qD];omega
theorem jy.exit (C:ji t2 t1 t0 v1 v0 T V p)(I:jy t2 t1 v1 T V q r)(hq:q<1000000000)(h:q*v0<=r*1000000000+t0):(q-1)*V<=T:=by
 have w1:=C.w1;have q0:=I.q0;have r0:=I.r0;have w0:=C.w0;have hp:=C.hp;have a1:q*(v1*1000000000+v0)<=(t2*1000000000+t1)*1000000000+t0:=by rw[I.qD];omega
 have a2:=bZ a1 (show 0<=p by omega);have a3:=be (c6 C.tn) q0.1;have a4:q*((v1*1000000000+v0+1)*p)=q*(v1*1000000000+v0)*p+q*p:=by grind
 have a5:=bZ (show q<=1000000000 by omega) (show 0<=p by omega);have a6:=bZ (show 1000000000<=v1*1000000000+v0 by omega) (show 0<=p by omega);have a7:=C.ri;have a8:=C.lo;rw[n6,iI];omega
theorem jy.nI (C:ji t2 t1 t0 v1 v0 T V p)(I:jy t2 t1 v1 T V q r)(h:1000000000<=r):q<1000000000/\(q-1)*V<=T:=by
 have q0:=I.q0;have w0:=C.w0;have h0:=C.h0;have w1:=C.w1;have h1:=C.h1;have ht:=C.top;have hq:q<1000000000:=by
  rcases dz q 1000000000 with h'|h'
  . exact h'
  . have a:=bZ h' (show 0<=v1 by omega);have e:=I.e;omega
 refine⟨hq,I.exit C hq ?_⟩;have h3:=jt (a:=q) (b:=v0) (c:=999999999) (d:=999999999) ac ac w0.1 ac;omega
theorem ji.of {X V:List Int}{n:Nat}(hX:X.length=n+3)(hV:V.length=n+2)(oX:okW 1000000000 X)(oV:okW 1000000000 V)(hv:500000000<=V[n+1]!)(hT:WV 1000000000 X<1000000000*WV 1000000000 V) :
 ji X[n+2]! X[n+1]! X[n]! V[n+1]! V[n]! (WV 1000000000 X) (WV 1000000000 V) (1000000000^n):=by
 have x2:=cL oX (i:=n+2) ac;have x1:=cL oX (i:=n+1) ac;have x0:=cL oX (i:=n) ac;have v1:=cL oV (i:=n+1) ac;have v0:=cL oV (i:=n) ac;have eX:WV 1000000000 X=WV 1000000000 (X.take n)+((X[n+2]! * 1000000000+X[n+1]!)*1000000000+X[n]!)*1000000000^n:=by
  rw[kS (n:=n+2) ac,fT ac,fT ac,cD,cD];grind
 have eV:WV 1000000000 V=WV 1000000000 (V.take n)+(V[n+1]! * 1000000000+V[n]!)*1000000000^n:=by
  rw[kS (n:=n+1) ac,fT ac,cD];grind
 have lX:=dU (b:=1000000000) ao (eC oX n);have lV:=dU (b:=1000000000) ao (eC oV n);have pX:=cX (b:=1000000000) ao (eC oX n);have pV:=cX (b:=1000000000) ao (eC oV n);rw[b9,iq ac]at lX lV;have hp:(0:Int)<1000000000^n:=f6 ao;refine⟨x2.1,x1,x0,⟨hv,v1.2⟩,v0,ac,ac,?_,ac,?_,hT⟩
 . rw[ii _ 1,iI];omega
 . rw[ii _ 1,iI];omega
end Go.Ab.bB

/-
  Own work: the reference's integers: the guess of a digit.
-/
namespace Go.Ab.Ch5.N
open Go.Ab.bB
variable {M:ay} {cap c1 c2:Option Nat}
theorem aiH {t m m':Nat}{x:aZ}{l:List bz}{pe:List AV}{lo:List (Nat×AV)}{hp:ab}{df wr:List Nat}{L:List Int}{v:Int}{Q:au->Prop}(hx:(St.mk pe lo hp df).ae x=some (.vp ((aj L).drop (m'*1))))(hm:m'=m)(hi:m<L.length)(hv:L[m]! = v)
 (h:WO M l ⟨⟨pe,(t,.iV v)::lo,hp,df⟩,wr⟩ Q):WO M (⟨.l t,.load 1 false x,none⟩::l) ⟨⟨pe,lo,hp,df⟩,wr⟩ Q:=by
 subst hm;subst hv;exact aib (f:=iC) (esz:=1) (c:=L) (i:=m') hx (fun _=>rfl) hi ao rfl h
variable {k j:Nat} {U V:List Int}
theorem acg (hV:V.length=k+2)(hU:j+k+2<U.length)(lU:U.length<100000000){t2 t1 t0 v1 v0 T D p:Int}(K:ji t2 t1 t0 v1 v0 T D p)(ht0:U[j+k]! = t0)(hv1:V[k+1]! = v1)(hv0:V[k]! = v0){Q:Ex->au->Prop}(a3 a5:AV)
 (hR:∀(q r:Int) lo wr,(0<=q/\q<1000000000)->T<(q+1)*D->(q-1)*D<=T->Q .ret ⟨⟨[.vs (aj U) U.length c1,.vs (aj V) V.length c2,.iV j,.iV q,.iV V.length,a5,.iV q,.iV r],lo,[],[]⟩,wr⟩)
 (hQ:∀(q r:Int) lo wr,(0<=q/\q<1000000000)->T<(q+1)*D->(q-1)*D<=T->Q (.exit 0) ⟨⟨[.vs (aj U) U.length c1,.vs (aj V) V.length c2,.iV j,a3,.iV V.length,a5,.iV q,.iV r],lo,[],[]⟩,wr⟩)
 (q r:Int) (lo:List (Nat×AV)) (wr:List Nat) (I:jy t2 t1 v1 T D q r) (hr:r<1000000000) :
 W M (.loop uk) ⟨⟨[.vs (aj U) U.length c1,.vs (aj V) V.length c2,.iV j,a3,.iV V.length,a5,.iV q,.iV r],lo,[],[]⟩,wr⟩ Q:=by
 refine W.ir (fun m s=>∃q r lo wr,s=⟨⟨[.vs (aj U) U.length c1,.vs (aj V) V.length c2,.iV j,a3,.iV V.length,a5,.iV q,.iV r],lo,[],[]⟩,wr⟩/\m=q.toNat/\jy t2 t1 v1 T D q r/\r<1000000000) (fun m s ⟨q,r,lo,wr,hs,hm,I,hr⟩=>?_) (m:=q.toNat) ⟨q,r,lo,wr,rfl,rfl,I,hr⟩;subst hs;subst hm;have q0:=I.q0;have r0:=I.r0;have w0:=K.w0;have w1:=K.w1;have h0:=K.h0;have step:(1000000000<=q\/r*1000000000+t0<q*v0)->0<q/\∀lo wr,(r+v1<1000000000->LI (fun s=>∃m',m'<q.toNat/\∃q r lo wr,s=⟨⟨[.vs (aj U) U.length c1,.vs (aj V) V.length c2,.iV j,a3,.iV V.length,a5,.iV q,.iV r],lo,[],[]⟩,wr⟩/\m'=q.toNat/\jy t2 t1 v1 T D q r/\r<1000000000) Q .normal ⟨⟨[.vs (aj U) U.length c1,.vs (aj V) V.length c2,.iV j,a3,.iV V.length,a5,.iV (q-1),.iV (r+v1)],lo,[],[]⟩,wr⟩) /\
  (1000000000<=r+v1->Q .ret ⟨⟨[.vs (aj U) U.length c1,.vs (aj V) V.length c2,.iV j,.iV (q-1),.iV V.length,a5,.iV (q-1),.iV (r+v1)],lo,[],[]⟩,wr⟩):=fun h=>by
  have I2:=I.dec K h;have i0:=I2.q0;refine⟨ac,fun lo wr=>⟨fun h1=>dQ ⟨(q-1).toNat,ac,_,_,_,_,rfl,rfl,I2,h1⟩,fun h1=>?_⟩⟩;obtain⟨b1,b2⟩:=I2.nI K h1;exact hR _ _ _ _ ⟨i0.1,b1⟩ I2.ge b2
 obtain⟨m,hm⟩:∃m,m=q*v0:=⟨_,rfl⟩;have hmb:0<=m/\m<=1000000001000000001:=by
  rw[hm];refine⟨i5 q0.1 w0.1,?_⟩;have:=jt (a:=q) (b:=v0) (c:=1000000001) (d:=1000000000) ac ac w0.1 ac;omega
 by_cases hB:1000000000<=q
 . obtain⟨hq,st⟩:=step (.inl hB);unfold uk;repeat' first|(apply aiH (m:=k+1) (v:=v1);rfl;omega;omega;exact hv1)|apply abx|apply aa|apply abr|apply aaL|apply aef|apply acG|apply adA|apply bC|apply cn|apply eM|(apply ahZ;rfl)|(apply acO;rfl)|(apply acM;rfl)|(apply aid;rfl)|(apply ahS;rfl;rfl)|(apply aeB;rfl;rfl)|(apply aeX;rfl;rfl;omega)|(apply afS;rfl;rfl;omega)|(apply ahT;rfl;rfl;omega)|(apply abA;rfl;rfl)|(apply abC;rfl;rfl)|(intro _;omega)|intro _
   all_goals try omega
   all_goals first|exact(st _ _).1 ac|exact(st _ _).2 ac
 . by_cases ht:r*1000000000+t0<q*v0
   . obtain⟨hq,st⟩:=step (.inr ht);rw[←hm]at ht;rw[hm]at ht hmb;unfold uk;repeat' first|(apply aiH (L:=V) (m:=k+1) (v:=v1);rfl;omega;omega;exact hv1)|(apply aiH (L:=V) (m:=k) (v:=v0);rfl;omega;omega;exact hv0)|(apply aiH (L:=U) (m:=j+k) (v:=t0);rfl;omega;omega;exact ht0)|apply abx|apply aa|apply abr|apply aaL|apply aef|apply acG|apply adA|apply bC|apply cn|apply eM|(apply ahZ;rfl)|(apply acO;rfl)|(apply acM;rfl)|(apply ahQ;rfl)|(apply aeq;rfl;rfl)|(apply ahS;rfl;rfl)|(apply aeC;rfl;rfl)|(apply aeX;rfl;rfl;omega)|(apply afS;rfl;rfl;omega)|(apply aiE;rfl;rfl;omega)|(apply ahT;rfl;rfl;omega)|(apply abA;rfl;rfl)|(apply abC;rfl;rfl)|(intro _;omega)|intro _
     all_goals try omega
     all_goals first|exact(st _ _).1 ac|exact(st _ _).2 ac
   . have fin:=I.exit K ac ac;rw[hm]at hmb;unfold uk;repeat' first|(apply aiH (L:=V) (m:=k) (v:=v0);rfl;omega;omega;exact hv0)|(apply aiH (L:=U) (m:=j+k) (v:=t0);rfl;omega;omega;exact ht0)|apply abx|apply aa|apply aaL|apply aeM|apply bH|apply ck|(apply ahZ;rfl)|(apply acM;rfl)|(apply ahQ;rfl)|(apply aeq;rfl;rfl)|(apply ahS;rfl;rfl)|(apply aeC;rfl;rfl)|(apply aeX;rfl;rfl;omega)|(apply afS;rfl;rfl;omega)|(apply aiE;rfl;rfl;omega)|(apply ahT;rfl;rfl;omega)|(apply abA;rfl;rfl)|(intro _;omega)|intro _
     all_goals try omega
     all_goals exact hQ _ _ _ _ ⟨q0.1,ac⟩ I.ge fin
theorem ach (hft:M.FT=FT)(hV:V.length=k+2)(hU:j+k+2<U.length)(lU:U.length<100000000){t2 t1 t0 v1 v0 T D p:Int}(K:ji t2 t1 t0 v1 v0 T D p)(ht2:U[j+k+2]! = t2)(ht1:U[j+k+1]! = t1)(ht0:U[j+k]! = t0)(hv1:V[k+1]! = v1)(hv0:V[k]! = v0) :
 ∃q:Int,(0<=q/\q<1000000000)/\T<(q+1)*D/\(q-1)*D<=T/\bm M 295 [.vs (aj U) U.length c1,.vs (aj V) V.length c2,.iV j] [] ⟨.iV q,[],[]⟩:=by
 have h2:=K.h2;have h1:=K.h1;have w1:=K.w1;have h0:=K.h0;have w0:=K.w0;have htop:=K.top;have I:=jy.init K;have r1:=dg (t2*1000000000+t1) (show 0<v1 by omega);obtain⟨v,hh,⟨q,rfl,rfl,g1,g2,g3⟩,hr⟩:=iR (M:=M) (f:=295) (ars:=[.vs (aj U) U.length c1,.vs (aj V) V.length c2,.iV j]) (P:=fun v hh=>∃q:Int,v = .iV q/\hh=[]/\(0<=q/\q<1000000000)/\T<(q+1)*D/\(q-1)*D<=T) (by rw[hft];exact abN) ax (by
  unfold ME;simp only[enter];repeat' first|(apply aiH (L:=U) (m:=j+k+2) (v:=t2);rfl;omega;omega;exact ht2)|(apply aiH (L:=U) (m:=j+k+1) (v:=t1);rfl;omega;omega;exact ht1)|(apply aiH (L:=V) (m:=k+1) (v:=v1);rfl;omega;omega;exact hv1)|(apply aiQ;rfl;rfl;omega;omega)|(apply aiR;rfl;rfl;omega;omega)|apply abx|apply aa|apply abr|apply aaL|apply aef|(apply ahZ;rfl)|(apply aeX;rfl;rfl;omega)|(apply afS;rfl;rfl;omega)|(apply aiE;rfl;rfl;omega)|(apply ahT;rfl;rfl;omega)|(apply abA;rfl;rfl)|(apply abC;rfl;rfl)
  all_goals try omega
  refine acg hV hU lU K ht0 hv1 hv0 _ _ (fun q r lo wr g1 g2 g3=>?_) (fun q r lo wr g1 g2 g3=>?_) _ _ _ _ I ac
  . repeat' first|apply ba|apply cn
    all_goals exact⟨.inr rfl,rfl,_,rfl,q,rfl,rfl,g1,g2,g3⟩
  . repeat' first|apply abx|apply aa|apply abr|apply aaL|apply acG|apply bJ|(apply abA;rfl;rfl)|(apply abC;rfl;rfl)
    all_goals exact⟨.inr rfl,rfl,_,rfl,q,rfl,rfl,g1,g2,g3⟩)
 exact⟨q,g1,g2,g3,hr⟩
variable {cu:Option Nat}
variable {bu N:Nat} {e:TypeId} {hp:ab} {P S Y:List Int}
theorem aci (hl:bu<hp.length)(lN:N<100000000)(hN:P.length+V.length<N)(hY:Y.length=V.length)(oY:okW dB Y)(oV:okW dB V)(q:Int)(q0:0<=q/\q<1000000000){Q:Ex->au->Prop}(a0 a1 a2 a3 a4 a5 a6 aA aF aG aH aI aJ aK:AV)(lo:List (Nat×AV))(wr:List Nat)
 (hQ:∀L (bo:Int) aF aG lo wr,L.length=V.length->okW dB L->(0<=bo/\bo<1000000000)->WV dB L=WV dB Y-q*WV dB V+dB^V.length*bo ->
   Q (.exit 4) ⟨⟨[a0,a1,a2,a3,a4,a5,a6,.vs (aj V) V.length c2,.iV V.length,.sl bu 0 N 1 cu,aA,.iV P.length,.iV q,.iV bo,.iV V.length,aF,aG,aH,aI,aJ,aK],lo,dw hp bu e P S L,[]⟩,wr⟩) :
 W M (.loop yQ) ⟨⟨[a0,a1,a2,a3,a4,a5,a6,.vs (aj V) V.length c2,.iV V.length,.sl bu 0 N 1 cu,aA,.iV P.length,.iV q,.iV 0,.iV 0,aF,aG,aH,aI,aJ,aK],lo,dw hp bu e P S Y,[]⟩,wr⟩ Q:=by
 refine W.jf V.length (fun i s=>∃L bo aF aG lo wr,s=⟨⟨[a0,a1,a2,a3,a4,a5,a6,.vs (aj V) V.length c2,.iV V.length,.sl bu 0 N 1 cu,aA,.iV P.length,.iV q,.iV bo,.iV i,aF,aG,aH,aI,aJ,aK],lo,dw hp bu e P S L,[]⟩,wr⟩ /\
  L.length=V.length/\okW dB L/\(0<=bo/\bo<1000000000)/\WV dB L=WV dB Y-q*WV dB (V.take i)+dB^i*bo) (fun i s hi ⟨L,bo,aF,aG,lo,wr,hs,hL,oL,hbo,hv⟩=>?_) (fun s ⟨L,bo,aF,aG,lo,wr,hs,hL,oL,hbo,hv⟩=>?_) (j1 _)
  ⟨_,_,_,_,_,_,rfl,hY,oY,⟨ao,ao⟩,by simp[WV]⟩
 . subst hs;have gy:=cL oV (i:=i) ac;obtain⟨y,hy⟩:∃y,y=V[i]! := ⟨_,rfl⟩;rw[←hy]at gy;have gy:0<=y/\y<1000000000:=gy;have gL:=cL oL (i:=i) ac;obtain⟨u,hu⟩:∃u,u=L[i]! := ⟨_,rfl⟩;rw[←hu]at gL;have gL:0<=u/\u<1000000000:=gL;have hm:=MT q0 gy;obtain⟨m,hmm⟩:∃m,m=q*y:=⟨_,rfl⟩;rw[←hmm]at hm;have next:∀(D d:Int) aF aG lo,(0<=D/\D<1000000000)->(0<=d/\d<1000000000)->u-m-bo=d-1000000000*D->LI (fun s=>∃L bo aF aG lo wr,s=⟨⟨[a0,a1,a2,a3,a4,a5,a6,.vs (aj V) V.length c2,.iV V.length,.sl bu 0 N 1 cu,aA,.iV P.length,.iV q,.iV bo,.iV ((i+1:Nat):Int),aF,aG,aH,aI,aJ,aK],lo,dw hp bu e P S L,[]⟩,wr⟩ /\
    L.length=V.length/\okW dB L/\(0<=bo/\bo<1000000000)/\WV dB L=WV dB Y-q*WV dB (V.take (i+1))+dB^(i+1)*bo) Q .normal ⟨⟨[a0,a1,a2,a3,a4,a5,a6,.vs (aj V) V.length c2,.iV V.length,.sl bu 0 N 1 cu,aA,.iV P.length,.iV q,.iV D,.iV ((i:Int)+1),aF,aG,aH,aI,aJ,aK],lo,dw hp bu e P S (L.set i d),[]⟩,bu::wr⟩:=fun D d aF aG lo hD hd he=>
    dQ ⟨_,_,aF,aG,lo,_,rfl,by rw[br];exact hL,hJ oL hd,hD,by
     rw[hZ ac,←hu,fT ac,←hy,hv,cD];have e1:d-u=1000000000*D-q*y-bo:=by rw[←hmm];omega
     rw[e1];show _+dB^i*(1000000000*D-q*y-bo)=_-_+dB^i*1000000000*D;grind⟩
   have hV':V[((i:Int)).toNat]! = y:=hy.symm;rw[hmm]at hm next
   rw[hu]at gL next
   unfold yQ;repeat' first|(apply aiH (L:=V) (m:=i) (v:=y);rfl;omega;omega;exact hy.symm)|(apply ajo (i:=i);rfl;exact hl;omega;omega)|(apply ajp (i:=i);rfl;rfl;exact hl;omega;omega)|(apply aiQ;rfl;rfl;omega;omega)|(apply aiR;rfl;rfl;omega;omega)|apply abx|apply aa|apply abr|apply aaL|apply aef|apply adA|apply bC|(apply acO;rfl)|(apply acM;rfl)|(apply aep;rfl;rfl)|(apply aeX;rfl;rfl;omega)|(apply afS;rfl;rfl;omega)|(apply aiE;rfl;rfl;omega)|(apply ahT;rfl;rfl;omega)|(apply aic;rfl;rfl;omega)|(apply abA;rfl;rfl)|(apply abC;rfl;rfl)|(intro _;omega)|intro _
   all_goals try omega
   all_goals exact next _ _ _ _ _ ac ac ac
 . subst hs;rw[c7]at hv;unfold yQ;repeat' first|apply abx|apply aa|apply abr|apply aaL|apply aeM|apply bH|apply ck|(apply acM;rfl)|(apply aep;rfl;rfl)|(apply abA;rfl;rfl)|(intro _;omega)|intro _
   all_goals try omega
   exact hQ L bo _ _ _ _ hL oL hbo hv
theorem acj (hl:bu<hp.length)(lN:N<100000000)(hN:P.length+V.length<N)(hY:Y.length=V.length)(oY:okW dB Y)(oV:okW dB V){Q:Ex->au->Prop}(a0 a1 a2 a3 a4 a5 a6 aA aC aD aE aF aG aJ aK:AV)(lo:List (Nat×AV))(wr:List Nat)
 (hQ:∀L (ca:Int) aJ lo wr,L.length=V.length->okW dB L->(0<=ca/\ca<=1)->WV dB L+dB^V.length*ca=WV dB Y+WV dB V ->
   Q (.exit 6) ⟨⟨[a0,a1,a2,a3,a4,a5,a6,.vs (aj V) V.length c2,.iV V.length,.sl bu 0 N 1 cu,aA,.iV P.length,aC,aD,aE,aF,aG,.iV ca,.iV V.length,aJ,aK],lo,dw hp bu e P S L,[]⟩,wr⟩) :
 W M (.loop yR) ⟨⟨[a0,a1,a2,a3,a4,a5,a6,.vs (aj V) V.length c2,.iV V.length,.sl bu 0 N 1 cu,aA,.iV P.length,aC,aD,aE,aF,aG,.iV 0,.iV 0,aJ,aK],lo,dw hp bu e P S Y,[]⟩,wr⟩ Q:=by
 refine W.jf V.length (fun i s=>∃L ca aJ lo wr,s=⟨⟨[a0,a1,a2,a3,a4,a5,a6,.vs (aj V) V.length c2,.iV V.length,.sl bu 0 N 1 cu,aA,.iV P.length,aC,aD,aE,aF,aG,.iV ca,.iV i,aJ,aK],lo,dw hp bu e P S L,[]⟩,wr⟩ /\
  L.length=V.length/\okW dB L/\(0<=ca/\ca<=1)/\WV dB L+dB^i*ca=WV dB Y+WV dB (V.take i)) (fun i s hi ⟨L,ca,aJ,lo,wr,hs,hL,oL,hca,hv⟩=>?_) (fun s ⟨L,ca,aJ,lo,wr,hs,hL,oL,hca,hv⟩=>?_) (j1 _)
  ⟨_,_,_,_,_,rfl,hY,oY,⟨ao,ao⟩,by simp[WV]⟩
 . subst hs;have gy:=cL oV (i:=i) ac;obtain⟨y,hy⟩:∃y,y=V[i]! := ⟨_,rfl⟩;rw[←hy]at gy;have gy:0<=y/\y<1000000000:=gy;have gL:=cL oL (i:=i) ac;obtain⟨u,hu⟩:∃u,u=L[i]! := ⟨_,rfl⟩;rw[←hu]at gL;have gL:0<=u/\u<1000000000:=gL;have next:∀(D d:Int) aJ lo wr,(0<=D/\D<=1)->(0<=d/\d<1000000000)->u+y+ca=d+1000000000*D->LI (fun s=>∃L ca aJ lo wr,s=⟨⟨[a0,a1,a2,a3,a4,a5,a6,.vs (aj V) V.length c2,.iV V.length,.sl bu 0 N 1 cu,aA,.iV P.length,aC,aD,aE,aF,aG,.iV ca,.iV ((i+1:Nat):Int),aJ,aK],lo,dw hp bu e P S L,[]⟩,wr⟩ /\
    L.length=V.length/\okW dB L/\(0<=ca/\ca<=1)/\WV dB L+dB^(i+1)*ca=WV dB Y+WV dB (V.take (i+1))) Q .normal ⟨⟨[a0,a1,a2,a3,a4,a5,a6,.vs (aj V) V.length c2,.iV V.length,.sl bu 0 N 1 cu,aA,.iV P.length,aC,aD,aE,aF,aG,.iV D,.iV ((i:Int)+1),aJ,aK],lo,dw hp bu e P S (L.set i d),[]⟩,wr⟩:=fun D d aJ lo wr hD hd he=>
    dQ ⟨_,_,aJ,lo,_,rfl,by rw[br];exact hL,hJ oL hd,hD,by
     rw[hZ ac,←hu,fT ac,←hy,cD];have e1:d-u=y+ca-1000000000*D:=by omega
     rw[e1];show WV dB L+dB^i*(y+ca-1000000000*D)+dB^i*1000000000*D=_;grind⟩
   rw[hu]at gL next
   unfold yR;repeat' first|(apply aiH (L:=V) (m:=i) (v:=y);rfl;omega;omega;exact hy.symm)|(apply ajo (i:=i);rfl;exact hl;omega;omega)|(apply ajp (i:=i);rfl;rfl;exact hl;omega;omega)|(apply aiQ;rfl;rfl;omega;omega)|(apply aiR;rfl;rfl;omega;omega)|apply abx|apply aa|apply abr|apply aaL|apply aef|apply adA|apply bC|(apply ahZ;rfl)|(apply acO;rfl)|(apply aep;rfl;rfl)|(apply aeX;rfl;rfl;omega)|(apply ahT;rfl;rfl;omega)|(apply aic;rfl;rfl;omega)|(apply abA;rfl;rfl)|(apply abC;rfl;rfl)|(intro _;omega)|intro _
   all_goals try omega
   all_goals exact next _ _ _ _ _ ac ac ac
 . subst hs;rw[c7]at hv;unfold yR;repeat' first|apply abx|apply aa|apply abr|apply aaL|apply aeM|apply bH|apply ck|(apply acM;rfl)|(apply aep;rfl;rfl)|(apply abA;rfl;rfl)|(intro _;omega)|intro _
   all_goals try omega
   exact hQ L ca _ _ _ hL oL hca hv
variable {cq:Option Nat}
theorem ack {U V:List Int}{i k:Nat}(hj:i+(k+3)<=U.length)(oU:okW dB U)(hV:V.length=k+2)(oV:okW dB V)(hup:WV dB (U.drop (i+1))<WV dB V) :
 ∃P Y S,U=P++(Y++[U[i+k+2]!])++S/\P.length=i/\Y.length=k+2/\okW dB P/\okW dB Y/\okW dB S/\(0<=U[i+k+2]! /\ U[i+k+2]! < 1000000000)/\WV dB S=0/\WV dB (Y++[U[i+k+2]!])=WV dB (U.drop i)/\WV dB (Y++[U[i+k+2]!])<1000000000*WV dB V:=by
 obtain⟨P,hP⟩:∃P,P=U.take i:=⟨_,rfl⟩;obtain⟨X,hX⟩:∃X,X=(U.drop i).take (k+3):=⟨_,rfl⟩;obtain⟨S,hS⟩:∃S,S=U.drop (i+(k+3)):=⟨_,rfl⟩;have eU:U=P++X++S:=by
  rw[hP,hX,hS,fu,←pi,i7,i7]
 have lP:P.length=i:=by rw[hP,b9];omega
 have lX:X.length=k+3:=by rw[hX,b9,d9];omega
 have oX:okW dB X:=by rw[hX];exact eC (jO oU _) _
 have oS:okW dB S:=by rw[hS];exact jO oU _
 have oP:okW dB P:=by rw[hP];exact eC oU _
 have eD:U.drop i=X++S:=by rw[eU,←lP,fu,kT]
 have gj:=cL oU (i:=i) ac;have d1:=po (b:=dB) (l:=U) (i:=i) ac;have lt:=dU (b:=dB) ao oV;rw[hV]at lt;have hpow:(0:Int)<dB^(k+2):=f6 ao;have hS0:WV dB S=0:=by
  have h1:WV dB (U.drop (i+1))=WV dB ((U.drop (i+1)).take (k+2))+dB^(k+2)*WV dB S:=by
   have:=mG (b:=dB) (l:=U.drop (i+1)) (i:=k+2) (by rw[d9];omega);rwa [pi,show i+1+(k+2)=i+(k+3) by omega,←hS]at this
  have h2:=cX (b:=dB) ao (eC (jO oU (i+1)) (k+2));have h3:=cX (b:=dB) ao oS;rcases dz 0 (WV dB S) with h|h
  . have:=be (show 1<=WV dB S by omega) (c6 hpow);omega
  . omega
 have hXD:WV dB X=WV dB (U.drop i):=by rw[eD,gE,hS0,dc,d6]
 have hT:WV dB X<1000000000*WV dB V:=by
  rw[hXD,d1];have gj:0<=U[i]! /\ U[i]! < 1000000000:=gj;show _+1000000000*_<1000000000*_;omega
 have hXt:X[k+2]! = U[i+k+2]! := by
  rw[hX];simp only[cZ];rw[j3 ac,l9,lc]
 have gt:=cL oX (i:=k+2) ac;have eX:X=X.take (k+2)++[X[k+2]!]:=by
  have h1:X.take (k+2+1)=X:=cC ac;conv=>lhs;rw[←h1]
  rw[List.take_add_one,List.getElem?_eq_getElem ac,getElem!_pos X (k+2) ac,Option.toList_some]
 rw[hXt]at eX gt;refine⟨P,X.take (k+2),S,by rw[←eX];exact eU,lP,by rw[b9];omega,oP,eC oX _,oS,gt,hS0,by rw[←eX];exact hXD,by rw[←eX];exact hT⟩
theorem acm {L V:List Int}{T q d n:Int}{m:Nat}(hn:n=dB^m)(oL:okW dB L)(_hL:L.length=m)(oV:okW dB V)(hV:V.length=m)(h:WV dB L+n*d=T-q*WV dB V)(hge:T<(q+1)*WV dB V)(hd:¬d<0):d=0/\WV dB L=T-q*WV dB V/\WV dB L<WV dB V:=by
 subst hn;have lV:=dU (b:=dB) ao oV;have l0:=cX (b:=dB) ao oL;have hp:0<dB^m:=f6 ao;rw[hV]at lV;rw[ii,iI]at hge;have d0:d=0:=by
  rcases dz 0 d with h'|h'
  . have:=be (show 1<=d by omega) (c6 hp);omega
  . omega
 subst d0;rw[dc,d6]at h;exact⟨rfl,h,ac⟩
theorem acn {L L2 V:List Int}{T q d n ca:Int}{m:Nat}(hn:n=dB^m)(oL:okW dB L)(hL:L.length=m)(oL2:okW dB L2)(hL2:L2.length=m)(oV:okW dB V)(hV:V.length=m)(h:WV dB L+n*d=T-q*WV dB V)(hle:(q-1)*WV dB V<=T)(hT0:0<=T)(hd:d<0)(q0:0<=q)(h2:WV dB L2+n*ca=WV dB L+WV dB V):1<=q/\d+ca=0/\WV dB L2=T-(q-1)*WV dB V/\WV dB L2<WV dB V:=by
 subst hn;have lL:=dU (b:=dB) ao oL;have lL2:=dU (b:=dB) ao oL2;have lV:=dU (b:=dB) ao oV;have l0:=cX (b:=dB) ao oL2;have hp:0<dB^m:=f6 ao;rw[hV]at lV;rw[hL]at lL;rw[hL2]at lL2;have hneg:T-q*WV dB V<0:=by
  have:=be (show d <= -1 by omega) (c6 hp);omega
 have q1:1<=q:=by
  rcases dz 0 q with h'|h'
  . omega
  . obtain rfl:q=0:=by omega
    rw[Int.zero_mul]at hneg;omega
 rw[n6,iI]at hle ⊢;have hs:WV dB L2+dB^m*(d+ca)=T-q*WV dB V+WV dB V:=by rw[gF];omega
 have d0:d+ca=0:=by
  rcases dz 0 (d+ca) with h'|h'
  . have:=be (show 1<=d+ca by omega) (c6 hp);omega
  . rcases dz (d+ca) 0 with h''|h''
    . have:=be (show d+ca <= -1 by omega) (c6 hp);omega
    . omega
 rw[d0,dc,d6]at hs;exact⟨q1,d0,ac,ac⟩
structure MV (M:ay):Prop where
 ft:M.FT=FT
 ff:∀ars h,M.ext 236 ars h=none
 MW:∀(U V:List Int) (bu i k:Nat) cu c2 e h (T D p:Int),h.at bu=some (.cells (aj U) e)->V.length=k+2->i+k+2<U.length->U.length<100000000->ji U[i+k+2]! U[i+k+1]! U[i+k]! V[k+1]! V[k]! T D p->∃q:Int,(0<=q/\q<1000000000)/\T<(q+1)*D/\(q-1)*D<=T/\M.ext 295 [.sl bu 0 U.length 1 cu,.vs (aj V) V.length c2,.iV i] h=some ⟨.iV q,h,[]⟩
theorem aco {hp:ab}{b:Nat}{e:TypeId}{P S X U:List Int}(hU:hp.at b=some (.cells (aj U) e))(h:U=P++X++S):dw hp b e P S X=hp:=by
 unfold dw;rw[←h];exact BL hU
theorem acp {hp:ab}{b:Nat}{e:TypeId}{P S X:List Int}(hl:b<hp.length):(dw hp b e P S X).at b=some (.cells (aj (P++X++S)) e):=cQ hl
theorem Fo {hp:ab}{b c:Nat}{e:TypeId}{P S X:List Int}(h:b≠c):(dw hp b e P S X).at c=hp.at c:=xr h
theorem Fp {hp:ab}{b:Nat}{e:TypeId}{P S X:List Int}{t:Int}:dw hp b e P (t::S) X=dw hp b e (P++X) S [t]:=by
 unfold dw;rw[show P++X++(t::S)=P++X++[t]++S by simp]
section
variable {t m:Nat} {x y:aZ} {l:List bz} {pe:List AV} {lo:List (Nat×AV)} {df wr:List Nat} {v d:Int} {Q:au->Prop}
theorem ajr (hx:(St.mk pe lo (dw hp bu e P S [v]) df).ae x=some (.ptr bu m))(hl:bu<hp.length)(hm:m=P.length)
 (h:WO M l ⟨⟨pe,(t,.iV v)::lo,dw hp bu e P S [v],df⟩,wr⟩ Q):WO M (⟨.l t,.load 1 false x,none⟩::l) ⟨⟨pe,lo,dw hp bu e P S [v],df⟩,wr⟩ Q:=
 ajo (i:=0) hx hl f7 hm h
theorem ajs (hx:(St.mk pe lo (dw hp bu e P S [v]) df).ae x=some (.ptr bu m))(hy:(St.mk pe lo (dw hp bu e P S [v]) df).ae y=some (.iV d))(hl:bu<hp.length)(hm:m=P.length)
 (h:WO M l ⟨⟨pe,lo,dw hp bu e P S [d],df⟩,bu::wr⟩ Q):WO M (⟨.no,.store 1 x y,none⟩::l) ⟨⟨pe,lo,dw hp bu e P S [v],df⟩,wr⟩ Q:=
 ajp (i:=0) hx hy hl f7 hm h
end
theorem acq (C:MV M){k N bu bq bf:Nat}{V U0:List Int}{fb:bV}(hbq:bu≠bq)(hbf:bu≠bf/\bq≠bf)(lN:N<100000000)(hN:k+3<=N)(hV:V.length=k+2)(oV:okW dB V)(hv:500000000<=V[k+1]!)(hU0:U0.length=N)(oU0:okW dB U0)(hup:WV dB (U0.drop (N-(k+2)))<WV dB V){Q:Ex->au->Prop}(a0 a1 a2 a3 a4 a5 a6:AV)
 (hQ:∀U L K aC aD aE aF aG aH aI aJ aK lo wr,U.length=N->okW dB U->L.length=N-(k+2)->okW dB L->WV dB U0=WV dB V*WV dB L+WV dB U->WV dB U<WV dB V->ab.at K bu=some (.cells (aj U) 3)->ab.at K bq=some (.cells (aj L) 3)->ab.at K bf=some fb ->
   Q (.exit 2) ⟨⟨[a0,a1,a2,a3,a4,a5,a6,.vs (aj V) V.length c2,.iV V.length,.sl bu 0 N 1 cu,.sl bq 0 (N-(k+2)) 1 cq,.iV (-1),aC,aD,aE,aF,aG,aH,aI,aJ,aK],lo,K,[]⟩,wr⟩)
 (aC aD aE aF aG aH aI aJ aK:AV) (K:ab) (lo:List (Nat×AV)) (wr:List Nat) (hKu:K.at bu=some (.cells (aj U0) 3)) (hKq:K.at bq=some (.cells (aj (c9 (N-(k+2)) 0)) 3)) (hKf:K.at bf=some fb) (j:Int) (hj:j=(N:Int)-(k+3)) :
 W M (.loop yS) ⟨⟨[a0,a1,a2,a3,a4,a5,a6,.vs (aj V) V.length c2,.iV V.length,.sl bu 0 N 1 cu,.sl bq 0 (N-(k+2)) 1 cq,.iV j,aC,aD,aE,aF,aG,aH,aI,aJ,aK],lo,K,[]⟩,wr⟩ Q:=by
 refine W.ir (fun t s=>∃U L K iv aC aD aE aF aG aH aI aJ aK lo wr,s=⟨⟨[a0,a1,a2,a3,a4,a5,a6,.vs (aj V) V.length c2,.iV V.length,.sl bu 0 N 1 cu,.sl bq 0 (N-(k+2)) 1 cq,.iV iv,aC,aD,aE,aF,aG,aH,aI,aJ,aK],lo,K,[]⟩,wr⟩ /\
  iv=(t:Int)-1/\t<=N-(k+2)/\U.length=N/\okW dB U/\L.length=N-(k+2)/\okW dB L/\(∀k,k<t->L[k]! = 0)/\WV dB U0=WV dB V*WV dB L+WV dB U/\WV dB (U.drop t)<WV dB V/\ab.at K bu=some (.cells (aj U) 3)/\ab.at K bq=some (.cells (aj L) 3)/\ab.at K bf=some fb) (fun t s ⟨U,L,K,iv,aC,aD,aE,aF,aG,aH,aI,aJ,aK,lo,wr,hs,hiv,ht,hU,oU,hL,oL,hz,hv1,hv2,hKu,hKq,hKf⟩=>?_) (m:=N-(k+2))
  ⟨_,_,_,_,_,_,_,_,_,_,_,_,_,_,_,rfl,ac,bj _,hU0,oU0,ax,lJ ao,fun k _=>lO,by rw[lK,dc,ne],hup,hKu,hKq,hKf⟩
 subst hs;cases t with
 | zero=>
  obtain rfl:iv = -1:=by omega
  unfold yS;repeat' first|apply abx|apply aa|apply abr|apply aaL|apply aeM|apply bH|apply ck|(apply acM;rfl)|(apply ahS;rfl;rfl)|(apply abA;rfl;rfl)|(intro _;omega)|intro _
  all_goals try omega
  exact hQ U L K _ _ _ _ _ _ _ _ _ _ _ hU oU hL oL hv1 hv2 hKu hKq hKf
 | succ i=>
  obtain rfl:iv=(i:Int):=by omega
  obtain⟨P,Y,S,eU,lP,lY,oP,oY,oS,gt,hS0,hXD,hT⟩:=ack (i:=i) ac oU hV oV hv2;obtain⟨t2,ht2⟩:∃t2,t2=U[i+k+2]! := ⟨_,rfl⟩;rw[←ht2]at eU gt hXD hT;have oX:okW dB (Y++[t2]):=ki oY (fun x hx=>by rw[ce.1 hx];exact gt);have lX:(Y++[t2]).length=k+3:=by simp[lY]
  have K3:=ji.of lX hV oX oV hv hT;have gX:∀m,m<k+3->(Y++[t2])[m]! = U[i+m]! := fun m hm=>by
   have:=DI (P:=P) (X:=Y++[t2]) (S:=S) (i:=m) ac;rw[←eU,lP]at this;exact this.symm
  rw[gX _ ac,gX _ ac,gX _ ac,←lc,←lc]at K3;obtain⟨q,q0,hge,hle,q295⟩:=C.MW U V bu i k cu c2 3 K _ _ _ hKu hV ac ac K3;rw[hU]at q295;have hT0:0<=WV dB (Y++[t2]):=cX ao oX;have hkl:=gS hKu;have hkq:=gS hKq;have hself:dw K bu 3 P (t2::S) Y=K:=aco hKu (by rw[eU];simp);have vX:WV dB (Y++[t2])=WV dB Y+dB^V.length*t2:=by rw[gE,lY,hV];simp[WV]
  have lYV:Y.length=V.length:=by omega
  have hPN:P.length+V.length<N:=by omega
  have eI:0+((i:Int)).toNat*1=i:=by omega
  have hiP:(i:Int)=(P.length:Int):=by omega
  have fin:∀(q' d:Int) L2 K' aC aD aE aF aG aH aI aJ aK lo wr,(0<=q'/\q'<1000000000)->L2.length=V.length->okW dB L2->d=0->WV dB L2=WV dB (Y++[t2])-q'*WV dB V->WV dB L2<WV dB V->K'=(dw K bu 3 (P++L2) S [d]).put bq (some (.cells (aj (L.set i q')) 3)) ->
   LI (fun s=>∃m',m'<i+1/\∃U L K iv aC aD aE aF aG aH aI aJ aK lo wr,s=⟨⟨[a0,a1,a2,a3,a4,a5,a6,.vs (aj V) V.length c2,.iV V.length,.sl bu 0 N 1 cu,.sl bq 0 (N-(k+2)) 1 cq,.iV iv,aC,aD,aE,aF,aG,aH,aI,aJ,aK],lo,K,[]⟩,wr⟩ /\
    iv=(m':Int)-1/\m'<=N-(k+2)/\U.length=N/\okW dB U/\L.length=N-(k+2)/\okW dB L/\(∀k,k<m'->L[k]! = 0)/\WV dB U0=WV dB V*WV dB L+WV dB U/\WV dB (U.drop m')<WV dB V/\ab.at K bu=some (.cells (aj U) 3)/\ab.at K bq=some (.cells (aj L) 3)/\ab.at K bf=some fb) Q .normal ⟨⟨[a0,a1,a2,a3,a4,a5,a6,.vs (aj V) V.length c2,.iV V.length,.sl bu 0 N 1 cu,.sl bq 0 (N-(k+2)) 1 cq,.iV ((P.length:Int)-1),aC,aD,aE,aF,aG,aH,aI,aJ,aK],lo,K',[]⟩,wr⟩:=fun q' d L2 K' aC aD aE aF aG aH aI aJ aK lo wr hq' hL2 oL2 hd vL2 hlt hK'=>by
   subst hd;subst hK';have hl1:bu<(dw K bu 3 (P++L2) S [0]).length:=by rw[MI];exact hkl
   have hl2:bq<(dw K bu 3 (P++L2) S [0]).length:=by rw[MI];exact hkq
   have e0:WV dB ([0]++S)=0:=by rw[List.singleton_append,WV,hS0];rfl
   have vU':WV dB (P++L2++[0]++S)=WV dB P+dB^i*WV dB L2:=by
    rw[fu,gE,e0,dc,d6,gE,lP]
   have vU:WV dB U=WV dB P+dB^i*WV dB (Y++[t2]):=by
    rw[eU,gE,hS0,dc,d6,gE,lP]
   have lU':(P++L2++[0]++S).length=N:=by
    have h1:=congrArg j0 eU;simp only[bA,de,cT]at h1 ⊢;omega
   refine dQ ⟨i,nD i,P++L2++[0]++S,L.set i q',_,_,aC,aD,aE,aF,aG,aH,aI,aJ,aK,lo,wr,rfl,ac,ac,lU',ki (ki (ki oP oL2) (fun x hx=>by rw[ce.1 hx];exact⟨ao,ao⟩)) oS,by rw[br];exact hL,hJ oL hq',fun k hk=>by rw[iJ ac];exact hz k ac,?_,?_,?_,?_,?_⟩
   . rw[hZ ac,hz i ac,j8,vU',hv1,vU,vL2,gF,Int.mul_sub];have e3:WV dB V*(dB^i*q')=dB^i*(q'*WV dB V):=by rw[←d8,nk (WV dB V),d8,nk (WV dB V)]
     rw[e3];omega
   . rw[←lP,fu,fu,kT,gE,e0,dc,d6];exact hlt
   . rw[xr (Ne.symm hbq)];rw[acp hkl]
   . exact cQ hl2
   . rw[xr hbf.2,Fo hbf.1];exact hKf
  rw[hiP]at q295;have hQK:=hself;unfold yS;rw[hiP];repeat' first|apply abx|apply aa|apply abr|apply aaL|apply aef|apply adA|(apply acO;rfl)|(apply ahS;rfl;rfl)|(apply adX;rfl;rfl;first|exact q295)|(apply abA;rfl;rfl)|(apply abC;rfl;rfl)|(intro _;omega)|intro _
  all_goals try omega
  rw[←hself];refine aci (c2:=c2) (cu:=cu) hkl lN hPN lYV oY oV q q0 _ _ _ _ _ _ _ _ _ _ _ _ _ _ _ _ (fun L1 bo aF aG lo wr hL1 oL1 hbo hv3=>?_);have hmv:=Fp (hp:=K) (b:=bu) (e:=3) (P:=P) (S:=S) (X:=L1) (t:=t2);rw[hmv];have eq1:WV dB L1+dB^V.length*(t2-bo)=WV dB (Y++[t2])-q*WV dB V:=by
   rw[hv3,vX,Int.mul_sub];omega
  have lPL:(P++L1).length=P.length+V.length:=by rw[bA,hL1]
  by_cases hd:t2-bo<0
  . repeat' first|(apply ajr;rfl;exact hkl;omega)|(apply ajs;rfl;rfl;exact hkl;omega)|apply abx|apply aa|apply abr|apply aaL|apply aef|apply bJ|(apply acO;rfl)|(apply aep;rfl;rfl)|(apply aeX;rfl;rfl;omega)|(apply afS;rfl;rfl;omega)|(apply aic;rfl;rfl;omega)|(apply abA;rfl;rfl)|(apply abC;rfl;rfl)|(intro _;omega)|intro _
    all_goals try omega
    have hmv2:=Fp (hp:=K) (b:=bu) (e:=3) (P:=P) (S:=S) (X:=L1) (t:=t2-bo);rw[←hmv2];refine acj (c2:=c2) (cu:=cu) hkl lN hPN hL1 oL1 oV _ _ _ _ _ _ _ _ _ _ _ _ _ _ _ _ _ (fun L2 ca aJ lo wr hL2 oL2 hca hv4=>?_);have hmv3:=Fp (hp:=K) (b:=bu) (e:=3) (P:=P) (S:=S) (X:=L2) (t:=t2-bo);rw[hmv3];have lPL2:(P++L2).length=P.length+V.length:=by rw[bA,hL2]
    obtain⟨q1,hz0,vL2,hlt⟩:=acn rfl oL1 hL1 oL2 hL2 oV rfl eq1 hle hT0 hd q0.1 hv4;have hq2:(dw K bu 3 (P++L2) S [t2-bo+ca]).at bq=some (.cells (aj L) 3):=by rw[Fo hbq];exact hKq
    have eP:0+((P.length:Int)).toNat*1=i:=by omega
    repeat' first|(apply ajr;rfl;exact hkl;omega)|(apply ajs;rfl;rfl;exact hkl;omega)|(apply aiU;exact congrArg (fun z=>some (AV.ptr bq z)) eP;rfl;exact hq2;omega)|apply aa|apply abr|apply aaL|apply bC|apply bJ|(apply aeX;rfl;rfl;omega)|(apply afS;rfl;rfl;omega)|(apply aic;rfl;rfl;omega)|(apply abA;rfl;rfl)|(apply abC;rfl;rfl)
    all_goals try omega
    all_goals exact fin (q-1) _ L2 _ _ _ _ _ _ _ _ _ _ _ _ ⟨ac,ac⟩ hL2 oL2 hz0 vL2 hlt rfl
  . obtain⟨hz0,vL1,hlt⟩:=acm rfl oL1 hL1 oV rfl eq1 hge hd;have hq2:(dw K bu 3 (P++L1) S [t2-bo]).at bq=some (.cells (aj L) 3):=by rw[Fo hbq];exact hKq
    have eP:0+((P.length:Int)).toNat*1=i:=by omega
    repeat' first|(apply ajr;rfl;exact hkl;omega)|(apply ajs;rfl;rfl;exact hkl;omega)|(apply aiU;exact congrArg (fun z=>some (AV.ptr bq z)) eP;rfl;exact hq2;omega)|apply abx|apply aa|apply abr|apply aaL|apply adA|apply bC|apply bJ|(apply acM;rfl)|(apply aep;rfl;rfl)|(apply aeX;rfl;rfl;omega)|(apply afS;rfl;rfl;omega)|(apply aic;rfl;rfl;omega)|(apply abA;rfl;rfl)|(apply abC;rfl;rfl)|(intro _;omega)|intro _
    all_goals try omega
    all_goals exact fin q _ L1 _ _ _ _ _ _ _ _ _ _ _ _ q0 hL1 oL1 hz0 vL1 hlt rfl
theorem Ft {h:ab}(l:List Int):pd h (aj l):=qP (fun _=>.cons (.atom rfl) .nil) l
theorem yY {h:ab}{l:List Int}{n:Nat}:dL h (.vs (aj l) n cap) (.vs (aj l) n cap):=dL.pf (Ft l)
theorem Fu {h:ab}{b n:Nat}{L:List Int}{e:TypeId}(hb:h.at b=some (.cells (aj L) e))(hn:n<=L.length):dL h (.sl b 0 n 1 cap) (.vs (aj (L.take n)) (L.take n).length none):=by
 have hl:(L.take n).length=n:=by rw[b9];omega
 rw[hl];refine .sl (m:=aj (L.take n)) hb ?_ rfl fun i x y hx hy=>?_
 . have:=mE (f:=iC) (esz:=1) (fun _=>rfl) (l:=L) (i:=0) (n:=n) ac;simpa using this
 . rw[hx]at hy;cases hy;obtain⟨z,hz⟩:∃z,x = .iV z:=by
    have hm:=List.mem_of_getElem? hx;have:∀l:List Int,∀x∈aj l,∃z,x = .iV z:=by
     intro l;induction l with
     | nil=>intro x hx;cases hx
     | cons a l ih=>
      intro x hx;have:aj (a::l) = .iV a::aj l:=rfl;rw[this]at hx;rcases List.mem_cons.1 hx with rfl|hx
      . exact⟨a,rfl⟩
      . exact ih x hx
    exact this _ _ hm
   subst hz;exact .atom rfl
structure MX (M:ay):Prop extends MV M where
 uv:∀(a b:List Int) c1 c2 h,okW dB a->okW dB b->bg a->bg b->a.length<1000000000->b.length<1000000000->M.ext 255 [.vs (aj a) a.length c1,.vs (aj b) b.length c2] h=some ⟨.iV (bE (WV dB a-WV dB b)),h,[]⟩
 rH:∀(x y:AV) (a b:List Int) c1 c2 h,dL h x (.vs (aj a) a.length c1)->dL h y (.vs (aj b) b.length c2)->okW dB a->okW dB b->a.length<10000000->b.length<10000000->0<a.length+b.length->∃r,okW dB r/\bg r/\WV dB r=WV dB a*WV dB b/\M.ext 257 [x,y] h=some ⟨.vs (aj r) r.length none,h,[]⟩
 Fv:∀(x:AV) (a:List Int) c h (d:Int),dL h x (.vs (aj a) a.length c)->okW dB a->a.length<10000000->(0<d/\d<=1000000000)->∃q,okW dB q/\bg q/\WV dB q=WV dB a/d/\M.ext 294 [x,.iV d] h=some ⟨.aw [.vs (aj q) q.length none,.iV (WV dB a%d)],h,[]⟩
theorem acr {t f r:Int}(ht:1<=t/\t<1000000000)(hf:(t+1)*f+r=1000000000)(hr:0<=r/\r<t+1):1<=f/\f<=500000000/\500000000<=t*f:=by
 have e:(t+1)*f=t*f+f:=by rw[ii,iI]
 have f0:1<=f:=by
  rcases dz f 1 with h|h
  . have:=be (show f<=0 by omega) (show 0<=t+1 by omega);rw[dc]at this;omega
  . exact h
 have h2:2*f<=(t+1)*f:=bZ ac ac;refine⟨f0,ac,?_⟩;by_cases hbig:500000000<=t
 . have:=be f0 (show 0<=t by omega);omega
 . have f2:2<=f:=by
    rcases dz f 2 with h|h
    . obtain rfl:f=1:=by omega
      omega
    . exact h
   have h3:=i5 (show 0<=t-1 by omega) (show 0<=f-2 by omega);have e3:(t-1)*(f-2)=t*f-2*t-f+2:=by grind
   rw[e3]at h3;by_cases r2:2<=r
   . omega
   . by_cases r0:r=0
     . subst r0;omega
     . have r1:r=1:=by omega
       subst r1;by_cases t1:t=1
       . subst t1;omega
       . have h4:3*f<=(t+1)*f:=bZ ac ac;omega
theorem acs {b V:List Int}{k:Nat}{f:Int}(hb:b.length=k+2)(ob:okW dB b)(hf:1<=f)(hth:500000000<=b[k+1]! * f)(htf:(b[k+1]! + 1)*f<=1000000000)(oV:okW dB V)(nV:bg V)(vV:WV dB V=WV dB b*f):V.length=k+2/\500000000<=V[k+1]! := by
 have e0:=kS (b:=dB) (l:=b) (n:=k+1) ac;have l0:=cX (b:=dB) ao (eC ob (k+1));have l1:=dU (b:=dB) ao (eC ob (k+1));rw[b9,iq ac]at l1;have hP:0<dB^(k+1):=f6 ao;obtain⟨t,ht⟩:∃t,t=b[k+1]! := ⟨_,rfl⟩;rw[←ht]at e0 hth htf;have m1:dB^(k+1)*500000000<=WV dB V:=by
  have h1:=be hth (c6 hP);have h2:=i5 l0 (show 0<=f by omega);rw[vV,e0,ii,d8];omega
 have m2:WV dB V<dB^(k+1)*1000000000:=by
  have h1:=be htf (c6 hP);have h2:=d7 l1 (show 0<f by omega);rw[ii,iI,gF]at h1;rw[vV,e0,ii,d8];omega
 have hPs:dB^(k+2)=dB^(k+1)*1000000000:=cD _ _;have hlen:V.length<=k+2:=ib (b:=dB) ao oV nV (by rw[hPs];exact m2);have hlen2:k+2<=V.length:=by
  rcases j9 V.length (k+2) with h|h
  . have h1:=dU (b:=dB) ao oV;have h2:=iS (b:=dB) ao (show V.length<=k+1 by omega);omega
  . exact h
 have hl:V.length=k+2:=by omega
 refine⟨hl,?_⟩;have e1:=kS (b:=dB) (l:=V) (n:=k+1) ac;have g1:=dU (b:=dB) ao (eC oV (k+1));rw[b9,iq ac]at g1;have:dB^(k+1)*500000000<dB^(k+1)*(V[k+1]! + 1):=by rw[gF,Int.mul_one];omega
 have:=jV this (c6 hP);omega
theorem acu {a b U:List Int}{k:Nat}{f:Int}(hf:0<f)(ha:k+2<=a.length)(oa:okW dB a)(hb:b.length=k+2)(ob:okW dB b)(nb:bg b)(hU:U.length=a.length+1)(oU:okW dB U)(vU:WV dB U=WV dB a*f) :
 WV dB (U.drop (a.length+1-(k+2)))<WV dB b*f:=by
 have e1:=mG (b:=dB) (l:=U) (i:=a.length+1-(k+2)) ac;have l0:=cX (b:=dB) ao (eC oU (a.length+1-(k+2)));have l1:=dU (b:=dB) ao oa;have hg:=qZ (b:=dB) ao ob nb ac;rw[hb,show k+2-1=k+1 by omega]at hg;have hP:0<dB^(a.length+1-(k+2)):=f6 ao;have ep:dB^a.length=dB^(a.length+1-(k+2))*dB^(k+1):=by rw[←n4,show a.length+1-(k+2)+(k+1)=a.length by omega]
 have m1:=d7 l1 hf;have m2:=bZ hg (c6 hf);rw[ep,d8]at m1;have:dB^(a.length+1-(k+2))*WV dB (U.drop (a.length+1-(k+2)))<dB^(a.length+1-(k+2))*(dB^(k+1)*f):=by omega
 have:=jV this (c6 hP);omega
theorem acv {a A:List Int}{f:Int}(hf:1<=f/\f<=500000000)(oa:okW dB a)(na:bg a)(ha:a≠[])(oA:okW dB A)(nA:bg A)(vA:WV dB A=WV dB a*f):A≠[]/\A.length<=a.length+1:=by
 have p:=(jP (b:=dB) ao oa na).2 ha;have hp:0<WV dB a*f:=n5 p ac;refine⟨fun e=>by rw[e]at vA;simp[WV]at vA;omega,ib (b:=dB) ao oA nA ?_⟩;have l1:=dU (b:=dB) ao oa;have h1:=d7 l1 (show 0<f by omega);have h2:=be (show f<=1000000000 by omega) (c6 (f6 (n:=dB) (m:=a.length) ao));have h3:dB^(a.length+1)=dB^a.length*1000000000:=cD _ _;omega
theorem acw {a A:List Int}(la:a.length<1000000)(hA:A.length<=a.length+1){Q:Ex->au->Prop}{fb:bV}(a1 a2 a3 a4 a5 a6 a7 a8 aA aB aC aD aE aF aG aH aI aJ aK:AV)
 (hQ:∀o K lo wr,cU iC 1 3 K o (A++c9 (a.length+1-A.length) 0) [0]->ab.at K 0=some fb->Q (.exit 0) ⟨⟨[.vs (aj a) a.length c1,a1,a2,a3,a4,a5,a6,a7,a8,o,aA,aB,aC,aD,aE,aF,aG,aH,aI,aJ,aK],lo,K,[]⟩,wr⟩)
 (o:AV) (K:ab) (lo:List (Nat×AV)) (wr:List Nat) (ho:cU iC 1 3 K o A [0]) (hK:K.at 0=some fb) :
 W M (.loop yP) ⟨⟨[.vs (aj a) a.length c1,a1,a2,a3,a4,a5,a6,a7,a8,o,aA,aB,aC,aD,aE,aF,aG,aH,aI,aJ,aK],lo,K,[]⟩,wr⟩ Q:=by
 refine W.ir (fun m st=>∃d o K lo wr,st=⟨⟨[.vs (aj a) a.length c1,a1,a2,a3,a4,a5,a6,a7,a8,o,aA,aB,aC,aD,aE,aF,aG,aH,aI,aJ,aK],lo,K,[]⟩,wr⟩/\A.length+d+m=a.length+1/\cU iC 1 3 K o (A++c9 d 0) [0]/\ab.at K 0=some fb)
  (fun m st ⟨d,o,K,lo,wr,hst,hm,ho,hK⟩=>?_) (m:=a.length+1-A.length) ⟨0,o,K,lo,wr,rfl,ac,by simpa using ho,hK⟩
 subst hst;have hlen:(A++c9 d (0:Int)).length=A.length+d:=by simp
 have hsl:∃b cp,o = .ah/\A.length+d=0\/o = .sl b 0 (A++c9 d (0:Int)).length 1 cp:=by
  rcases ho with ⟨h1,h2⟩|⟨c,cp,_,h2,_,_⟩
  . exact⟨0,none,.inl ⟨h2,by rw[←hlen,h1];rfl⟩⟩
  . exact⟨c,cp,.inr h2⟩
 have hroom:((A++c9 d (0:Int)).length+1)*8<=fa:=by rw[hlen];unfold fa;omega
 have hK1:=gS hK;have next:∀H o' lo w',cU iC 1 3 H o' (A++c9 d 0++[0]) [0]->ab.at H 0=some fb->0<m->LI (fun st=>∃m',m'<m/\∃d o K lo wr,st=⟨⟨[.vs (aj a) a.length c1,a1,a2,a3,a4,a5,a6,a7,a8,o,aA,aB,aC,aD,aE,aF,aG,aH,aI,aJ,aK],lo,K,[]⟩,wr⟩/\A.length+d+m'=a.length+1/\cU iC 1 3 K o (A++c9 d 0) [0]/\ab.at K 0=some fb) Q .normal ⟨⟨[.vs (aj a) a.length c1,a1,a2,a3,a4,a5,a6,a7,a8,o',aA,aB,aC,aD,aE,aF,aG,aH,aI,aJ,aK],lo,H,[]⟩,w'⟩:=fun H o' lo w' h1 h2 h3=>
  dQ ⟨m-1,ac,d+1,o',H,lo,w',rfl,ac,by rw[fu,←List.replicate_succ']at h1;exact h1,h2⟩
 have stop:∀lo wr,m=0->Q (.exit 0) ⟨⟨[.vs (aj a) a.length c1,a1,a2,a3,a4,a5,a6,a7,a8,o,aA,aB,aC,aD,aE,aF,aG,aH,aI,aJ,aK],lo,K,[]⟩,wr⟩:=fun lo wr h=>by
  have:d=a.length+1-A.length:=by omega
  subst this;exact hQ o K lo wr ho hK
 obtain⟨b,cp,⟨rfl,hz⟩|rfl⟩:=hsl
 . unfold yP;repeat' first|(refine cU.app (f:=iC) (m:=[(0:Int)]) (S:=[0]) (fun _=>rfl) (fun _=>rfl) ao (ho.grow [_]) ax rfl rfl (Sl.ke (f:=iC) (esz:=1) (l:=[(0:Int)]) (e:=3) (fun _=>rfl) cj rfl) hroom (fun H w' o' ho' hk hlen=>?_))|apply abx|apply aa|apply abr|apply aaL|apply aef|apply adA|apply bC|(apply acO;rfl)|(apply aep;rfl;rfl)|(apply aeX;rfl;rfl;omega)|(apply aev;rfl;rfl;rfl)|(apply abA;rfl;rfl)|(apply abC;rfl;rfl)|(intro _;omega)|intro _
   all_goals try omega
   all_goals exact next _ _ _ _ ho' (hk 0 _ ax (cB hK)) ac
 . unfold yP;repeat' first|(refine cU.app (f:=iC) (m:=[(0:Int)]) (S:=[0]) (fun _=>rfl) (fun _=>rfl) ao (ho.grow [_]) ax rfl rfl (Sl.ke (f:=iC) (esz:=1) (l:=[(0:Int)]) (e:=3) (fun _=>rfl) cj rfl) hroom (fun H w' o' ho' hk hlen=>?_))|apply abx|apply aa|apply abr|apply aaL|apply aef|apply aeM|apply adA|apply bH|apply bC|apply ck|(apply acO;rfl)|(apply acM;rfl)|(apply aep;rfl;rfl)|(apply aeX;rfl;rfl;omega)|(apply aev;rfl;rfl;rfl)|(apply abA;rfl;rfl)|(apply abC;rfl;rfl)|(intro _;omega)|intro _
   all_goals try omega
   all_goals first|exact next _ _ _ _ ho' (hk 0 _ ax (cB hK)) ac|exact stop _ _ ac
theorem acx {h:ab}{b m:Nat}{U:List Int}{e:TypeId}(hb:h.at b=some (.cells (aj U) e))(hm:m<=U.length):dL h (bY b m none) (.vs (aj (U.take m)) (U.take m).length none):=by
 rcases jN m with rfl|h0
 . rw[uo];exact yY (l:=[]) (n:=0)
 . rw[show bY b m none = .sl b 0 m 1 none from if_pos h0];exact Fu hb hm
theorem ky.mix {d1:Option Nat}{b1:Nat}{L1 R:List Int}{e1:TypeId}{hp:ab}{n1:Nat}(h1:hp.at b1=some (.cells (aj L1) e1))(hn1:n1<=L1.length) :
 ky (bk [bY b1 (bh (L1.take n1)) d1,.vs (aj R) R.length none]) (if (bk [bY b1 (bh (L1.take n1)) d1,.vs (aj R) R.length none]).top<=0 then [] else hp) (L1.take (bh (L1.take n1))) R:=by
 obtain⟨x,hx⟩:∃x,x=bY b1 (bh (L1.take n1)) d1:=⟨_,rfl⟩;obtain⟨hh,hhh⟩:∃hh,hh=(if (bk [x,.vs (aj R) R.length none]).top<=0 then [] else hp):=⟨_,rfl⟩;have et:(bk [x,.vs (aj R) R.length none]).top=max x.top (max (bO (aj R)) 0):=rfl;rw[fU]at et;obtain⟨v1,f1,t1,k1⟩:=Fj (cap:=d1) h1 hn1 hh (fun h=>by rw[hhh,if_neg];rw[←hx]at h;omega);rw[←hx,←hhh];rw[←hx]at f1;refine⟨.aw [v1,.vs (aj R) R.length none],_,_,.aw rfl (fun i a b ha hb=>?_),?_,?_,.inl rfl,.inl rfl⟩
 . match i with
   | 0=>cases ha;cases hb;exact f1
   | 1=>cases ha;cases hb;exact .same (fU R)
   | i+2=>cases ha
 . show max v1.top (max (bO (aj R)) 0)=0;rw[t1,fU];rfl
 . simp only[bS,dh,k1,pJ]
theorem ky.acy {d1:Option Nat}{b1:Nat}{L1 R:List Int}{e1:TypeId}{hp:ab}{n1:Nat}(h1:hp.at b1=some (.cells (aj L1) e1))(hn1:n1<=L1.length) :
 ky (bk [.vs (aj R) R.length none,bY b1 (bh (L1.take n1)) d1]) (if (bk [.vs (aj R) R.length none,bY b1 (bh (L1.take n1)) d1]).top<=0 then [] else hp) R (L1.take (bh (L1.take n1))):=by
 obtain⟨x,hx⟩:∃x,x=bY b1 (bh (L1.take n1)) d1:=⟨_,rfl⟩;obtain⟨hh,hhh⟩:∃hh,hh=(if (bk [.vs (aj R) R.length none,x]).top<=0 then [] else hp):=⟨_,rfl⟩;have et:(bk [.vs (aj R) R.length none,x]).top=max (bO (aj R)) (max x.top 0):=rfl;rw[fU]at et;obtain⟨v1,f1,t1,k1⟩:=Fj (cap:=d1) h1 hn1 hh (fun h=>by rw[hhh,if_neg];rw[←hx]at h;omega);rw[←hx,←hhh];rw[←hx]at f1;refine⟨.aw [.vs (aj R) R.length none,v1],_,_,.aw rfl (fun i a b ha hb=>?_),?_,?_,.inl rfl,.inl rfl⟩
 . match i with
   | 0=>cases ha;cases hb;exact .same (fU R)
   | 1=>cases ha;cases hb;exact f1
   | i+2=>cases ha
 . show max (bO (aj R)) (max v1.top 0)=0;rw[t1,fU];rfl
 . simp only[bS,dh,k1,pJ]
theorem MY {L:List Int}{n:Nat}:L.take (bh (L.take n))=(L.take n).take (bh (L.take n)):=by
 have h:=js (l:=L.take n);rw[b9]at h;rw[pm,iq ac]
theorem ajQ {t:Nat}{x y:aZ}{l:List bz}{pe:List AV}{lo:List (Nat×AV)}{hp:ab}{df wr:List Nat}{a d v:Int}{Q:au->Prop}(hx:(St.mk pe lo hp df).ae x=some (.iV a))(hy:(St.mk pe lo hp df).ae y=some (.iV d))(ha:0<=a/\a<9223372036854775808)(hd:0<d)(hv:a/d=v)
 (h:WO M l ⟨⟨pe,(t,.iV v)::lo,hp,df⟩,wr⟩ Q):WO M (⟨.l t,.bin .quo x y,none⟩::l) ⟨⟨pe,lo,hp,df⟩,wr⟩ Q:=by
 subst hv;exact aiQ hx hy ha hd h
theorem MZ (C:MX M)(a b:List Int)(oa:okW dB a)(ob:okW dB b)(na:bg a)(nb:bg b)(la:a.length<100000)(lb:b.length<100000)(hb:b≠[]):MJ M 224 [.vs (aj a) a.length c1,.vs (aj b) b.length c2] (WV dB a) (WV dB b):=by
 have a0:=cX (b:=dB) ao oa;have b0:=(jP (b:=dB) ao ob nb).2 hb;have q255:=fun h=>C.uv a b c1 c2 h oa ob na nb ac ac
 refine abW (by rw[C.ft];exact MB) ax ?_;unfold Fb;simp only[enter];by_cases hlt:WV dB a<WV dB b
 . have e:bE (WV dB a-WV dB b) = -1:=if_pos ac;rw[e]at q255;repeat' first|apply abx|apply aa|apply abr|apply aaL|apply acG|apply ba|(apply acO;rfl)|(apply aep;rfl;rfl)|(apply adX;rfl;rfl;first|exact q255 _)|(apply abA;rfl;rfl)|(apply abC;rfl;rfl)|(intro _;omega)|intro _
   all_goals try omega
   exact⟨.inr rfl,rfl,_,rfl,[],a,⟨jr,kR,(Int.ediv_eq_zero_of_lt a0 hlt).symm⟩,⟨oa,na,(Int.emod_eq_of_lt a0 hlt).symm⟩,ky.less⟩
 obtain⟨g,hg⟩:∃g,g=bE (WV dB a-WV dB b):=⟨_,rfl⟩;have g0:0<=g:=by
  rw[hg];unfold bE;split
  . omega
  . split <;> omega
 rw[←hg]at q255;have lb0:b.length≠0:=fun h=>hb (du h)
 by_cases hl1:b.length=1
 . have t0:=pr nb ac;rw[hl1,show 1-1=0 by omega]at t0;have gb:=cL ob (i:=0) ac;have vb:WV dB b=b[0]! := by
    have:=kS (b:=dB) (l:=b) (n:=0) ac;simpa[WV] using this
   have gb2:0<b[0]! /\ b[0]! < 1000000000:=⟨ac,gb.2⟩;obtain⟨Q,oQ,nQ,vQ,q294⟩:=C.Fv (.vs (aj a) a.length c1) a c1 [] b[0]! yY oa ac ⟨gb2.1,ac⟩;have r0:=fo (WV dB a) (show b[0]! ≠ 0 by omega);have r1:=dg (WV dB a) gb2.1;obtain⟨re,hre⟩:∃re,re=WV dB a%b[0]! := ⟨_,rfl⟩;rw[←hre]at q294 r0 r1;have e0:b[(0:Int).toNat]! = b[0]! := rfl;have q2:CT M (ic 236) [.sl 0 0 1 1 (some 1)] [some (.cells (aj [re]) 3)] ⟨bY 0 (bh ([re].take 1)) (some 1),[some (.cells (aj [re]) 3)],[]⟩:=pK (cap:=some 1) C.ft C.ff rfl f7 (bj _) ao (fun c hc=>by cases hc;exact bj _);repeat' first|apply abx|apply aa|apply abr|apply aaL|apply acG|apply adA|apply ba|(apply acO;rfl)|(apply acM;rfl)|(apply aep;rfl;rfl)|(apply afe;rfl;rfl)|(apply adX;rfl;rfl;first|exact q255 _|exact q294)|(apply ahW;rfl;rfl;first|exact q2)|(apply ahT;rfl;rfl;omega)|(apply aib;rfl;exact fun _=>rfl;(first|omega|(simp only[br];omega)|(simp;omega));decide;rfl;case ia=>infer_instance)|(apply aev;rfl;rfl;rfl)|(apply abA;rfl;rfl)|(apply abC;rfl;rfl)|(intro _;omega)|intro _
   all_goals try omega
   have hout:=ky.acy (d1:=some 1) (b1:=0) (L1:=[re]) (R:=Q) (e1:=3) (hp:=[some (.cells (aj [re]) 3)]) (n1:=1) rfl (bj _);refine⟨.inr rfl,rfl,_,rfl,Q,_,⟨oQ,nQ,by rw[vQ,vb]⟩,?_,hout⟩;rw[cC (show [re].length<=1 from bj _)];obtain⟨h1,h2,h3⟩:=pI (L:=[re]) (fun x hx=>by rw[ce.1 hx];exact⟨r0,by show _<(1000000000:Int);omega⟩);exact⟨h1,h2,by rw[h3,vb,←hre];simp[WV]⟩
 obtain⟨k,hk⟩:∃k,b.length=k+2:=⟨b.length-2,ac⟩;have ha:k+2<=a.length:=by
  rcases j9 a.length (k+2) with h|h
  . exact absurd (pt (b:=dB) ao oa ob nb ac) hlt
  . exact h
 have ane:a≠[]:=fun e=>by rw[e]at ha;simp at ha
 have t0:=pr nb ac;rw[show b.length-1=k+1 by omega]at t0;have gt:=cL ob (i:=k+1) ac;obtain⟨t,ht⟩:∃t,t=b[k+1]! := ⟨_,rfl⟩;rw[←ht]at t0 gt;have gt:0<=t/\t<1000000000:=gt;have htb:b[((b.length:Int)-1).toNat]! = t:=by rw[show ((b.length:Int)-1).toNat=k+1 by omega];exact ht.symm
 obtain⟨f,hf⟩:∃f,f=1000000000/(t+1):=⟨_,rfl⟩;have hfe:=i8 1000000000 (t+1);rw[←hf]at hfe;obtain⟨f1,f2,f3⟩:=acr (t:=t) (f:=f) ⟨ac,gt.2⟩ hfe ⟨fo _ ac,dg _ ac⟩;have f4:(t+1)*f<=1000000000:=by
  have:=fo 1000000000 (show t+1≠0 by omega);omega
 have of:okW dB [f]:=fun x hx=>by rw[ce.1 hx];exact⟨ac,by show _<(1000000000:Int);omega⟩
 have vf:WV dB [f]=f:=by simp[WV]
 obtain⟨V,oV,nV,vV,q257b⟩:=C.rH (.vs (aj b) b.length c2) (.sl 0 0 1 1 (some 1)) b [f] c2 none [some (.cells (aj [f]) 3)] yY (Fu (L:=[f]) (n:=1) (e:=3) rfl (bj _)) ob of ac ax ac;rw[vf]at vV;rw[ht]at f3 f4;obtain⟨lV,hvt⟩:=acs hk ob f1 f3 f4 oV nV vV;obtain⟨A,oA,nA,vA,q257a⟩:=C.rH (.vs (aj a) a.length c1) (.sl 0 0 1 1 (some 1)) a [f] c1 none [some (.cells (aj [f]) 3),some (.cells (aj []) 3)] yY (Fu (L:=[f]) (n:=1) (e:=3) rfl (bj _)) oa of ac ax ac;rw[vf]at vA;obtain⟨Ane,lA⟩:=acv ⟨f1,f2⟩ oa na ane oA nA vA;rw[←ht]at f3 f4;have hroom:(([]:List Int).length+A.length)*8<=fa:=by rw[cT];unfold fa;omega
 have hfq:1000000000/(b[((b.length:Int)-1).toNat]! + 1)=f:=by rw[htb,hf]
 repeat' first|(apply ajQ (a:=1000000000) (v:=f);rfl;rfl;decide;(rw[htb];omega);exact hfq)|(refine cU.app (f:=iC) (m:=A) (acc:=[]) (S:=[0]) (hp:=[some (.cells (aj [f]) 3),some (.cells (aj []) 3)]) (fun _=>rfl) (fun _=>rfl) ao (.inr ⟨1,some 0,ax,rfl,rfl,.inr ⟨rfl,rfl⟩⟩) ax rfl rfl (.inr (.inl ⟨_,rfl⟩)) hroom (fun H w' o' ho' hk' hlen=>?_))|apply abx|apply aa|apply abr|apply aaL|apply aef|apply adA|(apply acM;rfl)|(apply aep;rfl;rfl)|(apply afe;rfl;rfl)|(apply aeX;rfl;rfl;omega)|(apply afS;rfl;rfl;omega)|(apply adX;rfl;rfl;first|exact q255 _|exact q257b|exact q257a)|(apply ahT;rfl;rfl;omega)|(apply aib;rfl;exact fun _=>rfl;(first|omega|(simp only[br];omega)|(simp;omega));decide;rfl;case ia=>infer_instance)|(apply aev;rfl;rfl;rfl)|(apply abA;rfl;rfl)|(apply abC;rfl;rfl)|(intro _;omega)|intro _
 all_goals try omega
 rw[List.nil_append]at ho';refine acw (c1:=c1) (fb:=.cells (aj [f]) 3) ac lA _ _ _ _ _ _ _ _ _ _ _ _ _ _ _ _ _ _ _ (fun o K lo wr hoK hK0=>?_) _ _ _ _ ho' (hk' 0 _ ax rfl);obtain⟨U0,hU0⟩:∃U0,U0=A++c9 (a.length+1-A.length) 0:=⟨_,rfl⟩;rw[←hU0]at hoK;have lU0:U0.length=a.length+1:=by rw[hU0];simp;omega
 have oU0:okW dB U0:=by rw[hU0];exact ki oA (lJ ao)
 have vU0:WV dB U0=WV dB a*f:=by rw[hU0,gE,lK,dc,d6,vA]
 rcases hoK with ⟨h1,_⟩|⟨bu,cp,hb0,rfl,hbu,hcap⟩
 . rw[h1]at lU0;simp at lU0
 obtain rfl:cp=none:=hcap.resolve_right fun h=>by rw[h.1]at lU0;simp at lU0
 have hb0:bu≠0:=fun e=>hb0 (by simp[e])
 have hbl:=gS hbu;have hK0l:=gS hK0;rw[lU0];repeat' first|apply abx|apply aa|apply abr|apply aaL|apply aef|apply bJ|(apply afS;rfl;rfl;omega)|(apply aiI;rfl;rfl;omega)|(apply abA;rfl;rfl)|(apply abC;rfl;rfl)
 all_goals try omega
 rw[show (((a.length+1:Nat):Int)-(V.length:Int)).toNat=a.length+1-(k+2) by omega];have hup:=acu (f:=f) ac ha oa hk ob nb lU0 oU0 vU0;rw[←vV]at hup;refine acq (c2:=none) (cu:=none) (cq:=some (a.length+1-(k+2))) (k:=k) (N:=a.length+1) (bu:=bu) (bq:=K.length) (bf:=0) (V:=V) (U0:=U0) (fb:=.cells (aj [f]) 3) C.toMV ac ⟨hb0,ac⟩ ac ac lV oV hvt lU0 oU0 hup _ _ _ _ _ _ _ (fun U L K2 aC aD aE aF aG aH aI aJ aK lo wr lU oU lL oL hv hlU hK2u hK2q hK2f=>?_) _ _ _ _ _ _ _ _ _ _ _ _ (cB hbu) cj (cB hK0) _ ac;have lt:=dU (b:=dB) ao oV;have hU0n:=cX (b:=dB) ao oU;rw[vU0,vV]at hv;rw[vV]at hlU;obtain⟨d1,d2⟩:=Ke (p:=f) ac hv hU0n hlU;have q1:CT M (ic 236) [.sl bu 0 V.length 1 none] K2 ⟨bY bu (bh (U.take V.length)) none,K2,[]⟩:=pK (cap:=none) C.ft C.ff hK2u ac ac ac (fun _ h=>by cases h);have q2:CT M (ic 236) [.sl K.length 0 (a.length+1-(k+2)) 1 (some (a.length+1-(k+2)))] K2 ⟨bY K.length (bh (L.take (a.length+1-(k+2)))) (some (a.length+1-(k+2))),K2,[]⟩:=pK (cap:=some (a.length+1-(k+2))) C.ft C.ff hK2q ac ac ac (fun c hc=>by cases hc;exact bj _);have hm:=js (l:=U.take V.length);rw[b9]at hm;have hfrc:=acx hK2u (m:=bh (U.take V.length)) ac;have vT:WV dB (U.take (bh (U.take V.length)))=WV dB U:=by
  rw[MY,xf];have e1:=mG (b:=dB) (l:=U) (i:=V.length) ac;have l0:=cX (b:=dB) ao (eC oU V.length);have l1:=cX (b:=dB) ao (jO oU V.length);have hP:0<dB^V.length:=f6 ao;rcases dz 0 (WV dB (U.drop V.length)) with h|h
  . have:=be (show 1<=WV dB (U.drop V.length) by omega) (c6 hP);rw[←vV]at hlU;omega
  . have z:WV dB (U.drop V.length)=0:=by omega
    rw[z,dc,d6]at e1;exact e1.symm
 obtain⟨R,oR,nR,vR,q294⟩:=C.Fv (bY bu (bh (U.take V.length)) none) (U.take (bh (U.take V.length))) none K2 f hfrc (eC oU _) (by rw[b9];omega) ⟨ac,ac⟩;have vR:WV dB R=WV dB a%WV dB b:=by rw[vR,vT,d2,Int.mul_ediv_cancel_left _ ac]
 repeat' first|(apply ajz (r:=V.length) (k:=.i64);rfl;rfl;omega;omega;(intro c hc;cases hc))|(apply ajb;rfl;rfl;rfl;exact q1)|(apply ahW;rfl;rfl;first|exact q1|exact q2)|(apply ajq (L:=[f]) (v:=f);rfl;exact hK2f;exact f7;rfl)|(apply ahR;rfl;rfl;(first|(simp only[nca];rfl)|rfl);first|exact q294)|apply abx|apply aa|apply abr|apply aaL|apply acG|apply bJ|apply afU|apply agy|(apply ahl;rfl)|(apply ahb;rfl;rfl;(first|(simp only[nca];rfl)|rfl))|(apply aic;rfl;rfl;omega)|(apply abA;rfl;rfl)|(apply abC;rfl;rfl)
 all_goals try omega
 have hout:=ky.mix (d1:=some (a.length+1-(k+2))) (b1:=K.length) (L1:=L) (R:=R) (e1:=3) (hp:=K2) (n1:=a.length+1-(k+2)) hK2q ac;refine⟨.inr rfl,rfl,_,rfl,_,_,?_,⟨oR,nR,vR⟩,hout⟩;rw[MY,cC (show L.length<=a.length+1-(k+2) by omega)];obtain⟨h1,h2,h3⟩:=pI oL;exact⟨h1,h2,by rw[h3,d1]⟩
structure Na (M:ay):Prop where
 ft:M.FT=FT
 lW:∀(a b:List Int),okW dB a->okW dB b->bg a->bg b->a.length<100000->b.length<100000->b≠[]->∃qv q rv r,da qv q/\da rv r/\okW dB r/\bg r/\WV dB q=WV dB a/WV dB b/\WV dB r=WV dB a%WV dB b/\∀h,M.ext 224 [.vs (aj a) a.length none,.vs (aj b) b.length none] h=some ⟨.aw [qv,rv],h,[]⟩
theorem acA (C:Na M)(a b:List Int)(oa:okW dB a)(ob:okW dB b)(na:bg a)(nb:bg b)(la:a.length<100000)(lb:b.length<100000) :
 ∃g,okW dB g/\bg g/\WV dB g=(c5 (WV dB a) (WV dB b):Nat)/\dD M 171 [.vs (aj a) a.length none,.vs (aj b) b.length none] (.vs (aj g) g.length none):=by
 obtain⟨v,hh,⟨g,og,ng,vg,ho⟩,hr⟩:=iR (M:=M) (f:=171) (ars:=[.vs (aj a) a.length none,.vs (aj b) b.length none]) (P:=fun v hh=>∃g,okW dB g/\bg g/\WV dB g=(c5 (WV dB a) (WV dB b):Nat)/\fG v hh (.vs (aj g) g.length none)) (by rw[C.ft];exact MA) ax (by
  unfold Fa;simp only[enter];repeat' first|apply abx|apply aa|apply abr|apply aaL|apply aef|(apply abC;rfl;rfl)
  refine W.ir (fun m st=>∃A B y a3 lo wr,st=⟨⟨[.vs (aj A) A.length none,y,.ah,a3],lo,[],[]⟩,wr⟩/\da y B/\m=(WV dB B).toNat/\okW dB A/\bg A/\A.length<100000/\okW dB B/\bg B/\B.length<100000/\c5 (WV dB A) (WV dB B)=c5 (WV dB a) (WV dB b))
   (fun m st ⟨A,B,y,a3,lo,wr,hst,hy,hm,oA,nA,lA,oB,nB,lB,hg⟩=>?_) (m:=(WV dB b).toNat) ⟨a,b,_,_,_,_,rfl,.inl rfl,rfl,oa,na,la,ob,nb,lb,rfl⟩
  subst hst;by_cases hB:B=[]
  . subst hB;have hl0:([]:List Int).length=0:=rfl;have fin:fG (bk [.vs (aj A) A.length none]) (if (bk [AV.vs (aj A) A.length none]).top<=0 then [] else []) (.vs (aj A) A.length none):=.same (fU A) (by rw[bk,bS,pJ]);have hv:WV dB A=(c5 (WV dB a) (WV dB b):Nat):=by
     rw[←hg];have:=cX (b:=dB) ao oA;show WV dB A=(c5 (WV dB A) 0:Nat);rw[mp];omega
    rcases hy with rfl|⟨rfl,_⟩;all_goals
    . unfold uj;repeat' first|apply abx|apply aa|apply abr|apply aaL|apply acG|apply aeM|apply bH|apply bJ|apply ck|(apply acM;rfl)|(apply aeq;rfl;rfl)|(apply abA;rfl;rfl)|(apply abC;rfl;rfl)|(intro _;omega)|intro _
      all_goals try omega
      all_goals exact⟨.inr rfl,rfl,_,rfl,A,oA,nA,hv,fin⟩
  . obtain rfl:y = .vs (aj B) B.length none:=hy.resolve_right fun h=>hB h.2
    have hBl:0<B.length:=cP.2 hB;have hBp:=(jP (b:=dB) ao oB nB).2 hB;have hA0:=cX (b:=dB) ao oA;obtain⟨qv,q,rv,r,hq,hr,or_,nr,vq,vr,q224⟩:=C.lW A B oA oB nA nB lA lB hB;have r1:=dg (WV dB A) hBp;have r0:=fo (WV dB A) (show WV dB B≠0 by omega);have lr:r.length<=B.length:=ib (b:=dB) ao or_ nr (Int.lt_trans (by rw[vr];exact r1) (dU ao oB));have hg2:c5 (WV dB B) (WV dB r)=c5 (WV dB a) (WV dB b):=by
     rw[←hg,vr,DZ]
    unfold uj;repeat' first|apply abx|apply aa|apply abr|apply aaL|apply aef|apply adA|apply bC|(apply acO;rfl)|(apply aeq;rfl;rfl)|(apply adX;rfl;rfl;first|exact q224 _)|(apply abA;rfl;rfl)|(apply abC;rfl;rfl)|(intro _;omega)|intro _
    all_goals try omega
    all_goals exact dQ ⟨(WV dB r).toNat,by rw[vr];omega,B,r,rv,_,_,_,rfl,hr,rfl,oB,nB,lB,or_,nr,ac,hg2⟩)
 exact⟨g,og,ng,vg,v,hh,ho,hr⟩
theorem Nc {g:List Int}(og:okW dB g)(ng:bg g):WV dB g=1↔g=[1]:=by
 constructor
 . intro h;have h1:=ib (b:=dB) ao og ng (n:=1) (by rw[h];decide);match g,h1 with
   | [],_=>simp[WV]at h
   | [x],_=>simp[WV]at h;rw[h]
 . rintro rfl;rfl
def t104:al:=
 .seq (
       zR [zm 37 3,
          zm 38 2,
          zL 39 38,
          zb 40 .lss 37 39,
          zn 41 40,
          zg (zm 42 2) 41 true,
          zg (zm 43 3) 41 true,
          zg (zc 44 .add 43 1) 41 true,
          ⟨(.l 45),.slice .str 1 (.l 42) (some (.l 44)) none none,some ((.l 41),true)⟩,
          zg (z1 46 169 45) 41 true,
          zg (zu 47 46) 41 true,
          zg (zn 48 47) 41 true,
          zg (zm 49 2) 48 false,
          zg (zm 50 3) 48 false,
          zg (zc 51 .add 50 1) 48 false,
          ⟨(.l 52),.slice .str 1 (.l 49) (some (.l 51)) none none,some ((.l 48),false)⟩,
          ⟨(.l 53),.bin .eql (.l 52) (.c (.str [48])),some ((.l 48),false)⟩,
          zg (zP 54 48 53) 41 true,
          zg (zn 55 54) 41 true,
          zg (zm 56 2) 55 false,
          zg (zm 57 3) 55 false,
          zg (zc 58 .add 57 1) 55 false,
          ⟨(.l 59),.slice .str 1 (.l 56) (some (.l 58)) none none,some ((.l 55),false)⟩,
          ⟨(.l 60),.bin .eql (.l 59) (.c (.str [49])),some ((.l 55),false)⟩,
          zg (zP 61 55 60) 41 true,
          zp 62 41 61]
        (
         .cond (.l 62)
         (
          zR [zi 1 1]
          (.ret))
         (.skip)))
       (
        .seq (zR [zm 63 3,
           zc 64 .gtr 63 600,
           zn 65 64,
           zg (zm 66 2) 65 false,
           zg (zL 67 66) 65 false,
           zg (zm 68 3) 65 false,
           zg (zb 69 .sub 67 68) 65 false,
           zg (zc 70 .sub 69 1) 65 false,
           zg (zc 71 .gtr 70 600) 65 false,
           zP 72 65 71]
         (
          .cond (.l 72)
          (
           zR [zi 1 4]
           (.ret))
          (.skip)))
        (
         .seq (zR [zm 73 3,
            zm 74 2,
            zL 75 74,
            zb 76 .lss 73 75]
          (
           .cond (.l 76)
           (
            zR [zm 78 2,
              z1 79 170 78,
              zn 77 79,
              ze 80 0 77,
              ze 81 1 77,
              ⟨(.p 4),.alloc 200 [.bool false,.ah],none⟩,
              ⟨(.p 5),.alloc 200 [.bool false,.ah],none⟩,
              zs 2 4 80,
              zs 2 5 81]
            (
             zR [zf 82 1 4,
               zd 83 1 82,
               zf 84 1 5,
               zd 85 1 84,
               z2 86 171 83 85,
               zw 6 86]
             (
              zR [zm 87 6,
                zl 88 87,
                zc 89 .neq 88 1,
                zn 90 89,
                zg (zm 91 6) 90 false,
                ⟨(.l 92),.dE none 1 (.l 91) (kI 0),some ((.l 90),false)⟩,
                zg (zd 93 1 92) 90 false,
                zg (zc 94 .neq 93 1) 90 false,
                zP 95 90 94]
              (
               .cond (.l 95)
               (
                zR [zi 1 1]
                (.ret))
               (.skip)))))
           (.skip)))
         (
          zR [zi 1 0]
          (.ret))))
structure Fw (M:ay):Prop where
 ft:M.FT=FT
 uw:∀(s:az) h,s.length<1000000->M.ext 152 [.str s] h=some ⟨.iV (cK s),h,[]⟩
 Fx:∀(s:az) h,s.length<1000000->M.ext 169 [.str s] h=some ⟨.bool (eO s),h,[]⟩
 rI:∀(s:az),s.length<1000000->ku s=true->(bR 47 s).1.all bT=true->((bR 47 s).2.getD []).all bT=true->∃v1 v2,jU v1 (aU 0 (bR 47 s).1:Nat)/\jU v2 (aU 0 ((bR 47 s).2.getD []):Nat)/\∀h,M.ext 170 [.str s] h=some ⟨.aw [v1,v2],h,[]⟩
 rJ:∀(a b:List Int),okW dB a->okW dB b->bg a->bg b->a.length<100000->b.length<100000->∃g,okW dB g/\bg g/\WV dB g=(c5 (WV dB a) (WV dB b):Nat)/\∀h,M.ext 171 [.vs (aj a) a.length none,.vs (aj b) b.length none] h=some ⟨.vs (aj g) g.length none,h,[]⟩
theorem jU.pos {v:AV}{n:Nat}(h:jU v n):∃neg l,v = .agg [.bool neg,.vs (aj l) l.length none]/\okW dB l/\bg l/\WV dB l=n:=by
 obtain⟨neg,l,rfl,ok,nr,hz,hn⟩:=h;refine⟨neg,l,rfl,ok,nr,?_⟩;cases neg with
 | false=>exact hz.symm
 | true=>
  have:=(jP (b:=dB) ao ok nr).2 (hn rfl);simp at hz;omega
theorem acB (C:Fw M)(s u top bot:az)(B:Bool)(lu:u.length<1000000)(htop:(bR 47 u).1=top)(hbot:(bR 47 u).2.getD []=bot)(hB:ku u=B)(dt:top.all bT=true)(a4 a5 a6:AV)(lo:List (Nat×AV))(wr:List Nat) :
 W M t104 ⟨⟨[.str s,.iV 0,.str u,.iV top.length,a4,a5,a6],lo,[],[]⟩,wr⟩ (ET [.var (.p 1)] (if B=true/\(eO bot && decide (bot≠[48]) && decide (bot≠[49]))=false then 1 else if 600<top.length\/600<bot.length then 4 else if B=true/\gJ (aU 0 top) (aU 0 bot)=true then 1 else 0)):=by
 have hs:cK u=top.length:=by rw[cK,htop]
 cases B with
 | false=>
  rw[if_neg ax];have hn:(bR 47 u).2=none:=by unfold ku at hB;cases h:(bR 47 u).2 with
    | none=>rfl
    | some y=>rw[h]at hB;cases hB
  have hul:u.length=top.length:=by rw[←htop,(nS hn).1]
  have hb0:bot=[]:=by rw[←hbot,hn];rfl
  subst hb0;have hl0:([]:az).length=0:=rfl;by_cases h6:600<top.length\/600<([]:az).length
  . rw[if_pos h6];unfold t104;repeat' first|apply abx|apply aa|apply abr|apply aaL|apply acG|apply adA|apply ba|(apply acO;rfl)|(apply acM;rfl)|(apply ahU;rfl)|(apply aid;rfl)|(apply aiK;rfl)|(apply aep;rfl;rfl)|(apply aeq;rfl;rfl)|(apply aeB;rfl;rfl)|(apply aeC;rfl;rfl)|(apply abA;rfl;rfl)|(apply abC;rfl;rfl)|(intro _;omega)|intro _
    all_goals try omega
    all_goals exact jG (.inr rfl) rfl rfl rfl rfl
  . rw[if_neg h6,if_neg ax];unfold t104;repeat' first|apply abx|apply aa|apply abr|apply aaL|apply acG|apply adA|(apply acM;rfl)|(apply ahQ;rfl)|(apply ahU;rfl)|(apply aiK;rfl)|(apply aep;rfl;rfl)|(apply aeq;rfl;rfl)|(apply aeC;rfl;rfl)|(apply afS;rfl;rfl;omega)|(apply abA;rfl;rfl)|(apply abC;rfl;rfl)|(intro _;omega)|intro _
    all_goals try omega
    all_goals exact jG (.inr rfl) rfl rfl rfl rfl
 | true=>
  obtain⟨e1,e2,hk⟩:=MP hB;rw[hs,hbot]at e2;have hul:u.length=top.length+1+bot.length:=by
   unfold ku at hB;obtain⟨y,hy⟩:=j2.1 hB;have:=tT hy;rw[hy]at hbot;simp at hbot;rw[←htop,←hbot];exact this
  have e2':u.drop ((top.length:Int)+1).toNat=bot:=by rw[show ((top.length:Int)+1).toNat=top.length+1 by omega];exact e2
  have q169:=fun h=>C.Fx bot h ac
  cases hC:eO bot with
  | false=>
   rw[if_pos ⟨rfl,rfl⟩];rw[hC]at q169;unfold t104;repeat' first|(apply air (s:=u) (r:=bot);rfl;rfl;omega;exact e2')|apply abx|apply aa|apply abr|apply aaL|apply acG|apply ba|(apply acO;rfl)|(apply afg;rfl)|(apply aid;rfl)|(apply aep;rfl;rfl)|(apply aeB;rfl;rfl)|(apply aeX;rfl;rfl;omega)|(apply adX;rfl;rfl;first|exact q169 _)|(apply abA;rfl;rfl)|(apply abC;rfl;rfl)|(intro _;omega)|intro _
   all_goals try omega
   all_goals exact jG (.inr rfl) rfl rfl rfl rfl
  | true=>
   rw[hC]at q169;by_cases h48:bot=[48]
   . rw[if_pos ⟨rfl,by rw[decide_eq_false (show ¬bot≠[48] from fun h=>h h48)];rfl⟩];unfold t104;repeat' first|(apply air (s:=u) (r:=bot);rfl;rfl;omega;exact e2')|(apply ahV;rfl;rfl;all_goals first|(intro h;exact absurd h48 h)|intro _)|apply abx|apply aa|apply abr|apply aaL|apply acG|apply ba|(apply acO;rfl)|(apply afg;rfl)|(apply ahQ;rfl)|(apply aid;rfl)|(apply aep;rfl;rfl)|(apply aeB;rfl;rfl)|(apply aeC;rfl;rfl)|(apply aeX;rfl;rfl;omega)|(apply adX;rfl;rfl;first|exact q169 _)|(apply abA;rfl;rfl)|(apply abC;rfl;rfl)|(intro _;omega)|intro _
     all_goals try omega
     all_goals exact jG (.inr rfl) rfl rfl rfl rfl
   . by_cases h49:bot=[49]
     . rw[if_pos ⟨rfl,by rw[decide_eq_true (show bot≠[48] from h48),decide_eq_false (show ¬bot≠[49] from fun h=>h h49)];rfl⟩];unfold t104;repeat' first|(apply air (s:=u) (r:=bot);rfl;rfl;omega;exact e2')|(apply ahV;rfl;rfl;all_goals first|(intro h;exact absurd h h48)|(intro h;exact absurd h49 h)|intro _)|apply abx|apply aa|apply abr|apply aaL|apply acG|apply ba|(apply acO;rfl)|(apply afg;rfl)|(apply ahQ;rfl)|(apply aep;rfl;rfl)|(apply aeB;rfl;rfl)|(apply aeC;rfl;rfl)|(apply aeX;rfl;rfl;omega)|(apply adX;rfl;rfl;first|exact q169 _)|(apply abA;rfl;rfl)|(apply abC;rfl;rfl)|(intro _;omega)|intro _
       all_goals try omega
       all_goals exact jG (.inr rfl) rfl rfl rfl rfl
     . rw[if_neg (by rw[decide_eq_true (show bot≠[48] from h48),decide_eq_true (show bot≠[49] from h49)];simp)];by_cases h6:600<top.length\/600<bot.length
       . rw[if_pos h6];unfold t104;repeat' first|(apply air (s:=u) (r:=bot);rfl;rfl;omega;exact e2')|(apply ahV;rfl;rfl;all_goals first|(intro h;exact absurd h h48)|(intro h;exact absurd h h49)|intro _)|apply abx|apply aa|apply abr|apply aaL|apply acG|apply adA|apply ba|(apply acO;rfl)|(apply acM;rfl)|(apply afg;rfl)|(apply ahQ;rfl)|(apply aid;rfl)|(apply aep;rfl;rfl)|(apply aeq;rfl;rfl)|(apply aeB;rfl;rfl)|(apply aeC;rfl;rfl)|(apply aeX;rfl;rfl;omega)|(apply afS;rfl;rfl;omega)|(apply adX;rfl;rfl;first|exact q169 _)|(apply abA;rfl;rfl)|(apply abC;rfl;rfl)|(intro _;omega)|intro _
         all_goals try omega
         all_goals exact jG (.inr rfl) rfl rfl rfl rfl
       . rw[if_neg h6];have dbt:=(ub hC).2;obtain⟨v1,v2,k1,k2,q170⟩:=C.rI u lu hB (by rw[htop];exact dt) (by rw[hbot];exact dbt);rw[htop]at k1;rw[hbot]at k2;obtain⟨n1,l1,rfl,ok1,nr1,vl1⟩:=k1.pos;obtain⟨n2,l2,rfl,ok2,nr2,vl2⟩:=k2.pos;have len1:∀(t:az) (l:List Int),t.all bT=true->okW dB l->bg l->WV dB l=(aU 0 t:Nat)->t.length<=600->l.length<100000:=fun t l ht ok nr hv hl6=>by
          have h1:=nN t ht;have h2:l.length<=t.length:=ib (b:=dB) ao ok nr (by
           rw[hv];have h3:(aU 0 t:Int)<(10:Int)^t.length:=by exact_mod_cast h1
           have h4:∀n:Nat,(10:Int)^n<=dB^n:=by
            intro n;induction n with
            | zero=>decide
            | succ n ih=>
             rw[cD,cD];exact jt ih ao ao (Int.pow_nonneg ao)
           have h5:=h4 t.length;omega)
          omega
         obtain⟨g,og,ng,vg,q171⟩:=C.rJ l1 l2 ok1 ok2 nr1 nr2 (len1 top l1 dt ok1 nr1 vl1 ac) (len1 bot l2 dbt ok2 nr2 vl2 ac);rw[vl1,vl2]at vg;have hgn:(c5 (aU 0 top:Nat) (aU 0 bot:Nat))=jj (aU 0 top) (aU 0 bot):=rfl;rw[hgn]at vg;have h1d:=Nc og ng;by_cases h1:g=[1]
         . have hc:gJ (aU 0 top) (aU 0 bot)=false:=by
            have:=h1d.2 h1;rw[vg]at this;rw[gJ,show jj (aU 0 top) (aU 0 bot)=1 by omega];rfl
           rw[if_neg (by rw[hc];simp)];subst h1;have hl1:([1]:List Int).length=1:=rfl;unfold t104;repeat' first|(apply air (s:=u) (r:=bot);rfl;rfl;omega;exact e2')|(apply ahV;rfl;rfl;all_goals first|(intro h;exact absurd h h48)|(intro h;exact absurd h h49)|intro _)|(apply aiH (L:=[1]) (m:=0) (v:=1);rfl;rfl;exact f7;rfl)|apply abx|apply aa|apply abr|apply aaL|apply acG|apply adA|(apply acO;rfl)|(apply acM;rfl)|(apply afg;rfl)|(apply ahQ;rfl)|(apply aep;rfl;rfl)|(apply aeq;rfl;rfl)|(apply agx;rfl;rfl)|(apply aeB;rfl;rfl)|(apply aeC;rfl;rfl)|(apply aeX;rfl;rfl;omega)|(apply afS;rfl;rfl;omega)|(apply adX;rfl;rfl;first|exact q169 _|exact q170 _|exact q171 _)|(apply ahT;rfl;rfl;omega)|(apply aev;rfl;rfl;rfl)|(apply aes;rfl;rfl;rfl)|(apply ahX;rfl;rfl;rfl)|(apply abA;rfl;rfl)|(apply abC;rfl;rfl)|(intro _;omega)|intro _
           all_goals try omega
           all_goals exact jG (.inr rfl) rfl rfl rfl rfl
         . have hc:gJ (aU 0 top) (aU 0 bot)=true:=by
            have:jj (aU 0 top) (aU 0 bot)≠1:=fun e=>h1 (h1d.1 (by rw[vg,e];rfl))
            rw[gJ];simp[this]
           rw[if_pos ⟨rfl,hc⟩];by_cases hl1:g.length=1
           . obtain⟨x,rfl⟩:∃x,g=[x]:=by
              match g,hl1 with
              | [x],_=>exact⟨x,rfl⟩
             have hx:x≠1:=fun e=>h1 (by rw[e])
             unfold t104;repeat' first|(apply air (s:=u) (r:=bot);rfl;rfl;omega;exact e2')|(apply ahV;rfl;rfl;all_goals first|(intro h;exact absurd h h48)|(intro h;exact absurd h h49)|intro _)|(apply aiH (L:=[x]) (m:=0) (v:=x);rfl;rfl;exact f7;rfl)|apply abx|apply aa|apply abr|apply aaL|apply acG|apply adA|apply ba|(apply acO;rfl)|(apply acM;rfl)|(apply afg;rfl)|(apply ahQ;rfl)|(apply aep;rfl;rfl)|(apply aeq;rfl;rfl)|(apply agx;rfl;rfl)|(apply aeB;rfl;rfl)|(apply aeC;rfl;rfl)|(apply aeX;rfl;rfl;omega)|(apply afS;rfl;rfl;omega)|(apply adX;rfl;rfl;first|exact q169 _|exact q170 _|exact q171 _)|(apply ahT;rfl;rfl;omega)|(apply aev;rfl;rfl;rfl)|(apply aes;rfl;rfl;rfl)|(apply ahX;rfl;rfl;rfl)|(apply abA;rfl;rfl)|(apply abC;rfl;rfl)|(intro _;omega)|intro _
             all_goals try omega
             all_goals exact jG (.inr rfl) rfl rfl rfl rfl
           . unfold t104;repeat' first|(apply air (s:=u) (r:=bot);rfl;rfl;omega;exact e2')|(apply ahV;rfl;rfl;all_goals first|(intro h;exact absurd h h48)|(intro h;exact absurd h h49)|intro _)|apply abx|apply aa|apply abr|apply aaL|apply acG|apply adA|apply ba|(apply acO;rfl)|(apply acM;rfl)|(apply afg;rfl)|(apply ahQ;rfl)|(apply aid;rfl)|(apply aep;rfl;rfl)|(apply aeq;rfl;rfl)|(apply agx;rfl;rfl)|(apply aeB;rfl;rfl)|(apply aeC;rfl;rfl)|(apply aeX;rfl;rfl;omega)|(apply afS;rfl;rfl;omega)|(apply adX;rfl;rfl;first|exact q169 _|exact q170 _|exact q171 _)|(apply aev;rfl;rfl;rfl)|(apply aes;rfl;rfl;rfl)|(apply ahX;rfl;rfl;rfl)|(apply abA;rfl;rfl)|(apply abC;rfl;rfl)|(intro _;omega)|intro _
             all_goals try omega
             all_goals exact jG (.inr rfl) rfl rfl rfl rfl
theorem acC (C:Fw M)(s:az)(hl:s.length<1000000):bm M 104 [.str s] [] ⟨.iV (eo s),[],[]⟩:=by
 have hcl:=rA 45 s;have q152:=fun h=>C.uw (bW 45 s) h ac
 have hsl:=um (bW 45 s);have etk:(bW 45 s).take ((cK (bW 45 s):Nat):Int).toNat=dv s:=by
  show (bW 45 s).take (bR 47 (bW 45 s)).1.length=(bR 47 (bW 45 s)).1;cases h:(bR 47 (bW 45 s)).2 with
  | none=>rw[(nS h).1,c7]
  | some y=>exact EA h
 have htl:(dv s).length<=s.length:=Nat.le_trans (uc 47 _) hcl;have q169:=fun h=>C.Fx (dv s) h ac
 have hsT:cK (bW 45 s)=(dv s).length:=rfl;have tl:=fun dt=>acB C s (bW 45 s) (dv s) (ek s) (iW s) ac rfl rfl rfl dt
 rw[hsT]at q152 etk hsl;have hchk:eo s=if jT s=false then 1 else if 600<(dv s).length\/600<(ek s).length then 4 else if iW s=true/\gJ (aU 0 (dv s)) (aU 0 (ek s))=true then 1 else 0:=rfl
 have hform:jT s=(eO (dv s) && !(preB 45 s && decide (dv s=[48])) && (!iW s || (eO (ek s) && decide (ek s≠[48]) && decide (ek s≠[49])))):=rfl;have dA:=fun h=>(ub (s:=dv s) h)
 have hhd:preB 45 s=true->s[0]! = 45:=fun h=>by
  have h:=of_decide_eq_true h;cases s with
  | nil=>simp at h
  | cons c t=>simp at h;exact h
 have hnhd:preB 45 s=false->s≠[]->s[0]! ≠ 45:=fun h h0 e=>by
  have h:=of_decide_eq_false h;cases s with
  | nil=>exact h0 rfl
  | cons c t=>exact h (congrArg some e)
 have hne:dv s≠[]->s≠[]:=fun h e=>h (by rw[e];rfl)
 have hpc:=fun h=>tW (b:=45) (s:=s) h
 have hpn:=fun h=>kZ (b:=45) (s:=s) h
 rw[hchk];clear hchk;generalize dv s=top at *
 generalize ek s=bot at *
 generalize iW s=B at *
 generalize bW 45 s=u at *
 have ei:s[(0:Int).toNat]! = s[0]! := rfl;refine bX (by rw[C.ft];exact abE) ax ?_;unfold Mu;simp only[enter];cases hP:preB 45 s with
 | true=>
  rw[hP]at hform;have h45:=hhd hP;obtain⟨hc1,hc2⟩:=hpc hP;have hc1:s.drop (1:Int).toNat=u:=hc1;have e45:((s[(0:Int).toNat]!).toNat:Int)=45:=by rw[ei,h45];rfl
  cases hA:eO top with
  | false=>
   rw[hA]at q169 hform;simp only[i6]at hform;rw[hform,if_pos rfl];repeat' first|(apply air (s:=s) (r:=u);rfl;rfl;omega;exact hc1)|(apply aiz (s:=u) (r:=top);rfl;rfl;omega;exact etk)|apply abx|apply aa|apply abr|apply aaL|apply acG|apply ba|(apply acO;rfl)|(apply afg;rfl)|(apply aid;rfl)|(apply aiK;rfl)|(apply aeq;rfl;rfl)|(apply afe;rfl;rfl)|(apply aeB;rfl;rfl)|(apply adX;rfl;rfl;first|exact q152 _|exact q169 _)|(apply aii;rfl;rfl;omega)|(apply abA;rfl;rfl)|(apply abC;rfl;rfl)|(intro _;omega)|intro _
   all_goals try omega
   all_goals exact⟨.inr rfl,rfl,_,rfl,rfl,rfl⟩
  | true=>
   rw[hA]at q169 hform;simp only[le]at hform;obtain⟨d1,d2⟩:=dA hA;have tl:=tl d2;by_cases hz:top=[48]
   . rw[decide_eq_true hz]at hform;simp only[Bool.not_true,i6]at hform;rw[hform,if_pos rfl];repeat' first|(apply air (s:=s) (r:=u);rfl;rfl;omega;exact hc1)|(apply aiz (s:=u) (r:=top);rfl;rfl;omega;exact etk)|(apply ahV;rfl;rfl;all_goals first|(intro h;exact absurd hz h)|intro _)|apply abx|apply aa|apply abr|apply aaL|apply acG|apply ba|(apply acO;rfl)|(apply afg;rfl)|(apply ahQ;rfl)|(apply aeq;rfl;rfl)|(apply afe;rfl;rfl)|(apply aeB;rfl;rfl)|(apply aeC;rfl;rfl)|(apply adX;rfl;rfl;first|exact q152 _|exact q169 _)|(apply aii;rfl;rfl;omega)|(apply abA;rfl;rfl)|(apply abC;rfl;rfl)|(intro _;omega)|intro _
     all_goals try omega
     all_goals exact⟨.inr rfl,rfl,_,rfl,rfl,rfl⟩
   . rw[decide_eq_false hz]at hform;simp only[pp,le]at hform;have hres:(if B=true/\(eO bot && decide (bot≠[48]) && decide (bot≠[49]))=false then 1 else if 600<top.length\/600<bot.length then 4 else if B=true/\gJ (aU 0 top) (aU 0 bot)=true then (1:Int) else 0)=(if jT s=false then 1 else if 600<top.length\/600<bot.length then 4 else if B=true/\gJ (aU 0 top) (aU 0 bot)=true then 1 else 0):=by
      rw[hform];cases B with
      | false=>simp
      | true=>simp
     rw[hres]at tl;repeat' first|(exact tl _ _ _ _ _)|(apply air (s:=s) (r:=u);rfl;rfl;omega;exact hc1)|(apply aiz (s:=u) (r:=top);rfl;rfl;omega;exact etk)|(apply ahV;rfl;rfl;all_goals first|(intro h;exact absurd h hz)|intro _)|apply abx|apply aa|apply abr|apply aaL|apply adA|(apply acO;rfl)|(apply acM;rfl)|(apply afg;rfl)|(apply ahQ;rfl)|(apply aeq;rfl;rfl)|(apply afe;rfl;rfl)|(apply aeB;rfl;rfl)|(apply aeC;rfl;rfl)|(apply adX;rfl;rfl;first|exact q152 _|exact q169 _)|(apply aii;rfl;rfl;omega)|(apply abA;rfl;rfl)|(apply abC;rfl;rfl)|(intro _;omega)|intro _
     all_goals try omega
 | false=>
  rw[hP]at hform;obtain rfl:u=s:=hpn hP;simp only[i6,pp,Bool.and_true]at hform;by_cases h0:u=[]
  . have hA:eO top=false:=by
     cases h:eO top with
     | false=>rfl
     | true=>exact absurd h0 (hne (dA h).1)
    rw[hA]at q169 hform;simp only[i6]at hform;rw[hform,if_pos rfl];have hu0:u.length=0:=by rw[h0];rfl
    repeat' first|(apply aiz (s:=u) (r:=top);rfl;rfl;omega;exact etk)|apply abx|apply aa|apply abr|apply aaL|apply acG|apply adA|apply ba|(apply acO;rfl)|(apply acM;rfl)|(apply ahU;rfl)|(apply aid;rfl)|(apply aiK;rfl)|(apply aeq;rfl;rfl)|(apply aeB;rfl;rfl)|(apply aeC;rfl;rfl)|(apply adX;rfl;rfl;first|exact q152 _|exact q169 _)|(apply abA;rfl;rfl)|(apply abC;rfl;rfl)|(intro _;omega)|intro _
    all_goals try omega
    all_goals exact⟨.inr rfl,rfl,_,rfl,rfl,rfl⟩
  . have hpos:0<u.length:=cP.2 h0;have h45:=hnhd hP h0;have e45:((u[(0:Int).toNat]!).toNat:Int)≠45:=fun e=>h45 (kw.1 (by rw[ei]at e;have:(45:UInt8).toNat=45:=rfl;omega))
    cases hA:eO top with
    | false=>
     rw[hA]at q169 hform;simp only[i6]at hform;rw[hform,if_pos rfl];repeat' first|(apply aiz (s:=u) (r:=top);rfl;rfl;omega;exact etk)|apply abx|apply aa|apply abr|apply aaL|apply acG|apply adA|apply ba|(apply acO;rfl)|(apply acM;rfl)|(apply afg;rfl)|(apply aid;rfl)|(apply aiK;rfl)|(apply aeq;rfl;rfl)|(apply afe;rfl;rfl)|(apply aeB;rfl;rfl)|(apply adX;rfl;rfl;first|exact q152 _|exact q169 _)|(apply aii;rfl;rfl;omega)|(apply abA;rfl;rfl)|(apply abC;rfl;rfl)|(intro _;omega)|intro _
     all_goals try omega
     all_goals exact⟨.inr rfl,rfl,_,rfl,rfl,rfl⟩
    | true=>
     rw[hA]at q169 hform;simp only[le]at hform;obtain⟨d1,d2⟩:=dA hA;have tl:=tl d2;have hres:(if B=true/\(eO bot && decide (bot≠[48]) && decide (bot≠[49]))=false then 1 else if 600<top.length\/600<bot.length then 4 else if B=true/\gJ (aU 0 top) (aU 0 bot)=true then (1:Int) else 0)=(if jT u=false then 1 else if 600<top.length\/600<bot.length then 4 else if B=true/\gJ (aU 0 top) (aU 0 bot)=true then 1 else 0):=by
      rw[hform];cases B with
      | false=>simp
      | true=>simp
     rw[hres]at tl;repeat' first|(exact tl _ _ _ _ _)|(apply aiz (s:=u) (r:=top);rfl;rfl;omega;exact etk)|apply abx|apply aa|apply abr|apply aaL|apply adA|(apply acM;rfl)|(apply afg;rfl)|(apply ahQ;rfl)|(apply ahU;rfl)|(apply aeq;rfl;rfl)|(apply afe;rfl;rfl)|(apply aeB;rfl;rfl)|(apply aeC;rfl;rfl)|(apply adX;rfl;rfl;first|exact q152 _|exact q169 _)|(apply aii;rfl;rfl;omega)|(apply abA;rfl;rfl)|(apply abC;rfl;rfl)|(intro _;omega)|intro _
     all_goals try omega
open Go.Proofs
variable {T:List (Nat×Spec)}
noncomputable def lZ:Spec:=sK [] 152
noncomputable def Fy:Spec:=sK [] 223
noncomputable def Fz:Spec:=sK [(223,Fy)] 169
noncomputable def yZ:Spec:=sK [] 232
theorem rK:bl Tryz.prog gl 152 lZ:=bQ bP
theorem acD:bl Tryz.prog gl 223 Fy:=bQ bP
theorem acE:bl Tryz.prog gl 169 Fz:=bQ (aX acD bP)
theorem Nd:bl Tryz.prog gl 232 yZ:=bQ bP
theorem rL:∀(s:az) h,s.length<1000000->lZ [.str s] h=some ⟨.iV (cK s),h,[]⟩:=fun s h hl=>cS (abP bN s hl) rfl rfl rfl h
theorem acF:∀(s:az) h,s.length<1000000->Fz [.str s] h=some ⟨.bool (eO s),h,[]⟩:=fun s h hl=>
 cS (abR (M:=bD Tryz.prog FT [(223,Fy)]) bN s hl fun h=>cS (abQ bN s hl) rfl rfl rfl h) rfl rfl rfl h
theorem Nf:∀(s:az) h,s.length<=18->s.all bT=true->yZ [.str s] h=some ⟨.iV (aU 0 s:Nat),h,[]⟩:=fun s h hl hd=>cS (abT bN s hl hd) rfl rfl rfl h
noncomputable def Ng:List (Nat×Spec):=[(232,yZ)]
theorem cPa:Fk (bD Tryz.prog FT Ng) where
 ft:=bN
 ff:=fun _ _=>rfl
 ur:=fun _ _=>rfl
 pM:=fun s h hl hd=>Nf s h hl hd
noncomputable def zh:Spec:=sK Ng 178
theorem Nh:bl Tryz.prog gl 178 zh:=bQ (aX Nd bP)
theorem zj:∀(s:az),s.length<1000000->(bW 45 s).all bT=true->∃v0,jU v0 (if preB 45 s then -(aU 0 (bW 45 s):Int) else (aU 0 (bW 45 s):Nat))/\∀h,zh [.str s] h=some ⟨v0,h,[]⟩:=fun s hl hd=>by
 obtain⟨v0,h1,h2⟩:=aca cPa s hl hd;exact⟨v0,h1,eE h2 rfl⟩
noncomputable def Ni:List (Nat×Spec):=[(152,lZ),(178,zh)]
noncomputable def FA:Spec:=sK Ni 170
theorem acH:bl Tryz.prog gl 170 FA:=bQ (aX rK (aX Nh bP))
theorem FB {s:az}(h:s.all bT=true):preB 45 s=false/\bW 45 s=s:=by
 have hp:preB 45 s=false:=by
  cases s with
  | nil=>rfl
  | cons c t=>
   rw[gc,ip]at h;unfold preB;rw[decide_eq_false_iff_not];intro e;simp at e;rw[e]at h;exact absurd h.1 ao
 exact⟨hp,kZ hp⟩
theorem acI:∀(s:az),s.length<1000000->ku s=true->(bR 47 s).1.all bT=true->((bR 47 s).2.getD []).all bT=true->∃v1 v2,jU v1 (aU 0 (bR 47 s).1:Nat)/\jU v2 (aU 0 ((bR 47 s).2.getD []):Nat)/\∀h,FA [.str s] h=some ⟨.aw [v1,v2],h,[]⟩:=fun s hl hb h1 h2=>by
 obtain⟨p1,c1⟩:=FB h1;obtain⟨p2,c2⟩:=FB h2;obtain⟨v1,k1,q1⟩:=zj (bR 47 s).1 (iH (uc 47 s) hl) (by rw[c1];exact h1);obtain⟨v2,k2,q2⟩:=zj ((bR 47 s).2.getD []) (iH (EP 47 s) hl) (by rw[c2];exact h2);rw[p1,c1,if_neg ao]at k1;rw[p2,c2,if_neg ao]at k2;exact⟨v1,v2,k1,k2,eE (MQ (M:=bD Tryz.prog FT Ni) bN s hl hb (fun h=>rL s h hl) k1.uq k2.uq q1 q2) rfl⟩
theorem zk {h:ab}(l:List Int){n:Nat}{c:Option Nat}:dL h (.vs (aj l) n c) (.vs (aj l) n c):=.pf (Ft l)
noncomputable def zo:Spec:=sL [] 255
noncomputable def Nj:Spec:=sL [] 294
noncomputable def FC:Spec:=sL [] 257
noncomputable def Nk:Spec:=sL [] 295
theorem Nl:bl Tryz.prog gl 255 zo:=jS bP
theorem acJ:bl Tryz.prog gl 294 Nj:=jS bP
theorem Nm:bl Tryz.prog gl 257 FC:=jS bP
theorem acK:bl Tryz.prog gl 295 Nk:=jS bP
noncomputable def zy:List (Nat×Spec):=[(255,zo),(257,FC),(294,Nj),(295,Nk)]
theorem acL:cW Tryz.prog gl (bM zy):=aX Nl (aX Nm (aX acJ (aX acK bP)))
theorem Nn:MX (bD Tryz.prog FT zy) where
 ft:=bN
 ff:=fun _ _=>rfl
 MW:=fun U V bu i k cu c2 e h T D p hb hV hi hU hK=>by
  obtain⟨q,h1,h2,h3,hr⟩:=ach (M:=bD Tryz.prog FT []) (c1:=none) (c2:=c2) bN hV hi hU hK rfl rfl rfl rfl rfl;refine⟨q,h1,h2,h3,?_⟩;have hf:dL h (.sl bu 0 U.length 1 cu) (.vs (aj U) U.length none):=by
   refine .sl (m:=aj U) hb ?_ rfl (Ft U).2;have:=mE (f:=iC) (esz:=1) (fun _=>rfl) (l:=U) (i:=0) (n:=U.length) ac;simpa using this
  exact pj hr rfl rfl rfl (.cons hf (.cons (zk V) (.cons (.atom rfl) .nil)))
 uv:=fun a b c1 c2 h o1 o2 n1 n2 l1 l2=>pj (MR bN a b o1 o2 n1 n2 l1 l2) rfl rfl rfl (.cons (zk a) (.cons (zk b) .nil))
 rH:=fun x y a b c1 c2 h hx hy o1 o2 l1 l2 h0=>by
  obtain⟨r,⟨h1,h2,h3⟩,v,hh,⟨v1,f,t,k⟩,hr⟩:=MU (M:=bD Tryz.prog FT []) (c1:=c1) (c2:=c2) bN (fun _ _=>rfl) a b o1 o2 l1 l2 h0;exact⟨r,h1,h2,h3,nC (.cons hx (.cons hy .nil)) ⟨v,hh,v1,hr,f,t,k⟩⟩
 Fv:=fun x a c h d hx o l hd=>by
  obtain⟨q,⟨h1,h2,h3⟩,v,hh,⟨v1,f,t,k⟩,hr⟩:=ace (M:=bD Tryz.prog FT []) (c1:=c) bN (fun _ _=>rfl) a o l d hd;exact⟨q,h1,h2,h3,nC (.cons hx (.cons (.atom rfl) .nil)) ⟨v,hh,v1,hr,f,t,k⟩⟩
noncomputable def rM:Spec:=sK zy 224
theorem No:bl Tryz.prog gl 224 rM:=bQ acL
theorem cCm:Na (bD Tryz.prog FT [(224,rM)]) where
 ft:=bN
 lW:=fun a b o1 o2 n1 n2 l1 l2 hb=>by
  obtain⟨q,r,⟨h1,h2,h3⟩,⟨h4,h5,h6⟩,v,hh,⟨v1,x,y,f,t,k,i1,i2⟩,hr⟩:=MZ (c1:=none) (c2:=none) Nn a b o1 o2 n1 n2 l1 l2 hb;exact⟨x,q,y,r,i1,i2,h4,h5,h3,h6,fun h=>sY ⟨v,hh,v1,hr,f,gq (fU a) (fU b),t,k⟩⟩
noncomputable def zz:Spec:=sK [(224,rM)] 171
theorem Np:bl Tryz.prog gl 171 zz:=bQ (aX No bP)
noncomputable def FD:List (Nat×Spec):=[(152,lZ),(169,Fz),(170,FA),(171,zz)]
theorem acN:cW Tryz.prog gl (bM FD):=aX rK (aX acE (aX acH (aX Np bP)))
theorem cCh:Fw (bD Tryz.prog FT FD) where
 ft:=bN
 uw:=fun s h hl=>rL s h hl
 Fx:=fun s h hl=>acF s h hl
 rI:=fun s hl hb h1 h2=>acI s hl hb h1 h2
 rJ:=fun a b o1 o2 n1 n2 l1 l2=>by
  obtain⟨g,h1,h2,h3,h4⟩:=acA cCm a b o1 o2 n1 n2 l1 l2;exact⟨g,h1,h2,h3,eE h4 (gq (fU a) (fU b))⟩
noncomputable def ux:Spec:=sK FD 104
theorem Nq:bl Tryz.prog gl 104 ux:=bQ acN
theorem FE:∀(s:az) h,s.length<1000000->ux [.str s] h=some ⟨.iV (eo s),h,[]⟩:=fun s h hl=>cS (acC cCh s hl) rfl rfl rfl h
set_option maxRecDepth 1000000
def FF:al:=.seq (zR [zm 9 5,zm 10 0,zl 11 10,zb 12 .lss 9 11,zn 13 12,zg (zm 14 5) 13 false,zg (zm 15 1) 13 false,zg (zl 16 15) 13 false,zg (zb 17 .lss 14 16) 13 false,zP 18 13 17,zn 19 18,zg (zm 20 4) 19 false,zg (zc 21 .gtr 20 0) 19 false,zP 22 19 21] (.cond (.l 22) (.skip) (.exit 0))) (.seq (.block 1 (zR [zm 25 0,zm 26 5,z2 27 300 25 26,zm 28 1,zm 29 5,z2 30 300 28 29,zb 31 .add 27 30,zm 32 4,zb 33 .add 31 32,zw 6 33] (zR [zm 34 3,zm 35 6,zc 36 .rem 35 1000000000,⟨.l 37,.dW 3 1 1 [.iV (0)] [(0,1,(.l 36))],none⟩,⟨.l 38,.append 3 1 8 (.l 34) (.l 37),none⟩,zw 3 38] (.region [zm 39 6,zc 40 .quo 39 1000000000,zw 4 40])))) (.region [zm 23 5,zc 24 .add 23 1,zw 5 24]))
def Nr:al:=zR [⟨.p 2,.mv (.c (.ah)),none⟩] (zR [⟨.p 3,.mv (.c (.ah)),none⟩] (zR [zi 4 0] (.seq (zR [zi 5 0] (.block 0 (.loop FF))) (zR [zm 41 3,zw 2 41] (.ret)))))
theorem acP:FT 233=some ⟨42,[0,1,4,5,6,7,8],[.var (.p 2)],Nr⟩:=by kernel_rfl
def rN:al:=.seq (zR [zm 9 5,zm 10 0,zl 11 10,zb 12 .lss 9 11] (.cond (.l 12) (.skip) (.exit 0))) (.seq (.block 1 (.seq (.draw [(zm 15 0,[]),(zm 16 5,[0]),(za 17 1 15 16,[]),(zd 18 1 17,[]),(zm 19 1,[0,1,2,3]),(zm 20 5,[0,1,2,3,4]),(z2 21 300 19 20,[0,1,2,3]),(zb 22 .sub 18 21,[]),(zm 23 4,[0,1,2,3,4,5,6,7]),(zb 24 .sub 22 23,[]),(zw 6 24,[])]) (zR [zi 4 0] (.seq (zR [zm 25 6,zc 26 .lss 25 0] (.cond (.l 26) (zR [zm 27 6,zc 28 .add 27 1000000000,zw 6 28] (.region [zi 4 1])) (.skip))) (.region [zm 29 3,zm 30 6,⟨.l 31,.dW 3 1 1 [.iV (0)] [(0,1,(.l 30))],none⟩,⟨.l 32,.append 3 1 8 (.l 29) (.l 31),none⟩,zw 3 32]))))) (.region [zm 13 5,zc 14 .add 13 1,zw 5 14]))
def Ns:al:=zR [⟨.p 2,.mv (.c (.ah)),none⟩] (zR [⟨.p 3,.mv (.c (.ah)),none⟩] (zR [zi 4 0] (.seq (zR [zi 5 0] (.block 0 (.loop rN))) (zR [zm 33 3,z1 34 236 33,zw 2 34] (.ret)))))
theorem acQ:FT 256=some ⟨35,[0,1,4,5,6,7,8],[.var (.p 2)],Ns⟩:=by kernel_rfl
def Nt:al:=zR [zx 2 200 2 0,zx 3 200 2 1,⟨.p 4,.alloc 200 [.bool false,.ah],none⟩] (.seq (zR [zf 5 0 2,zd 6 1 5,zf 7 0 3,zd 8 1 7,⟨.l 9,.eq false .bool (.l 6) (.l 8),none⟩] (.cond (.l 9) (.seq (.draw [(zf 10 0 2,[]),(zd 11 1 10,[]),(zf 12 1 2,[0,1]),(zd 13 1 12,[0,1]),(zf 14 1 3,[0,1,2,3]),(zd 15 1 14,[0,1,2,3]),(z2 16 233 13 15,[0,1]),(z2 17 183 11 16,[]),(zs 2 4 17,[])]) (.ret)) (.skip))) (.seq (zR [zf 18 1 2,zd 19 1 18,zf 20 1 3,zd 21 1 20,z2 22 255 19 21,zc 23 .geq 22 0] (.cond (.l 23) (.seq (.draw [(zf 24 0 2,[]),(zd 25 1 24,[]),(zf 26 1 2,[0,1]),(zd 27 1 26,[0,1]),(zf 28 1 3,[0,1,2,3]),(zd 29 1 28,[0,1,2,3]),(z2 30 256 27 29,[0,1]),(z2 31 183 25 30,[]),(zs 2 4 31,[])]) (.ret)) (.skip))) (.seq (.draw [(zf 32 0 3,[]),(zd 33 1 32,[]),(zf 34 1 3,[0,1]),(zd 35 1 34,[0,1]),(zf 36 1 2,[0,1,2,3]),(zd 37 1 36,[0,1,2,3]),(z2 38 256 35 37,[0,1]),(z2 39 183 33 38,[]),(zs 2 4 39,[])]) (.ret))))
theorem acR:FT 193=some ⟨40,[0,1,2,3,4],[.cell 2 true (.p 4)],Nt⟩:=by kernel_rfl
def Nu:al:=zR [zx 1 200 2 0,⟨.p 2,.alloc 200 [.bool false,.ah],none⟩] (zR [zf 3 0 1,zd 4 1 3,zu 5 4,zf 6 1 1,zd 7 1 6,z2 8 183 5 7,zs 2 2 8] (.ret))
theorem acS:FT 254=some ⟨9,[0,1,2],[.cell 2 true (.p 2)],Nu⟩:=by kernel_rfl
def Nv:al:=zR [zx 2 200 2 0,zx 3 200 2 1,⟨.p 4,.alloc 200 [.bool false,.ah],none⟩] (.seq (.draw [(zf 5 0 2,[]),(zd 6 1 5,[]),(zf 7 0 3,[0,1]),(zd 8 1 7,[0,1]),(⟨.l 9,.eq true .bool (.l 6) (.l 8),none⟩,[]),(zf 10 1 2,[0,1,2,3,4]),(zd 11 1 10,[0,1,2,3,4]),(zf 12 1 3,[0,1,2,3,4,5,6]),(zd 13 1 12,[0,1,2,3,4,5,6]),(z2 14 257 11 13,[0,1,2,3,4]),(z2 15 183 9 14,[]),(zs 2 4 15,[])]) (.ret))
theorem acT:FT 194=some ⟨16,[0,1,2,3,4],[.cell 2 true (.p 4)],Nv⟩:=by kernel_rfl
def Nw:al:=.seq (zR [zm 5 1,zc 6 .gtr 5 0] (.cond (.l 6) (.skip) (.exit 0))) (.block 1 (.draw [(zm 7 1,[]),(zm 8 0,[0]),(zm 9 1,[0,1]),(zb 10 .rem 8 9,[0]),(zw 0 7,[2,3]),(zw 1 10,[])]))
def Nx:al:=zR [zi 2 0] (.seq (.block 0 (.loop Nw)) (zR [zm 11 0,zw 2 11] (.ret)))
theorem acU:FT 202=some ⟨12,[0,1,4],[.var (.p 2)],Nx⟩:=by kernel_rfl
def FG:al:=.seq (zR [zm 6 0,zc 7 .gtr 6 0,zn 8 7,zg (zm 9 3) 8 false,zg (zL 10 9) 8 false,zg (zm 11 1) 8 false,zg (zb 12 .lss 10 11) 8 false,zP 13 8 12] (.cond (.l 13) (.skip) (.exit 0))) (.block 1 (zR [zm 14 0,zc 15 .rem 14 10,zm 16 0,zc 17 .rem 16 10,zc 18 .add 17 1,⟨.l 19,.slice .str 1 (.c (.str zD2)) (some (.l 15)) (some (.l 18)) none,none⟩,zm 20 3,zb 21 .add 19 20,zw 3 21] (.region [zm 22 0,zc 23 .quo 22 10,zw 0 23])))
def Ny:al:=zR [⟨.p 2,.mv (.c (.str [])),none⟩] (zR [⟨.p 3,.mv (.c (.str [])),none⟩] (.seq (.block 0 (.loop FG)) (zR [zm 24 3,zw 2 24] (.ret))))
theorem acV:FT 182=some ⟨25,[0,1,4,5],[.var (.p 2)],Ny⟩:=by kernel_rfl
def zA:al:=.seq (zR [zm 22 4,zc 23 .geq 22 0] (.cond (.l 23) (.skip) (.exit 0))) (.seq (.block 1 (.region [zm 26 3,zf 27 1 1,zd 28 1 27,zm 29 4,za 30 1 28 29,zd 31 1 30,⟨.l 32,.call (kF 182) [(.l 31),(kI 9)],none⟩,zb 33 .add 26 32,zw 3 33])) (.region [zm 24 4,zc 25 .sub 24 1,zw 4 25]))
def FH:al:=zR [zx 1 200 2 0,⟨.p 2,.mv (.c (.str [])),none⟩] (.seq (zR [zf 5 1 1,zd 6 1 5,zl 7 6,zc 8 .eql 7 0] (.cond (.l 8) (zR [⟨.p 2,.mv (.c (.str [48])),none⟩] (.ret)) (.skip))) (zR [zf 9 1 1,zd 10 1 9,zf 11 1 1,zd 12 1 11,zl 13 12,zc 14 .sub 13 1,za 15 1 10 14,zd 16 1 15,⟨.l 17,.call (kF 182) [(.l 16),(kI 1)],none⟩,zw 3 17] (.seq (zR [zf 18 1 1,zd 19 1 18,zl 20 19,zc 21 .sub 20 2,zw 4 21] (.block 0 (.loop zA))) (.seq (zR [zf 34 0 1,zd 35 1 34] (.cond (.l 35) (zR [zm 36 3,⟨.l 37,.bin .add (.c (.str [45])) (.l 36),none⟩,zw 2 37] (.ret)) (.skip))) (zR [zm 38 3,zw 2 38] (.ret))))))
theorem Nz:FT 129=some ⟨39,[0,1,2,3,4],[.var (.p 2)],FH⟩:=by kernel_rfl
def t191:al:=zR [zm 25 4,z1 26 152 25,zw 6 26] (.seq (zR [zm 27 6,zc 28 .gtr 27 9,zn 29 28,zg (zm 30 4) 29 false,zg (zL 31 30) 29 false,zg (zm 32 6) 29 false,zg (zb 33 .sub 31 32) 29 false,zg (zc 34 .gtr 33 10) 29 false,zP 35 29 34] (.cond (.l 35) (zR [zi 1 0,zi 2 0,⟨.p 3,.mv (.c (.bool false)),none⟩] (.ret)) (.skip))) (zR [zm 36 4,zm 37 6,⟨.l 38,.slice .str 1 (.l 36) none (some (.l 37)) none,none⟩,z1 39 232 38,zw 7 39,zi 8 1] (.seq (zR [zm 40 6,zm 41 4,zL 42 41,zb 43 .lss 40 42] (.cond (.l 43) (.region [zm 44 4,zm 45 6,zc 46 .add 45 1,⟨.l 47,.slice .str 1 (.l 44) (some (.l 46)) none none,none⟩,z1 48 232 47,zw 8 48]) (.skip))) (.seq (zR [zm 49 5] (.cond (.l 49) (.region [zm 50 7,⟨.l 51,.bin .sub (kI 0) (.l 50),none⟩,zw 7 51]) (.skip))) (zR [zm 52 7,zm 53 8,zw 1 52,zw 2 53,⟨.p 3,.mv (.c (.bool true)),none⟩] (.ret))))))
def zB:al:=zR [zi 1 0,zi 2 0,⟨.p 3,.mv (.c (.bool false)),none⟩] (zR [zm 10 0,zw 4 10] (.seq (zR [zm 11 4,zL 12 11,zc 13 .gtr 12 20] (.cond (.l 13) (zR [zi 1 0,zi 2 0,⟨.p 3,.mv (.c (.bool false)),none⟩] (.ret)) (.skip))) (zR [zm 14 4,zL 15 14,zc 16 .gtr 15 0,zn 17 16,zg (zm 18 4) 17 true,⟨.l 19,.index (.l 18) (kI 0),some ((.l 17),true)⟩,⟨.l 20,.bin .eql (.l 19) (.c (.int .u8 (45))),some ((.l 17),true)⟩,zp 21 17 20,zw 5 21] (.seq (zR [zm 22 5] (.cond (.l 22) (.region [zm 23 4,⟨.l 24,.slice .str 1 (.l 23) (some (kI 1)) none none,none⟩,zw 4 24]) (.skip)))
      t191))))
theorem NA:FT 191=some ⟨54,[0,2,3,4,5,6,7,8,9],[.var (.p 1),.var (.p 2),.var (.p 3)],zB⟩:=by kernel_rfl
def t192:al:=zR [zf 17 1 2,zd 18 1 17,zf 19 1 3,zd 20 1 19,z2 21 171 18 20,zw 5 21] (zR [zf 23 1 2,zd 24 1 23,zm 25 5,z2 26 224 24 25,zn 22 26,ze 27 0 22,ze 28 1 22,zw 6 27,zn 7 28] (zR [zf 30 1 3,zd 31 1 30,zm 32 5,z2 33 224 31 32,zn 29 33,ze 34 0 29,ze 35 1 29,zw 7 34,zn 9 35] (zR [zf 36 0 2,zd 37 1 36,zm 38 6,z2 39 183 37 38,z1 40 129 39,zw 8 40] (.seq (zR [zm 41 7,zl 42 41,zc 43 .eql 42 1,zn 44 43,zg (zm 45 7) 44 true,⟨.l 46,.dE none 1 (.l 45) (kI 0),some ((.l 44),true)⟩,zg (zd 47 1 46) 44 true,zg (zc 48 .eql 47 1) 44 true,zp 49 44 48] (.cond (.l 49) (zR [zm 50 8,zw 4 50] (.ret)) (.skip))) (zR [zm 51 8,⟨.l 52,.bin .add (.l 51) (.c (.str [47])),none⟩,zm 53 7,⟨.l 54,.call (kF 183) [(.c (.bool false)),(.l 53)],none⟩,z1 55 129 54,zb 56 .add 52 55,zw 4 56] (.ret))))))
def FI:al:=zR [zx 2 200 2 0,zx 3 200 2 1,⟨.p 4,.mv (.c (.str [])),none⟩] (.seq (zR [zf 11 0 3,zd 12 1 11] (.cond (.l 12) (.draw [(zt 13 2 2,[]),(z1 14 254 13,[]),(zt 15 2 3,[0,1]),(z1 16 254 15,[]),(zs 2 2 14,[]),(zs 2 3 16,[])]) (.skip)))
   t192)
theorem acW:FT 192=some ⟨57,[0,1,2,3,4,5,6,8,10],[.var (.p 4)],FI⟩:=by kernel_rfl
def NB:al:=zR [⟨.p 1,.mv (.c (.str [])),none⟩] (zR [zm 3 0,z1 4 130 3,z1 5 129 4,zw 1 5] (.ret))
theorem acX:FT 49=some ⟨6,[0,2],[.var (.p 1)],NB⟩:=by kernel_rfl
def t149:al:=zR [zm 32 0,zm 33 0,⟨.l 34,.bin .sub (kI 0) (.l 33),none⟩,⟨.l 35,.mm true [(.l 32),(.l 34)],none⟩,zm 36 1,z2 37 202 35 36,zw 3 37] (.seq (.draw [(zm 38 0,[]),(zm 39 3,[0]),(zb 40 .quo 38 39,[]),(zm 41 1,[0,1,2]),(zm 42 3,[0,1,2,3]),(zb 43 .quo 41 42,[0,1,2]),(zw 0 40,[3,4,5]),(zw 1 43,[])]) (zR [⟨.p 4,.mv (.c (.str [])),none⟩] (.seq (zR [zm 44 0,zc 45 .lss 44 0] (.cond (.l 45) (.region [⟨.p 4,.mv (.c (.str [45])),none⟩]) (.skip))) (zR [zm 46 4,zm 47 0,zm 48 0,⟨.l 49,.bin .sub (kI 0) (.l 48),none⟩,⟨.l 50,.mm true [(.l 47),(.l 49)],none⟩,⟨.l 51,.call (kF 182) [(.l 50),(kI 1)],none⟩,zb 52 .add 46 51,zw 4 52] (.seq (zR [zm 53 1,zc 54 .gtr 53 1] (.cond (.l 54) (.region [zm 55 4,⟨.l 56,.bin .add (.l 55) (.c (.str [47])),none⟩,zm 57 1,⟨.l 58,.call (kF 182) [(.l 57),(kI 1)],none⟩,zb 59 .add 56 58,zw 4 59]) (.skip))) (zR [zm 60 4,zw 2 60] (.ret)))))))
def FJ:al:=zR [⟨.p 2,.mv (.c (.str [])),none⟩] (.seq (zR [zm 7 0,zc 8 .lss 7 (-4000000000000000000),zn 9 8,zg (zm 10 0) 9 false,zg (zc 11 .gtr 10 4000000000000000000) 9 false,zP 12 9 11,zn 13 12,zg (zm 14 1) 13 false,zg (zc 15 .lss 14 (-4000000000000000000)) 13 false,zP 16 13 15,zn 17 16,zg (zm 18 1) 17 false,zg (zc 19 .gtr 18 4000000000000000000) 17 false,zP 20 17 19] (.cond (.l 20) (zR [zm 21 0,z1 22 130 21,zm 23 1,z1 24 130 23,z2 25 192 22 24,zw 2 25] (.ret)) (.skip))) (.seq (zR [zm 26 1,zc 27 .lss 26 0] (.cond (.l 27) (.region [zm 28 0,⟨.l 29,.bin .sub (kI 0) (.l 28),none⟩,zm 30 1,⟨.l 31,.bin .sub (kI 0) (.l 30),none⟩,zw 0 29,zw 1 31]) (.skip)))
 t149))
theorem acY:FT 149=some ⟨61,[0,1,4,5,6],[.var (.p 2)],FJ⟩:=by kernel_rfl
def NC:al:=zR [zi 1 0] (.seq (zR [zm 3 0,⟨.l 4,.bin .eql (.l 3) (.c (.str [48])),none⟩] (.cond (.l 4) (zR [zi 1 0] (.ret)) (.skip))) (.seq (zR [zm 5 0,zL 6 5,zc 7 .gtr 6 0,zn 8 7,zg (zm 9 0) 8 true,⟨.l 10,.index (.l 9) (kI 0),some ((.l 8),true)⟩,⟨.l 11,.bin .eql (.l 10) (.c (.int .u8 (45))),some ((.l 8),true)⟩,zp 12 8 11] (.cond (.l 12) (zR [zi 1 (-1)] (.ret)) (.skip))) (zR [zi 1 1] (.ret))))
theorem acZ:FT 105=some ⟨13,[0,2],[.var (.p 1)],NC⟩:=by kernel_rfl
def ND:al:=zR [⟨.p 1,.mv (.c (.str [])),none⟩] (.seq (zR [zm 3 0,z1 4 105 3,zc 5 .lss 4 0] (.cond (.l 5) (zR [zm 6 0,⟨.l 7,.slice .str 1 (.l 6) (some (kI 1)) none none,none⟩,zw 1 7] (.ret)) (.skip))) (.seq (zR [zm 8 0,z1 9 105 8,zc 10 .eql 9 0] (.cond (.l 10) (zR [zm 11 0,zw 1 11] (.ret)) (.skip))) (zR [zm 12 0,⟨.l 13,.bin .add (.c (.str [45])) (.l 12),none⟩,zw 1 13] (.ret))))
theorem ada:FT 113=some ⟨14,[0,2],[.var (.p 1)],ND⟩:=by kernel_rfl
def FK:al:=zR [⟨.p 2,.mv (.c (.str [])),none⟩] (zR [zm 16 0,z1 17 191 16,zn 15 17,ze 18 0 15,ze 19 1 15,ze 20 2 15,zw 3 18,zw 4 19,zw 5 20] (zR [zm 22 1,z1 23 191 22,zn 21 23,ze 24 0 21,ze 25 1 21,ze 26 2 21,zw 6 24,zw 7 25,zw 8 26] (.seq (zR [zm 27 5,zn 28 27,zg (zm 29 8) 28 true,zp 30 28 29] (.cond (.l 30) (zR [zm 31 3,zm 32 7,zb 33 .mul 31 32,zm 34 6,zm 35 4,zb 36 .mul 34 35,zb 37 .add 33 36,zm 38 4,zm 39 7,zb 40 .mul 38 39,z2 41 149 37 40,zw 2 41] (.ret)) (.skip))) (zR [zm 43 0,z1 44 170 43,zn 42 44,ze 45 0 42,ze 46 1 42,⟨.p 9,.alloc 200 [.bool false,.ah],none⟩,⟨.p 10,.alloc 200 [.bool false,.ah],none⟩,zs 2 9 45,zs 2 10 46] (zR [zm 48 1,z1 49 170 48,zn 47 49,ze 50 0 47,ze 51 1 47,⟨.p 11,.alloc 200 [.bool false,.ah],none⟩,⟨.p 12,.alloc 200 [.bool false,.ah],none⟩,zs 2 11 50,zs 2 12 51] (.seq (.draw [(zt 52 2 9,[]),(zt 53 2 12,[0]),(z2 54 194 52 53,[]),(zt 55 2 11,[0,1,2]),(zt 56 2 10,[0,1,2,3]),(z2 57 194 55 56,[]),(z2 58 193 54 57,[]),(zt 59 2 10,[0,1,2,3,4,5,6]),(zt 60 2 12,[0,1,2,3,4,5,6,7]),(z2 61 194 59 60,[]),(z2 62 192 58 61,[]),(zw 2 62,[])]) (.ret)))))))
theorem adb:FT 139=some ⟨63,[0,1,4,5,6,7,8,9,10,11,12,13,14],[.var (.p 2)],FK⟩:=by kernel_rfl
def NF:al:=zR [⟨.p 2,.mv (.c (.str [])),none⟩] (zR [zm 5 0,zm 6 1,z1 7 113 6,z2 8 139 5 7,zw 2 8] (.ret))
theorem ade:FT 128=some ⟨9,[0,1,4],[.var (.p 2)],NF⟩:=by kernel_rfl
def NG:al:=zR [zi 2 0] (zR [zm 5 0,zm 6 1,z2 7 128 5 6,z1 8 105 7,zw 2 8] (.ret))
theorem adf:FT 48=some ⟨9,[0,1,4],[.var (.p 2)],NG⟩:=by kernel_rfl
theorem FL {y:List Int}(ok:okW dB y)(i:Nat):0<=gG y i/\gG y i<1000000000:=by
 unfold gG;split
 . rename_i h;exact cL ok h
 . exact⟨ao,ao⟩
theorem adg (hft:M.FT=FT)(a:List Int)(i:Int)(hi:0<=i):bm M 300 [.vs (aj a) a.length c1,.iV i] [] ⟨.iV (gG a i.toNat),[],[]⟩:=by
 refine bX (by rw[hft];exact abO) ax ?_;unfold gG;unfold MF;simp only[enter];by_cases h:i.toNat<a.length
 . rw[if_pos h];repeat' first|apply abx|apply aa|apply abr|apply aaL|apply acG|apply ba|(apply acO;rfl)|(apply aep;rfl;rfl)|(apply ahT;rfl;rfl;omega)|(apply aib;rfl;exact fun _=>rfl;(first|omega|(simp only[br];omega)|(simp;omega));decide;rfl;case ia=>infer_instance)|(apply abA;rfl;rfl)|(apply abC;rfl;rfl)|(intro _;omega)|intro _
   all_goals try omega
   all_goals exact⟨.inr rfl,rfl,_,rfl,rfl,rfl⟩
 . rw[if_neg h];repeat' first|apply abx|apply aa|apply abr|apply aaL|apply acG|apply adA|(apply acM;rfl)|(apply aep;rfl;rfl)|(apply abA;rfl;rfl)|(apply abC;rfl;rfl)|(intro _;omega)|intro _
   all_goals try omega
   all_goals exact⟨.inr rfl,rfl,_,rfl,rfl,rfl⟩
theorem FM (hft:M.FT=FT)(K:ab):bm M 236 [.ah] K ⟨.ah,K,[]⟩:=by
 refine nt (by rw[hft];exact yO) ax (by simp[AV.top]) ?_;unfold ui;simp only[enter];repeat' first|apply abx|apply aa|apply abr|apply aaL|apply aef|(apply abC;rfl;rfl)
 refine W.loop ?_;unfold kq;repeat' first|apply abx|apply aa|apply abr|apply aaL|apply acG|apply aeM|apply bH|apply bJ|apply cA|(apply acM;rfl)|(apply ahU;rfl)|(apply aeq;rfl;rfl)|(apply aeC;rfl;rfl)|(apply abA;rfl;rfl)|(apply abC;rfl;rfl)|(intro _;omega)|intro _
 all_goals try omega
 exact⟨.inr rfl,rfl,⟨[],ax⟩,ax,_,rfl,rfl⟩
def NH (M:ay)(g:Nat)(ars:List AV)(n:Nat)(z:Int):Prop:=∃r:List Int,(okW dB r/\WV dB r=z/\r.length<=n)/\∃v hh,iy v hh r/\bm M g ars [] ⟨v,hh,[]⟩
theorem adh {f N n:Nat}{aY:List Nat}{res:List fO}{body:al}{ars:List AV}{z:Int}(hft:M.FT f=some ⟨N,aY,res,body⟩)(hN:ars.length<=N)
 (h:W M body ⟨⟨aY.map (fun t=>(ars[t]?).getD cM),[],[],[]⟩,[]⟩ fun e s=>(e = .normal\/e = .ret)/\s.s.cI=[]/\∃vs,dK s.s res=some vs/\∃r:List Int,(okW dB r/\WV dB r=z/\r.length<=n)/\iy (bk vs) (if (bk vs).top<=0 then [] else s.s.hp) r):NH M f ars n z:=by
 obtain⟨v,hh,⟨r,hr,ho⟩,h2⟩:=iR (P:=fun v hh=>∃r:List Int,(okW dB r/\WV dB r=z/\r.length<=n)/\iy v hh r) hft hN h;exact⟨r,hr,v,hh,ho,h2⟩
theorem iy.NI {K:ab}{o:AV}{acc:List Int}{S:List Nat}(h:cU iC 1 3 K o acc S):iy (bk [o]) (if (bk [o]).top<=0 then [] else K) acc:=
 ⟨.vs (aj acc) acc.length none,h.TM (fun _=>rfl) (fun _=>rfl) (fun _=>rfl),fU acc,by rw[cR,Fh]⟩
section
variable {t:Nat} {x y:aZ} {l:List bz} {pe:List AV} {lo:List (Nat×AV)} {df wr:List Nat} {v a d:Int} {Q:au->Prop}
theorem ajR (hx:(St.mk pe lo hp df).ae x=some (.iV a))(hy:(St.mk pe lo hp df).ae y=some (.iV d))(ha:0<=a/\a<9223372036854775808)(hd:0<d)(hv:a/d=v)
 (h:WO M l ⟨⟨pe,(t,.iV v)::lo,hp,df⟩,wr⟩ Q):WO M (⟨.l t,.bin .quo x y,none⟩::l) ⟨⟨pe,lo,hp,df⟩,wr⟩ Q:=aiQ hx hy ha hd (by rw[hv];exact h)
theorem ajS (hx:(St.mk pe lo hp df).ae x=some (.iV a))(hy:(St.mk pe lo hp df).ae y=some (.iV d))(ha:0<=a)(hd:0<d)(hv:a%d=v)
 (h:WO M l ⟨⟨pe,(t,.iV v)::lo,hp,df⟩,wr⟩ Q):WO M (⟨.l t,.bin .rem x y,none⟩::l) ⟨⟨pe,lo,hp,df⟩,wr⟩ Q:=aiR hx hy ha hd (by rw[hv];exact h)
end
structure FN (M:ay):Prop where
 ft:M.FT=FT
 zC:∀(a:List Int) c (i:Int) h,0<=i->M.ext 300 [.vs (aj a) a.length c,.iV i] h=some ⟨.iV (gG a i.toNat),h,[]⟩
 ff:∀ars h,M.ext 236 ars h=none
theorem adk (C:FN M)(a b:List Int)(oa:okW dB a)(ob:okW dB b)(la:a.length<1000000)(lb:b.length<1000000):NH M 233 [.vs (aj a) a.length c1,.vs (aj b) b.length c2] (a.length+b.length+1) (WV dB a+WV dB b):=by
 refine adh (by rw[C.ft];exact acP) ax ?_;unfold Nr;simp only[enter];repeat' first|apply abx|apply aa|apply abr|apply aaL|apply aef|(apply abC;rfl;rfl)
 obtain⟨n,hn⟩:∃n:Nat,a.length<=n/\b.length<=n/\n<=a.length+b.length/\(n=a.length\/n=b.length):=⟨max a.length b.length,ac,ac,ac,ac⟩;refine W.ir (fun m st=>∃i acc o c a6 K lo wr,st=⟨⟨[.vs (aj a) a.length c1,.vs (aj b) b.length c2,.ah,o,.iV c,.iV (i:Nat),a6],lo,K,[]⟩,wr⟩/\m=n+1-i/\i<=n+1/\(i=n+1->c=0)/\(0<=c/\c<=1)/\okW dB acc/\acc.length=i/\cU iC 1 3 K o acc []/\WV dB acc+dB^i*c=WV dB (a.take i)+WV dB (b.take i))
  (fun m st ⟨i,acc,o,c,a6,K,lo,wr,hst,hm,hi,hic,hc,oA,lA,ho,hv⟩=>?_) (m:=n+1) ⟨0,[],.ah,0,_,_,_,_,rfl,rfl,ac,fun _=>rfl,⟨ao,ao⟩,jr,rfl,.nu,by simp[WV]⟩
 subst hst;by_cases hend:i<a.length\/i<b.length\/0<c
 . have ga:=FL oa i;have gb:=FL ob i;have ta:=tj (B:=dB) (y:=a) (i:=i);have tb:=tj (B:=dB) (y:=b) (i:=i);have q1:=fun h=>C.zC a c1 i h ac
   have q2:=fun h=>C.zC b c2 i h ac
   rw[fY]at q1 q2;have za:a.length<=i->gG a i=0:=fun h=>if_neg ac
   have zb:b.length<=i->gG b i=0:=fun h=>if_neg ac
   generalize gG a i=x at *
   generalize gG b i=y at *
   have hi2:i<=n:=by
    rcases j9 n i with h|h
    . have:=hic ac;omega
    . exact h
   obtain⟨R,hR⟩:∃R,R=(x+y+c)%1000000000:=⟨_,rfl⟩;obtain⟨D,hD⟩:∃D,D=(x+y+c)/1000000000:=⟨_,rfl⟩;have hroom:(acc.length+1)*8<=fa:=by unfold fa;omega
   have hD0:i+1=n+1->D=0:=fun h=>by
    have h1:=za ac;have h2:=zb ac;omega
   have hval:WV dB (acc++[R])+dB^(i+1)*D=WV dB (a.take (i+1))+WV dB (b.take (i+1)):=by
    rw[gE,lA,ta,tb,cD];have e1:WV dB [R]=R:=by simp[WV]
    have e2:R+1000000000*D=x+y+c:=by omega
    have e3:dB^i*(R+1000000000*D)=dB^i*(x+y+c):=by rw[e2]
    rw[e1];show WV dB acc+dB^i*R+dB^i*1000000000*D=_;grind
   unfold FF;repeat' first|(apply ajR (v:=D);rfl;rfl;omega;omega;exact hD.symm)|(apply ajS (v:=R);rfl;rfl;omega;omega;exact hR.symm)|(refine cU.app (f:=iC) (m:=[R]) (S:=[]) (fun _=>rfl) (fun _=>rfl) ao (ho.grow [_]) ax rfl rfl (Sl.ke (f:=iC) (esz:=1) (l:=[R]) (e:=3) (fun _=>rfl) cj rfl) hroom (fun H w' o' ho' hk hlen=>?_))|apply abx|apply aa|apply abr|apply aaL|apply aef|apply adA|apply bC|(apply acO;rfl)|(apply ahQ;rfl)|(apply aid;rfl)|(apply aep;rfl;rfl)|(apply aeq;rfl;rfl)|(apply aeB;rfl;rfl)|(apply aeC;rfl;rfl)|(apply aeX;rfl;rfl;omega)|(apply adX;rfl;rfl;first|exact q1 _|exact q2 _)|(apply aev;rfl;rfl;rfl)|(apply abA;rfl;rfl)|(apply abC;rfl;rfl)|(intro _;omega)|intro _
   all_goals try omega
   all_goals exact dQ ⟨n+1-(i+1),ac,i+1,acc++[R],o',D,_,_,_,_,rfl,rfl,ac,hD0,ac,ki oA (fun z hz=>by rw[ce.1 hz];exact⟨ac,by show _<(1000000000:Int);omega⟩),by simp[lA],ho',hval⟩
 . have h1:a.take i=a:=cC ac;have h2:b.take i=b:=cC ac;have hc0:c=0:=by omega
   rw[h1,h2,hc0,dc,d6]at hv;unfold FF;repeat' first|apply abx|apply aa|apply abr|apply aaL|apply acG|apply aeM|apply bH|apply bJ|apply ck|(apply acM;rfl)|(apply ahQ;rfl)|(apply aep;rfl;rfl)|(apply aeq;rfl;rfl)|(apply aeC;rfl;rfl)|(apply abA;rfl;rfl)|(apply abC;rfl;rfl)|(intro _;omega)|intro _
   all_goals try omega
   all_goals exact⟨.inr rfl,rfl,_,rfl,acc,⟨oA,hv,ac⟩,iy.NI ho⟩
theorem adl (C:FN M)(a b:List Int)(oa:okW dB a)(ob:okW dB b)(la:a.length<1000000)(lb:b.length<=a.length)(hle:WV dB b<=WV dB a):yX M 256 [.vs (aj a) a.length c1,.vs (aj b) b.length c2] (WV dB a-WV dB b):=by
 refine Fi (by rw[C.ft];exact acQ) ax ?_;unfold Ns;simp only[enter];repeat' first|apply abx|apply aa|apply abr|apply aaL|apply aef|(apply abC;rfl;rfl)
 refine W.jf a.length (fun i st=>∃acc o c a6 K lo wr,st=⟨⟨[.vs (aj a) a.length c1,.vs (aj b) b.length c2,.ah,o,.iV c,.iV i,a6],lo,K,[]⟩,wr⟩/\(0<=c/\c<=1)/\okW dB acc/\acc.length=i/\cU iC 1 3 K o acc []/\WV dB acc-dB^i*c=WV dB (a.take i)-WV dB (b.take i))
  (fun i st hi ⟨acc,o,c,a6,K,lo,wr,hst,hc,oA,lA,ho,hv⟩=>?_) (fun st ⟨acc,o,c,a6,K,lo,wr,hst,hc,oA,lA,ho,hv⟩=>?_) (j1 _) ⟨[],.ah,0,_,_,_,_,rfl,⟨ao,ao⟩,jr,rfl,.nu,by simp[WV]⟩
 . subst hst;have ga:=cL oa hi;have gb:=FL ob i;have ta:=fT (b:=dB) (l:=a) hi;have tb:=tj (B:=dB) (y:=b) (i:=i);have q2:=fun h=>C.zC b c2 i h ac
   rw[fY]at q2;obtain⟨x,hx⟩:∃x,x=a[((i:Int)).toNat]! := ⟨_,rfl⟩;rw[show a[i]! = x from hx.symm]at ga ta;have ga:0<=x/\x<1000000000:=ga;generalize gG b i=y at *
   have hroom:(acc.length+1)*8<=fa:=by unfold fa;omega
   have next:∀(R D:Int) H o' a6 lo wr,cU iC 1 3 H o' (acc++[R]) []->(0<=D/\D<=1)->(0<=R/\R<1000000000)->R-1000000000*D=x-y-c->LI (fun st=>∃acc o c a6 K lo wr,st=⟨⟨[.vs (aj a) a.length c1,.vs (aj b) b.length c2,.ah,o,.iV c,.iV ((i+1:Nat):Int),a6],lo,K,[]⟩,wr⟩/\(0<=c/\c<=1)/\okW dB acc/\acc.length=i+1/\cU iC 1 3 K o acc []/\WV dB acc-dB^(i+1)*c=WV dB (a.take (i+1))-WV dB (b.take (i+1)))
    (BQ 0 (SQ M (zR [zm 33 3,z1 34 236 33,zw 2 34] (.ret)) (fun e s=>(e = .normal\/e = .ret)/\s.s.cI=[]/\∃vs,dK s.s [.var (.p 2)]=some vs/\∃r:List Int,(okW dB r/\bg r/\WV dB r=WV dB a-WV dB b)/\iy (bk vs) (if (bk vs).top<=0 then [] else s.s.hp) r)))
    .normal ⟨⟨[.vs (aj a) a.length c1,.vs (aj b) b.length c2,.ah,o',.iV D,.iV ((i:Int)+1),a6],lo,H,[]⟩,wr⟩:=fun R D H o' a6 lo wr ho' hD hR he=>
    dQ ⟨acc++[R],o',D,a6,H,lo,wr,rfl,hD,ki oA (fun z hz=>by rw[ce.1 hz];exact hR),by simp[lA],ho',by
     rw[gE,lA,ta,tb,cD];have e1:WV dB [R]=R:=by simp[WV]
     have e3:dB^i*(R-1000000000*D)=dB^i*(x-y-c):=by rw[he]
     rw[e1];show WV dB acc+dB^i*R-dB^i*1000000000*D=_;grind⟩
   by_cases hneg:x-y-c<0
   . rw[hx]at hneg;unfold rN;repeat' first|(apply ahR;rfl;rfl;(first|(simp only[nca];rfl)|rfl);first|exact q2 _)|(refine cU.app (f:=iC) (m:=[a[((i:Int)).toNat]! - y-c+1000000000]) (S:=[]) (fun _=>rfl) (fun _=>rfl) ao (ho.grow [_]) ax rfl rfl (Sl.ke (f:=iC) (esz:=1) (l:=[a[((i:Int)).toNat]! - y-c+1000000000]) (e:=3) (fun _=>rfl) cj rfl) hroom (fun H w' o' ho' hk hlen=>?_))|apply abx|apply aa|apply abr|apply aaL|apply aef|apply adA|apply bC|apply afU|apply agy|(apply ahl;rfl)|(apply ahb;rfl;rfl;(first|(simp only[nca];rfl)|rfl))|(apply acO;rfl)|(apply aep;rfl;rfl)|(apply aeX;rfl;rfl;omega)|(apply afS;rfl;rfl;omega)|(apply ahT;rfl;rfl;omega)|(apply aib;rfl;exact fun _=>rfl;(first|omega|(simp only[br];omega)|(simp;omega));decide;rfl;case ia=>infer_instance)|(apply aev;rfl;rfl;rfl)|(apply abA;rfl;rfl)|(apply abC;rfl;rfl)|(intro _;omega)|intro _
     all_goals try omega
     all_goals exact next _ 1 _ _ _ _ _ ho' ao ac ac
   . rw[hx]at hneg;unfold rN;repeat' first|(apply ahR;rfl;rfl;(first|(simp only[nca];rfl)|rfl);first|exact q2 _)|(refine cU.app (f:=iC) (m:=[a[((i:Int)).toNat]! - y-c]) (S:=[]) (fun _=>rfl) (fun _=>rfl) ao (ho.grow [_]) ax rfl rfl (Sl.ke (f:=iC) (esz:=1) (l:=[a[((i:Int)).toNat]! - y-c]) (e:=3) (fun _=>rfl) cj rfl) hroom (fun H w' o' ho' hk hlen=>?_))|apply abx|apply aa|apply abr|apply aaL|apply aef|apply adA|apply bC|apply afU|apply agy|(apply ahl;rfl)|(apply ahb;rfl;rfl;(first|(simp only[nca];rfl)|rfl))|(apply acO;rfl)|(apply acM;rfl)|(apply aep;rfl;rfl)|(apply aeX;rfl;rfl;omega)|(apply afS;rfl;rfl;omega)|(apply ahT;rfl;rfl;omega)|(apply aib;rfl;exact fun _=>rfl;(first|omega|(simp only[br];omega)|(simp;omega));decide;rfl;case ia=>infer_instance)|(apply aev;rfl;rfl;rfl)|(apply abA;rfl;rfl)|(apply abC;rfl;rfl)|(intro _;omega)|intro _
     all_goals try omega
     all_goals exact next _ 0 _ _ _ _ _ ho' ao ac ac
 . subst hst;have h2:b.take a.length=b:=cC lb;rw[c7,h2]at hv;have hc0:c=0:=by
    have h1:=dU (b:=dB) ao oA;rw[lA]at h1;rcases (show c=0\/c=1 by omega) with h|h
    . exact h
    . rw[h,Int.mul_one]at hv;omega
   rw[hc0,dc,j8]at hv;obtain⟨g1,g2,g3⟩:=pI oA;rcases ho with ⟨rfl,rfl⟩|⟨k,cap,_,rfl,hk,hcap⟩
   . have ha0:a.length=0:=lA.symm;have q0:CT M (ic 236) [.ah] K ⟨.ah,K,[]⟩:=CT.run (fi:=[]) (ca:=[]) (C.ff _ _) (FM C.ft K);unfold rN;repeat' first|apply abx|apply aa|apply abr|apply aaL|apply acG|apply aeM|apply bH|apply bJ|apply ck|(apply acM;rfl)|(apply aep;rfl;rfl)|(apply ahW;rfl;rfl;first|exact q0)|(apply abA;rfl;rfl)|(apply abC;rfl;rfl)|(intro _;omega)|intro _
     all_goals try omega
     all_goals exact⟨.inr rfl,rfl,_,rfl,[],⟨jr,kR,hv⟩,_,.nil,rfl,rfl⟩
   . have hpos:0<acc.length\/acc.length=0:=by omega
     rcases hpos with h0|h0
     . obtain rfl:cap=none:=hcap.resolve_right fun h=>by rw[h.1]at h0;simp at h0
       have q1:=pK (cap:=none) C.ft C.ff hk h0 (bj _) ac (fun c hc=>by cases hc);have hout:=iy.trim (cap:=none) hk (bj acc.length);rw[c7]at q1 hout;unfold rN;repeat' first|apply abx|apply aa|apply abr|apply aaL|apply acG|apply aeM|apply bH|apply bJ|apply ck|(apply acM;rfl)|(apply aep;rfl;rfl)|(apply ahW;rfl;rfl;first|exact q1)|(apply abA;rfl;rfl)|(apply abC;rfl;rfl)|(intro _;omega)|intro _
       all_goals try omega
       all_goals exact⟨.inr rfl,rfl,_,rfl,_,⟨g1,g2,by rw[g3,hv]⟩,hout⟩
     . have ha0:acc=[]:=du h0;subst ha0;have q1:CT M (ic 236) [.sl k 0 ([]:List Int).length 1 cap] K ⟨.sl k 0 ([]:List Int).length 1 cap,K,[]⟩:=CT.run (fi:=[]) (ca:=[]) (C.ff _ _) (Fm C.ft hk);unfold rN;repeat' first|apply abx|apply aa|apply abr|apply aaL|apply acG|apply aeM|apply bH|apply bJ|apply ck|(apply acM;rfl)|(apply aep;rfl;rfl)|(apply ahW;rfl;rfl;first|exact q1)|(apply abA;rfl;rfl)|(apply abC;rfl;rfl)|(intro _;omega)|intro _
       all_goals try omega
       all_goals exact⟨.inr rfl,rfl,_,rfl,[],⟨jr,kR,hv⟩,iy.NI (S:=[]) (.inr ⟨k,cap,ax,rfl,hk,hcap⟩)⟩
theorem adm (hft:M.FT=FT)(l:List Int)(hl:l.length<1000000000)(K:ab):bm M 236 [.vs (aj l) l.length cap] K ⟨.vs (aj (l.take (bh l))) (l.take (bh l)).length cap,K,[]⟩:=by
 refine nt (by rw[hft];exact yO) ax (by simp[AV.top,fU]) ?_;have loop:∀(r:Nat) (lo:List (Nat×AV)) (a1:AV) {Q:Ex->au->Prop},r<=l.length->bh (l.take r)=bh l->(∀lo,Q (.exit 0) ⟨⟨[.vs (aj (l.take (bh l))) (l.take (bh l)).length cap,a1],lo,K,[]⟩,[]⟩)->W M (.loop kq) ⟨⟨[.vs (aj (l.take r)) (l.take r).length cap,a1],lo,K,[]⟩,[]⟩ Q:=by
  intro r;induction r with
  | zero=>
   intro lo a1 Q hr he hQ;have e0:bh l=0:=by rw[←he];rfl
   rw[e0]at hQ;have hl0:(l.take 0).length=0:=rfl;refine W.loop ?_;unfold kq;repeat' first|apply abx|apply aa|apply abr|apply aaL|apply aeM|apply bH|apply cA|(apply acM;rfl)|(apply ahU;rfl)|(apply aeq;rfl;rfl)|(apply aeC;rfl;rfl)|(apply abA;rfl;rfl)|(intro _;omega)|intro _
   all_goals try omega
   all_goals exact hQ _
  | succ r ih=>
   intro lo a1 Q hr he hQ;have e:=pq (l:=l) (i:=r) ac;have hlr:(l.take (r+1)).length=r+1:=by rw[b9];omega
   have eg:(l.take (r+1))[(((l.take (r+1)).length:Int)-1).toNat]! = l[r]! := by
    rw[hlr,show (((r+1:Nat):Int)-1).toNat=r by omega,cZ,cZ,j3 ac]
   have et:(l.take (r+1)).take ((((l.take (r+1)).length:Nat):Int)-1).toNat=l.take r:=by
    rw[hlr,show (((r+1:Nat):Int)-1).toNat=r by omega,pm,iq ac]
   have next:∀lo,W M (.loop kq) ⟨⟨[.vs (aj ((l.take (r+1)).take ((((l.take (r+1)).length:Nat):Int)-1).toNat)) ((l.take (r+1)).take ((((l.take (r+1)).length:Nat):Int)-1).toNat).length cap,a1],lo,K,[]⟩,[]⟩ Q\/l[r]! ≠ 0:=fun lo=>by
    by_cases h0:l[r]! = 0
    . rw[if_pos h0]at e;rw[et];exact .inl (ih _ _ ac (e.symm.trans he) hQ)
    . exact .inr h0
   have fin:l[r]! ≠ 0->l.take (bh l)=l.take (r+1):=fun h0=>by
    rw[if_neg h0]at e;rw[←he,e]
   rw[←eg]at next fin
   refine W.loop ?_;by_cases h0:(l.take (r+1))[(((l.take (r+1)).length:Int)-1).toNat]! = 0
   . have next:=fun lo=>(next lo).resolve_right fun h=>h h0
     generalize l.take (r+1)=L at *
     unfold kq;repeat' first|(apply ajH (f:=iC) (l:=L);rfl;rfl;(intro _;rfl);omega)|apply abx|apply aa|apply abr|apply aaL|apply aef|apply adA|apply bC|(apply acO;rfl)|(apply afg;rfl)|(apply aeq;rfl;rfl)|(apply afe;rfl;rfl)|(apply aeB;rfl;rfl)|(apply afS;rfl;rfl;omega)|(apply ahT;rfl;rfl;omega)|(apply aib;rfl;exact fun _=>rfl;(first|omega|(simp only[br];omega)|(simp;omega));decide;rfl;case ia=>infer_instance)|(apply abA;rfl;rfl)|(apply abC;rfl;rfl)|(intro _;omega)|intro _
     all_goals try omega
     all_goals exact fX (next _)
   . rw[fin h0]at hQ;generalize l.take (r+1)=L at *
     unfold kq;repeat' first|apply abx|apply aa|apply abr|apply aaL|apply aeM|apply bH|apply cA|(apply acM;rfl)|(apply afg;rfl)|(apply aeq;rfl;rfl)|(apply afe;rfl;rfl)|(apply aeB;rfl;rfl)|(apply afS;rfl;rfl;omega)|(apply ahT;rfl;rfl;omega)|(apply aib;rfl;exact fun _=>rfl;(first|omega|(simp only[br];omega)|(simp;omega));decide;rfl;case ia=>infer_instance)|(apply abA;rfl;rfl)|(intro _;omega)|intro _
     all_goals try omega
     all_goals exact hQ _
 unfold ui;simp only[enter];repeat' first|apply abx|apply aa|apply abr|apply aaL|apply aef|(apply abC;rfl;rfl)
 have h0:=loop l.length;rw[c7]at h0;refine h0 _ _ (bj _) rfl (fun lo=>?_);repeat' first|apply abx|apply aa|apply abr|apply aaL|apply acG|apply bJ|(apply abA;rfl;rfl)|(apply abC;rfl;rfl)
 exact⟨.inr rfl,rfl,⟨[],ax⟩,ax,_,rfl,rfl⟩
def cd (neg:Bool)(z:Int):Int:=if neg then -z else z
theorem adn (hft:M.FT=FT)(ff:∀ars h,M.ext 236 ars h=none)(neg:Bool){x:AV}{l:List Int}(hx:da x l)(ok:okW dB l)(hl:l.length<1000000000):∃v0,cG v0 (cd neg (WV dB l))/\dD M 183 [.bool neg,x] v0:=by
 obtain⟨g1,g2,g3⟩:=pI ok;rcases hx with rfl|⟨rfl,rfl⟩
 . refine⟨.agg [.bool (neg && decide (0<bh l)),.vs (aj (l.take (bh l))) (l.take (bh l)).length none],⟨_,_,_,rfl,.inl rfl,g1,g2,?_,fun h e=>?_⟩,?_⟩
   . rw[g3,cd];cases neg with
     | false=>rfl
     | true=>
      by_cases h0:0<bh l
      . rw[decide_eq_true h0];rfl
      . rw[decide_eq_false h0];have:WV dB l=0:=by rw[←g3,show bh l=0 by omega];rfl
        rw[this];rfl
   . rw[ip,decide_eq_true_eq]at h;have:=congrArg j0 e;have hle:=js (l:=l);rw[b9,cT]at this;omega
   . have q1:=fun K=>CT.run (fi:=[]) (ca:=[]) (ars:=[.vs (aj l) l.length none]) (ff _ _) (adm (cap:=none) hft l hl K)
     have hT:(l.take (bh l)).length=bh l:=by rw[b9];have:=js (l:=l);omega
     generalize l.take (bh l)=L at *
     rw[←hT];have fin:∀(b:Bool) hh,fG (.agg [.bool b,.vs (aj L) L.length none]) hh (.agg [.bool b,.vs (aj L) L.length none]):=fun b hh=>.same (by simp[AV.top,bO,fU]) (by simp[bS,dh,pJ])
     refine dH (by rw[hft];exact yN) ax ?_;unfold uh;simp only[enter];cases neg with
     | false=>
      repeat' first|apply abx|apply aa|apply abr|apply aaL|apply acG|(apply ahU;rfl)|(apply aeC;rfl;rfl)|(apply ahW;rfl;rfl;first|exact q1 _)|(apply aik;rfl;rfl;exact⟨rfl,by first|exact bj _|decide|(simp[overwrite]),rfl⟩;rfl)|(apply aes;rfl;rfl;rfl)|(apply abA;rfl;rfl)|(apply abC;rfl;rfl)
      all_goals try omega
      all_goals exact cV rfl rfl (fin _ _)
     | true=>
      by_cases h0:0<L.length
      . rw[decide_eq_true h0];repeat' first|apply abx|apply aa|apply abr|apply aaL|apply acG|(apply afg;rfl)|(apply aeq;rfl;rfl)|(apply aeB;rfl;rfl)|(apply ahW;rfl;rfl;first|exact q1 _)|(apply aik;rfl;rfl;exact⟨rfl,by first|exact bj _|decide|(simp[overwrite]),rfl⟩;rfl)|(apply aes;rfl;rfl;rfl)|(apply abA;rfl;rfl)|(apply abC;rfl;rfl)|(intro _;omega)|intro _
        all_goals try omega
        all_goals exact cV rfl rfl (fin _ _)
      . rw[decide_eq_false h0];repeat' first|apply abx|apply aa|apply abr|apply aaL|apply acG|(apply afg;rfl)|(apply aeq;rfl;rfl)|(apply aeB;rfl;rfl)|(apply ahW;rfl;rfl;first|exact q1 _)|(apply aik;rfl;rfl;exact⟨rfl,by first|exact bj _|decide|(simp[overwrite]),rfl⟩;rfl)|(apply aes;rfl;rfl;rfl)|(apply abA;rfl;rfl)|(apply abC;rfl;rfl)|(intro _;omega)|intro _
        all_goals try omega
        all_goals exact cV rfl rfl (fin _ _)
 . refine⟨.agg [.bool false,.ah],⟨false,.ah,[],rfl,.inr ⟨rfl,rfl⟩,jr,kR,by cases neg <;> rfl,fun h=>by cases h⟩,?_⟩;have q1:=fun K=>CT.run (fi:=[]) (ca:=[]) (ars:=[.ah]) (ff _ _) (FM hft K)
   refine dH (by rw[hft];exact yN) ax ?_;unfold uh;simp only[enter];cases neg with
   | false=>
    repeat' first|apply abx|apply aa|apply abr|apply aaL|apply acG|(apply ahU;rfl)|(apply aeC;rfl;rfl)|(apply ahW;rfl;rfl;first|exact q1 _)|(apply aik;rfl;rfl;exact⟨rfl,by first|exact bj _|decide|(simp[overwrite]),rfl⟩;rfl)|(apply aes;rfl;rfl;rfl)|(apply abA;rfl;rfl)|(apply abC;rfl;rfl)
    all_goals try omega
    all_goals exact cV rfl rfl (.same rfl rfl)
   | true=>
    repeat' first|apply abx|apply aa|apply abr|apply aaL|apply acG|(apply afg;rfl)|(apply aeq;rfl;rfl)|(apply aeB;rfl;rfl)|(apply ahW;rfl;rfl;first|exact q1 _)|(apply aik;rfl;rfl;exact⟨rfl,by first|exact bj _|decide|(simp[overwrite]),rfl⟩;rfl)|(apply aes;rfl;rfl;rfl)|(apply abA;rfl;rfl)|(apply abC;rfl;rfl)|(intro _;omega)|intro _
    all_goals try omega
    all_goals exact cV rfl rfl (.same rfl rfl)
theorem da.ix {h:ab}{x:AV}{l:List Int}(hx:da x l):dL h x (.vs (aj l) l.length none):=by
 rcases hx with rfl|⟨rfl,rfl⟩
 . exact dL.pf (qP (fun _=>.cons (.atom rfl) .nil) l)
 . exact .nil
theorem cG.abs {v:AV}{z:Int}(h:cG v z)(lz:ak z<dB^N):∃neg x l,v = .agg [.bool neg,x]/\da x l/\okW dB l/\bg l/\l.length<=N/\z=cd neg (WV dB l)/\WV dB l=ak z/\(neg=true->l≠[]):=by
 obtain⟨neg,x,l,rfl,hx,ok,nr,hz,hn⟩:=h;have h0:=cX (b:=dB) ao ok;have e:WV dB l=ak z:=by
  rw[hz];unfold ak;cases neg with
  | false=>simp only[Bool.false_eq_true,↓reduceIte];rw[if_neg ac]
  | true=>simp only[↓reduceIte];split <;> omega
 exact⟨neg,x,l,rfl,hx,ok,nr,ib (b:=dB) ao ok nr (by rw[e];exact lz),hz,e,hn⟩
structure zD (M:ay):Prop where
 ft:M.FT=FT
 NJ:∀l m k1 k2,okW dB l->okW dB m->l.length<1000000->m.length<1000000->∃r,okW dB r/\WV dB r=WV dB l+WV dB m/\r.length<=l.length+m.length+1/\∀x y h,dL h x (.vs (aj l) l.length k1)->dL h y (.vs (aj m) m.length k2)->M.ext 233 [x,y] h=some ⟨.vs (aj r) r.length none,h,[]⟩
 FO:∀l m,okW dB l->okW dB m->bg l->bg m->l.length<1000000->m.length<1000000->WV dB m<=WV dB l->∃r,okW dB r/\bg r/\WV dB r=WV dB l-WV dB m/\∀x y h,da x l->da y m->M.ext 256 [x,y] h=some ⟨.vs (aj r) r.length none,h,[]⟩
 uv:∀l m x y h,okW dB l->okW dB m->bg l->bg m->l.length<1000000->m.length<1000000->da x l->da y m->M.ext 255 [x,y] h=some ⟨.iV (bE (WV dB l-WV dB m)),h,[]⟩
 rH:∀l m,okW dB l->okW dB m->l.length<1000000->m.length<1000000->∃r,okW dB r/\bg r/\WV dB r=WV dB l*WV dB m/\∀x y h,da x l->da y m->M.ext 257 [x,y] h=some ⟨.vs (aj r) r.length none,h,[]⟩
 lf:∀neg x l,da x l->okW dB l->l.length<1000000000->∃v0,cG v0 (cd neg (WV dB l))/\∀h,M.ext 183 [.bool neg,x] h=some ⟨v0,h,[]⟩
theorem cG.out {v:AV}{z:Int}{hh:ab}(h:cG v z):fG (bk [v]) hh v:=by
 obtain⟨neg,x,l,rfl,_,_,ht,hc⟩:=h.shape;refine .same ?_ ?_
 . show max 0 (max x.top 0)=0;rw[ht];rfl
 . show AV.agg [.bool neg,bS x]=_;rw[hc]
theorem ado (C:zD M){a:AV}{z:Int}(ha:cG a z)(lz:ak z<dB^N)(hN:N<=100000):∃v0,cG v0 (-z)/\dD M 254 [a] v0:=by
 obtain⟨neg,x,l,rfl,hx,ok,nr,ll,hz,_,_⟩:=ha.abs lz;obtain⟨v0,h0,q⟩:=C.lf (!neg) x l hx ok ac;have e:cd (!neg) (WV dB l) = -z:=by rw[hz];cases neg <;> simp[cd]
 rw[e]at h0;refine⟨v0,h0,dH (by rw[C.ft];exact acS) ax ?_⟩;have out:=fun hh=>h0.out (hh:=hh)
 obtain⟨n0,x0,l0,rfl,hx0,o0,_,_⟩:=h0.shape;unfold Nu;simp only[enter];cases neg;all_goals
 . rcases hx with rfl|⟨rfl,rfl⟩;all_goals
   . repeat' first|(apply aia;rfl;rfl;rfl;exact⟨rfl,bj _,jx o0⟩;rfl)|apply abx|apply aa|apply abr|apply aaL|apply acG|(apply adX;rfl;rfl;first|exact q _)|(apply aie;rfl;(first|(focus((repeat' first|exact cj|assumption|apply cB);done))|exact cQ ax);rfl)|(apply aes;rfl;rfl;rfl)|(apply abA;rfl;rfl)
     all_goals exact cV rfl rfl (out _)
theorem adp (C:zD M){a b:AV}{za zb:Int}(ha:cG a za)(hb:cG b zb)(la:ak za<dB^N)(lb:ak zb<dB^N)(hN:N<=100000):∃v0,cG v0 (za*zb)/\dD M 194 [a,b] v0:=by
 obtain⟨na,x,l,rfl,hx,ok,nr,ll,hz,_,_⟩:=ha.abs la;obtain⟨nb,y,m,rfl,hy,ok',nr',lm,hz',_,_⟩:=hb.abs lb;obtain⟨r,okr,nrr,vr,q257⟩:=C.rH l m ok ok' ac ac;have q257a:=fun h=>q257 x y h hx hy
 have hrl:r.length<=2*N:=ib (b:=dB) ao okr nrr (by
  have h1:=dU (b:=dB) ao ok;have h2:=dU (b:=dB) ao ok';have h3:=cX (b:=dB) ao ok;have h4:=cX (b:=dB) ao ok';have p1:dB^l.length<=dB^N:=iS ao ll;have p2:dB^m.length<=dB^N:=iS ao lm;rw[vr,show 2*N=N+N by omega,n4];have hp:(0:Int)<dB^N:=f6 ao;have a1:=be (show WV dB m<=dB^N by omega) h3;have a2:=d7 (show WV dB l<dB^N by omega) hp;omega)
 obtain⟨v0,h0,q183⟩:=C.lf (na != nb) _ r (.inl rfl) okr ac;have e:cd (na != nb) (WV dB r)=za*zb:=by
  rw[hz,hz',vr];cases na <;> cases nb <;> simp[cd,Int.neg_mul,Int.mul_neg]
 rw[e]at h0;refine⟨v0,h0,dH (by rw[C.ft];exact acT) ax ?_⟩;have out:=fun hh=>h0.out (hh:=hh)
 obtain⟨n0,x0,l0,rfl,hx0,o0,_,_⟩:=h0.shape;unfold Nv;simp only[enter];cases na;all_goals
 . cases nb;all_goals
   . rcases hx with rfl|⟨rfl,rfl⟩;all_goals
     . rcases hy with rfl|⟨rfl,rfl⟩;all_goals
       . repeat' first|(apply ahR;rfl;rfl;(first|(simp only[nca];rfl)|rfl);first|exact q257a _|exact q183 _)|(apply aia;rfl;rfl;rfl;exact⟨rfl,bj _,jx o0⟩;rfl)|(apply aie;rfl;(first|(focus((repeat' first|exact cj|assumption|apply cB);done))|exact cQ ax);rfl)|apply abx|apply aa|apply abr|apply aaL|apply acG|apply afU|apply agy|(apply ahl;rfl)|(apply ahb;rfl;rfl;(first|(simp only[nca];rfl)|rfl))|(apply ahY;rfl;(first|(simp only[nca];rfl)|rfl);(first|(simp only[nca];rfl)|rfl))|(apply aes;rfl;rfl;rfl)|(apply abA;rfl;rfl)
         all_goals exact cV rfl rfl (out _)
theorem adq {x y:Int}:(y<=x/\0<=bE (x-y))\/(x<y/\bE (x-y) = -1):=by
 unfold bE;by_cases h:x<y
 . exact .inr ⟨h,if_pos ac⟩
 . refine .inl ⟨ac,?_⟩;rw[if_neg ac];split <;> omega
theorem adr (C:zD M){a b:AV}{za zb:Int}(ha:cG a za)(hb:cG b zb)(la:ak za<dB^N)(lb:ak zb<dB^N)(hN:N<=100000):∃v0,cG v0 (za+zb)/\dD M 193 [a,b] v0:=by
 obtain⟨na,x,l,rfl,hx,ok,nr,ll,hz,_,_⟩:=ha.abs la;obtain⟨nb,y,m,rfl,hy,ok',nr',lm,hz',_,_⟩:=hb.abs lb;have q255:=fun h=>C.uv l m x y h ok ok' nr nr' ac ac hx hy
 have goal:∃v0,cG v0 (za+zb)/\((na=nb/\∃r:List Int,(∀h,M.ext 233 [x,y] h=some ⟨.vs (aj r) r.length none,h,[]⟩)/\∀h,M.ext 183 [.bool na,.vs (aj r) r.length none] h=some ⟨v0,h,[]⟩)
  \/ (na≠nb/\0<=bE (WV dB l-WV dB m)/\∃r:List Int,(∀h,M.ext 256 [x,y] h=some ⟨.vs (aj r) r.length none,h,[]⟩)/\∀h,M.ext 183 [.bool na,.vs (aj r) r.length none] h=some ⟨v0,h,[]⟩)
  \/ (na≠nb/\bE (WV dB l-WV dB m) = -1/\∃r:List Int,(∀h,M.ext 256 [y,x] h=some ⟨.vs (aj r) r.length none,h,[]⟩)/\∀h,M.ext 183 [.bool nb,.vs (aj r) r.length none] h=some ⟨v0,h,[]⟩)):=by
  by_cases hn:na=nb
  . subst hn;obtain⟨r,okr,vr,lr,q233⟩:=C.NJ l m none none ok ok' ac ac;obtain⟨v0,h0,q183⟩:=C.lf na _ r (.inl rfl) okr ac;refine⟨v0,?_,.inl ⟨rfl,r,fun h=>q233 x y h hx.ix hy.ix,q183⟩⟩;have e:cd na (WV dB r)=za+zb:=by rw[hz,hz',vr];cases na <;> simp[cd] <;> omega
    rw[e]at h0;exact h0
  . rcases adq (x:=WV dB l) (y:=WV dB m) with ⟨h1,h2⟩|⟨h1,h2⟩
    . obtain⟨r,okr,nrr,vr,q256⟩:=C.FO l m ok ok' nr nr' ac ac h1;have lr:r.length<=N:=ib (b:=dB) ao okr nrr (by
       have:=dU (b:=dB) ao ok;have:=cX (b:=dB) ao ok';have:dB^l.length<=dB^N:=iS ao ll;omega)
      obtain⟨v0,h0,q183⟩:=C.lf na _ r (.inl rfl) okr ac;refine⟨v0,?_,.inr (.inl ⟨hn,h2,r,fun h=>q256 x y h hx hy,q183⟩)⟩;have e:cd na (WV dB r)=za+zb:=by rw[hz,hz',vr];cases na <;> cases nb <;> simp[cd]at hn ⊢ <;> omega
      rw[e]at h0;exact h0
    . obtain⟨r,okr,nrr,vr,q256⟩:=C.FO m l ok' ok nr' nr ac ac ac;have lr:r.length<=N:=ib (b:=dB) ao okr nrr (by
       have:=dU (b:=dB) ao ok';have:=cX (b:=dB) ao ok;have:dB^m.length<=dB^N:=iS ao lm;omega)
      obtain⟨v0,h0,q183⟩:=C.lf nb _ r (.inl rfl) okr ac;refine⟨v0,?_,.inr (.inr ⟨hn,h2,r,fun h=>q256 y x h hy hx,q183⟩)⟩;have e:cd nb (WV dB r)=za+zb:=by rw[hz,hz',vr];cases na <;> cases nb <;> simp[cd]at hn ⊢ <;> omega
      rw[e]at h0;exact h0
 obtain⟨v0,h0,goal⟩:=goal;refine⟨v0,h0,dH (by rw[C.ft];exact acR) ax ?_⟩;have out:=fun hh=>h0.out (hh:=hh)
 obtain⟨n0,x0,l0,rfl,hx0,o0,_,_⟩:=h0.shape;clear ha hb hz hz' h0;generalize bE (WV dB l-WV dB m)=g at *
 have hxs:x = .vs (aj l) l.length none\/x = .ah:=by rcases hx with h|⟨h,_⟩ <;> simp[h]
 have hys:y = .vs (aj m) m.length none\/y = .ah:=by rcases hy with h|⟨h,_⟩ <;> simp[h]
 clear hx hy;unfold Nt;simp only[enter];rcases goal with ⟨rfl,r,qa,qb⟩|⟨hn,hg,r,qa,qb⟩|⟨hn,rfl,r,qa,qb⟩
 . cases na;all_goals
   . rcases hxs with rfl|rfl;all_goals
     . rcases hys with rfl|rfl;all_goals
       . repeat' first|(apply ahR;rfl;rfl;(first|(simp only[nca];rfl)|rfl);first|exact qa _|exact qb _)|(apply aia;rfl;rfl;rfl;exact⟨rfl,bj _,jx o0⟩;rfl)|(apply aie;rfl;(first|(focus((repeat' first|exact cj|assumption|apply cB);done))|exact cQ ax);rfl)|apply abx|apply aa|apply abr|apply aaL|apply acG|apply ba|apply afU|apply agy|(apply ahl;rfl)|(apply ahb;rfl;rfl;(first|(simp only[nca];rfl)|rfl))|(apply ahY;rfl;(first|(simp only[nca];rfl)|rfl);(first|(simp only[nca];rfl)|rfl))|(apply acO;rfl)|(apply aes;rfl;rfl;rfl)|(apply abA;rfl;rfl)
         all_goals exact cV rfl rfl (out _)
 . cases na;all_goals
   . cases nb;all_goals first|exact absurd rfl hn|skip
     all_goals
     . rcases hxs with rfl|rfl;all_goals
       . rcases hys with rfl|rfl;all_goals
         . repeat' first|(apply adX;rfl;rfl;first|exact q255 _|exact qa _|exact qb _)|(apply ahR;rfl;rfl;(first|(simp only[nca];rfl)|rfl);first|exact q255 _|exact qa _|exact qb _)|(apply aia;rfl;rfl;rfl;exact⟨rfl,bj _,jx o0⟩;rfl)|(apply aie;rfl;(first|(focus((repeat' first|exact cj|assumption|apply cB);done))|exact cQ ax);rfl)|apply abx|apply aa|apply abr|apply aaL|apply acG|apply adA|apply ba|apply afU|apply agy|(apply ahl;rfl)|(apply ahb;rfl;rfl;(first|(simp only[nca];rfl)|rfl))|(apply ahY;rfl;(first|(simp only[nca];rfl)|rfl);(first|(simp only[nca];rfl)|rfl))|(apply acO;rfl)|(apply acM;rfl)|(apply ahS;rfl;rfl)|(apply aes;rfl;rfl;rfl)|(apply abA;rfl;rfl)|(intro _;omega)|intro _
           all_goals try omega
           all_goals exact cV rfl rfl (out _)
 . cases na;all_goals
   . cases nb;all_goals first|exact absurd rfl hn|skip
     all_goals
     . rcases hxs with rfl|rfl;all_goals
       . rcases hys with rfl|rfl;all_goals
         . repeat' first|(apply adX;rfl;rfl;first|exact q255 _|exact qa _|exact qb _)|(apply ahR;rfl;rfl;(first|(simp only[nca];rfl)|rfl);first|exact q255 _|exact qa _|exact qb _)|(apply aia;rfl;rfl;rfl;exact⟨rfl,bj _,jx o0⟩;rfl)|(apply aie;rfl;(first|(focus((repeat' first|exact cj|assumption|apply cB);done))|exact cQ ax);rfl)|apply abx|apply aa|apply abr|apply aaL|apply acG|apply adA|apply afU|apply agy|(apply ahl;rfl)|(apply ahb;rfl;rfl;(first|(simp only[nca];rfl)|rfl))|(apply ahY;rfl;(first|(simp only[nca];rfl)|rfl);(first|(simp only[nca];rfl)|rfl))|(apply acM;rfl)|(apply ahS;rfl;rfl)|(apply aes;rfl;rfl;rfl)|(apply abA;rfl;rfl)|(intro _;omega)|intro _
           all_goals try omega
           all_goals exact cV rfl rfl (out _)
theorem ads (k n:Nat):gI (n/10^k%10)::dI k n=dI (k+1) n:=by
 refine La (by simp[nM]) fun j hj=>?_
 cases j with
 | zero=>rfl
 | succ j=>
  have e:(gI (n/10^k%10)::dI k n)[j+1]! = (dI k n)[j]! := by simp[cZ]
  rw[e,Er ac,show k+1-1-(j+1)=k-1-j by omega]
theorem adt {d:Nat}(h:d<10):(([48,49,50,51,52,53,54,55,56,57]:az).drop d).take (d+1-d)=[gI d]:=by
 match d,h with
 | 0,_=>rfl
 | 1,_=>rfl
 | 2,_=>rfl
 | 3,_=>rfl
 | 4,_=>rfl
 | 5,_=>rfl
 | 6,_=>rfl
 | 7,_=>rfl
 | 8,_=>rfl
 | 9,_=>rfl
theorem FP:(10:Nat)^19=10000000000000000000:=rfl
theorem NK (hft:M.FT=FT)(n L:Nat)(hn:n<9223372036854775808)(hL:1<=L/\L<=18):∃k,L<=k/\n<10^k/\(k=L\/10^(k-1)<=n)/\bm M 182 [.iV (n:Nat),.iV (L:Nat)] [] ⟨.str (dI k n),[],[]⟩:=by
 obtain⟨v,hh,⟨k,h1,h2,h3,rfl,rfl⟩,hr⟩:=iR (M:=M) (f:=182) (ars:=[.iV (n:Nat),.iV (L:Nat)]) (P:=fun v hh=>∃k,L<=k/\n<10^k/\(k=L\/10^(k-1)<=n)/\v = .str (dI k n)/\hh=[]) (by rw[hft];exact acV) ax (by
  unfold Ny;simp only[enter];repeat' first|apply abx|apply aa|apply abr|apply aaL|apply aef|(apply abC;rfl;rfl)
  refine W.ir (fun m st=>∃j lo wr,st=⟨⟨[.iV (n/10^j:Nat),.iV L,.str [],.str (dI j n)],lo,[],[]⟩,wr⟩/\m=20-j/\j<=20/\(j<=L\/10^(j-1)<=n)) (fun m st ⟨j,lo,wr,hst,hm,hj,hb⟩=>?_) (m:=20) ⟨0,[],[],by rw[Nat.pow_zero,Nat.div_one];rfl,rfl,ac,.inl ac⟩;subst hst;have hl:=nM j n;by_cases hgo:0<n/10^j\/j<L
  . have hj19:j<19:=by
     rcases j9 j 19 with h|h
     . exact h
     . exfalso;have p:(10:Nat)^19<=10^j:=gD ao h;rw[FP]at p;have:n/10^j=0:=n3 ac;omega
    have hd:n/10^j%10<10:=Nat.mod_lt _ ao;have ec:=adt hd;have ef:=ads j n;have eq:n/10^j/10=n/10^(j+1):=by rw[Nat.div_div_eq_div_mul,Nat.pow_succ]
    have hb':j+1<=L\/10^(j+1-1)<=n:=by
     rcases hgo with h|h
     . right;rw[m5];refine j6 fun h2=>?_
       rw[n3 h2]at h;omega
     . exact .inl h
    have hq:n/10^j<=n:=kO _ _;obtain⟨q,hqq⟩:∃q,q=n/10^j:=⟨_,rfl⟩;rw[←hqq]at hd ec ef eq hq hgo;rw[←hqq];generalize dI j n=s at *
    have e1:(((q:Nat):Int)%10).toNat=q%10:=by omega
    have e2:(((q:Nat):Int)%10+1).toNat=q%10+1:=by omega
    have ec':(([48,49,50,51,52,53,54,55,56,57]:az).drop (((q:Nat):Int)%10).toNat).take ((((q:Nat):Int)%10+1).toNat-(((q:Nat):Int)%10).toNat)=[gI (q%10)]:=by rw[e1,e2];exact ec
    have l1:([gI (q%10)]:az).length=1:=rfl;have fin:∀lo wr,LI (fun st=>∃m',m'<m/\∃j lo wr,st=⟨⟨[.iV (n/10^j:Nat),.iV L,.str [],.str (dI j n)],lo,[],[]⟩,wr⟩/\m'=20-j/\j<=20/\(j<=L\/10^(j-1)<=n))
     (BQ 0 (SQ M (zR [zm 24 3,zw 2 24] (.ret)) (fun e s=>(e = .normal\/e = .ret)/\s.s.cI=[]/\∃vs,dK s.s [.var (.p 2)]=some vs/\∃k,L<=k/\n<10^k/\(k=L\/10^(k-1)<=n)/\bk vs = .str (dI k n)/\(if (bk vs).top<=0 then [] else s.s.hp)=[])))
     .normal ⟨⟨[.iV (((q:Nat):Int)/10),.iV L,.str [],.str ([gI (q%10)]++s)],lo,[],[]⟩,wr⟩:=fun lo wr=>
     dQ ⟨20-(j+1),ac,j+1,lo,wr,by
      rw[←ef,←eq];rfl,rfl,ac,hb'⟩
    unfold FG;repeat' first|(apply ajE (r:=[gI (q%10)]);rfl;rfl;rfl;(simp only[de,cT];omega);exact ec')|(apply aiQ;rfl;rfl;omega;omega)|(apply aiR;rfl;rfl;omega;omega)|apply abx|apply aa|apply abr|apply aaL|apply aef|apply adA|apply bC|(apply acO;rfl)|(apply ahQ;rfl)|(apply aid;rfl)|(apply aep;rfl;rfl)|(apply aeq;rfl;rfl)|(apply aeB;rfl;rfl)|(apply aeC;rfl;rfl)|(apply aeX;rfl;rfl;omega)|(apply aiq;rfl;rfl;first|omega|(simp only[bA,de,cT];omega)|(simp;omega))|(apply abA;rfl;rfl)|(apply abC;rfl;rfl)|(intro _;omega)|intro _
    all_goals try omega
    all_goals exact fin _ _
  . have h0:n/10^j=0:=(jN _).resolve_right fun h=>hgo (.inl h)
    rw[h0];have hlt:n<10^j:=by
     refine Nat.lt_of_not_le fun h=>?_
     have:=Nat.div_pos h (Nat.pow_pos ao);omega
    have hk:j=L\/10^(j-1)<=n:=by omega
    unfold FG;repeat' first|apply abx|apply aa|apply abr|apply aaL|apply acG|apply aeM|apply bH|apply bJ|apply ck|(apply acM;rfl)|(apply ahQ;rfl)|(apply aep;rfl;rfl)|(apply aeq;rfl;rfl)|(apply aeC;rfl;rfl)|(apply abA;rfl;rfl)|(apply abC;rfl;rfl)|(intro _;omega)|intro _
    all_goals try omega
    all_goals exact⟨.inr rfl,rfl,_,rfl,j,ac,hlt,hk,rfl,rfl⟩)
 exact⟨k,h1,h2,h3,hr⟩
theorem adu (hft:M.FT=FT)(n:Nat)(hn:n<9223372036854775808):bm M 182 [.iV (n:Nat),.iV 1] [] ⟨.str (bw n),[],[]⟩:=by
 obtain⟨k,h1,h2,h3,hr⟩:=NK hft n 1 ac ao;obtain⟨k,rfl⟩:∃j,k=j+1:=⟨k-1,ac⟩;rw[m5]at h3;rw[Es h2 ac];exact hr
theorem adv (hft:M.FT=FT)(n:Nat)(hn:n<1000000000):bm M 182 [.iV (n:Nat),.iV 9] [] ⟨.str (dI 9 n),[],[]⟩:=by
 obtain⟨k,h1,h2,h3,hr⟩:=NK hft n 9 ac ao;have:k=9:=by
  rcases h3 with h|h
  . exact h
  . refine Nat.le_antisymm (j6 fun h9=>?_) h1;have p:(10:Nat)^9<=10^(k-1):=gD ao ac;have e:(10:Nat)^9=1000000000:=rfl;omega
 subst this;exact hr
structure NL (M:ay):Prop where
 ft:M.FT=FT
 NM:∀(n:Nat) h,n<1000000000->M.ext 182 [.iV (n:Nat),.iV 1] h=some ⟨.str (bw n),h,[]⟩
 NN:∀(n:Nat) h,n<1000000000->M.ext 182 [.iV (n:Nat),.iV 9] h=some ⟨.str (dI 9 n),h,[]⟩
theorem NO {x:Int}(h:0<=x/\x<1000000000):∃n:Nat,x=(n:Int)/\n<1000000000:=⟨x.toNat,ac,ac⟩
theorem adw (C:NL M){a:AV}{z:Int}(ha:cG a z)(lz:ak z<dB^N)(hN:N<=100000):bm M 129 [a] [] ⟨.str (cY z),[],[]⟩:=by
 obtain⟨neg,x,l,rfl,hx,ok,nr,ll,hz,hv,hnn⟩:=ha.abs lz;by_cases h0:l=[]
 . subst h0;have hneg:neg=false:=by
    cases neg with
    | false=>rfl
    | true=>exact absurd rfl (hnn rfl)
   subst hneg;have z0:z=0:=by rw[hz];rfl
   subst z0;have e0:cY 0=[48]:=by rw[nO ao];exact kn ao
   rw[e0];refine bX (by rw[C.ft];exact Nz) ax ?_;have hl0:([]:List Int).length=0:=rfl;unfold FH;simp only[enter];rcases hx with rfl|⟨rfl,_⟩;all_goals
   . repeat' first|apply abx|apply aa|apply abr|apply aaL|apply acG|apply ba|(apply acO;rfl)|(apply afe;rfl;rfl)|(apply aie;rfl;(first|(focus((repeat' first|exact cj|assumption|apply cB);done))|exact cQ ax);rfl)|(apply aes;rfl;rfl;rfl)|(apply abA;rfl;rfl)|(apply abC;rfl;rfl)|(intro _;omega)|intro _
     all_goals try omega
     all_goals exact⟨.inr rfl,rfl,_,rfl,rfl,rfl⟩
 . obtain rfl:x = .vs (aj l) l.length none:=hx.resolve_right fun h=>h0 h.2
   have hl0:0<l.length:=cP.2 h0;have hzs:cY z=(if neg then 45::bw (WV dB l).toNat else bw (WV dB l).toNat):=by
    have hp:=(jP (b:=dB) ao ok nr).2 h0;rw[hz];cases neg with
    | false=>
     have e:cd false (WV dB l)=WV dB l:=rfl;rw[e,nO ac,fC ac];rfl
    | true=>
     have e:cd true (WV dB l) = -WV dB l:=rfl;rw[e,pD ac,kj,fC ac];rfl
   have dlen:∀k,k<=l.length->(bw (WV dB (l.drop (l.length-k))).toNat).length<=9*k+1:=fun k hk=>by
    refine yh (k:=9*k+1) ?_ ac;have h1:=dU (b:=dB) ao (jO ok (l.length-k));have h2:=cX (b:=dB) ao (jO ok (l.length-k));rw[d9,show l.length-(l.length-k)=k by omega,←MN]at h1;have:(10:Nat)^(9*k+1)=10^(9*k)*10:=Nat.pow_succ ..;omega
   have hlast:=(DA hl0).1 nr;have gl:=cL ok (i:=l.length-1) ac;have gl:0<=l[l.length-1]! /\ l[l.length-1]! < 1000000000:=gl;obtain⟨n0,hn0,hn0l⟩:=NO gl;have eIl:(((l.length:Int))-1).toNat=l.length-1:=by omega
   have q1:∀h,M.ext 182 [.iV l[(((l.length:Int))-1).toNat]!,.iV 1] h=some ⟨.str (bw n0),h,[]⟩:=fun h=>by rw[eIl,hn0];exact C.NM n0 h hn0l
   have ed0:(WV dB (l.drop (l.length-1))).toNat=n0:=by
    rw[eL (show l.length-1<l.length by omega),show l.length-1+1=l.length by omega,j5,←getElem!_pos l (l.length-1) ac,hn0];simp[WV]
   refine bX (by rw[C.ft];exact Nz) ax ?_;unfold FH;simp only[enter];repeat' first|apply abx|apply aa|apply abr|apply aaL|apply aef|apply adA|(apply acM;rfl)|(apply afe;rfl;rfl)|(apply afS;rfl;rfl;omega)|(apply adX;rfl;rfl;first|exact q1 _)|(apply aie;rfl;(first|(focus((repeat' first|exact cj|assumption|apply cB);done))|exact cQ ax);rfl)|(apply ahT;rfl;rfl;omega)|(apply aib;rfl;exact fun _=>rfl;(first|omega|(simp only[br];omega)|(simp;omega));decide;rfl;case ia=>infer_instance)|(apply aes;rfl;rfl;rfl)|(apply abA;rfl;rfl)|(apply abC;rfl;rfl)|(intro _;omega)|intro _
   all_goals try omega
   refine W.ir (fun m st=>∃k lo wr,st=⟨⟨[.agg [.bool neg,.vs (aj l) l.length none],.ptr 0 0,.str [],.str (bw (WV dB (l.drop (l.length-k))).toNat),.iV ((l.length:Int)-1-(k:Nat))],lo,[some (.cells [.bool neg,.vs (aj l) l.length none] 200)],[]⟩,wr⟩/\m=l.length-k/\1<=k/\k<=l.length) (fun m st ⟨k,lo,wr,hst,hm,hk1,hk⟩=>?_) (m:=l.length-1) ⟨1,_,_,by rw[ed0,show (l.length:Int)-1-((1:Nat):Int)=(l.length:Int)-2 by omega];rfl,rfl,ac,ac⟩;subst hst;have dk:=dlen k hk;by_cases hend:k=l.length
   . subst hend;have e0:l.drop (l.length-l.length)=l:=by rw[Nat.sub_self,k9]
     rw[e0]at dk ⊢;have l45:([45]:az).length=1:=rfl;rw[hzs];generalize bw (WV dB l).toNat=s0 at *
     cases neg with
     | true=>
      unfold zA;repeat' first|apply abx|apply aa|apply abr|apply aaL|apply acG|apply aeM|apply ba|apply bH|apply bJ|apply ck|(apply acO;rfl)|(apply acM;rfl)|(apply ahS;rfl;rfl)|(apply aiq;rfl;rfl;first|omega|(simp only[bA,de,cT];omega)|(simp;omega))|(apply aev;rfl;rfl;rfl)|(apply abA;rfl;rfl)|(apply abC;rfl;rfl)|(intro _;omega)|intro _
      all_goals try omega
      all_goals exact⟨.inr rfl,rfl,_,rfl,rfl,rfl⟩
     | false=>
      unfold zA;repeat' first|apply abx|apply aa|apply abr|apply aaL|apply acG|apply aeM|apply adA|apply bH|apply bJ|apply ck|(apply acM;rfl)|(apply ahS;rfl;rfl)|(apply aev;rfl;rfl;rfl)|(apply abA;rfl;rfl)|(apply abC;rfl;rfl)|(intro _;omega)|intro _
      all_goals try omega
      all_goals exact⟨.inr rfl,rfl,_,rfl,rfl,rfl⟩
   . have gi:=cL ok (i:=l.length-1-k) ac;have gi:0<=l[l.length-1-k]! /\ l[l.length-1-k]! < 1000000000:=gi;obtain⟨ni,hni,hnil⟩:=NO gi;have eIi:(((l.length:Int))-1-(k:Nat)).toNat=l.length-1-k:=by omega
     have q2:∀h,M.ext 182 [.iV l[(((l.length:Int))-1-(k:Nat)).toNat]!,.iV 9] h=some ⟨.str (dI 9 ni),h,[]⟩:=fun h=>by rw[eIi,hni];exact C.NN ni h hnil
     have hnext:bw (WV dB (l.drop (l.length-(k+1)))).toNat=bw (WV dB (l.drop (l.length-k))).toNat++dI 9 ni:=by
      have e1:l.drop (l.length-(k+1))=(ni:Int)::l.drop (l.length-k):=by
       rw[eL (show l.length-(k+1)<l.length by omega),←getElem!_pos l (l.length-(k+1)) ac,show l.length-(k+1)=l.length-1-k by omega,hni,show l.length-1-k+1=l.length-k by omega]
      have h0:=cX (b:=dB) ao (jO ok (l.length-k));have hp:0<WV dB (l.drop (l.length-k)):=by
       refine(jP (b:=dB) ao (jO ok _) ?_).2 (fun e=>?_)
       . refine(DA (by rw[d9];omega)).2 ?_;rw[d9,cZ,l9,show l.length-k+(l.length-(l.length-k)-1)=l.length-1 by omega,←cZ];exact hlast
       . have:=congrArg j0 e;rw[d9,cT]at this;omega
      obtain⟨A,hA⟩:∃A:Nat,WV dB (l.drop (l.length-k))=(A:Int):=⟨_,(Int.toNat_of_nonneg h0).symm⟩;have e2:WV dB ((ni:Int)::l.drop (l.length-k))=((A*10^9+ni:Nat):Int):=by
       show (ni:Int)+dB*WV dB (l.drop (l.length-k))=_;rw[hA];show (ni:Int)+1000000000*A=_;omega
      rw[e1,e2,hA,fY,fY];exact Lb ac (by show ni<1000000000;exact hnil)
     have hl9:=nM 9 ni;generalize bw (WV dB (l.drop (l.length-k))).toNat=s0 at *
     generalize dI 9 ni=s9 at *
     have next:∀lo wr Q,LI (fun st=>∃m',m'<m/\∃k lo wr,st=⟨⟨[.agg [.bool neg,.vs (aj l) l.length none],.ptr 0 0,.str [],.str (bw (WV dB (l.drop (l.length-k))).toNat),.iV ((l.length:Int)-1-(k:Nat))],lo,[some (.cells [.bool neg,.vs (aj l) l.length none] 200)],[]⟩,wr⟩/\m'=l.length-k/\1<=k/\k<=l.length) Q .normal ⟨⟨[.agg [.bool neg,.vs (aj l) l.length none],.ptr 0 0,.str [],.str (s0++s9),.iV ((l.length:Int)-1-(k:Nat)-1)],lo,[some (.cells [.bool neg,.vs (aj l) l.length none] 200)],[]⟩,wr⟩:=fun lo wr Q=>
      dQ ⟨l.length-(k+1),ac,k+1,lo,wr,by rw[hnext,show (l.length:Int)-1-((k+1:Nat):Int)=(l.length:Int)-1-(k:Nat)-1 by omega],rfl,ac,ac⟩
     unfold zA;repeat' first|apply abx|apply aa|apply abr|apply aaL|apply aef|apply adA|apply bC|(apply acO;rfl)|(apply ahS;rfl;rfl)|(apply afS;rfl;rfl;omega)|(apply aiq;rfl;rfl;first|omega|(simp only[bA,de,cT];omega)|(simp;omega))|(apply adX;rfl;rfl;first|exact q2 _)|(apply ahT;rfl;rfl;omega)|(apply aib;rfl;exact fun _=>rfl;(first|omega|(simp only[br];omega)|(simp;omega));decide;rfl;case ia=>infer_instance)|(apply aev;rfl;rfl;rfl)|(apply abA;rfl;rfl)|(apply abC;rfl;rfl)|(intro _;omega)|intro _
     all_goals try omega
     all_goals exact next _ _ _
section
variable {t:Nat} {x y:aZ} {l:List bz} {pe:List AV} {lo:List (Nat×AV)} {df wr:List Nat} {v a d:Int} {Q:au->Prop}
theorem ajt (hx:(St.mk pe lo hp df).ae x=some (.iV a))(hy:(St.mk pe lo hp df).ae y=some (.iV d))(ha : -9223372036854775808<=a/\a<9223372036854775808)(hd:0<d)(hv:a.tdiv d=v)
 (h:WO M l ⟨⟨pe,(t,.iV v)::lo,hp,df⟩,wr⟩ Q):WO M (⟨.l t,.bin .quo x y,none⟩::l) ⟨⟨pe,lo,hp,df⟩,wr⟩ Q:=aiV hx hy hd ha (by rw[hv];exact h)
theorem ajA (hx:(St.mk pe lo hp df).ae x=some (.iV a))(hy:(St.mk pe lo hp df).ae y=some (.iV d))(hd:0<d)(hv:a.tmod d=v)
 (h:WO M l ⟨⟨pe,(t,.iV v)::lo,hp,df⟩,wr⟩ Q):WO M (⟨.l t,.bin .rem x y,none⟩::l) ⟨⟨pe,lo,hp,df⟩,wr⟩ Q:=ais hx hy ac (by rw[hv];exact h)
end
theorem adx {neg:Bool}{m:Int}(h:0<=m):(cd neg m).tmod 1000000000=cd neg (m%1000000000):=by
 cases neg with
 | false=>exact g9 h
 | true=>show (-m).tmod _=_;rw[Int.neg_tmod,g9 h];rfl
theorem ady {neg:Bool}{m:Int}(h:0<=m):(cd neg m).tdiv 1000000000=cd neg (m/1000000000):=by
 cases neg with
 | false=>exact gT h
 | true=>show (-m).tdiv _=_;rw[Int.neg_tdiv,gT h];rfl
theorem adz (hft:M.FT=FT)(ff:∀ars h,M.ext 236 ars h=none)(neg:Bool)(K:ab):bm M 183 [.bool neg,.ah] K ⟨.agg [.bool false,.ah],K,[]⟩:=by
 have q1:=fun K=>CT.run (fi:=[]) (ca:=[]) (ars:=[.ah]) (ff _ _) (FM hft K)
 refine nt (by rw[hft];exact yN) ax (by simp[AV.top,bO]) ?_;unfold uh;simp only[enter];cases neg with
 | false=>
  repeat' first|(apply aik;rfl;rfl;exact⟨rfl,by first|exact bj _|decide|(simp[overwrite]),rfl⟩;rfl)|apply abx|apply aa|apply abr|apply aaL|apply acG|(apply ahU;rfl)|(apply aeC;rfl;rfl)|(apply ahW;rfl;rfl;first|exact q1 _)|(apply aes;rfl;rfl;rfl)|(apply abA;rfl;rfl)|(apply abC;rfl;rfl)
  all_goals try omega
  all_goals exact⟨.inr rfl,rfl,⟨_,rfl⟩,ax,_,pL rfl cj,rfl⟩
 | true=>
  repeat' first|(apply aik;rfl;rfl;exact⟨rfl,by first|exact bj _|decide|(simp[overwrite]),rfl⟩;rfl)|apply abx|apply aa|apply abr|apply aaL|apply acG|(apply afg;rfl)|(apply aeq;rfl;rfl)|(apply aeB;rfl;rfl)|(apply ahW;rfl;rfl;first|exact q1 _)|(apply aes;rfl;rfl;rfl)|(apply abA;rfl;rfl)|(apply abC;rfl;rfl)|(intro _;omega)|intro _
  all_goals try omega
  all_goals exact⟨.inr rfl,rfl,⟨_,rfl⟩,ax,_,pL rfl cj,rfl⟩
structure CWh (M:ay):Prop where
 ft:M.FT=FT
 ff:∀ars h,M.ext 236 ars h=none
 ur:∀ars h,M.ext 183 ars h=none
theorem NQ:(dB:Int)^3=1000000000000000000000000000:=by decide
theorem adB (C:CWh M)(n:Int)(hn : -9223372036854775808<=n/\n<9223372036854775808):∃v0,cG v0 n/\dD M 130 [.iV n] v0:=by
 obtain⟨neg,m0,hm0,rfl,hneg⟩:∃(neg:Bool) (m:Int),0<=m/\n=cd neg m/\neg=decide (n<0):=by
  by_cases h:n<0
  . exact⟨true,-n,ac,by show n = - -n;omega,(decide_eq_true h).symm⟩
  . exact⟨false,n,ac,rfl,(decide_eq_false h).symm⟩
 have hmb:m0<=9223372036854775808:=by cases neg <;> simp[cd]at hn <;> omega
 obtain⟨v,hh,⟨v0,h0,ho⟩,hr⟩:=iR (M:=M) (f:=130) (ars:=[.iV (cd neg m0)]) (P:=fun v hh=>∃v0,cG v0 (cd neg m0)/\fG v hh v0) (by rw[C.ft];exact abK) ax (by
  have start:∀(Q:Ex->au->Prop),(∀lo wr,W M (.loop rE) ⟨⟨[.iV (cd neg m0),.ptr 0 0,.ah,.bool neg,cM],lo,[some (.cells [.bool false,.ah] 200)],[]⟩,wr⟩ (BQ 0 (SQ M (zR [zm 22 3,
   zm 23 2,
   z2 24 183 22 23,
   zs 2 1 24]
   (.ret)) Q)))->W M EZ ⟨⟨[.iV (cd neg m0),cM,cM,cM,cM],[],[],[]⟩,[]⟩ Q:=fun Q hQ=>by
   unfold EZ;cases neg with
   | true=>
    have h1:cd true m0<0:=of_decide_eq_true hneg.symm;generalize cd true m0=z at *
    repeat' first|apply abx|apply aa|apply abr|apply aaL|apply aef|(apply aep;rfl;rfl)|(apply aes;rfl;rfl;rfl)|(apply abA;rfl;rfl)|(apply abC;rfl;rfl)|(intro _;omega)|intro _
    all_goals try omega
    all_goals exact hQ _ _
   | false=>
    have h1:¬cd false m0<0:=of_decide_eq_false hneg.symm;generalize cd false m0=z at *
    repeat' first|apply abx|apply aa|apply abr|apply aaL|apply aef|(apply aep;rfl;rfl)|(apply aes;rfl;rfl;rfl)|(apply abA;rfl;rfl)|(apply abC;rfl;rfl)|(intro _;omega)|intro _
    all_goals try omega
    all_goals exact hQ _ _
  simp only[enter];refine start _ fun lo wr=>?_
  refine W.ir (fun k st=>∃m acc o a4 K lo wr,st=⟨⟨[.iV (cd neg m),.ptr 0 0,o,.bool neg,a4],lo,K,[]⟩,wr⟩/\0<=m/\k=m.toNat/\m<=m0/\(acc=[]->o = .ah)/\acc.length<=3/\m<dB^(3-acc.length)/\okW dB acc/\WV dB acc+dB^acc.length*m=m0/\cU iC 1 3 K o acc [0]/\K.at 0=some (.cells [.bool false,.ah] 200))
   (fun k st ⟨m,acc,o,a4,K,lo,wr,hst,hm,hk,hmx,hnil,hla,hlt,oA,hv,ho,hK⟩=>?_) (m:=m0.toNat) ⟨m0,[],.ah,_,_,_,_,rfl,hm0,rfl,Int.le_refl _,fun _=>rfl,ax,by show m0<dB^3;rw[NQ];omega,jr,by simp[WV],.nu,rfl⟩
  subst hst;have hK1:=gS hK;by_cases hz:m=0
  . subst hz;have e0:cd neg 0=0:=by cases neg <;> rfl
    rw[e0];rw[dc,d6]at hv;rcases ho with ⟨rfl,rfl⟩|⟨c,cp,hc0,rfl,hc,hcap⟩
    . have q:=fun K=>CT.run (fi:=[]) (ca:=[]) (ars:=[.bool neg,.ah]) (C.ur _ _) (adz C.ft C.ff neg K)
      have z0:m0=0:=by rw[←hv];rfl
      subst z0;have out:∃v0,cG v0 (cd neg 0)/\∀hh,fG (.agg [.bool false,.ah]) hh v0:=⟨_,⟨false,.ah,[],rfl,.inr ⟨rfl,rfl⟩,jr,kR,by rw[e0];rfl,fun h=>by cases h⟩,fun hh=>.same rfl rfl⟩;obtain⟨v0,k0,out⟩:=out;unfold rE;repeat' first|(apply aia;rfl;rfl;exact hK;exact⟨rfl,bj _,rfl⟩;rfl)|apply abx|apply aa|apply abr|apply aaL|apply acG|apply aeM|apply bH|apply bJ|apply ck|(apply acM;rfl)|(apply agx;rfl;rfl)|(apply ahW;rfl;rfl;first|exact q _)|(apply abA;rfl;rfl)|(intro _;omega)|intro _
      all_goals try omega
      all_goals exact⟨.inr rfl,rfl,_,pL rfl (cQ hK1),v0,k0,out _⟩
    . have hpos:0<acc.length\/acc.length=0:=by omega
      rcases hpos with hp|hp
      . obtain rfl:cp=none:=hcap.resolve_right fun h=>by rw[h.1]at hp;simp at hp
        have q183:=CT.run (fi:=[]) (ca:=[]) (ars:=[.bool neg,.sl c 0 acc.length 1 none]) (C.ur _ _) (MM (cap:=none) C.ft C.ff neg hc hp (bj _) ac (fun _ h=>by cases h));have hcn:c≠0:=fun e=>hc0 (by simp[e])
        obtain⟨v0,k0,o0⟩:=MO (K:=K.put 0 (some (.cells [.bool (neg && decide (0<bh (acc.take acc.length))),bY c (bh (acc.take acc.length)) none] 200))) (neg:=neg) (wC hcn hc) oA;have k0:=k0.uq;rw[hv]at k0;have hone:dx (bY c (bh (acc.take acc.length)) none)=true:=by unfold bY;split <;> rfl
        unfold rE;repeat' first|(apply aia;rfl;rfl;exact hK;exact⟨rfl,bj _,by rw[gc,gc,m9,hone];rfl⟩;rfl)|apply abx|apply aa|apply abr|apply aaL|apply acG|apply aeM|apply bH|apply bJ|apply ck|(apply acM;rfl)|(apply agx;rfl;rfl)|(apply ahW;rfl;rfl;first|exact q183)|(apply abA;rfl;rfl)|(intro _;omega)|intro _
        all_goals try omega
        all_goals exact⟨.inr rfl,rfl,_,pL rfl (cQ hK1),v0,k0,o0⟩
      . have ha:acc=[]:=du hp;have:=hnil ha;cases this
  . have hm1:1<=m:=by omega
    have hl2:acc.length<=2:=by
     refine j6 fun h=>?_
     have:acc.length=3:=by omega
     rw[this]at hlt;simp at hlt;omega
    have hmod:=adx (neg:=neg) hm;have hdiv:=ady (neg:=neg) hm;obtain⟨r,hr⟩:∃r,r=m%1000000000:=⟨_,rfl⟩;obtain⟨q,hq⟩:∃q,q=m/1000000000:=⟨_,rfl⟩;rw[←hr]at hmod;rw[←hq]at hdiv;have hroom:(acc.length+1)*8<=fa:=by unfold fa;omega
    have hnz:cd neg m≠0:=by cases neg <;> simp[cd] <;> omega
    have hrange : -9223372036854775808<=cd neg m/\cd neg m<9223372036854775808:=by
     cases neg <;> simp[cd]at hn ⊢ <;> omega
    have next:∀(o':AV) H a4 lo wr Q,cU iC 1 3 H o' (acc++[r]) [0]->H.at 0=some (.cells [.bool false,.ah] 200)->LI (fun st=>∃k',k'<k/\∃m acc o a4 K lo wr,st=⟨⟨[.iV (cd neg m),.ptr 0 0,o,.bool neg,a4],lo,K,[]⟩,wr⟩/\0<=m/\k'=m.toNat/\m<=m0/\(acc=[]->o = .ah)/\acc.length<=3/\m<dB^(3-acc.length)/\okW dB acc/\WV dB acc+dB^acc.length*m=m0/\cU iC 1 3 K o acc [0]/\K.at 0=some (.cells [.bool false,.ah] 200)) Q .normal ⟨⟨[.iV (cd neg q),.ptr 0 0,o',.bool neg,a4],lo,H,[]⟩,wr⟩:=fun o' H a4 lo wr Q ho' hH=>
     dQ ⟨q.toNat,ac,q,acc++[r],o',a4,H,lo,wr,rfl,ac,rfl,ac,fun h=>by simp at h,by simp;omega,by
      have e:dB^(3-acc.length)=dB^(3-(acc++[r]).length)*dB:=by
       rw[←cD,bA,eA];congr 1;omega
      rw[e]at hlt;rw[hq];exact i9 ao hlt,ki oA (fun z hz=>by rw[ce.1 hz];exact⟨ac,by show _<(1000000000:Int);omega⟩),by
      rw[gE,bA,eA,cD,←hv];have e1:WV dB [r]=r:=by simp[WV]
      have e2:m=r+1000000000*q:=by omega
      rw[e1,e2];show WV dB acc+dB^acc.length*r+dB^acc.length*1000000000*q=_;grind,ho',hH⟩
    have hr9:0<=r/\r<1000000000:=by omega
    have fin:∀rv,rv=r->∀(o':AV) H a4 lo wr Q,cU iC 1 3 H o' (acc++[rv]) [0]->H.at 0=some (.cells [.bool false,.ah] 200)->LI (fun st=>∃k',k'<k/\∃m acc o a4 K lo wr,st=⟨⟨[.iV (cd neg m),.ptr 0 0,o,.bool neg,a4],lo,K,[]⟩,wr⟩/\0<=m/\k'=m.toNat/\m<=m0/\(acc=[]->o = .ah)/\acc.length<=3/\m<dB^(3-acc.length)/\okW dB acc/\WV dB acc+dB^acc.length*m=m0/\cU iC 1 3 K o acc [0]/\K.at 0=some (.cells [.bool false,.ah] 200)) Q .normal ⟨⟨[.iV (cd neg q),.ptr 0 0,o',.bool neg,a4],lo,H,[]⟩,wr⟩:=fun rv e=>by subst e;exact next
    clear next
    obtain⟨d,hd⟩:∃d,d=cd neg r:=⟨_,rfl⟩;rw[←hd]at hmod;by_cases hdn:d<0
    . have e:0-d=r:=by cases neg <;> simp[cd]at hd <;> omega
      unfold rE;repeat' first|(apply ajA (v:=d);rfl;rfl;omega;exact hmod)|(apply ajt (v:=cd neg q);rfl;rfl;exact hrange;omega;exact hdiv)|(refine cU.app (f:=iC) (m:=[0-d]) (S:=[0]) (fun _=>rfl) (fun _=>rfl) ao (ho.grow [_]) ax rfl rfl (Sl.ke (f:=iC) (esz:=1) (l:=[0-d]) (e:=3) (fun _=>rfl) cj rfl) hroom (fun H w' o' ho' hk hlen=>?_))|apply abx|apply aa|apply abr|apply aaL|apply aef|apply adA|apply bC|(apply acO;rfl)|(apply aep;rfl;rfl)|(apply agx;rfl;rfl)|(apply afS;rfl;rfl;omega)|(apply aev;rfl;rfl;rfl)|(apply abA;rfl;rfl)|(apply abC;rfl;rfl)|(intro _;omega)|intro _
      all_goals try omega
      all_goals exact fin _ e _ _ _ _ _ _ ho' (hk 0 _ ax (cB hK))
    . have e:d=r:=by cases neg <;> simp[cd]at hd <;> omega
      unfold rE;repeat' first|(apply ajA (v:=d);rfl;rfl;omega;exact hmod)|(apply ajt (v:=cd neg q);rfl;rfl;exact hrange;omega;exact hdiv)|(refine cU.app (f:=iC) (m:=[d]) (S:=[0]) (fun _=>rfl) (fun _=>rfl) ao (ho.grow [_]) ax rfl rfl (Sl.ke (f:=iC) (esz:=1) (l:=[d]) (e:=3) (fun _=>rfl) cj rfl) hroom (fun H w' o' ho' hk hlen=>?_))|apply abx|apply aa|apply abr|apply aaL|apply aef|apply adA|apply bC|(apply acO;rfl)|(apply acM;rfl)|(apply aep;rfl;rfl)|(apply agx;rfl;rfl)|(apply aev;rfl;rfl;rfl)|(apply abA;rfl;rfl)|(apply abC;rfl;rfl)|(intro _;omega)|intro _
      all_goals try omega
      all_goals exact fin _ e _ _ _ _ _ _ ho' (hk 0 _ ax (cB hK)))
 exact⟨v0,h0,v,hh,ho,hr⟩
theorem adC (hft:M.FT=FT)(b:List Int)(q255:∀h,M.ext 255 [.ah,.vs (aj b) b.length c2] h=some ⟨.iV (-1),h,[]⟩):bm M 224 [.ah,.vs (aj b) b.length c2] [] ⟨.aw [.ah,.ah],[],[]⟩:=by
 refine bX (by rw[hft];exact MB) ax ?_;unfold Fb;simp only[enter];repeat' first|apply abx|apply aa|apply abr|apply aaL|apply acG|apply ba|(apply acO;rfl)|(apply aep;rfl;rfl)|(apply adX;rfl;rfl;first|exact q255 _)|(apply abA;rfl;rfl)|(apply abC;rfl;rfl)|(intro _;omega)|intro _
 all_goals try omega
 all_goals exact⟨.inr rfl,rfl,_,rfl,rfl,rfl⟩
structure NR (M:ay):Prop where
 ft:M.FT=FT
 lW:∀(x:AV) (a b:List Int),da x a->okW dB a->okW dB b->bg a->bg b->a.length<100000->b.length<100000->b≠[]->∃qv q rv r,da qv q/\da rv r/\okW dB q/\bg q/\okW dB r/\bg r/\WV dB q=WV dB a/WV dB b/\WV dB r=WV dB a%WV dB b/\∀h,M.ext 224 [x,.vs (aj b) b.length none] h=some ⟨.aw [qv,rv],h,[]⟩
theorem adD (C:NR M){x y:AV}(a b:List Int)(hx:da x a)(hy:da y b)(oa:okW dB a)(ob:okW dB b)(na:bg a)(nb:bg b)(la:a.length<100000)(lb:b.length<100000) :
 ∃gv g,da gv g/\okW dB g/\bg g/\WV dB g=(c5 (WV dB a) (WV dB b):Nat)/\g.length<100000/\dD M 171 [x,y] gv:=by
 obtain⟨v,hh,⟨gv,g,ig,og,ng,vg,lg,ho⟩,hr⟩:=iR (M:=M) (f:=171) (ars:=[x,y]) (P:=fun v hh=>∃gv g,da gv g/\okW dB g/\bg g/\WV dB g=(c5 (WV dB a) (WV dB b):Nat)/\g.length<100000/\fG v hh gv) (by rw[C.ft];exact MA) ax (by
  unfold Fa;simp only[enter];repeat' first|apply abx|apply aa|apply abr|apply aaL|apply aef|(apply abC;rfl;rfl)
  refine W.ir (fun m st=>∃A B xA y a3 lo wr,st=⟨⟨[xA,y,.ah,a3],lo,[],[]⟩,wr⟩/\da xA A/\da y B/\m=(WV dB B).toNat/\okW dB A/\bg A/\A.length<100000/\okW dB B/\bg B/\B.length<100000/\c5 (WV dB A) (WV dB B)=c5 (WV dB a) (WV dB b))
   (fun m st ⟨A,B,xA,y,a3,lo,wr,hst,hxA,hy,hm,oA,nA,lA,oB,nB,lB,hg⟩=>?_) (m:=(WV dB b).toNat) ⟨a,b,x,y,_,_,_,rfl,hx,hy,rfl,oa,na,la,ob,nb,lb,rfl⟩
  subst hst;by_cases hB:B=[]
  . subst hB;have hl0:([]:List Int).length=0:=rfl;obtain⟨_,t1,k1⟩:=uu xA hxA;have fin:fG (bk [xA]) (if (bk [xA]).top<=0 then [] else []) xA:=.same t1 k1;have hv:WV dB A=(c5 (WV dB a) (WV dB b):Nat):=by
     rw[←hg];have:=cX (b:=dB) ao oA;show WV dB A=(c5 (WV dB A) 0:Nat);rw[mp];omega
    rcases hy with rfl|⟨rfl,_⟩;all_goals
    . unfold uj;repeat' first|apply abx|apply aa|apply abr|apply aaL|apply acG|apply aeM|apply bH|apply bJ|apply ck|(apply acM;rfl)|(apply aeq;rfl;rfl)|(apply abA;rfl;rfl)|(apply abC;rfl;rfl)|(intro _;omega)|intro _
      all_goals try omega
      all_goals exact⟨.inr rfl,rfl,_,rfl,xA,A,hxA,oA,nA,hv,lA,fin⟩
  . obtain rfl:y = .vs (aj B) B.length none:=hy.resolve_right fun h=>hB h.2
    have hBl:0<B.length:=cP.2 hB;have hBp:=(jP (b:=dB) ao oB nB).2 hB;have hA0:=cX (b:=dB) ao oA;obtain⟨qv,q,rv,r,hq,hr,_,_,or_,nr,vq,vr,q224⟩:=C.lW xA A B hxA oA oB nA nB lA lB hB;have r1:=dg (WV dB A) hBp;have r0:=fo (WV dB A) (show WV dB B≠0 by omega);have lr:r.length<=B.length:=ib (b:=dB) ao or_ nr (Int.lt_trans (by rw[vr];exact r1) (dU ao oB));have hg2:c5 (WV dB B) (WV dB r)=c5 (WV dB a) (WV dB b):=by
     rw[←hg,vr,DZ]
    unfold uj;repeat' first|apply abx|apply aa|apply abr|apply aaL|apply aef|apply adA|apply bC|(apply acO;rfl)|(apply aeq;rfl;rfl)|(apply adX;rfl;rfl;first|exact q224 _)|(apply abA;rfl;rfl)|(apply abC;rfl;rfl)|(intro _;omega)|intro _
    all_goals try omega
    all_goals exact dQ ⟨(WV dB r).toNat,by rw[vr];omega,B,r,_,rv,_,_,_,rfl,.inl rfl,hr,rfl,oB,nB,lB,or_,nr,ac,hg2⟩)
 exact⟨gv,g,ig,og,ng,vg,lg,v,hh,ho,hr⟩
theorem adE (hft:M.FT=FT)(s:az)(_hl:s.length<1000000)(hb:ku s=false)(q152:∀h,M.ext 152 [.str s] h=some ⟨.iV (cK s),h,[]⟩){v1 v2:AV}{z1 z2:Int}(k1:cG v1 z1)(k2:cG v2 z2)(qa:∀h,M.ext 178 [.str s] h=some ⟨v1,h,[]⟩)(qb:∀h,M.ext 130 [.iV 1] h=some ⟨v2,h,[]⟩):dD M 170 [.str s] (.aw [v1,v2]):=by
 have hk:cK s=s.length:=by
  unfold cK;have hn:(bR 47 s).2=none:=by
   unfold ku at hb;cases h:(bR 47 s).2 with
   | none=>rfl
   | some y=>rw[h]at hb;cases hb
  rw[(nS hn).1]
 rw[hk]at q152;obtain⟨n1,x1,l1,rfl,_,o1,t1,b1⟩:=k1.shape;obtain⟨n2,x2,l2,rfl,_,o2,t2,b2⟩:=k2.shape;refine dH (by rw[hft];exact Mx) ax ?_;unfold EY;simp only[enter];repeat' first|(apply aia;rfl;rfl;rfl;exact⟨rfl,bj _,by first|exact jx o1|exact jx o2⟩;rfl)|apply abx|apply aa|apply abr|apply aaL|apply acG|apply ba|(apply acO;rfl)|(apply afe;rfl;rfl)|(apply adX;rfl;rfl;first|exact q152 _|exact qa _|exact qb _)|(apply aes;rfl;rfl;rfl)|(apply abA;rfl;rfl)|(apply abC;rfl;rfl)|(intro _;omega)|intro _
 all_goals try omega
 refine cV rfl rfl (.same ?_ ?_)
 . show max (max 0 (max x1.top 0)) (max (max 0 (max x2.top 0)) 0)=0;rw[t1,t2];rfl
 . show AV.aw [.agg [.bool n1,bS x1],.agg [.bool n2,bS x2]]=_;rw[b1,b2]
structure zE (M:ay)(N:Nat):Prop where
 ft:M.FT=FT
 zF:∀{a z},cG a z->ak z<dB^N->∃v0,cG v0 (-z)/\∀h,M.ext 254 [a] h=some ⟨v0,h,[]⟩
 rJ:∀{x y:AV} (a b:List Int),da x a->da y b->okW dB a->okW dB b->bg a->bg b->a.length<100000->b.length<100000->∃gv g,da gv g/\okW dB g/\bg g/\WV dB g=(c5 (WV dB a) (WV dB b):Nat)/\g.length<100000/\∀h,M.ext 171 [x,y] h=some ⟨gv,h,[]⟩
 lW:∀(x:AV) (a b:List Int),da x a->okW dB a->okW dB b->bg a->bg b->a.length<100000->b.length<100000->b≠[]->∃qv q rv r,da qv q/\da rv r/\okW dB q/\bg q/\okW dB r/\bg r/\WV dB q=WV dB a/WV dB b/\WV dB r=WV dB a%WV dB b/\∀h,M.ext 224 [x,.vs (aj b) b.length none] h=some ⟨.aw [qv,rv],h,[]⟩
 lf:∀neg x l,da x l->okW dB l->l.length<1000000000->∃v0,cG v0 (cd neg (WV dB l))/\∀h,M.ext 183 [.bool neg,x] h=some ⟨v0,h,[]⟩
 zG:∀{a z} h,cG a z->ak z<dB^N->M.ext 129 [a] h=some ⟨.str (cY z),h,[]⟩
def uy (res:List fO)(r:AV)(e:Ex)(s:au):Prop:=(e = .normal\/e = .ret)/\s.s.cI=[]/\∃vs,dK s.s res=some vs/\bk vs=r/\(if r.top<=0 then [] else s.s.hp)=[]
theorem FQ {neg:Bool}{z:Int}(h:0<=z):ak (cd neg z)=z:=by
 unfold ak cd;cases neg <;> simp <;> omega
theorem FU {z:Int}(h:0<=z):cY z=bw z.toNat:=if_neg ac
theorem adF {neg:Bool}{a b:Int}(hb:0<b):(ci (cd neg a) b).num=cd neg (a/(c5 a b:Nat))/\((ci (cd neg a) b).den:Int)=b/(c5 a b:Nat):=by
 obtain⟨k1,k2,e1,e2,e3,e4⟩:=xD (n:=cd neg a) hb;have hg:c5 (cd neg a) b=c5 a b:=by cases neg <;> simp[cd]
 rw[hg]at e1 e2;have g0:((c5 a b:Nat):Int)≠0:=by
  have:=f9 a (show b≠0 by omega);omega
 rw[e3,e4];constructor
 . cases neg with
   | false=>
    have e1:a=(c5 a b:Nat)*k1:=e1;show k1=a/_;exact(gC g0 e1).symm
   | true=>
    have e1 : -a=(c5 a b:Nat)*k1:=e1;show k1 = -(a/_);rw[gC g0 (show a=(c5 a b:Nat)*(-k1) by rw[Int.mul_neg,←e1];omega)];omega
 . exact(gC g0 e2).symm
theorem NS (C:zE M N)(hN:N<100000){neg:Bool}{x y:AV}{l m:List Int}(hx:da x l)(hy:da y m)(ol:okW dB l)(om:okW dB m)(nl:bg l)(nm:bg m)(ll:l.length<=N)(lm:m.length<=N)(hm:m≠[])(a0 a1 a5 a6 a7 a8:AV)(lo:List (Nat×AV))(wr:List Nat) :
 W M t192 ⟨⟨[a0,a1,.ptr 0 0,.ptr 1 0,.str [],a5,a6,a7,a8],lo,[some (.cells [.bool neg,x] 200),some (.cells [.bool false,y] 200)],[]⟩,wr⟩ (uy [.var (.p 4)] (.str (aT (ci (cd neg (WV dB l)) (WV dB m))))):=by
 have m0:=(jP (b:=dB) ao om nm).2 hm;have l0:=cX (b:=dB) ao ol;obtain⟨en,ed⟩:=adF (neg:=neg) (a:=WV dB l) m0;obtain⟨gv,g,hg,og,ng,vg,lg,q171⟩:=C.rJ l m hx hy ol om nl nm ac ac;have g0:0<WV dB g:=by
  rw[vg];have:=f9 (WV dB l) (show WV dB m≠0 by omega);omega
 have hg1:g≠[]:=(jP (b:=dB) ao og ng).1 g0;obtain rfl:gv = .vs (aj g) g.length none:=hg.resolve_right fun h=>hg1 h.2
 obtain⟨pv,p,_,_,hp,_,op,np,_,_,vp,_,qa⟩:=C.lW x l g hx ol og nl ng ac lg hg1;obtain⟨qv,q,_,_,hq,_,oq,nq,_,_,vq,_,qb⟩:=C.lW y m g hy om og nm ng ac lg hg1;rw[vg]at vp vq;rw[←vp]at en;rw[←vq]at ed;have lw:∀{r:List Int},r.length<=N->okW dB r->WV dB r<dB^N:=fun h o=>m6 (dU ao o) (iS ao h)
 have le_div:∀{a b:Int},0<=a->0<b->a/b<=a:=fun h1 h2=>j7 _ h1
 have p0:=cX (b:=dB) ao op;have q0:=cX (b:=dB) ao oq;have lp:WV dB p<dB^N:=m7 (by rw[vp];exact j7 _ l0) (lw ll ol);have lq:WV dB q<dB^N:=m7 (by rw[vq];exact j7 _ (c6 m0)) (lw lm om);have ln:=ib (b:=dB) ao op np lp;have lk:=ib (b:=dB) ao oq nq lq;obtain⟨v1,k1,q1⟩:=C.lf neg pv p hp op ac;have t1:=fun h=>C.zG h k1 (by rw[FQ p0];exact lp)
 obtain⟨v2,k2,q2⟩:=C.lf false qv q hq oq ac;have t2:=fun h=>C.zG h k2 (by rw[FQ q0];exact lq)
 rw[←en]at t1;rw[show cd false (WV dB q)=((ci (cd neg (WV dB l)) (WV dB m)).den:Int) from ed.symm,FU ac,fY]at t2;have hd0:=(ci (cd neg (WV dB l)) (WV dB m)).den_pos;have hq1:q≠[]:=fun h=>by subst h;simp[WV]at ed;omega
 obtain rfl:qv = .vs (aj q) q.length none:=hq.resolve_right fun h=>hq1 h.2
 have hs:aT (ci (cd neg (WV dB l)) (WV dB m))=if q=[1] then cY (ci (cd neg (WV dB l)) (WV dB m)).num else cY (ci (cd neg (WV dB l)) (WV dB m)).num++47::bw (ci (cd neg (WV dB l)) (WV dB m)).den:=by
  have:=Nc oq nq;rw[←ed]at this;unfold aT;by_cases h:q=[1]
  . rw[if_pos h,if_pos (by have:=this.2 h;omega)]
  . rw[if_neg h,if_neg (by intro h2;exact h (this.1 ac))]
 rw[hs];have hN1:0<9*N:=by
  have:=cP.2 hm;omega
 have e9:(dB:Int)^N=10^(9*N):=by rw[←MN];exact n7 _ _
 have lA:=Mi hN1 (z:=(ci (cd neg (WV dB l)) (WV dB m)).num) (by rw[en,FQ p0,←e9];exact lp);generalize cY (ci (cd neg (WV dB l)) (WV dB m)).num=A at *
 have lB:(bw (ci (cd neg (WV dB l)) (WV dB m)).den).length<2000000:=by
  have:=yD (k:=9*N) hN1 (z:=WV dB q) (by rw[fC q0,←e9];exact lq);rw[fC q0,←ed,fY]at this;omega
 generalize bw (ci (cd neg (WV dB l)) (WV dB m)).den=B at *
 clear hs;have ap:A++47::B=A++[47]++B:=by simp
 unfold t192;have hcase:q=[1]\/q.length≠1\/q.length=1/\q[je 0]! ≠ 1:=by
  match q,hq1 with
  | [x],_=>
   by_cases h:x=1
   . exact .inl (by rw[h])
   . exact .inr (.inr ⟨rfl,h⟩)
  | x::y::r,_=>exact .inr (.inl ax)
 rcases hcase with rfl|hc|⟨hc,hc2⟩
 . rw[if_pos rfl];have e1:([1]:List Int).length=1:=rfl;have e2:([1]:List Int)[je 0]! = 1:=rfl;repeat' first|apply abx|apply aa|apply abr|apply aaL|apply acG|apply ba|(apply acO;rfl)|(apply afg;rfl)|(apply afe;rfl;rfl)|(apply aeB;rfl;rfl)|(apply adX;rfl;rfl;first|exact q171 _|exact qa _|exact qb _|exact q1 _|exact q2 _|exact t1 _|exact t2 _)|(apply ahT;rfl;rfl;omega)|(apply aib;rfl;exact fun _=>rfl;(first|omega|(simp only[br];omega)|(simp;omega));decide;rfl;case ia=>infer_instance)|(apply aev;rfl;rfl;rfl)|(apply abA;rfl;rfl)|(apply abC;rfl;rfl)|(intro _;omega)|intro _
   all_goals try omega
   all_goals exact⟨.inr rfl,rfl,_,rfl,rfl,rfl⟩
 . rw[if_neg (fun h=>hc (by rw[h];rfl)),ap];repeat' first|apply abx|apply aa|apply abr|apply aaL|apply acG|apply adA|(apply acM;rfl)|(apply ahU;rfl)|(apply afe;rfl;rfl)|(apply aeC;rfl;rfl)|(apply aiq;rfl;rfl;first|omega|(simp only[bA,de,cT];omega)|(simp;omega))|(apply adX;rfl;rfl;first|exact q171 _|exact qa _|exact qb _|exact q1 _|exact q2 _|exact t1 _|exact t2 _)|(apply aev;rfl;rfl;rfl)|(apply abA;rfl;rfl)|(apply abC;rfl;rfl)|(intro _;omega)|intro _
   all_goals try omega
   all_goals exact⟨.inr rfl,rfl,_,rfl,rfl,rfl⟩
 . rw[if_neg (fun h=>hc2 (by rw[h];rfl)),ap];repeat' first|apply abx|apply aa|apply abr|apply aaL|apply acG|apply adA|(apply acM;rfl)|(apply afg;rfl)|(apply afe;rfl;rfl)|(apply aeB;rfl;rfl)|(apply aiq;rfl;rfl;first|omega|(simp only[bA,de,cT];omega)|(simp;omega))|(apply adX;rfl;rfl;first|exact q171 _|exact qa _|exact qb _|exact q1 _|exact q2 _|exact t1 _|exact t2 _)|(apply ahT;rfl;rfl;omega)|(apply aib;rfl;exact fun _=>rfl;(first|omega|(simp only[br];omega)|(simp;omega));decide;rfl;case ia=>infer_instance)|(apply aev;rfl;rfl;rfl)|(apply abA;rfl;rfl)|(apply abC;rfl;rfl)|(intro _;omega)|intro _
   all_goals try omega
   all_goals exact⟨.inr rfl,rfl,_,rfl,rfl,rfl⟩
theorem adG (C:zE M N)(hN:N<100000){a b:AV}{za zb:Int}(ha:cG a za)(hb:cG b zb)(la:ak za<dB^N)(lb:ak zb<dB^N)(hz:zb≠0):bm M 192 [a,b] [] ⟨.str (aT (ci za zb)),[],[]⟩:=by
 have ha':=ha;have hb':=hb;obtain⟨na,x,l,rfl,hx,ol,nl,ll,ea,_,_⟩:=ha.abs la;obtain⟨nb,y,m,rfl,hy,om,nm,lm,eb,_,hn⟩:=hb.abs lb;have hm:m≠[]:=fun h=>by subst h;cases nb <;> simp[cd,WV]at eb <;> omega
 refine bX (by rw[C.ft];exact acW) ax ?_;cases nb with
 | false=>
  rw[ea,show zb=WV dB m from eb];unfold FI;simp only[enter];repeat' first|(exact NS C hN hx hy ol om nl nm ll lm hm _ _ _ _ _ _ _ _)|apply abx|apply aa|apply abr|apply aaL|apply adA|(apply acM;rfl)|(apply aie;rfl;(first|(focus((repeat' first|exact cj|assumption|apply cB);done))|exact cQ ax);rfl)|(apply aes;rfl;rfl;rfl)|(apply abA;rfl;rfl)|(apply abC;rfl;rfl)
 | true=>
  obtain⟨v1,k1,q1⟩:=C.zF ha' la;obtain⟨v2,k2,q2⟩:=C.zF hb' lb;obtain⟨n1,x1,l1,rfl,hx1,ol1,nl1,ll1,ea1,_,_⟩:=k1.abs (N:=N) (by rw[kj];exact la);obtain⟨n2,x2,m1,rfl,hy1,om1,nm1,lm1,eb1,_,hn1⟩:=k2.abs (N:=N) (by rw[kj];exact lb);have o1:=(uu x1 hx1).1;have o2:=(uu x2 hy1).1;have m0:=(jP (b:=dB) ao om nm).2 hm;have e2:zb = -WV dB m:=eb;have m1p:=cX (b:=dB) ao om1;have hm1:m1≠[]:=fun h=>by subst h;cases n2 <;> simp[cd,WV]at eb1 <;> omega
  cases n2 with
  | true=>
   have : -zb = -WV dB m1:=eb1;omega
  | false=>
  rw[←m8,ea1,show -zb=WV dB m1 from eb1];unfold FI;simp only[enter];repeat' first|(exact NS C hN hx1 hy1 ol1 om1 nl1 nm1 ll1 lm1 hm1 _ _ _ _ _ _ _ _)|(apply ahR;rfl;rfl;(first|(simp only[nca];rfl)|rfl);first|exact q1 _|exact q2 _)|(apply aia;rfl;rfl;rfl;exact⟨rfl,bj _,by first|exact jx o1|exact jx o2⟩;rfl)|apply abx|apply aa|apply abr|apply aaL|apply afU|apply agy|(apply ahb;rfl;rfl;(first|(simp only[nca];rfl)|rfl))|(apply ahY;rfl;(first|(simp only[nca];rfl)|rfl);(first|(simp only[nca];rfl)|rfl))|(apply acO;rfl)|(apply aie;rfl;(first|(focus((repeat' first|exact cj|assumption|apply cB);done))|exact cQ ax);rfl)|(apply aes;rfl;rfl;rfl)|(apply abA;rfl;rfl)|(apply abC;rfl;rfl)
theorem adH (hft:M.FT=FT)(a b:Nat)(ha:a<9223372036854775808)(hb:b<9223372036854775808):bm M 202 [.iV a,.iV b] [] ⟨.iV (jj a b:Nat),[],[]⟩:=by
 refine bX (by rw[hft];exact acU) ax ?_;unfold Nx;simp only[enter];repeat' first|apply abx|apply aa|apply abr|apply aaL|apply aef|(apply abC;rfl;rfl)
 refine W.ir (fun m st=>∃(A B:Nat) (lo:List (Nat×AV)) (wr:List Nat),st=⟨⟨[.iV A,.iV B,.iV 0],lo,[],[]⟩,wr⟩/\m=B/\A<9223372036854775808/\B<9223372036854775808/\jj A B=jj a b) (fun m st ⟨A,B,lo,wr,hst,hm,hA,hB,hg⟩=>?_) (m:=b) ⟨a,b,_,_,rfl,rfl,ha,hb,rfl⟩;subst hst;unfold Nw;rcases jN B with rfl|hp
 . rw[Nat.gcd_zero_right]at hg;rw[←hg];repeat' first|apply abx|apply aa|apply abr|apply aaL|apply acG|apply aeM|apply bH|apply bJ|apply ck|(apply acM;rfl)|(apply aeq;rfl;rfl)|(apply abA;rfl;rfl)|(apply abC;rfl;rfl)|(intro _;omega)|intro _
   all_goals try omega
   all_goals exact⟨.inr rfl,rfl,_,rfl,rfl,rfl⟩
 . have hlt:=Nat.mod_lt A hp;have hn:jj B (A%B)=jj a b:=by rw[←hg,Nat.gcd_comm A B,Nat.gcd_rec B A,Nat.gcd_comm]
   have e:((A:Int)%(B:Int))=((A%B:Nat):Int):=rfl;repeat' first|(apply aiR;rfl;rfl;omega;omega)|apply abx|apply aa|apply abr|apply aaL|apply aef|apply adA|apply bC|(apply ahZ;rfl)|(apply acO;rfl)|(apply aeq;rfl;rfl)|(apply abA;rfl;rfl)|(apply abC;rfl;rfl)|(intro _;omega)|intro _
   all_goals try omega
   all_goals exact dQ ⟨A%B,ac,B,A%B,_,_,rfl,rfl,ac,ac,hn⟩
structure FV (M:ay)(N:Nat):Prop extends zE M N where
 NT:∀(a b:Nat) h,a<9223372036854775808->b<9223372036854775808->M.ext 202 [.iV a,.iV b] h=some ⟨.iV (jj a b:Nat),h,[]⟩
 FW:∀(n:Nat) h,n<9223372036854775808->M.ext 182 [.iV (n:Nat),.iV 1] h=some ⟨.str (bw n),h,[]⟩
 FX:∀n:Int,-9223372036854775808<=n/\n<9223372036854775808->∃v0,cG v0 n/\∀h,M.ext 130 [.iV n] h=some ⟨v0,h,[]⟩
 uz:∀{a b za zb} h,cG a za->cG b zb->ak za<dB^N->ak zb<dB^N->zb≠0->M.ext 192 [a,b] h=some ⟨.str (aT (ci za zb)),h,[]⟩
theorem zH (q:Rat):aT q=(if q.num<0 then [45] else [])++bw q.num.natAbs++(if 1<q.den then 47::bw q.den else []):=by
 have:=q.den_pos;have e:cY q.num=(if q.num<0 then [45] else [])++bw q.num.natAbs:=by
  unfold cY;split
  . rw[show (-q.num).toNat=q.num.natAbs by omega];rfl
  . rw[show q.num.toNat=q.num.natAbs by omega];rfl
 unfold aT;by_cases h:q.den=1
 . rw[if_pos h,if_neg (show ¬1<q.den by omega),e,List.append_nil]
 . rw[if_neg h,if_pos (show 1<q.den by omega),e]
theorem NU (C:FV M N){n d:Int}(hd:0<d/\d<=4000000000000000000)(hn : -4000000000000000000<=n/\n<=4000000000000000000)(a3 a4:AV)(lo:List (Nat×AV))(wr:List Nat) :
 W M t149 ⟨⟨[.iV n,.iV d,.str [],a3,a4],lo,[],[]⟩,wr⟩ (uy [.var (.p 2)] (.str (aT (ci n d)))):=by
 obtain⟨k1,k2,e1,e2,e3,e4⟩:=xD (n:=n) hd.1;have g0:=f9 n (show d≠0 by omega);have eg:jj n.natAbs d.natAbs=c5 n d:=rfl;have q202:=fun h=>C.NT n.natAbs d.natAbs h ac ac
 rw[show ((d.natAbs:Nat):Int)=d by omega,eg]at q202;have hle:((c5 n d:Nat):Int)<=d:=Int.le_of_dvd hd.1 (Int.gcd_dvd_right _ _);have hv1:n.tdiv (c5 n d:Nat)=(ci n d).num:=by
  rw[e3];conv=>lhs;arg 1;rw[e1]
  exact j4 _ ac
 have hv2:d.tdiv (c5 n d:Nat)=((ci n d).den:Int):=by
  rw[e4];conv=>lhs;arg 1;rw[e2]
  exact j4 _ ac
 have hs:=zH (ci n d);have b1:(ci n d).num.natAbs<=n.natAbs:=by
  rw[←hv1,oZ];exact kO _ _
 have b2:(ci n d).den<=d.natAbs:=by
  have:=oZ d (c5 n d:Nat);rw[hv2,Int.natAbs_natCast]at this;rw[this];exact kO _ _
 rw[hs];generalize (ci n d).num=P at *
 generalize (ci n d).den=D at *
 generalize c5 n d=g at *
 have t1:=fun h=>C.FW P.natAbs h ac
 have t2:=fun h=>C.FW D h ac
 have l1:=yh (n:=P.natAbs) (k:=19) (iH b1 (by rw[FP];omega)) ao;have l2:=yh (n:=D) (k:=19) (iH b2 (by rw[FP];omega)) ao;generalize bw P.natAbs=A at *
 generalize bw D=B at *
 unfold t149;repeat' first|(apply aiP (m:=(n.natAbs:Int));rfl;rfl;omega)|(apply aiP (m:=(P.natAbs:Int));rfl;rfl;omega)|(apply ajt;rfl;rfl;omega;omega;first|exact hv1|exact hv2)|apply abx|apply aa|apply abr|apply aaL|apply acG|apply adA|(apply ahZ;rfl)|(apply acO;rfl)|(apply acM;rfl)|(apply aep;rfl;rfl)|(apply aeq;rfl;rfl)|(apply afS;rfl;rfl;omega)|(apply aiq;rfl;rfl;first|omega|(simp only[bA,de,cT];omega)|(simp;omega))|(apply adX;rfl;rfl;first|exact q202 _|exact t1 _|exact t2 _)|(apply abA;rfl;rfl)|(apply abC;rfl;rfl)|(intro _;omega)|intro _
 all_goals try omega
 all_goals refine⟨.inr rfl,rfl,_,rfl,?_,rfl⟩
 all_goals
  rename_i u1 u2;first|rw[if_pos u1]|rw[if_neg ac]
  first|rw[if_pos ac]|rw[if_neg ac]
  simp[bk]
theorem FY (hN:3<=N){n:Int}(h : -9223372036854775808<=n/\n<9223372036854775808):ak n<dB^N:=by
 have h1:ak n<dB^3:=by rw[NQ];unfold ak;split <;> omega
 exact m6 h1 (iS ao hN)
theorem adI (C:FV M N)(hN:3<=N){n d:Int}(hn : -9223372036854775808<=n/\n<9223372036854775808)(hd : -9223372036854775808<=d/\d<9223372036854775808)(h0:d≠0):bm M 149 [.iV n,.iV d] [] ⟨.str (aT (ci n d)),[],[]⟩:=by
 obtain⟨v1,k1,q1⟩:=C.FX n hn;obtain⟨v2,k2,q2⟩:=C.FX d hd;have q3:=fun h=>C.uz h k1 k2 (FY hN hn) (FY hN hd) h0
 refine bX (by rw[C.ft];exact acY) ax ?_;show W M FJ _ (uy _ _);unfold FJ;simp only[enter];by_cases hs:(-4000000000000000000<=n/\n<=4000000000000000000) /\ -4000000000000000000<=d/\d<=4000000000000000000
 . by_cases hp:0<d
   . repeat' first|(exact NU C ⟨hp,ac⟩ hs.1 _ _ _ _)|apply abx|apply aa|apply abr|apply aaL|apply adA|(apply acM;rfl)|(apply ahQ;rfl)|(apply aep;rfl;rfl)|(apply aeq;rfl;rfl)|(apply aeC;rfl;rfl)|(apply abA;rfl;rfl)|(apply abC;rfl;rfl)|(intro _;omega)|intro _
     all_goals try omega
   . rw[←m8];have e1:0-n = -n:=by omega
     have e2:0-d = -d:=by omega
     have tl:=fun a3 a4 lo wr=>NU C (n:=-n) (d:=-d) ⟨ac,ac⟩ ⟨ac,ac⟩ a3 a4 lo wr
     rw[←e1,←e2]at tl;rw[←e1,←e2];repeat' first|(exact tl _ _ _ _)|apply abx|apply aa|apply abr|apply aaL|apply adA|(apply acO;rfl)|(apply acM;rfl)|(apply ahQ;rfl)|(apply aep;rfl;rfl)|(apply aeq;rfl;rfl)|(apply aeC;rfl;rfl)|(apply afS;rfl;rfl;omega)|(apply abA;rfl;rfl)|(apply abC;rfl;rfl)|(intro _;omega)|intro _
     all_goals try omega
 . repeat' first|(apply aep;rfl;rfl)|apply abx|apply aa|apply abr|apply aaL|apply acG|apply ba|(apply acO;rfl)|(apply ahQ;rfl)|(apply aid;rfl)|(apply aeq;rfl;rfl)|(apply aeB;rfl;rfl)|(apply aeC;rfl;rfl)|(apply adX;rfl;rfl;first|exact q1 _|exact q2 _|exact q3 _)|(apply abA;rfl;rfl)|(apply abC;rfl;rfl)|(intro _;omega)|intro _
   all_goals try omega
   all_goals exact⟨.inr rfl,rfl,_,rfl,rfl,rfl⟩
def NV:al:=zR [⟨.p 1,.mv (.c (.str [])),none⟩] (.seq (zR [zm 3 0,z1 4 105 3,zc 5 .lss 4 0] (.cond (.l 5) (zR [zm 6 0,⟨.l 7,.slice .str 1 (.l 6) (some (kI 1)) none none,none⟩,zw 1 7] (.ret)) (.skip))) (zR [zm 8 0,zw 1 8] (.ret)))
theorem adJ:FT 125=some ⟨9,[0,2],[.var (.p 1)],NV⟩:=by kernel_rfl
def NW:al:=zR [⟨.p 1,.mv (.c (.str [])),none⟩] (zR [zm 3 0,zm 4 0,z1 5 152 4,⟨.l 6,.slice .str 1 (.l 3) none (some (.l 5)) none,none⟩,zw 1 6] (.ret))
theorem adK:FT 126=some ⟨7,[0,2],[.var (.p 1)],NW⟩:=by kernel_rfl
def NX:al:=zR [⟨.p 1,.mv (.c (.str [])),none⟩] (zR [zm 4 0,z1 5 152 4,zw 2 5] (.seq (zR [zm 6 2,zm 7 0,zL 8 7,zb 9 .eql 6 8] (.cond (.l 9) (zR [⟨.p 1,.mv (.c (.str [49])),none⟩] (.ret)) (.skip))) (zR [zm 10 0,zm 11 2,zc 12 .add 11 1,⟨.l 13,.slice .str 1 (.l 10) (some (.l 12)) none none,none⟩,zw 1 13] (.ret))))
theorem adL:FT 127=some ⟨14,[0,2,3],[.var (.p 1)],NX⟩:=by kernel_rfl
theorem uA (q:Rat):aT q≠[]:=fun h=>by
 have:=zH q;rw[h]at this;have:=congrArg j0 this;have:=cP.2 (ry q.num.natAbs);simp at *
 omega
theorem NY (q:Rat):0<(aT q).length/\(((aT q)[je 0]!).toNat:Int)=45↔q.num<0:=by
 have h:=(pH q).1;have h0:=uA q;generalize aT q=s at *
 cases s with
 | nil=>exact absurd rfl h0
 | cons c t=>
  rw[preB,List.head?_cons,decide_eq_decide]at h;rw[←h];show 0<t.length+1/\((c.toNat:Int)=45)↔some c=some 45;constructor
  . intro h;rw[show c=45 from kw.1 (by have:=h.2;have e:(45:UInt8).toNat=45:=rfl;omega)]
  . intro h;cases h;exact⟨ac,rfl⟩
theorem FZ {q:Rat}(h:q.num<0):aT q=45::aT (-q):=by
 rw[zH,zH,Rat.neg_num,Rat.neg_den,if_pos h,if_neg (show ¬ -q.num<0 by omega),Int.natAbs_neg];simp
theorem adM {q:Rat}(h:0<q.num):aT (-q)=45::aT q:=by
 have:=FZ (q:=-q) (by rw[Rat.neg_num];omega);rw[Rat.neg_neg]at this;exact this
theorem Ga {q:Rat}:q.num=0↔q=0:=Rat.num_eq_zero
theorem adN (hft:M.FT=FT)(q:Rat):bm M 105 [.str (aT q)] [] ⟨.iV (bE q.num),[],[]⟩:=by
 refine bX (by rw[hft];exact acZ) ax ?_;unfold NC;simp only[enter];by_cases h0:q.num=0
 . rw[h0,Ga.1 h0,abi];repeat' first|apply abx|apply aa|apply abr|apply aaL|apply acG|apply ba|(apply acO;rfl)|(apply ahV;rfl;rfl;all_goals first|(intro h;exact absurd h ao)|(intro h;exact absurd rfl h)|(intro h;contradiction)|intro _)|(apply abA;rfl;rfl)|(apply abC;rfl;rfl)
   all_goals exact⟨.inr rfl,rfl,_,rfl,rfl,rfl⟩
 . have hne:aT q≠[48]:=fun h=>h0 (Ga.2 (abj h))
   have hl:=cP.2 (uA q);have hh:=NY q;unfold bE;by_cases hn:q.num<0
   . rw[if_pos hn];obtain⟨_,h45⟩:=hh.2 hn;generalize aT q=s at *
     repeat' first|apply abx|apply aa|apply abr|apply aaL|apply acG|apply adA|apply ba|(apply acO;rfl)|(apply acM;rfl)|(apply afg;rfl)|(apply aeq;rfl;rfl)|(apply afe;rfl;rfl)|(apply aeB;rfl;rfl)|(apply aii;rfl;rfl;omega)|(apply ahV;rfl;rfl;all_goals first|(intro h;exact absurd h ao)|(intro h;exact absurd rfl h)|(intro h;contradiction)|intro _)|(apply abA;rfl;rfl)|(apply abC;rfl;rfl)|(intro _;omega)|intro _
     all_goals try omega
     all_goals exact⟨.inr rfl,rfl,_,rfl,rfl,rfl⟩
   . rw[if_neg hn,if_pos (show 0<q.num by omega)];have h45:¬(((aT q)[je 0]!).toNat:Int)=45:=fun h=>hn (hh.1 ⟨hl,h⟩)
     generalize aT q=s at *
     repeat' first|apply abx|apply aa|apply abr|apply aaL|apply acG|apply adA|(apply acM;rfl)|(apply afg;rfl)|(apply aeq;rfl;rfl)|(apply afe;rfl;rfl)|(apply aeB;rfl;rfl)|(apply aii;rfl;rfl;omega)|(apply ahV;rfl;rfl;all_goals first|(intro h;exact absurd h ao)|(intro h;exact absurd rfl h)|(intro h;contradiction)|intro _)|(apply abA;rfl;rfl)|(apply abC;rfl;rfl)|(intro _;omega)|intro _
     all_goals try omega
     all_goals exact⟨.inr rfl,rfl,_,rfl,rfl,rfl⟩
theorem adO (hft:M.FT=FT){q:Rat}(hl:(aT q).length<1000000)(q105:∀h,M.ext 105 [.str (aT q)] h=some ⟨.iV (bE q.num),h,[]⟩):bm M 113 [.str (aT q)] [] ⟨.str (aT (-q)),[],[]⟩:=by
 refine bX (by rw[hft];exact ada) ax ?_;have h0:=cP.2 (uA q);unfold ND;simp only[enter];by_cases hn:q.num<0
 . have e:=FZ hn;have e1:(aT q).drop (je 1)=aT (-q):=by rw[e];rfl
   have e2:bE q.num = -1:=if_pos hn;rw[e2]at q105;generalize aT (-q)=t at *
   generalize aT q=s at *
   repeat' first|(apply air (r:=t);rfl;rfl;omega;exact e1)|apply abx|apply aa|apply abr|apply aaL|apply acG|apply ba|(apply acO;rfl)|(apply aep;rfl;rfl)|(apply adX;rfl;rfl;first|exact q105 _)|(apply abA;rfl;rfl)|(apply abC;rfl;rfl)|(intro _;omega)|intro _
   all_goals try omega
   all_goals exact⟨.inr rfl,rfl,_,rfl,rfl,rfl⟩
 . by_cases hz:q.num=0
   . have e:=Ga.1 hz;subst e;have e2:bE (0:Rat).num=0:=rfl;rw[e2]at q105;rw[show (-0:Rat)=0 by simp];generalize aT 0=s at *
     repeat' first|apply abx|apply aa|apply abr|apply aaL|apply acG|apply adA|apply ba|(apply acO;rfl)|(apply acM;rfl)|(apply aep;rfl;rfl)|(apply afe;rfl;rfl)|(apply adX;rfl;rfl;first|exact q105 _)|(apply abA;rfl;rfl)|(apply abC;rfl;rfl)|(intro _;omega)|intro _
     all_goals try omega
     all_goals exact⟨.inr rfl,rfl,_,rfl,rfl,rfl⟩
   . have e:=adM (show 0<q.num by omega);have e2:bE q.num=1:=by unfold bE;rw[if_neg hn,if_pos ac]
     rw[e2]at q105;rw[e];generalize aT q=s at *
     have l1:([45]:az).length=1:=rfl;repeat' first|apply abx|apply aa|apply abr|apply aaL|apply acG|apply adA|(apply acM;rfl)|(apply aep;rfl;rfl)|(apply afe;rfl;rfl)|(apply aiq;rfl;rfl;first|omega|(simp only[bA,de,cT];omega)|(simp;omega))|(apply adX;rfl;rfl;first|exact q105 _)|(apply abA;rfl;rfl)|(apply abC;rfl;rfl)|(intro _;omega)|intro _
     all_goals try omega
     all_goals exact⟨.inr rfl,rfl,_,rfl,rfl,rfl⟩
theorem adP (hft:M.FT=FT){q:Rat}(q105:∀h,M.ext 105 [.str (aT q)] h=some ⟨.iV (bE q.num),h,[]⟩):bm M 125 [.str (aT q)] [] ⟨.str (aT (if q.num<0 then -q else q)),[],[]⟩:=by
 refine bX (by rw[hft];exact adJ) ax ?_;have h0:=cP.2 (uA q);unfold NV;simp only[enter];by_cases hn:q.num<0
 . have e1:(aT q).drop (je 1)=aT (-q):=by rw[FZ hn];rfl
   have e2:bE q.num = -1:=if_pos hn;rw[e2]at q105;rw[if_pos hn];generalize aT (-q)=t at *
   generalize aT q=s at *
   repeat' first|(apply air (r:=t);rfl;rfl;omega;exact e1)|apply abx|apply aa|apply abr|apply aaL|apply acG|apply ba|(apply acO;rfl)|(apply aep;rfl;rfl)|(apply adX;rfl;rfl;first|exact q105 _)|(apply abA;rfl;rfl)|(apply abC;rfl;rfl)|(intro _;omega)|intro _
   all_goals try omega
   all_goals exact⟨.inr rfl,rfl,_,rfl,rfl,rfl⟩
 . have e2:0<=bE q.num:=by unfold bE;rw[if_neg hn];split <;> omega
   rw[if_neg hn];generalize aT q=s at *
   generalize bE q.num=z at *
   repeat' first|apply abx|apply aa|apply abr|apply aaL|apply acG|apply adA|(apply acM;rfl)|(apply aep;rfl;rfl)|(apply adX;rfl;rfl;first|exact q105 _)|(apply abA;rfl;rfl)|(apply abC;rfl;rfl)|(intro _;omega)|intro _
   all_goals try omega
   all_goals exact⟨.inr rfl,rfl,_,rfl,rfl,rfl⟩
theorem pP (q:Rat):cK (aT q)=(cY q.num).length/\(aT q).take (cK (aT q))=cY q.num/\(cK (aT q)=(aT q).length↔q.den=1)/\(q.den≠1->(aT q).drop (cK (aT q)+1)=bw q.den/\cK (aT q)+1<=(aT q).length)/\ku (aT q)=decide (q.den≠1)/\bR 47 (aT q)=(cY q.num,if q.den=1 then none else some (bw q.den)):=by
 have e:bR 47 (aT q)=(cY q.num,if q.den=1 then none else some (bw q.den)):=by
  unfold aT;split
  . exact tX (yq _)
  . exact tY (yq _)
 have e1:cK (aT q)=(cY q.num).length:=by unfold cK;rw[e]
 refine⟨e1,?_,?_,?_,?_,e⟩
 . rw[e1];unfold aT;split <;> simp
 . rw[e1];unfold aT;split <;> simp[*]
 . intro h;rw[e1];unfold aT;rw[if_neg h];constructor
   . rw[show cY q.num++47::bw q.den=(cY q.num++[47])++bw q.den by simp,jg ax];simp
   . simp
 . unfold ku;rw[e];by_cases h:q.den=1 <;> simp[h]
theorem rO (z:Int):aT (z:Rat)=cY z:=by
 unfold aT;rw[if_pos (Rat.den_intCast z),Rat.num_intCast]
theorem adQ (hft:M.FT=FT){q:Rat}(q152:∀h,M.ext 152 [.str (aT q)] h=some ⟨.iV (cK (aT q)),h,[]⟩):bm M 126 [.str (aT q)] [] ⟨.str (cY q.num),[],[]⟩:=by
 refine bX (by rw[hft];exact adK) ax ?_;obtain⟨_,e,_⟩:=pP q;have hk:=um (aT q);have e':(aT q).take ((cK (aT q):Nat):Int).toNat=cY q.num:=e;generalize cY q.num=t at *
 generalize aT q=s at *
 unfold NW;simp only[enter];repeat' first|(apply aiz (r:=t);rfl;rfl;omega;exact e')|apply abx|apply aa|apply abr|apply aaL|apply acG|(apply adX;rfl;rfl;first|exact q152 _)|(apply abA;rfl;rfl)|(apply abC;rfl;rfl)
 all_goals exact⟨.inr rfl,rfl,_,rfl,rfl,rfl⟩
theorem adR:bw 1=[49]:=kn ao
theorem adS (hft:M.FT=FT){q:Rat}(hl:(aT q).length<1000000)(q152:∀h,M.ext 152 [.str (aT q)] h=some ⟨.iV (cK (aT q)),h,[]⟩):bm M 127 [.str (aT q)] [] ⟨.str (bw q.den),[],[]⟩:=by
 refine bX (by rw[hft];exact adL) ax ?_;obtain⟨_,_,hd,hs,_⟩:=pP q;have hk:=um (aT q);unfold NX;simp only[enter];by_cases h1:q.den=1
 . have e:=hd.2 h1;rw[h1];generalize aT q=s at *
   repeat' first|apply abx|apply aa|apply abr|apply aaL|apply acG|apply ba|(apply acO;rfl)|(apply afe;rfl;rfl)|(apply adX;rfl;rfl;first|exact q152 _)|(apply abA;rfl;rfl)|(apply abC;rfl;rfl)|(intro _;omega)|intro _
   all_goals try omega
   all_goals exact⟨.inr rfl,rfl,_,rfl,adR ▸ rfl,rfl⟩
 . obtain⟨e,e2⟩:=hs h1;have hne:cK (aT q)≠(aT q).length:=fun h=>h1 (hd.1 h)
   have e':(aT q).drop ((cK (aT q):Nat)+1:Int).toNat=bw q.den:=by rw[show ((cK (aT q):Nat)+1:Int).toNat=cK (aT q)+1 by omega];exact e
   generalize bw q.den=t at *
   generalize aT q=s at *
   repeat' first|(apply air (r:=t);rfl;rfl;omega;exact e')|apply abx|apply aa|apply abr|apply aaL|apply acG|apply adA|(apply acM;rfl)|(apply afe;rfl;rfl)|(apply aeX;rfl;rfl;omega)|(apply adX;rfl;rfl;first|exact q152 _)|(apply abA;rfl;rfl)|(apply abC;rfl;rfl)|(intro _;omega)|intro _
   all_goals try omega
   all_goals exact⟨.inr rfl,rfl,_,rfl,rfl,rfl⟩
theorem adT {q:Rat}{u num:az}{k dl:Nat}(neg:Bool)(hs:(if neg then -((ak q.num).toNat:Int) else ((ak q.num).toNat:Int))=q.num)
 (hk:k=num.length) (hkl:k<=u.length) (hu:u.length<1000000) (ht:u.take k=num) (h1:k=u.length↔q.den=1) (hd:q.den≠1->u.drop (k+1)=bw q.den/\k+1+(bw q.den).length=u.length) (hdl:dl=u.length-k)
 (q152:∀h,M.ext 152 [.str u] h=some ⟨.iV k,h,[]⟩) (qn:k<=9->∀h,M.ext 232 [.str num] h=some ⟨.iV (ak q.num).toNat,h,[]⟩) (qd:dl<=10->q.den≠1->∀h,M.ext 232 [.str (bw q.den)] h=some ⟨.iV (q.den:Nat),h,[]⟩)
 (bn:k<=9->(ak q.num).toNat<1000000000) (a0 a5 a6 a7:AV) (lo:List (Nat×AV)) (wr:List Nat) :
 W M t191 ⟨⟨[a0,.iV 0,.iV 0,.bool false,.str u,.bool neg,a5,a6,a7],lo,[],[]⟩,wr⟩ (uy [.var (.p 1),.var (.p 2),.var (.p 3)] (if k<=9/\dl<=10 then .aw [.iV q.num,.iV q.den,.bool true] else .aw [.iV 0,.iV 0,.bool false])):=by
 have ht':u.take ((k:Nat):Int).toNat=num:=ht;by_cases hc:k<=9/\dl<=10
 . rw[if_pos hc];have qn:=qn hc.1;have bn:=bn hc.1;by_cases hd1:q.den=1
   . have hku:=h1.2 hd1;rw[hd1];generalize (ak q.num).toNat=A at *
     generalize q.num=P at *
     unfold t191;cases neg with
     | false=>
      obtain rfl:P=A:=hs.symm;repeat' first|(apply aiz (r:=num);rfl;rfl;omega;exact ht')|apply abx|apply aa|apply abr|apply aaL|apply acG|apply adA|(apply acM;rfl)|(apply ahQ;rfl)|(apply aep;rfl;rfl)|(apply aeq;rfl;rfl)|(apply aeC;rfl;rfl)|(apply afS;rfl;rfl;omega)|(apply adX;rfl;rfl;first|exact q152 _|exact qn _)|(apply abA;rfl;rfl)|(apply abC;rfl;rfl)|(intro _;omega)|intro _
      all_goals try omega
      all_goals exact⟨.inr rfl,rfl,_,rfl,rfl,rfl⟩
     | true=>
      have e:(0:Int)-A=P:=by rw[←hs];simp
      repeat' first|(apply aiz (r:=num);rfl;rfl;omega;exact ht')|apply abx|apply aa|apply abr|apply aaL|apply acG|apply adA|(apply acO;rfl)|(apply acM;rfl)|(apply ahQ;rfl)|(apply aep;rfl;rfl)|(apply aeq;rfl;rfl)|(apply aeC;rfl;rfl)|(apply afS;rfl;rfl;omega)|(apply adX;rfl;rfl;first|exact q152 _|exact qn _)|(apply abA;rfl;rfl)|(apply abC;rfl;rfl)|(intro _;omega)|intro _
      all_goals try omega
      all_goals exact⟨.inr rfl,rfl,_,rfl,by rw[e];rfl,rfl⟩
   . have qd:=qd hc.2 hd1;obtain⟨e1,e2⟩:=hd hd1;have hne:k≠u.length:=fun h=>hd1 (h1.1 h)
     have e1':u.drop ((k:Nat)+1:Int).toNat=bw q.den:=by rw[show ((k:Nat)+1:Int).toNat=k+1 by omega];exact e1
     generalize bw q.den=B at *
     generalize q.den=D at *
     generalize (ak q.num).toNat=A at *
     generalize q.num=P at *
     unfold t191;cases neg with
     | false=>
      obtain rfl:P=A:=hs.symm;repeat' first|(apply aiz (r:=num);rfl;rfl;omega;exact ht')|(apply air (r:=B);rfl;rfl;omega;exact e1')|apply abx|apply aa|apply abr|apply aaL|apply acG|apply adA|(apply acO;rfl)|(apply acM;rfl)|(apply ahQ;rfl)|(apply aep;rfl;rfl)|(apply aeq;rfl;rfl)|(apply aeC;rfl;rfl)|(apply aeX;rfl;rfl;omega)|(apply afS;rfl;rfl;omega)|(apply adX;rfl;rfl;first|exact q152 _|exact qn _|exact qd _)|(apply abA;rfl;rfl)|(apply abC;rfl;rfl)|(intro _;omega)|intro _
      all_goals try omega
      all_goals exact⟨.inr rfl,rfl,_,rfl,rfl,rfl⟩
     | true=>
      have e:(0:Int)-A=P:=by rw[←hs];simp
      repeat' first|(apply aiz (r:=num);rfl;rfl;omega;exact ht')|(apply air (r:=B);rfl;rfl;omega;exact e1')|apply abx|apply aa|apply abr|apply aaL|apply acG|apply adA|(apply acO;rfl)|(apply acM;rfl)|(apply ahQ;rfl)|(apply aep;rfl;rfl)|(apply aeq;rfl;rfl)|(apply aeC;rfl;rfl)|(apply aeX;rfl;rfl;omega)|(apply afS;rfl;rfl;omega)|(apply adX;rfl;rfl;first|exact q152 _|exact qn _|exact qd _)|(apply abA;rfl;rfl)|(apply abC;rfl;rfl)|(intro _;omega)|intro _
      all_goals try omega
      all_goals exact⟨.inr rfl,rfl,_,rfl,by rw[e];rfl,rfl⟩
 . rw[if_neg hc];unfold t191;repeat' first|apply abx|apply aa|apply abr|apply aaL|apply acG|apply ba|(apply acO;rfl)|(apply ahQ;rfl)|(apply aid;rfl)|(apply aeq;rfl;rfl)|(apply aeB;rfl;rfl)|(apply aeC;rfl;rfl)|(apply afS;rfl;rfl;omega)|(apply adX;rfl;rfl;first|exact q152 _)|(apply abA;rfl;rfl)|(apply abC;rfl;rfl)|(intro _;omega)|intro _
   all_goals try omega
   all_goals exact⟨.inr rfl,rfl,_,rfl,rfl,rfl⟩
structure NZ (M:ay):Prop where
 ft:M.FT=FT
 uw:∀(s:az) h,s.length<1000000->M.ext 152 [.str s] h=some ⟨.iV (cK s),h,[]⟩
 pM:∀(s:az) h,s.length<=18->s.all bT=true->M.ext 232 [.str s] h=some ⟨.iV (aU 0 s:Nat),h,[]⟩
theorem dec_lt {n k:Nat}(h:(bw n).length<=k):n<10^k:=by
 have:=nN (bw n) (ko n);rw[jv]at this;exact li this (gD ao h)
theorem adU (C:NZ M){q:Rat}(hl:(aT q).length<1000000):∃n d b,(b=true->n=q.num/\d=q.den/\ak q.num<1000000000/\q.den<1000000000)/\bm M 191 [.str (aT q)] [] ⟨.aw [.iV n,.iV d,.bool b],[],[]⟩:=by
 by_cases Cv:20<(aT q).length
 . refine⟨0,0,false,nofun,bX (by rw[C.ft];exact NA) ax ?_⟩;generalize aT q=s at *
   unfold zB;simp only[enter];repeat' first|apply abx|apply aa|apply abr|apply aaL|apply acG|apply ba|(apply acO;rfl)|(apply aeq;rfl;rfl)|(apply abA;rfl;rfl)|(apply abC;rfl;rfl)|(intro _;omega)|intro _
   all_goals try omega
   all_goals exact⟨.inr rfl,rfl,_,rfl,rfl,rfl⟩
 . obtain⟨hp,hc⟩:=pH q;obtain⟨v,hv⟩:∃u,u=bW 45 (aT q):=⟨_,rfl⟩;have hul:=rA 45 (aT q);have hsp:bR 47 v=(bw (ak q.num).toNat,if q.den=1 then none else some (bw q.den)):=by
    have n47:∀n,(47:UInt8)∉bw n:=fun n h=>by
     have:=List.all_eq_true.1 (ko n) _ h;exact absurd this ao
    rw[hv,hc];split
    . exact tX (n47 _)
    . exact tY (n47 _)
   have hk:cK v=(bw (ak q.num).toNat).length:=by unfold cK;rw[hsp]
   have hvt:v=if q.den=1 then bw (ak q.num).toNat else bw (ak q.num).toNat++47::bw q.den:=by rw[hv,hc]
   obtain⟨dl,hdl⟩:∃dl,dl=v.length-cK v:=⟨_,rfl⟩;have hdlen:q.den≠1->v.drop (cK v+1)=bw q.den/\cK v+1+(bw q.den).length=v.length:=fun h=>by
    rw[hk,hvt,if_neg h];constructor
    . rw[show bw (ak q.num).toNat++47::bw q.den=(bw (ak q.num).toNat++[47])++bw q.den by simp,jg ax];simp
    . simp;omega
   have hsgn:(if decide (q.num<0) then -((ak q.num).toNat:Int) else ((ak q.num).toNat:Int))=q.num:=by
    unfold ak;by_cases h:q.num<0
    . simp only[h,decide_true,if_true];omega
    . simp only[h,decide_false,if_false];show ((q.num.toNat:Nat):Int)=_;omega
   have tl:=fun a0 a5 a6 a7 lo wr=>adT (M:=M) (q:=q) (u:=v) (num:=bw (ak q.num).toNat) (k:=cK v) (dl:=dl) (decide (q.num<0)) hsgn hk (um v) (by rw[hv];omega) (by rw[hk,hvt];split <;> simp) (by rw[hk,hvt];split <;> simp[*]) hdlen hdl
     (fun h=>C.uw v h (by rw[hv];omega)) (fun hk9 h=>by
      have:=C.pM (bw (ak q.num).toNat) h ac (ko _);rw[jv]at this;exact this) (fun AO hd1 h=>by
      have:=C.pM (bw q.den) h (by have:=(hdlen hd1).2;omega) (ko _);rw[jv]at this;exact this) (fun hk9=>dec_lt (n:=(ak q.num).toNat) (k:=9) ac) a0 a5 a6 a7 lo wr
   have key:∃n d b,(b=true->n=q.num/\d=q.den/\ak q.num<1000000000/\q.den<1000000000)/\(if cK v<=9/\dl<=10 then AV.aw [.iV q.num,.iV q.den,.bool true] else .aw [.iV 0,.iV 0,.bool false]) = .aw [.iV n,.iV d,.bool b]:=by
    by_cases h:cK v<=9/\dl<=10
    . refine⟨q.num,q.den,true,fun _=>⟨rfl,rfl,?_,?_⟩,if_pos h⟩
      . have:=dec_lt (n:=(ak q.num).toNat) (k:=9) ac;have:=kl (x:=q.num);omega
      . by_cases hd1:q.den=1
        . omega
        . exact dec_lt (n:=q.den) (k:=9) (by have:=(hdlen hd1).2;omega)
    . exact⟨0,0,false,nofun,if_neg h⟩
   obtain⟨n,d,b,h1,h2⟩:=key;rw[h2]at tl;refine⟨n,d,b,h1,bX (by rw[C.ft];exact NA) ax ?_⟩;have hh:=NY q;have h0:=cP.2 (uA q);show W M zB _ (uy _ _);unfold zB;simp only[enter];by_cases hn:q.num<0
   . rw[decide_eq_true hn]at tl hp;have e1:(aT q).drop (je 1)=v:=by rw[hv];exact(tW hp).1
     obtain⟨_,h45⟩:=hh.2 hn;generalize aT q=s at *
     repeat' first|(exact tl _ _ _ _ _ _)|(apply air (r:=v);rfl;rfl;omega;exact e1)|apply abx|apply aa|apply abr|apply aaL|apply adA|(apply acO;rfl)|(apply acM;rfl)|(apply afg;rfl)|(apply aeq;rfl;rfl)|(apply afe;rfl;rfl)|(apply aeB;rfl;rfl)|(apply aii;rfl;rfl;omega)|(apply abA;rfl;rfl)|(apply abC;rfl;rfl)|(intro _;omega)|intro _
     all_goals try omega
   . rw[decide_eq_false hn]at tl hp;have e1:aT q=v:=by rw[hv];exact(kZ hp).symm
     have h45:¬(((aT q)[je 0]!).toNat:Int)=45:=fun h=>hn (hh.1 ⟨h0,h⟩)
     rw[e1]at Cv h0 h45 ⊢;repeat' first|(exact tl _ _ _ _ _ _)|apply abx|apply aa|apply abr|apply aaL|apply adA|(apply acM;rfl)|(apply afg;rfl)|(apply aeq;rfl;rfl)|(apply afe;rfl;rfl)|(apply aeB;rfl;rfl)|(apply aii;rfl;rfl;omega)|(apply abA;rfl;rfl)|(apply abC;rfl;rfl)|(intro _;omega)|intro _
     all_goals try omega
structure Oa (M:ay)(N:Nat):Prop where
 ft:M.FT=FT
 Gb:∀q,(aT q).length<1000000->∃n d b,(b=true->n=q.num/\d=q.den/\ak q.num<1000000000/\q.den<1000000000)/\∀h,M.ext 191 [.str (aT q)] h=some ⟨.aw [.iV n,.iV d,.bool b],h,[]⟩
 rI:∀q,(aT q).length<1000000->∃v1 v2,cG v1 q.num/\cG v2 (q.den:Nat)/\∀h,M.ext 170 [.str (aT q)] h=some ⟨.aw [v1,v2],h,[]⟩
 zI:∀{a b x y},cG a x->cG b y->ak x<dB^N->ak y<dB^N->∃v0,cG v0 (x*y)/\∀h,M.ext 194 [a,b] h=some ⟨v0,h,[]⟩
 Ob:∀{a b x y},cG a x->cG b y->ak x<dB^N->ak y<dB^N->∃v0,cG v0 (x+y)/\∀h,M.ext 193 [a,b] h=some ⟨v0,h,[]⟩
 uz:∀{a b x y} h,cG a x->cG b y->ak x<dB^N->ak y<dB^N->y≠0->M.ext 192 [a,b] h=some ⟨.str (aT (ci x y)),h,[]⟩
 Oc:∀(n d:Int) h,-9223372036854775808<=n/\n<9223372036854775808 -> -9223372036854775808<=d/\d<9223372036854775808->d≠0->M.ext 149 [.iV n,.iV d] h=some ⟨.str (aT (ci n d)),h,[]⟩
structure Fit (N k:Nat)(q:Rat):Prop where
 dq:Dq k q
 n0:ak q.num<dB^N
 d0:ak (q.den:Int)<dB^N
theorem fit {k:Nat}(hk:(10:Int)^(2*k+1)<=dB^N){q:Rat}(h:Dq k q):Fit N k q:=by
 have h1:=pG (m:=k) (n:=2*k+1) ac;exact⟨h,by have:=h.1;omega,by rw[fC ac];have:=h.2;omega⟩
theorem Gc {x y:Int}(hx:ak x<1000000000)(hy:ak y<1000000000) : -1000000000000000000<x*y/\x*y<1000000000000000000:=by
 have h:=yC (m:=9) (n:=9) hx hy;have e:(10:Int)^(9+9)=1000000000000000000:=by decide
 rw[e]at h;unfold ak at h;split at h <;> omega
theorem adV (C:Oa M N){k:Nat}(hk:(10:Int)^(2*k+1)<=dB^N){p q:Rat}(hp:Dq k p)(hq:Dq k q)(lp:(aT p).length<1000000)(lq:(aT q).length<1000000):bm M 139 [.str (aT p),.str (aT q)] [] ⟨.str (aT (p+q)),[],[]⟩:=by
 obtain⟨n,d,b,hb,q1⟩:=C.Gb p lp;obtain⟨m,e,b',hb',q2⟩:=C.Gb q lq;obtain⟨v1,v2,k1,k2,q3⟩:=C.rI p lp;obtain⟨v3,v4,k3,k4,q4⟩:=C.rI q lq;have fp:=fit hk hp;have fq:=fit hk hq;have dp:=den_pos (q:=p);have dq:=den_pos (q:=q);have b2:ak (p.den:Int)<10^k:=by rw[fC ac];exact hp.2
 have b4:ak (q.den:Int)<10^k:=by rw[fC ac];exact hq.2
 have e2:(10:Int)^(2*k+1)=10^(k+k)*10:=by rw[show 2*k+1=(k+k)+1 by omega];exact cD _ _
 have t0:=rD (k+k);have m1:=yC hp.1 b4;have m2:=yC hq.1 b2;have m3:=yC b2 b4;obtain⟨v5,k5,q5⟩:=C.zI k1 k4 fp.n0 fq.d0;obtain⟨v6,k6,q6⟩:=C.zI k3 k2 fq.n0 fp.d0;obtain⟨v7,k7,q7⟩:=C.Ob k5 k6 ac ac;obtain⟨v8,k8,q8⟩:=C.zI k2 k4 fp.d0 fq.d0;have hne:(p.den:Int)*q.den≠0:=Int.ne_of_gt (n5 dp dq);have q9:=fun h=>C.uz h k7 k8 (by have:=abc (x:=p.num*q.den) (y:=q.num*p.den);omega) ac hne
 rw[←Ec]at q9;obtain⟨_,_,_,rfl,_,o1,_⟩:=k1.shape;obtain⟨_,_,_,rfl,_,o2,_⟩:=k2.shape;obtain⟨_,_,_,rfl,_,o3,_⟩:=k3.shape;obtain⟨_,_,_,rfl,_,o4,_⟩:=k4.shape;refine bX (by rw[C.ft];exact adb) ax ?_;by_cases hbb:b=true/\b'=true
 . obtain⟨rfl,rfl⟩:=hbb;obtain⟨rfl,rfl,s1,s2⟩:=hb rfl;obtain⟨rfl,rfl,s3,s4⟩:=hb' rfl;have s2':ak (p.den:Int)<1000000000:=by rw[fC ac];omega
   have s4':ak (q.den:Int)<1000000000:=by rw[fC ac];omega
   have r1:=Gc s1 s4';have r2:=Gc s3 s2';have r3:=Gc s2' s4';have qa:=fun h=>C.Oc (p.num*q.den+q.num*p.den) (p.den*q.den) h ac ac hne
   rw[←Ec]at qa;clear q3 q4 q5 q6 q7 q8 q9;unfold FK;simp only[enter];generalize p.num=P at *
   generalize q.num=Q at *
   generalize (p.den:Int)=D at *
   generalize (q.den:Int)=E at *
   repeat' first|apply abx|apply aa|apply abr|apply aaL|apply acG|apply ba|(apply acO;rfl)|(apply afg;rfl)|(apply aeB;rfl;rfl)|(apply aeX;rfl;rfl;omega)|(apply aiE;rfl;rfl;omega)|(apply adX;rfl;rfl;first|exact q1 _|exact q2 _|exact qa _)|(apply abA;rfl;rfl)|(apply abC;rfl;rfl)
   all_goals exact⟨.inr rfl,rfl,_,rfl,rfl,rfl⟩
 . have hc:b=false\/b=true/\b'=false:=by cases b <;> cases b' <;> simp at hbb ⊢
   unfold FK;simp only[enter];rcases hc with rfl|⟨rfl,rfl⟩;all_goals
   . repeat' first|(apply aia;rfl;rfl;rfl;exact⟨rfl,bj _,by first|exact jx o1|exact jx o2|exact jx o3|exact jx o4⟩;rfl)|(apply ajd;rfl;rfl;rfl)|(apply adX;rfl;rfl;first|exact q1 _|exact q2 _|exact q3 _|exact q4 _|exact q5 _|exact q6 _|exact q7 _|exact q8 _|exact q9 _)|(apply ahR;rfl;rfl;(first|(simp only[nca];rfl)|rfl);first|exact q1 _|exact q2 _|exact q3 _|exact q4 _|exact q5 _|exact q6 _|exact q7 _|exact q8 _|exact q9 _)|apply abx|apply aa|apply abr|apply aaL|apply acG|apply adA|apply afU|apply agy|(apply ahl;rfl)|(apply ahb;rfl;rfl;(first|(simp only[nca];rfl)|rfl))|(apply acM;rfl)|(apply afg;rfl)|(apply ahU;rfl)|(apply aeB;rfl;rfl)|(apply aeC;rfl;rfl)|(apply aes;rfl;rfl;rfl)|(apply abA;rfl;rfl)|(apply abC;rfl;rfl)
     all_goals exact⟨.inr rfl,rfl,_,rfl,rfl,rfl⟩
theorem adW (hft:M.FT=FT){p q:Rat}(q113:∀h,M.ext 113 [.str (aT q)] h=some ⟨.str (aT (-q)),h,[]⟩)(q139:∀h,M.ext 139 [.str (aT p),.str (aT (-q))] h=some ⟨.str (aT (p + -q)),h,[]⟩):bm M 128 [.str (aT p),.str (aT q)] [] ⟨.str (aT (p-q)),[],[]⟩:=by
 rw[Rat.sub_eq_add_neg];refine bX (by rw[hft];exact ade) ax ?_;unfold NF;simp only[enter];repeat' first|apply abx|apply aa|apply abr|apply aaL|apply acG|(apply adX;rfl;rfl;first|exact q113 _|exact q139 _)|(apply abA;rfl;rfl)|(apply abC;rfl;rfl)
 all_goals exact⟨.inr rfl,rfl,_,rfl,rfl,rfl⟩
theorem w48 (hft:M.FT=FT){p q:Rat}(q128:∀h,M.ext 128 [.str (aT p),.str (aT q)] h=some ⟨.str (aT (p-q)),h,[]⟩)(q105:∀h,M.ext 105 [.str (aT (p-q))] h=some ⟨.iV (bE (p-q).num),h,[]⟩):bm M 48 [.str (aT p),.str (aT q)] [] ⟨.iV (bE (p-q).num),[],[]⟩:=by
 refine bX (by rw[hft];exact adf) ax ?_;unfold NG;simp only[enter];repeat' first|apply abx|apply aa|apply abr|apply aaL|apply acG|(apply adX;rfl;rfl;first|exact q128 _|exact q105 _)|(apply abA;rfl;rfl)|(apply abC;rfl;rfl)
 all_goals exact⟨.inr rfl,rfl,_,rfl,rfl,rfl⟩
end Go.Ab.Ch5.N
