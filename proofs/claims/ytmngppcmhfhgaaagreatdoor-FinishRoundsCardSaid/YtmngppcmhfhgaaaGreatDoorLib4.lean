/-
  Own work: integers of any size: products.
-/
import Derived.Test.YtmngppcmhfhgaaaGreatDoorLib3
import Derived.Test.YtmngppcmhfhgaaaGreatDoorCh5Base
import Derived.Test.YtmngppcmhfhgaaaGreatDoorLib2
import Derived.Test.YtmngppcmhfhgaaaGreatDoorLib1
import Derived.Lib.Bytealg
open Bool renaming and_eq_true→bZ,true_and→c5,false_and→dz,and_true→iq,false_eq_true→i8,false_or→j8,not_true→j9,true_or→mp,not_false→n9,and_false→oZ,and_self→pi
open ByteArray renaming mk→br,size→n7
open Int renaming mul_le_mul_of_nonneg_right→ce,mul_le_mul_of_nonneg_left→ci,gcd→cZ,pow_succ→dc,emod_lt_of_pos→de,lt_of_lt_of_le→du,gcd_pos_of_ne_zero_right→d9,mul_lt_mul_of_pos_right→fo,toNat_natCast→fu,le_of_lt→fY,emod_nonneg→gD,lt_of_le_of_lt→gF,le_trans→gT,ediv_eq_of_eq_mul_right→iI,tmod_eq_emod_of_nonneg→i5,pow_add→jg,mul_ediv_cancel_left→jj,ediv_le_self→jt,mul_ediv_add_emod→j2,pow_pos→j3,mul_one→j4,gcd_comm→k9,gcd_dvd_right→lc,pow_zero→le,neg_mul→m6,neg_neg→m7,mul_neg→m8,ediv_nonneg→nD,pow_nonneg→n8,toNat→pu
open List renaming getElem?_eq_getElem→bj,getElem!_eq_getElem?_getD→b9,length_cons→cD,length_take→cP,all_eq_true→cT,all_append→c6,nil_append→c7,append_nil→c9,length_append→dg,getElem_mem→d6,eq_nil_of_length_eq_zero→d7,all_cons→eL,drop_eq_getElem_cons→f7,dropWhile_cons→f9,length_pos_iff→gc,eq_nil_or_concat→g9,concat_eq_append→ii,range→ip,replicate→i7,getElem?_append_left→i9,mem_of_find?_eq_some→je,drop_length→jV,mem_range→j5,mem_singleton→kT,all_nil→li,append_assoc→l9,cons_append→m5,foldl_cons→n3,find?_some→n4,mem_cons→pm,map_cons→pp
open Nat renaming le_refl→be,le_trans→cC,pow_succ→d8,mul_comm→f6,mul_assoc→gC,mul_le_mul_right→iH,eq_zero_or_pos→i6,mod_eq_of_lt→jN,zero_add→j0,strongRecOn→j1,pow_le_pow_right→j7,mod_lt→kO,add_mul→ne,zero_le→nk,gcd→py
open Option renaming some→j6,map→pN
open Rat renaming divInt→bA,num_divInt_den→kw,neg_num→m9,num_divInt→n5,den_divInt→n6
open UInt8 renaming toNat_inj→eA
set_option maxHeartbeats 8000000
set_option maxRecDepth 20000
namespace Go.Ab.Ch5.N
open Go.Ab.bB
variable {M:ay} {cap:Option Nat} {N:Nat}
def t199:al:=
 zR [zt 50 2 2,
      z1 51 219 50,
      zn 49 51,
      ze 52 0 49,
      ze 53 1 49,
      zw 7 52,
      zw 8 53]
    (
     zR [zt 55 2 3,
       z1 56 219 55,
       zn 54 56,
       ze 57 0 54,
       ze 58 1 54,
       zw 9 57,
       zw 10 58]
     (
      zR [zm 59 7,
        zm 60 9,
        ⟨(.l 61),.eq true .bool (.l 59) (.l 60),none⟩,
        zm 62 8,
        zm 63 10,
        z2 64 262 62 63,
        z2 65 261 61 64,
        zs 2 4 65]
      (.ret)))
theorem kl {x:Int}:0<=ak x:=by unfold ak;split <;> omega
theorem Kq {x y:Int}(h:x<0↔y<0):ak x*ak y=x*y:=by
 unfold ak;by_cases h1:x<0
 . rw[if_pos h1,if_pos (h.1 h1),Int.neg_mul_neg]
 . rw[if_neg h1,if_neg (fun h2=>h1 (h.2 h2))]
theorem Kr {x y:Int}(h:¬(x<0↔y<0)) : -(ak x*ak y)=x*y:=by
 unfold ak;by_cases h1:x<0
 . rw[if_pos h1,if_neg (fun h2=>h ⟨fun _=>h2,fun _=>h1⟩),m6,m7]
 . rw[if_neg h1,if_pos (Decidable.byContradiction fun h2=>h ⟨fun h3=>absurd h3 h1,fun h3=>absurd h3 h2⟩),m8,m7]
theorem Xl {l m r:List Int}(C:CI M N)(ok:okW wB r)(nr:bg r)(okl:okW wB l)(okm:okW wB m)(hr:WV wB r=WV wB l*WV wB m)(hl:WV wB l<wB^N)(hm:WV wB m<wB^N):r.length<=1000001:=by
 have hN:=C.lN;have hp:wB^(N+N)=wB^N*wB^N:=jg _ _ _;have l0:=cX (b:=wB) ao okl;have m0:=cX (b:=wB) ao okm;have hp0:0<wB^N:=j3 ao;have h1:WV wB l*WV wB m<wB^N*wB^N:=by
  have a1:=ci (fY hm) l0;have a2:=fo hl hp0;omega
 exact cC (ib (b:=wB) ao ok nr (n:=N+N) (by rw[hr,hp];exact h1)) ac
theorem Xm (C:CI M N){s s' za zb:Int}{wa wb:AV}(ha:aV (.agg [.iV s,wa]) za)(hb:aV (.agg [.iV s',wb]) zb)(lza:ak za<wB^N)(lzb:ak zb<wB^N) :
 ∃v0,aV v0 (za*zb)/\∀a0 a1 a5 a6 a7 a8 a9 aA lo wr,W M t199 ⟨⟨[a0,a1,.ptr 0 0,.ptr 1 0,.ptr 2 0,a5,a6,a7,a8,a9,aA],lo,[some (.cells [.iV s,wa] 171),some (.cells [.iV s',wb] 171),some (.cells [.iV 0,.ah] 171)],[]⟩,wr⟩ (mK v0 [.cell 2 true (.p 4)]):=by
 obtain⟨x,l,hx,okl,nrl,vl,q219a⟩:=C.nJ _ za ha;obtain⟨y,m,hy,okm,nrm',vm,q219b⟩:=C.nJ _ zb hb;have ll:=C.len okl nrl vl lza;have lm:=C.len okm nrm' vm lzb;obtain⟨r,okr,nrr,vr,q262⟩:=C.Ko x l y m hx hy okl okm ll lm;have lr:=Xl C okr nrr okl okm vr (by rw[vl];exact lza) (by rw[vm];exact lzb);rw[vl,vm]at vr;by_cases hs:za<0↔zb<0
 . obtain⟨v0,h0,q261⟩:=C.kX false (.vs (aq r) r.length none) r (.inl rfl) okr nrr lr;have h0:aV v0 (za*zb):=by rw[←Kq hs,←vr];exact h0
   refine⟨v0,h0,fun a0 a1 a5 a6 a7 a8 a9 aA lo wr=>?_⟩;have out:=fun hh=>h0.out (hh:=hh)
   unfold t199;by_cases h:za<0 <;> by_cases h':zb<0 <;> simp only[h,h',decide_true,decide_false]at hs q219a q219b
   all_goals first|(exfalso;revert hs;decide)|skip
   all_goals
   . cases h0;all_goals
     . repeat' first|apply abx|apply aa|apply abr|apply aaL|apply acG|(apply adX;rfl;rfl;first|exact q219a _|exact q219b _|exact q262 _|exact q261 _)|(apply aev;rfl;rfl;rfl)|(apply ahX;rfl;rfl;rfl)|(apply abA;rfl;rfl)|(apply abC;rfl;rfl)
       all_goals exact cV rfl rfl (out _)
 . obtain⟨v0,h0,q261⟩:=C.kX true (.vs (aq r) r.length none) r (.inl rfl) okr nrr lr;have h0:aV v0 (za*zb):=by rw[←Kr hs,←vr];exact h0
   refine⟨v0,h0,fun a0 a1 a5 a6 a7 a8 a9 aA lo wr=>?_⟩;have out:=fun hh=>h0.out (hh:=hh)
   unfold t199;by_cases h:za<0 <;> by_cases h':zb<0 <;> simp only[h,h',decide_true,decide_false]at hs q219a q219b
   all_goals first|(exfalso;revert hs;decide)|skip
   all_goals
   . cases h0;all_goals
     . repeat' first|apply abx|apply aa|apply abr|apply aaL|apply acG|(apply adX;rfl;rfl;first|exact q219a _|exact q219b _|exact q262 _|exact q261 _)|(apply aev;rfl;rfl;rfl)|(apply ahX;rfl;rfl;rfl)|(apply abA;rfl;rfl)|(apply abC;rfl;rfl)
       all_goals exact cV rfl rfl (out _)
theorem Xn (C:CI M N){a b:AV}{za zb:Int}(ha:aV a za)(hb:aV b zb)(lza:ak za<wB^N)(lzb:ak zb<wB^N):∃v0,aV v0 (za*zb)/\dD M 199 [a,b] v0:=by
 have main:∀{s s':Int} {wa wb:AV},a = .agg [.iV s,wa]->b = .agg [.iV s',wb]->∃v0,aV v0 (za*zb)/\∀a0 a1 a5 a6 a7 a8 a9 aA lo wr,W M t199 ⟨⟨[a0,a1,.ptr 0 0,.ptr 1 0,.ptr 2 0,a5,a6,a7,a8,a9,aA],lo,[some (.cells [.iV s,wa] 171),some (.cells [.iV s',wb] 171),some (.cells [.iV 0,.ah] 171)],[]⟩,wr⟩ (mK v0 [.cell 2 true (.p 4)]):=
  fun e1 e2=>Xm C (e1 ▸ ha) (e2 ▸ hb) lza lzb
 cases ha with
 | small h=>
  cases hb with
  | small h'=>
   have q260a:=fun k=>C.tv za k h
   have q260b:=fun k=>C.tv zb k h'
   have ga:0<=ak za/\ak za<18446744073709551616:=by unfold ak;split <;> omega
   have gb:0<=ak zb/\ak zb<18446744073709551616:=by unfold ak;split <;> omega
   have q259:=fun k=>C.pw (ak za) (ak zb) k ga gb
   have hm:=xk ga gb;have ms:=@Kq za zb;have md:=@Kr za zb;obtain⟨m,hmm⟩:∃m,m=ak za*ak zb:=⟨_,rfl⟩;rw[←hmm]at q259 hm ms md;by_cases hbig:m<=9223372036854775807
   . by_cases hs:za<0↔zb<0
     . refine⟨.agg [.iV m,.ah],by rw[←ms hs];exact .small ac,?_⟩;refine dH (by rw[C.ft];exact tx) ax ?_;have e:m%18446744073709551616=m:=by omega
       have e2:m/18446744073709551616=0:=by omega
       rw[e,e2]at q259;unfold rl;simp only[enter];by_cases h1:za<0 <;> by_cases h2:zb<0
       all_goals try omega
       all_goals
       . repeat' first|(apply ahR;rfl;rfl;(first|(simp only[nca];rfl)|rfl);first|exact q260a _|exact q260b _|exact q259 _)|apply abx|apply aa|apply abr|apply aaL|apply acG|apply adA|apply ba|apply afU|apply agy|(apply ahl;rfl)|(apply ahb;rfl;rfl;(first|(simp only[nca];rfl)|rfl))|(apply acO;rfl)|(apply acM;rfl)|(apply afg;rfl)|(apply aep;rfl;rfl)|(apply aiw;rfl;rfl)|(apply afe;rfl;rfl)|(apply aiL;rfl;omega)|(apply aeB;rfl;rfl)|(apply aik;rfl;rfl;exact⟨rfl,by first|exact be _|decide|(simp[overwrite]),rfl⟩;rfl)|(apply aie;rfl;(first|(focus((repeat' first|exact cj|assumption|apply cB);done))|exact cQ ax);rfl)|(apply aes;rfl;rfl;rfl)|(apply abA;rfl;rfl)|(apply abC;rfl;rfl)|(intro _;omega)|intro _
         all_goals try omega
         all_goals exact cV rfl rfl (.same rfl rfl)
     . refine⟨.agg [.iV (-m),.ah],by rw[←md hs];exact .small ac,?_⟩;refine dH (by rw[C.ft];exact tx) ax ?_;have e:m%18446744073709551616=m:=by omega
       have e2:m/18446744073709551616=0:=by omega
       rw[e,e2]at q259;unfold rl;simp only[enter];by_cases h1:za<0 <;> by_cases h2:zb<0
       all_goals try omega
       all_goals
       . repeat' first|(apply ahR;rfl;rfl;(first|(simp only[nca];rfl)|rfl);first|exact q260a _|exact q260b _|exact q259 _)|apply abx|apply aa|apply abr|apply aaL|apply acG|apply ba|apply afU|apply agy|(apply ahl;rfl)|(apply ahb;rfl;rfl;(first|(simp only[nca];rfl)|rfl))|(apply acO;rfl)|(apply afg;rfl)|(apply aep;rfl;rfl)|(apply aiw;rfl;rfl)|(apply afe;rfl;rfl)|(apply aiL;rfl;omega)|(apply aeB;rfl;rfl)|(apply aik;rfl;rfl;exact⟨rfl,by first|exact be _|decide|(simp[overwrite]),rfl⟩;rfl)|(apply aie;rfl;(first|(focus((repeat' first|exact cj|assumption|apply cB);done))|exact cQ ax);rfl)|(apply aja;rfl;omega)|(apply aes;rfl;rfl;rfl)|(apply abA;rfl;rfl)|(apply abC;rfl;rfl)|(intro _;omega)|intro _
         all_goals try omega
         all_goals exact cV rfl rfl (.same rfl rfl)
   . obtain⟨v0,h0,tl⟩:=main rfl rfl;refine⟨v0,h0,dH (by rw[C.ft];exact tx) ax ?_⟩;unfold rl;simp only[enter];repeat' first|(exact tl _ _ _ _ _ _ _ _ _ _)|(apply ahR;rfl;rfl;(first|(simp only[nca];rfl)|rfl);first|exact q260a _|exact q260b _|exact q259 _)|apply abx|apply aa|apply abr|apply aaL|apply adA|apply afU|apply agy|(apply ahl;rfl)|(apply ahb;rfl;rfl;(first|(simp only[nca];rfl)|rfl))|(apply acO;rfl)|(apply acM;rfl)|(apply afg;rfl)|(apply ahU;rfl)|(apply aiw;rfl;rfl)|(apply afe;rfl;rfl)|(apply aeB;rfl;rfl)|(apply aeC;rfl;rfl)|(apply aie;rfl;(first|(focus((repeat' first|exact cj|assumption|apply cB);done))|exact cQ ax);rfl)|(apply aes;rfl;rfl;rfl)|(apply abA;rfl;rfl)|(apply abC;rfl;rfl)|(intro _;omega)|intro _
     all_goals try omega
  | @gn σ z w hs ok nr hw hz=>
   cases w with
   | nil=>simp[WV]at hw
   | cons y w=>
   obtain⟨v0,h0,tl⟩:=main rfl rfl;refine⟨v0,h0,dH (by rw[C.ft];exact tx) ax ?_⟩;unfold rl;simp only[enter];repeat' first|(exact tl _ _ _ _ _ _ _ _ _ _)|apply abx|apply aa|apply abr|apply aaL|apply adA|(apply acM;rfl)|(apply afg;rfl)|(apply aeB;rfl;rfl)|(apply aie;rfl;(first|(focus((repeat' first|exact cj|assumption|apply cB);done))|exact cQ ax);rfl)|(apply aes;rfl;rfl;rfl)|(apply abA;rfl;rfl)
 | @gn σ z w hs ok nr hw hz=>
  cases w with
  | nil=>simp[WV]at hw
  | cons y w=>
  cases hb;all_goals
  . obtain⟨v0,h0,tl⟩:=main rfl rfl;refine⟨v0,h0,dH (by rw[C.ft];exact tx) ax ?_⟩;unfold rl;simp only[enter];repeat' first|(exact tl _ _ _ _ _ _ _ _ _ _)|apply abx|apply aa|apply abr|apply aaL|apply adA|(apply acM;rfl)|(apply ahU;rfl)|(apply aeC;rfl;rfl)|(apply aie;rfl;(first|(focus((repeat' first|exact cj|assumption|apply cB);done))|exact cQ ax);rfl)|(apply aes;rfl;rfl;rfl)|(apply abA;rfl;rfl)
structure CD (M:ay)(N:Nat):Prop extends CJ M N where
 n1:1<=N
 nL:∀s h,M.ext 196 [.iV s] h=some ⟨.agg [.iV s,.ah],h,[]⟩
 Ks:∀x l y m,dR x l->dR y m->okW wB l->okW wB m->bg l->bg m->l.length<=500000->m.length<=500000->m≠[]->∃qv q rv r,dR qv q/\dR rv r/\okW wB q/\bg q/\okW wB r/\bg r/\WV wB q=WV wB l/WV wB m/\WV wB r=WV wB l%WV wB m/\∀h,M.ext 220 [x,y] h=some ⟨.aw [qv,rv],h,[]⟩
def t299:al:=
 zR [zt 52 2 2,
      z1 53 219 52,
      zn 51 53,
      ze 54 0 51,
      ze 55 1 51,
      zw 8 54,
      zw 9 55]
    (
     zR [zt 57 2 3,
       z1 58 219 57,
       zn 56 58,
       ze 59 0 56,
       ze 60 1 56,
       zn 10 59,
       zw 10 60]
     (
      zR [zm 62 9,
        zm 63 10,
        z2 64 220 62 63,
        zn 61 64,
        ze 65 0 61,
        ze 66 1 61,
        zw 11 65,
        zw 12 66]
      (
       zR [zm 67 8,
         zm 68 11,
         z2 69 261 67 68,
         zm 70 8,
         zm 71 12,
         z2 72 261 70 71,
         ⟨(.p 13),.alloc 171 [.iV (0),.ah],none⟩,
         ⟨(.p 14),.alloc 171 [.iV (0),.ah],none⟩,
         zs 2 13 69,
         zs 2 14 72]
       (
        .seq (zR [zt 73 2 14,
           z1 74 230 73,
           zc 75 .lss 74 0]
         (
          .cond (.l 75)
          (.draw [(zt 76 2 13,[]),
            (⟨(.l 77),.call (kF 196) [(kI 1)],none⟩,[0]),
            (z2 78 263 76 77,[]),
            (zt 79 2 14,[0,1,2]),
            (zt 80 2 3,[0,1,2,3]),
            (z2 81 253 79 80,[]),
            (zs 2 13 78,[]),
            (zs 2 14 81,[])])
          (.skip)))
        (
         .seq (.draw [(zt 82 2 13,[]),
           (zt 83 2 14,[0]),
           (zs 2 4 82,[1]),
           (zs 2 5 83,[])])
         (.ret))))))
theorem Xo {x y:Int}(hy:0<y):(x.tmod y<0->x/y=x.tdiv y-1/\x%y=x.tmod y+y)/\(0<=x.tmod y->x/y=x.tdiv y/\x%y=x.tmod y)/\(-y<x.tmod y/\x.tmod y<y):=by
 have e:=Int.mul_tdiv_add_tmod x y;have hb : -y<x.tmod y/\x.tmod y<y:=by
  rcases Int.le_total 0 x with h|h
  . rw[i5 h];have:=gD x (show y≠0 by omega);have:=de x hy;omega
  . have e:x.tmod y = -(-x%y):=by
     rw[←i5 (show 0 <= -x by omega),Int.neg_tmod];omega
    have:=gD (-x) (show y≠0 by omega);have:=de (-x) hy;omega
 refine⟨fun h=>?_,fun h=>?_,hb⟩
 . obtain⟨h1,h2⟩:=pz (x:=x) (y:=y) (q:=x.tdiv y-1) (r:=x.tmod y+y) (by rw[Int.mul_sub,j4];omega) ac ac;exact⟨h1.symm,h2.symm⟩
 . obtain⟨h1,h2⟩:=pz (x:=x) (y:=y) (q:=x.tdiv y) (r:=x.tmod y) ac h hb.2;exact⟨h1.symm,h2.symm⟩
theorem Xp {x y q r:Int}(hy:0<y)(hx:x<0)(hq:q = -x/y)(hr:r = -x%y):(r=0->x/y = -q/\x%y=0)/\(r≠0->x/y = -q-1/\x%y=y-r)/\(0<=r/\r<y)/\0<=q/\q <= -x:=by
 have e:=j2 (-x) y;have r0:=gD (-x) (show y≠0 by omega);have r1:=de (-x) hy;have q0:0 <= -x/y:=nD ac ac;have q1 : -x/y <= -x:=jt _ ac;rw[←hq,←hr]at e;rw[←hr]at r0 r1;rw[←hq]at q0 q1;refine⟨fun h=>?_,fun h=>?_,⟨r0,r1⟩,q0,q1⟩
 . obtain⟨h1,h2⟩:=pz (x:=x) (y:=y) (q:=-q) (r:=0) (by rw[m8];omega) ac hy;exact⟨h1.symm,h2.symm⟩
 . obtain⟨h1,h2⟩:=pz (x:=x) (y:=y) (q:=-q-1) (r:=y-r) (by rw[Int.mul_sub,m8,j4];omega) ac ac;exact⟨h1.symm,h2.symm⟩
theorem DV {a b:AV}{x y:Int}{hh:ab}(ha:aV a x)(hb:aV b y):fG (bk [a,b]) hh (.aw [a,b]):=by
 cases ha;all_goals
 . cases hb;all_goals exact .same (by simp[bk,AV.top,bO,iT]) (by simp[bk,bS,dh,mJ])
theorem fC {x:Int}(h:0<=x):ak x=x:=if_neg ac
theorem Xq (C:CD M N):(1:Int)<wB^N:=by
 have h:=iS (b:=wB) ao (m:=1) (n:=N) C.n1;have h3:wB^1=18446744073709551616:=rfl;omega
theorem Xr (C:CD M N){s s' za zb:Int}{wa wb:AV}(ha:aV (.agg [.iV s,wa]) za)(hb:aV (.agg [.iV s',wb]) zb)(lza:ak za<wB^N)(lzb:ak zb<wB^N)(hpos:0<zb) :
 ∃q r,aV q (za/zb)/\aV r (za%zb)/\∀a0 a1 a6 a7 a8 a9 aA aB aC aD aE lo wr,W M t299 ⟨⟨[a0,a1,.ptr 0 0,.ptr 1 0,.ptr 2 0,.ptr 3 0,a6,a7,a8,a9,aA,aB,aC,aD,aE],lo,[some (.cells [.iV s,wa] 171),some (.cells [.iV s',wb] 171),some (.cells [.iV 0,.ah] 171),some (.cells [.iV 0,.ah] 171)],[]⟩,wr⟩ (mK (.aw [q,r]) [.cell 2 true (.p 4),.cell 2 true (.p 5)]):=by
 obtain⟨x,l,hx,okl,nrl,vl,q219a⟩:=C.nJ _ za ha;obtain⟨y,m,hy,okm,nrm',vm,q219b⟩:=C.nJ _ zb hb;have ll:=C.len okl nrl vl lza;have lm:=C.len okm nrm' vm lzb;have hb0:¬zb<0:=by omega
 rw[fC ac]at vm lzb;have mne:m≠[]:=fun e=>by rw[e]at vm;simp[WV]at vm;omega
 obtain⟨qv,q,rv,r,hq,hr,okq,nrq,okr,nrr,vq,vr,q220⟩:=C.Ks x l y m hx hy okl okm nrl nrm' ll lm mne;rw[vl,vm]at vq vr;have q0:=cX (b:=wB) ao okq;have r0:=cX (b:=wB) ao okr;have a0:=kl (x:=za);have q1:WV wB q<=ak za:=by rw[vq];exact jt _ a0
 have r1:WV wB r<zb:=by rw[vr];exact de _ hpos
 have lN:=C.lN;have lq:q.length<=1000001:=cC (ib (b:=wB) ao okq nrq (n:=N) ac) ac;have lr:r.length<=1000001:=cC (ib (b:=wB) ao okr nrr (n:=N) ac) ac;simp only[hb0,decide_false]at q219b;by_cases hn:za<0
 . simp only[hn,decide_true]at q219a;rw[show ak za = -za from if_pos hn]at vq vr q1 lza;obtain⟨d1,d2,d3,d4,d5⟩:=Xp hpos hn vq vr;obtain⟨vQ,hQ,q261q⟩:=C.kX true qv q hq okq nrq lq;obtain⟨vR,hR,q261r⟩:=C.kX true rv r hr okr nrr lr;have hQ:aV vQ (-WV wB q):=hQ;have hR:aV vR (-WV wB r):=hR;have q230:=C.nK vR _ hR;by_cases hz:WV wB r=0
   . obtain⟨e1,e2⟩:=d1 hz;rw[show bE (-WV wB r)=0 by rw[hz];rfl]at q230;refine⟨vQ,vR,by rw[e1];exact hQ,by rw[e2];rw[hz]at hR;exact hR,fun a0 a1 a6 a7 a8 a9 aA aB aC aD aE lo wr=>?_⟩;have out:=fun hh=>DV (hh:=hh) hQ hR
     unfold t299;cases hQ;all_goals
     . cases hR;all_goals
       . repeat' first|apply abx|apply aa|apply abr|apply aaL|apply acG|apply adA|apply afU|apply agy|(apply ahb;rfl;rfl;(first|(simp only[nca];rfl)|rfl))|(apply ahY;rfl;(first|(simp only[nca];rfl)|rfl);(first|(simp only[nca];rfl)|rfl))|(apply acM;rfl)|(apply aep;rfl;rfl)|(apply adX;rfl;rfl;first|exact q219a _|exact q219b _|exact q220 _|exact q261q _|exact q261r _|exact q230 _)|(apply aev;rfl;rfl;rfl)|(apply aes;rfl;rfl;rfl)|(apply ahX;rfl;rfl;rfl)|(apply abA;rfl;rfl)|(apply abC;rfl;rfl)|(intro _;omega)|intro _
         all_goals try omega
         all_goals exact cV rfl rfl (out _)
   . obtain⟨e1,e2⟩:=d2 hz;rw[show bE (-WV wB r) = -1 from if_pos ac]at q230;have q196:=C.nL 1;have h1:=Xq C;obtain⟨vS,hS,q263⟩:=C.DU vQ _ _ 1 hQ (.small ao) (by rw[kj,fC q0];omega) h1;obtain⟨vT,hT,q253⟩:=C.xC vR _ _ zb hR hb (by rw[kj,fC r0];omega) (by rw[fC ac];exact lzb);have hS:aV vS (za/zb):=by rw[e1];exact hS
     have hT:aV vT (za%zb):=by rw[e2,show zb-WV wB r = -WV wB r+zb by omega];exact hT
     refine⟨vS,vT,hS,hT,fun a0 a1 a6 a7 a8 a9 aA aB aC aD aE lo wr=>?_⟩;have out:=fun hh=>DV (hh:=hh) hS hT
     unfold t299;cases hQ;all_goals
     . cases hR;all_goals
       . cases hS;all_goals
         . cases hT;all_goals
           . repeat' first|(apply ahR;rfl;rfl;(first|(simp only[nca];rfl)|rfl);first|exact q196 _|exact q263 _|exact q253 _)|apply abx|apply aa|apply abr|apply aaL|apply acG|apply afU|apply agy|(apply ahb;rfl;rfl;(first|(simp only[nca];rfl)|rfl))|(apply ahY;rfl;(first|(simp only[nca];rfl)|rfl);(first|(simp only[nca];rfl)|rfl))|(apply acO;rfl)|(apply aep;rfl;rfl)|(apply adX;rfl;rfl;first|exact q219a _|exact q219b _|exact q220 _|exact q261q _|exact q261r _|exact q230 _)|(apply aev;rfl;rfl;rfl)|(apply aes;rfl;rfl;rfl)|(apply ahX;rfl;rfl;rfl)|(apply abA;rfl;rfl)|(apply abC;rfl;rfl)|(intro _;omega)|intro _
             all_goals try omega
             all_goals exact cV rfl rfl (out _)
 . simp only[hn,decide_false]at q219a;rw[show ak za=za from if_neg hn]at vq vr;obtain⟨vQ,hQ,q261q⟩:=C.kX false qv q hq okq nrq lq;obtain⟨vR,hR,q261r⟩:=C.kX false rv r hr okr nrr lr;have hQ:aV vQ (za/zb):=by rw[←vq];exact hQ
   have q230:=C.nK vR _ hR;have hR:aV vR (za%zb):=by rw[←vr];exact hR
   obtain⟨g,hg⟩:∃g,g=bE (gV false (WV wB r)):=⟨_,rfl⟩;have g0:0<=g:=by rw[hg];unfold bE gV;simp;split <;> omega
   rw[←hg]at q230;refine⟨vQ,vR,hQ,hR,fun a0 a1 a6 a7 a8 a9 aA aB aC aD aE lo wr=>?_⟩;have out:=fun hh=>DV (hh:=hh) hQ hR
   unfold t299;cases hQ;all_goals
   . cases hR;all_goals
     . repeat' first|apply abx|apply aa|apply abr|apply aaL|apply acG|apply adA|apply afU|apply agy|(apply ahb;rfl;rfl;(first|(simp only[nca];rfl)|rfl))|(apply ahY;rfl;(first|(simp only[nca];rfl)|rfl);(first|(simp only[nca];rfl)|rfl))|(apply acM;rfl)|(apply aep;rfl;rfl)|(apply adX;rfl;rfl;first|exact q219a _|exact q219b _|exact q220 _|exact q261q _|exact q261r _|exact q230 _)|(apply aev;rfl;rfl;rfl)|(apply aes;rfl;rfl;rfl)|(apply ahX;rfl;rfl;rfl)|(apply abA;rfl;rfl)|(apply abC;rfl;rfl)|(intro _;omega)|intro _
       all_goals try omega
       all_goals exact cV rfl rfl (out _)
theorem Xs (C:CD M N){a b:AV}{za zb:Int}(ha:aV a za)(hb:aV b zb)(lza:ak za<wB^N)(lzb:ak zb<wB^N)(hpos:0<zb):∃q r,aV q (za/zb)/\aV r (za%zb)/\dD M 299 [a,b] (.aw [q,r]):=by
 have main:∀{s s':Int} {wa wb:AV},a = .agg [.iV s,wa]->b = .agg [.iV s',wb]->∃q r,aV q (za/zb)/\aV r (za%zb)/\∀a0 a1 a6 a7 a8 a9 aA aB aC aD aE lo wr,W M t299 ⟨⟨[a0,a1,.ptr 0 0,.ptr 1 0,.ptr 2 0,.ptr 3 0,a6,a7,a8,a9,aA,aB,aC,aD,aE],lo,[some (.cells [.iV s,wa] 171),some (.cells [.iV s',wb] 171),some (.cells [.iV 0,.ah] 171),some (.cells [.iV 0,.ah] 171)],[]⟩,wr⟩ (mK (.aw [q,r]) [.cell 2 true (.p 4),.cell 2 true (.p 5)]):=
  fun e1 e2=>Xr C (e1 ▸ ha) (e2 ▸ hb) lza lzb hpos
 cases ha with
 | small h=>
  cases hb with
  | small h'=>
   by_cases hmin:za = -9223372036854775808
   . obtain⟨q,r,hq,hr,tl⟩:=main rfl rfl;refine⟨q,r,hq,hr,dH (by rw[C.ft];exact tz) ax ?_⟩;unfold rm;simp only[enter];repeat' first|(exact tl _ _ _ _ _ _ _ _ _ _ _ _ _)|apply abx|apply aa|apply abr|apply aaL|apply adA|(apply acM;rfl)|(apply afg;rfl)|(apply agx;rfl;rfl)|(apply aeB;rfl;rfl)|(apply aev;rfl;rfl;rfl)|(apply aes;rfl;rfl;rfl)|(apply abA;rfl;rfl)|(intro _;omega)|intro _
     all_goals try omega
   . obtain⟨d1,d2,d3⟩:=Xo (x:=za) hpos;have hq : -9223372036854775807<=za.tdiv zb/\za.tdiv zb<=9223372036854775807:=by
      have h1:(za.tdiv zb).natAbs<=za.natAbs:=by rw[Int.natAbs_tdiv];exact Nat.div_le_self _ _
      omega
     by_cases hr:za.tmod zb<0
     . obtain⟨e1,e2⟩:=d1 hr;refine⟨_,_,by rw[e1];exact .small ac,by rw[e2];exact .small ac,dH (by rw[C.ft];exact tz) ax ?_⟩;unfold rm;simp only[enter];repeat' first|apply abx|apply aa|apply abr|apply aaL|apply acG|apply ba|(apply ahZ;rfl)|(apply acO;rfl)|(apply afg;rfl)|(apply aep;rfl;rfl)|(apply agx;rfl;rfl)|(apply aeB;rfl;rfl)|(apply aeX;rfl;rfl;omega)|(apply afS;rfl;rfl;omega)|(apply ais;rfl;rfl;omega)|(apply aiV;rfl;rfl;omega;omega)|(apply aev;rfl;rfl;rfl)|(apply aes;rfl;rfl;rfl)|(apply ahX;rfl;rfl;rfl)|(apply abA;rfl;rfl)|(apply abC;rfl;rfl)|(intro _;omega)|intro _
       all_goals try omega
       all_goals exact cV rfl rfl (.same rfl rfl)
     . obtain⟨e1,e2⟩:=d2 ac;refine⟨_,_,by rw[e1];exact .small ac,by rw[e2];exact .small ac,dH (by rw[C.ft];exact tz) ax ?_⟩;unfold rm;simp only[enter];repeat' first|apply abx|apply aa|apply abr|apply aaL|apply acG|apply adA|apply ba|(apply ahZ;rfl)|(apply acO;rfl)|(apply acM;rfl)|(apply afg;rfl)|(apply aep;rfl;rfl)|(apply agx;rfl;rfl)|(apply aeB;rfl;rfl)|(apply ais;rfl;rfl;omega)|(apply aiV;rfl;rfl;omega;omega)|(apply aev;rfl;rfl;rfl)|(apply aes;rfl;rfl;rfl)|(apply ahX;rfl;rfl;rfl)|(apply abA;rfl;rfl)|(apply abC;rfl;rfl)|(intro _;omega)|intro _
       all_goals try omega
       all_goals exact cV rfl rfl (.same rfl rfl)
  | @gn σ z w hs ok nr hw hz=>
   cases w with
   | nil=>simp[WV]at hw
   | cons y w=>
   obtain⟨q,r,hq,hr,tl⟩:=main rfl rfl;refine⟨q,r,hq,hr,dH (by rw[C.ft];exact tz) ax ?_⟩;unfold rm;simp only[enter];repeat' first|(exact tl _ _ _ _ _ _ _ _ _ _ _ _ _)|apply abx|apply aa|apply abr|apply aaL|apply adA|(apply acM;rfl)|(apply afg;rfl)|(apply ahU;rfl)|(apply aeB;rfl;rfl)|(apply aeC;rfl;rfl)|(apply aev;rfl;rfl;rfl)|(apply aes;rfl;rfl;rfl)|(apply abA;rfl;rfl)
 | @gn σ z w hs ok nr hw hz=>
  cases w with
  | nil=>simp[WV]at hw
  | cons y w=>
  cases hb;all_goals
  . obtain⟨q,r,hq,hr,tl⟩:=main rfl rfl;refine⟨q,r,hq,hr,dH (by rw[C.ft];exact tz) ax ?_⟩;unfold rm;simp only[enter];repeat' first|(exact tl _ _ _ _ _ _ _ _ _ _ _ _ _)|apply abx|apply aa|apply abr|apply aaL|apply adA|(apply acM;rfl)|(apply ahU;rfl)|(apply aeC;rfl;rfl)|(apply aev;rfl;rfl;rfl)|(apply aes;rfl;rfl;rfl)|(apply abA;rfl;rfl)
structure CQ (M:ay)(N:Nat):Prop extends CD M N where
 tA:∀a b x y,aV a x->aV b y->ak x<wB^N->ak y<wB^N->0<y->∃q r,aV q (x/y)/\aV r (x%y)/\∀h,M.ext 299 [a,b] h=some ⟨.aw [q,r],h,[]⟩
theorem fw {k:IntKind}{n:Int}:dx (.int k n)=true:=rfl
theorem gp:dx .ah=true:=rfl
theorem aV.shape {v:AV}{z:Int}(h:aV v z):∃s w,v = .agg [.iV s,w]/\dx w=true/\w.top=0/\bS w=w:=by
 cases h with
 | small=>exact⟨_,_,rfl,rfl,rfl,rfl⟩
 | @gn σ z w=>exact⟨_,_,rfl,rfl,iT _,by rw[bS,mJ]⟩
theorem aV.one {s:Int}{w:AV}{z:Int}(h:aV (.agg [.iV s,w]) z):dx w=true/\w.top=0/\bS w=w:=by
 obtain⟨s',w',e,h⟩:=h.shape;cases e;exact h
theorem Xt (C:CQ M N){a b:AV}{x y k:Int}(ha:aV a x)(hb:aV b y)(lx:ak x<wB^N)(ly:ak y<wB^N)(hy:y≠0)(hk:x=y*k):∃v0,aV v0 k/\dD M 258 [a,b] v0:=by
 have q230:=C.nK b y hb;by_cases hn:y<0
 . rw[show bE y = -1 from if_pos hn]at q230;obtain⟨va,h1,q201a⟩:=C.mL a x ha lx;obtain⟨vb,h2,q201b⟩:=C.mL b y hb ly;have h1:aV va (-x):=h1;have h2:aV vb (-y):=h2;obtain⟨q,r,hq,hr,q299⟩:=C.tA va vb _ _ h1 h2 (by rw[kj];exact lx) (by rw[kj];exact ly) ac;have hq:aV q k:=by
    have : -x / -y=k:=by rw[hk,←m6,jj _ ac]
    rw[←this];exact hq
   refine⟨q,hq,dH (by rw[C.ft];exact Kl) ax ?_⟩;have out:=fun hh=>hq.out (hh:=hh)
   obtain⟨_,_,rfl,o1,_⟩:=ha.shape;obtain⟨_,_,rfl,o2,_⟩:=hb.shape;obtain⟨_,_,rfl,o3,_⟩:=hq.shape;obtain⟨_,_,rfl,o4,_⟩:=hr.shape;obtain⟨_,_,rfl,o5,_⟩:=h1.shape;obtain⟨_,_,rfl,o6,_⟩:=h2.shape;unfold DQ;simp only[enter];repeat' first|(apply adX;rfl;rfl;first|exact q230 _|exact q201a _|exact q201b _|exact q299 _)|(apply ahR;rfl;rfl;(first|(simp only[nca];rfl)|rfl);first|exact q230 _|exact q201a _|exact q201b _|exact q299 _)|(apply aia;rfl;rfl;rfl;exact⟨rfl,be _,by simp[overwrite,fw,o3,o4,o5,o6]⟩;rfl)|apply abx|apply aa|apply abr|apply aaL|apply acG|apply afU|apply agy|(apply ahb;rfl;rfl;(first|(simp only[nca];rfl)|rfl))|(apply ahY;rfl;(first|(simp only[nca];rfl)|rfl);(first|(simp only[nca];rfl)|rfl))|(apply acO;rfl)|(apply aep;rfl;rfl)|(apply aev;rfl;rfl;rfl)|(apply aes;rfl;rfl;rfl)|(apply abA;rfl;rfl)|(intro _;omega)|intro _
   all_goals try omega
   all_goals exact cV rfl rfl (out _)
 . obtain⟨g,hg⟩:∃g,g=bE y:=⟨_,rfl⟩;have g0:0<=g:=by rw[hg];unfold bE;split <;> (first|omega|(split <;> omega))
   rw[←hg]at q230;obtain⟨q,r,hq,hr,q299⟩:=C.tA a b _ _ ha hb lx ly ac;have hq:aV q k:=by
    have:x/y=k:=by rw[hk,jj _ ac]
    rw[←this];exact hq
   refine⟨q,hq,dH (by rw[C.ft];exact Kl) ax ?_⟩;have out:=fun hh=>hq.out (hh:=hh)
   obtain⟨_,_,rfl,o1,_⟩:=ha.shape;obtain⟨_,_,rfl,o2,_⟩:=hb.shape;obtain⟨_,_,rfl,o3,_⟩:=hq.shape;obtain⟨_,_,rfl,o4,_⟩:=hr.shape;unfold DQ;simp only[enter];repeat' first|(apply adX;rfl;rfl;first|exact q230 _|exact q299 _)|(apply aia;rfl;rfl;rfl;exact⟨rfl,be _,by simp[overwrite,fw,o3,o4]⟩;rfl)|apply abx|apply aa|apply abr|apply aaL|apply acG|apply adA|(apply acM;rfl)|(apply aep;rfl;rfl)|(apply aev;rfl;rfl;rfl)|(apply aes;rfl;rfl;rfl)|(apply abA;rfl;rfl)|(intro _;omega)|intro _
   all_goals try omega
   all_goals exact cV rfl rfl (out _)
set_option maxRecDepth 1000000
def rn:al:=.seq (zR [zm 7 1,zc 8 .gtr 7 0] (.cond (.l 8) (.skip) (.exit 0))) (.seq (.block 1 (.seq (zR [zm 11 1,zc 12 .and 11 1,zc 13 .eql 12 1] (.cond (.l 13) (.region [zt 14 2 4,zt 15 2 2,z2 16 199 14 15,zs 2 4 16]) (.skip))) (zR [zm 17 1,zc 18 .gtr 17 1] (.cond (.l 18) (.region [zt 19 2 2,zt 20 2 2,z2 21 199 19 20,zs 2 2 21]) (.skip))))) (.region [zm 9 1,⟨.l 10,.bin .shr (.l 9) (kU 1),none⟩,zw 1 10]))
def Kt:al:=zR [zx 2 171 2 0,⟨.p 3,.alloc 171 [.iV (0),.ah],none⟩] (zR [⟨.l 6,.call (kF 196) [(kI 1)],none⟩,⟨.p 4,.alloc 171 [.iV (0),.ah],none⟩,zs 2 4 6] (.seq (.block 0 (.loop rn)) (zR [zt 22 2 4,zs 2 3 22] (.ret))))
theorem Xu:FT 284=some ⟨23,[0,1,2,4,5],[.cell 2 true (.p 3)],Kt⟩:=by kernel_rfl
def Ku:al:=zR [⟨.p 1,.alloc 173 [.iV (0),.ah,.iV (0),.ah],none⟩] (zR [zm 3 0,z1 4 196 3,z1 5 195 4,zs 4 1 5] (.ret))
theorem Xv:FT 143=some ⟨6,[0,2],[.cell 4 true (.p 1)],Ku⟩:=by kernel_rfl
def Kv:al:=zR [zx 1 171 2 0,⟨.p 2,.alloc 173 [.iV (0),.ah,.iV (0),.ah],none⟩] (.seq (.draw [(zt 3 2 1,[]),(⟨.l 4,.call (kF 196) [(kI 1)],none⟩,[0]),(⟨.l 5,.build [.iV (0),.ah,.iV (0),.ah] [(0,2,(.l 3)),(2,2,(.l 4))],none⟩,[]),(zs 4 2 5,[])]) (.ret))
theorem Xw:FT 195=some ⟨6,[0,1,2],[.cell 4 true (.p 2)],Kv⟩:=by kernel_rfl
def DW:al:=zR [zx 2 171 2 0,zx 3 171 2 1,⟨.p 4,.alloc 173 [.iV (0),.ah,.iV (0),.ah],none⟩] (.seq (zR [zt 6 2 3,z1 7 230 6,zc 8 .lss 7 0] (.cond (.l 8) (.draw [(zt 9 2 2,[]),(z1 10 201 9,[]),(zt 11 2 3,[0,1]),(z1 12 201 11,[]),(zs 2 2 10,[]),(zs 2 3 12,[])]) (.skip))) (.seq (zR [zf 13 1 3,zd 14 1 13,⟨.l 15,.eq false (.ref .slice) (.l 14) (.c (.ah)),none⟩,zn 16 15,zg (zf 17 0 3) 16 true,zg (zd 18 1 17) 16 true,zg (zc 19 .eql 18 1) 16 true,zp 20 16 19] (.cond (.l 20) (zR [zt 21 2 2,zt 22 2 3,⟨.l 23,.build [.iV (0),.ah,.iV (0),.ah] [(0,2,(.l 21)),(2,2,(.l 22))],none⟩,zs 4 4 23] (.ret)) (.skip))) (zR [zt 24 2 2,zt 25 2 3,z2 26 229 24 25,⟨.p 5,.alloc 171 [.iV (0),.ah],none⟩,zs 2 5 26] (.seq (.draw [(zt 27 2 2,[]),(zt 28 2 5,[0]),(z2 29 258 27 28,[]),(zt 30 2 3,[0,1,2]),(zt 31 2 5,[0,1,2,3]),(z2 32 258 30 31,[]),(⟨.l 33,.build [.iV (0),.ah,.iV (0),.ah] [(0,2,(.l 29)),(2,2,(.l 32))],none⟩,[]),(zs 4 4 33,[])]) (.ret)))))
theorem Kw:FT 198=some ⟨34,[0,1,2,3,4,5],[.cell 4 true (.p 4)],DW⟩:=by kernel_rfl
def Kx:al:=zR [zx 1 173 4 0,⟨.p 2,.alloc 173 [.iV (0),.ah,.iV (0),.ah],none⟩] (.seq (.draw [(zf 3 0 1,[]),(zT 4 2 3,[]),(z1 5 201 4,[]),(zf 6 2 1,[0,1,2]),(zT 7 2 6,[0,1,2]),(⟨.l 8,.build [.iV (0),.ah,.iV (0),.ah] [(0,2,(.l 5)),(2,2,(.l 7))],none⟩,[]),(zs 4 2 8,[])]) (.ret))
theorem Xx:FT 148=some ⟨9,[0,1,2],[.cell 4 true (.p 2)],Kx⟩:=by kernel_rfl
def Ky:al:=zR [zx 2 173 4 0,zx 3 173 4 1,zi 4 0] (.seq (.draw [(zf 5 0 2,[]),(zT 6 2 5,[]),(zf 7 2 3,[0,1]),(zT 8 2 7,[0,1]),(z2 9 199 6 8,[]),(zf 10 0 3,[0,1,2,3,4]),(zT 11 2 10,[0,1,2,3,4]),(zf 12 2 2,[0,1,2,3,4,5,6]),(zT 13 2 12,[0,1,2,3,4,5,6]),(z2 14 199 11 13,[]),(z2 15 200 9 14,[]),(zw 4 15,[])]) (.ret))
theorem Xy:FT 147=some ⟨16,[0,1,2,3,4],[.var (.p 4)],Ky⟩:=by kernel_rfl
def Kz:al:=zR [zx 1 173 4 0,⟨.p 2,.alloc 171 [.iV (0),.ah],none⟩] (zR [zf 6 0 1,zT 7 2 6,zf 8 2 1,zT 9 2 8,z2 10 299 7 9,zn 5 10,ze 11 0 5,ze 12 1 5,⟨.p 3,.alloc 171 [.iV (0),.ah],none⟩,⟨.l 4,.alloc 171 [.iV (0),.ah],none⟩,zs 2 3 11,zS 2 4 12] (zR [zt 13 2 3,zs 2 2 13] (.ret)))
theorem Xz:FT 231=some ⟨14,[0,1,2,3],[.cell 2 true (.p 2)],Kz⟩:=by kernel_rfl
def KA:al:=zR [zx 1 173 4 0,zi 2 0] (zR [zf 3 0 1,zT 4 2 3,z1 5 230 4,zw 2 5] (.ret))
theorem XA:FT 173=some ⟨6,[0,1,2],[.var (.p 2)],KA⟩:=by kernel_rfl
def ju (v:AV)(n d:Int):Prop:=∃s w s' w',v = .agg [.iV s,w,.iV s',w']/\aV (.agg [.iV s,w]) n/\aV (.agg [.iV s',w']) d
theorem ju.out {v:AV}{n d:Int}{hh:ab}(h:ju v n d):fG (bk [v]) hh v:=by
 obtain⟨s,w,s',w',rfl,h1,h2⟩:=h;obtain⟨_,t1,c1⟩:=h1.one;obtain⟨_,t2,c2⟩:=h2.one;exact .same (by simp[bk,AV.top,bO,t1,t2]) (by simp[bk,bS,dh,c1,c2])
structure CF (M:ay)(N:Nat):Prop extends CQ M N where
 DX:∀v z,aV v z->∃v0,ju v0 z 1/\∀h,M.ext 195 [v] h=some ⟨v0,h,[]⟩
 DY:∀a b x y,aV a x->aV b y->ak x<wB^N->ak y<wB^N->∀h,M.ext 200 [a,b] h=some ⟨.iV (bE (x-y)),h,[]⟩
 rp:xB M N 199 (· * ·)
theorem XB (C:CD M N){v:AV}{z:Int}(hv:aV v z):∃v0,ju v0 z 1/\dD M 195 [v] v0:=by
 obtain⟨s,w,rfl,o1,_⟩:=hv.shape;have q196:=C.nL 1;have hf:ju (.agg [.iV s,w,.iV 1,.ah]) z 1:=⟨_,_,_,_,rfl,hv,.small ao⟩;refine⟨_,hf,dH (by rw[C.ft];exact Xw) ax ?_⟩;have out:=fun hh=>hf.out (hh:=hh)
 unfold Kv;simp only[enter];repeat' first|(apply ahR;rfl;rfl;(first|(simp only[nca];rfl)|rfl);first|exact q196 _)|(apply aia;rfl;rfl;rfl;exact⟨rfl,be _,by simp[overwrite,fw,gp,o1]⟩;rfl)|apply abx|apply aa|apply abr|apply aaL|apply acG|apply afU|apply agy|(apply ahl;rfl)|(apply ahb;rfl;rfl;(first|(simp only[nca];rfl)|rfl))|(apply ahY;rfl;(first|(simp only[nca];rfl)|rfl);(first|(simp only[nca];rfl)|rfl))|(apply aev;rfl;rfl;rfl)|(apply aes;rfl;rfl;rfl)|(apply abA;rfl;rfl)
 exact cV rfl rfl (out _)
theorem XC (C:CF M N){s:Int}(hs : -9223372036854775808<=s/\s<9223372036854775808):∃v0,ju v0 s 1/\dD M 143 [.iV s] v0:=by
 have q196:=C.nL s;obtain⟨v0,hf,q195⟩:=C.DX _ s (.small hs);refine⟨_,hf,dH (by rw[C.ft];exact Xv) ax ?_⟩;have out:=fun hh=>hf.out (hh:=hh)
 obtain⟨s1,w,s',w',rfl,h1,h2⟩:=hf;obtain⟨o1,_⟩:=h1.one;obtain⟨o2,_⟩:=h2.one;unfold Ku;simp only[enter];repeat' first|(apply aia;rfl;rfl;rfl;exact⟨rfl,be _,by simp[fw,o1,o2]⟩;rfl)|apply abx|apply aa|apply abr|apply aaL|apply acG|(apply adX;rfl;rfl;first|exact q196 _|exact q195 _)|(apply aes;rfl;rfl;rfl)|(apply abA;rfl;rfl)
 exact cV rfl rfl (out _)
theorem XD (C:CJ M N){v:AV}{n d:Int}(hv:ju v n d)(ln:ak n<wB^N):∃v0,ju v0 (-n) d/\dD M 148 [v] v0:=by
 obtain⟨s1,w,s',w',rfl,h1,h2⟩:=hv;obtain⟨v1,h3,q201⟩:=C.mL _ n h1 ln;obtain⟨s3,w3,rfl,o3,_⟩:=h3.shape;obtain⟨o1,_⟩:=h1.one;obtain⟨o2,_⟩:=h2.one;have hf:ju (.agg [.iV s3,w3,.iV s',w']) (-n) d:=⟨_,_,_,_,rfl,h3,h2⟩;refine⟨_,hf,dH (by rw[C.ft];exact Xx) ax ?_⟩;have out:=fun hh=>hf.out (hh:=hh)
 unfold Kx;simp only[enter];repeat' first|(apply ahR;rfl;rfl;(first|(simp only[nca];rfl)|rfl);first|exact q201 _)|(apply aia;rfl;rfl;rfl;exact⟨rfl,be _,by simp[overwrite,fw,o2,o3]⟩;rfl)|apply abx|apply aa|apply abr|apply aaL|apply acG|apply afU|apply agy|(apply ahl;rfl)|(apply ahb;rfl;rfl;(first|(simp only[nca];rfl)|rfl))|(apply ahY;rfl;(first|(simp only[nca];rfl)|rfl);(first|(simp only[nca];rfl)|rfl))|(apply aev;rfl;rfl;rfl)|(apply aes;rfl;rfl;rfl)|(apply abA;rfl;rfl)
 exact cV rfl rfl (out _)
theorem XE (C:CJ M N){v:AV}{n d:Int}(hv:ju v n d):dD M 173 [v] (.iV (bE n)):=by
 obtain⟨s1,w,s',w',rfl,h1,h2⟩:=hv;have q230:=C.nK _ n h1;refine dH (by rw[C.ft];exact XA) ax ?_;unfold KA;simp only[enter];repeat' first|apply abx|apply aa|apply abr|apply aaL|apply acG|(apply adX;rfl;rfl;first|exact q230 _)|(apply aev;rfl;rfl;rfl)|(apply aes;rfl;rfl;rfl)|(apply abA;rfl;rfl)|(apply abC;rfl;rfl)
 exact cV rfl rfl (.same rfl rfl)
section
variable {t n m:Nat} {x y:aZ} {l:List bz} {pe:List AV} {lo:List (Nat×AV)} {H:ab} {df wr:List Nat} {c c' new:List AV} {e:TypeId} {a:Option bV} {Q:au->Prop}
theorem ajM (hx:(St.mk pe lo (H++[some (.cells c e)]++[a]) df).ae x=some (.ptr H.length 0))(hy:((St.mk pe lo (H++[some (.cells c e)]++[a]) df).ae y).bind AV.cells=some new)(hn:new.length=n/\0+n<=c.length/\new.all dx=true)(hc:overwrite c 0 new=c')
 (h:WO M l ⟨⟨pe,lo,H++[some (.cells c' e)]++[a],df⟩,H.length::wr⟩ Q):WO M (⟨.no,.store n x y,none⟩::l) ⟨⟨pe,lo,H++[some (.cells c e)]++[a],df⟩,wr⟩ Q:=by
 refine aia hx hy (cB cj) hn hc ?_;have:ab.put (H++[some (.cells c e)]++[a]) H.length (some (.cells c' e))=H++[some (.cells c' e)]++[a]:=by
  simp[ab.put]
 rw[this];exact h
theorem ajN (hx:(St.mk pe lo (H++[a]++[some (.cells c e)]) df).ae x=some (.ptr m 0))(hy:((St.mk pe lo (H++[a]++[some (.cells c e)]) df).ae y).bind AV.cells=some new)(hm:m=H.length+1)(hn:new.length=n/\0+n<=c.length/\new.all dx=true)(hc:overwrite c 0 new=c')
 (h:WO M l ⟨⟨pe,lo,H++[a]++[some (.cells c' e)],df⟩,m::wr⟩ Q):WO M (⟨.no,.store n x y,none⟩::l) ⟨⟨pe,lo,H++[a]++[some (.cells c e)],df⟩,wr⟩ Q:=by
 subst hm;have hl:H.length+1=(H++[a]).length:=by simp
 rw[hl]at hx h;refine aia hx hy cj hn hc ?_;have:ab.put (H++[a]++[some (.cells c e)]) (H++[a]).length (some (.cells c' e))=H++[a]++[some (.cells c' e)]:=JU;rw[this];exact h
theorem ajO {ag:Bool}{v:AV}(hx:(St.mk pe lo (H++[a]++[some (.cells c e)]) df).ae x=some (.ptr m 0))(hm:m=H.length+1)(hv:partOf (c.drop 0) 0 n ag=some v)
 (h:WO M l ⟨⟨pe,(t,v)::lo,H++[a]++[some (.cells c e)],df⟩,wr⟩ Q):WO M (⟨.l t,.load n ag x,none⟩::l) ⟨⟨pe,lo,H++[a]++[some (.cells c e)],df⟩,wr⟩ Q:=by
 subst hm;have hl:H.length+1=(H++[a]).length:=by simp
 rw[hl]at hx;exact ajd hx cj hv h
end
theorem DZ {x y:Int}:cZ y (x%y)=cZ x y:=by
 have h:=Int.gcd_add_mul_left_right y (x%y) (x/y);rw[Int.emod_add_mul_ediv]at h;rw[←h,k9]
def tB (s s':Int)(w w':AV)(J:ab):ab:=[some (.cells [.iV s,w] 171),some (.cells [.iV s',w'] 171),some (.cells [.iV 0,.ah] 171)]++J
theorem XI (C:CQ M N){G:Nat}{Q:Ex->au->Prop}(a0 a1:AV)
 (hQ:∀s s' w w' J p5 lo wr (x:Int),aV (.agg [.iV s,w]) x->x=G->Q (.exit 0) ⟨⟨[a0,a1,.ptr 0 0,.ptr 1 0,.ptr 2 0,p5],lo,tB s s' w w' J,[]⟩,wr⟩)
 (s s':Int) (w w':AV) (J:ab) (p5:AV) (lo:List (Nat×AV)) (wr:List Nat) (x y:Int) (hx:aV (.agg [.iV s,w]) x) (hy:aV (.agg [.iV s',w']) y) (x0:0<=x/\x<wB^N) (y0:0<=y/\y<wB^N) (hG:cZ x y=G) :
 W M (.loop xz) ⟨⟨[a0,a1,.ptr 0 0,.ptr 1 0,.ptr 2 0,p5],lo,tB s s' w w' J,[]⟩,wr⟩ Q:=by
 refine W.ir (fun m st=>∃s s' w w' J p5 lo wr x y,st=⟨⟨[a0,a1,.ptr 0 0,.ptr 1 0,.ptr 2 0,p5],lo,tB s s' w w' J,[]⟩,wr⟩/\m=y.toNat/\aV (.agg [.iV s,w]) x/\aV (.agg [.iV s',w']) y/\(0<=x/\x<wB^N)/\(0<=y/\y<wB^N)/\cZ x y=G)
  (fun m st ⟨s,s',w,w',J,p5,lo,wr,x,y,hst,hm,hx,hy,x0,y0,hG⟩=>?_) (m:=y.toNat) ⟨s,s',w,w',J,p5,lo,wr,x,y,rfl,rfl,hx,hy,x0,y0,hG⟩
 subst hst;subst hm;have q230:=C.nK _ y hy;by_cases h0:y=0
 . subst h0;have e:x=G:=by rw[←hG,Int.gcd_zero];omega
   rw[show bE 0=0 from rfl]at q230;unfold xz;repeat' first|apply abx|apply aa|apply abr|apply aaL|apply aeM|apply bH|apply ck|(apply acM;rfl)|(apply agx;rfl;rfl)|(apply adX;rfl;rfl;first|exact q230 _)|(apply aev;rfl;rfl;rfl)|(intro _;omega)|intro _
   all_goals try omega
   exact hQ _ _ _ _ _ _ _ _ x hx e
 . rw[show bE y=1 by unfold bE;rw[if_neg ac,if_pos ac]]at q230;obtain⟨q,r,hq,hr,q299⟩:=C.tA _ _ x y hx hy (by rw[fC x0.1];exact x0.2) (by rw[fC y0.1];exact y0.2) ac;obtain⟨o1,_⟩:=hx.one;obtain⟨o2,_⟩:=hy.one;obtain⟨s1,w1,rfl,o3,_⟩:=hq.shape;obtain⟨s2,w2,rfl,o4,_⟩:=hr.shape;have r0:=gD x (show y≠0 by omega);have r1:=de x (show 0<y by omega);have next:∀J p5 lo wr,LI (fun st=>∃m',m'<y.toNat/\∃s s' w w' J p5 lo wr x y,st=⟨⟨[a0,a1,.ptr 0 0,.ptr 1 0,.ptr 2 0,p5],lo,tB s s' w w' J,[]⟩,wr⟩/\m'=y.toNat/\aV (.agg [.iV s,w]) x/\aV (.agg [.iV s',w']) y/\(0<=x/\x<wB^N)/\(0<=y/\y<wB^N)/\cZ x y=G) Q .normal ⟨⟨[a0,a1,.ptr 0 0,.ptr 1 0,.ptr 2 0,p5],lo,tB s' s2 w' w2 J,[]⟩,wr⟩:=fun J p5 lo wr=>
    dQ ⟨(x%y).toNat,ac,_,_,_,_,J,p5,lo,wr,y,x%y,rfl,rfl,hy,hr,y0,⟨r0,ac⟩,by rw[DZ,hG]⟩
   unfold xz;repeat' first|(apply ajM;rfl;rfl;exact⟨rfl,be _,by simp[fw,o3]⟩;rfl)|(apply ajN;rfl;rfl;simp;exact⟨rfl,be _,by simp[fw,o4]⟩;rfl)|(apply ajO;rfl;simp;rfl)|(apply aia;rfl;rfl;rfl;exact⟨rfl,be _,by simp[overwrite,fw,o2,o4]⟩;rfl)|apply abx|apply aa|apply abr|apply aaL|apply aef|apply adA|apply bC|apply afU|apply agy|(apply ahb;rfl;rfl;(first|(simp only[nca];rfl)|rfl))|(apply ahY;rfl;(first|(simp only[nca];rfl)|rfl);(first|(simp only[nca];rfl)|rfl))|(apply acO;rfl)|(apply agx;rfl;rfl)|(apply adX;rfl;rfl;first|exact q230 _|exact q299 _)|(apply aev;rfl;rfl;rfl)|(apply aes;rfl;rfl;rfl)|(apply abA;rfl;rfl)|(intro _;omega)|intro _
   all_goals try omega
   all_goals exact next _ _ _ _
structure CG (M:ay)(N:Nat):Prop extends CQ M N where
 Ea:DS M N 298 ak
theorem XJ {x y:Int}:cZ (ak x) (ak y)=cZ x y:=by
 have h:∀z:Int,(ak z).natAbs=z.natAbs:=fun z=>by unfold ak;split <;> omega
 show py _ _=py _ _;rw[h,h]
theorem XL (C:CG M N){a b:AV}{x y:Int}(ha:aV a x)(hb:aV b y)(lx:ak x<wB^N)(ly:ak y<wB^N):∃v0,aV v0 (cZ x y:Nat)/\dD M 229 [a,b] v0:=by
 obtain⟨va,h1,q298a⟩:=C.Ea a x ha lx;obtain⟨vb,h2,q298b⟩:=C.Ea b y hb ly;obtain⟨sa,wa,rfl,o1,_⟩:=ha.shape;obtain⟨sb,wb,rfl,o2,_⟩:=hb.shape;obtain⟨s1,w1,rfl,o3,_⟩:=h1.shape;obtain⟨s2,w2,rfl,o4,_⟩:=h2.shape;obtain⟨v,hh,⟨v0,h0,ho⟩,hr⟩:=iR (M:=M) (f:=229) (ars:=[.agg [.iV sa,wa],.agg [.iV sb,wb]]) (P:=fun v hh=>∃v0,aV v0 (cZ x y:Nat)/\fG v hh v0) (by rw[C.ft];exact WY) ax (by
  unfold Km;simp only[enter];repeat' first|(apply ahR;rfl;rfl;(first|(simp only[nca];rfl)|rfl);first|exact q298a _|exact q298b _)|(apply aia;rfl;rfl;rfl;exact⟨rfl,be _,by simp[fw,o3,o4]⟩;rfl)|apply abx|apply aa|apply abr|apply aaL|apply aef|apply afU|apply agy|(apply ahb;rfl;rfl;(first|(simp only[nca];rfl)|rfl))|(apply ahY;rfl;(first|(simp only[nca];rfl)|rfl);(first|(simp only[nca];rfl)|rfl))|(apply aev;rfl;rfl;rfl)|(apply aes;rfl;rfl;rfl)
  refine XI C.toCQ (G:=cZ x y) _ _ (fun s s' w w' J p5 lo wr g hg eg=>?_) s1 s2 w1 w2 [] _ _ _ (ak x) (ak y) h1 h2 ⟨kl,lx⟩ ⟨kl,ly⟩ XJ;obtain⟨o5,t5,k5⟩:=hg.one;repeat' first|(apply aia;rfl;rfl;rfl;exact⟨rfl,be _,by simp[fw,o5]⟩;rfl)|apply abx|apply aa|apply abr|apply aaL|apply acG|apply bJ|(apply aev;rfl;rfl;rfl)
  rw[eg]at hg;exact⟨.inr rfl,rfl,_,rfl,_,hg,hg.out⟩)
 exact⟨v0,h0,v,hh,ho,hr⟩
def dV (v:AV)(q:Rat):Prop:=ju v q.num q.den
structure CR (M:ay)(N:Nat):Prop extends CG M N where
 tC:∀a b x y,aV a x->aV b y->ak x<wB^N->ak y<wB^N->∃v0,aV v0 (cZ x y:Nat)/\∀h,M.ext 229 [a,b] h=some ⟨v0,h,[]⟩
 Eb:∀a b x y k,aV a x->aV b y->ak x<wB^N->ak y<wB^N->y≠0->x=y*k->∃v0,aV v0 k/\∀h,M.ext 258 [a,b] h=some ⟨v0,h,[]⟩
def t198:al:=
 .seq (zR [zf 13 1 3,
       zd 14 1 13,
       ⟨(.l 15),.eq false (.ref .slice) (.l 14) (.c (.ah)),none⟩,
       zn 16 15,
       zg (zf 17 0 3) 16 true,
       zg (zd 18 1 17) 16 true,
       zg (zc 19 .eql 18 1) 16 true,
       zp 20 16 19]
     (
      .cond (.l 20)
      (
       zR [zt 21 2 2,
         zt 22 2 3,
         ⟨(.l 23),.build [.iV (0),.ah,.iV (0),.ah] [(0,2,(.l 21)),(2,2,(.l 22))],none⟩,
         zs 4 4 23]
       (.ret))
      (.skip)))
    (
     zR [zt 24 2 2,
       zt 25 2 3,
       z2 26 229 24 25,
       ⟨(.p 5),.alloc 171 [.iV (0),.ah],none⟩,
       zs 2 5 26]
     (
      .seq (.draw [(zt 27 2 2,[]),
        (zt 28 2 5,[0]),
        (z2 29 258 27 28,[]),
        (zt 30 2 3,[0,1,2]),
        (zt 31 2 5,[0,1,2,3]),
        (z2 32 258 30 31,[]),
        (⟨(.l 33),.build [.iV (0),.ah,.iV (0),.ah] [(0,2,(.l 29)),(2,2,(.l 32))],none⟩,[]),
        (zs 4 4 33,[])])
      (.ret)))
theorem mM {n:Int}:(bA n 1).num=n/\(bA n 1).den=1:=by
 refine⟨?_,?_⟩
 . rw[n5];simp
 . rw[n6];simp
theorem xD {n d:Int}(h:0<d):∃k1 k2:Int,n=(cZ n d:Nat)*k1/\d=(cZ n d:Nat)*k2/\(bA n d).num=k1/\((bA n d).den:Int)=k2:=by
 have g0:(cZ n d:Int)≠0:=by
  have:=d9 n (show d≠0 by omega);omega
 obtain⟨k1,h1⟩:=Int.gcd_dvd_left n d;obtain⟨k2,h2⟩:=lc n d;refine⟨k1,k2,h1,h2,?_,?_⟩
 . rw[n5,Int.sign_eq_one_of_pos h,Int.one_mul,k9 d n];exact iI g0 h1
 . rw[n6,if_neg ac,k9 d n];have e:((d.natAbs/cZ n d:Nat):Int)=d/(cZ n d:Int):=by
    rw[Int.natCast_ediv,Int.natAbs_of_nonneg ac]
   rw[e];exact iI g0 h2
theorem XM {x y:Int}(h:0<y):ak (cZ x y:Nat)<=ak y:=by
 have:=Int.le_of_dvd h (lc x y);rw[fC ac,fC ac];exact this
theorem KB (C:CR M N){s s' n d:Int}{w w':AV}(hn:aV (.agg [.iV s,w]) n)(hd:aV (.agg [.iV s',w']) d)(ln:ak n<wB^N)(ld:ak d<wB^N)(d0:0<d) :
 ∃v0,dV v0 (bA n d)/\∀a0 a1 p5 lo wr,W M t198 ⟨⟨[a0,a1,.ptr 0 0,.ptr 1 0,.ptr 2 0,p5],lo,[some (.cells [.iV s,w] 171),some (.cells [.iV s',w'] 171),some (.cells [.iV 0,.ah,.iV 0,.ah] 173)],[]⟩,wr⟩ (mK v0 [.cell 4 true (.p 4)]):=by
 obtain⟨o1,_⟩:=hn.one;by_cases h1:d=1/\w' = .ah
 . obtain⟨rfl,rfl⟩:=h1;have hs:s'=1:=by cases hd;rfl
   subst hs;have hf:dV (.agg [.iV s,w,.iV 1,.ah]) (bA n 1):=by
    unfold dV;rw[mM.1,mM.2];exact⟨_,_,_,_,rfl,hn,hd⟩
   refine⟨_,hf,fun a0 a1 p5 lo wr=>?_⟩;have out:=fun hh=>hf.out (hh:=hh)
   unfold t198;repeat' first|(apply aia;rfl;rfl;rfl;exact⟨rfl,be _,by simp[overwrite,fw,gp,o1]⟩;rfl)|apply abx|apply aa|apply abr|apply aaL|apply acG|apply ba|(apply acO;rfl)|(apply afg;rfl)|(apply afe;rfl;rfl)|(apply aeB;rfl;rfl)|(apply aev;rfl;rfl;rfl)|(apply abA;rfl;rfl)|(intro _;omega)|intro _
   all_goals try omega
   all_goals exact cV rfl rfl (out _)
 . obtain⟨k1,k2,e1,e2,e3,e4⟩:=xD (n:=n) d0;obtain⟨vg,hg,q229⟩:=C.tC _ _ n d hn hd ln ld;have lg:ak (cZ n d:Nat)<wB^N:=gF (XM d0) ld;have g0:(cZ n d:Int)≠0:=by
    have:=d9 n (show d≠0 by omega);omega
   obtain⟨v1,hv1,q258a⟩:=C.Eb _ vg n _ k1 hn hg ln lg g0 e1;obtain⟨v2,hv2,q258b⟩:=C.Eb _ vg d _ k2 hd hg ld lg g0 e2;obtain⟨sg,wg,rfl,og,_⟩:=hg.shape;obtain⟨s1,w1,rfl,o3,_⟩:=hv1.shape;obtain⟨s2,w2,rfl,o4,_⟩:=hv2.shape;have hf:dV (.agg [.iV s1,w1,.iV s2,w2]) (bA n d):=by
    unfold dV;rw[e3,e4];exact⟨_,_,_,_,rfl,hv1,hv2⟩
   refine⟨_,hf,fun a0 a1 p5 lo wr=>?_⟩;have out:=fun hh=>hf.out (hh:=hh)
   unfold t198;cases hd with
   | small h=>
    have h2:s'≠1:=fun e=>h1 ⟨e,rfl⟩
    repeat' first|(apply adX;rfl;rfl;first|exact q229 _|exact q258a _|exact q258b _)|(apply ahR;rfl;rfl;(first|(simp only[nca];rfl)|rfl);first|exact q229 _|exact q258a _|exact q258b _)|(apply aia;rfl;rfl;rfl;exact⟨rfl,be _,by simp[overwrite,fw,og,o3,o4]⟩;rfl)|apply abx|apply aa|apply abr|apply aaL|apply acG|apply adA|apply afU|apply agy|(apply ahl;rfl)|(apply ahb;rfl;rfl;(first|(simp only[nca];rfl)|rfl))|(apply ahY;rfl;(first|(simp only[nca];rfl)|rfl);(first|(simp only[nca];rfl)|rfl))|(apply acM;rfl)|(apply afg;rfl)|(apply afe;rfl;rfl)|(apply aeB;rfl;rfl)|(apply aev;rfl;rfl;rfl)|(apply aes;rfl;rfl;rfl)|(apply abA;rfl;rfl)|(intro _;omega)|intro _
    all_goals try omega
    all_goals exact cV rfl rfl (out _)
   | @gn σ z ww hs ok nr hw hz=>
    cases ww with
    | nil=>simp[WV]at hw
    | cons y ww=>
    repeat' first|(apply adX;rfl;rfl;first|exact q229 _|exact q258a _|exact q258b _)|(apply ahR;rfl;rfl;(first|(simp only[nca];rfl)|rfl);first|exact q229 _|exact q258a _|exact q258b _)|(apply aia;rfl;rfl;rfl;exact⟨rfl,be _,by simp[overwrite,fw,og,o3,o4]⟩;rfl)|apply abx|apply aa|apply abr|apply aaL|apply acG|apply adA|apply afU|apply agy|(apply ahl;rfl)|(apply ahb;rfl;rfl;(first|(simp only[nca];rfl)|rfl))|(apply ahY;rfl;(first|(simp only[nca];rfl)|rfl);(first|(simp only[nca];rfl)|rfl))|(apply acM;rfl)|(apply ahU;rfl)|(apply aeC;rfl;rfl)|(apply aev;rfl;rfl;rfl)|(apply aes;rfl;rfl;rfl)|(apply abA;rfl;rfl)
    all_goals try omega
    all_goals exact cV rfl rfl (out _)
theorem XO (C:CR M N){a b:AV}{n d:Int}(ha:aV a n)(hb:aV b d)(ln:ak n<wB^N)(ld:ak d<wB^N)(d0:d≠0):∃v0,dV v0 (bA n d)/\dD M 198 [a,b] v0:=by
 have q230:=C.nK b d hb;by_cases hn:d<0
 . rw[show bE d = -1 from if_pos hn]at q230;obtain⟨va,h1,q201a⟩:=C.mL a n ha ln;obtain⟨vb,h2,q201b⟩:=C.mL b d hb ld;have h1:aV va (-n):=h1;have h2:aV vb (-d):=h2;obtain⟨_,_,rfl,o1,_⟩:=ha.shape;obtain⟨_,_,rfl,o2,_⟩:=hb.shape;obtain⟨_,_,rfl,o3,_⟩:=h1.shape;obtain⟨_,_,rfl,o4,_⟩:=h2.shape;obtain⟨v0,hf,tl⟩:=KB C h1 h2 (by rw[kj];exact ln) (by rw[kj];exact ld) ac;rw[Rat.neg_divInt_neg]at hf;refine⟨v0,hf,dH (by rw[C.ft];exact Kw) ax ?_⟩;unfold DW;simp only[enter];repeat' first|(exact tl _ _ _ _ _)|(apply adX;rfl;rfl;first|exact q230 _|exact q201a _|exact q201b _)|(apply ahR;rfl;rfl;(first|(simp only[nca];rfl)|rfl);first|exact q230 _|exact q201a _|exact q201b _)|(apply aia;rfl;rfl;rfl;exact⟨rfl,be _,by simp[fw,o3,o4]⟩;rfl)|apply abx|apply aa|apply abr|apply aaL|apply afU|apply agy|(apply ahb;rfl;rfl;(first|(simp only[nca];rfl)|rfl))|(apply ahY;rfl;(first|(simp only[nca];rfl)|rfl);(first|(simp only[nca];rfl)|rfl))|(apply acO;rfl)|(apply aep;rfl;rfl)|(apply aev;rfl;rfl;rfl)|(apply aes;rfl;rfl;rfl)|(intro _;omega)|intro _
   all_goals try omega
 . obtain⟨g,hg⟩:∃g,g=bE d:=⟨_,rfl⟩;have g0:0<=g:=by rw[hg];unfold bE;split <;> (first|omega|(split <;> omega))
   rw[←hg]at q230;obtain⟨_,_,rfl,o1,_⟩:=ha.shape;obtain⟨_,_,rfl,o2,_⟩:=hb.shape;obtain⟨v0,hf,tl⟩:=KB C ha hb ln ld ac;refine⟨v0,hf,dH (by rw[C.ft];exact Kw) ax ?_⟩;unfold DW;simp only[enter];repeat' first|(exact tl _ _ _ _ _)|(apply adX;rfl;rfl;first|exact q230 _)|apply abx|apply aa|apply abr|apply aaL|apply adA|(apply acM;rfl)|(apply aep;rfl;rfl)|(apply aev;rfl;rfl;rfl)|(apply aes;rfl;rfl;rfl)|(intro _;omega)|intro _
   all_goals try omega
def Bq (N:Nat)(q:Rat):Prop:=ak q.num<wB^N/\(q.den:Int)<wB^N
structure CS (M:ay)(N N2:Nat):Prop extends CF M N where
 gn:CF M N2
 hN:2*N+1<=N2
 XP:∀a b n d,aV a n->aV b d->ak n<wB^N2->ak d<wB^N2->d≠0->∃v0,dV v0 (bA n d)/\∀h,M.ext 198 [a,b] h=some ⟨v0,h,[]⟩
theorem den_pos {q:Rat}:0<(q.den:Int):=by have:=q.den_pos;omega
theorem xE {x y:Int}:ak (x*y)=ak x*ak y:=by
 have h:∀z:Int,ak z=(z.natAbs:Int):=fun z=>by unfold ak;split <;> omega
 rw[h,h,h,Int.natAbs_mul,Int.natCast_mul]
variable {N2:Nat}
theorem CS.KC (C:CS M N N2){x y:Int}(hx:ak x<wB^N)(hy:ak y<wB^N):ak (x*y)<wB^N2:=by
 rw[xE];have h1:=ci (fY hy) (kl (x:=x));have hp:(0:Int)<wB^N:=j3 ao;have h2:=fo hx hp;have h3:=iS (b:=wB) ao (m:=N+N) (n:=N2) (by have:=C.hN;omega);rw[jg]at h3;omega
theorem dV.one {v:AV}{n:Int}(h:ju v n 1):dV v (bA n 1):=by
 unfold dV;rw[mM.1,mM.2];exact h
theorem Ec (p q:Rat):p+q=bA (p.num*q.den+q.num*p.den) (p.den*q.den):=by
 have dp:=den_pos (q:=p);have dq:=den_pos (q:=q);have e:=Rat.divInt_add_divInt p.num q.num (d₁:=p.den) (d₂:=q.den) ac ac;rwa [kw,kw]at e
theorem XQ (C:CJ M N){v:AV}{q:Rat}(hv:dV v q)(lq:Bq N q):∃v0,dV v0 (-q)/\dD M 148 [v] v0:=by
 obtain⟨v0,h0,hr⟩:=XD C hv lq.1;exact⟨v0,h0,hr⟩
theorem Bq.neg {q:Rat}(h:Bq N q):Bq N (-q):=⟨by rw[m9,kj];exact h.1,h.2⟩
theorem XR (C:CS M N N2){a b:AV}{p q:Rat}(ha:dV a p)(hb:dV b q)(lp:Bq N p)(lq:Bq N q):dD M 147 [a,b] (.iV (bE (p.num*q.den-q.num*p.den))):=by
 obtain⟨s1,w1,s2,w2,rfl,h1,h2⟩:=ha;obtain⟨s3,w3,s4,w4,rfl,h3,h4⟩:=hb;have dp:=den_pos (q:=p);have dq:=den_pos (q:=q);have hdp:ak (p.den:Int)<wB^N:=by rw[fC ac];exact lp.2
 have hdq:ak (q.den:Int)<wB^N:=by rw[fC ac];exact lq.2
 obtain⟨v1,k1,q199a⟩:=C.rp _ _ _ _ h1 h4 lp.1 hdq;obtain⟨v2,k2,q199b⟩:=C.rp _ _ _ _ h3 h2 lq.1 hdp;have q200:=C.gn.DY v1 v2 _ _ k1 k2 (C.KC lp.1 hdq) (C.KC lq.1 hdp);refine dH (by rw[C.ft];exact Xy) ax ?_;unfold Ky;simp only[enter];repeat' first|(apply ahR;rfl;rfl;(first|(simp only[nca];rfl)|rfl);first|exact q199a _|exact q199b _|exact q200 _)|apply abx|apply aa|apply abr|apply aaL|apply acG|apply afU|apply agy|(apply ahl;rfl)|(apply ahb;rfl;rfl;(first|(simp only[nca];rfl)|rfl))|(apply aev;rfl;rfl;rfl)|(apply aes;rfl;rfl;rfl)|(apply abA;rfl;rfl)|(apply abC;rfl;rfl)
 all_goals exact cV rfl rfl (.same rfl rfl)
theorem XS (C:CS M N N2){v:AV}{q:Rat}(hv:dV v q)(lq:Bq N q):∃v0,aV v0 (q.num/q.den)/\dD M 231 [v] v0:=by
 obtain⟨s1,w1,s2,w2,rfl,h1,h2⟩:=hv;have dq:=den_pos (q:=q);have hdq:ak (q.den:Int)<wB^N:=by rw[fC ac];exact lq.2
 obtain⟨v0,r,k0,kr,q299⟩:=C.tA _ _ _ _ h1 h2 lq.1 hdq dq;refine⟨v0,k0,dH (by rw[C.ft];exact Xz) ax ?_⟩;have out:=fun hh=>k0.out (hh:=hh)
 obtain⟨s5,w5,rfl,o5,_⟩:=k0.shape;obtain⟨s6,w6,rfl,o6,_⟩:=kr.shape;unfold Kz;simp only[enter];repeat' first|(apply adX;rfl;rfl;first|exact q299 _)|(apply aia;rfl;rfl;rfl;exact⟨rfl,be _,by simp[overwrite,fw,o5,o6]⟩;rfl)|apply abx|apply aa|apply abr|apply aaL|apply acG|(apply aev;rfl;rfl;rfl)|(apply aes;rfl;rfl;rfl)|(apply abA;rfl;rfl)
 all_goals exact cV rfl rfl (out _)
section
variable {t:Nat} {x y:aZ} {l:List bz} {pe:List AV} {lo:List (Nat×AV)} {hp:ab} {df wr:List Nat} {a:Int} {k:IntKind} {Q:au->Prop}
theorem ajm (hx:(St.mk pe lo hp df).ae x=some (.iV a))
 (h:WO M l ⟨⟨pe,(t,.iV (a/2))::lo,hp,df⟩,wr⟩ Q):WO M (⟨.l t,.bin .shr x (.c (.int k 1)),none⟩::l) ⟨⟨pe,lo,hp,df⟩,wr⟩ Q:=by
 refine WO.op (WP.pure (v:=.iV (a/2)) rfl ?_ h);have:a.fdiv (2^min (pu 1) IntKind.i64.bits)=a/2:=by
  show a.fdiv 2=a/2;rw[Int.fdiv_eq_ediv_of_nonneg _ ac]
 have e:(St.mk pe lo hp df).ae (.c (.int k 1))=some (.int k 1):=rfl;simp only[bF,hx,e,dS,this];rfl
theorem ajn (hx:(St.mk pe lo hp df).ae x=some (.iV a))(hy:(St.mk pe lo hp df).ae y=some (.iV 1))(ha:0<=a/\a<9223372036854775808)
 (h:WO M l ⟨⟨pe,(t,.iV (a%2))::lo,hp,df⟩,wr⟩ Q):WO M (⟨.l t,.bin .and x y,none⟩::l) ⟨⟨pe,lo,hp,df⟩,wr⟩ Q:=by
 refine abA (v:=.iV (a%2)) ?_ rfl h;obtain⟨n,rfl⟩:=Int.eq_ofNat_of_zero_le ha.1;have e:(BitVec.ofInt 64 (n:Int) &&& BitVec.ofInt 64 1).toNat=n%2:=by
  rw[qV,show (1:Int)=((1:Nat):Int) from rfl,qV,BitVec.toNat_and,BitVec.toNat_ofNat,BitVec.toNat_ofNat,jN (show n<2^64 by omega),jN (show 1<2^64 by decide)];exact Nat.and_two_pow_sub_one_eq_mod n 1
 simp only[bF,hx,hy,dS,if_true];show some (AV.iV (IntKind.i64.wrap ((BitVec.ofInt 64 (n:Int) &&& BitVec.ofInt 64 1).toNat:Int)))=_;rw[e,oJ ac];rfl
end
def tD (s so:Int)(w wo:AV):ab:=[some (.cells [.iV s,w] 171),some (.cells [.iV 0,.ah] 171),some (.cells [.iV so,wo] 171)]
theorem XT (C:CF M N){A:Int}{K:Nat}(hK:K<1000000)(hB:∀i,i<=K->ak (A^i)<wB^N){Q:Ex->au->Prop}(a0:AV)
 (hQ:∀s so w wo p1 lo wr,aV (.agg [.iV so,wo]) (A^K)->Q (.exit 0) ⟨⟨[a0,p1,.ptr 0 0,.ptr 1 0,.ptr 2 0],lo,tD s so w wo,[]⟩,wr⟩)
 (s so:Int) (w wo:AV) (lo:List (Nat×AV)) (wr:List Nat) (hs:aV (.agg [.iV s,w]) A) (ho:aV (.agg [.iV so,wo]) 1) :
 W M (.loop rn) ⟨⟨[a0,.iV K,.ptr 0 0,.ptr 1 0,.ptr 2 0],lo,tD s so w wo,[]⟩,wr⟩ Q:=by
 refine W.ir (fun m st=>∃s so w wo kv lo wr i j,st=⟨⟨[a0,.iV kv,.ptr 0 0,.ptr 1 0,.ptr 2 0],lo,tD s so w wo,[]⟩,wr⟩/\kv=(m:Int)/\aV (.agg [.iV s,w]) (A^i)/\aV (.agg [.iV so,wo]) (A^j)/\j+i*m=K/\m<=K)
  (fun m st ⟨s,so,w,wo,kv,lo,wr,i,j,hst,hkv,hs,ho,hj,hmK⟩=>?_) (m:=K) ⟨s,so,w,wo,_,lo,wr,1,0,rfl,rfl,by rw[Int.pow_one];exact hs,by rw[le];exact ho,ac,be _⟩
 subst hst;subst hkv;by_cases h0:m=0
 . subst h0;have ej:j=K:=by omega
   subst ej;unfold rn;repeat' first|apply abx|apply aa|apply abr|apply aaL|apply aeM|apply bH|apply ck|(apply acM;rfl)|(apply aeq;rfl;rfl)|(apply abA;rfl;rfl)|(intro _;omega)|intro _
   all_goals try omega
   exact hQ _ _ _ _ _ _ _ ho
 . obtain⟨q,b,hqb,hb⟩:∃q b:Nat,m=2*q+b/\b<2:=⟨m/2,m%2,ac,ac⟩;have him:i*m=2*(i*q)+i*b:=by rw[hqb,Nat.mul_add,←gC,f6 i 2,gC]
   have hdiv:(m:Int)/2=(q:Int):=by omega
   have hmod:(m:Int)%2=(b:Int):=by omega
   have hi:i<=K:=by
    have:i*1<=i*m:=Nat.mul_le_mul_left i ac;omega
   have hjK:j<=K:=by omega
   obtain⟨o1,_⟩:=hs.one;obtain⟨o2,_⟩:=ho.one;have fin:∀s so w wo lo wr i' j',aV (.agg [.iV s,w]) (A^i')->aV (.agg [.iV so,wo]) (A^j')->j'+i'*q=K->LI (fun st=>∃m',m'<m/\∃s so w wo kv lo wr i j,st=⟨⟨[a0,.iV kv,.ptr 0 0,.ptr 1 0,.ptr 2 0],lo,tD s so w wo,[]⟩,wr⟩/\kv=(m':Int)/\aV (.agg [.iV s,w]) (A^i)/\aV (.agg [.iV so,wo]) (A^j)/\j+i*m'=K/\m'<=K) Q .normal ⟨⟨[a0,.iV ((m:Int)/2),.ptr 0 0,.ptr 1 0,.ptr 2 0],lo,tD s so w wo,[]⟩,wr⟩:=fun s so w wo lo wr i' j' h1 h2 h3=>
    dQ ⟨q,ac,s,so,w,wo,_,lo,wr,i',j',rfl,hdiv,h1,h2,h3,ac⟩
   have sq:q≠0->∃v,aV v (A^(i+i))/\∀h,M.ext 199 [.agg [.iV s,w],.agg [.iV s,w]] h=some ⟨v,h,[]⟩:=fun hq=>by
    obtain⟨v,h1,h2⟩:=C.rp _ _ _ _ hs hs (hB i hi) (hB i hi);exact⟨v,by rw[jg];exact h1,h2⟩
   by_cases hodd:b=1
   . subst hodd;obtain⟨v1,h1,q1⟩:=C.rp _ _ _ _ ho hs (hB j hjK) (hB i hi);have h1:aV v1 (A^(j+i)):=by rw[jg];exact h1
     obtain⟨s1,w1,rfl,o3,_⟩:=h1.shape;by_cases hq:q=0
     . subst hq;unfold rn;repeat' first|(apply ajn;rfl;rfl;omega)|(apply ajm;rfl)|(apply aia;rfl;rfl;rfl;exact⟨rfl,be _,by simp[fw,o3]⟩;rfl)|apply abx|apply aa|apply abr|apply aaL|apply aef|apply adA|apply bC|(apply acO;rfl)|(apply acM;rfl)|(apply aeq;rfl;rfl)|(apply afe;rfl;rfl)|(apply adX;rfl;rfl;first|exact q1 _)|(apply aev;rfl;rfl;rfl)|(apply abA;rfl;rfl)|(apply abC;rfl;rfl)|(intro _;omega)|intro _
       all_goals try omega
       all_goals exact fin s s1 w w1 _ _ i (j+i) hs h1 ac
     . obtain⟨v2,h2,q2⟩:=sq hq;obtain⟨s2,w2,rfl,o4,_⟩:=h2.shape;unfold rn;repeat' first|(apply ajn;rfl;rfl;omega)|(apply ajm;rfl)|(apply aia;rfl;rfl;rfl;exact⟨rfl,be _,by simp[fw,o3,o4]⟩;rfl)|apply abx|apply aa|apply abr|apply aaL|apply aef|apply adA|apply bC|(apply acO;rfl)|(apply aeq;rfl;rfl)|(apply afe;rfl;rfl)|(apply adX;rfl;rfl;first|exact q1 _|exact q2 _)|(apply aev;rfl;rfl;rfl)|(apply abA;rfl;rfl)|(apply abC;rfl;rfl)|(intro _;omega)|intro _
       all_goals try omega
       all_goals exact fin s2 s1 w2 w1 _ _ (i+i) (j+i) h2 h1 (by rw[ne];omega)
   . obtain⟨v2,h2,q2⟩:=sq ac;obtain⟨s2,w2,rfl,o4,_⟩:=h2.shape;have hb0:b=0:=by omega
     subst hb0;unfold rn;repeat' first|(apply ajn;rfl;rfl;omega)|(apply ajm;rfl)|(apply aia;rfl;rfl;rfl;exact⟨rfl,be _,by simp[fw,o4]⟩;rfl)|apply abx|apply aa|apply abr|apply aaL|apply aef|apply adA|apply bC|(apply acO;rfl)|(apply acM;rfl)|(apply aeq;rfl;rfl)|(apply afe;rfl;rfl)|(apply adX;rfl;rfl;first|exact q2 _)|(apply aev;rfl;rfl;rfl)|(apply abA;rfl;rfl)|(apply abC;rfl;rfl)|(intro _;omega)|intro _
     all_goals try omega
     all_goals exact fin s2 so w2 wo _ _ (i+i) j h2 ho (by rw[ne];omega)
theorem XU (C:CF M N){v:AV}{A:Int}{K:Nat}(hv:aV v A)(hK:K<1000000)(hB:∀i,i<=K->ak (A^i)<wB^N):∃v0,aV v0 (A^K)/\dD M 284 [v,.iV K] v0:=by
 have q196:=C.nL 1;obtain⟨s,w,rfl,o1,_⟩:=hv.shape;obtain⟨v',hh,⟨v0,h0,ho⟩,hr⟩:=iR (M:=M) (f:=284) (ars:=[.agg [.iV s,w],.iV K]) (P:=fun v hh=>∃v0,aV v0 (A^K)/\fG v hh v0) (by rw[C.ft];exact Xu) ax (by
  unfold Kt;simp only[enter];repeat' first|apply abx|apply aa|apply abr|apply aaL|apply aef|(apply adX;rfl;rfl;first|exact q196 _)|(apply aes;rfl;rfl;rfl)|(apply ahX;rfl;rfl;rfl)
  refine XT C hK hB _ (fun s so w wo p1 lo wr hg=>?_) s 1 w .ah _ _ hv (.small ao);obtain⟨o5,_⟩:=hg.one;repeat' first|(apply aia;rfl;rfl;rfl;exact⟨rfl,be _,by simp[fw,o5]⟩;rfl)|apply abx|apply aa|apply abr|apply aaL|apply acG|apply bJ|(apply aev;rfl;rfl;rfl)
  exact⟨.inr rfl,rfl,_,rfl,_,hg,hg.out⟩)
 exact⟨v0,h0,v',hh,ho,hr⟩
variable {P:Program} {T:List (Nat×Spec)} {g:Nat}
theorem dD.runK {ars:List AV}{v0:AV}(h:dD (bD P FT T) g ars v0)(ht:bO ars=0):BV P FT T g ars v0:=by
 obtain⟨v,hh,⟨v1,h1,h2,h3⟩,hr⟩:=h;exact⟨v,hh,v1,hr,h1,ht,h2,h3⟩
theorem dD.eq {ars:List AV}{v0:AV}{hp:ab}(h:dD (bD P FT T) g ars v0)(ht:bO ars=0):qS P FT T g ars hp=some ⟨v0,hp,[]⟩:=sY (h.runK ht)
theorem ra.eq {ars as0:List AV}{z:Int}(h:ra (bD P FT T) g as0 z):∃r,okW wB r/\bg r/\WV wB r=z/\∀hp,gZ hp ars as0->sX P FT T g ars hp=some ⟨.vs (aq r) r.length none,hp,[]⟩:=by
 obtain⟨r,⟨h1,h2,h3⟩,v,hh,⟨v1,f,t,c⟩,hr⟩:=h;exact⟨r,h1,h2,h3,fun hp hf=>nC hf ⟨v,hh,v1,hr,f,t,c⟩⟩
theorem tr.eq {ars:List AV}{x y:Int}(h:tr (bD P FT T) g ars x y)(ht:bO ars=0):∃qv q rv r,dR qv q/\dR rv r/\okW wB q/\bg q/\okW wB r/\bg r/\WV wB q=x/y/\WV wB r=x%y/\∀hp,qS P FT T g ars hp=some ⟨.aw [qv,rv],hp,[]⟩:=by
 obtain⟨q,r,⟨h1,h2,h3⟩,⟨h4,h5,h6⟩,v,hh,⟨v1,qv,rv,f,t,c,k1,k2⟩,hr⟩:=h;exact⟨qv,q,rv,r,k1,k2,h1,h2,h4,h5,h3,h6,fun hp=>sY ⟨v,hh,v1,hr,f,ht,t,c⟩⟩
theorem dR.top {x:AV}{l:List Int}(h:dR x l):x.top=0:=by
 rcases h with rfl|⟨rfl,rfl⟩
 . exact iT l
 . rfl
theorem aV.top {v:AV}{z:Int}(h:aV v z):v.top=0:=by
 obtain⟨s,w,rfl,_,t,_⟩:=h.shape;simp[AV.top,bO,t]
theorem dV.top {v:AV}{q:Rat}(h:dV v q):v.top=0:=by
 obtain⟨s,w,s',w',rfl,h1,h2⟩:=h;have t1:=h1.one.2.1;have t2:=h2.one.2.1;simp[AV.top,bO,t1,t2]
open Go.Proofs
noncomputable abbrev sK (T:List (Nat×Spec))(g:Nat):Spec:=qS Tryz.prog FT T g
noncomputable abbrev sL (T:List (Nat×Spec))(g:Nat):Spec:=sX Tryz.prog FT T g
theorem bQ {g:Nat}(hT:cW Tryz.prog gl (bM T)):bl Tryz.prog gl g (sK T g):=TV iu hT
theorem jS {g:Nat}(hT:cW Tryz.prog gl (bM T)):bl Tryz.prog gl g (sL T g):=TT iu hT
theorem km {v:AV}(h:v.top=0):bO [v]=0:=by simp[bO,h]
theorem gq {v w:AV}(h:v.top=0)(k:w.top=0):bO [v,w]=0:=by simp[bO,h,k]
theorem eE {ars:List AV}{v0:AV}{g:Nat}(h:dD (bD Tryz.prog FT T) g ars v0)(ht:bO ars=0):∀hp,sK T g ars hp=some ⟨v0,hp,[]⟩:=fun _=>h.eq ht
def KD:List (Nat×Spec):=[(310,oK .qF),(330,oK .qG)]
theorem XV:cW Tryz.prog gl (bM KD):=aX (By Jd) (aX (By Je) bP)
structure Ef (T:List (Nat×Spec)):Prop where
 XW:∀ar h,bM T 310 ar h=oK .qF ar h
 XX:∀ar h,bM T 330 ar h=oK .qG ar h
 xi:∀ar h,bM T 288 ar h=none
theorem Ef.c (E:Ef T):nE (bD Tryz.prog FT T) where
 ft:=bN
 xi:=E.xi
 nF x y c h hx hy h0 h1:=by
  refine(E.XW _ _).trans ?_;show pN _ (if _ then _ else _)=_;rw[if_pos ⟨hx,hy,h0,h1⟩];rfl
 xj x y c h hx hx1 hy hy1 h0 h1:=by
  refine(E.XX _ _).trans ?_;show pN _ (if _ then _ else _)=_;rw[if_pos ⟨hx,hy,h0,h1⟩];have e1:(((x.toNat+18446744073709551616-y.toNat-c.toNat)%18446744073709551616:Nat):Int)=(x-y-c)%18446744073709551616:=by omega
  have e2:((if x.toNat<y.toNat+c.toNat then 1 else 0:Nat):Int)=if x<y+c then 1 else 0:=by
   by_cases hc:x<y+c
   . rw[if_pos hc,if_pos ac];rfl
   . rw[if_neg hc,if_neg ac];rfl
  show some (HR.mk (.aw [.uV _,.uV _]) h [])=_;rw[e1,e2]
noncomputable def rq:Spec:=sK [] 259
theorem KE:bl Tryz.prog gl 259 rq:=bQ bP
theorem KF:∀(x y:Int) h,(0<=x/\x<18446744073709551616)->(0<=y/\y<18446744073709551616)->rq [.uV x,.uV y] h=some ⟨.aw [.uV (x*y/18446744073709551616),.uV (x*y%18446744073709551616)],h,[]⟩:=fun x y h hx hy=>cS (VP bN x y hx hy) rfl rfl rfl h
noncomputable def ru:List (Nat×Spec):=(259,rq)::KD
theorem xF:cW Tryz.prog gl (bM ru):=aX KE XV
structure xG (T:List (Nat×Spec)):Prop extends Ef T where
 Eg:∀ar h,bM T 259 ar h=rq ar h
theorem xG.c (E:xG T):nH (bD Tryz.prog FT T):={ E.toEf.c with pw:=fun x y h hx hy=>(E.Eg _ _).trans (KF x y h hx hy) }
theorem Eh:xG ru:=by repeat' first|exact fun _ _=>rfl|constructor
noncomputable def Ei:Spec:=sK [] 252
theorem XY:bl Tryz.prog gl 252 Ei:=bQ bP
theorem XZ:∀(x:Int) h,(0<=x/\x<18446744073709551616)->Ei [.uV x] h=some ⟨.iV (fj x),h,[]⟩:=fun x h hx=>cS (Wj bN x hx) rfl rfl rfl h
noncomputable def KG:List (Nat×Spec):=[(252,Ei)]
noncomputable def tE:Spec:=sK KG 289
theorem KH:bl Tryz.prog gl 289 tE:=bQ (aX XY bP)
theorem KI:∀(y:Int) h,(0<=y/\y<18446744073709551616)->tE [.uV y] h=some ⟨.iV (64-fj y:Nat),h,[]⟩:=fun x h hx=>cS (Wk (M:=bD Tryz.prog FT KG) bN x hx fun h=>XZ x h hx) rfl rfl rfl h
noncomputable def KJ:List (Nat×Spec):=[(289,tE)]
noncomputable def xH:Spec:=sK KJ 287
theorem Ya:bl Tryz.prog gl 287 xH:=bQ (aX KH bP)
theorem Yb:∀(hi lo y:Int) h,(0<y/\y<18446744073709551616)->(0<=hi/\hi<y)->(0<=lo/\lo<18446744073709551616)->xH [.uV hi,.uV lo,.uV y] h=some ⟨.aw [.uV ((hi*18446744073709551616+lo)/y),.uV ((hi*18446744073709551616+lo)%y)],h,[]⟩:=fun hi lo y h hy hh hl=>
 cS (Wp (M:=bD Tryz.prog FT KJ) bN hi lo y hy hh hl fun h=>KI y h ⟨ac,hy.2⟩) rfl rfl rfl h
noncomputable def xI:Spec:=sL ru 308
noncomputable def xJ:Spec:=sL ru 309
noncomputable def xK:Spec:=sL ru 262
noncomputable def pA:Spec:=sL [] 286
theorem Yc:bl Tryz.prog gl 308 xI:=jS xF
theorem Yd:bl Tryz.prog gl 309 xJ:=jS xF
theorem Ye:bl Tryz.prog gl 262 xK:=jS xF
theorem KK:bl Tryz.prog gl 286 pA:=jS bP
theorem Yf:∀x l y m,dR x l->dR y m->okW wB l->okW wB m->l.length<=500000->m.length<=500000->∃r,okW wB r/\bg r/\WV wB r=WV wB l+WV wB m/\∀h,xI [x,y] h=some ⟨.vs (aq r) r.length none,h,[]⟩:=fun x l y m hx hy o1 o2 l1 l2=>by
 obtain⟨r,h1,h2,h3,h4⟩:=(VW (c1:=none) (c2:=none) Eh.c.tonE l m o1 o2 ac ac).eq;exact⟨r,h1,h2,h3,fun h=>h4 h (.cons hx.ix (.cons hy.ix .nil))⟩
theorem Yg:∀x l y m,dR x l->dR y m->okW wB l->okW wB m->bg l->bg m->l.length<=500000->m.length<=500000->WV wB m<=WV wB l->∃r,okW wB r/\bg r/\WV wB r=WV wB l-WV wB m/\∀h,xJ [x,y] h=some ⟨.vs (aq r) r.length none,h,[]⟩:=fun x l y m hx hy o1 o2 n1 n2 l1 l2 hle=>by
 have hlen:m.length<=l.length:=by
  rcases Nat.lt_or_ge l.length m.length with h|h
  . have:=pt (b:=wB) ao o1 o2 n2 h;omega
  . exact h
 obtain⟨r,h1,h2,h3,h4⟩:=(VY (c1:=none) (c2:=none) Eh.c.tonE l m o1 o2 ac hlen hle).eq;exact⟨r,h1,h2,h3,fun h=>h4 h (.cons hx.ix (.cons hy.ix .nil))⟩
theorem Yh:∀x l y m,dR x l->dR y m->okW wB l->okW wB m->l.length<=500000->m.length<=500000->∃r,okW wB r/\bg r/\WV wB r=WV wB l*WV wB m/\∀h,xK [x,y] h=some ⟨.vs (aq r) r.length none,h,[]⟩:=fun x l y m hx hy o1 o2 l1 l2=>by
 obtain⟨r,h1,h2,h3,h4⟩:=(Wa (c1:=none) (c2:=none) Eh.c l m o1 o2 ac ac).eq;exact⟨r,h1,h2,h3,fun h=>h4 h (.cons hx.ix (.cons hy.ix .nil))⟩
theorem KL {x y:AV}{l m:List Int}{c1 c2:Option Nat}{h:ab}(hx:dL h x (.vs (aq l) l.length c1))(hy:dL h y (.vs (aq m) m.length c2))(o1:okW wB l)(o2:okW wB m)(n1:bg l)(n2:bg m)(l1:l.length<1000000000)(l2:m.length<1000000000):pA [x,y] h=some ⟨.iV (bE (WV wB l-WV wB m)),h,[]⟩:=
 pj (VU bN l m o1 o2 n1 n2 l1 l2) rfl rfl rfl (.cons hx (.cons hy .nil))
theorem KM:∀x l y m,dR x l->dR y m->okW wB l->okW wB m->bg l->bg m->l.length<=500000->m.length<=500000->∀h,pA [x,y] h=some ⟨.iV (bE (WV wB l-WV wB m)),h,[]⟩:=fun x l y m hx hy o1 o2 n1 n2 l1 l2 h=>
 KL hx.ix hy.ix o1 o2 n1 n2 ac ac
noncomputable def xL:List (Nat×Spec):=(287,xH)::(286,pA)::(289,tE)::ru
theorem Yi:cW Tryz.prog gl (bM xL):=aX Ya (aX KK (aX KH xF))
structure Ej (T:List (Nat×Spec)):Prop extends xG T where
 Yj:∀ar h,bM T 287 ar h=xH ar h
 Ek:∀ar h,bM T 286 ar h=pA ar h
 Yk:∀ar h,bM T 289 ar h=tE ar h
 tq:∀ar h,bM T 290 ar h=none
 xu:∀ar h,bM T 291 ar h=none
theorem Ej.c (E:Ej T):Kc (bD Tryz.prog FT T):={ E.toxG.c with
 DK:=fun hi lo y h h1 h2 h3=>(E.Yj _ _).trans (Yb hi lo y h h1 h2 h3)
 tu:=fun a b _c1 _c2 _h o1 o2 n1 n2 l1 l2=>(E.Ek _ _).trans (KL (.pf (DM a)) (.pf (DM b)) o1 o2 n1 n2 l1 l2)
 tk:=fun y h hy=>(E.Yk _ _).trans (KI y h hy)
 tq:=E.tq
 xu:=E.xu }
theorem Yl:Ej xL:=by repeat' first|exact fun _ _=>rfl|constructor
noncomputable def xM:Spec:=sK xL 220
theorem Ym:bl Tryz.prog gl 220 xM:=bQ Yi
theorem Yn:∀x l y m,dR x l->dR y m->okW wB l->okW wB m->bg l->bg m->l.length<=500000->m.length<=500000->m≠[]->∃qv q rv r,dR qv q/\dR rv r/\okW wB q/\bg q/\okW wB r/\bg r/\WV wB q=WV wB l/WV wB m/\WV wB r=WV wB l%WV wB m/\∀h,xM [x,y] h=some ⟨.aw [qv,rv],h,[]⟩:=fun x l y m hx hy o1 o2 n1 n2 l1 l2 hm=>by
 have hy':y = .vs (aq m) m.length none:=by
  rcases hy with h|⟨_,h⟩
  . exact h
  . exact absurd h hm
 subst hy';rcases hx with rfl|⟨rfl,rfl⟩
 . exact(WM Yl.c l m o1 o2 n1 n2 ac ac hm).eq (gq (iT l) (iT m))
 . have hv:=(jP (b:=wB) ao o2 n2).2 hm;have q286:∀h,(bD Tryz.prog FT xL).ext 286 [.ah,.vs (aq m) m.length none] h=some ⟨.iV (-1),h,[]⟩:=fun h=>by
    have:=KM .ah [] _ m (.inr ⟨rfl,rfl⟩) (.inl rfl) o1 o2 n1 n2 l1 l2 h;rw[show bE (WV wB []-WV wB m) = -1 from if_pos (by simp[WV];omega)]at this;exact this
   exact(WN bN m o2 n2 hm q286).eq (gq rfl (iT m))
noncomputable def tF:Spec:=sK [] 260
theorem KN:bl Tryz.prog gl 260 tF:=bQ bP
theorem KO:∀s h,(-9223372036854775808<=s/\s<9223372036854775808)->tF [.iV s] h=some ⟨.uV (ak s),h,[]⟩:=fun s h hs=>cS (WQ bN s hs) rfl rfl rfl h
noncomputable def KP:List (Nat×Spec):=[(260,tF)]
noncomputable def xN:Spec:=sK KP 219
theorem Yo:bl Tryz.prog gl 219 xN:=bQ (aX KN bP)
theorem Yp:∀v z,aV v z->∃x l,dR x l/\okW wB l/\bg l/\WV wB l=ak z/\∀h,xN [v] h=some ⟨.aw [.bool (decide (z<0)),x],h,[]⟩:=fun v z hv=>by
 obtain⟨x,l,h1,h2,h3,h4,h5⟩:=WR (M:=bD Tryz.prog FT KP) bN (fun s h hs=>KO s h hs) hv;exact⟨x,l,h1,h2,h3,h4,eE h5 (km hv.top)⟩
noncomputable def xO:Spec:=sK [] 261
theorem Yq:bl Tryz.prog gl 261 xO:=bQ bP
theorem Yr:∀neg x l,dR x l->okW wB l->bg l->l.length<=1000001->∃v0,aV v0 (gV neg (WV wB l))/\∀h,xO [.bool neg,x] h=some ⟨v0,h,[]⟩:=fun neg x l hx ok nr hl=>by
 obtain⟨v0,h1,h2⟩:=WS (M:=bD Tryz.prog FT []) bN neg hx ok nr ac;exact⟨v0,h1,eE h2 (gq rfl hx.top)⟩
noncomputable def TI:List (Nat×Spec):=[(260,tF),(259,rq),(219,xN),(261,xO),(308,xI),(309,xJ),(262,xK),(286,pA)]
theorem xP:cW Tryz.prog gl (bM TI):=aX KN (aX KE (aX Yo (aX Yq (aX Yc (aX Yd (aX Ye (aX KK bP)))))))
structure EI (T:List (Nat×Spec)):Prop where
 Ys:∀ar h,bM T 260 ar h=tF ar h
 Eg:∀ar h,bM T 259 ar h=rq ar h
 Yt:∀ar h,bM T 219 ar h=xN ar h
 Yu:∀ar h,bM T 261 ar h=xO ar h
 Yv:∀ar h,bM T 308 ar h=xI ar h
 Yw:∀ar h,bM T 309 ar h=xJ ar h
 Yx:∀ar h,bM T 262 ar h=xK ar h
 Ek:∀ar h,bM T 286 ar h=pA ar h
theorem EI.c (E:EI T){N:Nat}(hN:N<=500000):CI (bD Tryz.prog FT T) N where
 ft:=bN
 lN:=hN
 tv:=by simp only[E.Ys];exact KO
 pw:=by simp only[E.Eg];exact KF
 nJ:=by simp only[E.Yt];exact Yp
 kX:=by simp only[E.Yu];exact Yr
 Kn:=by simp only[E.Yv];exact Yf
 DR:=by simp only[E.Yw];exact Yg
 Ko:=by simp only[E.Yx];exact Yh
 tu:=by simp only[E.Ek];exact KM
theorem eI:EI TI:=by repeat' first|exact fun _ _=>rfl|constructor
noncomputable def tG:Spec:=sK TI 201
noncomputable def xQ:Spec:=sK TI 253
noncomputable def xR:Spec:=sK TI 199
noncomputable def xS:Spec:=sK [] 230
noncomputable def xT:Spec:=sK [] 196
theorem KQ:bl Tryz.prog gl 201 tG:=bQ xP
theorem Yy:bl Tryz.prog gl 253 xQ:=bQ xP
theorem Yz:bl Tryz.prog gl 199 xR:=bQ xP
theorem YA:bl Tryz.prog gl 230 xS:=bQ bP
theorem YB:bl Tryz.prog gl 196 xT:=bQ bP
def P1 (sp:Spec)(N:Nat)(f:Int->Int):Prop:=∀v z,aV v z->ak z<wB^N->∃v0,aV v0 (f z)/\∀h,sp [v] h=some ⟨v0,h,[]⟩
def P2 (sp:Spec)(N:Nat)(f:Int->Int->Int):Prop:=∀a b x y,aV a x->aV b y->ak x<wB^N->ak y<wB^N->∃v0,aV v0 (f x y)/\∀h,sp [a,b] h=some ⟨v0,h,[]⟩
theorem P1.op {sp:Spec}{N g:Nat}{f:Int->Int}(p:P1 sp N f)(e:∀ar h,bM T g ar h=sp ar h):DS (bD Tryz.prog FT T) N g f:=fun v z hv hz=>by
 obtain⟨v0,h1,h2⟩:=p v z hv hz;exact⟨v0,h1,fun h=>(e _ _).trans (h2 h)⟩
theorem P2.op {sp:Spec}{N g:Nat}{f:Int->Int->Int}(p:P2 sp N f)(e:∀ar h,bM T g ar h=sp ar h):xB (bD Tryz.prog FT T) N g f:=fun a b x y ha hb hx hy=>by
 obtain⟨v0,h1,h2⟩:=p a b x y ha hb hx hy;exact⟨v0,h1,fun h=>(e _ _).trans (h2 h)⟩
theorem KR {N:Nat}(hN:N<=500000):P1 tG N (fun z=>-z):=fun v z hv hz=>by
 obtain⟨v0,h1,h2⟩:=WZ (eI.c hN) hv hz;exact⟨v0,h1,eE h2 (km hv.top)⟩
theorem YC {N:Nat}(hN:N<=500000):P2 xQ N (· + ·):=fun a b x y ha hb hx hy=>by
 obtain⟨v0,h1,h2⟩:=Xg (eI.c hN) ha hb hx hy;exact⟨v0,h1,eE h2 (gq ha.top hb.top)⟩
theorem YD {N:Nat}(hN:N<=500000):P2 xR N (· * ·):=fun a b x y ha hb hx hy=>by
 obtain⟨v0,h1,h2⟩:=Xn (eI.c hN) ha hb hx hy;exact⟨v0,h1,eE h2 (gq ha.top hb.top)⟩
theorem YE:∀v z,aV v z->∀h,xS [v] h=some ⟨.iV (bE z),h,[]⟩:=fun _v _z hv h=>cS (Xa bN hv) (km hv.top) rfl rfl h
theorem YF:∀s h,xT [.iV s] h=some ⟨.agg [.iV s,.ah],h,[]⟩:=fun s _h=>(Xk bN s).eq rfl
noncomputable def xU:List (Nat×Spec):=(201,tG)::(253,xQ)::TI
theorem KS:cW Tryz.prog gl (bM xU):=aX KQ (aX Yy xP)
structure xV (T:List (Nat×Spec)):Prop extends EI T where
 YG:∀ar h,bM T 201 ar h=tG ar h
 YH:∀ar h,bM T 253 ar h=xQ ar h
theorem xV.c (E:xV T){N:Nat}(hN:N<=500000):DT (bD Tryz.prog FT T) N:={ E.toEI.c hN with mL:=(KR hN).op E.YG,xC:=(YC hN).op E.YH }
theorem YI:xV xU:=by repeat' first|exact fun _ _=>rfl|constructor
noncomputable def xW:Spec:=sK xU 263
theorem YJ:bl Tryz.prog gl 263 xW:=bQ KS
theorem YK {N:Nat}(hN:N<=500000):P2 xW N (· - ·):=fun a b x y ha hb hx hy=>by
 obtain⟨v0,h1,h2⟩:=Xh (YI.c hN) ha hb hx hy;exact⟨v0,h1,eE h2 (gq ha.top hb.top)⟩
noncomputable def TJ:List (Nat×Spec):=(263,xW)::(230,xS)::xU
theorem tH:cW Tryz.prog gl (bM TJ):=aX YJ (aX YA KS)
structure EJ (T:List (Nat×Spec)):Prop extends xV T where
 YL:∀ar h,bM T 263 ar h=xW ar h
 YM:∀ar h,bM T 230 ar h=xS ar h
theorem EJ.c (E:EJ T){N:Nat}(hN:N<=500000):CJ (bD Tryz.prog FT T) N:={ E.toxV.c hN with DU:=(YK hN).op E.YL,nK:=fun v z hv h=>(E.YM _ _).trans (YE v z hv h) }
theorem eJ:EJ TJ:=by repeat' first|exact fun _ _=>rfl|constructor
noncomputable def xX:Spec:=sK TJ 298
noncomputable def xY:Spec:=sK TJ 200
noncomputable def El:Spec:=sK TJ 148
theorem YN:bl Tryz.prog gl 298 xX:=bQ tH
theorem YO:bl Tryz.prog gl 200 xY:=bQ tH
theorem YP:bl Tryz.prog gl 148 El:=bQ tH
theorem YQ {N:Nat}(hN:N<=500000):P1 xX N ak:=fun v z hv hz=>by
 obtain⟨v0,h1,h2⟩:=Xi (eJ.c hN) hv hz;exact⟨v0,h1,eE h2 (km hv.top)⟩
theorem YR {N:Nat}(hN:N<=500000):∀a b x y,aV a x->aV b y->ak x<wB^N->ak y<wB^N->∀h,xY [a,b] h=some ⟨.iV (bE (x-y)),h,[]⟩:=fun _a _b _x _y ha hb hx hy=>
 eE (Xj (eJ.c hN) ha hb hx hy) (gq ha.top hb.top)
theorem YS {N:Nat}(hN:N<=500000):∀v q,dV v q->Bq N q->∃v0,dV v0 (-q)/\∀h,El [v] h=some ⟨v0,h,[]⟩:=fun v q hv lq=>by
 obtain⟨v0,h1,h2⟩:=XQ (eJ.c hN) hv lq;exact⟨v0,h1,eE h2 (km hv.top)⟩
noncomputable def TD:List (Nat×Spec):=(196,xT)::(220,xM)::TJ
theorem Em:cW Tryz.prog gl (bM TD):=aX YB (aX Ym tH)
structure ED (T:List (Nat×Spec)):Prop extends EJ T where
 YT:∀ar h,bM T 196 ar h=xT ar h
 YU:∀ar h,bM T 220 ar h=xM ar h
theorem ED.c (E:ED T){N:Nat}(h1:1<=N)(hN:N<=500000):CD (bD Tryz.prog FT T) N:={ E.toEJ.c hN with
 n1:=h1
 nL:=fun s h=>(E.YT _ _).trans (YF s h)
 Ks:=by simp only[E.YU];exact Yn }
theorem eD:ED TD:=by repeat' first|exact fun _ _=>rfl|constructor
noncomputable def xZ:Spec:=sK TD 299
noncomputable def yb:Spec:=sK TD 195
theorem YV:bl Tryz.prog gl 299 xZ:=bQ Em
theorem YW:bl Tryz.prog gl 195 yb:=bQ Em
theorem YX {N:Nat}(h1:1<=N)(hN:N<=500000):∀a b x y,aV a x->aV b y->ak x<wB^N->ak y<wB^N->0<y->∃q r,aV q (x/y)/\aV r (x%y)/\∀h,xZ [a,b] h=some ⟨.aw [q,r],h,[]⟩:=fun a b x y ha hb hx hy h0=>by
 obtain⟨q,r,k1,k2,k3⟩:=Xs (eD.c h1 hN) ha hb hx hy h0;exact⟨q,r,k1,k2,eE k3 (gq ha.top hb.top)⟩
theorem ju.top {v:AV}{n d:Int}(h:ju v n d):v.top=0:=by
 obtain⟨s,w,s',w',rfl,h1,h2⟩:=h;have t1:=h1.one.2.1;have t2:=h2.one.2.1;simp[AV.top,bO,t1,t2]
theorem YY:∀v z,aV v z->∃v0,ju v0 z 1/\∀h,yb [v] h=some ⟨v0,h,[]⟩:=fun v z hv=>by
 obtain⟨v0,h1,h2⟩:=XB (eD.c (N:=1) ao ao) hv;exact⟨v0,h1,eE h2 (km hv.top)⟩
noncomputable def TQ:List (Nat×Spec):=(299,xZ)::TD
theorem En:cW Tryz.prog gl (bM TQ):=aX YV Em
structure EQ (T:List (Nat×Spec)):Prop extends ED T where
 YZ:∀ar h,bM T 299 ar h=xZ ar h
theorem EQ.c (E:EQ T){N:Nat}(h1:1<=N)(hN:N<=500000):CQ (bD Tryz.prog FT T) N:={ E.toED.c h1 hN with tA:=by simp only[E.YZ];exact YX h1 hN }
theorem eQ:EQ TQ:=by repeat' first|exact fun _ _=>rfl|constructor
noncomputable def yc:Spec:=sK TQ 258
theorem Za:bl Tryz.prog gl 258 yc:=bQ En
theorem Zb {N:Nat}(h1:1<=N)(hN:N<=500000):∀a b x y k,aV a x->aV b y->ak x<wB^N->ak y<wB^N->y≠0->x=y*k->∃v0,aV v0 k/\∀h,yc [a,b] h=some ⟨v0,h,[]⟩:=fun a b x y k ha hb hx hy h0 hk=>by
 obtain⟨v0,k1,k2⟩:=Xt (eQ.c h1 hN) ha hb hx hy h0 hk;exact⟨v0,k1,eE k2 (gq ha.top hb.top)⟩
noncomputable def TF:List (Nat×Spec):=(195,yb)::(200,xY)::(199,xR)::TQ
theorem yd:cW Tryz.prog gl (bM TF):=aX YW (aX YO (aX Yz En))
structure EF (T:List (Nat×Spec)):Prop extends EQ T where
 Zc:∀ar h,bM T 195 ar h=yb ar h
 Zd:∀ar h,bM T 200 ar h=xY ar h
 Ze:∀ar h,bM T 199 ar h=xR ar h
theorem EF.c (E:EF T){N:Nat}(h1:1<=N)(hN:N<=500000):CF (bD Tryz.prog FT T) N:={ E.toEQ.c h1 hN with
 DX:=by simp only[E.Zc];exact YY
 DY:=by simp only[E.Zd];exact YR hN
 rp:=(YD hN).op E.Ze }
theorem eF:EF TF:=by repeat' first|exact fun _ _=>rfl|constructor
noncomputable def TG:List (Nat×Spec):=(298,xX)::TQ
theorem KT:cW Tryz.prog gl (bM TG):=aX YN En
structure EG (T:List (Nat×Spec)):Prop extends EQ T where
 Zf:∀ar h,bM T 298 ar h=xX ar h
theorem EG.c (E:EG T){N:Nat}(h1:1<=N)(hN:N<=500000):CG (bD Tryz.prog FT T) N:={ E.toEQ.c h1 hN with Ea:=(YQ hN).op E.Zf }
theorem eG:EG TG:=by repeat' first|exact fun _ _=>rfl|constructor
noncomputable def tI:Spec:=sK TG 229
theorem KU:bl Tryz.prog gl 229 tI:=bQ KT
theorem KV {N:Nat}(h1:1<=N)(hN:N<=500000):∀a b x y,aV a x->aV b y->ak x<wB^N->ak y<wB^N->∃v0,aV v0 (cZ x y:Nat)/\∀h,tI [a,b] h=some ⟨v0,h,[]⟩:=fun a b x y ha hb hx hy=>by
 obtain⟨v0,k1,k2⟩:=XL (eG.c h1 hN) ha hb hx hy;exact⟨v0,k1,eE k2 (gq ha.top hb.top)⟩
noncomputable def TR:List (Nat×Spec):=(229,tI)::(258,yc)::TG
theorem Zg:cW Tryz.prog gl (bM TR):=aX KU (aX Za KT)
structure ER (T:List (Nat×Spec)):Prop extends EG T where
 Zh:∀ar h,bM T 229 ar h=tI ar h
 Zi:∀ar h,bM T 258 ar h=yc ar h
theorem ER.c (E:ER T){N:Nat}(h1:1<=N)(hN:N<=500000):CR (bD Tryz.prog FT T) N:={ E.toEG.c h1 hN with
 tC:=by simp only[E.Zh];exact KV h1 hN
 Eb:=by simp only[E.Zi];exact Zb h1 hN }
theorem eR:ER TR:=by repeat' first|exact fun _ _=>rfl|constructor
noncomputable def ye:Spec:=sK TR 198
theorem Zj:bl Tryz.prog gl 198 ye:=bQ Zg
theorem Zk {N:Nat}(h1:1<=N)(hN:N<=500000):∀a b n d,aV a n->aV b d->ak n<wB^N->ak d<wB^N->d≠0->∃v0,dV v0 (bA n d)/\∀h,ye [a,b] h=some ⟨v0,h,[]⟩:=fun a b n d ha hb hn hd h0=>by
 obtain⟨v0,k1,k2⟩:=XO (eR.c h1 hN) ha hb hn hd h0;exact⟨v0,k1,eE k2 (gq ha.top hb.top)⟩
noncomputable def TS:List (Nat×Spec):=(198,ye)::TF
theorem KW:cW Tryz.prog gl (bM TS):=aX Zj yd
structure ES (T:List (Nat×Spec)):Prop extends EF T where
 Zl:∀ar h,bM T 198 ar h=ye ar h
theorem ES.c (E:ES T){N:Nat}(h1:1<=N)(hN:N<=200000):CS (bD Tryz.prog FT T) N (2*N+1):={ E.toEF.c h1 (show N<=500000 by omega) with
  gn:=E.toEF.c ac ac
  hN:=be _
  XP:=by simp only[E.Zl];exact Zk ac ac }
theorem eS:ES TS:=by repeat' first|exact fun _ _=>rfl|constructor
noncomputable def tJ:Spec:=sK TS 147
noncomputable def Eo:Spec:=sK TS 231
theorem KX:bl Tryz.prog gl 147 tJ:=bQ KW
theorem Zm:bl Tryz.prog gl 231 Eo:=bQ KW
theorem KY {N:Nat}(h1:1<=N)(hN:N<=200000):∀a b p q,dV a p->dV b q->Bq N p->Bq N q->∀h,tJ [a,b] h=some ⟨.iV (bE (p.num*q.den-q.num*p.den)),h,[]⟩:=fun _a _b _p _q ha hb lp lq=>
 eE (XR (eS.c h1 hN) ha hb lp lq) (gq ha.top hb.top)
theorem Zn {N:Nat}(h1:1<=N)(hN:N<=200000):∀v q,dV v q->Bq N q->∃v0,aV v0 (q.num/q.den)/\∀h,Eo [v] h=some ⟨v0,h,[]⟩:=fun v q hv lq=>by
 obtain⟨v0,k1,k2⟩:=XS (eS.c h1 hN) hv lq;exact⟨v0,k1,eE k2 (km hv.top)⟩
end Go.Ab.Ch5.N

/-
  Own work: decimal texts of natural numbers: digits, texts, values.
-/
namespace Go.Ab.bB
def gI (d:Nat):UInt8:=UInt8.ofNat (48+d)
def dI:Nat->Nat->az
 | 0,_=>[]
 | k+1,n=>dI k (n/10)++[gI (n%10)]
def bw (n:Nat):az:=if n<10 then [gI n] else bw (n/10)++[gI (n%10)]
termination_by n
decreasing_by omega
def aU (n:Nat)(s:az):Nat:=s.foldl (fun n b=>10*n+(b.toNat-48)) n
def yf (c:Nat):Bool:=48<=c && c<58
abbrev bT (b:UInt8):Bool:=yf b.toNat
theorem lS (b:UInt8):bT b=true↔48<=b.toNat/\b.toNat<58:=by simp[bT,yf]
theorem tK {d:Nat}(h:d<10):(gI d).toNat=48+d:=by simp[gI];omega
theorem Ep {d:Nat}(h:d<10):bT (gI d)=true:=by rw[lS,tK h];omega
theorem Zo {b:UInt8}(h:bT b=true):gI (b.toNat-48)=b:=by
 rw[lS]at h;apply eA.1;rw[tK ac];omega
theorem nM:∀(k n:Nat),(dI k n).length=k
 | 0,_=>rfl
 | k+1,n=>by simp[dI,nM k]
theorem KZ:∀(k n:Nat),(dI k n).all bT=true
 | 0,_=>rfl
 | k+1,n=>by simp only[dI,c6,KZ k,eL,li,Ep (kO n (show 10 > 0 by decide)),pi]
theorem Er:∀{k n j:Nat},j<k->(dI k n)[j]! = gI (n/10^(k-1-j)%10)
 | k+1,n,j,h=>by
  rw[dI];by_cases hj:j<k
  . have h1:j<(dI k (n/10)).length:=by rw[nM];exact hj
    have e:(dI k (n/10)++[gI (n%10)])[j]! = (dI k (n/10))[j]! := by
     simp only[b9,i9 h1]
    rw[e,Er hj,show k+1-1-j=(k-1-j)+1 by omega,d8,f6,←Nat.div_div_eq_div_mul]
  . obtain rfl:j=k:=by omega
    have e:(dI j (n/10)++[gI (n%10)])[j]! = gI (n%10):=by
     simp only[b9];rw[List.getElem?_append_right (by rw[nM];exact be _),nM];simp
    rw[e];simp
theorem La {k n:Nat}{s:az}(hl:s.length=k)(h:∀j,j<k->s[j]! = gI (n/10^(k-1-j)%10)):s=dI k n:=by
 apply List.ext_getElem (by rw[hl,nM]);intro i h1 h2;have e1:=h i ac;have e2:=Er (n:=n) (show i<k by omega);rw[←e2]at e1;simpa[b9,bj h1,bj h2] using e1
theorem kn {n:Nat}(h:n<10):bw n=[gI n]:=by rw[bw,if_pos h]
theorem pB {n:Nat}(h:¬n<10):bw n=bw (n/10)++[gI (n%10)]:=by rw[bw,if_neg h]
theorem Es:∀{k n:Nat},n<10^(k+1)->(k=0\/10^k<=n)->bw n=dI (k+1) n
 | 0,n,h,_=>by
  have h:n<10:=by simpa using h
  rw[kn h];simp[dI,jN h]
 | k+1,n,h,h2=>by
  have h2:10^(k+1)<=n:=h2.resolve_left ac;rw[d8]at h h2;have hp:0<10^k:=Nat.pow_pos ao;rw[pB ac,Es (k:=k) (n:=n/10) ac (.inr ac)];rfl
theorem Lb:∀{k a b:Nat},0<a->b<10^k->bw (a*10^k+b)=bw a++dI k b
 | 0,a,b,_,hb=>by
  obtain rfl:b=0:=by simpa using hb
  simp[dI]
 | k+1,a,b,ha,hb=>by
  rw[d8]at hb ⊢;have hp:0<10^k:=Nat.pow_pos ao;have h1:10<=a*(10^k*10)+b:=by
   have:=Nat.mul_le_mul ha (iH 10 hp);omega
  have e1:(a*(10^k*10)+b)/10=a*10^k+b/10:=by
   rw[←gC];omega
  have e2:(a*(10^k*10)+b)%10=b%10:=by
   rw[←gC];omega
  rw[pB ac,e1,e2,Lb ha ac,dI,l9]
theorem pC (n:Nat)(s t:az):aU n (s++t)=aU (aU n s) t:=by simp[aU,List.foldl_append]
theorem tL (n:Nat)(b:UInt8)(s:az):aU n (b::s)=aU (10*n+(b.toNat-48)) s:=by rw[aU,aU,n3]
theorem tM (n:Nat)(b:UInt8):aU n [b]=10*n+(b.toNat-48):=by rw[aU,n3,List.foldl_nil]
theorem yg (s:az):∀(n:Nat),aU n s=n*10^s.length+aU 0 s:=by
 induction s with
 | nil=>intro n;simp[aU]
 | cons b s ih=>
  intro n;rw[tL,tL,ih,ih (10*0+_),cD,d8,ne];have:10*n*10^s.length=n*(10^s.length*10):=by rw[f6 10 n,gC,f6 10]
  rw[this];simp only[Nat.mul_zero,j0];omega
theorem nN (s:az):s.all bT=true->aU 0 s<10^s.length:=by
 induction s with
 | nil=>intro _;simp[aU]
 | cons b s ih=>
  intro h;simp only[eL,bZ]at h;have hb:=(lS b).1 h.1;have:=ih h.2;rw[tL,yg,cD,d8];have h2:(10*0+(b.toNat-48))*10^s.length<=9*10^s.length:=iH _ ac;omega
theorem Lc:∀(k n m:Nat),aU m (dI k n)=m*10^k+n%10^k
 | 0,n,m=>by simp[aU,dI,Nat.mod_one]
 | k+1,n,m=>by
  rw[dI,pC,Lc k,tM,tK (kO _ ao),d8];have e:n%(10^k*10)=n%10+10*(n/10%10^k):=by rw[f6 (10^k) 10,Nat.mod_mul]
  rw[e,Nat.mul_add,←gC m,f6 10 (m*10^k)];omega
theorem jv (n:Nat):aU 0 (bw n)=n:=by
 induction n using j1 with
 | _ n ih=>
  by_cases h:n<10
  . rw[kn h,tM,tK h];omega
  . rw[pB h,pC,ih _ ac,tM,tK (kO _ ao)];omega
theorem ko (n:Nat):(bw n).all bT=true:=by
 induction n using j1 with
 | _ n ih=>
  by_cases h:n<10
  . rw[kn h];simp[Ep h]
  . rw[pB h,c6,ih _ ac];simp[Ep (kO n (show 10 > 0 by decide))]
theorem ry (n:Nat):bw n≠[]:=by
 by_cases h:n<10
 . rw[kn h];simp
 . rw[pB h];simp
theorem Ld {m n:Nat}(h:bw m=bw n):m=n:=by rw[←jv m,h,jv]
def Et (s:az):Prop:=s≠[]/\s.all bT=true/\(s.head? = some 48->s.length=1)
theorem Zp {s:az}(h:s.all bT=true):dI s.length (aU 0 s)=s:=by
 have key:∀(k:Nat) (s:az),s.length=k->s.all bT=true->dI s.length (aU 0 s)=s:=by
  intro k;induction k with
  | zero=>intro s hs _;rw[d7 hs];rfl
  | succ k ih=>
   intro s hs h;rcases g9 s with rfl|⟨t,c,e⟩
   . simp at hs
   . rw[ii]at e;subst e;simp only[dg,cD,List.length_nil]at hs ⊢;simp only[c6,eL,li,iq,bZ]at h;have hc:=(lS c).1 h.2;rw[show t.length+(0+1)=t.length+1 by omega,dI,pC,tM];rw[show (10*aU 0 t+(c.toNat-48))/10=aU 0 t by omega,show (10*aU 0 t+(c.toNat-48))%10=c.toNat-48 by omega,ih t ac h.1,Zo h.2]
 exact key _ s rfl h
theorem Le {s:az}(h:Et s):bw (aU 0 s)=s:=by
 obtain⟨h0,h1,h2⟩:=h;cases s with
 | nil=>exact absurd rfl h0
 | cons b t=>
  have lt:=nN _ h1;rw[cD]at lt;refine(Es lt ?_).trans (Zp h1);cases t with
  | nil=>exact .inl rfl
  | cons c t=>
   right;have hb:b≠48:=fun e=>by
    have:=h2 (by rw[e];rfl);simp at this
   simp only[eL,bZ]at h1;have hb1:=(lS b).1 h1.1;have hb2:49<=b.toNat:=by
    have:b.toNat≠48:=fun e=>hb (eA.1 e)
    omega
   rw[tL,yg];have:=iH (10^(c::t).length) (show 1<=10*0+(b.toNat-48) by omega);omega
theorem Zq (n:Nat):Et (bw n):=by
 refine⟨ry n,ko n,?_⟩;induction n using j1 with
 | _ n ih=>
  by_cases h:n<10
  . rw[kn h];intro _;rfl
  . rw[pB h];intro e;have e2:(bw (n/10)).head? = some 48:=by
     cases hd:bw (n/10) with
     | nil=>exact absurd hd (ry _)
     | cons b t=>rw[hd]at e;exact e
    have l1:=ih _ (show n/10<n by omega) e2;exfalso;have e3:bw (n/10)=[48]:=by
     cases hd:bw (n/10) with
     | nil=>exact absurd hd (ry _)
     | cons b t=>
      rw[hd]at e2 l1;simp at l1 e2;rw[e2,l1]
    have:=jv (n/10);rw[e3]at this;simp[aU]at this;omega
theorem yh {n k:Nat}(h:n<10^k)(hk:0<k):(bw n).length<=k:=by
 induction k generalizing n with
 | zero=>omega
 | succ k ih=>
  by_cases h1:n<10
  . rw[kn h1];simp
  . rw[pB h1,dg];rw[d8]at h;have h0:0<k:=by
     rcases i6 k with rfl|hp
     . simp at h;omega
     . exact hp
    have:=ih (n:=n/10) ac h0;simp;omega
end Go.Ab.bB

/-
  Own work: decimal texts of machine integers: bytes, the number of digits, texts of two digits.
-/
namespace Go.Ab.Ch5.N
open Go.Ab.bB
variable {M:ay} {cap:Option Nat}
abbrev ic (k:Nat):AV:=.fn (.func k) [] []
def tN (s:az):List AV:=s.map fun c=>.int .u8 c.toNat
section
variable {t:Nat} {x y:aZ} {l:List bz} {pe:List AV} {lo:List (Nat×AV)} {hp:ab} {df wr:List Nat} {k:IntKind} {a b:Int} {Q:au->Prop} {e:TypeId} {L:az} {m:Nat}
end
def Lf (L:az)(off n i u:Nat):Prop:=L.length=24/\∀j,i<=j->j<n->L[off+j]! = gI (u/10^(n-1-j)%10)
theorem Lf.fin {L:az}{off n u:Nat}(h:Lf L off n 0 u)(hn:off+n<=24):(L.drop off).take n=dI n u:=by
 refine La (by rw[cP,List.length_drop,h.1];omega) fun j hj=>?_
 rw[←h.2 j (nk _) hj];simp only[b9,List.getElem?_take,if_pos hj,List.getElem?_drop]
variable {e:TypeId}
set_option maxRecDepth 100000
section
variable {t:Nat} {x y:aZ} {l:List bz} {pe:List AV} {lo:List (Nat×AV)} {df wr:List Nat} {k:IntKind} {a:Int} {Q:au->Prop} {L:az} {n:Nat}
end
def cY (z:Int):az:=if z<0 then 45::bw (-z).toNat else bw z.toNat
set_option maxRecDepth 1000000
end Go.Ab.Ch5.N

/-
  Own work: decimal texts in parts of 18 digits.
-/
namespace Go.Ab.bB
theorem Eu:∀k,dI k 0=i7 k 48
 | 0=>rfl
 | k+1=>by rw[dI,Eu k,List.replicate_succ'];rfl
end Go.Ab.bB

/-
  Own work: the code of texts of integers and fractions.
-/
namespace Go.Ab.Ch5.N
set_option maxRecDepth 1000000
def yi:al:=.seq (zR [zm 13 0,zL 14 13,zc 15 .gtr 14 0] (.cond (.l 15) (.skip) (.exit 0))) (.block 1 (zR [zm 16 0,zL 17 16,⟨.l 18,.mm false [(kI 18),(.l 17)],none⟩,zw 4 18] (zR [zm 20 0,zm 21 4,⟨.l 22,.slice .str 1 (.l 20) none (some (.l 21)) none,none⟩,z1 23 212 22,zn 19 23,ze 24 0 19,ze 25 1 19,zw 5 24,zn 7 25] (.seq (.draw [(zt 26 2 3,[]),(⟨.l 27,.call (kF 196) [(kI 10)],none⟩,[0]),(zm 28 4,[0,1]),(z2 29 284 27 28,[0]),(z2 30 199 26 29,[]),(zm 31 5,[0,1,2,3,4]),(z1 32 196 31,[]),(z2 33 253 30 32,[]),(zs 2 3 33,[])]) (.region [zm 34 0,zm 35 4,⟨.l 36,.slice .str 1 (.l 34) (some (.l 35)) none none,none⟩,zw 0 36])))))
def Lg:al:=zR [⟨.p 1,.alloc 171 [.iV (0),.ah],none⟩] (zR [zm 8 0,⟨.l 9,.call (kF 283) [(.l 8),(.c (.str [45]))],none⟩,zw 2 9] (zR [zm 10 0,⟨.l 11,.call (kF 218) [(.l 10),(.c (.str [45]))],none⟩,zw 0 11] (zR [⟨.l 12,.build [.iV (0),.ah] [],none⟩,⟨.p 3,.alloc 171 [.iV (0),.ah],none⟩,zs 2 3 12] (.seq (.block 0 (.loop yi)) (.seq (zR [zm 37 2] (.cond (.l 37) (zR [zt 38 2 3,z1 39 201 38,zs 2 1 39] (.ret)) (.skip))) (zR [zt 40 2 3,zs 2 1 40] (.ret)))))))
theorem Zr:FT 216=some ⟨41,[0,2,3,4,5,6],[.cell 2 true (.p 1)],Lg⟩:=by kernel_rfl
def Ev:al:=zR [⟨.p 1,.alloc 173 [.iV (0),.ah,.iV (0),.ah],none⟩] (zR [zm 7 0,⟨.l 8,.call (kF 160) [(.l 7),(.c (.str [47]))],none⟩,zn 6 8,ze 9 0 6,ze 10 1 6,ze 11 2 6,zw 2 9,zw 3 10,zw 4 11] (.seq (zR [zm 12 4,zu 13 12] (.cond (.l 13) (zR [zm 14 2,z1 15 216 14,z1 16 195 15,zs 4 1 16] (.ret)) (.skip))) (zR [zm 17 2,z1 18 216 17,zm 19 3,z1 20 216 19,⟨.l 21,.build [.iV (0),.ah,.iV (0),.ah] [(0,2,(.l 18)),(2,2,(.l 20))],none⟩,zs 4 1 21] (.ret))))
theorem Lh:FT 165=some ⟨22,[0,2,3,4,5],[.cell 4 true (.p 1)],Ev⟩:=by kernel_rfl
open Go.Ab.bB
variable {M:ay} {cap:Option Nat} {N:Nat}
theorem pD {z:Int}(h:z<0):cY z=45::bw (ak z).toNat:=by
 rw[cY,if_pos h];unfold ak;rw[if_pos h]
theorem nO {z:Int}(h:¬z<0):cY z=bw (ak z).toNat:=by
 rw[cY,if_neg h];unfold ak;rw[if_neg h]
variable {N2:Nat}
def aT (q:Rat):az:=if q.den=1 then cY q.num else cY q.num++47::bw q.den
theorem Zs (n:Nat):cY (n:Int)=bw n:=by
 rw[cY,if_neg ac];rfl
def yj:List AV:=i7 256 (.bool false)
def Li:al:=zR [⟨.p 2,.mv (.c (.bool false)),none⟩] (zR [zm 5 0,zm 6 1,z2 7 329 5 6,zw 2 7] (.ret))
theorem Zt:FT 283=some ⟨8,[0,1,4],[.var (.p 2)],Li⟩:=by kernel_rfl
def Ew:al:=zR [⟨.p 2,.mv (.c (.bool false)),none⟩] (zR [zm 5 0,zL 6 5,zm 7 1,zL 8 7,zb 9 .geq 6 8,zn 10 9,zg (zm 11 0) 10 true,zg (zm 12 1) 10 true,zg (zL 13 12) 10 true,⟨.l 14,.slice .str 1 (.l 11) none (some (.l 13)) none,some ((.l 10),true)⟩,zg (zm 15 1) 10 true,zg (zb 16 .eql 14 15) 10 true,zp 17 10 16,zw 2 17] (.ret))
theorem Zu:FT 329=some ⟨18,[0,1,4],[.var (.p 2)],Ew⟩:=by kernel_rfl
def Lj:al:=zR [⟨.p 2,.mv (.c (.str [])),none⟩] (zR [zm 5 0,zm 6 1,z2 7 285 5 6,zw 2 7] (.ret))
theorem Zv:FT 218=some ⟨8,[0,1,4],[.var (.p 2)],Lj⟩:=by kernel_rfl
def Lk:al:=zR [⟨.p 2,.mv (.c (.str [])),none⟩] (.seq (zR [zm 5 0,zm 6 1,z2 7 329 5 6] (.cond (.l 7) (zR [zm 8 0,zm 9 1,zL 10 9,⟨.l 11,.slice .str 1 (.l 8) (some (.l 10)) none none,none⟩,zw 2 11] (.ret)) (.skip))) (zR [zm 12 0,zw 2 12] (.ret)))
theorem Zw:FT 285=some ⟨13,[0,1,4],[.var (.p 2)],Lk⟩:=by kernel_rfl
def Ll:al:=zR [zi 1 0,⟨.p 2,.mv (.c (.eH)),none⟩] (zR [zm 7 0,z1 8 278 7,zn 6 8,ze 9 0 6,ze 10 1 6,zw 3 9,zw 4 10] (.seq (zR [zm 11 4,⟨.l 12,.eq true (.iface false) (.l 11) (.c (.eH)),none⟩] (.cond (.l 12) (zR [zm 13 3,zm 14 0,zm 15 4,⟨.l 16,.call (kF 279) [(.c (.str zD1)),(.l 14),(kI 0),(kI 0),(.l 15)],none⟩,zw 1 13,zw 2 16] (.ret)) (.skip))) (zR [zm 17 3,zw 1 17,⟨.p 2,.mv (.c (.eH)),none⟩] (.ret))))
theorem Zx:FT 212=some ⟨18,[0,2,3,4,5],[.var (.p 1),.var (.p 2)],Ll⟩:=by kernel_rfl
def yk:al:=zR [zr 50 .lss 11 10] (.seq (.cond (.l 50) (.skip) (.exit 0)) (.seq (.block 1 (zR [⟨.l 51,.dE none 1 (.p 9) (.p 11),none⟩,zd 52 1 51,zw 6 52] (zR [zm 53 6,⟨.l 54,.bin .sub (.l 53) (.c (.int .u8 (48))),none⟩,zw 6 54] (.seq (zR [zm 55 6,⟨.l 56,.bin .gtr (.l 55) (.c (.int .u8 (9))),none⟩] (.cond (.l 56) (zR [⟨.l 57,.sd 347 (kI 2),none⟩,zi 1 0,zw 2 57] (.ret)) (.skip))) (.region [zm 58 5,zc 59 .mul 58 10,zm 60 6,⟨.l 61,.gW .i64 (.l 60),none⟩,zb 62 .add 59 61,zw 5 62]))))) (.region [zq 63 .add 11 1,zw 11 63])))
def Lm:al:=zR [zi 1 0,⟨.p 2,.mv (.c (.eH)),none⟩] (zR [zm 11 0,zL 12 11,zw 3 12] (.seq (zR [⟨.l 13,.mv (.c (.bool false)),none⟩,zg (zm 14 3) 13 true,⟨.l 15,.bin .lss (kI 0) (.l 14),some ((.l 13),true)⟩,zg (zn 16 15) 13 true,zg (zm 17 3) 16 true,zg (zc 18 .lss 17 10) 16 true,zg (zp 19 16 18) 13 true,zp 20 13 19,zn 21 20,⟨.l 22,.mv (.c (.bool true)),some ((.l 21),false)⟩,zg (zm 23 3) 22 true,⟨.l 24,.bin .lss (kI 0) (.l 23),some ((.l 22),true)⟩,zg (zn 25 24) 22 true,zg (zm 26 3) 25 true,zg (zc 27 .lss 26 19) 25 true,zg (zp 28 25 27) 22 true,zg (zp 29 22 28) 21 false,zP 30 21 29] (.cond (.l 30) (zR [zm 31 0,zw 4 31] (.seq (zR [zm 32 0,⟨.l 33,.index (.l 32) (kI 0),none⟩,⟨.l 34,.bin .eql (.l 33) (.c (.int .u8 (45))),none⟩,zn 35 34,zg (zm 36 0) 35 false,⟨.l 37,.index (.l 36) (kI 0),some ((.l 35),false)⟩,⟨.l 38,.bin .eql (.l 37) (.c (.int .u8 (43))),some ((.l 35),false)⟩,zP 39 35 38] (.cond (.l 39) (zR [zm 40 0,⟨.l 41,.slice .str 1 (.l 40) (some (kI 1)) none none,none⟩,zw 0 41] (zR [zm 42 0,zL 43 42,zc 44 .lss 43 1] (.cond (.l 44) (zR [⟨.l 45,.sd 347 (kI 2),none⟩,zi 1 0,zw 2 45] (.ret)) (.skip)))) (.skip))) (zR [zi 5 0] (.seq (zR [zm 46 0,⟨.p 9,.pZ 5 (.l 46),none⟩,⟨.p 10,.len .sl (.p 9),none⟩,zi 11 0] (.block 0 (.loop yk))) (.seq (zR [zm 64 4,⟨.l 65,.index (.l 64) (kI 0),none⟩,⟨.l 66,.bin .eql (.l 65) (.c (.int .u8 (45))),none⟩] (.cond (.l 66) (.region [zm 67 5,⟨.l 68,.un .neg (.l 67),none⟩,zw 5 68]) (.skip))) (zR [zm 69 5,zw 1 69,⟨.p 2,.mv (.c (.eH)),none⟩] (.ret))))))) (.skip))) (zR [zm 71 0,⟨.l 72,.call (kF 323) [(.l 71),(kI 10),(kI 0)],none⟩,zn 70 72,ze 73 0 70,ze 74 1 70,zw 7 73,zw 8 74] (zR [zm 75 7,zm 76 8,zw 1 75,zw 2 76] (.ret)))))
theorem Zy:FT 278=some ⟨77,[0,2,3,4,5,6,8,9,10,47,48,49],[.var (.p 1),.var (.p 2)],Lm⟩:=by kernel_rfl
def Ln:al:=zR [⟨.p 2,.mv (.c (.str [])),none⟩,⟨.p 3,.mv (.c (.str [])),none⟩,⟨.p 4,.mv (.c (.bool false)),none⟩] (zR [zm 7 0,zm 8 1,z2 9 210 7 8,ze 10 0 9,ze 11 1 9,ze 12 2 9,zw 2 10,zw 3 11,zw 4 12] (.ret))
theorem Zz:FT 160=some ⟨13,[0,1,4,5,6],[.var (.p 2),.var (.p 3),.var (.p 4)],Ln⟩:=by kernel_rfl
def Ey:al:=zR [⟨.p 2,.mv (.c (.str [])),none⟩,⟨.p 3,.mv (.c (.str [])),none⟩,⟨.p 4,.mv (.c (.bool false)),none⟩] (.seq (zR [zm 8 0,zm 9 1,z2 10 270 8 9,zw 5 10] (zR [zm 11 5,zc 12 .geq 11 0] (.cond (.l 12) (.seq (.draw [(zm 13 0,[]),(zm 14 5,[0]),(⟨.l 15,.slice .str 1 (.l 13) none (some (.l 14)) none,none⟩,[]),(zm 16 0,[0,1,2]),(zm 17 5,[0,1,2,3]),(zm 18 1,[0,1,2,3,4]),(zL 19 18,[0,1,2,3,4]),(zb 20 .add 17 19,[0,1,2,3]),(⟨.l 21,.slice .str 1 (.l 16) (some (.l 20)) none none,none⟩,[0,1,2]),(zw 2 15,[3,4,5,6,7,8]),(zw 3 21,[]),(⟨.p 4,.mv (.c (.bool true)),none⟩,[])]) (.ret)) (.skip)))) (zR [zm 22 0,zw 2 22,⟨.p 3,.mv (.c (.str [])),none⟩,⟨.p 4,.mv (.c (.bool false)),none⟩] (.ret)))
theorem ZA:FT 210=some ⟨23,[0,1,4,5,6,7],[.var (.p 2),.var (.p 3),.var (.p 4)],Ey⟩:=by kernel_rfl
def ZB:al:=.seq (zR [zm 57 6,zm 58 7,zb 59 .lss 57 58] (.cond (.l 59) (.skip) (.exit 1))) (.block 2 (.seq (zR [zm 60 0,zm 61 6,⟨.l 62,.index (.l 60) (.l 61),none⟩,zm 63 4,zb 64 .neq 62 63] (.cond (.l 64) (zR [zm 65 0,zm 66 6,zc 67 .add 66 1,zm 68 7,⟨.l 69,.slice .str 1 (.l 65) (some (.l 67)) (some (.l 68)) none,none⟩,zm 70 4,z2 71 316 69 70,zw 9 71] (.seq (zR [zm 72 9,zc 73 .lss 72 0] (.cond (.l 73) (zR [zi 2 (-1)] (.ret)) (.skip))) (.region [zm 74 6,zm 75 9,zc 76 .add 75 1,zb 77 .add 74 76,zw 6 77]))) (.skip))) (.seq (zR [zm 78 0,zm 79 6,zc 80 .add 79 1,⟨.l 81,.index (.l 78) (.l 80),none⟩,zm 82 5,zb 83 .eql 81 82,zn 84 83,zg (zm 85 0) 84 true,zg (zm 86 6) 84 true,zg (zm 87 6) 84 true,zg (zm 88 3) 84 true,zg (zb 89 .add 87 88) 84 true,⟨.l 90,.slice .str 1 (.l 85) (some (.l 86)) (some (.l 89)) none,some ((.l 84),true)⟩,zg (zm 91 1) 84 true,zg (zb 92 .eql 90 91) 84 true,zp 93 84 92] (.cond (.l 93) (zR [zm 94 6,zw 2 94] (.ret)) (.skip))) (zR [zm 95 6,zc 96 .add 95 1,zw 6 96] (zR [zm 97 8,zc 98 .add 97 1,zw 8 98] (.seq (.bad) (.cond (.l 107) (zR [zm 108 0,zm 109 6,⟨.l 110,.slice .str 1 (.l 108) (some (.l 109)) none none,none⟩,zm 111 1,z2 112 317 110 111,zw 10 112] (.seq (zR [zm 113 10,zc 114 .geq 113 0] (.cond (.l 114) (zR [zm 115 10,zm 116 6,zb 117 .add 115 116,zw 2 117] (.ret)) (.skip))) (zR [zi 2 (-1)] (.ret)))) (.seq (.bad) (.cond (.l 132) (zR [zm 133 0,zm 134 6,⟨.l 135,.slice .str 1 (.l 133) (some (.l 134)) none none,none⟩,zm 136 1,z2 137 319 135 136,zw 11 137] (.seq (zR [zm 138 11,zc 139 .lss 138 0] (.cond (.l 139) (zR [zi 2 (-1)] (.ret)) (.skip))) (zR [zm 140 6,zm 141 11,zb 142 .add 140 141,zw 2 142] (.ret)))) (.skip))))))))))
def Lo:al:=zR [zi 2 0] (zR [zm 14 1,zL 15 14,zw 3 15] (.seq (.block 0 (zR [zm 17 3,zc 18 .eql 17 0,zn 19 18,zg (zm 20 1) 19 false,zg (zm 21 0) 19 false,zg (zb 22 .eql 20 21) 19 false,zP 23 19 22,zn 16 23] (.cond (.l 16) (zR [zi 2 0] (.ret)) (zR [zm 25 3,zc 26 .eql 25 1,zn 24 26] (.cond (.l 24) (zR [zm 27 0,zm 28 1,⟨.l 29,.index (.l 28) (kI 0),none⟩,z2 30 316 27 29,zw 2 30] (.ret)) (zR [zm 32 3,zm 33 0,zL 34 33,zb 35 .geq 32 34,zn 31 35] (.cond (.l 31) (zR [zi 2 (-1)] (.ret)) (.seq (.bad) (.cond (.l 36) (zR [zm 45 0,zm 46 1,z2 47 317 45 46,zw 2 47] (.ret)) (.skip)))))))))) (zR [zm 48 1,⟨.l 49,.index (.l 48) (kI 0),none⟩,zw 4 49] (zR [zm 50 1,⟨.l 51,.index (.l 50) (kI 1),none⟩,zw 5 51] (zR [zi 6 0] (zR [zm 52 0,zL 53 52,zm 54 3,zb 55 .sub 53 54,zc 56 .add 55 1,zw 7 56] (zR [zi 8 0] (.seq (.block 1 (.loop ZB)) (zR [zi 2 (-1)] (.ret))))))))))
theorem ZC:FT 270=some ⟨143,[0,1,4,5,6,7,8,9,10,11,12,13],[.var (.p 2)],Lo⟩:=by kernel_rfl
def Lp:al:=zR [zi 2 0] (zR [zm 5 0,zm 6 1,z2 7 336 5 6,zw 2 7] (.ret))
theorem ZD:FT 316=some ⟨8,[0,1,4],[.var (.p 2)],Lp⟩:=by kernel_rfl
def Lr:al:=zR [⟨.p 2,.mv (.c (.str [])),none⟩,⟨.p 3,.mv (.c (.bool false)),none⟩] (zR [zm 6 0,zm 7 1,z2 8 296 6 7,ze 9 0 8,ze 10 1 8,zw 2 9,zw 3 10] (.ret))
theorem ZE:FT 225=some ⟨11,[0,1,4,5],[.var (.p 2),.var (.p 3)],Lr⟩:=by kernel_rfl
def Ls:al:=zR [⟨.p 2,.mv (.c (.str [])),none⟩,⟨.p 3,.mv (.c (.bool false)),none⟩] (.seq (zR [zm 6 0,zm 7 1,z2 8 329 6 7,zu 9 8] (.cond (.l 9) (zR [zm 10 0,zw 2 10,⟨.p 3,.mv (.c (.bool false)),none⟩] (.ret)) (.skip))) (zR [zm 11 0,zm 12 1,zL 13 12,⟨.l 14,.slice .str 1 (.l 11) (some (.l 13)) none none,none⟩,zw 2 14,⟨.p 3,.mv (.c (.bool true)),none⟩] (.ret)))
theorem ZF:FT 296=some ⟨15,[0,1,4,5],[.var (.p 2),.var (.p 3)],Ls⟩:=by kernel_rfl
def Lt:al:=zR [⟨.p 1,.mv (.c (.bool false)),none⟩] (zR [zm 3 0,⟨.l 4,.bin .neq (.l 3) (.c (.str [])),none⟩,zn 5 4,zg (zm 6 0) 5 true,⟨.l 7,.call (kF 211) [(.l 6),(.c (.str zD2))],some ((.l 5),true)⟩,⟨.l 8,.bin .eql (.l 7) (.c (.str [])),some ((.l 5),true)⟩,zp 9 5 8,zw 1 9] (.ret))
theorem ZG:FT 297=some ⟨10,[0,2],[.var (.p 1)],Lt⟩:=by kernel_rfl
def Lu:al:=zR [⟨.p 2,.mv (.c (.str [])),none⟩] (.seq (zR [zm 7 0,⟨.l 8,.bin .eql (.l 7) (.c (.str [])),none⟩,zn 9 8,zg (zm 10 1) 9 false,⟨.l 11,.bin .eql (.l 10) (.c (.str [])),some ((.l 9),false)⟩,zP 12 9 11] (.cond (.l 12) (zR [zm 13 0,zw 2 13] (.ret)) (.skip))) (.seq (zR [zm 14 1,zL 15 14,zc 16 .eql 15 1,zn 17 16,zg (zm 18 1) 17 true,⟨.l 19,.index (.l 18) (kI 0),some ((.l 17),true)⟩,⟨.l 20,.bin .lss (.l 19) (.c (.int .u8 (128))),some ((.l 17),true)⟩,zp 21 17 20] (.cond (.l 21) (.seq (.draw [(zm 22 0,[]),(zm 23 1,[0]),(⟨.l 24,.index (.l 23) (kI 0),none⟩,[0]),(z2 25 272 22 24,[]),(zm 26 1,[0,1,2,3]),(⟨.l 27,.index (.l 26) (kI 0),none⟩,[0,1,2,3]),(z2 28 271 25 27,[]),(zw 2 28,[])]) (.ret)) (.skip))) (.seq (zR [zm 30 1,z1 31 273 30,zn 29 31,ze 32 0 29,ze 33 1 29,⟨.p 3,.alloc 314 yj,none⟩,zs 256 3 32,zw 4 33] (zR [zm 34 4] (.cond (.l 34) (zR [zm 35 0,⟨.l 36,.call (kF 275) [(.l 35),(.p 3)],none⟩,⟨.l 37,.call (kF 274) [(.l 36),(.p 3)],none⟩,zw 2 37] (.ret)) (.skip)))) (zR [zm 38 0,zm 39 1,z2 40 277 38 39,zm 41 1,z2 42 276 40 41,zw 2 42] (.ret)))))
theorem ZH:FT 211=some ⟨43,[0,1,4,5,6],[.var (.p 2)],Lu⟩:=by kernel_rfl
def ZI:al:=.seq (zR [zm 6 3,zm 7 0,zL 8 7,zb 9 .lss 6 8] (.cond (.l 9) (.skip) (.exit 0))) (.seq (.block 1 (zR [zm 12 0,zm 13 3,⟨.l 14,.index (.l 12) (.l 13),none⟩,zw 4 14] (.seq (zR [zm 15 4,⟨.l 16,.bin .geq (.l 15) (.c (.int .u8 (128))),none⟩] (.cond (.l 16) (zR [zt 17 256 1,zs 256 1 17,⟨.p 2,.mv (.c (.bool false)),none⟩] (.ret)) (.skip))) (.region [zm 18 4,⟨.l 19,.dE (some 256) 1 (.p 1) (.l 18),none⟩,⟨.no,.store 1 (.l 19) (.c (.bool true)),none⟩])))) (.region [zm 10 3,zc 11 .add 10 1,zw 3 11]))
def Ez:al:=zR [⟨.p 1,.alloc 314 yj,none⟩,⟨.p 2,.mv (.c (.bool false)),none⟩] (.seq (zR [zi 3 0] (.block 0 (.loop ZI))) (zR [zt 20 256 1,zs 256 1 20,⟨.p 2,.mv (.c (.bool true)),none⟩] (.ret)))
theorem ZJ:FT 273=some ⟨21,[0,2,3,4,5],[.cell 256 true (.p 1),.var (.p 2)],Ez⟩:=by kernel_rfl
def tO:al:=.seq (zR [zm 5 0,zL 6 5,zc 7 .gtr 6 0] (.cond (.l 7) (.skip) (.exit 0))) (.block 1 (.seq (zR [zm 8 1,zm 9 0,⟨.l 10,.index (.l 9) (kI 0),none⟩,z2 11 320 8 10,zu 12 11] (.cond (.l 12) (.exit 0) (.skip))) (.region [zm 13 0,⟨.l 14,.slice .str 1 (.l 13) (some (kI 1)) none none,none⟩,zw 0 14])))
def Lv:al:=zR [⟨.p 2,.mv (.c (.str [])),none⟩] (.seq (.block 0 (.loop tO)) (zR [zm 15 0,zw 2 15] (.ret)))
theorem ZK:FT 274=some ⟨16,[0,1,4],[.var (.p 2)],Lv⟩:=by kernel_rfl
def tP:al:=.seq (zR [zm 5 0,zL 6 5,zc 7 .gtr 6 0] (.cond (.l 7) (.skip) (.exit 0))) (.block 1 (.seq (zR [zm 8 1,zm 9 0,zm 10 0,zL 11 10,zc 12 .sub 11 1,⟨.l 13,.index (.l 9) (.l 12),none⟩,z2 14 320 8 13,zu 15 14] (.cond (.l 15) (.exit 0) (.skip))) (.region [zm 16 0,zm 17 0,zL 18 17,zc 19 .sub 18 1,⟨.l 20,.slice .str 1 (.l 16) none (some (.l 19)) none,none⟩,zw 0 20])))
def Lw:al:=zR [⟨.p 2,.mv (.c (.str [])),none⟩] (.seq (.block 0 (.loop tP)) (zR [zm 21 0,zw 2 21] (.ret)))
theorem ZL:FT 275=some ⟨22,[0,1,4],[.var (.p 2)],Lw⟩:=by kernel_rfl
def Lx:al:=zR [⟨.p 2,.mv (.c (.bool false)),none⟩] (zR [zm 5 0,zm 6 1,⟨.l 7,.uY (.l 5),none⟩,⟨.l 8,.dE (some 256) 1 (.l 7) (.l 6),none⟩,zd 9 1 8,zw 2 9] (.ret))
theorem ZM:FT 320=some ⟨10,[0,1,4],[.var (.p 2)],Lx⟩:=by kernel_rfl
def Ly:al:=zR [⟨.p 1,.mv (.c (.bool false)),none⟩] (zR [zm 3 0,z1 4 297 3,zn 5 4,zg (zm 6 0) 5 true,⟨.l 7,.index (.l 6) (kI 0),some ((.l 5),true)⟩,⟨.l 8,.bin .neq (.l 7) (.c (.int .u8 (48))),some ((.l 5),true)⟩,zg (zn 9 8) 5 true,zg (zm 10 0) 9 false,⟨.l 11,.bin .eql (.l 10) (.c (.str [48])),some ((.l 9),false)⟩,zg (zP 12 9 11) 5 true,zp 13 5 12,zw 1 13] (.ret))
theorem ZN:FT 226=some ⟨14,[0,2],[.var (.p 1)],Ly⟩:=by kernel_rfl
theorem aiZ {t esz n0:Nat}{x i:aZ}{l:List bz}{pe:List AV}{lo:List (Nat×AV)}{hp:ab}{df wr:List Nat}{b o:Nat}{k:IntKind}{n:Int}{Q:au->Prop}(hx:(St.mk pe lo hp df).ae x=some (.ptr b o))(hy:(St.mk pe lo hp df).ae i=some (.int k n))(hb:0<=n/\n<n0)
 (h:WO M l ⟨⟨pe,(t,.ptr b (o+n.toNat*esz))::lo,hp,df⟩,wr⟩ Q):WO M (⟨.l t,.dE (some n0) esz x i,none⟩::l) ⟨⟨pe,lo,hp,df⟩,wr⟩ Q:=
 abA (v:=.ptr b (o+n.toNat*esz)) (by simp[bF,hx,hy,qf,hb]) rfl h
theorem ajP {t:Nat}{x y:aZ}{l:List bz}{pe:List AV}{lo:List (Nat×AV)}{hp:ab}{df wr:List Nat}{a b:Int}{Q:au->Prop}(hx:(St.mk pe lo hp df).ae x=some (.int .u8 a))(hy:(St.mk pe lo hp df).ae y=some (.int .u8 b))(hr:0<=a-b/\a-b<256)
 (h:WO M l ⟨⟨pe,(t,.int .u8 (a-b))::lo,hp,df⟩,wr⟩ Q):WO M (⟨.l t,.bin .sub x y,none⟩::l) ⟨⟨pe,lo,hp,df⟩,wr⟩ Q:=
 abA (v:=.int .u8 (a-b)) (by
  have:IntKind.u8.wrap (a-b)=a-b:=by simp only[IntKind.wrap,IntKind.bits,IntKind.signed];simp;omega
  simp only[bF,hx,hy,dS,if_true,this]) rfl h
def hasB (c:Int)(s:az):Bool:=s.any (fun b=>decide ((b.toNat:Int)=c))
theorem ZP (s:az)(b:UInt8):decide (0<=firstIdx ⟨s.toArray⟩ b)=hasB b.toNat s:=by
 unfold firstIdx hasB;have hsz:(br s.toArray).size=s.length:=by simp[n7]
 have hg:∀i,i<s.length->(br s.toArray)[i]! = s[i]! := fun i hi=>by
  have h1:i<(br s.toArray).size:=by rw[hsz];exact hi
  rw[getElem!_pos (br s.toArray) i h1,getElem!_pos s i hi];rfl
 cases hf:(ip (br s.toArray).size).find? fun i=>(br s.toArray)[i]! == b with
 | some i=>
  have h1:=n4 hf;have h2:=je hf;rw[j5,hsz]at h2;rw[hg i h2]at h1;symm
  simp only[decide_eq_true (show (0:Int)<=(i:Int) by omega)];rw[List.any_eq_true];refine⟨s[i],d6 h2,?_⟩;rw[getElem!_pos s i h2]at h1;simp at h1;simp[h1]
 | none=>
  rw[List.find?_eq_none]at hf;symm
  rw[show decide ((0:Int) <= -1)=false from rfl];rw[List.any_eq_false];intro x hx;obtain⟨i,hi,rfl⟩:=List.mem_iff_getElem.1 hx;have:=hf i (by rw[j5,hsz];exact hi);rw[hg i hi,getElem!_pos s i hi]at this;simp at this;simp only[decide_eq_true_eq];intro e;exact this (eA.1 ac)
structure tS (M:ay):Prop where
 ft:M.FT=FT
 Lz:∀ars h,M.ext 270 ars h=none
 LA:∀ars h,M.ext 316 ars h=none
 LB:∀(s:az) (c:Int) h,M.ext 336 [.str s,.int .u8 c] h=some ⟨.iV (firstIdx ⟨s.toArray⟩ c.toNat.toUInt8),h,[]⟩
theorem ZQ (b:UInt8):((b.toNat:Int)).toNat.toUInt8=b:=by simp
theorem ZR (C:tS M)(s:az)(b:UInt8)(H:ab):CT M (ic 316) [.str s,.int .u8 b.toNat] H ⟨.iV (firstIdx ⟨s.toArray⟩ b),H,[]⟩:=by
 have hc:=C.LB s b.toNat H;rw[ZQ]at hc;refine CT.run (C.LA _ _) (kd (by rw[C.ft];exact ZD) ax ?_);simp only[c7,c9];unfold Lp;simp only[enter];repeat' first|apply abx|apply aa|apply abr|apply aaL|apply acG|(apply adX;rfl;rfl;first|exact hc)|(apply abA;rfl;rfl)|(apply abC;rfl;rfl)
 exact⟨.inr rfl,rfl,rfl,rfl,_,rfl,rfl⟩
theorem ZS (C:tS M)(s:az)(b:UInt8)(H:ab):CT M (ic 270) [.str s,.str [b]] H ⟨.iV (firstIdx ⟨s.toArray⟩ b),H,[]⟩:=by
 have hc:=ZR C s b H;have hn0:¬(([b]:az).length:Int)=0:=by simp
 have hn:(([b]:az).length:Int)=1:=rfl;refine CT.run (C.Lz _ _) (kd (by rw[C.ft];exact ZC) ax ?_);simp only[c7,c9];unfold Lo;simp only[enter];by_cases hs:([b]:az)=s
 . subst hs;have e:firstIdx ⟨([b]:az).toArray⟩ b=0:=by
    have h1:=ZP [b] b;have h2:hasB b.toNat [b]=true:=by simp[hasB]
    rw[h2,decide_eq_true_eq]at h1;unfold firstIdx at h1 ⊢;rw[show (br ([b]:az).toArray).size=1 from rfl]at h1 ⊢;rw[show ip 1=[0] from rfl]at h1 ⊢;have h3:((br ([b]:az).toArray)[0]! == b)=true:=by
     cases hq:((br ([b]:az).toArray)[0]! == b) with
     | true=>rfl
     | false=>simp[hq]at h1
    simp only[List.find?_cons,h3];rfl
   rw[e];repeat' first|(apply ahV;rfl;rfl;all_goals first|(intro h;exact absurd rfl h)|intro _)|apply abx|apply aa|apply abr|apply aaL|apply aef|apply acG|apply ba|apply cn|(apply acO;rfl)|(apply ahQ;rfl)|(apply afe;rfl;rfl)|(apply aeC;rfl;rfl)|(apply abA;rfl;rfl)|(apply abC;rfl;rfl)|(intro _;omega)|intro _
   all_goals exact⟨.inr rfl,rfl,rfl,rfl,_,rfl,rfl⟩
 . repeat' first|(apply ahV;rfl;rfl;all_goals first|(intro h;exact absurd h hs)|intro _)|apply abx|apply aa|apply abr|apply aaL|apply aef|apply acG|apply ba|apply cn|(apply acO;rfl)|(apply acM;rfl)|(apply ahQ;rfl)|(apply afe;rfl;rfl)|(apply aeC;rfl;rfl)|(apply ahW;rfl;rfl;first|exact hc)|(apply aii;rfl;rfl;omega)|(apply abA;rfl;rfl)|(apply abC;rfl;rfl)|(intro _;omega)|intro _
   all_goals exact⟨.inr rfl,rfl,rfl,rfl,_,rfl,rfl⟩
def bR (b:UInt8):az->az×Option az
 | []=>([],none)
 | c::s=>if c=b then ([],some s) else (c::(bR b s).1,(bR b s).2)
def nP (b:UInt8):az->List az
 | []=>[[]]
 | c::s=>if c=b then []::nP b s else match nP b s with
   | []=>[[c]]
   | x::l=>(c::x)::l
def mN (b:UInt8):az->Nat
 | []=>0
 | c::s=>(if c=b then 1 else 0)+mN b s
theorem nS {b:UInt8}:∀{s:az},(bR b s).2=none->(bR b s).1=s/\nP b s=[s]/\mN b s=0
 | [],_=>⟨rfl,rfl,rfl⟩
 | c::s,h=>by
  rw[bR]at h ⊢;by_cases hc:c=b
  . rw[if_pos hc]at h;cases h
  . rw[if_neg hc]at h ⊢;obtain⟨h1,h2,h3⟩:=nS (s:=s) h;refine⟨by simp only;rw[h1],?_,?_⟩
    . rw[nP,if_neg hc,h2]
    . rw[mN,if_neg hc,h3]
theorem rz {b:UInt8}:∀{s y:az},(bR b s).2=some y->s=(bR b s).1++b::y/\nP b s=(bR b s).1::nP b y/\mN b s=mN b y+1/\b∉(bR b s).1
 | [],y,h=>by cases h
 | c::s,y,h=>by
  rw[bR]at h ⊢;by_cases hc:c=b
  . rw[if_pos hc]at h ⊢;obtain rfl:s=y:=j6.inj h;subst hc;refine⟨rfl,?_,?_,ax⟩
    . rw[nP,if_pos rfl]
    . rw[mN,if_pos rfl];omega
  . rw[if_neg hc]at h ⊢;obtain⟨h1,h2,h3,h4⟩:=rz (s:=s) h;refine⟨by simp only[m5];rw[←h1],?_,?_,?_⟩
    . rw[nP,if_neg hc,h2]
    . rw[mN,if_neg hc,h3];omega
    . simp only[pm,not_or];exact⟨fun e=>hc e.symm,h4⟩
theorem ZT (s:az)(b:UInt8):firstIdx ⟨s.toArray⟩ b=if (bR b s).2=none then -1 else ((bR b s).1.length:Int):=by
 have hsz:(br s.toArray).size=s.length:=by simp[n7]
 have hg:∀i,i<s.length->(br s.toArray)[i]! = s[i]! := fun i hi=>by
  have h1:i<(br s.toArray).size:=by rw[hsz];exact hi
  rw[getElem!_pos (br s.toArray) i h1,getElem!_pos s i hi];rfl
 unfold firstIdx;cases hy:(bR b s).2 with
 | none=>
  rw[if_pos rfl];cases hf:(ip (br s.toArray).size).find? fun i=>(br s.toArray)[i]! == b with
  | none=>rfl
  | some i=>
   exfalso;have h1:=n4 hf;have h2:=je hf;rw[j5,hsz]at h2;rw[hg i h2,getElem!_pos s i h2]at h1;have hm:b∈s:=by
    have:s[i]=b:=by simpa using h1
    rw[←this];exact d6 h2
   have h0:=(nS hy).2.2;have:∀s:az,b∈s->0<mN b s:=fun s=>by
    induction s with
    | nil=>intro h;cases h
    | cons c s ih=>
     intro h;rw[mN];rcases pm.1 h with rfl|h
     . rw[if_pos rfl];omega
     . have:=ih h;omega
   have:=this s hm;omega
 | some y=>
  rw[if_neg ax];obtain⟨h1,_,_,h4⟩:=rz hy;generalize (bR b s).1=x at h1 h4 ⊢;have hl:x.length<s.length:=by rw[h1];simp
  have hf:((ip (br s.toArray).size).find? fun i=>(br s.toArray)[i]! == b)=some x.length:=by
   rw[hsz,List.find?_range_eq_some];refine⟨?_,by simpa using hl,fun j hj=>?_⟩
   . rw[hg _ hl,getElem!_pos s _ hl];have:s[x.length]? = some b:=by rw[h1];simp
     rw[bj hl]at this;simp[j6.inj this]
   . rw[hg j ac,getElem!_pos s j ac];have:s[j]? = x[j]? := by rw[h1,i9 hj]
     rw[bj (by omega:j<s.length),bj hj]at this;rw[j6.inj this];have hne:x[j]≠b:=fun e=>h4 (by rw[←e];exact d6 hj)
     simp[hne]
  rw[hf]
def jC (b:UInt8)(s:az):AV:=.aw [.str (bR b s).1,.str ((bR b s).2.getD []),.bool (bR b s).2.isSome]
theorem tT {b:UInt8}{s y:az}(h:(bR b s).2=some y):s.length=(bR b s).1.length+1+y.length:=by
 have:=congrArg List.length (rz h).1;simp only[dg,cD]at this;omega
theorem EA {b:UInt8}{s y:az}(h:(bR b s).2=some y):s.take (bR b s).1.length=(bR b s).1:=by
 have e:=(rz h).1;generalize (bR b s).1=x at e ⊢;rw[e];simp
theorem LC {b:UInt8}{s y:az}(h:(bR b s).2=some y):s.drop ((bR b s).1.length+1)=y:=by
 have e:=(rz h).1;generalize (bR b s).1=x at e ⊢;rw[e];simp
theorem ZU (n210:∀ars h,M.ext 210 ars h=none)(C:tS M)(s:az)(b:UInt8)(hl:s.length<1000000)(H:ab):CT M (ic 210) [.str s,.str [b]] H ⟨jC b s,H,[]⟩:=by
 have hc:=ZS C s b H;have hn1:([b]:az).length=1:=rfl;rw[ZT]at hc;refine CT.run (n210 _ _) (kd (by rw[C.ft];exact ZA) ax ?_);simp only[c7,c9];cases hy:(bR b s).2 with
 | none=>
  rw[if_pos hy]at hc;have h1:=(nS hy).1;unfold Ey;simp only[enter];repeat' first|apply abx|apply aa|apply abr|apply aaL|apply acG|apply adA|(apply acM;rfl)|(apply ahS;rfl;rfl)|(apply ahW;rfl;rfl;first|exact hc)|(apply abA;rfl;rfl)|(apply abC;rfl;rfl)|(intro _;omega)|intro _
  refine⟨.inr rfl,rfl,rfl,rfl,_,rfl,?_⟩;simp only[jC,hy,h1];rfl
 | some y=>
  rw[if_neg (by rw[hy];simp)]at hc;have h1:=tT hy;have h2:=EA hy;have h3:=LC hy;generalize hx:(bR b s).1=x at h1 h2 h3 hc;unfold Ey;simp only[enter];repeat' first|(apply aiz (r:=x);rfl;rfl;omega;(rw[fu];exact h2))|(apply air (r:=y);rfl;rfl;omega;(rw[show ((x.length:Int)+(([b]:az).length:Int)).toNat=x.length+1 by omega];exact h3))|apply abx|apply aa|apply abr|apply aaL|apply acG|apply ba|(apply ahZ;rfl)|(apply acO;rfl)|(apply ahS;rfl;rfl)|(apply aeX;rfl;rfl;omega)|(apply ahW;rfl;rfl;first|exact hc)|(apply abA;rfl;rfl)|(apply abC;rfl;rfl)|(intro _;omega)|intro _
  refine⟨.inr rfl,rfl,rfl,rfl,_,rfl,?_⟩;simp only[jC,hy,hx];rfl
theorem ZV (n210:∀ars h,M.ext 210 ars h=none)(C:tS M)(s:az)(b:UInt8)(hl:s.length<1000000):bm M 160 [.str s,.str [b]] [] ⟨jC b s,[],[]⟩:=by
 have hc:=ZU n210 C s b hl [];unfold jC at hc ⊢;refine bX (by rw[C.ft];exact Zz) ax ?_;unfold Ln;simp only[enter];repeat' first|apply abx|apply aa|apply abr|apply aaL|apply acG|(apply ahW;rfl;rfl;first|exact hc)|(apply abA;rfl;rfl)|(apply abC;rfl;rfl)
 exact⟨.inr rfl,rfl,_,rfl,rfl,rfl⟩
@[irreducible] def fL:List AV:=(ip 256).map fun i=>.bool (yf i)
def nT:az:=[48,49,50,51,52,53,54,55,56,57]
set_option maxRecDepth 1000000 in
theorem ZW (M:ay):iF (bK M.ext M.inv M.FT 100) (fun _=>some ⟨21,[0,2,3,4,5],[.cell 256 true (.p 1),.var (.p 2)],Ez⟩) 273 [.str nT] []=some ⟨.aw [.agg fL,.bool true],[],[]⟩:=by
 kernel_rfl
theorem ZX {run:al->au->Option (Ex×au)}{F G:FuncId->Option dm}{f:FuncId}(h:F f=G f)(ars:List AV)(hp:ab):iF run F f ars hp=iF run G f ars hp:=by
 simp only[iF,h]
theorem ZY (hft:M.FT=FT):bm M 273 [.str nT] [] ⟨.aw [.agg fL,.bool true],[],[]⟩:=by
 have h2:M.FT 273=(fun _=>some ⟨21,[0,2,3,4,5],[.cell 256 true (.p 1),.var (.p 2)],Ez⟩:FuncId->Option dm) 273:=by rw[hft];exact ZJ
 exact⟨100,(ZX h2 _ _).trans (ZW M)⟩
structure pE (M:ay):Prop where
 ft:M.FT=FT
 LD:∀ars h,M.ext 320 ars h=none
 LF:∀ars h,M.ext 274 ars h=none
 LG:∀ars h,M.ext 275 ars h=none
 yl:∀h,M.ext 273 [.str nT] h=some ⟨.aw [.agg fL,.bool true],h,[]⟩
theorem ZZ {c:Nat}(h:c<256):fL[c]? = some (.bool (yf c)):=by
 simp[fL,h]
theorem aaa {c:UInt8}:partOf (fL.drop (0+((c.toNat:Int)).toNat*1)) 0 1 false=some (.bool (bT c)):=by
 have hc:c.toNat<256:=c.toNat_lt;rw[Iq,fu,j0,Nat.mul_one];simp only[partOf,i8,if_false];exact ZZ hc
theorem LH (C:pE M)(c:UInt8){H:ab}{b:Nat}(hb:H.at b=some (.cells fL 314)):CT M (ic 320) [.ptr b 0,.int .u8 c.toNat] H ⟨.bool (bT c),H,[]⟩:=by
 have hc:c.toNat<256:=c.toNat_lt;refine CT.run (C.LD _ _) (kd (by rw[C.ft];exact ZM) ax ?_);simp only[c7,c9];unfold Lx;simp only[enter];repeat' first|(apply aiZ;rfl;rfl;omega)|(apply ajd;rfl;exact hb;exact aaa)|apply abx|apply aa|apply abr|apply aaL|apply acG|(apply abA;rfl;rfl)|(apply abC;rfl;rfl)
 exact⟨.inr rfl,rfl,rfl,rfl,_,rfl,rfl⟩
def kY (s:az):az:=s.dropWhile bT
def jF (s:az):az:=(s.reverse.dropWhile bT).reverse
theorem LJ (s:az)(c:UInt8):jF (s++[c])=if bT c then jF s else s++[c]:=by
 unfold jF;rw[List.reverse_append,List.reverse_singleton,List.singleton_append,f9];split
 . rfl
 . simp
theorem aab (C:pE M){H:ab}{b:Nat}(hb:H.at b=some (.cells fL 314)){Q:Ex->au->Prop}:∀(n:Nat) (s:az) (lo:List (Nat×AV)) (wr:List Nat) (_:wr=[]),s.length=n->n<1000000 ->
 (∀lo,Q (.exit 0) ⟨⟨[.str (jF s),.ptr b 0,.str []],lo,H,[]⟩,[]⟩)->W M (.loop tP) ⟨⟨[.str s,.ptr b 0,.str []],lo,H,[]⟩,wr⟩ Q:=by
 intro n;induction n with
 | zero=>
  intro s lo wr hw hs hn hQ;subst hw;obtain rfl:s=[]:=List.length_eq_zero_iff.1 hs;have h0:([]:az).length=0:=rfl;refine W.loop ?_;unfold tP;repeat' first|apply abx|apply aa|apply abr|apply aaL|apply aeM|apply bH|apply cA|(apply acM;rfl)|(apply aeq;rfl;rfl)|(apply abA;rfl;rfl)|(intro _;omega)|intro _
  exact hQ _
 | succ n ih=>
  intro s lo wr hw hs hn hQ;subst hw;rcases g9 s with rfl|⟨t,c,e⟩
  . cases hs
  . rw[ii]at e;subst e;have hl:(t++[c]).length=t.length+1:=by simp
    have hg:(t++[c])[(((t++[c]).length:Int)-1).toNat]! = c:=by
     rw[show (((t++[c]).length:Int)-1).toNat=t.length by omega,getElem!_pos _ _ ax];simp
    have hc:=LH C c hb;rw[LJ]at hQ;cases hd:bT c with
    | true=>
     rw[hd]at hc;rw[if_pos hd]at hQ;refine W.loop ?_;unfold tP;repeat' first|(rw[hg])|(apply aiz (r:=t);rfl;rfl;omega;(rw[show (((t++[c]).length:Int)-1).toNat=t.length by omega];simp))|apply abx|apply aa|apply abr|apply aaL|apply aef|apply adA|apply bC|(apply acO;rfl)|(apply acM;rfl)|(apply aeq;rfl;rfl)|(apply afS;rfl;rfl;omega)|(apply ahW;rfl;rfl;first|exact hc)|(apply aii;rfl;rfl;omega)|(apply abA;rfl;rfl)|(apply abC;rfl;rfl)|(intro _;omega)|intro _
     refine fX ?_;exact ih t _ _ rfl ac ac hQ
    | false=>
     rw[hd]at hc;rw[if_neg (by rw[hd];simp)]at hQ;refine W.loop ?_;unfold tP;repeat' first|(rw[hg])|apply abx|apply aa|apply abr|apply aaL|apply aef|apply aeM|apply adA|apply bH|(apply dT;rfl)|apply cA|(apply acO;rfl)|(apply aeq;rfl;rfl)|(apply afS;rfl;rfl;omega)|(apply ahW;rfl;rfl;first|exact hc)|(apply aii;rfl;rfl;omega)|(apply abA;rfl;rfl)|(intro _;omega)|intro _
     exact hQ _
theorem aac (C:pE M){H:ab}{b:Nat}(hb:H.at b=some (.cells fL 314))(s:az)(hl:s.length<1000000):CT M (ic 275) [.str s,.ptr b 0] H ⟨.str (jF s),H,[]⟩:=by
 refine CT.run (C.LG _ _) (kd (by rw[C.ft];exact ZL) ax ?_);simp only[c7,c9];unfold Lw;simp only[enter];repeat' first|apply abx|apply aa|apply abr|apply aaL|apply aef|(apply abC;rfl;rfl)
 refine aab C hb s.length s _ _ rfl rfl hl fun lo=>?_
 repeat' first|apply abx|apply aa|apply abr|apply aaL|apply acG|apply bJ|(apply abA;rfl;rfl)|(apply abC;rfl;rfl)
 exact⟨.inr rfl,rfl,rfl,rfl,_,rfl,rfl⟩
theorem LK (C:pE M){H:ab}{b:Nat}(hb:H.at b=some (.cells fL 314)){Q:Ex->au->Prop}:∀(s:az) (lo:List (Nat×AV)) (wr:List Nat) (_:wr=[]),s.length<1000000 ->
 (∀lo,Q (.exit 0) ⟨⟨[.str (kY s),.ptr b 0,.str []],lo,H,[]⟩,[]⟩)->W M (.loop tO) ⟨⟨[.str s,.ptr b 0,.str []],lo,H,[]⟩,wr⟩ Q
 | [],lo,wr,hw,hn,hQ=>by
  subst hw;have h0:([]:az).length=0:=rfl;refine W.loop ?_;unfold tO;repeat' first|apply abx|apply aa|apply abr|apply aaL|apply aeM|apply bH|apply cA|(apply acM;rfl)|(apply aeq;rfl;rfl)|(apply abA;rfl;rfl)|(intro _;omega)|intro _
  exact hQ _
 | c::s,lo,wr,hw,hn,hQ=>by
  subst hw;have hl:(c::s).length=s.length+1:=rfl;have hc:=LH C c hb;have e:kY (c::s)=if bT c then kY s else c::s:=f9 ..
  rw[e]at hQ;cases hd:bT c with
  | true=>
   rw[hd]at hc;rw[if_pos hd]at hQ;refine W.loop ?_;unfold tO;repeat' first|(apply air (r:=s);rfl;rfl;omega;rfl)|apply abx|apply aa|apply abr|apply aaL|apply aef|apply adA|apply bC|(apply acO;rfl)|(apply acM;rfl)|(apply aeq;rfl;rfl)|(apply ahW;rfl;rfl;first|exact hc)|(apply aii;rfl;rfl;omega)|(apply abA;rfl;rfl)|(apply abC;rfl;rfl)|(intro _;omega)|intro _
   refine fX ?_;exact LK C hb s _ _ rfl ac hQ
  | false=>
   rw[hd]at hc;rw[if_neg (by rw[hd];simp)]at hQ;refine W.loop ?_;unfold tO;repeat' first|apply abx|apply aa|apply abr|apply aaL|apply aef|apply aeM|apply adA|apply bH|(apply dT;rfl)|apply cA|(apply acO;rfl)|(apply aeq;rfl;rfl)|(apply ahW;rfl;rfl;first|exact hc)|(apply aii;rfl;rfl;omega)|(apply abA;rfl;rfl)|(intro _;omega)|intro _
   exact hQ _
theorem aad (C:pE M){H:ab}{b:Nat}(hb:H.at b=some (.cells fL 314))(s:az)(hl:s.length<1000000):CT M (ic 274) [.str s,.ptr b 0] H ⟨.str (kY s),H,[]⟩:=by
 refine CT.run (C.LF _ _) (kd (by rw[C.ft];exact ZK) ax ?_);simp only[c7,c9];unfold Lv;simp only[enter];repeat' first|apply abx|apply aa|apply abr|apply aaL|apply aef|(apply abC;rfl;rfl)
 refine LK C hb s _ _ rfl hl fun lo=>?_
 repeat' first|apply abx|apply aa|apply abr|apply aaL|apply acG|apply bJ|(apply abA;rfl;rfl)|(apply abC;rfl;rfl)
 exact⟨.inr rfl,rfl,rfl,rfl,_,rfl,rfl⟩
theorem LL {p:UInt8->Bool}:∀s:az,(s.dropWhile p).length<=s.length
 | []=>be _
 | c::s=>by
  rw[f9];have:=LL (p:=p) s;split
  . rw[cD];omega
  . exact be _
theorem aae (s:az):(jF s).length<=s.length:=by
 unfold jF;have:=LL (p:=bT) s.reverse;simpa using this
theorem LM:fL.length=256:=by simp[fL]
theorem aaf:fL.all dx=true:=by
 simp only[fL,List.all_map,cT];intro x _;rfl
theorem aag {a b:List AV}(h:a.length=b.length):overwrite a 0 b=b:=by
 unfold overwrite;rw[List.take_zero,c7,List.drop_of_length_le ac,c9]
theorem LN:yj.length=256:=by kernel_rfl
theorem aah:overwrite yj 0 fL=fL:=aag (by rw[LM,LN])
theorem aai (C:pE M)(s:az)(hl:s.length<1000000):bm M 211 [.str s,.str nT] [] ⟨.str (kY (jF s)),[],[]⟩:=by
 have hD:nT.length=10:=rfl;have hT:=aae s;have yl:=C.yl [];have hb:ab.at [some (.cells fL 314)] 0=some (.cells fL 314):=rfl;have q1:=aac C hb s hl;have q2:=aad C hb (jF s) ac;refine bX (by rw[C.ft];exact ZH) ax ?_;unfold Lu;simp only[enter];by_cases h0:s=[]
 . subst h0;repeat' first|(apply ahV;rfl;rfl;intro _;rotate_left;(intro h;exact absurd rfl h))|apply abx|apply aa|apply abr|apply aaL|apply acG|apply ba|(apply acO;rfl)|(apply aid;rfl)|(apply aeB;rfl;rfl)|(apply abA;rfl;rfl)|(apply abC;rfl;rfl)
   exact⟨.inr rfl,rfl,_,rfl,rfl,rfl⟩
 . repeat' first|(apply ahV;rfl;rfl;(intro h;first|exact absurd h h0|exact absurd h ao);intro _)|apply abx|apply aa|apply abr|apply aaL|apply acG|apply adA|apply ba|(apply acO;rfl)|(apply acM;rfl)|(apply ahQ;rfl)|(apply ahU;rfl)|(apply afe;rfl;rfl)|(apply aeC;rfl;rfl)|(apply adX;rfl;rfl;first|exact yl)|(apply aia (c':=fL);rfl;rfl;rfl;exact⟨LM,Nat.le_of_eq ((j0 _).trans LN.symm),aaf⟩;exact aah)|(apply ahW;rfl;rfl;first|exact q1|exact q2)|(apply aes;rfl;rfl;rfl)|(apply abA;rfl;rfl)|(apply abC;rfl;rfl)|(intro _;omega)|intro _
   exact⟨.inr rfl,rfl,_,rfl,rfl,rfl⟩
structure LO (M:ay):Prop where
 ft:M.FT=FT
 aaj:∀ars h,M.ext 278 ars h=none
theorem aak {s:az}{i:Nat}(h:i<s.length):(tN s)[i]? = some (.int .u8 (s[i]!).toNat):=by
 rw[tN,List.getElem?_map,bj h,getElem!_pos s i h];rfl
theorem aal {H:ab}{c:Nat}(s:az)(hb:H.at c=some (.cells (tN s) 5))(hs:s.length<=18)(hd:s.all bT=true)(cp:Option Nat)(a1 a2 a3 a4 a7 a8:AV){Q:Ex->au->Prop}:∀(r i n:Nat) (a6:AV) (lo:List (Nat×AV)) (wr:List Nat),i+r=s.length->n<10^i ->
 (∀a6 lo,Q (.exit 0) ⟨⟨[.str s,a1,a2,a3,a4,.iV (aU n (s.drop i)),a6,a7,a8,.sl c 0 s.length 1 cp,.iV s.length,.iV s.length],lo,H,[]⟩,wr⟩) ->
 W M (.loop yk) ⟨⟨[.str s,a1,a2,a3,a4,.iV n,a6,a7,a8,.sl c 0 s.length 1 cp,.iV s.length,.iV i],lo,H,[]⟩,wr⟩ Q:=by
 intro r;induction r with
 | zero=>
  intro i n a6 lo wr hi hn hQ;obtain rfl:i=s.length:=by omega
  rw[jV]at hQ;refine W.loop ?_;unfold yk;repeat' first|apply abx|apply aa|apply abr|apply aaL|apply aeM|apply bH|apply cA|(apply acM;rfl)|(apply aep;rfl;rfl)|(intro _;omega)|intro _
  exact hQ _ _
 | succ r ih=>
  intro i n a6 lo wr hi hn hQ;have hil:i<s.length:=by omega
  have hp:10^i<=10^17:=j7 ao ac;have hg:s[i]! = s[i]:=getElem!_pos s i hil;have hm:=cT.1 hd (s[i]!) (by rw[hg];exact d6 hil);have hx:=(lS _).1 hm;rw[f7 hil,tL,←hg]at hQ;have hpart:partOf ((tN s).drop (0+((i:Int)).toNat*1)) 0 1 false=some (.int .u8 (s[i]!).toNat):=by
   rw[Iq,fu,j0,Nat.mul_one];simp only[partOf,i8,if_false];exact aak hil
  refine W.loop ?_;unfold yk;repeat' first|(apply ajd;rfl;exact hb;exact hpart)|(apply ajP;rfl;rfl;omega)|apply abx|apply aa|apply abr|apply aaL|apply aef|apply adA|apply bC|(apply acO;rfl)|(apply acM;rfl)|(apply aep;rfl;rfl)|(apply aeq;rfl;rfl)|(apply aiL;rfl;omega)|(apply aeX;rfl;rfl;omega)|(apply aiE;rfl;rfl;omega)|(apply aic;rfl;rfl;omega)|(apply abA;rfl;rfl)|(apply abC;rfl;rfl)|(intro _;omega)|intro _
  refine fX ?_;have hpow:10^(i+1)=10*10^i:=by rw[d8,f6]
  have e:=ih (i+1) (10*n+((s[i]!).toNat-48));rw[show (((10*n+((s[i]!).toNat-48):Nat):Int))=(n:Int)*10+(((s[i]!).toNat:Int)-48) by omega,show (((i+1:Nat):Int))=(i:Int)+1 by omega]at e;exact e _ _ _ ac ac hQ
theorem aam (C:LO M)(s:az)(h0:s≠[])(hl:s.length<=18)(hd:s.all bT=true)(H:ab):bm M 278 [.str s] H ⟨.aw [.iV (aU 0 s),.eH],H,[]⟩:=by
 have hpos:0<s.length:=gc.2 h0;have hg:s[0]! = s[0]:=getElem!_pos s 0 hpos;have hx:48<=(s[pu 0]!).toNat/\(s[pu 0]!).toNat<58:=(lS _).1 (cT.1 hd (s[0]!) (by rw[hg];exact d6 hpos));refine nt (by rw[C.ft];exact Zy) ax (nk _) ?_;unfold Lm;simp only[enter];repeat' first|apply abx|apply aa|apply abr|apply aaL|apply aef|apply adA|(apply acO;rfl)|(apply acM;rfl)|(apply afg;rfl)|(apply ahQ;rfl)|(apply ahU;rfl)|(apply aiK;rfl)|(apply aep;rfl;rfl)|(apply afe;rfl;rfl)|(apply aeB;rfl;rfl)|(apply aeC;rfl;rfl)|(apply aii;rfl;rfl;omega)|(apply aes;rfl;rfl;rfl)|(apply abA;rfl;rfl)|(apply abC;rfl;rfl)|(intro _;omega)|intro _
 refine aal (H:=H++[some (.cells (tN s) 5)]) (c:=H.length) s cj hl hd none _ _ _ _ _ _ s.length 0 0 _ _ _ ac ax (fun a6 lo=>?_);rw[List.drop_zero];repeat' first|apply abx|apply aa|apply abr|apply aaL|apply acG|apply adA|apply ba|apply bJ|(apply acM;rfl)|(apply afe;rfl;rfl)|(apply aii;rfl;rfl;omega)|(apply abA;rfl;rfl)|(apply abC;rfl;rfl)|(intro _;omega)|intro _
 exact⟨.inr rfl,rfl,⟨_,rfl⟩,fun x h=>by simp at h,_,rfl,rfl⟩
theorem aan (C:LO M)(s:az)(h0:s≠[])(hl:s.length<=18)(hd:s.all bT=true):bm M 212 [.str s] [] ⟨.aw [.iV (aU 0 s),.eH],[],[]⟩:=by
 have hc:=CT.run (fi:=[]) (ca:=[]) (ars:=[.str s]) (C.aaj _ _) (aam C s h0 hl hd []);refine bX (by rw[C.ft];exact Zx) ax ?_;unfold Ll;simp only[enter];repeat' first|apply abx|apply aa|apply abr|apply aaL|apply acG|apply adA|(apply acM;rfl)|(apply ahW;rfl;rfl;first|exact hc)|(apply abA;rfl;rfl)|(apply abC;rfl;rfl)
 exact⟨.inr rfl,rfl,_,rfl,rfl,rfl⟩
theorem dropWhile_nil {p:UInt8->Bool}:∀l:az,l.dropWhile p=[]↔∀x∈l,p x=true
 | []=>by simp
 | c::l=>by
  rw[f9];split
  . rename_i h;rw[dropWhile_nil l];simp[h]
  . rename_i h;simp[h]
theorem LP (s:az):kY (jF s)=[]↔s.all bT=true:=by
 rcases g9 s with rfl|⟨t,c,e⟩
 . simp[kY,jF]
 . rw[ii]at e;subst e;have hlen:t.length<(t++[c]).length:=by simp
   rw[LJ];split
   . rename_i h;rw[LP t];simp only[c6,eL,li,h,iq]
   . rename_i h;unfold kY;rw[dropWhile_nil,cT]
termination_by s.length
decreasing_by subst_vars;simp
def preB (b:UInt8)(s:az):Bool:=decide (s.head? = some b)
def bW (b:UInt8)(s:az):az:=if s.head? = some b then s.tail else s
theorem rA (b:UInt8)(s:az):(bW b s).length<=s.length:=by unfold bW;split <;> simp
theorem aao (hft:M.FT=FT)(s:az)(b:UInt8)(hl:s.length<1000000):bm M 329 [.str s,.str [b]] [] ⟨.bool (preB b s),[],[]⟩:=by
 have hn1:([b]:az).length=1:=rfl;refine bX (by rw[hft];exact Zu) ax ?_;cases s with
 | nil=>
  have h0:([]:az).length=0:=rfl;unfold Ew;simp only[enter];repeat' first|apply abx|apply aa|apply abr|apply aaL|apply acG|(apply ahU;rfl)|(apply ahS;rfl;rfl)|(apply aeC;rfl;rfl)|(apply abA;rfl;rfl)|(apply abC;rfl;rfl)|(intro _;omega)|intro _
  all_goals try omega
  all_goals exact⟨.inr rfl,rfl,_,rfl,rfl,rfl⟩
 | cons c t=>
  have hcl:(c::t).length=t.length+1:=rfl;have hd:(c::t).take (([b]:az).length:Int).toNat=[c]:=rfl;have he:preB b (c::t)=decide (c=b):=by simp[preB]
  rw[he];unfold Ew;simp only[enter];by_cases hc:c=b
  . subst hc;rw[decide_eq_true rfl];repeat' first|(apply aiz;rfl;rfl;omega;exact hd)|(apply ahV;rfl;rfl;intro _;rotate_left;(intro h;exact absurd rfl h))|apply abx|apply aa|apply abr|apply aaL|apply acG|(apply afg;rfl)|(apply ahS;rfl;rfl)|(apply aeB;rfl;rfl)|(apply abA;rfl;rfl)|(apply abC;rfl;rfl)|(intro _;omega)|intro _
    all_goals try omega
    all_goals exact⟨.inr rfl,rfl,_,rfl,rfl,rfl⟩
  . rw[decide_eq_false hc];repeat' first|(apply aiz;rfl;rfl;omega;exact hd)|(apply ahV;rfl;rfl;(intro h;exact absurd (List.cons.inj h).1 hc);intro _)|apply abx|apply aa|apply abr|apply aaL|apply acG|(apply afg;rfl)|(apply ahS;rfl;rfl)|(apply aeB;rfl;rfl)|(apply abA;rfl;rfl)|(apply abC;rfl;rfl)|(intro _;omega)|intro _
    all_goals try omega
    all_goals exact⟨.inr rfl,rfl,_,rfl,rfl,rfl⟩
theorem aap (hft:M.FT=FT)(s:az)(b:UInt8)(q:∀h,M.ext 329 [.str s,.str [b]] h=some ⟨.bool (preB b s),h,[]⟩):bm M 283 [.str s,.str [b]] [] ⟨.bool (preB b s),[],[]⟩:=by
 refine bX (by rw[hft];exact Zt) ax ?_;unfold Li;simp only[enter];repeat' first|apply abx|apply aa|apply abr|apply aaL|apply acG|(apply adX;rfl;rfl;first|exact q _)|(apply abA;rfl;rfl)|(apply abC;rfl;rfl)
 all_goals exact⟨.inr rfl,rfl,_,rfl,rfl,rfl⟩
theorem tW {b:UInt8}{s:az}(h:preB b s=true):s.drop (([b]:az).length:Int).toNat=bW b s/\1<=s.length:=by
 have h:=of_decide_eq_true h;unfold bW;rw[if_pos h];cases s with
 | nil=>simp at h
 | cons c t=>exact⟨rfl,ax⟩
theorem kZ {b:UInt8}{s:az}(h:preB b s=false):bW b s=s:=if_neg (of_decide_eq_false h)
theorem aaq (hft:M.FT=FT)(s:az)(b:UInt8)(hl:s.length<1000000)(q:∀h,M.ext 329 [.str s,.str [b]] h=some ⟨.bool (preB b s),h,[]⟩):bm M 285 [.str s,.str [b]] [] ⟨.str (bW b s),[],[]⟩:=by
 have hn1:([b]:az).length=1:=rfl;refine bX (by rw[hft];exact Zw) ax ?_;unfold Lk;simp only[enter];cases hp:preB b s with
 | true=>
  rw[hp]at q;obtain⟨h1,h2⟩:=tW hp;repeat' first|(apply air;rfl;rfl;omega;exact h1)|apply abx|apply aa|apply abr|apply aaL|apply acG|apply ba|(apply acO;rfl)|(apply adX;rfl;rfl;first|exact q _)|(apply abA;rfl;rfl)|(apply abC;rfl;rfl)
  all_goals exact⟨.inr rfl,rfl,_,rfl,rfl,rfl⟩
 | false=>
  rw[hp]at q;rw[kZ hp];repeat' first|apply abx|apply aa|apply abr|apply aaL|apply acG|apply adA|(apply acM;rfl)|(apply adX;rfl;rfl;first|exact q _)|(apply abA;rfl;rfl)|(apply abC;rfl;rfl)
  all_goals exact⟨.inr rfl,rfl,_,rfl,rfl,rfl⟩
theorem aar (hft:M.FT=FT)(s:az)(b:UInt8)(q:∀h,M.ext 285 [.str s,.str [b]] h=some ⟨.str (bW b s),h,[]⟩):bm M 218 [.str s,.str [b]] [] ⟨.str (bW b s),[],[]⟩:=by
 refine bX (by rw[hft];exact Zv) ax ?_;unfold Lj;simp only[enter];repeat' first|apply abx|apply aa|apply abr|apply aaL|apply acG|(apply adX;rfl;rfl;first|exact q _)|(apply abA;rfl;rfl)|(apply abC;rfl;rfl)
 all_goals exact⟨.inr rfl,rfl,_,rfl,rfl,rfl⟩
theorem aas (hft:M.FT=FT)(s:az)(b:UInt8)(hl:s.length<1000000)(q:∀h,M.ext 329 [.str s,.str [b]] h=some ⟨.bool (preB b s),h,[]⟩):bm M 296 [.str s,.str [b]] [] ⟨.aw [.str (bW b s),.bool (preB b s)],[],[]⟩:=by
 have hn1:([b]:az).length=1:=rfl;refine bX (by rw[hft];exact ZF) ax ?_;unfold Ls;simp only[enter];cases hp:preB b s with
 | true=>
  rw[hp]at q;obtain⟨h1,h2⟩:=tW hp;repeat' first|(apply air;rfl;rfl;omega;exact h1)|apply abx|apply aa|apply abr|apply aaL|apply acG|apply adA|(apply acM;rfl)|(apply adX;rfl;rfl;first|exact q _)|(apply abA;rfl;rfl)|(apply abC;rfl;rfl)
  all_goals exact⟨.inr rfl,rfl,_,rfl,rfl,rfl⟩
 | false=>
  rw[hp]at q;rw[kZ hp];repeat' first|apply abx|apply aa|apply abr|apply aaL|apply acG|apply ba|(apply acO;rfl)|(apply adX;rfl;rfl;first|exact q _)|(apply abA;rfl;rfl)|(apply abC;rfl;rfl)
  all_goals exact⟨.inr rfl,rfl,_,rfl,rfl,rfl⟩
theorem aat (hft:M.FT=FT)(s:az)(b:UInt8)(q:∀h,M.ext 296 [.str s,.str [b]] h=some ⟨.aw [.str (bW b s),.bool (preB b s)],h,[]⟩):bm M 225 [.str s,.str [b]] [] ⟨.aw [.str (bW b s),.bool (preB b s)],[],[]⟩:=by
 refine bX (by rw[hft];exact ZE) ax ?_;unfold Lr;simp only[enter];repeat' first|apply abx|apply aa|apply abr|apply aaL|apply acG|(apply adX;rfl;rfl;first|exact q _)|(apply abA;rfl;rfl)|(apply abC;rfl;rfl)
 all_goals exact⟨.inr rfl,rfl,_,rfl,rfl,rfl⟩
structure yn (M:ay)(N:Nat):Prop extends CF M N where
 LR:∀(s:az) h,s.length<1000000->M.ext 283 [.str s,.str [45]] h=some ⟨.bool (preB 45 s),h,[]⟩
 LS:∀(s:az) h,s.length<1000000->M.ext 218 [.str s,.str [45]] h=some ⟨.str (bW 45 s),h,[]⟩
 LU:∀(s:az) h,s≠[]->s.length<=18->s.all bT=true->M.ext 212 [.str s] h=some ⟨.aw [.iV (aU 0 s),.eH],h,[]⟩
 LV:∀v A (K:Nat),aV v A->K<=18->K<=N->ak A<=10->∃v0,aV v0 (A^K)/\∀h,M.ext 284 [v,.iV K] h=some ⟨v0,h,[]⟩
theorem yp (n:Nat):(10:Int)^n<=wB^n:=by
 induction n with
 | zero=>decide
 | succ n ih=>
  rw[dc,dc];exact Int.mul_le_mul ih ao ao (n8 ao)
theorem pF {s:az}(h:s.all bT=true)(hl:s.length<=N):ak (aU 0 s:Nat)<wB^N:=by
 have h1:=nN s h;rw[fC ac];have h2:(aU 0 s:Int)<(10:Int)^s.length:=by exact_mod_cast h1
 exact du h2 (gT (yp _) (iS ao hl))
theorem LW {s:az}(h:s.all bT=true)(hl:s.length<=18):aU 0 s<1000000000000000000:=
 Nat.lt_of_lt_of_le (nN s h) (cC (j7 ao hl) ao)
def EB (so:Int)(wo:AV):ab:=[some (.cells [.iV 0,.ah] 171),some (.cells [.iV so,wo] 171)]
theorem aau (C:yn M N){Q:Ex->au->Prop}(full:az)(hD:full.all bT=true)(hl:full.length<=N)(a2:AV)
 (hQ:∀so wo a4 a5 lo wr,aV (.agg [.iV so,wo]) (aU 0 full:Nat)->Q (.exit 0) ⟨⟨[.str [],.ptr 0 0,a2,.ptr 1 0,a4,a5],lo,EB so wo,[]⟩,wr⟩)
 (a4 a5:AV) (lo:List (Nat×AV)) (wr:List Nat) :
 W M (.loop yi) ⟨⟨[.str full,.ptr 0 0,a2,.ptr 1 0,a4,a5],lo,EB 0 .ah,[]⟩,wr⟩ Q:=by
 have hlN:=C.lN;refine W.ir (fun m st=>∃t dn so wo a4 a5 lo wr,st=⟨⟨[.str t,.ptr 0 0,a2,.ptr 1 0,a4,a5],lo,EB so wo,[]⟩,wr⟩/\t.length=m/\full=dn++t/\aV (.agg [.iV so,wo]) (aU 0 dn:Nat))
  (fun m st ⟨t,dn,so,wo,a4,a5,lo,wr,hst,hm,hf,hv⟩=>?_) (m:=full.length) ⟨full,[],0,.ah,a4,a5,lo,wr,rfl,rfl,rfl,.small ao⟩
 subst hst;cases t with
 | nil=>
  rw[c9]at hf;subst hf;have h0:([]:az).length=0:=rfl;unfold yi;repeat' first|apply abx|apply aa|apply abr|apply aaL|apply aeM|apply bH|apply ck|(apply acM;rfl)|(apply aeq;rfl;rfl)|(apply abA;rfl;rfl)|(intro _;omega)|intro _
  all_goals try omega
  all_goals exact hQ _ _ _ _ _ _ hv
 | cons c t=>
  obtain⟨t',ht'⟩:∃t',t'=c::t:=⟨_,rfl⟩;rw[←ht']at hm hf ⊢;have hpos:0<t'.length:=by rw[ht'];simp
  have hDt:t'.all bT=true:=by rw[hf,c6,bZ]at hD;exact hD.2
  have hDd:dn.all bT=true:=by rw[hf,c6,bZ]at hD;exact hD.1
  have hfl:full.length=dn.length+t'.length:=by rw[hf,dg]
  obtain⟨n,hn,hn1⟩:∃n:Nat,((n:Int)=18/\(18:Int)<=t'.length\/(n:Int)=t'.length/\(t'.length:Int)<=18)/\0<n/\n<=18/\n<=t'.length:=by
   by_cases h:t'.length<=18
   . exact⟨t'.length,.inr ⟨rfl,ac⟩,ac,ac,ac⟩
   . exact⟨18,.inl ⟨rfl,ac⟩,ac,ac,ac⟩
  obtain⟨x,y,hxy,hxl⟩:∃x y,t'=x++y/\x.length=n:=⟨t'.take n,t'.drop n,(List.take_append_drop n t').symm,by rw[cP];omega⟩;have hx0:x≠[]:=fun e=>by rw[e]at hxl;simp at hxl;omega
  have hDx:x.all bT=true:=by rw[hxy,c6,bZ]at hDt;exact hDt.1
  have htk:t'.take (n:Int).toNat=x:=by rw[hxy,fu,←hxl,List.take_left]
  have hdr:t'.drop (n:Int).toNat=y:=by rw[hxy,fu,←hxl,List.drop_left]
  have hyl:t'.length=n+y.length:=by rw[hxy,dg,hxl]
  have q212:=fun h=>C.LU x h hx0 ac hDx
  have q196:=C.nL 10;obtain⟨v1,k1,q284⟩:=C.LV (.agg [.iV 10,.ah]) 10 n (.small ao) hn1.2.1 ac ao;have b1:=pF (N:=N) hDd ac;have b2:ak ((10:Int)^n)<wB^N:=by
   rw[fC (n8 ao)];have h1:=iS (b:=wB) ao (m:=n) (n:=N) ac;have h2:=yp n;have h3:(10:Int)^n<wB^n:=by
    obtain⟨k,rfl⟩:∃k,n=k+1:=⟨n-1,ac⟩;have:=yp k;have p0:(0:Int)<10^k:=j3 ao;rw[dc,dc];have:(10:Int)^k*10<10^k*wB:=Int.mul_lt_mul_of_pos_left ao p0;have h5:(10:Int)^k*wB<=wB^k*wB:=ce (yp k) ao;omega
   omega
  obtain⟨v2,k2,q199⟩:=C.rp _ _ _ _ hv k1 b1 b2;have e2:(aU 0 dn:Int)*10^n=((aU 0 (dn++i7 n 48):Nat):Int):=by
   have:aU (aU 0 dn) (i7 n 48)=aU 0 dn*10^n:=by rw[←Eu,Lc];simp
   rw[pC,this];push_cast;rfl
  have k2:aV v2 ((aU 0 dn:Int)*10^n):=k2;have b3:ak ((aU 0 dn:Int)*10^n)<wB^N:=by
   rw[e2];exact pF (by rw[c6,hDd,←Eu,KZ];rfl) (by rw[dg,List.length_replicate];omega)
  have hxs:=LW hDx ac;have q196b:=C.nL (aU 0 x:Nat);obtain⟨v3,k3,q253⟩:=C.xC v2 (.agg [.iV (aU 0 x:Nat),.ah]) _ _ k2 (.small ac) b3 (pF hDx ac);have e3:(aU 0 dn:Int)*10^n+(aU 0 x:Nat)=((aU 0 (dn++x):Nat):Int):=by
   rw[pC,yg x (aU 0 dn),hxl];push_cast;rfl
  have k3:aV v3 ((aU 0 (dn++x):Nat):Int):=by rw[←e3];exact k3
  obtain⟨s3,w3,rfl,o3,_⟩:=k3.shape;unfold yi;repeat' first|(apply ajF (m:=(n:Int));rfl;rfl;exact hn)|(apply aiz (s:=t') (r:=x);rfl;rfl;omega;exact htk)|(apply air (s:=t') (r:=y);rfl;rfl;omega;exact hdr)|(apply adX;rfl;rfl;first|exact q212 _|exact q196 _|exact q284 _|exact q199 _|exact q196b _|exact q253 _)|(apply ahR;rfl;rfl;(first|(simp only[nca];rfl)|rfl);first|exact q212 _|exact q196 _|exact q284 _|exact q199 _|exact q196b _|exact q253 _)|(apply aia;rfl;rfl;rfl;exact⟨rfl,be _,by simp[fw,o3]⟩;rfl)|apply abx|apply aa|apply abr|apply aaL|apply aef|apply adA|apply bC|apply afU|apply agy|(apply ahl;rfl)|(apply ahb;rfl;rfl;(first|(simp only[nca];rfl)|rfl))|(apply ahY;rfl;(first|(simp only[nca];rfl)|rfl);(first|(simp only[nca];rfl)|rfl))|(apply acO;rfl)|(apply aeq;rfl;rfl)|(apply aev;rfl;rfl;rfl)|(apply abA;rfl;rfl)|(apply abC;rfl;rfl)|(intro _;omega)|intro _
  all_goals try omega
  all_goals exact dQ ⟨y.length,ac,y,dn++x,s3,w3,_,_,_,_,rfl,rfl,by rw[hf,hxy,l9],k3⟩
theorem aav (C:yn M N)(s:az)(hl:s.length<=N)(hD:(bW 45 s).all bT=true):∃v0,aV v0 (if preB 45 s then -(aU 0 (bW 45 s):Int) else (aU 0 (bW 45 s):Nat))/\dD M 216 [.str s] v0:=by
 have hlN:=C.lN;have q283:=fun h=>C.LR s h ac
 have q218:=fun h=>C.LS s h ac
 have hcl:(bW 45 s).length<=N:=cC (rA 45 s) hl;have hb:=pF (N:=N) hD hcl;obtain⟨v',hh,⟨v0,h0,ho⟩,hr⟩:=iR (M:=M) (f:=216) (ars:=[.str s]) (P:=fun v hh=>∃v0,aV v0 (if preB 45 s then -(aU 0 (bW 45 s):Int) else (aU 0 (bW 45 s):Nat))/\fG v hh v0) (by rw[C.ft];exact Zr) ax (by
  unfold Lg;simp only[enter];repeat' first|apply abx|apply aa|apply abr|apply aaL|apply aef|(apply adX;rfl;rfl;first|exact q283 _|exact q218 _)|(apply aes;rfl;rfl;rfl)|(apply ahX;rfl;rfl;rfl)|(apply abA;rfl;rfl)|(apply abC;rfl;rfl)
  refine aau C (bW 45 s) hD hcl _ (fun so wo a4 a5 lo wr hv=>?_) _ _ _ _;cases hp:preB 45 s with
  | true=>
   rw[if_pos rfl];obtain⟨v1,k1,q201⟩:=C.mL _ _ hv hb;have k1:aV v1 (-(aU 0 (bW 45 s):Int)):=k1;obtain⟨s1,w1,rfl,o1,_⟩:=k1.shape;repeat' first|(apply aia;rfl;rfl;rfl;exact⟨rfl,be _,by simp[fw,o1]⟩;rfl)|apply abx|apply aa|apply abr|apply aaL|apply acG|apply ba|apply bJ|(apply acO;rfl)|(apply adX;rfl;rfl;first|exact q201 _)|(apply aev;rfl;rfl;rfl)|(apply abA;rfl;rfl)
   exact⟨.inr rfl,rfl,_,rfl,_,k1,k1.out⟩
  | false=>
   rw[if_neg ao];obtain⟨o1,_⟩:=hv.one;repeat' first|(apply aia;rfl;rfl;rfl;exact⟨rfl,be _,by simp[fw,o1]⟩;rfl)|apply abx|apply aa|apply abr|apply aaL|apply acG|apply adA|apply bJ|(apply acM;rfl)|(apply aev;rfl;rfl;rfl)|(apply abA;rfl;rfl)
   exact⟨.inr rfl,rfl,_,rfl,_,hv,hv.out⟩)
 exact⟨v0,h0,v',hh,ho,hr⟩
theorem LX {s:az}(h:s.all bT=true){c:UInt8}(hc:¬bT c=true):c∉s:=fun hm=>hc ((cT.1 h) c hm)
theorem LY (n:Nat){c:UInt8}(hc:¬bT c=true):preB c (bw n)=false:=by
 rw[preB,decide_eq_false_iff_not];intro h;cases hd:bw n with
 | nil=>exact ry n hd
 | cons b t=>
  rw[hd]at h;have hb:b∈bw n:=by rw[hd];simp
  simp at h;exact hc (h ▸ (cT.1 (ko n)) b hb)
theorem aaw (z:Int):preB 45 (cY z)=decide (z<0)/\bW 45 (cY z)=bw (ak z).toNat:=by
 by_cases h:z<0
 . rw[pD h,decide_eq_true h];exact⟨rfl,rfl⟩
 . rw[nO h,decide_eq_false h];have:=LY (ak z).toNat (c:=45) ao;exact⟨this,kZ this⟩
theorem tX {b:UInt8}:∀{x:az},b∉x->bR b x=(x,none)
 | [],_=>rfl
 | c::x,h=>by
  have h1:¬c=b:=fun e=>h (by rw[e];simp)
  have h2:b∉x:=fun e=>h (by simp[e])
  rw[bR,if_neg h1,tX h2]
theorem tY {b:UInt8}{y:az}:∀{x:az},b∉x->bR b (x++b::y)=(x,some y)
 | [],_=>by rw[c7,bR,if_pos rfl]
 | c::x,h=>by
  have h1:¬c=b:=fun e=>h (by rw[e];simp)
  have h2:b∉x:=fun e=>h (by simp[e])
  rw[m5,bR,if_neg h1,tY h2]
theorem yq (z:Int):(47:UInt8)∉cY z:=by
 have h:=LX (ko (ak z).toNat) (c:=47) ao;by_cases hz:z<0
 . rw[pD hz];simp[h]
 . rw[nO hz];exact h
theorem aax (q:Rat):jC 47 (aT q)=if q.den=1 then .aw [.str (cY q.num),.str [],.bool false] else .aw [.str (cY q.num),.str (bw q.den),.bool true]:=by
 unfold jC aT;by_cases h:q.den=1
 . rw[if_pos h,if_pos h,tX (yq _)];rfl
 . rw[if_neg h,if_neg h,tY (yq _)];rfl
def Lq (N:Nat)(q:Rat):Prop:=(cY q.num).length<=N/\(bw q.den).length<=N
structure mO (M:ay)(N:Nat):Prop extends yn M N where
 EC:∀(s:az) h,s.length<1000000->M.ext 160 [.str s,.str [47]] h=some ⟨jC 47 s,h,[]⟩
 EE:∀(s:az),s.length<=N->(bW 45 s).all bT=true->∃v0,aV v0 (if preB 45 s then -(aU 0 (bW 45 s):Int) else (aU 0 (bW 45 s):Nat))/\∀h,M.ext 216 [.str s] h=some ⟨v0,h,[]⟩
theorem mO.LZ (C:mO M N)(z:Int)(hl:(cY z).length<=N):∃v0,aV v0 z/\∀h,M.ext 216 [.str (cY z)] h=some ⟨v0,h,[]⟩:=by
 obtain⟨h1,h2⟩:=aaw z;obtain⟨v0,h0,q⟩:=C.EE (cY z) hl (by rw[h2];exact ko _);refine⟨v0,?_,q⟩;rw[h1,h2,jv]at h0;have ha:=kl (x:=z);have e:((ak z).toNat:Int)=ak z:=Int.toNat_of_nonneg ha;by_cases hz:z<0
 . rw[decide_eq_true hz,if_pos rfl,e]at h0;have e2:ak z = -z:=if_pos hz;rw[e2,m7]at h0;exact h0
 . rw[decide_eq_false hz,if_neg ao,e]at h0;have e2:ak z=z:=if_neg hz;rw[e2]at h0;exact h0
theorem mO.aay (C:mO M N)(n:Nat)(hl:(bw n).length<=N):∃v0,aV v0 (n:Int)/\∀h,M.ext 216 [.str (bw n)] h=some ⟨v0,h,[]⟩:=by
 rw[←Zs]at hl ⊢;exact C.LZ n hl
theorem Ma {q:Rat}(h:Lq N q):(aT q).length<=2*N+1:=by
 unfold aT;split
 . have:=h.1;omega
 . have h1:=h.1;have h2:=h.2;simp;omega
theorem aaz (C:mO M N)(hN:N<=400000){q:Rat}(lq:Lq N q):∃v0,dV v0 q/\dD M 165 [.str (aT q)] v0:=by
 have sl:=Ma lq;have q160:=fun h=>C.EC (aT q) h ac
 have cs:=aax q;rw[cs]at q160;obtain⟨va,ka,qa⟩:=C.LZ q.num lq.1;by_cases hd:q.den=1
 . rw[if_pos hd]at q160;obtain⟨v0,k0,q195⟩:=C.DX _ _ ka;have k0:dV v0 q:=by
    have:=k0;unfold dV;rw[hd];exact this
   refine⟨v0,k0,dH (by rw[C.ft];exact Lh) ax ?_⟩;have out:=fun hh=>k0.out (hh:=hh)
   obtain⟨s5,w5,s6,w6,rfl,h5,h6⟩:=k0;obtain⟨o5,_⟩:=h5.one;obtain⟨o6,_⟩:=h6.one;unfold Ev;simp only[enter];repeat' first|(apply aia;rfl;rfl;rfl;exact⟨rfl,be _,by simp[fw,o5,o6]⟩;rfl)|apply abx|apply aa|apply abr|apply aaL|apply acG|apply ba|(apply acO;rfl)|(apply adX;rfl;rfl;first|exact q160 _|exact qa _|exact q195 _)|(apply aes;rfl;rfl;rfl)|(apply abA;rfl;rfl)|(apply abC;rfl;rfl)
   all_goals exact cV rfl rfl (out _)
 . rw[if_neg hd]at q160;obtain⟨vb,kb,qb⟩:=C.aay q.den lq.2;obtain⟨s5,w5,rfl,o5,_⟩:=ka.shape;obtain⟨s6,w6,rfl,o6,_⟩:=kb.shape;have k0:dV (.agg [.iV s5,w5,.iV s6,w6]) q:=⟨_,_,_,_,rfl,ka,kb⟩;refine⟨_,k0,dH (by rw[C.ft];exact Lh) ax ?_⟩;have out:=fun hh=>k0.out (hh:=hh)
   unfold Ev;simp only[enter];repeat' first|(apply aia;rfl;rfl;rfl;exact⟨rfl,be _,by simp[overwrite,fw,o5,o6]⟩;rfl)|apply abx|apply aa|apply abr|apply aaL|apply acG|apply adA|(apply acM;rfl)|(apply adX;rfl;rfl;first|exact q160 _|exact qa _|exact qb _)|(apply aes;rfl;rfl;rfl)|(apply abA;rfl;rfl)|(apply abC;rfl;rfl)
   all_goals exact cV rfl rfl (out _)
def Mb:al:=zR [zi 1 0] (zR [zm 12 0,⟨.l 13,.call (kF 225) [(.l 12),(.c (.str [45]))],none⟩,zn 11 13,ze 14 0 11,ze 15 1 11,zw 2 14,zw 3 15] (zR [zm 17 2,⟨.l 18,.call (kF 160) [(.l 17),(.c (.str [47]))],none⟩,zn 16 18,ze 19 0 16,ze 20 1 16,ze 21 2 16,zw 4 19,zw 5 20,zw 6 21] (zR [zm 22 4,z1 23 226 22,zn 24 23,zg (zm 25 3) 24 true,zg (zn 26 25) 24 true,zg (zm 27 4) 26 true,⟨.l 28,.bin .eql (.l 27) (.c (.str [48])),some ((.l 26),true)⟩,zg (zp 29 26 28) 24 true,zg (zu 30 29) 24 true,zp 31 24 30,zw 7 31] (.seq (zR [zm 32 6] (.cond (.l 32) (.region [zm 33 7,zn 34 33,zg (zm 35 5) 34 true,zg (z1 36 226 35) 34 true,zp 37 34 36,zn 38 37,zg (zm 39 5) 38 true,⟨.l 40,.bin .neq (.l 39) (.c (.str [48])),some ((.l 38),true)⟩,zp 41 38 40,zn 42 41,zg (zm 43 5) 42 true,⟨.l 44,.bin .neq (.l 43) (.c (.str [49])),some ((.l 42),true)⟩,zp 45 42 44,zw 7 45]) (.skip))) (.seq (zR [zm 46 7,zu 47 46,⟨.l 48,.call (kF 228) [(.l 47),(kI 1)],none⟩,zm 49 4,zL 50 49,zm 51 5,zL 52 51,⟨.l 53,.mm true [(.l 50),(.l 52)],none⟩,zc 54 .gtr 53 600,⟨.l 55,.call (kF 228) [(.l 54),(kI 4)],none⟩,⟨.l 56,.dW 28 2 1 [.iV (0)] [(0,1,(.l 48)),(1,1,(.l 55))],none⟩,z1 57 227 56,zw 8 57] (zR [zm 58 8,zc 59 .neq 58 0,zn 60 59,zg (zm 61 6) 60 false,zg (zu 62 61) 60 false,zP 63 60 62] (.cond (.l 63) (zR [zm 64 8,zw 1 64] (.ret)) (.skip)))) (zR [zm 65 4,z1 66 216 65,zm 67 5,z1 68 216 67,z2 69 229 66 68,⟨.p 9,.alloc 171 [.iV (0),.ah],none⟩,zs 2 9 69] (.seq (.draw [(zt 70 2 9,[]),(⟨.l 71,.call (kF 196) [(kI 1)],none⟩,[0]),(z2 72 200 70 71,[]),(zc 73 .neq 72 0,[]),(⟨.l 74,.call (kF 228) [(.l 73),(kI 1)],none⟩,[]),(zw 1 74,[])]) (.ret))))))))
theorem aaA:FT 172=some ⟨75,[0,2,3,4,5,6,7,8,9,10],[.var (.p 1)],Mb⟩:=by kernel_rfl
def eO (s:az):Bool:=decide (s≠[]) && s.all bT && (decide (s[0]! ≠ 48) || decide (s=[48]))
theorem aaB (hft:M.FT=FT)(s:az)(q211:∀h,M.ext 211 [.str s,.str nT] h=some ⟨.str (kY (jF s)),h,[]⟩):bm M 297 [.str s] [] ⟨.bool (decide (s≠[]) && s.all bT),[],[]⟩:=by
 refine bX (by rw[hft];exact ZG) ax ?_;unfold Lt;simp only[enter];by_cases h0:s=[]
 . rw[decide_eq_false (by simpa using h0),dz];repeat' first|(apply aih;rfl;rfl;all_goals first|(intro h;exact absurd h0 h)|intro _)|apply abx|apply aa|apply abr|apply aaL|apply acG|(apply ahU;rfl)|(apply aeC;rfl;rfl)|(apply abA;rfl;rfl)|(apply abC;rfl;rfl)
   all_goals exact⟨.inr rfl,rfl,_,rfl,rfl,rfl⟩
 . rw[decide_eq_true h0,c5];have ht:=LP s;cases hd:s.all bT with
   | true=>
    rw[ht.2 hd]at q211;repeat' first|(apply aih;rfl;rfl;all_goals first|(intro h;exact absurd h h0)|intro _)|apply abx|apply aa|apply abr|apply aaL|apply acG|(apply afg;rfl)|(apply aeB;rfl;rfl)|(apply adX;rfl;rfl;first|exact q211 _)|(apply ahV;rfl;rfl;all_goals first|(intro h;exact absurd h ao)|(intro h;exact absurd rfl h)|(intro h;contradiction)|intro _)|(apply abA;rfl;rfl)|(apply abC;rfl;rfl)
    all_goals exact⟨.inr rfl,rfl,_,rfl,rfl,rfl⟩
   | false=>
    have hne:kY (jF s)≠[]:=fun e=>by rw[ht.1 e]at hd;cases hd
    repeat' first|(apply aih;rfl;rfl;all_goals first|(intro h;exact absurd h h0)|intro _)|(apply ahV;rfl;rfl;all_goals first|(intro h;exact absurd h hne)|intro _)|apply abx|apply aa|apply abr|apply aaL|apply acG|(apply afg;rfl)|(apply aeB;rfl;rfl)|(apply adX;rfl;rfl;first|exact q211 _)|(apply abA;rfl;rfl)|(apply abC;rfl;rfl)
    all_goals exact⟨.inr rfl,rfl,_,rfl,rfl,rfl⟩
theorem aaC (hft:M.FT=FT)(s:az)(q297:∀h,M.ext 297 [.str s] h=some ⟨.bool (decide (s≠[]) && s.all bT),h,[]⟩):bm M 226 [.str s] [] ⟨.bool (eO s),[],[]⟩:=by
 refine bX (by rw[hft];exact ZN) ax ?_;unfold eO;unfold Ly;simp only[enter];cases hb:(decide (s≠[]) && s.all bT) with
 | false=>
  rw[hb]at q297;rw[dz];repeat' first|apply abx|apply aa|apply abr|apply aaL|apply acG|(apply ahU;rfl)|(apply aiK;rfl)|(apply aeC;rfl;rfl)|(apply adX;rfl;rfl;first|exact q297 _)|(apply abA;rfl;rfl)|(apply abC;rfl;rfl)
  all_goals exact⟨.inr rfl,rfl,_,rfl,rfl,rfl⟩
 | true=>
  rw[hb]at q297;rw[c5];have hne:s≠[]:=by
   rw[bZ]at hb;exact of_decide_eq_true hb.1
  have hpos:0<s.length:=gc.2 hne;by_cases h48:s[0]! = 48
  . rw[decide_eq_false (by simpa using h48),j8];have e48:((s[(0:Int).toNat]!).toNat:Int)=48:=by rw[show s[(0:Int).toNat]! = s[0]! from rfl,h48];rfl
    by_cases hs:s=[48]
    . rw[decide_eq_true hs];repeat' first|(apply ahV;rfl;rfl;all_goals first|(intro h;exact absurd hs h)|intro _)|apply abx|apply aa|apply abr|apply aaL|apply acG|(apply afg;rfl)|(apply ahQ;rfl)|(apply agx;rfl;rfl)|(apply aeB;rfl;rfl)|(apply aeC;rfl;rfl)|(apply adX;rfl;rfl;first|exact q297 _)|(apply aii;rfl;rfl;omega)|(apply abA;rfl;rfl)|(apply abC;rfl;rfl)|(intro _;omega)|intro _
      all_goals try omega
      all_goals exact⟨.inr rfl,rfl,_,rfl,rfl,rfl⟩
    . rw[decide_eq_false hs];repeat' first|(apply ahV;rfl;rfl;all_goals first|(intro h;exact absurd h hs)|intro _)|apply abx|apply aa|apply abr|apply aaL|apply acG|(apply afg;rfl)|(apply ahQ;rfl)|(apply agx;rfl;rfl)|(apply aeB;rfl;rfl)|(apply aeC;rfl;rfl)|(apply adX;rfl;rfl;first|exact q297 _)|(apply aii;rfl;rfl;omega)|(apply abA;rfl;rfl)|(apply abC;rfl;rfl)|(intro _;omega)|intro _
      all_goals try omega
      all_goals exact⟨.inr rfl,rfl,_,rfl,rfl,rfl⟩
  . rw[decide_eq_true (show s[0]! ≠ 48 from h48),mp];have e48:((s[(0:Int).toNat]!).toNat:Int)≠48:=fun e=>h48 (eA.1 (by rw[show s[(0:Int).toNat]! = s[0]! from rfl]at e;have:(48:UInt8).toNat=48:=rfl;omega))
    repeat' first|apply abx|apply aa|apply abr|apply aaL|apply acG|(apply afg;rfl)|(apply aid;rfl)|(apply agx;rfl;rfl)|(apply aeB;rfl;rfl)|(apply adX;rfl;rfl;first|exact q297 _)|(apply aii;rfl;rfl;omega)|(apply abA;rfl;rfl)|(apply abC;rfl;rfl)|(intro _;omega)|intro _
    all_goals try omega
    all_goals exact⟨.inr rfl,rfl,_,rfl,rfl,rfl⟩
open Go.Proofs
variable {T:List (Nat×Spec)}
noncomputable def nU:Spec:=sK [] 329
noncomputable def yr:Spec:=sK [(329,nU)] 283
noncomputable def yt:Spec:=sK [(329,nU)] 285
noncomputable def yu:Spec:=sK [(285,yt)] 218
noncomputable def yw:Spec:=sK [(329,nU)] 296
noncomputable def EH:Spec:=sK [(296,yw)] 225
theorem EK:bl Tryz.prog gl 329 nU:=bQ bP
theorem aaD:bl Tryz.prog gl 283 yr:=bQ (aX EK bP)
theorem aaE:bl Tryz.prog gl 285 yt:=bQ (aX EK bP)
theorem aaF:bl Tryz.prog gl 218 yu:=bQ (aX aaE bP)
theorem aaG:bl Tryz.prog gl 296 yw:=bQ (aX EK bP)
theorem aaH:bl Tryz.prog gl 225 EH:=bQ (aX aaG bP)
theorem EL:∀(s:az) b h,s.length<1000000->nU [.str s,.str [b]] h=some ⟨.bool (preB b s),h,[]⟩:=fun s b h hl=>cS (aao bN s b hl) rfl rfl rfl h
theorem aaI:∀(s:az) b h,s.length<1000000->yr [.str s,.str [b]] h=some ⟨.bool (preB b s),h,[]⟩:=fun s b h hl=>
 cS (aap (M:=bD Tryz.prog FT [(329,nU)]) bN s b fun h=>EL s b h hl) rfl rfl rfl h
theorem aaJ:∀(s:az) b h,s.length<1000000->yu [.str s,.str [b]] h=some ⟨.str (bW b s),h,[]⟩:=fun s b h hl=>by
 have q285:∀h,yt [.str s,.str [b]] h=some ⟨.str (bW b s),h,[]⟩:=cS (aaq (M:=bD Tryz.prog FT [(329,nU)]) bN s b hl fun h=>EL s b h hl) rfl rfl rfl;exact cS (aar (M:=bD Tryz.prog FT [(285,yt)]) bN s b q285) rfl rfl rfl h
theorem aaK:∀(s:az) b h,s.length<1000000->EH [.str s,.str [b]] h=some ⟨.aw [.str (bW b s),.bool (preB b s)],h,[]⟩:=fun s b h hl=>by
 have q296:∀h,yw [.str s,.str [b]] h=some ⟨.aw [.str (bW b s),.bool (preB b s)],h,[]⟩:=cS (aas (M:=bD Tryz.prog FT [(329,nU)]) bN s b hl fun h=>EL s b h hl) rfl rfl rfl;exact cS (aat (M:=bD Tryz.prog FT [(296,yw)]) bN s b q296) rfl rfl rfl h
def Mc:List (Nat×Spec):=[(336,oK .index)]
theorem cIx:tS (bD Tryz.prog FT Mc) where
 ft:=bN
 Lz:=fun _ _=>rfl
 LA:=fun _ _=>rfl
 LB:=fun _ _ _=>rfl
noncomputable def yx:Spec:=sK Mc 160
theorem aaM:bl Tryz.prog gl 160 yx:=bQ (aX (By Jf) bP)
theorem aaN:∀(s:az) b h,s.length<1000000->yx [.str s,.str [b]] h=some ⟨jC b s,h,[]⟩:=fun s b h hl=>cS (ZV (fun _ _=>rfl) cIx s b hl) rfl rfl rfl h
theorem aaO:dh fL=fL:=by
 unfold fL;induction ip 256 with
 | nil=>rfl
 | cons a l ih=>
  rw[pp,dh,ih];rfl
theorem aaP:bO fL=0:=by
 unfold fL;induction ip 256 with
 | nil=>rfl
 | cons a l ih=>simp only[pp,bO,ih,AV.top];rfl
noncomputable def yy:Spec:=sK [] 273
noncomputable def yz:Spec:=sK [(273,yy)] 211
noncomputable def yA:Spec:=sK [(211,yz)] 297
noncomputable def EM:Spec:=sK [(297,yA)] 226
noncomputable def yB:Spec:=sK [] 212
theorem aaQ:bl Tryz.prog gl 273 yy:=bQ bP
theorem aaR:bl Tryz.prog gl 211 yz:=bQ (aX aaQ bP)
theorem aaS:bl Tryz.prog gl 297 yA:=bQ (aX aaR bP)
theorem aaT:bl Tryz.prog gl 226 EM:=bQ (aX aaS bP)
theorem aaU:bl Tryz.prog gl 212 yB:=bQ bP
theorem aaV:∀h,yy [.str nT] h=some ⟨.aw [.agg fL,.bool true],h,[]⟩:=cS (ZY bN) rfl (by simp[AV.top,bO,aaP]) (by simp only[bS,dh,aaO])
theorem aaW:pE (bD Tryz.prog FT [(273,yy)]) where
 ft:=bN
 LD:=fun _ _=>rfl
 LF:=fun _ _=>rfl
 LG:=fun _ _=>rfl
 yl:=aaV
theorem aaX:∀(s:az) h,s.length<1000000->EM [.str s] h=some ⟨.bool (eO s),h,[]⟩:=fun s h hl=>by
 have q211:∀h,yz [.str s,.str nT] h=some ⟨.str (kY (jF s)),h,[]⟩:=cS (aai aaW s hl) rfl rfl rfl;have q297:∀h,yA [.str s] h=some ⟨.bool (decide (s≠[]) && s.all bT),h,[]⟩:=cS (aaB (M:=bD Tryz.prog FT [(211,yz)]) bN s q211) rfl rfl rfl;exact cS (aaC (M:=bD Tryz.prog FT [(297,yA)]) bN s q297) rfl rfl rfl h
theorem aaY:∀(s:az) h,s≠[]->s.length<=18->s.all bT=true->yB [.str s] h=some ⟨.aw [.iV (aU 0 s),.eH],h,[]⟩:=fun s h h0 hl hd=>cS (aan ⟨bN,fun _ _=>rfl⟩ s h0 hl hd) rfl rfl rfl h
theorem aiP {t:Nat}{x y:aZ}{l:List bz}{pe:List AV}{lo:List (Nat×AV)}{hp:ab}{df wr:List Nat}{k:IntKind}{a b:Int}{Q:au->Prop}{m:Int}(hx:(St.mk pe lo hp df).ae x=some (.int k a))(hy:(St.mk pe lo hp df).ae y=some (.int k b))(hm:m=a/\b<=a\/m=b/\a<=b)
 (h:WO M l ⟨⟨pe,(t,.int k m)::lo,hp,df⟩,wr⟩ Q):WO M (⟨.l t,.mm true [x,y],none⟩::l) ⟨⟨pe,lo,hp,df⟩,wr⟩ Q:=by
 refine abA (v:=.int k m) ?_ rfl h;simp only[bF,St.db,hx,hy];have e:(if a<b then b else a)=m:=by split <;> omega
 simp[jH,e]
def dv (s:az):az:=(bR 47 (bW 45 s)).1
def ek (s:az):az:=(bR 47 (bW 45 s)).2.getD []
def iW (s:az):Bool:=(bR 47 (bW 45 s)).2.isSome
def jT (s:az):Bool:=eO (dv s) && !(preB 45 s && decide (dv s=[48])) && (!iW s || (eO (ek s) && decide (ek s≠[48]) && decide (ek s≠[49])))
def gJ (a b:Nat):Bool:=!(py a b == 1)
def eo (s:az):Int:=if jT s=false then 1 else if 600<(dv s).length\/600<(ek s).length then 4 else if iW s=true/\gJ (aU 0 (dv s)) (aU 0 (ek s))=true then 1 else 0
structure EN (M:ay)(N:Nat):Prop extends mO M N where
 Md:∀(s:az) h,s.length<1000000->M.ext 225 [.str s,.str [45]] h=some ⟨.aw [.str (bW 45 s),.bool (preB 45 s)],h,[]⟩
 EO:∀(s:az) h,s.length<1000000->M.ext 226 [.str s] h=some ⟨.bool (eO s),h,[]⟩
 tC:∀a b x y,aV a x->aV b y->ak x<wB^N->ak y<wB^N->∃v0,aV v0 (cZ x y:Nat)/\∀h,M.ext 229 [a,b] h=some ⟨v0,h,[]⟩
 tZ:∀t (e:Int) h,M.ext 228 [.bool t,.iV e] h=some ⟨.iV (if t then e else 0),h,[]⟩
 ua:∀v h l,dZ h v=some l->l.length<1000->M.ext 227 [v] h=some ⟨.iV (dM l),h,[]⟩
theorem ub {s:az}(h:eO s=true):s≠[]/\s.all bT=true:=by
 simp only[eO,bZ,decide_eq_true_eq]at h;exact h.1
theorem aaZ {s:az}(h:s.all bT=true):preB 45 s=false:=by
 rw[preB,decide_eq_false_iff_not];intro e;cases s with
 | nil=>simp at e
 | cons c t=>
  simp at e;subst e;simp[eL]at h;exact absurd h.1 ao
theorem mO.Me (C:mO M N)(s:az)(hl:s.length<=N)(h:s.all bT=true):∃v0,aV v0 (aU 0 s:Nat)/\∀h,M.ext 216 [.str s] h=some ⟨v0,h,[]⟩:=by
 have hp:=aaZ h;have hc:=kZ hp;obtain⟨v0,h0,q⟩:=C.EE s hl (by rw[hc];exact h);rw[hp,hc]at h0;exact⟨v0,h0,q⟩
theorem uc (b:UInt8)(s:az):(bR b s).1.length<=s.length:=by
 cases h:(bR b s).2 with
 | none=>rw[(nS h).1];exact be _
 | some y=>have:=tT h;omega
theorem EP (b:UInt8)(s:az):((bR b s).2.getD []).length<=s.length:=by
 cases h:(bR b s).2 with
 | none=>exact nk _
 | some y=>have:=tT h;simp;omega
def rB:al:=
 zR [zm 46 7,
          zu 47 46,
          ⟨(.l 48),.call (kF 228) [(.l 47),(kI 1)],none⟩,
          zm 49 4,
          zL 50 49,
          zm 51 5,
          zL 52 51,
          ⟨(.l 53),.mm true [(.l 50),(.l 52)],none⟩,
          zc 54 .gtr 53 600,
          ⟨(.l 55),.call (kF 228) [(.l 54),(kI 4)],none⟩,
          ⟨(.l 56),.dW 28 2 1 [.iV (0)] [(0,1,(.l 48)),(1,1,(.l 55))],none⟩,
          z1 57 227 56,
          zw 8 57]
        (
         zR [zm 58 8,
           zc 59 .neq 58 0,
           zn 60 59,
           zg (zm 61 6) 60 false,
           zg (zu 62 61) 60 false,
           zP 63 60 62]
         (
          .cond (.l 63)
          (
           zR [zm 64 8,
             zw 1 64]
           (.ret))
          (.skip)))
def rC:al:=
 zR [zm 65 4,
          z1 66 216 65,
          zm 67 5,
          z1 68 216 67,
          z2 69 229 66 68,
          ⟨(.p 9),.alloc 171 [.iV (0),.ah],none⟩,
          zs 2 9 69]
        (
         .seq (.draw [(zt 70 2 9,[]),
           (⟨(.l 71),.call (kF 196) [(kI 1)],none⟩,[0]),
           (z2 72 200 70 71,[]),
           (zc 73 .neq 72 0,[]),
           (⟨(.l 74),.call (kF 228) [(.l 73),(kI 1)],none⟩,[]),
           (zw 1 74,[])])
         (.ret))
def ET (res:List fO)(r:Int)(e:Ex)(s:au):Prop:=(e = .normal\/e = .ret)/\s.s.cI=[]/\∃vs,dK s.s res=some vs/\bk vs = .iV r/\(if (AV.iV r).top<=0 then [] else s.s.hp)=[]
theorem jG {res:List fO}{r r':Int}{e:Ex}{s:au}{vs:List AV}(he:e = .normal\/e = .ret)(hd:s.s.cI=[])(hv:dK s.s res=some vs)(ht:bk vs = .iV r')(hr:r'=r):ET res r e s:=by
 subst hr;exact⟨he,hd,vs,hv,ht,rfl⟩
theorem kp (C:EN M N)(hN:600<=N)(F B:Bool)(top bot:az)(hl:top.length<1000000/\bot.length<1000000)(hd:F=true->top.all bT=true/\(B=true->bot.all bT=true))(a0 a1 a2 a3 a8 a9:AV)(lo:List (Nat×AV))(wr:List Nat) :
 W M (.seq rB rC) ⟨⟨[a0,a1,a2,a3,.str top,.str bot,.bool B,.bool F,a8,a9],lo,[],[]⟩,wr⟩ (ET [.var (.p 1)] (if F=false then 1 else if 600<top.length\/600<bot.length then 4 else if B=true/\gJ (aU 0 top) (aU 0 bot)=true then 1 else 0)):=by
 have t1:∀h,M.ext 228 [.bool true,.iV 1] h=some ⟨.iV 1,h,[]⟩:=fun h=>C.tZ true 1 h
 have f1:∀h,M.ext 228 [.bool false,.iV 1] h=some ⟨.iV 0,h,[]⟩:=fun h=>C.tZ false 1 h
 have t4:∀h,M.ext 228 [.bool true,.iV 4] h=some ⟨.iV 4,h,[]⟩:=fun h=>C.tZ true 4 h
 have f4:∀h,M.ext 228 [.bool false,.iV 4] h=some ⟨.iV 0,h,[]⟩:=fun h=>C.tZ false 4 h
 have g14:∀v h,dZ h v=some [1,4]->M.ext 227 [v] h=some ⟨.iV 1,h,[]⟩:=fun v h e=>C.ua v h _ e ao
 have g10:∀v h,dZ h v=some [1,0]->M.ext 227 [v] h=some ⟨.iV 1,h,[]⟩:=fun v h e=>C.ua v h _ e ao
 have g04:∀v h,dZ h v=some [0,4]->M.ext 227 [v] h=some ⟨.iV 4,h,[]⟩:=fun v h e=>C.ua v h _ e ao
 have g00:∀v h,dZ h v=some [0,0]->M.ext 227 [v] h=some ⟨.iV 0,h,[]⟩:=fun v h e=>C.ua v h _ e ao
 obtain⟨m,hm⟩:∃m:Int,m=top.length/\(bot.length:Int)<=top.length\/m=bot.length/\(top.length:Int)<=bot.length:=by
  by_cases h:bot.length<=top.length
  . exact⟨_,.inl ⟨rfl,ac⟩⟩
  . exact⟨_,.inr ⟨rfl,ac⟩⟩
 cases F with
 | false=>
  rw[if_pos rfl];unfold rB rC;repeat' first|(apply aiP (m:=m);rfl;rfl;exact hm)|apply abx|apply aa|apply abr|apply aaL|apply acG|apply ba|(apply acO;rfl)|(apply aid;rfl)|(apply aeq;rfl;rfl)|(apply agx;rfl;rfl)|(apply aeB;rfl;rfl)|(apply adX;rfl;rfl;first|exact t1 _|exact f1 _|exact t4 _|exact f4 _)|(apply adX;rfl;rfl;first|exact g14 _ _ rfl|exact g10 _ _ rfl)|(apply aev;rfl;rfl;rfl)|(apply abA;rfl;rfl)|(apply abC;rfl;rfl)|(intro _;omega)|intro _
  all_goals try omega
  all_goals exact jG (.inr rfl) rfl rfl rfl rfl
 | true=>
  rw[if_neg ao];by_cases hb:600<top.length\/600<bot.length
  . rw[if_pos hb];unfold rB rC;repeat' first|(apply aiP (m:=m);rfl;rfl;exact hm)|apply abx|apply aa|apply abr|apply aaL|apply acG|apply ba|(apply acO;rfl)|(apply aid;rfl)|(apply aeq;rfl;rfl)|(apply agx;rfl;rfl)|(apply aeB;rfl;rfl)|(apply adX;rfl;rfl;first|exact t1 _|exact f1 _|exact t4 _|exact f4 _)|(apply adX;rfl;rfl;first|exact g04 _ _ rfl|exact g00 _ _ rfl)|(apply aev;rfl;rfl;rfl)|(apply abA;rfl;rfl)|(apply abC;rfl;rfl)|(intro _;omega)|intro _
    all_goals try omega
    all_goals exact jG (.inr rfl) rfl rfl rfl rfl
  . rw[if_neg hb];cases B with
    | false=>
     rw[if_neg ax];unfold rB rC;repeat' first|(apply aiP (m:=m);rfl;rfl;exact hm)|apply abx|apply aa|apply abr|apply aaL|apply acG|apply ba|(apply acO;rfl)|(apply ahQ;rfl)|(apply aeq;rfl;rfl)|(apply agx;rfl;rfl)|(apply aeC;rfl;rfl)|(apply adX;rfl;rfl;first|exact t1 _|exact f1 _|exact t4 _|exact f4 _)|(apply adX;rfl;rfl;first|exact g04 _ _ rfl|exact g00 _ _ rfl)|(apply aev;rfl;rfl;rfl)|(apply abA;rfl;rfl)|(apply abC;rfl;rfl)|(intro _;omega)|intro _
     all_goals try omega
     all_goals exact jG (.inr rfl) rfl rfl rfl rfl
    | true=>
     obtain⟨hta,hba⟩:=hd rfl;have hba:=hba rfl;obtain⟨va,ka,qa⟩:=C.Me top ac hta;obtain⟨vb,kb,qb⟩:=C.Me bot ac hba;have la:=pF (N:=N) hta ac;have lb:=pF (N:=N) hba ac;obtain⟨vg,kg,qg⟩:=C.tC va vb _ _ ka kb la lb;obtain⟨g,hg⟩:∃g,g=py (aU 0 top) (aU 0 bot):=⟨_,rfl⟩;have kg:aV vg (g:Int):=by rw[hg];exact kg
     have lg:ak (g:Int)<wB^N:=by
      rw[fC ac]at la lb ⊢;rw[hg];rcases i6 (aU 0 top) with h0|h0
      . rw[h0,Nat.gcd_zero_left];exact lb
      . have:=Nat.gcd_le_left (aU 0 bot) h0;omega
     have q196:=C.nL 1;have q200:=C.DY _ (.agg [.iV 1,.ah]) _ 1 kg (.small ao) lg (pF (s:=[49]) ao (by
                                                                                                                             have:([49]:az).length=1:=rfl;omega))
     obtain⟨sg,wg,rfl,og,_⟩:=kg.shape;by_cases h1:g=1
     . have hc:gJ (aU 0 top) (aU 0 bot)=false:=by rw[gJ,←hg,h1];rfl
       rw[if_neg (by rw[hc];simp)];subst h1;rw[show bE (((1:Nat):Int)-1)=0 by rfl]at q200;unfold rB rC;repeat' first|(apply aiP (m:=m);rfl;rfl;exact hm)|(apply adX;rfl;rfl;first|exact q196 _|exact q200 _|exact t1 _|exact f1 _)|(apply ahR;rfl;rfl;(first|(simp only[nca];rfl)|rfl);first|exact q196 _|exact q200 _|exact t1 _|exact f1 _)|(apply aia;rfl;rfl;rfl;exact⟨rfl,be _,by simp[fw,og]⟩;rfl)|apply abx|apply aa|apply abr|apply aaL|apply acG|apply adA|apply afU|apply agy|(apply ahl;rfl)|(apply ahb;rfl;rfl;(first|(simp only[nca];rfl)|rfl))|(apply acM;rfl)|(apply ahQ;rfl)|(apply aeq;rfl;rfl)|(apply agx;rfl;rfl)|(apply aeC;rfl;rfl)|(apply adX;rfl;rfl;first|exact t1 _|exact f1 _|exact t4 _|exact f4 _|exact qa _|exact qb _|exact qg _)|(apply adX;rfl;rfl;first|exact g04 _ _ rfl|exact g00 _ _ rfl)|(apply aev;rfl;rfl;rfl)|(apply aes;rfl;rfl;rfl)|(apply abA;rfl;rfl)|(apply abC;rfl;rfl)|(intro _;omega)|intro _
       all_goals try omega
       all_goals exact jG (.inr rfl) rfl rfl rfl rfl
     . have hc:gJ (aU 0 top) (aU 0 bot)=true:=by rw[gJ,←hg];simp[h1]
       rw[if_pos ⟨rfl,hc⟩];obtain⟨z,hz⟩:∃z,z=bE ((g:Int)-1):=⟨_,rfl⟩;have z0:z≠0:=by rw[hz];unfold bE;split <;> (first|omega|(split <;> omega))
       rw[←hz]at q200;unfold rB rC;repeat' first|(apply aiP (m:=m);rfl;rfl;exact hm)|(apply adX;rfl;rfl;first|exact q196 _|exact q200 _|exact t1 _|exact f1 _)|(apply ahR;rfl;rfl;(first|(simp only[nca];rfl)|rfl);first|exact q196 _|exact q200 _|exact t1 _|exact f1 _)|(apply aia;rfl;rfl;rfl;exact⟨rfl,be _,by simp[fw,og]⟩;rfl)|apply abx|apply aa|apply abr|apply aaL|apply acG|apply adA|apply afU|apply agy|(apply ahl;rfl)|(apply ahb;rfl;rfl;(first|(simp only[nca];rfl)|rfl))|(apply acM;rfl)|(apply ahQ;rfl)|(apply aeq;rfl;rfl)|(apply agx;rfl;rfl)|(apply aeC;rfl;rfl)|(apply adX;rfl;rfl;first|exact t1 _|exact f1 _|exact t4 _|exact f4 _|exact qa _|exact qb _|exact qg _)|(apply adX;rfl;rfl;first|exact g04 _ _ rfl|exact g00 _ _ rfl)|(apply aev;rfl;rfl;rfl)|(apply aes;rfl;rfl;rfl)|(apply abA;rfl;rfl)|(apply abC;rfl;rfl)|(intro _;omega)|intro _
       all_goals try omega
       all_goals exact jG (.inr rfl) rfl rfl rfl rfl
theorem aba (C:EN M N)(hN:600<=N)(s:az)(hl:s.length<1000000):bm M 172 [.str s] [] ⟨.iV (eo s),[],[]⟩:=by
 have hcl:=rA 45 s;have htl:(dv s).length<=s.length:=cC (uc 47 _) hcl;have hbl:(ek s).length<=s.length:=cC (EP 47 _) hcl;have q225:=fun h=>C.Md s h hl
 have q160:=fun h=>C.EC (bW 45 s) h ac
 have ecut:jC 47 (bW 45 s) = .aw [.str (dv s),.str (ek s),.bool (iW s)]:=rfl;rw[ecut]at q160;have q226a:=fun h=>C.EO (dv s) h ac
 have q226b:=fun h=>C.EO (ek s) h ac
 have hform:jT s=(eO (dv s) && !(preB 45 s && decide (dv s=[48])) && (!iW s || (eO (ek s) && decide (ek s≠[48]) && decide (ek s≠[49])))):=rfl;have hchk:eo s=if jT s=false then 1 else if 600<(dv s).length\/600<(ek s).length then 4 else if iW s=true/\gJ (aU 0 (dv s)) (aU 0 (ek s))=true then 1 else 0:=rfl
 have dA:=fun h=>(ub (s:=dv s) h).2
 have dC:=fun h=>(ub (s:=ek s) h).2
 rw[hchk];clear hchk ecut;refine bX (by rw[C.ft];exact aaA) ax ?_;generalize dv s=top at *
 generalize ek s=bot at *
 generalize jT s=F at *
 generalize iW s=B at *
 generalize preB 45 s=P at *
 have ll:top.length<1000000/\bot.length<1000000:=⟨ac,ac⟩;unfold Mb;simp only[enter];cases hA:eO top with
 | false=>
  rw[hA]at q226a hform;simp only[dz]at hform;subst hform;cases B;all_goals
  . repeat' first|(exact kp C hN _ _ top bot ll (fun h=>by cases h) _ _ _ _ _ _ _ _)|apply abx|apply aa|apply abr|apply aaL|apply adA|(apply acO;rfl)|(apply acM;rfl)|(apply ahU;rfl)|(apply aiK;rfl)|(apply aeC;rfl;rfl)|(apply adX;rfl;rfl;first|exact q225 _|exact q160 _|exact q226a _)|(apply abA;rfl;rfl)|(apply abC;rfl;rfl)
 | true=>
  rw[hA]at q226a hform;simp only[c5]at hform;have dA:=dA hA;by_cases hz:P=true/\top=[48]
  . obtain⟨rfl,hz⟩:=hz;rw[decide_eq_true hz]at hform;simp only[pi,j9,dz]at hform;subst hform;cases B;all_goals
    . repeat' first|(exact kp C hN _ _ top bot ll (fun h=>by cases h) _ _ _ _ _ _ _ _)|(apply ahV;rfl;rfl;all_goals first|(intro h;exact absurd hz h)|intro _)|apply abx|apply aa|apply abr|apply aaL|apply adA|(apply acO;rfl)|(apply acM;rfl)|(apply afg;rfl)|(apply ahU;rfl)|(apply aeB;rfl;rfl)|(apply aeC;rfl;rfl)|(apply adX;rfl;rfl;first|exact q225 _|exact q160 _|exact q226a _)|(apply abA;rfl;rfl)|(apply abC;rfl;rfl)
  . have hpz:(P && decide (top=[48]))=false:=by
     cases P with
     | false=>rfl
     | true=>rw[decide_eq_false (fun e=>hz ⟨rfl,e⟩)];rfl
    rw[hpz]at hform;simp only[n9,c5]at hform;cases B with
    | false=>
     simp only[n9,mp]at hform;subst hform;cases P with
     | false=>
      repeat' first|(exact kp C hN _ _ top bot ll (fun _=>⟨dA,fun h=>by cases h⟩) _ _ _ _ _ _ _ _)|apply abx|apply aa|apply abr|apply aaL|apply adA|(apply acM;rfl)|(apply afg;rfl)|(apply ahU;rfl)|(apply aeB;rfl;rfl)|(apply aeC;rfl;rfl)|(apply adX;rfl;rfl;first|exact q225 _|exact q160 _|exact q226a _)|(apply abA;rfl;rfl)|(apply abC;rfl;rfl)
     | true=>
      have hz:¬top=[48]:=fun e=>hz ⟨rfl,e⟩
      repeat' first|(exact kp C hN _ _ top bot ll (fun _=>⟨dA,fun h=>by cases h⟩) _ _ _ _ _ _ _ _)|(apply ahV;rfl;rfl;all_goals first|(intro h;exact absurd h hz)|intro _)|apply abx|apply aa|apply abr|apply aaL|apply adA|(apply acM;rfl)|(apply afg;rfl)|(apply aeB;rfl;rfl)|(apply adX;rfl;rfl;first|exact q225 _|exact q160 _|exact q226a _)|(apply abA;rfl;rfl)|(apply abC;rfl;rfl)
    | true=>
     simp only[j9,j8]at hform;cases hC:eO bot with
     | false=>
      rw[hC]at q226b hform;simp only[dz]at hform;subst hform;cases P with
      | false=>
       repeat' first|(exact kp C hN _ _ top bot ll (fun h=>by cases h) _ _ _ _ _ _ _ _)|apply abx|apply aa|apply abr|apply aaL|(apply acO;rfl)|(apply afg;rfl)|(apply ahU;rfl)|(apply aeB;rfl;rfl)|(apply aeC;rfl;rfl)|(apply adX;rfl;rfl;first|exact q225 _|exact q160 _|exact q226a _|exact q226b _)|(apply abA;rfl;rfl)|(apply abC;rfl;rfl)
      | true=>
       have hz:¬top=[48]:=fun e=>hz ⟨rfl,e⟩
       repeat' first|(exact kp C hN _ _ top bot ll (fun h=>by cases h) _ _ _ _ _ _ _ _)|(apply ahV;rfl;rfl;all_goals first|(intro h;exact absurd h hz)|intro _)|apply abx|apply aa|apply abr|apply aaL|(apply acO;rfl)|(apply afg;rfl)|(apply ahU;rfl)|(apply aeB;rfl;rfl)|(apply aeC;rfl;rfl)|(apply adX;rfl;rfl;first|exact q225 _|exact q160 _|exact q226a _|exact q226b _)|(apply abA;rfl;rfl)|(apply abC;rfl;rfl)
     | true=>
      rw[hC]at q226b hform;simp only[c5]at hform;have dC:=dC hC;by_cases h48:bot=[48]
      . rw[decide_eq_false (show ¬bot≠[48] from fun h=>h h48)]at hform;simp only[dz]at hform;subst hform;cases P with
        | false=>
         repeat' first|(exact kp C hN _ _ top bot ll (fun h=>by cases h) _ _ _ _ _ _ _ _)|(apply aih;rfl;rfl;all_goals first|(intro h;exact absurd h48 h)|intro _)|apply abx|apply aa|apply abr|apply aaL|(apply acO;rfl)|(apply afg;rfl)|(apply ahU;rfl)|(apply aeB;rfl;rfl)|(apply aeC;rfl;rfl)|(apply adX;rfl;rfl;first|exact q225 _|exact q160 _|exact q226a _|exact q226b _)|(apply abA;rfl;rfl)|(apply abC;rfl;rfl)
        | true=>
         have hz:¬top=[48]:=fun e=>hz ⟨rfl,e⟩
         repeat' first|(exact kp C hN _ _ top bot ll (fun h=>by cases h) _ _ _ _ _ _ _ _)|(apply ahV;rfl;rfl;all_goals first|(intro h;exact absurd h hz)|intro _)|(apply aih;rfl;rfl;all_goals first|(intro h;exact absurd h48 h)|intro _)|apply abx|apply aa|apply abr|apply aaL|(apply acO;rfl)|(apply afg;rfl)|(apply ahU;rfl)|(apply aeB;rfl;rfl)|(apply aeC;rfl;rfl)|(apply adX;rfl;rfl;first|exact q225 _|exact q160 _|exact q226a _|exact q226b _)|(apply abA;rfl;rfl)|(apply abC;rfl;rfl)
      . rw[decide_eq_true (show bot≠[48] from h48)]at hform;simp only[c5]at hform;by_cases h49:bot=[49]
        . rw[decide_eq_false (show ¬bot≠[49] from fun h=>h h49)]at hform;subst hform;cases P with
          | false=>
           repeat' first|(exact kp C hN _ _ top bot ll (fun h=>by cases h) _ _ _ _ _ _ _ _)|(apply aih;rfl;rfl;all_goals first|(intro h;exact absurd h h48)|(intro h;exact absurd h49 h)|intro _)|apply abx|apply aa|apply abr|apply aaL|(apply acO;rfl)|(apply afg;rfl)|(apply ahU;rfl)|(apply aeB;rfl;rfl)|(apply aeC;rfl;rfl)|(apply adX;rfl;rfl;first|exact q225 _|exact q160 _|exact q226a _|exact q226b _)|(apply abA;rfl;rfl)|(apply abC;rfl;rfl)
          | true=>
           have hz:¬top=[48]:=fun e=>hz ⟨rfl,e⟩
           repeat' first|(exact kp C hN _ _ top bot ll (fun h=>by cases h) _ _ _ _ _ _ _ _)|(apply ahV;rfl;rfl;all_goals first|(intro h;exact absurd h hz)|intro _)|(apply aih;rfl;rfl;all_goals first|(intro h;exact absurd h h48)|(intro h;exact absurd h49 h)|intro _)|apply abx|apply aa|apply abr|apply aaL|(apply acO;rfl)|(apply afg;rfl)|(apply aeB;rfl;rfl)|(apply adX;rfl;rfl;first|exact q225 _|exact q160 _|exact q226a _|exact q226b _)|(apply abA;rfl;rfl)|(apply abC;rfl;rfl)
        . rw[decide_eq_true (show bot≠[49] from h49)]at hform;subst hform;cases P with
          | false=>
           repeat' first|(exact kp C hN _ _ top bot ll (fun _=>⟨dA,fun _=>dC⟩) _ _ _ _ _ _ _ _)|(apply aih;rfl;rfl;all_goals first|(intro h;exact absurd h h48)|(intro h;exact absurd h h49)|intro _)|apply abx|apply aa|apply abr|apply aaL|(apply acO;rfl)|(apply afg;rfl)|(apply ahU;rfl)|(apply aeB;rfl;rfl)|(apply aeC;rfl;rfl)|(apply adX;rfl;rfl;first|exact q225 _|exact q160 _|exact q226a _|exact q226b _)|(apply abA;rfl;rfl)|(apply abC;rfl;rfl)
          | true=>
           have hz:¬top=[48]:=fun e=>hz ⟨rfl,e⟩
           repeat' first|(exact kp C hN _ _ top bot ll (fun _=>⟨dA,fun _=>dC⟩) _ _ _ _ _ _ _ _)|(apply ahV;rfl;rfl;all_goals first|(intro h;exact absurd h hz)|intro _)|(apply aih;rfl;rfl;all_goals first|(intro h;exact absurd h h48)|(intro h;exact absurd h h49)|intro _)|apply abx|apply aa|apply abr|apply aaL|(apply acO;rfl)|(apply afg;rfl)|(apply aeB;rfl;rfl)|(apply adX;rfl;rfl;first|exact q225 _|exact q160 _|exact q226a _|exact q226b _)|(apply abA;rfl;rfl)|(apply abC;rfl;rfl)
theorem Mf {h:ab}{b:Nat}{a c:AV}{e:TypeId}{cp:Option Nat}(ha:qO a=true)(hc:qO c=true)(hb:h.at b=some (.cells [a,c] e)):dL h (.sl b 0 2 1 cp) (.vs [a,c] 2 none):=
 .sl (m:=[a,c]) hb rfl rfl fun i x y hx hy=>by
  match i,hx,hy with
  | 0,hx,hy=>cases hx;cases hy;exact .atom ha
  | 1,hx,hy=>cases hx;cases hy;exact .atom hc
def Dq (k:Nat)(q:Rat):Prop:=ak q.num<10^k/\(q.den:Int)<10^k
theorem rD (k:Nat):(0:Int)<10^k:=j3 ao
theorem pG {m n:Nat}(h:m<=n):(10:Int)^m<=10^n:=iS ao h
theorem Dq.mono {m n:Nat}{q:Rat}(h:Dq m q)(hl:m<=n):Dq n q:=⟨du h.1 (pG hl),du h.2 (pG hl)⟩
theorem Mg {n d:Int}(h:0<d):∃c:Int,0<c/\n=c*(bA n d).num/\d=c*((bA n d).den:Int):=by
 obtain⟨k1,k2,h1,h2,h3,h4⟩:=xD (n:=n) h;refine⟨(cZ n d:Nat),?_,by rw[h3];exact h1,by rw[h4];exact h2⟩;have:=d9 n (show d≠0 by omega);omega
theorem abb {c x:Int}(hc:0<c):ak x<=ak (c*x):=by
 rw[xE,fC (fY hc)];have:=ce (show 1<=c by omega) (kl (x:=x));omega
theorem Dq.divInt {k:Nat}{n d:Int}(hd:0<d)(h1:ak n<10^k)(h2:d<10^k):Dq k (bA n d):=by
 obtain⟨c,hc,e1,e2⟩:=Mg (n:=n) hd;refine⟨gF ?_ h1,gF ?_ h2⟩
 . have:=abb (x:=(bA n d).num) hc;rw[←e1]at this;exact this
 . have h0:(0:Int)<=((bA n d).den:Int):=by omega
   have:=ce (show 1<=c by omega) h0;rw[←e2]at this;omega
theorem yC {x y:Int}{m n:Nat}(hx:ak x<10^m)(hy:ak y<10^n):ak (x*y)<10^(m+n):=by
 rw[xE,jg];have h1:=ci (fY hy) (kl (x:=x));have h2:=fo hx (rD n);omega
theorem abc {x y:Int}:ak (x+y)<=ak x+ak y:=by unfold ak;split <;> split <;> split <;> omega
theorem Dq.neg {m:Nat}{p:Rat}(hp:Dq m p):Dq m (-p):=by
 refine⟨?_,?_⟩
 . rw[m9,kj];exact hp.1
 . rw[Rat.neg_den];exact hp.2
def jh (p q:Rat):Int:=bE (p.num*q.den-q.num*p.den)
theorem abd {c x:Int}(h:0<c):bE (c*x)=bE x:=by
 unfold bE;by_cases h1:x<0
 . have:=Int.mul_neg_of_pos_of_neg h h1;rw[if_pos this,if_pos h1]
 . by_cases h2:0<x
   . have:=Int.mul_pos h h2;rw[if_neg ac,if_pos this,if_neg h1,if_pos h2]
   . have:x=0:=by omega
     subst this;rw[Int.mul_zero]
theorem abe {n d:Int}(h:0<d):bE (bA n d).num=bE n:=by
 obtain⟨c,hc,e1,_⟩:=Mg (n:=n) h;rw[←abd hc,←e1]
theorem abf (p q:Rat):p-q=bA (p.num*q.den-q.num*p.den) (p.den*q.den):=by
 rw[Rat.sub_eq_add_neg,Ec,m9,Rat.neg_den,m6,Int.sub_eq_add_neg]
theorem Mh (p:Rat):jh p 0=bE p.num:=by
 unfold jh;congr 1;show p.num*1-0*_=_;rw[j4,Int.zero_mul,Int.sub_zero]
theorem abg (p q:Rat):jh (p-q) 0=jh p q:=by
 rw[Mh,abf,abe (Int.mul_pos den_pos den_pos)];rfl
def EU (p:Rat):Rat:=bA (p.num/p.den) 1
theorem abh (p:Rat):(EU p).num=p.num/p.den/\(EU p).den=1:=mM
theorem Dq.floor {m:Nat}{p:Rat}(hp:Dq m p):Dq (m+1) (EU p):=by
 have dp:=den_pos (q:=p);refine .divInt ao ?_ ?_
 . have h1:=j2 p.num p.den;have h2:=gD p.num (show (p.den:Int)≠0 by omega);have h3:=de p.num dp;have e:(10:Int)^(m+1)=10^m*10:=dc _ _;have h4:=rD m;have hn:=hp.1;have hd:=hp.2;have key:ak (p.num/p.den)<=ak p.num+1:=by
    by_cases hs:0<=p.num
    . have a1:=nD hs (fY dp);have a2:=jt (b:=(p.den:Int)) hs;rw[fC a1,fC hs];omega
    . have a0:ak p.num = -p.num:=if_pos ac;have a1:p.num/p.den<0:=Int.ediv_neg_of_neg_of_pos ac dp;have a2:ak (p.num/p.den) = -(p.num/p.den):=if_pos a1;rw[a0,a2];have hm:=Int.mul_le_mul_of_nonpos_left (show p.num<=0 by omega) (show (1:Int)<=p.den by omega);rw[j4]at hm;have:p.num<=p.num/p.den:=Int.le_ediv_of_mul_le dp hm;omega
   omega
 . have:=rD m;have e:(10:Int)^(m+1)=10^m*10:=dc _ _;omega
theorem yD {z:Int}{k:Nat}(hk:0<k)(h:ak z<10^k):(bw (ak z).toNat).length<=k:=by
 refine yh ?_ hk;have h0:=kl (x:=z);have e:((10^k:Nat):Int)=(10:Int)^k:=Int.natCast_pow _ _;rw[←e]at h;omega
theorem Mi {z:Int}{k:Nat}(hk:0<k)(h:ak z<10^k):(cY z).length<=k+1:=by
 have:=yD hk h;by_cases hz:z<0
 . rw[pD hz,cD];omega
 . rw[nO hz];omega
theorem Mj {q:Rat}{k:Nat}(hk:0<k)(h:Dq k q):(bw q.den).length<=k:=by
 have:=yD (z:=(q.den:Int)) hk (by rw[fC ac];exact h.2);rw[fC ac]at this;exact this
theorem Dq.lq {q:Rat}{k N:Nat}(hk:0<k)(h:Dq k q)(hN:k+1<=N):Lq N q:=
 ⟨cC (Mi hk h.1) hN,cC (Mj hk h) ac⟩
theorem Ml (n:Nat):eO (bw n)=true:=by
 obtain⟨h1,h2,h3⟩:=Zq n;unfold eO;rw[decide_eq_true h1,h2,c5];cases hd:bw n with
 | nil=>exact absurd hd h1
 | cons b t=>
  rw[hd]at h3;by_cases hb:b=48
  . subst hb;have ht:=h3 rfl;have:t=[]:=d7 (by simpa using ht);subst this;rfl
  . have e:(b::t)[0]! = b:=rfl;rw[e,decide_eq_true (show b≠48 from hb)];rfl
theorem pH (q:Rat):preB 45 (aT q)=decide (q.num<0)/\bW 45 (aT q)=(if q.den=1 then bw (ak q.num).toNat else bw (ak q.num).toNat++47::bw q.den):=by
 by_cases hn:q.num<0
 . rw[decide_eq_true hn];unfold aT;split
   . rw[pD hn];exact⟨rfl,rfl⟩
   . rw[pD hn];exact⟨rfl,rfl⟩
 . rw[decide_eq_false hn];unfold aT;rw[nO hn];have hp:=LY (ak q.num).toNat (c:=45) ao;split
   . exact⟨hp,kZ hp⟩
   . have hp2:preB 45 (bw (ak q.num).toNat++47::bw q.den)=false:=by
      cases hd:bw (ak q.num).toNat with
      | nil=>exact absurd hd (ry _)
      | cons b t=>rw[hd]at hp;exact hp
     exact⟨hp2,kZ hp2⟩
theorem Mm (q:Rat):dv (aT q)=bw (ak q.num).toNat/\ek (aT q)=(if q.den=1 then [] else bw q.den)/\iW (aT q)=decide (q.den≠1):=by
 have hn:=LX (ko (ak q.num).toNat) (c:=47) ao;unfold dv ek iW;rw[(pH q).2];by_cases h:q.den=1
 . rw[if_pos h,if_pos h,tX hn,decide_eq_false (by simpa using h)];exact⟨rfl,rfl,rfl⟩
 . rw[if_neg h,if_neg h,tY hn,decide_eq_true h];exact⟨rfl,rfl,rfl⟩
theorem Mn (z:Int):(ak z).toNat=z.natAbs:=by unfold ak;split <;> omega
theorem yE {q:Rat}{k:Nat}(hk:0<k)(h6:k<=600)(h:Dq k q):eo (aT q)=0:=by
 obtain⟨e1,e2,e3⟩:=Mm q;have l1:=yD hk h.1;have l2:=Mj hk h;have hpre:=(pH q).1;have hz:(preB 45 (aT q) && decide (bw (ak q.num).toNat=[48]))=false:=by
  rw[hpre];by_cases hn:q.num<0
  . rw[decide_eq_true hn,c5,decide_eq_false_iff_not];intro e;have:=jv (ak q.num).toNat;rw[e]at this;have h2:ak q.num = -q.num:=if_pos hn;simp[aU]at this;omega
  . rw[decide_eq_false hn,dz]
 have dp:=q.den_pos;have hform:jT (aT q)=true:=by
  unfold jT;rw[e1,e2,e3,Ml,hz];by_cases hd:q.den=1
  . rw[decide_eq_false (by simpa using hd)];rfl
  . rw[decide_eq_true hd,if_neg hd,Ml];have n0:bw q.den≠[48]:=fun e=>by
     have:=jv q.den;rw[e]at this;simp[aU]at this;omega
    have n1:bw q.den≠[49]:=fun e=>by
     have:=jv q.den;rw[e]at this;simp[aU]at this;omega
    rw[decide_eq_true n0,decide_eq_true n1];rfl
 unfold eo;rw[hform,if_neg ao,e1,e2,e3];by_cases hd:q.den=1
 . rw[if_pos hd,if_neg (by simp;omega),if_neg (by simp[hd])]
 . rw[if_neg hd,if_neg ac,jv,jv,if_neg];rintro⟨_,h2⟩;rw[Mn]at h2;have:=q.reduced;unfold Nat.Coprime at this;rw[gJ,this]at h2;exact absurd h2 ao
theorem Mo {s:az}(h:eO s=true):Et s:=by
 obtain⟨h1,h2⟩:=ub h;refine⟨h1,h2,fun h3=>?_⟩;simp only[eO,bZ,Bool.or_eq_true,decide_eq_true_eq]at h;cases s with
 | nil=>exact absurd rfl h1
 | cons b t=>
  simp at h3;subst h3;rcases h.2 with h4|h4
  . exact absurd rfl h4
  . rw[h4];rfl
theorem Mp {s:az}{k:Nat}(h:s.all bT=true)(hl:s.length<=k):((aU 0 s:Nat):Int)<10^k:=by
 have h1:=nN s h;have h2:(aU 0 s:Int)<(10:Int)^s.length:=by exact_mod_cast h1
 exact du h2 (pG hl)
theorem EV {s:az}{k:Nat}(h:eo s=0)(hl:s.length<=k):∃q,s=aT q/\Dq k q:=by
 have hform:jT s=true:=by
  cases hf:jT s with
  | true=>rfl
  | false=>unfold eo at h;rw[hf,if_pos rfl]at h;exact absurd h ao
 have hcop:¬(iW s=true/\gJ (aU 0 (dv s)) (aU 0 (ek s))=true):=fun hc=>by
  unfold eo at h;rw[hform,if_neg ao]at h;split at h
  . exact absurd h ao
  . exact absurd h ao
 unfold jT at hform;rw[bZ,bZ]at hform;obtain⟨⟨f1,f2⟩,f3⟩:=hform;have hcl:=rA 45 s;have htl:(dv s).length<=k:=cC (cC (uc 47 _) hcl) hl;have hbl:(ek s).length<=k:=cC (cC (EP 47 _) hcl) hl;have hT:=Mo f1;have eT:=Le hT;have hs:s=if preB 45 s=true then 45::bW 45 s else bW 45 s:=by
  cases hp:preB 45 s with
  | false=>rw[if_neg ao,kZ hp]
  | true=>
   rw[if_pos rfl];have hh:=of_decide_eq_true hp;unfold bW;rw[if_pos hh];cases s with
   | nil=>simp at hh
   | cons c t=>simp at hh;rw[hh];rfl
 obtain⟨z,hz⟩:∃z:Int,z=if preB 45 s=true then -(aU 0 (dv s):Int) else (aU 0 (dv s):Nat):=⟨_,rfl⟩
 have hza:ak z=(aU 0 (dv s):Nat):=by
  rw[hz];unfold ak;cases preB 45 s with
  | false=>simp only[i8,↓reduceIte];exact if_neg ac
  | true=>simp only[↓reduceIte];split <;> omega
 have hzn:preB 45 s=decide (z<0):=by
  cases hp:preB 45 s with
  | false=>
   rw[hp,if_neg ao]at hz;exact(decide_eq_false ac).symm
  | true=>
   rw[hp,if_pos rfl]at hz;rw[hp]at f2;have n0:aU 0 (dv s)≠0:=fun e=>by
    rw[e,kn ao]at eT;rw[←eT]at f2;exact absurd f2 ao
   rw[decide_eq_true ac]
 have hzt:cY z=if preB 45 s=true then 45::dv s else dv s:=by
  rw[hzn];by_cases hn:z<0
  . rw[pD hn,hza,decide_eq_true hn,if_pos rfl];show 45::bw (aU 0 (dv s))=_;rw[eT]
  . rw[nO hn,hza,decide_eq_false hn,if_neg ao];exact eT
 have hzb:ak z<10^k:=by rw[hza];exact Mp hT.2.1 htl
 have k1:(1:Int)<10^k:=by
  have h0:0<(dv s).length:=gc.2 hT.1;have:=pG (show 1<=k by omega);rw[Int.pow_one]at this;omega
 cases hb:iW s with
 | false=>
  have hn:(bR 47 (bW 45 s)).2=none:=by
   unfold iW at hb;cases h:(bR 47 (bW 45 s)).2 with
   | none=>rfl
   | some y=>rw[h]at hb;cases hb
  have e:dv s=bW 45 s:=(nS hn).1;refine⟨bA z 1,?_,?_⟩
  . unfold aT;rw[mM.1,mM.2,if_pos rfl,hzt,e];exact hs
  . exact⟨by rw[mM.1];exact hzb,by rw[mM.2];exact k1⟩
 | true=>
  rw[hb]at f3 hcop;simp only[j9,j8,bZ,decide_eq_true_eq]at f3;have hB:=Mo f3.1.1;have eB:=Le hB;have hd2:aU 0 (ek s)≠0/\aU 0 (ek s)≠1:=by
   refine⟨fun e=>?_,fun e=>?_⟩
   . rw[e,kn ao]at eB;exact f3.1.2 eB.symm
   . rw[e,kn ao]at eB;exact f3.2 eB.symm
  have hco:z.natAbs.Coprime (aU 0 (ek s)):=by
   have h2:gJ (aU 0 (dv s)) (aU 0 (ek s))=false:=by
    cases hc:gJ (aU 0 (dv s)) (aU 0 (ek s)) with
    | false=>rfl
    | true=>exact absurd ⟨rfl,hc⟩ hcop
   have:z.natAbs=aU 0 (dv s):=by rw[←Mn,hza];rfl
   rw[this];simpa[gJ] using h2
  refine⟨⟨z,aU 0 (ek s),hd2.1,hco⟩,?_,hzb,Mp hB.2.1 hbl⟩;unfold iW at hb;obtain⟨y,hy⟩:=Option.isSome_iff_exists.1 hb;have e:=(rz hy).1;have eb:ek s=y:=by unfold ek;rw[hy];rfl
  have et:(bR 47 (bW 45 s)).1=dv s:=rfl;rw[et,←eb]at e;unfold aT;rw[if_neg hd2.2,hzt];show s=_++47::bw (aU 0 (ek s));rw[eB];cases hp:preB 45 s with
  | false=>rw[hp,if_neg ao,e]at hs;rw[if_neg ao];exact hs
  | true=>rw[hp,if_pos rfl,e]at hs;rw[if_pos rfl];exact hs
theorem abi:aT 0=[48]:=by
 show (if (1:Nat)=1 then cY 0 else _)=_;rw[if_pos rfl,nO ao];exact kn ao
theorem abj {q:Rat}(h:aT q=[48]):q=0:=by
 obtain⟨e1,e2,e3⟩:=Mm q;rw[h]at e1 e3;have a1:dv [48]=[48]:=rfl;have a3:iW [48]=false:=rfl;rw[a1]at e1;have:=jv (ak q.num).toNat;rw[←e1]at this;simp[aU]at this;have h0:=kl (x:=q.num);refine Rat.num_eq_zero.1 ?_;unfold ak at this h0;split at this <;> omega
theorem Dq.bq {k N:Nat}{q:Rat}(h:Dq k q)(hN:k<=N):Bq N q:=by
 have e:(10:Int)^k<=wB^N:=gT (pG hN) (by
  clear hN;induction N with
  | zero=>decide
  | succ n ih=>
   rw[dc,dc];have h0:(0:Int)<=10^n:=fY (rD n);have h1:(0:Int)<=wB^n:=gT h0 ih;exact gT (ce ih ao) (ci ao h1))
 exact⟨du h.1 e,du h.2 e⟩
noncomputable def yF:Spec:=sK TF 284
theorem abk:bl Tryz.prog gl 284 yF:=bQ yd
theorem abl {A:Int}(hA:ak A<=10)(i:Nat):ak (A^i)<=10^i:=by
 induction i with
 | zero=>
  rw[le,le];decide
 | succ n ih=>
  rw[dc,dc,xE];exact gT (ce ih kl) (ci hA (fY (rD n)))
theorem abm:∀v A (K:Nat),aV v A->K<=18->ak A<=10->∃v0,aV v0 (A^K)/\∀h,yF [v,.iV K] h=some ⟨v0,h,[]⟩:=fun v A K hv hK hA=>by
 obtain⟨v0,h1,h2⟩:=XU (eF.c (N:=1) ao ao) hv (K:=K) ac fun i hi=>by
  have wP:(10:Int)^i<=10^18:=pG ac;have hw:(10:Int)^18<wB^1:=by decide
  exact gF (gT (abl hA i) wP) hw
 exact⟨v0,h1,eE h2 (gq hv.top rfl)⟩
noncomputable def yG:List (Nat×Spec):=(283,yr)::(218,yu)::(212,yB)::(284,yF)::TF
theorem Mq:cW Tryz.prog gl (bM yG):=aX aaD (aX aaF (aX aaU (aX abk yd)))
structure yH (T:List (Nat×Spec)):Prop extends EF T where
 abn:∀ar h,bM T 283 ar h=yr ar h
 abo:∀ar h,bM T 218 ar h=yu ar h
 abp:∀ar h,bM T 212 ar h=yB ar h
 abq:∀ar h,bM T 284 ar h=yF ar h
theorem yH.c (E:yH T){N:Nat}(h1:1<=N)(hN:N<=500000):yn (bD Tryz.prog FT T) N:={ E.toEF.c h1 hN with
 LR:=fun s h hl=>(E.abn _ _).trans (aaI s 45 h hl)
 LS:=fun s h hl=>(E.abo _ _).trans (aaJ s 45 h hl)
 LU:=fun s h h0 hl hd=>(E.abp _ _).trans (aaY s h h0 hl hd)
 LV:=fun v A K hv hK _ hA=>by
  obtain⟨v0,k1,k2⟩:=abm v A K hv hK hA;exact⟨v0,k1,fun h=>(E.abq _ _).trans (k2 h)⟩ }
theorem eRd:yH yG:=by repeat' first|exact fun _ _=>rfl|constructor
noncomputable def yI:Spec:=sK yG 216
theorem abt:bl Tryz.prog gl 216 yI:=bQ Mq
theorem abu {N:Nat}(h1:1<=N)(hN:N<=500000):∀(s:az),s.length<=N->(bW 45 s).all bT=true->∃v0,aV v0 (if preB 45 s then -(aU 0 (bW 45 s):Int) else (aU 0 (bW 45 s):Nat))/\∀h,yI [.str s] h=some ⟨v0,h,[]⟩:=fun s hl hd=>by
 obtain⟨v0,k1,k2⟩:=aav (eRd.c h1 hN) s hl hd;exact⟨v0,k1,eE k2 rfl⟩
noncomputable def yJ:List (Nat×Spec):=(160,yx)::(216,yI)::yG
theorem Mr:cW Tryz.prog gl (bM yJ):=aX aaM (aX abt Mq)
structure yK (T:List (Nat×Spec)):Prop extends yH T where
 abv:∀ar h,bM T 160 ar h=yx ar h
 abw:∀ar h,bM T 216 ar h=yI ar h
theorem yK.c (E:yK T){N:Nat}(h1:1<=N)(hN:N<=500000):mO (bD Tryz.prog FT T) N:={ E.toyH.c h1 hN with
 EC:=fun s h hl=>(E.abv _ _).trans (aaN s 47 h hl)
 EE:=by simp only[E.abw];exact abu h1 hN }
theorem eFm:yK yJ:=by repeat' first|exact fun _ _=>rfl|constructor
noncomputable def EW:Spec:=sK yJ 165
theorem aby:bl Tryz.prog gl 165 EW:=bQ Mr
theorem Ms {N:Nat}(h1:1<=N)(hN:N<=400000):∀q,Lq N q->∃v0,dV v0 q/\∀h,EW [.str (aT q)] h=some ⟨v0,h,[]⟩:=fun q lq=>by
 obtain⟨v0,k1,k2⟩:=aaz (eFm.c h1 ac) hN lq;exact⟨v0,k1,eE k2 rfl⟩
noncomputable def yL:List (Nat×Spec):=(225,EH)::(226,EM)::(229,tI)::(228,jq)::(227,iw)::yJ
theorem abz:cW Tryz.prog gl (bM yL):=aX aaH (aX aaT (aX KU (aX Js (aX Ju Mr))))
theorem eCk:yK yL:=by repeat' first|exact fun _ _=>rfl|constructor
theorem abB {v:AV}{h:ab}{l:List Int}(hl:dZ h v=some l)(hn:l.length<1000):iw [v] h=some ⟨.iV (dM l),h,[]⟩:=by
 simp only[iw,hl];rw[if_pos ac]
theorem cCk:EN (bD Tryz.prog FT yL) 600:={ eCk.c ao ao with
  Md:=fun s h hl=>aaK s 45 h hl
  EO:=fun s h hl=>aaX s h hl
  tC:=fun a b x y ha hb hx hy=>KV ao ao a b x y ha hb hx hy
  tZ:=fun _ _ _=>rfl
  ua:=fun v h l hl hn=>abB hl hn }
noncomputable def EX:Spec:=sK yL 172
theorem abD:bl Tryz.prog gl 172 EX:=bQ abz
theorem Mt:∀(s:az) h,s.length<1000000->EX [.str s] h=some ⟨.iV (eo s),h,[]⟩:=fun s h hl=>cS (aba cCk (be _) s hl) rfl rfl rfl h
def Mu:al:=zR [zi 1 0] (zR [zm 8 0,zw 2 8] (.seq (zR [zm 9 2,zL 10 9,zc 11 .gtr 10 0,zn 12 11,zg (zm 13 2) 12 true,⟨.l 14,.index (.l 13) (kI 0),some ((.l 12),true)⟩,⟨.l 15,.bin .eql (.l 14) (.c (.int .u8 (45))),some ((.l 12),true)⟩,zp 16 12 15] (.cond (.l 16) (.region [zm 17 2,⟨.l 18,.slice .str 1 (.l 17) (some (kI 1)) none none,none⟩,zw 2 18]) (.skip))) (zR [zm 19 2,z1 20 152 19,zw 3 20] (.seq (zR [zm 21 2,zm 22 3,⟨.l 23,.slice .str 1 (.l 21) none (some (.l 22)) none,none⟩,z1 24 169 23,zu 25 24,zn 26 25,zg (zm 27 0) 26 false,⟨.l 28,.index (.l 27) (kI 0),some ((.l 26),false)⟩,⟨.l 29,.bin .eql (.l 28) (.c (.int .u8 (45))),some ((.l 26),false)⟩,zg (zn 30 29) 26 false,zg (zm 31 2) 30 true,zg (zm 32 3) 30 true,⟨.l 33,.slice .str 1 (.l 31) none (some (.l 32)) none,some ((.l 30),true)⟩,⟨.l 34,.bin .eql (.l 33) (.c (.str [48])),some ((.l 30),true)⟩,zg (zp 35 30 34) 26 false,zP 36 26 35] (.cond (.l 36) (zR [zi 1 1] (.ret)) (.skip))) (.seq (zR [zm 37 3,zm 38 2,zL 39 38,zb 40 .lss 37 39,zn 41 40,zg (zm 42 2) 41 true,zg (zm 43 3) 41 true,zg (zc 44 .add 43 1) 41 true,⟨.l 45,.slice .str 1 (.l 42) (some (.l 44)) none none,some ((.l 41),true)⟩,zg (z1 46 169 45) 41 true,zg (zu 47 46) 41 true,zg (zn 48 47) 41 true,zg (zm 49 2) 48 false,zg (zm 50 3) 48 false,zg (zc 51 .add 50 1) 48 false,⟨.l 52,.slice .str 1 (.l 49) (some (.l 51)) none none,some ((.l 48),false)⟩,⟨.l 53,.bin .eql (.l 52) (.c (.str [48])),some ((.l 48),false)⟩,zg (zP 54 48 53) 41 true,zg (zn 55 54) 41 true,zg (zm 56 2) 55 false,zg (zm 57 3) 55 false,zg (zc 58 .add 57 1) 55 false,⟨.l 59,.slice .str 1 (.l 56) (some (.l 58)) none none,some ((.l 55),false)⟩,⟨.l 60,.bin .eql (.l 59) (.c (.str [49])),some ((.l 55),false)⟩,zg (zP 61 55 60) 41 true,zp 62 41 61] (.cond (.l 62) (zR [zi 1 1] (.ret)) (.skip))) (.seq (zR [zm 63 3,zc 64 .gtr 63 600,zn 65 64,zg (zm 66 2) 65 false,zg (zL 67 66) 65 false,zg (zm 68 3) 65 false,zg (zb 69 .sub 67 68) 65 false,zg (zc 70 .sub 69 1) 65 false,zg (zc 71 .gtr 70 600) 65 false,zP 72 65 71] (.cond (.l 72) (zR [zi 1 4] (.ret)) (.skip))) (.seq (zR [zm 73 3,zm 74 2,zL 75 74,zb 76 .lss 73 75] (.cond (.l 76) (zR [zm 78 2,z1 79 170 78,zn 77 79,ze 80 0 77,ze 81 1 77,⟨.p 4,.alloc 200 [.bool false,.ah],none⟩,⟨.p 5,.alloc 200 [.bool false,.ah],none⟩,zs 2 4 80,zs 2 5 81] (zR [zf 82 1 4,zd 83 1 82,zf 84 1 5,zd 85 1 84,z2 86 171 83 85,zw 6 86] (zR [zm 87 6,zl 88 87,zc 89 .neq 88 1,zn 90 89,zg (zm 91 6) 90 false,⟨.l 92,.dE none 1 (.l 91) (kI 0),some ((.l 90),false)⟩,zg (zd 93 1 92) 90 false,zg (zc 94 .neq 93 1) 90 false,zP 95 90 94] (.cond (.l 95) (zR [zi 1 1] (.ret)) (.skip))))) (.skip))) (zR [zi 1 0] (.ret)))))))))
theorem abE:FT 104=some ⟨96,[0,2,3,4,5,6,7],[.var (.p 1)],Mu⟩:=by kernel_rfl
def ud:al:=.seq (zR [zm 4 2,zm 5 0,zL 6 5,zb 7 .lss 4 6] (.cond (.l 7) (.skip) (.exit 0))) (.seq (.block 1 (zR [zm 10 0,zm 11 2,⟨.l 12,.index (.l 10) (.l 11),none⟩,⟨.l 13,.bin .eql (.l 12) (.c (.int .u8 (47))),none⟩] (.cond (.l 13) (zR [zm 14 2,zw 1 14] (.ret)) (.skip)))) (.region [zm 8 2,zc 9 .add 8 1,zw 2 9]))
def Mv:al:=zR [zi 1 0] (.seq (zR [zi 2 0] (.block 0 (.loop ud))) (zR [zm 15 0,zL 16 15,zw 1 16] (.ret)))
theorem abF:FT 152=some ⟨17,[0,2,3],[.var (.p 1)],Mv⟩:=by kernel_rfl
def ue:al:=zR [⟨.p 1,.mv (.c (.bool false)),none⟩] (.seq (zR [zm 3 0,zL 4 3,zc 5 .eql 4 0,zn 6 5,zg (zm 7 0) 6 false,zg (zL 8 7) 6 false,zg (zc 9 .gtr 8 1) 6 false,zg (zn 10 9) 6 false,zg (zm 11 0) 10 true,⟨.l 12,.index (.l 11) (kI 0),some ((.l 10),true)⟩,⟨.l 13,.bin .eql (.l 12) (.c (.int .u8 (48))),some ((.l 10),true)⟩,zg (zp 14 10 13) 6 false,zP 15 6 14] (.cond (.l 15) (zR [⟨.p 1,.mv (.c (.bool false)),none⟩] (.ret)) (.skip))) (zR [zm 16 0,z1 17 223 16,zw 1 17] (.ret)))
theorem abG:FT 169=some ⟨18,[0,2],[.var (.p 1)],ue⟩:=by kernel_rfl
def uf:al:=.seq (zR [zm 4 2,zm 5 0,zL 6 5,zb 7 .lss 4 6] (.cond (.l 7) (.skip) (.exit 0))) (.seq (.block 1 (zR [zm 10 0,zm 11 2,⟨.l 12,.index (.l 10) (.l 11),none⟩,⟨.l 13,.bin .lss (.l 12) (.c (.int .u8 (48))),none⟩,zn 14 13,zg (zm 15 0) 14 false,zg (zm 16 2) 14 false,⟨.l 17,.index (.l 15) (.l 16),some ((.l 14),false)⟩,⟨.l 18,.bin .gtr (.l 17) (.c (.int .u8 (57))),some ((.l 14),false)⟩,zP 19 14 18] (.cond (.l 19) (zR [⟨.p 1,.mv (.c (.bool false)),none⟩] (.ret)) (.skip)))) (.region [zm 8 2,zc 9 .add 8 1,zw 2 9]))
def Mw:al:=zR [⟨.p 1,.mv (.c (.bool false)),none⟩] (.seq (zR [zi 2 0] (.block 0 (.loop uf))) (zR [⟨.p 1,.mv (.c (.bool true)),none⟩] (.ret)))
theorem abH:FT 223=some ⟨20,[0,2,3],[.var (.p 1)],Mw⟩:=by kernel_rfl
def EY:al:=zR [⟨.p 1,.alloc 200 [.bool false,.ah],none⟩,⟨.p 2,.alloc 200 [.bool false,.ah],none⟩] (zR [zm 6 0,zw 3 6] (zR [zm 7 3,z1 8 152 7,zw 4 8] (.seq (zR [zm 9 4,zm 10 3,zL 11 10,zb 12 .eql 9 11] (.cond (.l 12) (zR [zm 13 3,z1 14 178 13,⟨.l 15,.call (kF 130) [(kI 1)],none⟩,zs 2 1 14,zs 2 2 15] (.ret)) (.skip))) (.seq (.draw [(zm 16 3,[]),(zm 17 4,[0]),(⟨.l 18,.slice .str 1 (.l 16) none (some (.l 17)) none,none⟩,[]),(z1 19 178 18,[]),(zm 20 3,[0,1,2,3]),(zm 21 4,[0,1,2,3,4]),(zc 22 .add 21 1,[0,1,2,3,4]),(⟨.l 23,.slice .str 1 (.l 20) (some (.l 22)) none none,none⟩,[0,1,2,3]),(z1 24 178 23,[]),(zs 2 1 19,[]),(zs 2 2 24,[])]) (.ret)))))
theorem Mx:FT 170=some ⟨25,[0,2,3,4,5],[.cell 2 true (.p 1),.cell 2 true (.p 2)],EY⟩:=by kernel_rfl
def ug:al:=.seq (zR [zm 16 0,zL 17 16,zc 18 .gtr 17 9] (.cond (.l 18) (.skip) (.exit 0))) (.block 1 (zR [zm 19 3,zm 20 0,zm 21 0,zL 22 21,zc 23 .sub 22 9,⟨.l 24,.slice .str 1 (.l 20) (some (.l 23)) none none,none⟩,z1 25 232 24,⟨.l 26,.dW 3 1 1 [.iV (0)] [(0,1,(.l 25))],none⟩,⟨.l 27,.append 3 1 8 (.l 19) (.l 26),none⟩,zw 3 27] (.region [zm 28 0,zm 29 0,zL 30 29,zc 31 .sub 30 9,⟨.l 32,.slice .str 1 (.l 28) none (some (.l 31)) none,none⟩,zw 0 32])))
def My:al:=zR [⟨.p 1,.alloc 200 [.bool false,.ah],none⟩] (zR [zm 5 0,zL 6 5,zc 7 .gtr 6 0,zn 8 7,zg (zm 9 0) 8 true,⟨.l 10,.index (.l 9) (kI 0),some ((.l 8),true)⟩,⟨.l 11,.bin .eql (.l 10) (.c (.int .u8 (45))),some ((.l 8),true)⟩,zp 12 8 11,zw 2 12] (.seq (zR [zm 13 2] (.cond (.l 13) (.region [zm 14 0,⟨.l 15,.slice .str 1 (.l 14) (some (kI 1)) none none,none⟩,zw 0 15]) (.skip))) (zR [⟨.p 3,.mv (.c (.ah)),none⟩] (.seq (.block 0 (.loop ug)) (zR [zm 33 2,zm 34 3,zm 35 0,z1 36 232 35,⟨.l 37,.dW 3 1 1 [.iV (0)] [(0,1,(.l 36))],none⟩,⟨.l 38,.append 3 1 8 (.l 34) (.l 37),none⟩,z2 39 183 33 38,zs 2 1 39] (.ret))))))
theorem abI:FT 178=some ⟨40,[0,2,3,4],[.cell 2 true (.p 1)],My⟩:=by kernel_rfl
def yM:al:=.seq (zR [zm 5 3,zm 6 0,zL 7 6,zb 8 .lss 5 7] (.cond (.l 8) (.skip) (.exit 0))) (.seq (.block 1 (.region [zm 11 2,⟨.l 12,.bin .mul (kI 10) (.l 11),none⟩,zm 13 0,zm 14 3,⟨.l 15,.index (.l 13) (.l 14),none⟩,⟨.l 16,.gW .i64 (.l 15),none⟩,zb 17 .add 12 16,zc 18 .sub 17 48,zw 2 18])) (.region [zm 9 3,zc 10 .add 9 1,zw 3 10]))
def Mz:al:=zR [zi 1 0] (zR [zi 2 0] (.seq (zR [zi 3 0] (.block 0 (.loop yM))) (zR [zm 19 2,zw 1 19] (.ret))))
theorem abJ:FT 232=some ⟨20,[0,2,3,4],[.var (.p 1)],Mz⟩:=by kernel_rfl
def rE:al:=.seq (zR [zm 8 0,zc 9 .neq 8 0] (.cond (.l 9) (.skip) (.exit 0))) (.block 1 (zR [zm 10 0,zc 11 .rem 10 1000000000,zw 4 11] (.seq (zR [zm 12 4,zc 13 .lss 12 0] (.cond (.l 13) (.region [zm 14 4,⟨.l 15,.bin .sub (kI 0) (.l 14),none⟩,zw 4 15]) (.skip))) (zR [zm 16 2,zm 17 4,⟨.l 18,.dW 3 1 1 [.iV (0)] [(0,1,(.l 17))],none⟩,⟨.l 19,.append 3 1 8 (.l 16) (.l 18),none⟩,zw 2 19] (.region [zm 20 0,zc 21 .quo 20 1000000000,zw 0 21])))))
def EZ:al:=zR [⟨.p 1,.alloc 200 [.bool false,.ah],none⟩] (zR [⟨.p 2,.mv (.c (.ah)),none⟩] (zR [zm 6 0,zc 7 .lss 6 0,zw 3 7] (.seq (.block 0 (.loop rE)) (zR [zm 22 3,zm 23 2,z2 24 183 22 23,zs 2 1 24] (.ret)))))
theorem abK:FT 130=some ⟨25,[0,2,3,4,5],[.cell 2 true (.p 1)],EZ⟩:=by kernel_rfl
def uh:al:=zR [⟨.p 2,.alloc 200 [.bool false,.ah],none⟩] (zR [zm 5 1,z1 6 236 5,zw 1 6] (zR [zm 7 0,zn 8 7,zg (zm 9 1) 8 true,zg (zl 10 9) 8 true,zg (zc 11 .gtr 10 0) 8 true,zp 12 8 11,zm 13 1,⟨.l 14,.build [.bool false,.ah] [(0,1,(.l 12)),(1,1,(.l 13))],none⟩,zs 2 2 14] (.ret)))
theorem yN:FT 183=some ⟨15,[0,1,4],[.cell 2 true (.p 2)],uh⟩:=by kernel_rfl
def kq:al:=.seq (zR [zm 3 0,zl 4 3,zc 5 .gtr 4 0,zn 6 5,zg (zm 7 0) 6 true,zg (zm 8 0) 6 true,zg (zl 9 8) 6 true,zg (zc 10 .sub 9 1) 6 true,zg (za 11 1 7 10) 6 true,zg (zd 12 1 11) 6 true,zg (zc 13 .eql 12 0) 6 true,zp 14 6 13] (.cond (.l 14) (.skip) (.exit 0))) (.block 1 (.region [zm 15 0,zm 16 0,zl 17 16,zc 18 .sub 17 1,⟨.l 19,.slice .sl 1 (.l 15) none (some (.l 18)) none,none⟩,zw 0 19]))
def ui:al:=zR [⟨.p 1,.mv (.c (.ah)),none⟩] (.seq (.block 0 (.loop kq)) (zR [zm 20 0,zw 1 20] (.ret)))
theorem yO:FT 236=some ⟨21,[0,2],[.var (.p 1)],ui⟩:=by kernel_rfl
def uj:al:=.seq (zR [zm 7 1,zl 8 7,zc 9 .gtr 8 0] (.cond (.l 9) (.skip) (.exit 0))) (.block 1 (zR [zm 11 0,zm 12 1,z2 13 224 11 12,zn 10 13,ze 14 0 10,ze 15 1 10,zn 5 14,zw 3 15] (.region [zm 16 1,zm 17 3,zw 0 16,zw 1 17])))
def Fa:al:=zR [⟨.p 2,.mv (.c (.ah)),none⟩] (.seq (.block 0 (.loop uj)) (zR [zm 18 0,zw 2 18] (.ret)))
theorem MA:FT 171=some ⟨19,[0,1,4,6],[.var (.p 2)],Fa⟩:=by kernel_rfl
def yP:al:=.seq (zR [zm 63 9,zl 64 63,zm 65 0,zl 66 65,zc 67 .add 66 1,zb 68 .lss 64 67] (.cond (.l 68) (.skip) (.exit 0))) (.block 1 (.region [zm 69 9,⟨.l 70,.dW 3 1 1 [.iV (0)] [(0,1,(kI 0))],none⟩,⟨.l 71,.append 3 1 8 (.l 69) (.l 70),none⟩,zw 9 71]))
def yQ:al:=.seq (zR [zm 90 14,zm 91 8,zb 92 .lss 90 91] (.cond (.l 92) (.skip) (.exit 4))) (.seq (.block 5 (zR [zm 95 12,zm 96 7,zm 97 14,za 98 1 96 97,zd 99 1 98,zb 100 .mul 95 99,zm 101 13,zb 102 .add 100 101,zw 15 102] (zR [zm 103 9,zm 104 14,zm 105 11,zb 106 .add 104 105,za 107 1 103 106,zd 108 1 107,zm 109 15,zc 110 .rem 109 1000000000,zb 111 .sub 108 110,zw 16 111] (zR [zm 112 15,zc 113 .quo 112 1000000000,zw 13 113] (.seq (zR [zm 114 16,zc 115 .lss 114 0] (.cond (.l 115) (zR [zm 116 16,zc 117 .add 116 1000000000,zw 16 117] (.region [zm 118 13,zc 119 .add 118 1,zw 13 119])) (.skip))) (.region [zm 120 9,zm 121 14,zm 122 11,zb 123 .add 121 122,zm 124 16,za 125 1 120 123,zS 1 125 124])))))) (.region [zm 93 14,zc 94 .add 93 1,zw 14 94]))
def yR:al:=.seq (zR [zm 148 18,zm 149 8,zb 150 .lss 148 149] (.cond (.l 150) (.skip) (.exit 6))) (.seq (.block 7 (.seq (.draw [(zm 153 9,[]),(zm 154 18,[0]),(zm 155 11,[0,1]),(zb 156 .add 154 155,[0]),(za 157 1 153 156,[]),(zd 158 1 157,[]),(zm 159 7,[0,1,2,3,4,5]),(zm 160 18,[0,1,2,3,4,5,6]),(za 161 1 159 160,[0,1,2,3,4,5]),(zd 162 1 161,[0,1,2,3,4,5]),(zb 163 .add 158 162,[]),(zm 164 17,[0,1,2,3,4,5,6,7,8,9,10]),(zb 165 .add 163 164,[]),(zw 19 165,[])]) (zR [zm 166 9,zm 167 18,zm 168 11,zb 169 .add 167 168,zm 170 19,zc 171 .rem 170 1000000000,za 172 1 166 169,zS 1 172 171] (.region [zm 173 19,zc 174 .quo 173 1000000000,zw 17 174])))) (.region [zm 151 18,zc 152 .add 151 1,zw 18 152]))
def yS:al:=.seq (zR [zm 82 11,zc 83 .geq 82 0] (.cond (.l 83) (.skip) (.exit 2))) (.seq (.block 3 (zR [zm 86 9,zm 87 7,zm 88 11,⟨.l 89,.call (kF 295) [(.l 86),(.l 87),(.l 88)],none⟩,zw 12 89] (zR [zi 13 0] (.seq (zR [zi 14 0] (.block 4 (.loop yQ))) (zR [zm 126 9,zm 127 11,zm 128 8,zb 129 .add 127 128,zm 130 9,zm 131 11,zm 132 8,zb 133 .add 131 132,za 134 1 130 133,zd 135 1 134,zm 136 13,zb 137 .sub 135 136,za 138 1 126 129,zS 1 138 137] (.seq (zR [zm 139 9,zm 140 11,zm 141 8,zb 142 .add 140 141,za 143 1 139 142,zd 144 1 143,zc 145 .lss 144 0] (.cond (.l 145) (zR [zm 146 12,zc 147 .sub 146 1,zw 12 147] (zR [zi 17 0] (.seq (zR [zi 18 0] (.block 6 (.loop yR))) (.region [zm 175 9,zm 176 11,zm 177 8,zb 178 .add 176 177,zm 179 9,zm 180 11,zm 181 8,zb 182 .add 180 181,za 183 1 179 182,zd 184 1 183,zm 185 17,zb 186 .add 184 185,za 187 1 175 178,zS 1 187 186])))) (.skip))) (.region [zm 188 10,zm 189 11,zm 190 12,za 191 1 188 189,zS 1 191 190]))))))) (.region [zm 84 11,zc 85 .sub 84 1,zw 11 85]))
def Fb:al:=zR [⟨.p 2,.mv (.c (.ah)),none⟩,⟨.p 3,.mv (.c (.ah)),none⟩] (.seq (zR [zm 24 0,zm 25 1,z2 26 255 24 25,zc 27 .lss 26 0] (.cond (.l 27) (zR [zm 28 0,⟨.p 2,.mv (.c (.ah)),none⟩,zw 3 28] (.ret)) (.skip))) (.seq (zR [zm 29 1,zl 30 29,zc 31 .eql 30 1] (.cond (.l 31) (zR [zm 33 0,zm 34 1,⟨.l 35,.dE none 1 (.l 34) (kI 0),none⟩,zd 36 1 35,z2 37 294 33 36,zn 32 37,ze 38 0 32,ze 39 1 32,zw 4 38,zw 5 39] (zR [zm 40 4,zm 41 5,⟨.l 42,.dW 3 1 1 [.iV (0)] [(0,1,(.l 41))],none⟩,z1 43 236 42,zw 2 40,zw 3 43] (.ret))) (.skip))) (zR [zm 44 1,zm 45 1,zl 46 45,zc 47 .sub 46 1,za 48 1 44 47,zd 49 1 48,zc 50 .add 49 1,⟨.l 51,.bin .quo (kI 1000000000) (.l 50),none⟩,⟨.l 52,.dW 3 1 1 [.iV (0)] [(0,1,(.l 51))],none⟩,zw 6 52] (zR [zm 53 1,zm 54 6,z2 55 257 53 54,zw 7 55] (zR [zm 56 7,zl 57 56,zw 8 57] (zR [⟨.l 58,.dW 3 0 1 [.iV (0)] [],none⟩,zm 59 0,zm 60 6,z2 61 257 59 60,⟨.l 62,.append 3 1 8 (.l 58) (.l 61),none⟩,zw 9 62] (.seq (.block 0 (.loop yP)) (zR [zm 72 9,zl 73 72,zm 74 8,zb 75 .sub 73 74,⟨.l 76,.iB 3 1 8 [.iV (0)] (.l 75) (.l 75),none⟩,zw 10 76] (.seq (zR [zm 77 9,zl 78 77,zm 79 8,zb 80 .sub 78 79,zc 81 .sub 80 1,zw 11 81] (.block 2 (.loop yS))) (.seq (.draw [(zm 193 9,[]),(zm 194 8,[0]),(⟨.l 195,.slice .sl 1 (.l 193) none (some (.l 194)) none,none⟩,[]),(z1 196 236 195,[]),(zm 197 6,[0,1,2,3]),(⟨.l 198,.dE none 1 (.l 197) (kI 0),none⟩,[0,1,2,3]),(zd 199 1 198,[0,1,2,3]),(z2 200 294 196 199,[]),(zn 192 200,[]),(ze 201 0 192,[]),(ze 202 1 192,[9]),(zw 20 201,[10]),(zn 23 202,[])]) (zR [zm 203 10,z1 204 236 203,zm 205 20,zw 2 204,zw 3 205] (.ret))))))))))))
theorem MB:FT 224=some ⟨206,[0,1,4,5,6,7,8,9,10,11,12,13,14,15,16,17,18,19,20,21,22],[.var (.p 2),.var (.p 3)],Fb⟩:=by kernel_rfl
def rF:al:=.seq (zR [zm 19 3,zc 20 .geq 19 0] (.cond (.l 20) (.skip) (.exit 0))) (.seq (.block 1 (.seq (.seq (.draw [(zm 23 0,[]),(zm 24 3,[0]),(za 25 1 23 24,[]),(zd 26 1 25,[]),(zm 27 1,[0,1,2,3]),(zm 28 3,[0,1,2,3,4]),(za 29 1 27 28,[0,1,2,3]),(zd 30 1 29,[0,1,2,3]),(zb 31 .lss 26 30,[])]) (.cond (.l 31) (zR [zi 2 (-1)] (.ret)) (.skip))) (.seq (.draw [(zm 32 0,[]),(zm 33 3,[0]),(za 34 1 32 33,[]),(zd 35 1 34,[]),(zm 36 1,[0,1,2,3]),(zm 37 3,[0,1,2,3,4]),(za 38 1 36 37,[0,1,2,3]),(zd 39 1 38,[0,1,2,3]),(zb 40 .gtr 35 39,[])]) (.cond (.l 40) (zR [zi 2 1] (.ret)) (.skip))))) (.region [zm 21 3,zc 22 .sub 21 1,zw 3 22]))
def Fc:al:=zR [zi 2 0] (.seq (zR [zm 6 0,zl 7 6,zm 8 1,zl 9 8,zb 10 .neq 7 9] (.cond (.l 10) (.seq (zR [zm 11 0,zl 12 11,zm 13 1,zl 14 13,zb 15 .lss 12 14] (.cond (.l 15) (zR [zi 2 (-1)] (.ret)) (.skip))) (zR [zi 2 1] (.ret))) (.skip))) (.seq (zR [zm 16 0,zl 17 16,zc 18 .sub 17 1,zw 3 18] (.block 0 (.loop rF))) (zR [zi 2 0] (.ret))))
theorem abL:FT 255=some ⟨41,[0,1,4,5],[.var (.p 2)],Fc⟩:=by kernel_rfl
def yT:al:=.seq (zR [zm 22 6,zm 23 1,zl 24 23,zb 25 .lss 22 24] (.cond (.l 25) (.skip) (.exit 2))) (.seq (.block 3 (.seq (.draw [(zm 28 3,[]),(zm 29 4,[0]),(zm 30 6,[0,1]),(zb 31 .add 29 30,[0]),(za 32 1 28 31,[]),(zd 33 1 32,[]),(zm 34 0,[0,1,2,3,4,5]),(zm 35 4,[0,1,2,3,4,5,6]),(za 36 1 34 35,[0,1,2,3,4,5]),(zd 37 1 36,[0,1,2,3,4,5]),(zm 38 1,[0,1,2,3,4,5,6,7,8,9]),(zm 39 6,[0,1,2,3,4,5,6,7,8,9,10]),(za 40 1 38 39,[0,1,2,3,4,5,6,7,8,9]),(zd 41 1 40,[0,1,2,3,4,5,6,7,8,9]),(zb 42 .mul 37 41,[0,1,2,3,4,5]),(zb 43 .add 33 42,[]),(zm 44 5,[0,1,2,3,4,5,6,7,8,9,10,11,12,13,14,15]),(zb 45 .add 43 44,[]),(zw 7 45,[])]) (zR [zm 46 3,zm 47 4,zm 48 6,zb 49 .add 47 48,zm 50 7,zc 51 .rem 50 1000000000,za 52 1 46 49,zS 1 52 51] (.region [zm 53 7,zc 54 .quo 53 1000000000,zw 5 54])))) (.region [zm 26 6,zc 27 .add 26 1,zw 6 27]))
def yU:al:=.seq (zR [zm 16 4,zm 17 0,zl 18 17,zb 19 .lss 16 18] (.cond (.l 19) (.skip) (.exit 0))) (.seq (.block 1 (zR [zi 5 0] (.seq (zR [zi 6 0] (.block 2 (.loop yT))) (.region [zm 55 3,zm 56 4,zm 57 1,zl 58 57,zb 59 .add 56 58,zm 60 3,zm 61 4,zm 62 1,zl 63 62,zb 64 .add 61 63,za 65 1 60 64,zd 66 1 65,zm 67 5,zb 68 .add 66 67,za 69 1 55 59,zS 1 69 68])))) (.region [zm 20 4,zc 21 .add 20 1,zw 4 21]))
def Fe:al:=zR [⟨.p 2,.mv (.c (.ah)),none⟩] (zR [zm 10 0,zl 11 10,zm 12 1,zl 13 12,zb 14 .add 11 13,⟨.l 15,.iB 3 1 8 [.iV (0)] (.l 14) (.l 14),none⟩,zw 3 15] (.seq (zR [zi 4 0] (.block 0 (.loop yU))) (zR [zm 70 3,z1 71 236 70,zw 2 71] (.ret))))
theorem MC:FT 257=some ⟨72,[0,1,4,5,6,7,8,9],[.var (.p 2)],Fe⟩:=by kernel_rfl
def yV:al:=.seq (zR [zm 16 6,zc 17 .geq 16 0] (.cond (.l 17) (.skip) (.exit 0))) (.seq (.block 1 (zR [zm 20 5,zc 21 .mul 20 1000000000,zm 22 0,zm 23 6,za 24 1 22 23,zd 25 1 24,zb 26 .add 21 25,zw 7 26] (zR [zm 27 4,zm 28 6,zm 29 7,zm 30 1,zb 31 .quo 29 30,za 32 1 27 28,zS 1 32 31] (.region [zm 33 7,zm 34 1,zb 35 .rem 33 34,zw 5 35])))) (.region [zm 18 6,zc 19 .sub 18 1,zw 6 19]))
def MD:al:=zR [⟨.p 2,.mv (.c (.ah)),none⟩,zi 3 0] (zR [zm 10 0,zl 11 10,⟨.l 12,.iB 3 1 8 [.iV (0)] (.l 11) (.l 11),none⟩,zw 4 12] (zR [zi 5 0] (.seq (zR [zm 13 0,zl 14 13,zc 15 .sub 14 1,zw 6 15] (.block 0 (.loop yV))) (zR [zm 36 4,z1 37 236 36,zm 38 5,zw 2 37,zw 3 38] (.ret)))))
theorem abM:FT 294=some ⟨39,[0,1,4,5,6,7,8,9],[.var (.p 2),.var (.p 3)],MD⟩:=by kernel_rfl
def uk:al:=.seq (.seq (.draw [(zm 42 6,[]),(zc 43 .geq 42 1000000000,[]),(zn 44 43,[]),(zg (zm 45 6) 44 false,[]),(zg (zm 46 1) 44 false,[3]),(zg (zm 47 4) 44 false,[3,4]),(zg (zc 48 .sub 47 2) 44 false,[3,4]),(zg (za 49 1 46 48) 44 false,[3]),(zg (zd 50 1 49) 44 false,[3]),(zg (zb 51 .mul 45 50) 44 false,[]),(zg (zm 52 7) 44 false,[3,4,5,6,7,8,9]),(zg (zc 53 .mul 52 1000000000) 44 false,[3,4,5,6,7,8,9]),(zg (zm 54 0) 44 false,[3,4,5,6,7,8,9,10,11]),(zg (zm 55 2) 44 false,[3,4,5,6,7,8,9,10,11,12]),(zg (zm 56 4) 44 false,[3,4,5,6,7,8,9,10,11,12,13]),(zg (zb 57 .add 55 56) 44 false,[3,4,5,6,7,8,9,10,11,12]),(zg (zc 58 .sub 57 2) 44 false,[3,4,5,6,7,8,9,10,11,12]),(zg (za 59 1 54 58) 44 false,[3,4,5,6,7,8,9,10,11]),(zg (zd 60 1 59) 44 false,[3,4,5,6,7,8,9,10,11]),(zg (zb 61 .add 53 60) 44 false,[3,4,5,6,7,8,9]),(zg (zb 62 .gtr 51 61) 44 false,[]),(zP 63 44 62,[])]) (.cond (.l 63) (.skip) (.exit 0))) (.block 1 (zR [zm 64 6,zc 65 .sub 64 1,zw 6 65] (zR [zm 66 7,zm 67 1,zm 68 4,zc 69 .sub 68 1,za 70 1 67 69,zd 71 1 70,zb 72 .add 66 71,zw 7 72] (zR [zm 73 7,zc 74 .geq 73 1000000000] (.cond (.l 74) (zR [zm 75 6,zw 3 75] (.ret)) (.skip))))))
def ME:al:=zR [zi 3 0] (zR [zm 11 1,zl 12 11,zw 4 12] (.seq (.draw [(zm 13 0,[]),(zm 14 2,[0]),(zm 15 4,[0,1]),(zb 16 .add 14 15,[0]),(za 17 1 13 16,[]),(zd 18 1 17,[]),(zc 19 .mul 18 1000000000,[]),(zm 20 0,[0,1,2,3,4,5,6]),(zm 21 2,[0,1,2,3,4,5,6,7]),(zm 22 4,[0,1,2,3,4,5,6,7,8]),(zb 23 .add 21 22,[0,1,2,3,4,5,6,7]),(zc 24 .sub 23 1,[0,1,2,3,4,5,6,7]),(za 25 1 20 24,[0,1,2,3,4,5,6]),(zd 26 1 25,[0,1,2,3,4,5,6]),(zb 27 .add 19 26,[]),(zw 5 27,[])]) (.seq (.draw [(zm 28 5,[]),(zm 29 1,[0]),(zm 30 4,[0,1]),(zc 31 .sub 30 1,[0,1]),(za 32 1 29 31,[0]),(zd 33 1 32,[0]),(zb 34 .quo 28 33,[]),(zm 35 5,[0,1,2,3,4,5,6]),(zm 36 1,[0,1,2,3,4,5,6,7]),(zm 37 4,[0,1,2,3,4,5,6,7,8]),(zc 38 .sub 37 1,[0,1,2,3,4,5,6,7,8]),(za 39 1 36 38,[0,1,2,3,4,5,6,7]),(zd 40 1 39,[0,1,2,3,4,5,6,7]),(zb 41 .rem 35 40,[0,1,2,3,4,5,6]),(zw 6 34,[7,8,9,10,11,12,13]),(zw 7 41,[])]) (.seq (.block 0 (.loop uk)) (zR [zm 76 6,zw 3 76] (.ret))))))
theorem abN:FT 295=some ⟨77,[0,1,2,6,7,8,9,10],[.var (.p 3)],ME⟩:=by kernel_rfl
def MF:al:=zR [zi 2 0] (.seq (zR [zm 5 1,zm 6 0,zl 7 6,zb 8 .lss 5 7] (.cond (.l 8) (zR [zm 9 0,zm 10 1,za 11 1 9 10,zd 12 1 11,zw 2 12] (.ret)) (.skip))) (zR [zi 2 0] (.ret)))
theorem abO:FT 300=some ⟨13,[0,1,4],[.var (.p 2)],MF⟩:=by kernel_rfl
theorem MG {s:az}{i:Nat}(h:i<s.length):s.drop i=s[i]! :: s.drop (i+1):=by
 rw[f7 h,getElem!_pos s i h]
def ku (s:az):Bool:=(bR 47 s).2.isSome
def cK (s:az):Nat:=(bR 47 s).1.length
theorem um (s:az):cK s<=s.length:=uc 47 s
theorem abP (hft:M.FT=FT)(s:az)(hl:s.length<1000000):bm M 152 [.str s] [] ⟨.iV (cK s),[],[]⟩:=by
 refine bX (by rw[hft];exact abF) ax ?_;have loop:∀(r i:Nat) (lo:List (Nat×AV)) (wr:List Nat) {Q:Ex->au->Prop} (a1:AV),i+r=s.length->i+cK (s.drop i)=cK s ->
  (cK s<s.length->∀lo wr,Q .ret ⟨⟨[.str s,.iV (cK s),.iV (cK s)],lo,[],[]⟩,wr⟩) ->
  (cK s=s.length->∀lo wr,Q (.exit 0) ⟨⟨[.str s,a1,.iV s.length],lo,[],[]⟩,wr⟩) ->
  W M (.loop ud) ⟨⟨[.str s,a1,.iV i],lo,[],[]⟩,wr⟩ Q:=by
  intro r;induction r with
  | zero=>
   intro i lo wr Q a1 hi he h1 h2;obtain rfl:i=s.length:=by omega
   rw[jV]at he;have e0:cK ([]:az)=0:=rfl;refine W.loop ?_;unfold ud;repeat' first|apply abx|apply aa|apply abr|apply aaL|apply aeM|apply bH|apply cA|(apply acM;rfl)|(apply aep;rfl;rfl)|(apply abA;rfl;rfl)|(intro _;omega)|intro _
   all_goals try omega
   all_goals exact h2 ac _ _
  | succ r ih=>
   intro i lo wr Q a1 hi he h1 h2;have hd:=MG (s:=s) (i:=i) ac;refine W.loop ?_;by_cases h47:s[i]! = 47
   . have e1:cK (s.drop i)=0:=by rw[hd,h47];simp[cK,bR]
     have e2:cK s=i:=by omega
     have e47:((s[((i:Int)).toNat]!).toNat:Int)=47:=by rw[show s[((i:Int)).toNat]! = s[i]! from rfl,h47];rfl
     rw[e2]at h1;unfold ud;repeat' first|apply abx|apply aa|apply abr|apply aaL|apply aef|apply acG|apply adA|apply ba|apply cn|apply dr|(apply acO;rfl)|(apply aep;rfl;rfl)|(apply afe;rfl;rfl)|(apply aii;rfl;rfl;omega)|(apply abA;rfl;rfl)|(apply abC;rfl;rfl)|(intro _;omega)|intro _
     all_goals try omega
     all_goals exact h1 ac _ _
   . have e1:cK (s.drop i)=1+cK (s.drop (i+1)):=by
      rw[hd];simp only[cK,bR,if_neg h47,cD];omega
     have e47:((s[((i:Int)).toNat]!).toNat:Int)≠47:=fun e=>h47 (eA.1 (by
                                                                                                  rw[show s[((i:Int)).toNat]! = s[i]! from rfl]at e;have:(47:UInt8).toNat=47:=rfl;omega))
     unfold ud;repeat' first|apply abx|apply aa|apply abr|apply aaL|apply aef|apply adA|apply bC|(apply acO;rfl)|(apply acM;rfl)|(apply aep;rfl;rfl)|(apply afe;rfl;rfl)|(apply aeX;rfl;rfl;omega)|(apply aii;rfl;rfl;omega)|(apply abA;rfl;rfl)|(apply abC;rfl;rfl)|(intro _;omega)|intro _
     all_goals try omega
     all_goals exact fX (ih (i+1) _ _ _ ac ac h1 h2)
 unfold Mv;simp only[enter];repeat' first|apply abx|apply aa|apply abr|apply aaL|apply aef|(apply abC;rfl;rfl)
 refine loop s.length 0 _ _ _ ac ax (fun h lo wr=>?_) (fun h lo wr=>?_)
 . repeat' first|apply ba|apply cn
   all_goals exact⟨.inr rfl,rfl,_,rfl,rfl,rfl⟩
 . rw[h];repeat' first|apply abx|apply aa|apply abr|apply aaL|apply acG|apply bJ|(apply abA;rfl;rfl)|(apply abC;rfl;rfl)
   all_goals exact⟨.inr rfl,rfl,_,rfl,rfl,rfl⟩
theorem abQ (hft:M.FT=FT)(s:az)(hl:s.length<1000000):bm M 223 [.str s] [] ⟨.bool (s.all bT),[],[]⟩:=by
 refine bX (by rw[hft];exact abH) ax ?_;have loop:∀(r i:Nat) (lo:List (Nat×AV)) (wr:List Nat) {Q:Ex->au->Prop} (a1:AV),i+r=s.length->s.all bT=(s.drop i).all bT ->
  (s.all bT=false->∀lo wr a2,Q .ret ⟨⟨[.str s,.bool false,a2],lo,[],[]⟩,wr⟩) ->
  (s.all bT=true->∀lo wr a2,Q (.exit 0) ⟨⟨[.str s,a1,a2],lo,[],[]⟩,wr⟩) ->
  W M (.loop uf) ⟨⟨[.str s,a1,.iV i],lo,[],[]⟩,wr⟩ Q:=by
  intro r;induction r with
  | zero=>
   intro i lo wr Q a1 hi he h1 h2;obtain rfl:i=s.length:=by omega
   rw[jV]at he;refine W.loop ?_;unfold uf;repeat' first|apply abx|apply aa|apply abr|apply aaL|apply aeM|apply bH|apply cA|(apply acM;rfl)|(apply aep;rfl;rfl)|(apply abA;rfl;rfl)|(intro _;omega)|intro _
   all_goals try omega
   all_goals exact h2 he _ _ _
  | succ r ih=>
   intro i lo wr Q a1 hi he h1 h2;have hd:=MG (s:=s) (i:=i) ac;rw[hd,eL]at he;have ei:s[((i:Int)).toNat]! = s[i]! := rfl;refine W.loop ?_;cases hb:bT s[i]! with
   | false=>
    rw[hb,dz]at he;have hne:¬(48<=(s[i]!).toNat/\(s[i]!).toNat<58):=fun h=>by rw[(lS _).2 h]at hb;cases hb
    rw[←ei]at hne;unfold uf;repeat' first|apply abx|apply aa|apply abr|apply aaL|apply aef|apply acG|apply adA|apply ba|apply cn|apply dr|(apply acO;rfl)|(apply ahQ;rfl)|(apply aid;rfl)|(apply aep;rfl;rfl)|(apply aeq;rfl;rfl)|(apply aeB;rfl;rfl)|(apply aeC;rfl;rfl)|(apply aii;rfl;rfl;omega)|(apply abA;rfl;rfl)|(apply abC;rfl;rfl)|(intro _;omega)|intro _
    all_goals try omega
    all_goals exact h1 he _ _ _
   | true=>
    rw[hb,c5]at he;have hne:=(lS _).1 hb;rw[←ei]at hne;unfold uf;repeat' first|apply abx|apply aa|apply abr|apply aaL|apply aef|apply adA|apply bC|(apply acO;rfl)|(apply acM;rfl)|(apply ahQ;rfl)|(apply aep;rfl;rfl)|(apply aeq;rfl;rfl)|(apply aeC;rfl;rfl)|(apply aeX;rfl;rfl;omega)|(apply aii;rfl;rfl;omega)|(apply abA;rfl;rfl)|(apply abC;rfl;rfl)|(intro _;omega)|intro _
    all_goals try omega
    all_goals exact fX (ih (i+1) _ _ _ ac he h1 h2)
 unfold Mw;simp only[enter];repeat' first|apply abx|apply aa|apply abr|apply aaL|apply aef|(apply abC;rfl;rfl)
 refine loop s.length 0 _ _ _ ac ax (fun h lo wr a2=>?_) (fun h lo wr a2=>?_)
 . rw[h];repeat' first|apply ba|apply cn
   all_goals exact⟨.inr rfl,rfl,_,rfl,rfl,rfl⟩
 . rw[h];repeat' first|apply abx|apply aa|apply abr|apply aaL|apply acG|apply bJ|(apply abC;rfl;rfl)
   all_goals exact⟨.inr rfl,rfl,_,rfl,rfl,rfl⟩
theorem abR (hft:M.FT=FT)(s:az)(hl:s.length<1000000)(q223:∀h,M.ext 223 [.str s] h=some ⟨.bool (s.all bT),h,[]⟩):bm M 169 [.str s] [] ⟨.bool (eO s),[],[]⟩:=by
 refine bX (by rw[hft];exact abG) ax ?_;by_cases h0:s=[]
 . subst h0;have hl0:([]:az).length=0:=rfl;rw[show eO []=false from rfl];unfold ue;simp only[enter];repeat' first|apply abx|apply aa|apply abr|apply aaL|apply acG|apply ba|(apply acO;rfl)|(apply aid;rfl)|(apply aiK;rfl)|(apply afe;rfl;rfl)|(apply aeB;rfl;rfl)|(apply abA;rfl;rfl)|(apply abC;rfl;rfl)|(intro _;omega)|intro _
   all_goals try omega
   all_goals exact⟨.inr rfl,rfl,_,rfl,rfl,rfl⟩
 . have hpos:0<s.length:=gc.2 h0;have ei:s[(0:Int).toNat]! = s[0]! := rfl;have hdec:eO s=(s.all bT && (decide (s[0]! ≠ 48) || decide (s=[48]))):=by rw[eO,decide_eq_true h0,c5]
   by_cases h48:s[0]! = 48
   . have e48:((s[(0:Int).toNat]!).toNat:Int)=48:=by rw[ei,h48];rfl
     by_cases hl1:s.length=1
     . have hs:s=[48]:=by
        cases s with
        | nil=>exact absurd rfl h0
        | cons c t=>
         have:t=[]:=d7 (by simpa using hl1);subst this;have:c=48:=h48;rw[this]
       rw[hdec,decide_eq_true hs,Bool.or_true,iq];unfold ue;simp only[enter];repeat' first|apply abx|apply aa|apply abr|apply aaL|apply acG|apply adA|(apply acM;rfl)|(apply ahQ;rfl)|(apply ahU;rfl)|(apply aeq;rfl;rfl)|(apply afe;rfl;rfl)|(apply aeC;rfl;rfl)|(apply adX;rfl;rfl;first|exact q223 _)|(apply abA;rfl;rfl)|(apply abC;rfl;rfl)|(intro _;omega)|intro _
       all_goals try omega
       all_goals exact⟨.inr rfl,rfl,_,rfl,rfl,rfl⟩
     . have hs:¬s=[48]:=fun e=>hl1 (by rw[e];rfl)
       rw[hdec,decide_eq_false hs,decide_eq_false (by simpa using h48),Bool.or_self,oZ];unfold ue;simp only[enter];repeat' first|apply abx|apply aa|apply abr|apply aaL|apply acG|apply ba|(apply acO;rfl)|(apply afg;rfl)|(apply ahQ;rfl)|(apply aeq;rfl;rfl)|(apply afe;rfl;rfl)|(apply aeB;rfl;rfl)|(apply aeC;rfl;rfl)|(apply aii;rfl;rfl;omega)|(apply abA;rfl;rfl)|(apply abC;rfl;rfl)|(intro _;omega)|intro _
       all_goals try omega
       all_goals exact⟨.inr rfl,rfl,_,rfl,rfl,rfl⟩
   . have e48:((s[(0:Int).toNat]!).toNat:Int)≠48:=fun e=>h48 (eA.1 (by rw[ei]at e;have:(48:UInt8).toNat=48:=rfl;omega))
     rw[hdec,decide_eq_true (show s[0]! ≠ 48 from h48),mp,iq];unfold ue;simp only[enter];repeat' first|apply abx|apply aa|apply abr|apply aaL|apply acG|apply adA|(apply acM;rfl)|(apply afg;rfl)|(apply ahQ;rfl)|(apply ahU;rfl)|(apply aeq;rfl;rfl)|(apply afe;rfl;rfl)|(apply aeB;rfl;rfl)|(apply aeC;rfl;rfl)|(apply adX;rfl;rfl;first|exact q223 _)|(apply aii;rfl;rfl;omega)|(apply abA;rfl;rfl)|(apply abC;rfl;rfl)|(intro _;omega)|intro _
     all_goals try omega
     all_goals exact⟨.inr rfl,rfl,_,rfl,rfl,rfl⟩
theorem abS {s:az}(h:s.all bT=true)(hl:s.length<=18)(i:Nat)(hi:i<=s.length):aU 0 (s.take i)<1000000000000000000:=by
 refine LW ?_ (by rw[cP];omega);rw[cT]at h ⊢;exact fun x hx=>h x (List.mem_of_mem_take hx)
theorem abT (hft:M.FT=FT)(s:az)(hl:s.length<=18)(hd:s.all bT=true):bm M 232 [.str s] [] ⟨.iV (aU 0 s:Nat),[],[]⟩:=by
 refine bX (by rw[hft];exact abJ) ax ?_;have loop:∀(r i:Nat) (lo:List (Nat×AV)) (wr:List Nat) {Q:Ex->au->Prop} (a1:AV),i+r=s.length ->
  (∀lo wr,Q (.exit 0) ⟨⟨[.str s,a1,.iV (aU 0 s:Nat),.iV s.length],lo,[],[]⟩,wr⟩) ->
  W M (.loop yM) ⟨⟨[.str s,a1,.iV (aU 0 (s.take i):Nat),.iV i],lo,[],[]⟩,wr⟩ Q:=by
  intro r;induction r with
  | zero=>
   intro i lo wr Q a1 hi hQ;obtain rfl:i=s.length:=by omega
   rw[List.take_length];refine W.loop ?_;unfold yM;repeat' first|apply abx|apply aa|apply abr|apply aaL|apply aeM|apply bH|apply cA|(apply acM;rfl)|(apply aep;rfl;rfl)|(apply abA;rfl;rfl)|(intro _;omega)|intro _
   all_goals try omega
   all_goals exact hQ _ _
  | succ r ih=>
   intro i lo wr Q a1 hi hQ;have wP:=abS hd hl (i+1) ac;have hb:=(lS _).1 ((cT.1 hd) s[i]! (by rw[getElem!_pos s i ac];exact d6 ac));have e1:aU 0 (s.take (i+1))=10*aU 0 (s.take i)+((s[i]!).toNat-48):=by
    rw[List.take_add_one,bj ac,Option.toList_some,pC,tM,getElem!_pos s i ac]
   have ei:s[((i:Int)).toNat]! = s[i]! := rfl;rw[←ei]at hb e1;have ih':=ih (i+1);generalize aU 0 (s.take (i+1))=m at *
   generalize aU 0 (s.take i)=n at *
   have e2:(m:Int)=10*n+((s[((i:Int)).toNat]!).toNat:Int)-48:=by omega
   rw[e2]at ih';refine W.loop ?_;unfold yM;repeat' first|apply abx|apply aa|apply abr|apply aaL|apply aef|apply adA|apply bC|(apply acO;rfl)|(apply aep;rfl;rfl)|(apply aiL;rfl;omega)|(apply aeX;rfl;rfl;omega)|(apply afS;rfl;rfl;omega)|(apply aiE;rfl;rfl;omega)|(apply aii;rfl;rfl;omega)|(apply abA;rfl;rfl)|(apply abC;rfl;rfl)|(intro _;omega)|intro _
   all_goals try omega
   all_goals exact fX (ih' _ _ _ ac hQ)
 unfold Mz;simp only[enter];repeat' first|apply abx|apply aa|apply abr|apply aaL|apply aef|(apply abC;rfl;rfl)
 refine loop s.length 0 _ _ _ ac (fun lo wr=>?_);repeat' first|apply abx|apply aa|apply abr|apply aaL|apply acG|apply bJ|(apply abA;rfl;rfl)|(apply abC;rfl;rfl)
 all_goals exact⟨.inr rfl,rfl,_,rfl,rfl,rfl⟩
variable {c1 c2:Option Nat}
abbrev iC (x:Int):List AV:=[.iV x]
abbrev aj (l:List Int):List AV:=arr iC l
abbrev dB:Int:=1000000000
theorem MH {l:List Int}:(aj l).length=l.length:=by
 have:=lH (f:=iC) (esz:=1) (fun _=>rfl) l;simpa using this
theorem abU {l:List Int}{m:Nat}(h:m<l.length):(aj l)[m]? = some (.iV l[m]!):=by
 induction l generalizing m with
 | nil=>simp at h
 | cons x l ih=>
  cases m with
  | zero=>rfl
  | succ m=>
   have e:(x::l)[m+1]! = l[m]! := by simp[b9]
   rw[e,←ih (by simpa using h)];rfl
section
variable {t b m:Nat} {x y:aZ} {l:List bz} {pe:List AV} {lo:List (Nat×AV)} {hp:ab} {df wr:List Nat} {L:List Int} {e:TypeId} {v:Int} {Q:au->Prop}
theorem ajf (hx:(St.mk pe lo hp df).ae x=some (.ptr b m))(hb:hp.at b=some (.cells (aj L) e))(hi:m<L.length)
 (h:WO M l ⟨⟨pe,(t,.iV L[m]!)::lo,hp,df⟩,wr⟩ Q):WO M (⟨.l t,.load 1 false x,none⟩::l) ⟨⟨pe,lo,hp,df⟩,wr⟩ Q:=by
 refine aiN (c:=aj L) (o:=m) (e:=e) (v:=.iV L[m]!) hx hb ?_ h;have h1:=abU hi;have h2:m<(aj L).length:=by rw[MH];exact hi
 rw[f7 h2];rw[bj h2]at h1;rw[j6.inj h1];rfl
theorem abV {L:List Int}{m:Nat}{v:Int}(h:m<L.length):overwrite (aj L) m (iC v)=aj (L.set m v):=by
 induction L generalizing m with
 | nil=>simp at h
 | cons x L ih=>
  cases m with
  | zero=>simp[overwrite,arr]
  | succ m=>
   have:=ih (m:=m) (by simpa using h);simp only[List.set_cons_succ];have e1:aj (x::L) = .iV x::aj L:=rfl;have e2:aj (x::L.set m v) = .iV x::aj (L.set m v):=rfl;rw[e1,e2,←this];simp[overwrite]
theorem aiU (hx:(St.mk pe lo hp df).ae x=some (.ptr b m))(hy:(St.mk pe lo hp df).ae y=some (.iV v))(hb:hp.at b=some (.cells (aj L) e))(hi:m<L.length)
 (h:WO M l ⟨⟨pe,lo,hp.put b (some (.cells (aj (L.set m v)) e)),df⟩,b::wr⟩ Q):WO M (⟨.no,.store 1 x y,none⟩::l) ⟨⟨pe,lo,hp,df⟩,wr⟩ Q:=
 aia (c:=aj L) (new:=iC v) hx (by rw[hy];rfl) hb ⟨rfl,by rw[MH];omega,rfl⟩ (abV hi) h
end
def dw (hp:ab)(b:Nat)(e:TypeId)(P S X:List Int):ab:=hp.put b (some (.cells (aj (P++X++S)) e))
theorem MI {hp:ab}{b:Nat}{e:TypeId}{P S X:List Int}:(dw hp b e P S X).length=hp.length:=jM
section
variable {t bu bv m:Nat} {x y:aZ} {l:List bz} {pe:List AV} {lo:List (Nat×AV)} {hp:ab} {df wr:List Nat} {P S X V Y:List Int} {e e':TypeId} {v:Int} {Q:au->Prop}
theorem ajo {i:Nat}(hx:(St.mk pe lo (dw hp bu e P S X) df).ae x=some (.ptr bu m))(hl:bu<hp.length)(hi:i<X.length)(hm:m=P.length+i)
 (h:WO M l ⟨⟨pe,(t,.iV X[i]!)::lo,dw hp bu e P S X,df⟩,wr⟩ Q):WO M (⟨.l t,.load 1 false x,none⟩::l) ⟨⟨pe,lo,dw hp bu e P S X,df⟩,wr⟩ Q:=by
 subst hm;refine ajf (L:=P++X++S) (e:=e) hx (by unfold dw;exact cQ hl) (by simp;omega) ?_;rw[DI hi];exact h
theorem ajp {i:Nat}(hx:(St.mk pe lo (dw hp bu e P S X) df).ae x=some (.ptr bu m))(hy:(St.mk pe lo (dw hp bu e P S X) df).ae y=some (.iV v))(hl:bu<hp.length)(hi:i<X.length)(hm:m=P.length+i)
 (h:WO M l ⟨⟨pe,lo,dw hp bu e P S (X.set i v),df⟩,bu::wr⟩ Q):WO M (⟨.no,.store 1 x y,none⟩::l) ⟨⟨pe,lo,dw hp bu e P S X,df⟩,wr⟩ Q:=by
 subst hm;refine aiU (L:=P++X++S) (e:=e) hx hy (by unfold dw;exact cQ hl) (by simp;omega) ?_;rw[JX hi];have:ab.put (dw hp bu e P S X) bu (some (.cells (aj (P++X.set i v++S)) e))=dw hp bu e P S (X.set i v):=by unfold dw;exact wF
 rw[this];exact h
end
def iy (v:AV)(hh:ab)(r:List Int):Prop:=∃v1,lI hh v v1/\v1.top=0/\cR v1 = .vs (aj r) r.length none
theorem Fh (l:List Int):fv (aj l)=aj l:=BT (fun _=>rfl) l
theorem fU (l:List Int):bO (aj l)=0:=oM (fun _=>rfl) l
theorem iy.trim {b:Nat}{L:List Int}{e:TypeId}{hp:ab}{n:Nat}(hb:hp.at b=some (.cells (aj L) e))(hn:n<=L.length):iy (bY b (bh (L.take n)) cap) (if (bk [bY b (bh (L.take n)) cap]).top<=0 then [] else hp) (L.take (bh (L.take n))):=by
 have hle:=js (l:=L.take n);rw[cP]at hle;obtain⟨k,hk⟩:∃k,k=bh (L.take n):=⟨_,rfl⟩;rw[←hk]at hle ⊢;by_cases h0:0<k
 . have e1:bY b k cap = .sl b 0 k 1 cap:=if_pos h0;rw[e1,if_neg (by simp[bk,AV.top])];have hl:(L.take k).length=k:=by rw[cP];omega
   have hF:Fr hp [b] (.sl b 0 k 1 cap) (.vs (aj (L.take k)) k none):=by
    refine .sl (m:=aj (L.take k)) (kT.2 rfl) hb ?_ rfl (fun i x y hx hy=>?_) (.inr rfl)
    . have:=mE (f:=iC) (esz:=1) (fun _=>rfl) (l:=L) (i:=0) (n:=k) ac;simpa using this
    . rw[hx]at hy;cases hy;exact .same (dj (fU _) hx)
   unfold iy;rw[hl];refine⟨_,⟨[b],hF,rfl,fun c l' e' hc hl'=>?_⟩,fU _,by rw[cR,Fh]⟩;rw[kT.1 hc,hb]at hl';cases hl';exact qK (fun _=>rfl) _
 . obtain rfl:k=0:=by omega
   exact⟨.vs [] 0 cap,.same rfl rfl,rfl,rfl⟩
def yX (M:ay)(g:Nat)(ars:List AV)(z:Int):Prop:=∃r:List Int,(okW dB r/\bg r/\WV dB r=z)/\∃v hh,iy v hh r/\bm M g ars [] ⟨v,hh,[]⟩
theorem Fi {f N:Nat}{aY:List Nat}{res:List fO}{body:al}{ars:List AV}{z:Int}(hft:M.FT f=some ⟨N,aY,res,body⟩)(hN:ars.length<=N)
 (h:W M body ⟨⟨aY.map (fun t=>(ars[t]?).getD cM),[],[],[]⟩,[]⟩ fun e s=>(e = .normal\/e = .ret)/\s.s.cI=[]/\∃vs,dK s.s res=some vs/\∃r:List Int,(okW dB r/\bg r/\WV dB r=z)/\iy (bk vs) (if (bk vs).top<=0 then [] else s.s.hp) r):yX M f ars z:=by
 obtain⟨v,hh,⟨r,hr,ho⟩,h2⟩:=iR (P:=fun v hh=>∃r:List Int,(okW dB r/\bg r/\WV dB r=z)/\iy v hh r) hft hN h;exact⟨r,hr,v,hh,ho,h2⟩
theorem pI {L:List Int}(ok:okW dB L):okW dB (L.take (bh L))/\bg (L.take (bh L))/\WV dB (L.take (bh L))=WV dB L:=⟨eC ok _,Dz,xf⟩
def da (x:AV)(l:List Int):Prop:=x = .vs (aj l) l.length none\/(x = .ah/\l=[])
def ky (v:AV)(hh:ab)(q r:List Int):Prop:=∃v1 x y,fS hh v v1/\v1.top=0/\bS v1 = .aw [x,y]/\da x q/\da y r
theorem pJ (l:List Int):dh (aj l)=aj l:=BU (fun _=>rfl) l
theorem Fj {b:Nat}{L:List Int}{e:TypeId}{hp:ab}{n:Nat}(hb:hp.at b=some (.cells (aj L) e))(hn:n<=L.length)(hh:ab)(he:(bY b (bh (L.take n)) cap).top≠0->hh=hp) :
 ∃v1,fS hh (bY b (bh (L.take n)) cap) v1/\v1.top=0/\bS v1 = .vs (aj (L.take (bh (L.take n)))) (L.take (bh (L.take n))).length none:=by
 have hle:=js (l:=L.take n);rw[cP]at hle;obtain⟨k,hk⟩:∃k,k=bh (L.take n):=⟨_,rfl⟩;rw[←hk]at hle he ⊢;by_cases h0:0<k
 . have e1:bY b k cap = .sl b 0 k 1 cap:=if_pos h0;rw[e1]at he ⊢;obtain rfl:=he (by simp[AV.top]);have hl:(L.take k).length=k:=by rw[cP];omega
   have hF:fS hh (.sl b 0 k 1 cap) (.vs (aj (L.take k)) k none):=by
    refine .sl (m:=aj (L.take k)) hb ?_ rfl (fun i x y hx hy=>?_)
    . have:=mE (f:=iC) (esz:=1) (fun _=>rfl) (l:=L) (i:=0) (n:=k) ac;simpa using this
    . rw[hx]at hy;cases hy;exact .same (dj (fU _) hx)
   rw[hl];exact⟨_,hF,fU _,by rw[bS,pJ]⟩
 . obtain rfl:k=0:=by omega
   exact⟨.vs [] 0 cap,.same rfl,rfl,rfl⟩
theorem ky.less {hh:ab}{l:List Int}:ky (bk [.ah,.vs (aj l) l.length cap]) hh [] l:=by
 have ht:(bk [.ah,.vs (aj l) l.length cap]).top=0:=by simp[bk,AV.top,bO,fU l]
 refine⟨bk [.ah,.vs (aj l) l.length cap],.ah,.vs (aj l) l.length none,.same ht,ht,?_,.inr ⟨rfl,rfl⟩,.inl rfl⟩;simp only[bk,bS,dh,pJ l]
def MJ (M:ay)(g:Nat)(ars:List AV)(x y:Int):Prop:=∃q r:List Int,(okW dB q/\bg q/\WV dB q=x/y)/\(okW dB r/\bg r/\WV dB r=x%y)/\∃v hh,ky v hh q r/\bm M g ars [] ⟨v,hh,[]⟩
theorem abW {f N:Nat}{aY:List Nat}{res:List fO}{body:al}{ars:List AV}{x y:Int}(hft:M.FT f=some ⟨N,aY,res,body⟩)(hN:ars.length<=N)
 (h:W M body ⟨⟨aY.map (fun t=>(ars[t]?).getD cM),[],[],[]⟩,[]⟩ fun e s=>(e = .normal\/e = .ret)/\s.s.cI=[]/\∃vs,dK s.s res=some vs/\∃q r:List Int,(okW dB q/\bg q/\WV dB q=x/y)/\(okW dB r/\bg r/\WV dB r=x%y)/\ky (bk vs) (if (bk vs).top<=0 then [] else s.s.hp) q r):MJ M f ars x y:=by
 obtain⟨v,hh,⟨q,r,hq,hr,ho⟩,h2⟩:=iR (P:=fun v hh=>∃q r:List Int,(okW dB q/\bg q/\WV dB q=x/y)/\(okW dB r/\bg r/\WV dB r=x%y)/\ky v hh q r) hft hN h;exact⟨q,r,hq,hr,v,hh,ho,h2⟩
theorem uo {b:Nat}:bY b 0 cap = .vs [] 0 cap:=if_neg ac
theorem MK {b r:Nat}:bY b (r+1) cap = .sl b 0 (r+1) 1 cap:=if_pos ac
theorem abX (hft:M.FT=FT){b n:Nat}{L:List Int}{e:TypeId}{hp:ab}(hb:hp.at b=some (.cells (aj L) e))(hn:n<=L.length)(hl:n<1000000000)(hc:∀c,cap=some c->n<=c) :
 bm M 236 [bY b n cap] hp ⟨bY b (bh (L.take n)) cap,hp,[]⟩:=by
 have hbl:=gS hb;refine nt (by rw[hft];exact yO) ax (by unfold bY;split <;> simp[AV.top,bO];omega) ?_;have loop:∀(r:Nat) (lo:List (Nat×AV)) (a1:AV) {Q:Ex->au->Prop},r<=n->bh (L.take r)=bh (L.take n)->(∀lo,Q (.exit 0) ⟨⟨[bY b (bh (L.take n)) cap,a1],lo,hp,[]⟩,[]⟩)->W M (.loop kq) ⟨⟨[bY b r cap,a1],lo,hp,[]⟩,[]⟩ Q:=by
  intro r;induction r with
  | zero=>
   intro lo a1 Q hr he hQ;have e0:bh (L.take n)=0:=by rw[←he];rfl
   rw[e0,uo]at hQ;rw[uo];refine W.loop ?_;unfold kq;repeat' first|apply abx|apply aa|apply abr|apply aaL|apply aeM|apply bH|apply cA|(apply acM;rfl)|(apply ahU;rfl)|(apply aeq;rfl;rfl)|(apply aeC;rfl;rfl)|(apply abA;rfl;rfl)|(intro _;omega)|intro _
   all_goals try omega
   all_goals exact hQ _
  | succ r ih=>
   intro lo a1 Q hr he hQ;have e:=pq (l:=L) (i:=r) ac;have ei:0+((((r+1:Nat):Int)-1).toNat)*1=r:=by omega
   have er:((r+1:Nat):Int)-1=r:=by omega
   rw[MK];refine W.loop ?_;by_cases h0:L[r]! = 0
   . rw[if_pos h0]at e;unfold kq;repeat' first|(apply ajf;exact congrArg (fun z=>some (AV.ptr b z)) ei;exact hb;omega)|(apply ajj (k:=.i64) (r:=r);rfl;exact congrArg (fun z=>some (AV.iV z)) er;omega;(intro c hc';have:=hc c hc';omega))|apply abx|apply aa|apply abr|apply aaL|apply aef|apply adA|apply bC|(apply acO;rfl)|(apply afg;rfl)|(apply aeq;rfl;rfl)|(apply afe;rfl;rfl)|(apply aeB;rfl;rfl)|(apply afS;rfl;rfl;omega)|(apply aic;rfl;rfl;omega)|(apply abA;rfl;rfl)|(apply abC;rfl;rfl)|(intro _;omega)|intro _
     all_goals try omega
     all_goals exact fX (ih _ _ ac (e.symm.trans he) hQ)
   . rw[if_neg h0]at e;have e2:bh (L.take n)=r+1:=by rw[←he,e]
     rw[e2,MK]at hQ;unfold kq;repeat' first|(apply ajf;exact congrArg (fun z=>some (AV.ptr b z)) ei;exact hb;omega)|apply abx|apply aa|apply abr|apply aaL|apply aeM|apply bH|apply cA|(apply acM;rfl)|(apply afg;rfl)|(apply aeq;rfl;rfl)|(apply afe;rfl;rfl)|(apply aeB;rfl;rfl)|(apply afS;rfl;rfl;omega)|(apply aic;rfl;rfl;omega)|(apply abA;rfl;rfl)|(intro _;omega)|intro _
     all_goals try omega
     all_goals exact hQ _
 unfold ui;simp only[enter];repeat' first|apply abx|apply aa|apply abr|apply aaL|apply aef|(apply abC;rfl;rfl)
 refine loop n _ _ (be _) rfl (fun lo=>?_);repeat' first|apply abx|apply aa|apply abr|apply aaL|apply acG|apply bJ|(apply abA;rfl;rfl)|(apply abC;rfl;rfl)
 exact⟨.inr rfl,rfl,⟨[],ax⟩,ax,_,rfl,rfl⟩
theorem pK (hft:M.FT=FT)(ff:∀ars h,M.ext 236 ars h=none){b n:Nat}{L:List Int}{e:TypeId}{hp:ab}(hb:hp.at b=some (.cells (aj L) e))(h0:0<n)(hn:n<=L.length)(hl:n<1000000000)(hc:∀c,cap=some c->n<=c) :
 CT M (ic 236) [.sl b 0 n 1 cap] hp ⟨bY b (bh (L.take n)) cap,hp,[]⟩:=by
 have h:=abX (cap:=cap) hft hb hn hl hc;rw[show bY b n cap = .sl b 0 n 1 cap from if_pos h0]at h;exact CT.run (fi:=[]) (ca:=[]) (ff _ _) h
theorem ML {b n:Nat}:bY b n cap = .sl b 0 n 1 cap\/bY b n cap = .vs [] 0 cap/\n=0:=by
 rcases i6 n with rfl|h
 . exact .inr ⟨uo,rfl⟩
 . exact .inl (if_pos h)
theorem pL {st:St}{i b:Nat}{x y:AV}{e:TypeId}(h1:st.pe[i]? = some (.ptr b 0))(h2:st.hp.at b=some (.cells [x,y] e)):dK st [.cell 2 true (.p i)]=some [.agg [x,y]]:=by
 simp only[dK,St.ae,h1,Option.bind_some,gr,h2,List.drop];rfl
theorem MM (hft:M.FT=FT)(ff:∀ars h,M.ext 236 ars h=none){b n:Nat}{L:List Int}{e:TypeId}{hp:ab}(neg:Bool)(hb:hp.at b=some (.cells (aj L) e))(h0:0<n)(hn:n<=L.length)(hl:n<1000000000)(hc:∀c,cap=some c->n<=c) :
 bm M 183 [.bool neg,.sl b 0 n 1 cap] hp ⟨.agg [.bool (neg && decide (0<bh (L.take n))),bY b (bh (L.take n)) cap],hp,[]⟩:=by
 have hbl:=gS hb;have q:=pK (cap:=cap) hft ff (hp:=hp++[some (.cells [.bool false,.ah] 200)]) (cB hb) h0 hn hl hc;have ht:bh (L.take n)<=n:=by have:=js (l:=L.take n);rw[cP]at this;omega
 obtain⟨k,hk⟩:∃k,k=bh (L.take n):=⟨_,rfl⟩;rw[←hk]at q ht ⊢;refine nt (by rw[hft];exact yN) ax (by rcases ML (cap:=cap) (b:=b) (n:=k) with h|⟨h,_⟩ <;> rw[h] <;> simp[AV.top,bO] <;> omega) ?_;unfold uh;simp only[enter];rcases ML (cap:=cap) (b:=b) (n:=k) with h|⟨h,h1⟩
 . rw[h]at q ⊢;by_cases hk0:0<k
   . rw[decide_eq_true hk0,iq];cases neg;all_goals
     . repeat' first|(apply aik;rfl;rfl;exact⟨rfl,by first|exact be _|decide|(simp[overwrite]),rfl⟩;rfl)|apply abx|apply aa|apply abr|apply aaL|apply acG|(apply afg;rfl)|(apply ahU;rfl)|(apply aeq;rfl;rfl)|(apply aeB;rfl;rfl)|(apply aeC;rfl;rfl)|(apply ahW;rfl;rfl;first|exact q)|(apply aes;rfl;rfl;rfl)|(apply abA;rfl;rfl)|(apply abC;rfl;rfl)|(intro _;omega)|intro _
       all_goals try omega
       all_goals exact⟨.inr rfl,rfl,⟨_,rfl⟩,ax,_,pL rfl cj,rfl⟩
   . exfalso;have:k=0:=by omega
     rw[this,uo]at h;cases h
 . rw[h]at q ⊢;subst h1;rw[decide_eq_false ac,oZ];cases neg;all_goals
   . repeat' first|(apply aik;rfl;rfl;exact⟨rfl,by first|exact be _|decide|(simp[overwrite]),rfl⟩;rfl)|apply abx|apply aa|apply abr|apply aaL|apply acG|(apply afg;rfl)|(apply ahU;rfl)|(apply aeq;rfl;rfl)|(apply aeB;rfl;rfl)|(apply aeC;rfl;rfl)|(apply ahW;rfl;rfl;first|exact q)|(apply aes;rfl;rfl;rfl)|(apply abA;rfl;rfl)|(apply abC;rfl;rfl)|(intro _;omega)|intro _
     all_goals try omega
     all_goals exact⟨.inr rfl,rfl,⟨_,rfl⟩,ax,_,pL rfl cj,rfl⟩
end Go.Ab.Ch5.N
