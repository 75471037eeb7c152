/-
  Own work: integers of any size: products.
-/
import Derived.Test.YtmngppcmhfhgaaaGreatDoorLib3
import Derived.Test.YtmngppcmhfhgaaaGreatDoorCh5Base
import Derived.Test.YtmngppcmhfhgaaaGreatDoorLib2
import Derived.Test.YtmngppcmhfhgaaaGreatDoorLib1
import Derived.Lib.Bytealg
open Bool renaming and_eq_true→bc,true_and→cK,false_and→c8,and_true→ib,false_eq_true→i7,false_or→le,not_true→li,true_or→ne,not_false→pB,and_false→pC,and_self→pL
open ByteArray renaming mk→aZ,size→pp
open Int renaming mul_le_mul_of_nonneg_right→b5,mul_le_mul_of_nonneg_left→b6,gcd→ci,lt_of_lt_of_le→c7,emod_lt_of_pos→dr,pow_succ→dU,gcd_pos_of_ne_zero_right→d6,mul_lt_mul_of_pos_right→d9,toNat_natCast→ff,lt_of_le_of_lt→f8,le_of_lt→gc,le_trans→gF,emod_nonneg→ip,ediv_eq_of_eq_mul_right→iB,tmod_eq_emod_of_nonneg→iK,pow_add→ja,mul_ediv_cancel_left→jj,pow_pos→kw,gcd_comm→m5,gcd_dvd_right→m6,pow_zero→m7,ediv_le_self→nz,neg_mul→n3,neg_neg→n4,mul_neg→n5,mul_one→n6,pow_nonneg→pu,toNat→p8
open List renaming getElem?_eq_getElem→aW,getElem!_eq_getElem?_getD→bj,length_cons→b8,length_take→cd,all_eq_true→ce,all_append→cN,nil_append→cV,append_nil→c5,length_append→c6,getElem_mem→db,eq_nil_of_length_eq_zero→dh,all_cons→d8,drop_eq_getElem_cons→fF,dropWhile_cons→fM,length_pos_iff→f6,eq_nil_or_concat→gT,concat_eq_append→gU,range→g9,replicate→i6,getElem?_append_left→i8,mem_of_find?_eq_some→i9,drop_length→jR,mem_range→kM,mem_singleton→mp,all_nil→m8,append_assoc→m9,cons_append→nO,foldl_cons→ox,find?_some→oy,mem_cons→p6,map_cons→p7
open Nat renaming le_refl→az,le_trans→b7,pow_succ→dF,mul_comm→fg,mul_assoc→f7,mul_le_mul_right→ii,eq_zero_or_pos→i5,mod_eq_of_lt→jN,zero_add→j0,strongRecOn→j9,pow_le_pow_right→lc,mod_lt→mn,add_mul→n8,zero_le→n9,gcd→p9
open Option renaming some→k9,map→qo
open Rat renaming divInt→be,num_divInt_den→l9,neg_num→n7,num_divInt→pi,den_divInt→pm
open UInt8 renaming toNat_inj→d7
set_option maxHeartbeats 8000000
set_option maxRecDepth 20000
namespace Go.Ab.Ch5.N
open Go.Ab.aX
variable {M:ax} {cap:Option Nat} {N:Nat}
def t199:ao:=
 zR [zt 50 2 2,
      z1 51 219 50,
      zn 49 51,
      ze 52 0 49,
      ze 53 1 49,
      zw 7 52,
      zw 8 53]
    (
     zR [zt 55 2 3,
       z1 56 219 55,
       zn 54 56,
       ze 57 0 54,
       ze 58 1 54,
       zw 9 57,
       zw 10 58]
     (
      zR [zm 59 7,
        zm 60 9,
        ⟨(.l 61),.eq true .bool (.l 59) (.l 60),none⟩,
        zm 62 8,
        zm 63 10,
        z2 64 262 62 63,
        z2 65 261 61 64,
        zs 2 4 65]
      (.ret)))
theorem jU {x:Int}:0<=al x:=by unfold al;split <;> omega
theorem IU {x y:Int}(h:x<0↔y<0):al x*al y=x*y:=by
 unfold al;by_cases h1:x<0
 . rw[if_pos h1,if_pos (h.1 h1),Int.neg_mul_neg]
 . rw[if_neg h1,if_neg (fun h2=>h1 (h.2 h2))]
theorem IV {x y:Int}(h:¬(x<0↔y<0)) : -(al x*al y)=x*y:=by
 unfold al;by_cases h1:x<0
 . rw[if_pos h1,if_neg (fun h2=>h ⟨fun _=>h2,fun _=>h1⟩),n3,n4]
 . rw[if_neg h1,if_pos (Decidable.byContradiction fun h2=>h ⟨fun h3=>absurd h3 h1,fun h3=>absurd h3 h2⟩),n5,n4]
theorem UF {l m r:List Int}(C:CI M N)(ok:okW wB r)(nr:aR r)(okl:okW wB l)(okm:okW wB m)(hr:WV wB r=WV wB l*WV wB m)(hl:WV wB l<wB^N)(hm:WV wB m<wB^N):r.length<=1000001:=by
 have hN:=C.lN;have hp:wB^(N+N)=wB^N*wB^N:=ja _ _ _;have l0:=cA (b:=wB) am okl;have m0:=cA (b:=wB) am okm;have hp0:0<wB^N:=kw am;have h1:WV wB l*WV wB m<wB^N*wB^N:=by
  have a1:=b6 (gc hm) l0;have a2:=d9 hl hp0;omega
 exact b7 (gu (b:=wB) am ok nr (n:=N+N) (by rw[hr,hp];exact h1)) ac
theorem UG (C:CI M N){s s' za zb:Int}{wa wb:AV}(ha:aN (.agg [.iV s,wa]) za)(hb:aN (.agg [.iV s',wb]) zb)(lza:al za<wB^N)(lzb:al zb<wB^N) :
 ∃v0,aN v0 (za*zb)/\∀a0 a1 a5 a6 a7 a8 a9 aA lo wr,W M t199 ⟨⟨[a0,a1,.ptr 0 0,.ptr 1 0,.ptr 2 0,a5,a6,a7,a8,a9,aA],lo,[some (.cells [.iV s,wa] 171),some (.cells [.iV s',wb] 171),some (.cells [.iV 0,.ab] 171)],[]⟩,wr⟩ (kT v0 [.cell 2 true (.p 4)]):=by
 obtain⟨x,l,hx,okl,nrl,vl,q219a⟩:=C.mz _ za ha;obtain⟨y,m,hy,okm,nrm',vm,q219b⟩:=C.mz _ zb hb;have ll:=C.len okl nrl vl lza;have lm:=C.len okm nrm' vm lzb;obtain⟨r,okr,nrr,vr,q262⟩:=C.IS x l y m hx hy okl okm ll lm;have lr:=UF C okr nrr okl okm vr (by rw[vl];exact lza) (by rw[vm];exact lzb);rw[vl,vm]at vr;by_cases hs:za<0↔zb<0
 . obtain⟨v0,h0,q261⟩:=C.jT false (.vs (an r) r.length none) r (.inl rfl) okr nrr lr;have h0:aN v0 (za*zb):=by rw[←IU hs,←vr];exact h0
   refine⟨v0,h0,fun a0 a1 a5 a6 a7 a8 a9 aA lo wr=>?_⟩;have out:=fun hh=>h0.out (hh:=hh)
   unfold t199;by_cases h:za<0 <;> by_cases h':zb<0 <;> simp only[h,h',decide_true,decide_false]at hs q219a q219b
   all_goals first|(exfalso;revert hs;decide)|skip
   all_goals
   . cases h0;all_goals
     . repeat' first|apply aaQ|apply aa|apply aaf|apply aad|apply abw|(apply abJ;rfl;rfl;first|exact q219a _|exact q219b _|exact q262 _|exact q261 _)|(apply acn;rfl;rfl;rfl)|(apply aea;rfl;rfl;rfl)|(apply abh;rfl;rfl)|(apply abl;rfl;rfl)
       all_goals exact cD rfl rfl (out _)
 . obtain⟨v0,h0,q261⟩:=C.jT true (.vs (an r) r.length none) r (.inl rfl) okr nrr lr;have h0:aN v0 (za*zb):=by rw[←IV hs,←vr];exact h0
   refine⟨v0,h0,fun a0 a1 a5 a6 a7 a8 a9 aA lo wr=>?_⟩;have out:=fun hh=>h0.out (hh:=hh)
   unfold t199;by_cases h:za<0 <;> by_cases h':zb<0 <;> simp only[h,h',decide_true,decide_false]at hs q219a q219b
   all_goals first|(exfalso;revert hs;decide)|skip
   all_goals
   . cases h0;all_goals
     . repeat' first|apply aaQ|apply aa|apply aaf|apply aad|apply abw|(apply abJ;rfl;rfl;first|exact q219a _|exact q219b _|exact q262 _|exact q261 _)|(apply acn;rfl;rfl;rfl)|(apply aea;rfl;rfl;rfl)|(apply abh;rfl;rfl)|(apply abl;rfl;rfl)
       all_goals exact cD rfl rfl (out _)
theorem UH (C:CI M N){a b:AV}{za zb:Int}(ha:aN a za)(hb:aN b zb)(lza:al za<wB^N)(lzb:al zb<wB^N):∃v0,aN v0 (za*zb)/\de M 199 [a,b] v0:=by
 have main:∀{s s':Int} {wa wb:AV},a = .agg [.iV s,wa]->b = .agg [.iV s',wb]->∃v0,aN v0 (za*zb)/\∀a0 a1 a5 a6 a7 a8 a9 aA lo wr,W M t199 ⟨⟨[a0,a1,.ptr 0 0,.ptr 1 0,.ptr 2 0,a5,a6,a7,a8,a9,aA],lo,[some (.cells [.iV s,wa] 171),some (.cells [.iV s',wb] 171),some (.cells [.iV 0,.ab] 171)],[]⟩,wr⟩ (kT v0 [.cell 2 true (.p 4)]):=
  fun e1 e2=>UG C (e1 ▸ ha) (e2 ▸ hb) lza lzb
 cases ha with
 | small h=>
  cases hb with
  | small h'=>
   have q260a:=fun k=>C.rR za k h
   have q260b:=fun k=>C.rR zb k h'
   have ga:0<=al za/\al za<18446744073709551616:=by unfold al;split <;> omega
   have gb:0<=al zb/\al zb<18446744073709551616:=by unfold al;split <;> omega
   have q259:=fun k=>C.nN (al za) (al zb) k ga gb
   have hm:=vn ga gb;have ms:=@IU za zb;have md:=@IV za zb;obtain⟨m,hmm⟩:∃m,m=al za*al zb:=⟨_,rfl⟩;rw[←hmm]at q259 hm ms md;by_cases hbig:m<=9223372036854775807
   . by_cases hs:za<0↔zb<0
     . refine⟨.agg [.iV m,.ab],by rw[←ms hs];exact .small ac,?_⟩;refine du (by rw[C.ft];exact rT) aq ?_;have e:m%18446744073709551616=m:=by omega
       have e2:m/18446744073709551616=0:=by omega
       rw[e,e2]at q259;unfold pU;simp only[enter];by_cases h1:za<0 <;> by_cases h2:zb<0
       all_goals try omega
       all_goals
       . repeat' first|(apply adN;rfl;rfl;(first|(simp only[nca];rfl)|rfl);first|exact q260a _|exact q260b _|exact q259 _)|apply aaQ|apply aa|apply aaf|apply aad|apply abw|apply abC|apply aU|apply adr|apply adI|(apply adO;rfl)|(apply adJ;rfl;rfl;(first|(simp only[nca];rfl)|rfl))|(apply abz;rfl)|(apply abx;rfl)|(apply acF;rfl)|(apply abR;rfl;rfl)|(apply adZ;rfl;rfl)|(apply acR;rfl;rfl)|(apply aen;rfl;omega)|(apply aco;rfl;rfl)|(apply adS;rfl;rfl;exact⟨rfl,by first|exact az _|decide|(simp[overwrite]),rfl⟩;rfl)|(apply adR;rfl;(first|(focus((repeat' first|exact bS|assumption|apply cm);done))|exact cJ aq);rfl)|(apply abU;rfl;rfl;rfl)|(apply abh;rfl;rfl)|(apply abl;rfl;rfl)|(intro _;omega)|intro _
         all_goals try omega
         all_goals exact cD rfl rfl (.same rfl rfl)
     . refine⟨.agg [.iV (-m),.ab],by rw[←md hs];exact .small ac,?_⟩;refine du (by rw[C.ft];exact rT) aq ?_;have e:m%18446744073709551616=m:=by omega
       have e2:m/18446744073709551616=0:=by omega
       rw[e,e2]at q259;unfold pU;simp only[enter];by_cases h1:za<0 <;> by_cases h2:zb<0
       all_goals try omega
       all_goals
       . repeat' first|(apply adN;rfl;rfl;(first|(simp only[nca];rfl)|rfl);first|exact q260a _|exact q260b _|exact q259 _)|apply aaQ|apply aa|apply aaf|apply aad|apply abw|apply aU|apply adr|apply adI|(apply adO;rfl)|(apply adJ;rfl;rfl;(first|(simp only[nca];rfl)|rfl))|(apply abz;rfl)|(apply acF;rfl)|(apply abR;rfl;rfl)|(apply adZ;rfl;rfl)|(apply acR;rfl;rfl)|(apply aen;rfl;omega)|(apply aco;rfl;rfl)|(apply adS;rfl;rfl;exact⟨rfl,by first|exact az _|decide|(simp[overwrite]),rfl⟩;rfl)|(apply adR;rfl;(first|(focus((repeat' first|exact bS|assumption|apply cm);done))|exact cJ aq);rfl)|(apply aeD;rfl;omega)|(apply abU;rfl;rfl;rfl)|(apply abh;rfl;rfl)|(apply abl;rfl;rfl)|(intro _;omega)|intro _
         all_goals try omega
         all_goals exact cD rfl rfl (.same rfl rfl)
   . obtain⟨v0,h0,tl⟩:=main rfl rfl;refine⟨v0,h0,du (by rw[C.ft];exact rT) aq ?_⟩;unfold pU;simp only[enter];repeat' first|(exact tl _ _ _ _ _ _ _ _ _ _)|(apply adN;rfl;rfl;(first|(simp only[nca];rfl)|rfl);first|exact q260a _|exact q260b _|exact q259 _)|apply aaQ|apply aa|apply aaf|apply aad|apply abC|apply adr|apply adI|(apply adO;rfl)|(apply adJ;rfl;rfl;(first|(simp only[nca];rfl)|rfl))|(apply abz;rfl)|(apply abx;rfl)|(apply acF;rfl)|(apply adu;rfl)|(apply adZ;rfl;rfl)|(apply acR;rfl;rfl)|(apply aco;rfl;rfl)|(apply acw;rfl;rfl)|(apply adR;rfl;(first|(focus((repeat' first|exact bS|assumption|apply cm);done))|exact cJ aq);rfl)|(apply abU;rfl;rfl;rfl)|(apply abh;rfl;rfl)|(apply abl;rfl;rfl)|(intro _;omega)|intro _
     all_goals try omega
  | @fG σ z w hs ok nr hw hz=>
   cases w with
   | nil=>simp[WV]at hw
   | cons y w=>
   obtain⟨v0,h0,tl⟩:=main rfl rfl;refine⟨v0,h0,du (by rw[C.ft];exact rT) aq ?_⟩;unfold pU;simp only[enter];repeat' first|(exact tl _ _ _ _ _ _ _ _ _ _)|apply aaQ|apply aa|apply aaf|apply aad|apply abC|(apply abx;rfl)|(apply acF;rfl)|(apply aco;rfl;rfl)|(apply adR;rfl;(first|(focus((repeat' first|exact bS|assumption|apply cm);done))|exact cJ aq);rfl)|(apply abU;rfl;rfl;rfl)|(apply abh;rfl;rfl)
 | @fG σ z w hs ok nr hw hz=>
  cases w with
  | nil=>simp[WV]at hw
  | cons y w=>
  cases hb;all_goals
  . obtain⟨v0,h0,tl⟩:=main rfl rfl;refine⟨v0,h0,du (by rw[C.ft];exact rT) aq ?_⟩;unfold pU;simp only[enter];repeat' first|(exact tl _ _ _ _ _ _ _ _ _ _)|apply aaQ|apply aa|apply aaf|apply aad|apply abC|(apply abx;rfl)|(apply adu;rfl)|(apply acw;rfl;rfl)|(apply adR;rfl;(first|(focus((repeat' first|exact bS|assumption|apply cm);done))|exact cJ aq);rfl)|(apply abU;rfl;rfl;rfl)|(apply abh;rfl;rfl)
structure CD (M:ax)(N:Nat):Prop extends CJ M N where
 n1:1<=N
 mC:∀s h,M.ext 196 [.iV s] h=some ⟨.agg [.iV s,.ab],h,[]⟩
 IW:∀x l y m,dw x l->dw y m->okW wB l->okW wB m->aR l->aR m->l.length<=500000->m.length<=500000->m≠[]->∃qv q rv r,dw qv q/\dw rv r/\okW wB q/\aR q/\okW wB r/\aR r/\WV wB q=WV wB l/WV wB m/\WV wB r=WV wB l%WV wB m/\∀h,M.ext 220 [x,y] h=some ⟨.ay [qv,rv],h,[]⟩
def t299:ao:=
 zR [zt 52 2 2,
      z1 53 219 52,
      zn 51 53,
      ze 54 0 51,
      ze 55 1 51,
      zw 8 54,
      zw 9 55]
    (
     zR [zt 57 2 3,
       z1 58 219 57,
       zn 56 58,
       ze 59 0 56,
       ze 60 1 56,
       zn 10 59,
       zw 10 60]
     (
      zR [zm 62 9,
        zm 63 10,
        z2 64 220 62 63,
        zn 61 64,
        ze 65 0 61,
        ze 66 1 61,
        zw 11 65,
        zw 12 66]
      (
       zR [zm 67 8,
         zm 68 11,
         z2 69 261 67 68,
         zm 70 8,
         zm 71 12,
         z2 72 261 70 71,
         ⟨(.p 13),.alloc 171 [.iV (0),.ab],none⟩,
         ⟨(.p 14),.alloc 171 [.iV (0),.ab],none⟩,
         zs 2 13 69,
         zs 2 14 72]
       (
        .seq (zR [zt 73 2 14,
           z1 74 230 73,
           zc 75 .lss 74 0]
         (
          .cond (.l 75)
          (.draw [(zt 76 2 13,[]),
            (⟨(.l 77),.call (kF 196) [(kI 1)],none⟩,[0]),
            (z2 78 263 76 77,[]),
            (zt 79 2 14,[0,1,2]),
            (zt 80 2 3,[0,1,2,3]),
            (z2 81 253 79 80,[]),
            (zs 2 13 78,[]),
            (zs 2 14 81,[])])
          (.skip)))
        (
         .seq (.draw [(zt 82 2 13,[]),
           (zt 83 2 14,[0]),
           (zs 2 4 82,[1]),
           (zs 2 5 83,[])])
         (.ret))))))
theorem UI {x y:Int}(hy:0<y):(x.tmod y<0->x/y=x.tdiv y-1/\x%y=x.tmod y+y)/\(0<=x.tmod y->x/y=x.tdiv y/\x%y=x.tmod y)/\(-y<x.tmod y/\x.tmod y<y):=by
 have e:=Int.mul_tdiv_add_tmod x y;have hb : -y<x.tmod y/\x.tmod y<y:=by
  rcases Int.le_total 0 x with h|h
  . rw[iK h];have:=ip x (show y≠0 by omega);have:=dr x hy;omega
  . have e:x.tmod y = -(-x%y):=by
     rw[←iK (show 0 <= -x by omega),Int.neg_tmod];omega
    have:=ip (-x) (show y≠0 by omega);have:=dr (-x) hy;omega
 refine⟨fun h=>?_,fun h=>?_,hb⟩
 . obtain⟨h1,h2⟩:=nP (x:=x) (y:=y) (q:=x.tdiv y-1) (r:=x.tmod y+y) (by rw[Int.mul_sub,n6];omega) ac ac;exact⟨h1.symm,h2.symm⟩
 . obtain⟨h1,h2⟩:=nP (x:=x) (y:=y) (q:=x.tdiv y) (r:=x.tmod y) ac h hb.2;exact⟨h1.symm,h2.symm⟩
theorem UJ {x y q r:Int}(hy:0<y)(hx:x<0)(hq:q = -x/y)(hr:r = -x%y):(r=0->x/y = -q/\x%y=0)/\(r≠0->x/y = -q-1/\x%y=y-r)/\(0<=r/\r<y)/\0<=q/\q <= -x:=by
 have e:=Int.mul_ediv_add_emod (-x) y;have r0:=ip (-x) (show y≠0 by omega);have r1:=dr (-x) hy;have q0:0 <= -x/y:=Int.ediv_nonneg ac ac;have q1 : -x/y <= -x:=nz _ ac;rw[←hq,←hr]at e;rw[←hr]at r0 r1;rw[←hq]at q0 q1;refine⟨fun h=>?_,fun h=>?_,⟨r0,r1⟩,q0,q1⟩
 . obtain⟨h1,h2⟩:=nP (x:=x) (y:=y) (q:=-q) (r:=0) (by rw[n5];omega) ac hy;exact⟨h1.symm,h2.symm⟩
 . obtain⟨h1,h2⟩:=nP (x:=x) (y:=y) (q:=-q-1) (r:=y-r) (by rw[Int.mul_sub,n5,n6];omega) ac ac;exact⟨h1.symm,h2.symm⟩
theorem Cn {a b:AV}{x y:Int}{hh:ae}(ha:aN a x)(hb:aN b y):dQ (aV [a,b]) hh (.ay [a,b]):=by
 cases ha;all_goals
 . cases hb;all_goals exact .same (by simp[aV,AV.top,bz,ij]) (by simp[aV,bD,cC,kS])
theorem fu {x:Int}(h:0<=x):al x=x:=if_neg ac
theorem UK (C:CD M N):(1:Int)<wB^N:=by
 have h:=ie (b:=wB) am (m:=1) (n:=N) C.n1;have h3:wB^1=18446744073709551616:=rfl;omega
theorem UL (C:CD M N){s s' za zb:Int}{wa wb:AV}(ha:aN (.agg [.iV s,wa]) za)(hb:aN (.agg [.iV s',wb]) zb)(lza:al za<wB^N)(lzb:al zb<wB^N)(hpos:0<zb) :
 ∃q r,aN q (za/zb)/\aN r (za%zb)/\∀a0 a1 a6 a7 a8 a9 aA aB aC aD aE lo wr,W M t299 ⟨⟨[a0,a1,.ptr 0 0,.ptr 1 0,.ptr 2 0,.ptr 3 0,a6,a7,a8,a9,aA,aB,aC,aD,aE],lo,[some (.cells [.iV s,wa] 171),some (.cells [.iV s',wb] 171),some (.cells [.iV 0,.ab] 171),some (.cells [.iV 0,.ab] 171)],[]⟩,wr⟩ (kT (.ay [q,r]) [.cell 2 true (.p 4),.cell 2 true (.p 5)]):=by
 obtain⟨x,l,hx,okl,nrl,vl,q219a⟩:=C.mz _ za ha;obtain⟨y,m,hy,okm,nrm',vm,q219b⟩:=C.mz _ zb hb;have ll:=C.len okl nrl vl lza;have lm:=C.len okm nrm' vm lzb;have hb0:¬zb<0:=by omega
 rw[fu ac]at vm lzb;have mne:m≠[]:=fun e=>by rw[e]at vm;simp[WV]at vm;omega
 obtain⟨qv,q,rv,r,hq,hr,okq,nrq,okr,nrr,vq,vr,q220⟩:=C.IW x l y m hx hy okl okm nrl nrm' ll lm mne;rw[vl,vm]at vq vr;have q0:=cA (b:=wB) am okq;have r0:=cA (b:=wB) am okr;have a0:=jU (x:=za);have q1:WV wB q<=al za:=by rw[vq];exact nz _ a0
 have r1:WV wB r<zb:=by rw[vr];exact dr _ hpos
 have lN:=C.lN;have lq:q.length<=1000001:=b7 (gu (b:=wB) am okq nrq (n:=N) ac) ac;have lr:r.length<=1000001:=b7 (gu (b:=wB) am okr nrr (n:=N) ac) ac;simp only[hb0,decide_false]at q219b;by_cases hn:za<0
 . simp only[hn,decide_true]at q219a;rw[show al za = -za from if_pos hn]at vq vr q1 lza;obtain⟨d1,d2,d3,d4,d5⟩:=UJ hpos hn vq vr;obtain⟨vQ,hQ,q261q⟩:=C.jT true qv q hq okq nrq lq;obtain⟨vR,hR,q261r⟩:=C.jT true rv r hr okr nrr lr;have hQ:aN vQ (-WV wB q):=hQ;have hR:aN vR (-WV wB r):=hR;have q230:=C.mB vR _ hR;by_cases hz:WV wB r=0
   . obtain⟨e1,e2⟩:=d1 hz;rw[show br (-WV wB r)=0 by rw[hz];rfl]at q230;refine⟨vQ,vR,by rw[e1];exact hQ,by rw[e2];rw[hz]at hR;exact hR,fun a0 a1 a6 a7 a8 a9 aA aB aC aD aE lo wr=>?_⟩;have out:=fun hh=>Cn (hh:=hh) hQ hR
     unfold t299;cases hQ;all_goals
     . cases hR;all_goals
       . repeat' first|apply aaQ|apply aa|apply aaf|apply aad|apply abw|apply abC|apply adr|apply adI|(apply adJ;rfl;rfl;(first|(simp only[nca];rfl)|rfl))|(apply adW;rfl;(first|(simp only[nca];rfl)|rfl);(first|(simp only[nca];rfl)|rfl))|(apply abx;rfl)|(apply abR;rfl;rfl)|(apply abJ;rfl;rfl;first|exact q219a _|exact q219b _|exact q220 _|exact q261q _|exact q261r _|exact q230 _)|(apply acn;rfl;rfl;rfl)|(apply abU;rfl;rfl;rfl)|(apply aea;rfl;rfl;rfl)|(apply abh;rfl;rfl)|(apply abl;rfl;rfl)|(intro _;omega)|intro _
         all_goals try omega
         all_goals exact cD rfl rfl (out _)
   . obtain⟨e1,e2⟩:=d2 hz;rw[show br (-WV wB r) = -1 from if_pos ac]at q230;have q196:=C.mC 1;have h1:=UK C;obtain⟨vS,hS,q263⟩:=C.Cm vQ _ _ 1 hQ (.small am) (by rw[jt,fu q0];omega) h1;obtain⟨vT,hT,q253⟩:=C.vD vR _ _ zb hR hb (by rw[jt,fu r0];omega) (by rw[fu ac];exact lzb);have hS:aN vS (za/zb):=by rw[e1];exact hS
     have hT:aN vT (za%zb):=by rw[e2,show zb-WV wB r = -WV wB r+zb by omega];exact hT
     refine⟨vS,vT,hS,hT,fun a0 a1 a6 a7 a8 a9 aA aB aC aD aE lo wr=>?_⟩;have out:=fun hh=>Cn (hh:=hh) hS hT
     unfold t299;cases hQ;all_goals
     . cases hR;all_goals
       . cases hS;all_goals
         . cases hT;all_goals
           . repeat' first|(apply adN;rfl;rfl;(first|(simp only[nca];rfl)|rfl);first|exact q196 _|exact q263 _|exact q253 _)|apply aaQ|apply aa|apply aaf|apply aad|apply abw|apply adr|apply adI|(apply adJ;rfl;rfl;(first|(simp only[nca];rfl)|rfl))|(apply adW;rfl;(first|(simp only[nca];rfl)|rfl);(first|(simp only[nca];rfl)|rfl))|(apply abz;rfl)|(apply abR;rfl;rfl)|(apply abJ;rfl;rfl;first|exact q219a _|exact q219b _|exact q220 _|exact q261q _|exact q261r _|exact q230 _)|(apply acn;rfl;rfl;rfl)|(apply abU;rfl;rfl;rfl)|(apply aea;rfl;rfl;rfl)|(apply abh;rfl;rfl)|(apply abl;rfl;rfl)|(intro _;omega)|intro _
             all_goals try omega
             all_goals exact cD rfl rfl (out _)
 . simp only[hn,decide_false]at q219a;rw[show al za=za from if_neg hn]at vq vr;obtain⟨vQ,hQ,q261q⟩:=C.jT false qv q hq okq nrq lq;obtain⟨vR,hR,q261r⟩:=C.jT false rv r hr okr nrr lr;have hQ:aN vQ (za/zb):=by rw[←vq];exact hQ
   have q230:=C.mB vR _ hR;have hR:aN vR (za%zb):=by rw[←vr];exact hR
   obtain⟨g,hg⟩:∃g,g=br (gg false (WV wB r)):=⟨_,rfl⟩;have g0:0<=g:=by rw[hg];unfold br gg;simp;split <;> omega
   rw[←hg]at q230;refine⟨vQ,vR,hQ,hR,fun a0 a1 a6 a7 a8 a9 aA aB aC aD aE lo wr=>?_⟩;have out:=fun hh=>Cn (hh:=hh) hQ hR
   unfold t299;cases hQ;all_goals
   . cases hR;all_goals
     . repeat' first|apply aaQ|apply aa|apply aaf|apply aad|apply abw|apply abC|apply adr|apply adI|(apply adJ;rfl;rfl;(first|(simp only[nca];rfl)|rfl))|(apply adW;rfl;(first|(simp only[nca];rfl)|rfl);(first|(simp only[nca];rfl)|rfl))|(apply abx;rfl)|(apply abR;rfl;rfl)|(apply abJ;rfl;rfl;first|exact q219a _|exact q219b _|exact q220 _|exact q261q _|exact q261r _|exact q230 _)|(apply acn;rfl;rfl;rfl)|(apply abU;rfl;rfl;rfl)|(apply aea;rfl;rfl;rfl)|(apply abh;rfl;rfl)|(apply abl;rfl;rfl)|(intro _;omega)|intro _
       all_goals try omega
       all_goals exact cD rfl rfl (out _)
theorem UM (C:CD M N){a b:AV}{za zb:Int}(ha:aN a za)(hb:aN b zb)(lza:al za<wB^N)(lzb:al zb<wB^N)(hpos:0<zb):∃q r,aN q (za/zb)/\aN r (za%zb)/\de M 299 [a,b] (.ay [q,r]):=by
 have main:∀{s s':Int} {wa wb:AV},a = .agg [.iV s,wa]->b = .agg [.iV s',wb]->∃q r,aN q (za/zb)/\aN r (za%zb)/\∀a0 a1 a6 a7 a8 a9 aA aB aC aD aE lo wr,W M t299 ⟨⟨[a0,a1,.ptr 0 0,.ptr 1 0,.ptr 2 0,.ptr 3 0,a6,a7,a8,a9,aA,aB,aC,aD,aE],lo,[some (.cells [.iV s,wa] 171),some (.cells [.iV s',wb] 171),some (.cells [.iV 0,.ab] 171),some (.cells [.iV 0,.ab] 171)],[]⟩,wr⟩ (kT (.ay [q,r]) [.cell 2 true (.p 4),.cell 2 true (.p 5)]):=
  fun e1 e2=>UL C (e1 ▸ ha) (e2 ▸ hb) lza lzb hpos
 cases ha with
 | small h=>
  cases hb with
  | small h'=>
   by_cases hmin:za = -9223372036854775808
   . obtain⟨q,r,hq,hr,tl⟩:=main rfl rfl;refine⟨q,r,hq,hr,du (by rw[C.ft];exact rU) aq ?_⟩;unfold pW;simp only[enter];repeat' first|(exact tl _ _ _ _ _ _ _ _ _ _ _ _ _)|apply aaQ|apply aa|apply aaf|apply aad|apply abC|(apply abx;rfl)|(apply acF;rfl)|(apply adf;rfl;rfl)|(apply aco;rfl;rfl)|(apply acn;rfl;rfl;rfl)|(apply abU;rfl;rfl;rfl)|(apply abh;rfl;rfl)|(intro _;omega)|intro _
     all_goals try omega
   . obtain⟨d1,d2,d3⟩:=UI (x:=za) hpos;have hq : -9223372036854775807<=za.tdiv zb/\za.tdiv zb<=9223372036854775807:=by
      have h1:(za.tdiv zb).natAbs<=za.natAbs:=by rw[Int.natAbs_tdiv];exact Nat.div_le_self _ _
      omega
     by_cases hr:za.tmod zb<0
     . obtain⟨e1,e2⟩:=d1 hr;refine⟨_,_,by rw[e1];exact .small ac,by rw[e2];exact .small ac,du (by rw[C.ft];exact rU) aq ?_⟩;unfold pW;simp only[enter];repeat' first|apply aaQ|apply aa|apply aaf|apply aad|apply abw|apply aU|(apply adX;rfl)|(apply abz;rfl)|(apply acF;rfl)|(apply abR;rfl;rfl)|(apply adf;rfl;rfl)|(apply aco;rfl;rfl)|(apply acS;rfl;rfl;omega)|(apply adj;rfl;rfl;omega)|(apply aez;rfl;rfl;omega)|(apply aey;rfl;rfl;omega;omega)|(apply acn;rfl;rfl;rfl)|(apply abU;rfl;rfl;rfl)|(apply aea;rfl;rfl;rfl)|(apply abh;rfl;rfl)|(apply abl;rfl;rfl)|(intro _;omega)|intro _
       all_goals try omega
       all_goals exact cD rfl rfl (.same rfl rfl)
     . obtain⟨e1,e2⟩:=d2 ac;refine⟨_,_,by rw[e1];exact .small ac,by rw[e2];exact .small ac,du (by rw[C.ft];exact rU) aq ?_⟩;unfold pW;simp only[enter];repeat' first|apply aaQ|apply aa|apply aaf|apply aad|apply abw|apply abC|apply aU|(apply adX;rfl)|(apply abz;rfl)|(apply abx;rfl)|(apply acF;rfl)|(apply abR;rfl;rfl)|(apply adf;rfl;rfl)|(apply aco;rfl;rfl)|(apply aez;rfl;rfl;omega)|(apply aey;rfl;rfl;omega;omega)|(apply acn;rfl;rfl;rfl)|(apply abU;rfl;rfl;rfl)|(apply aea;rfl;rfl;rfl)|(apply abh;rfl;rfl)|(apply abl;rfl;rfl)|(intro _;omega)|intro _
       all_goals try omega
       all_goals exact cD rfl rfl (.same rfl rfl)
  | @fG σ z w hs ok nr hw hz=>
   cases w with
   | nil=>simp[WV]at hw
   | cons y w=>
   obtain⟨q,r,hq,hr,tl⟩:=main rfl rfl;refine⟨q,r,hq,hr,du (by rw[C.ft];exact rU) aq ?_⟩;unfold pW;simp only[enter];repeat' first|(exact tl _ _ _ _ _ _ _ _ _ _ _ _ _)|apply aaQ|apply aa|apply aaf|apply aad|apply abC|(apply abx;rfl)|(apply acF;rfl)|(apply adu;rfl)|(apply aco;rfl;rfl)|(apply acw;rfl;rfl)|(apply acn;rfl;rfl;rfl)|(apply abU;rfl;rfl;rfl)|(apply abh;rfl;rfl)
 | @fG σ z w hs ok nr hw hz=>
  cases w with
  | nil=>simp[WV]at hw
  | cons y w=>
  cases hb;all_goals
  . obtain⟨q,r,hq,hr,tl⟩:=main rfl rfl;refine⟨q,r,hq,hr,du (by rw[C.ft];exact rU) aq ?_⟩;unfold pW;simp only[enter];repeat' first|(exact tl _ _ _ _ _ _ _ _ _ _ _ _ _)|apply aaQ|apply aa|apply aaf|apply aad|apply abC|(apply abx;rfl)|(apply adu;rfl)|(apply acw;rfl;rfl)|(apply acn;rfl;rfl;rfl)|(apply abU;rfl;rfl;rfl)|(apply abh;rfl;rfl)
structure CQ (M:ax)(N:Nat):Prop extends CD M N where
 vE:∀a b x y,aN a x->aN b y->al x<wB^N->al y<wB^N->0<y->∃q r,aN q (x/y)/\aN r (x%y)/\∀h,M.ext 299 [a,b] h=some ⟨.ay [q,r],h,[]⟩
theorem eE {k:IntKind}{n:Int}:cI (.int k n)=true:=rfl
theorem fR:cI .ab=true:=rfl
theorem aN.shape {v:AV}{z:Int}(h:aN v z):∃s w,v = .agg [.iV s,w]/\cI w=true/\w.top=0/\bD w=w:=by
 cases h with
 | small=>exact⟨_,_,rfl,rfl,rfl,rfl⟩
 | @fG σ z w=>exact⟨_,_,rfl,rfl,ij _,by rw[bD,kS]⟩
theorem aN.one {s:Int}{w:AV}{z:Int}(h:aN (.agg [.iV s,w]) z):cI w=true/\w.top=0/\bD w=w:=by
 obtain⟨s',w',e,h⟩:=h.shape;cases e;exact h
theorem UN (C:CQ M N){a b:AV}{x y k:Int}(ha:aN a x)(hb:aN b y)(lx:al x<wB^N)(ly:al y<wB^N)(hy:y≠0)(hk:x=y*k):∃v0,aN v0 k/\de M 258 [a,b] v0:=by
 have q230:=C.mB b y hb;by_cases hn:y<0
 . rw[show br y = -1 from if_pos hn]at q230;obtain⟨va,h1,q201a⟩:=C.mA a x ha lx;obtain⟨vb,h2,q201b⟩:=C.mA b y hb ly;have h1:aN va (-x):=h1;have h2:aN vb (-y):=h2;obtain⟨q,r,hq,hr,q299⟩:=C.vE va vb _ _ h1 h2 (by rw[jt];exact lx) (by rw[jt];exact ly) ac;have hq:aN q k:=by
    have : -x / -y=k:=by rw[hk,←n3,jj _ ac]
    rw[←this];exact hq
   refine⟨q,hq,du (by rw[C.ft];exact IN) aq ?_⟩;have out:=fun hh=>hq.out (hh:=hh)
   obtain⟨_,_,rfl,o1,_⟩:=ha.shape;obtain⟨_,_,rfl,o2,_⟩:=hb.shape;obtain⟨_,_,rfl,o3,_⟩:=hq.shape;obtain⟨_,_,rfl,o4,_⟩:=hr.shape;obtain⟨_,_,rfl,o5,_⟩:=h1.shape;obtain⟨_,_,rfl,o6,_⟩:=h2.shape;unfold Ci;simp only[enter];repeat' first|(apply abJ;rfl;rfl;first|exact q230 _|exact q201a _|exact q201b _|exact q299 _)|(apply adN;rfl;rfl;(first|(simp only[nca];rfl)|rfl);first|exact q230 _|exact q201a _|exact q201b _|exact q299 _)|(apply adM;rfl;rfl;rfl;exact⟨rfl,az _,by simp[overwrite,eE,o3,o4,o5,o6]⟩;rfl)|apply aaQ|apply aa|apply aaf|apply aad|apply abw|apply adr|apply adI|(apply adJ;rfl;rfl;(first|(simp only[nca];rfl)|rfl))|(apply adW;rfl;(first|(simp only[nca];rfl)|rfl);(first|(simp only[nca];rfl)|rfl))|(apply abz;rfl)|(apply abR;rfl;rfl)|(apply acn;rfl;rfl;rfl)|(apply abU;rfl;rfl;rfl)|(apply abh;rfl;rfl)|(intro _;omega)|intro _
   all_goals try omega
   all_goals exact cD rfl rfl (out _)
 . obtain⟨g,hg⟩:∃g,g=br y:=⟨_,rfl⟩;have g0:0<=g:=by rw[hg];unfold br;split <;> (first|omega|(split <;> omega))
   rw[←hg]at q230;obtain⟨q,r,hq,hr,q299⟩:=C.vE a b _ _ ha hb lx ly ac;have hq:aN q k:=by
    have:x/y=k:=by rw[hk,jj _ ac]
    rw[←this];exact hq
   refine⟨q,hq,du (by rw[C.ft];exact IN) aq ?_⟩;have out:=fun hh=>hq.out (hh:=hh)
   obtain⟨_,_,rfl,o1,_⟩:=ha.shape;obtain⟨_,_,rfl,o2,_⟩:=hb.shape;obtain⟨_,_,rfl,o3,_⟩:=hq.shape;obtain⟨_,_,rfl,o4,_⟩:=hr.shape;unfold Ci;simp only[enter];repeat' first|(apply abJ;rfl;rfl;first|exact q230 _|exact q299 _)|(apply adM;rfl;rfl;rfl;exact⟨rfl,az _,by simp[overwrite,eE,o3,o4]⟩;rfl)|apply aaQ|apply aa|apply aaf|apply aad|apply abw|apply abC|(apply abx;rfl)|(apply abR;rfl;rfl)|(apply acn;rfl;rfl;rfl)|(apply abU;rfl;rfl;rfl)|(apply abh;rfl;rfl)|(intro _;omega)|intro _
   all_goals try omega
   all_goals exact cD rfl rfl (out _)
set_option maxRecDepth 1000000
def pY:ao:=.seq (zR [zm 7 1,zc 8 .gtr 7 0] (.cond (.l 8) (.skip) (.exit 0))) (.seq (.block 1 (.seq (zR [zm 11 1,zc 12 .and 11 1,zc 13 .eql 12 1] (.cond (.l 13) (.region [zt 14 2 4,zt 15 2 2,z2 16 199 14 15,zs 2 4 16]) (.skip))) (zR [zm 17 1,zc 18 .gtr 17 1] (.cond (.l 18) (.region [zt 19 2 2,zt 20 2 2,z2 21 199 19 20,zs 2 2 21]) (.skip))))) (.region [zm 9 1,⟨.l 10,.bin .shr (.l 9) (kU 1),none⟩,zw 1 10]))
def IX:ao:=zR [zx 2 171 2 0,⟨.p 3,.alloc 171 [.iV (0),.ab],none⟩] (zR [⟨.l 6,.call (kF 196) [(kI 1)],none⟩,⟨.p 4,.alloc 171 [.iV (0),.ab],none⟩,zs 2 4 6] (.seq (.block 0 (.loop pY)) (zR [zt 22 2 4,zs 2 3 22] (.ret))))
theorem UO:FT 284=some ⟨23,[0,1,2,4,5],[.cell 2 true (.p 3)],IX⟩:=by kernel_rfl
def IY:ao:=zR [⟨.p 1,.alloc 173 [.iV (0),.ab,.iV (0),.ab],none⟩] (zR [zm 3 0,z1 4 196 3,z1 5 195 4,zs 4 1 5] (.ret))
theorem UP:FT 143=some ⟨6,[0,2],[.cell 4 true (.p 1)],IY⟩:=by kernel_rfl
def IZ:ao:=zR [zx 1 171 2 0,⟨.p 2,.alloc 173 [.iV (0),.ab,.iV (0),.ab],none⟩] (.seq (.draw [(zt 3 2 1,[]),(⟨.l 4,.call (kF 196) [(kI 1)],none⟩,[0]),(⟨.l 5,.build [.iV (0),.ab,.iV (0),.ab] [(0,2,(.l 3)),(2,2,(.l 4))],none⟩,[]),(zs 4 2 5,[])]) (.ret))
theorem UQ:FT 195=some ⟨6,[0,1,2],[.cell 4 true (.p 2)],IZ⟩:=by kernel_rfl
def Co:ao:=zR [zx 2 171 2 0,zx 3 171 2 1,⟨.p 4,.alloc 173 [.iV (0),.ab,.iV (0),.ab],none⟩] (.seq (zR [zt 6 2 3,z1 7 230 6,zc 8 .lss 7 0] (.cond (.l 8) (.draw [(zt 9 2 2,[]),(z1 10 201 9,[]),(zt 11 2 3,[0,1]),(z1 12 201 11,[]),(zs 2 2 10,[]),(zs 2 3 12,[])]) (.skip))) (.seq (zR [zf 13 1 3,zd 14 1 13,⟨.l 15,.eq false (.ref .slice) (.l 14) (.c (.ab)),none⟩,zn 16 15,zg (zf 17 0 3) 16 true,zg (zd 18 1 17) 16 true,zg (zc 19 .eql 18 1) 16 true,zp 20 16 19] (.cond (.l 20) (zR [zt 21 2 2,zt 22 2 3,⟨.l 23,.build [.iV (0),.ab,.iV (0),.ab] [(0,2,(.l 21)),(2,2,(.l 22))],none⟩,zs 4 4 23] (.ret)) (.skip))) (zR [zt 24 2 2,zt 25 2 3,z2 26 229 24 25,⟨.p 5,.alloc 171 [.iV (0),.ab],none⟩,zs 2 5 26] (.seq (.draw [(zt 27 2 2,[]),(zt 28 2 5,[0]),(z2 29 258 27 28,[]),(zt 30 2 3,[0,1,2]),(zt 31 2 5,[0,1,2,3]),(z2 32 258 30 31,[]),(⟨.l 33,.build [.iV (0),.ab,.iV (0),.ab] [(0,2,(.l 29)),(2,2,(.l 32))],none⟩,[]),(zs 4 4 33,[])]) (.ret)))))
theorem Ja:FT 198=some ⟨34,[0,1,2,3,4,5],[.cell 4 true (.p 4)],Co⟩:=by kernel_rfl
def Jb:ao:=zR [zx 2 173 4 0,zx 3 173 4 1,zi 4 0] (.seq (.draw [(zf 5 0 2,[]),(zT 6 2 5,[]),(zf 7 2 3,[0,1]),(zT 8 2 7,[0,1]),(z2 9 199 6 8,[]),(zf 10 0 3,[0,1,2,3,4]),(zT 11 2 10,[0,1,2,3,4]),(zf 12 2 2,[0,1,2,3,4,5,6]),(zT 13 2 12,[0,1,2,3,4,5,6]),(z2 14 199 11 13,[]),(z2 15 200 9 14,[]),(zw 4 15,[])]) (.ret))
theorem UR:FT 147=some ⟨16,[0,1,2,3,4],[.var (.p 4)],Jb⟩:=by kernel_rfl
def Jc:ao:=zR [zx 1 173 4 0,zi 2 0] (zR [zf 3 0 1,zT 4 2 3,z1 5 230 4,zw 2 5] (.ret))
theorem US:FT 173=some ⟨6,[0,1,2],[.var (.p 2)],Jc⟩:=by kernel_rfl
def ju (v:AV)(n d:Int):Prop:=∃s w s' w',v = .agg [.iV s,w,.iV s',w']/\aN (.agg [.iV s,w]) n/\aN (.agg [.iV s',w']) d
theorem ju.out {v:AV}{n d:Int}{hh:ae}(h:ju v n d):dQ (aV [v]) hh v:=by
 obtain⟨s,w,s',w',rfl,h1,h2⟩:=h;obtain⟨_,t1,c1⟩:=h1.one;obtain⟨_,t2,c2⟩:=h2.one;exact .same (by simp[aV,AV.top,bz,t1,t2]) (by simp[aV,bD,cC,c1,c2])
structure CF (M:ax)(N:Nat):Prop extends CQ M N where
 Cp:∀v z,aN v z->∃v0,ju v0 z 1/\∀h,M.ext 195 [v] h=some ⟨v0,h,[]⟩
 Cq:∀a b x y,aN a x->aN b y->al x<wB^N->al y<wB^N->∀h,M.ext 200 [a,b] h=some ⟨.iV (br (x-y)),h,[]⟩
 pZ:vC M N 199 (· * ·)
theorem UT (C:CD M N){v:AV}{z:Int}(hv:aN v z):∃v0,ju v0 z 1/\de M 195 [v] v0:=by
 obtain⟨s,w,rfl,o1,_⟩:=hv.shape;have q196:=C.mC 1;have hf:ju (.agg [.iV s,w,.iV 1,.ab]) z 1:=⟨_,_,_,_,rfl,hv,.small am⟩;refine⟨_,hf,du (by rw[C.ft];exact UQ) aq ?_⟩;have out:=fun hh=>hf.out (hh:=hh)
 unfold IZ;simp only[enter];repeat' first|(apply adN;rfl;rfl;(first|(simp only[nca];rfl)|rfl);first|exact q196 _)|(apply adM;rfl;rfl;rfl;exact⟨rfl,az _,by simp[overwrite,eE,fR,o1]⟩;rfl)|apply aaQ|apply aa|apply aaf|apply aad|apply abw|apply adr|apply adI|(apply adO;rfl)|(apply adJ;rfl;rfl;(first|(simp only[nca];rfl)|rfl))|(apply adW;rfl;(first|(simp only[nca];rfl)|rfl);(first|(simp only[nca];rfl)|rfl))|(apply acn;rfl;rfl;rfl)|(apply abU;rfl;rfl;rfl)|(apply abh;rfl;rfl)
 exact cD rfl rfl (out _)
theorem UU (C:CF M N){s:Int}(hs : -9223372036854775808<=s/\s<9223372036854775808):∃v0,ju v0 s 1/\de M 143 [.iV s] v0:=by
 have q196:=C.mC s;obtain⟨v0,hf,q195⟩:=C.Cp _ s (.small hs);refine⟨_,hf,du (by rw[C.ft];exact UP) aq ?_⟩;have out:=fun hh=>hf.out (hh:=hh)
 obtain⟨s1,w,s',w',rfl,h1,h2⟩:=hf;obtain⟨o1,_⟩:=h1.one;obtain⟨o2,_⟩:=h2.one;unfold IY;simp only[enter];repeat' first|(apply adM;rfl;rfl;rfl;exact⟨rfl,az _,by simp[eE,o1,o2]⟩;rfl)|apply aaQ|apply aa|apply aaf|apply aad|apply abw|(apply abJ;rfl;rfl;first|exact q196 _|exact q195 _)|(apply abU;rfl;rfl;rfl)|(apply abh;rfl;rfl)
 exact cD rfl rfl (out _)
theorem UW (C:CJ M N){v:AV}{n d:Int}(hv:ju v n d):de M 173 [v] (.iV (br n)):=by
 obtain⟨s1,w,s',w',rfl,h1,h2⟩:=hv;have q230:=C.mB _ n h1;refine du (by rw[C.ft];exact US) aq ?_;unfold Jc;simp only[enter];repeat' first|apply aaQ|apply aa|apply aaf|apply aad|apply abw|(apply abJ;rfl;rfl;first|exact q230 _)|(apply acn;rfl;rfl;rfl)|(apply abU;rfl;rfl;rfl)|(apply abh;rfl;rfl)|(apply abl;rfl;rfl)
 exact cD rfl rfl (.same rfl rfl)
section
variable {t n m:Nat} {x y:aO} {l:List aY} {pe:List AV} {lo:List (Nat×AV)} {H:ae} {df wr:List Nat} {c c' new:List AV} {e:TypeId} {a:Option bR} {Q:au->Prop}
theorem aeN (hx:(St.mk pe lo (H++[some (.cells c e)]++[a]) df).ah x=some (.ptr H.length 0))(hy:((St.mk pe lo (H++[some (.cells c e)]++[a]) df).ah y).bind AV.cells=some new)(hn:new.length=n/\0+n<=c.length/\new.all cI=true)(hc:overwrite c 0 new=c')
 (h:WO M l ⟨⟨pe,lo,H++[some (.cells c' e)]++[a],df⟩,H.length::wr⟩ Q):WO M (⟨.no,.store n x y,none⟩::l) ⟨⟨pe,lo,H++[some (.cells c e)]++[a],df⟩,wr⟩ Q:=by
 refine adM hx hy (cm bS) hn hc ?_;have:ae.put (H++[some (.cells c e)]++[a]) H.length (some (.cells c' e))=H++[some (.cells c' e)]++[a]:=by
  simp[ae.put]
 rw[this];exact h
theorem aeO (hx:(St.mk pe lo (H++[a]++[some (.cells c e)]) df).ah x=some (.ptr m 0))(hy:((St.mk pe lo (H++[a]++[some (.cells c e)]) df).ah y).bind AV.cells=some new)(hm:m=H.length+1)(hn:new.length=n/\0+n<=c.length/\new.all cI=true)(hc:overwrite c 0 new=c')
 (h:WO M l ⟨⟨pe,lo,H++[a]++[some (.cells c' e)],df⟩,m::wr⟩ Q):WO M (⟨.no,.store n x y,none⟩::l) ⟨⟨pe,lo,H++[a]++[some (.cells c e)],df⟩,wr⟩ Q:=by
 subst hm;have hl:H.length+1=(H++[a]).length:=by simp
 rw[hl]at hx h;refine adM hx hy bS hn hc ?_;have:ae.put (H++[a]++[some (.cells c e)]) (H++[a]).length (some (.cells c' e))=H++[a]++[some (.cells c' e)]:=Iv;rw[this];exact h
theorem aeP {ag:Bool}{v:AV}(hx:(St.mk pe lo (H++[a]++[some (.cells c e)]) df).ah x=some (.ptr m 0))(hm:m=H.length+1)(hv:partOf (c.drop 0) 0 n ag=some v)
 (h:WO M l ⟨⟨pe,(t,v)::lo,H++[a]++[some (.cells c e)],df⟩,wr⟩ Q):WO M (⟨.l t,.load n ag x,none⟩::l) ⟨⟨pe,lo,H++[a]++[some (.cells c e)],df⟩,wr⟩ Q:=by
 subst hm;have hl:H.length+1=(H++[a]).length:=by simp
 rw[hl]at hx;exact aeA hx bS hv h
end
theorem Cu {x y:Int}:ci y (x%y)=ci x y:=by
 have h:=Int.gcd_add_mul_left_right y (x%y) (x/y);rw[Int.emod_add_mul_ediv]at h;rw[←h,m5]
def rV (s s':Int)(w w':AV)(J:ae):ae:=[some (.cells [.iV s,w] 171),some (.cells [.iV s',w'] 171),some (.cells [.iV 0,.ab] 171)]++J
theorem UX (C:CQ M N){G:Nat}{Q:Ex->au->Prop}(a0 a1:AV)
 (hQ:∀s s' w w' J p5 lo wr (x:Int),aN (.agg [.iV s,w]) x->x=G->Q (.exit 0) ⟨⟨[a0,a1,.ptr 0 0,.ptr 1 0,.ptr 2 0,p5],lo,rV s s' w w' J,[]⟩,wr⟩)
 (s s':Int) (w w':AV) (J:ae) (p5:AV) (lo:List (Nat×AV)) (wr:List Nat) (x y:Int) (hx:aN (.agg [.iV s,w]) x) (hy:aN (.agg [.iV s',w']) y) (x0:0<=x/\x<wB^N) (y0:0<=y/\y<wB^N) (hG:ci x y=G) :
 W M (.loop vB) ⟨⟨[a0,a1,.ptr 0 0,.ptr 1 0,.ptr 2 0,p5],lo,rV s s' w w' J,[]⟩,wr⟩ Q:=by
 refine W.gH (fun m st=>∃s s' w w' J p5 lo wr x y,st=⟨⟨[a0,a1,.ptr 0 0,.ptr 1 0,.ptr 2 0,p5],lo,rV s s' w w' J,[]⟩,wr⟩/\m=y.toNat/\aN (.agg [.iV s,w]) x/\aN (.agg [.iV s',w']) y/\(0<=x/\x<wB^N)/\(0<=y/\y<wB^N)/\ci x y=G)
  (fun m st ⟨s,s',w,w',J,p5,lo,wr,x,y,hst,hm,hx,hy,x0,y0,hG⟩=>?_) (m:=y.toNat) ⟨s,s',w,w',J,p5,lo,wr,x,y,rfl,rfl,hx,hy,x0,y0,hG⟩
 subst hst;subst hm;have q230:=C.mB _ y hy;by_cases h0:y=0
 . subst h0;have e:x=G:=by rw[←hG,Int.gcd_zero];omega
   rw[show br 0=0 from rfl]at q230;unfold vB;repeat' first|apply aaQ|apply aa|apply aaf|apply aad|apply acH|apply bN|apply cX|(apply abx;rfl)|(apply adf;rfl;rfl)|(apply abJ;rfl;rfl;first|exact q230 _)|(apply acn;rfl;rfl;rfl)|(intro _;omega)|intro _
   all_goals try omega
   exact hQ _ _ _ _ _ _ _ _ x hx e
 . rw[show br y=1 by unfold br;rw[if_neg ac,if_pos ac]]at q230;obtain⟨q,r,hq,hr,q299⟩:=C.vE _ _ x y hx hy (by rw[fu x0.1];exact x0.2) (by rw[fu y0.1];exact y0.2) ac;obtain⟨o1,_⟩:=hx.one;obtain⟨o2,_⟩:=hy.one;obtain⟨s1,w1,rfl,o3,_⟩:=hq.shape;obtain⟨s2,w2,rfl,o4,_⟩:=hr.shape;have r0:=ip x (show y≠0 by omega);have r1:=dr x (show 0<y by omega);have next:∀J p5 lo wr,LI (fun st=>∃m',m'<y.toNat/\∃s s' w w' J p5 lo wr x y,st=⟨⟨[a0,a1,.ptr 0 0,.ptr 1 0,.ptr 2 0,p5],lo,rV s s' w w' J,[]⟩,wr⟩/\m'=y.toNat/\aN (.agg [.iV s,w]) x/\aN (.agg [.iV s',w']) y/\(0<=x/\x<wB^N)/\(0<=y/\y<wB^N)/\ci x y=G) Q .normal ⟨⟨[a0,a1,.ptr 0 0,.ptr 1 0,.ptr 2 0,p5],lo,rV s' s2 w' w2 J,[]⟩,wr⟩:=fun J p5 lo wr=>
    cW ⟨(x%y).toNat,ac,_,_,_,_,J,p5,lo,wr,y,x%y,rfl,rfl,hy,hr,y0,⟨r0,ac⟩,by rw[Cu,hG]⟩
   unfold vB;repeat' first|(apply aeN;rfl;rfl;exact⟨rfl,az _,by simp[eE,o3]⟩;rfl)|(apply aeO;rfl;rfl;simp;exact⟨rfl,az _,by simp[eE,o4]⟩;rfl)|(apply aeP;rfl;simp;rfl)|(apply adM;rfl;rfl;rfl;exact⟨rfl,az _,by simp[overwrite,eE,o2,o4]⟩;rfl)|apply aaQ|apply aa|apply aaf|apply aad|apply abI|apply abC|apply bE|apply adr|apply adI|(apply adJ;rfl;rfl;(first|(simp only[nca];rfl)|rfl))|(apply adW;rfl;(first|(simp only[nca];rfl)|rfl);(first|(simp only[nca];rfl)|rfl))|(apply abz;rfl)|(apply adf;rfl;rfl)|(apply abJ;rfl;rfl;first|exact q230 _|exact q299 _)|(apply acn;rfl;rfl;rfl)|(apply abU;rfl;rfl;rfl)|(apply abh;rfl;rfl)|(intro _;omega)|intro _
   all_goals try omega
   all_goals exact next _ _ _ _
structure CG (M:ax)(N:Nat):Prop extends CQ M N where
 Cv:Ck M N 298 al
theorem UY {x y:Int}:ci (al x) (al y)=ci x y:=by
 have h:∀z:Int,(al z).natAbs=z.natAbs:=fun z=>by unfold al;split <;> omega
 show p9 _ _=p9 _ _;rw[h,h]
theorem UZ (C:CG M N){a b:AV}{x y:Int}(ha:aN a x)(hb:aN b y)(lx:al x<wB^N)(ly:al y<wB^N):∃v0,aN v0 (ci x y:Nat)/\de M 229 [a,b] v0:=by
 obtain⟨va,h1,q298a⟩:=C.Cv a x ha lx;obtain⟨vb,h2,q298b⟩:=C.Cv b y hb ly;obtain⟨sa,wa,rfl,o1,_⟩:=ha.shape;obtain⟨sb,wb,rfl,o2,_⟩:=hb.shape;obtain⟨s1,w1,rfl,o3,_⟩:=h1.shape;obtain⟨s2,w2,rfl,o4,_⟩:=h2.shape;obtain⟨v,hh,⟨v0,h0,ho⟩,hr⟩:=gS (M:=M) (f:=229) (ars:=[.agg [.iV sa,wa],.agg [.iV sb,wb]]) (P:=fun v hh=>∃v0,aN v0 (ci x y:Nat)/\dQ v hh v0) (by rw[C.ft];exact Us) aq (by
  unfold IP;simp only[enter];repeat' first|(apply adN;rfl;rfl;(first|(simp only[nca];rfl)|rfl);first|exact q298a _|exact q298b _)|(apply adM;rfl;rfl;rfl;exact⟨rfl,az _,by simp[eE,o3,o4]⟩;rfl)|apply aaQ|apply aa|apply aaf|apply aad|apply abI|apply adr|apply adI|(apply adJ;rfl;rfl;(first|(simp only[nca];rfl)|rfl))|(apply adW;rfl;(first|(simp only[nca];rfl)|rfl);(first|(simp only[nca];rfl)|rfl))|(apply acn;rfl;rfl;rfl)|(apply abU;rfl;rfl;rfl)
  refine UX C.toCQ (G:=ci x y) _ _ (fun s s' w w' J p5 lo wr g hg eg=>?_) s1 s2 w1 w2 [] _ _ _ (al x) (al y) h1 h2 ⟨jU,lx⟩ ⟨jU,ly⟩ UY;obtain⟨o5,t5,k5⟩:=hg.one;repeat' first|(apply adM;rfl;rfl;rfl;exact⟨rfl,az _,by simp[eE,o5]⟩;rfl)|apply aaQ|apply aa|apply aaf|apply aad|apply abw|apply bJ|(apply acn;rfl;rfl;rfl)
  rw[eg]at hg;exact⟨.inr rfl,rfl,_,rfl,_,hg,hg.out⟩)
 exact⟨v0,h0,v,hh,ho,hr⟩
def cL (v:AV)(q:Rat):Prop:=ju v q.num q.den
structure CR (M:ax)(N:Nat):Prop extends CG M N where
 rW:∀a b x y,aN a x->aN b y->al x<wB^N->al y<wB^N->∃v0,aN v0 (ci x y:Nat)/\∀h,M.ext 229 [a,b] h=some ⟨v0,h,[]⟩
 Cw:∀a b x y k,aN a x->aN b y->al x<wB^N->al y<wB^N->y≠0->x=y*k->∃v0,aN v0 k/\∀h,M.ext 258 [a,b] h=some ⟨v0,h,[]⟩
def t198:ao:=
 .seq (zR [zf 13 1 3,
       zd 14 1 13,
       ⟨(.l 15),.eq false (.ref .slice) (.l 14) (.c (.ab)),none⟩,
       zn 16 15,
       zg (zf 17 0 3) 16 true,
       zg (zd 18 1 17) 16 true,
       zg (zc 19 .eql 18 1) 16 true,
       zp 20 16 19]
     (
      .cond (.l 20)
      (
       zR [zt 21 2 2,
         zt 22 2 3,
         ⟨(.l 23),.build [.iV (0),.ab,.iV (0),.ab] [(0,2,(.l 21)),(2,2,(.l 22))],none⟩,
         zs 4 4 23]
       (.ret))
      (.skip)))
    (
     zR [zt 24 2 2,
       zt 25 2 3,
       z2 26 229 24 25,
       ⟨(.p 5),.alloc 171 [.iV (0),.ab],none⟩,
       zs 2 5 26]
     (
      .seq (.draw [(zt 27 2 2,[]),
        (zt 28 2 5,[0]),
        (z2 29 258 27 28,[]),
        (zt 30 2 3,[0,1,2]),
        (zt 31 2 5,[0,1,2,3]),
        (z2 32 258 30 31,[]),
        (⟨(.l 33),.build [.iV (0),.ab,.iV (0),.ab] [(0,2,(.l 29)),(2,2,(.l 32))],none⟩,[]),
        (zs 4 4 33,[])])
      (.ret)))
theorem mD {n:Int}:(be n 1).num=n/\(be n 1).den=1:=by
 refine⟨?_,?_⟩
 . rw[pi];simp
 . rw[pm];simp
theorem vF {n d:Int}(h:0<d):∃k1 k2:Int,n=(ci n d:Nat)*k1/\d=(ci n d:Nat)*k2/\(be n d).num=k1/\((be n d).den:Int)=k2:=by
 have g0:(ci n d:Int)≠0:=by
  have:=d6 n (show d≠0 by omega);omega
 obtain⟨k1,h1⟩:=Int.gcd_dvd_left n d;obtain⟨k2,h2⟩:=m6 n d;refine⟨k1,k2,h1,h2,?_,?_⟩
 . rw[pi,Int.sign_eq_one_of_pos h,Int.one_mul,m5 d n];exact iB g0 h1
 . rw[pm,if_neg ac,m5 d n];have e:((d.natAbs/ci n d:Nat):Int)=d/(ci n d:Int):=by
    rw[Int.natCast_ediv,Int.natAbs_of_nonneg ac]
   rw[e];exact iB g0 h2
theorem Va {x y:Int}(h:0<y):al (ci x y:Nat)<=al y:=by
 have:=Int.le_of_dvd h (m6 x y);rw[fu ac,fu ac];exact this
theorem Jd (C:CR M N){s s' n d:Int}{w w':AV}(hn:aN (.agg [.iV s,w]) n)(hd:aN (.agg [.iV s',w']) d)(ln:al n<wB^N)(ld:al d<wB^N)(d0:0<d) :
 ∃v0,cL v0 (be n d)/\∀a0 a1 p5 lo wr,W M t198 ⟨⟨[a0,a1,.ptr 0 0,.ptr 1 0,.ptr 2 0,p5],lo,[some (.cells [.iV s,w] 171),some (.cells [.iV s',w'] 171),some (.cells [.iV 0,.ab,.iV 0,.ab] 173)],[]⟩,wr⟩ (kT v0 [.cell 4 true (.p 4)]):=by
 obtain⟨o1,_⟩:=hn.one;by_cases h1:d=1/\w' = .ab
 . obtain⟨rfl,rfl⟩:=h1;have hs:s'=1:=by cases hd;rfl
   subst hs;have hf:cL (.agg [.iV s,w,.iV 1,.ab]) (be n 1):=by
    unfold cL;rw[mD.1,mD.2];exact⟨_,_,_,_,rfl,hn,hd⟩
   refine⟨_,hf,fun a0 a1 p5 lo wr=>?_⟩;have out:=fun hh=>hf.out (hh:=hh)
   unfold t198;repeat' first|(apply adM;rfl;rfl;rfl;exact⟨rfl,az _,by simp[overwrite,eE,fR,o1]⟩;rfl)|apply aaQ|apply aa|apply aaf|apply aad|apply abw|apply aU|(apply abz;rfl)|(apply acF;rfl)|(apply acR;rfl;rfl)|(apply aco;rfl;rfl)|(apply acn;rfl;rfl;rfl)|(apply abh;rfl;rfl)|(intro _;omega)|intro _
   all_goals try omega
   all_goals exact cD rfl rfl (out _)
 . obtain⟨k1,k2,e1,e2,e3,e4⟩:=vF (n:=n) d0;obtain⟨vg,hg,q229⟩:=C.rW _ _ n d hn hd ln ld;have lg:al (ci n d:Nat)<wB^N:=f8 (Va d0) ld;have g0:(ci n d:Int)≠0:=by
    have:=d6 n (show d≠0 by omega);omega
   obtain⟨v1,hv1,q258a⟩:=C.Cw _ vg n _ k1 hn hg ln lg g0 e1;obtain⟨v2,hv2,q258b⟩:=C.Cw _ vg d _ k2 hd hg ld lg g0 e2;obtain⟨sg,wg,rfl,og,_⟩:=hg.shape;obtain⟨s1,w1,rfl,o3,_⟩:=hv1.shape;obtain⟨s2,w2,rfl,o4,_⟩:=hv2.shape;have hf:cL (.agg [.iV s1,w1,.iV s2,w2]) (be n d):=by
    unfold cL;rw[e3,e4];exact⟨_,_,_,_,rfl,hv1,hv2⟩
   refine⟨_,hf,fun a0 a1 p5 lo wr=>?_⟩;have out:=fun hh=>hf.out (hh:=hh)
   unfold t198;cases hd with
   | small h=>
    have h2:s'≠1:=fun e=>h1 ⟨e,rfl⟩
    repeat' first|(apply abJ;rfl;rfl;first|exact q229 _|exact q258a _|exact q258b _)|(apply adN;rfl;rfl;(first|(simp only[nca];rfl)|rfl);first|exact q229 _|exact q258a _|exact q258b _)|(apply adM;rfl;rfl;rfl;exact⟨rfl,az _,by simp[overwrite,eE,og,o3,o4]⟩;rfl)|apply aaQ|apply aa|apply aaf|apply aad|apply abw|apply abC|apply adr|apply adI|(apply adO;rfl)|(apply adJ;rfl;rfl;(first|(simp only[nca];rfl)|rfl))|(apply adW;rfl;(first|(simp only[nca];rfl)|rfl);(first|(simp only[nca];rfl)|rfl))|(apply abx;rfl)|(apply acF;rfl)|(apply acR;rfl;rfl)|(apply aco;rfl;rfl)|(apply acn;rfl;rfl;rfl)|(apply abU;rfl;rfl;rfl)|(apply abh;rfl;rfl)|(intro _;omega)|intro _
    all_goals try omega
    all_goals exact cD rfl rfl (out _)
   | @fG σ z ww hs ok nr hw hz=>
    cases ww with
    | nil=>simp[WV]at hw
    | cons y ww=>
    repeat' first|(apply abJ;rfl;rfl;first|exact q229 _|exact q258a _|exact q258b _)|(apply adN;rfl;rfl;(first|(simp only[nca];rfl)|rfl);first|exact q229 _|exact q258a _|exact q258b _)|(apply adM;rfl;rfl;rfl;exact⟨rfl,az _,by simp[overwrite,eE,og,o3,o4]⟩;rfl)|apply aaQ|apply aa|apply aaf|apply aad|apply abw|apply abC|apply adr|apply adI|(apply adO;rfl)|(apply adJ;rfl;rfl;(first|(simp only[nca];rfl)|rfl))|(apply adW;rfl;(first|(simp only[nca];rfl)|rfl);(first|(simp only[nca];rfl)|rfl))|(apply abx;rfl)|(apply adu;rfl)|(apply acw;rfl;rfl)|(apply acn;rfl;rfl;rfl)|(apply abU;rfl;rfl;rfl)|(apply abh;rfl;rfl)
    all_goals try omega
    all_goals exact cD rfl rfl (out _)
theorem Vb (C:CR M N){a b:AV}{n d:Int}(ha:aN a n)(hb:aN b d)(ln:al n<wB^N)(ld:al d<wB^N)(d0:d≠0):∃v0,cL v0 (be n d)/\de M 198 [a,b] v0:=by
 have q230:=C.mB b d hb;by_cases hn:d<0
 . rw[show br d = -1 from if_pos hn]at q230;obtain⟨va,h1,q201a⟩:=C.mA a n ha ln;obtain⟨vb,h2,q201b⟩:=C.mA b d hb ld;have h1:aN va (-n):=h1;have h2:aN vb (-d):=h2;obtain⟨_,_,rfl,o1,_⟩:=ha.shape;obtain⟨_,_,rfl,o2,_⟩:=hb.shape;obtain⟨_,_,rfl,o3,_⟩:=h1.shape;obtain⟨_,_,rfl,o4,_⟩:=h2.shape;obtain⟨v0,hf,tl⟩:=Jd C h1 h2 (by rw[jt];exact ln) (by rw[jt];exact ld) ac;rw[Rat.neg_divInt_neg]at hf;refine⟨v0,hf,du (by rw[C.ft];exact Ja) aq ?_⟩;unfold Co;simp only[enter];repeat' first|(exact tl _ _ _ _ _)|(apply abJ;rfl;rfl;first|exact q230 _|exact q201a _|exact q201b _)|(apply adN;rfl;rfl;(first|(simp only[nca];rfl)|rfl);first|exact q230 _|exact q201a _|exact q201b _)|(apply adM;rfl;rfl;rfl;exact⟨rfl,az _,by simp[eE,o3,o4]⟩;rfl)|apply aaQ|apply aa|apply aaf|apply aad|apply adr|apply adI|(apply adJ;rfl;rfl;(first|(simp only[nca];rfl)|rfl))|(apply adW;rfl;(first|(simp only[nca];rfl)|rfl);(first|(simp only[nca];rfl)|rfl))|(apply abz;rfl)|(apply abR;rfl;rfl)|(apply acn;rfl;rfl;rfl)|(apply abU;rfl;rfl;rfl)|(intro _;omega)|intro _
   all_goals try omega
 . obtain⟨g,hg⟩:∃g,g=br d:=⟨_,rfl⟩;have g0:0<=g:=by rw[hg];unfold br;split <;> (first|omega|(split <;> omega))
   rw[←hg]at q230;obtain⟨_,_,rfl,o1,_⟩:=ha.shape;obtain⟨_,_,rfl,o2,_⟩:=hb.shape;obtain⟨v0,hf,tl⟩:=Jd C ha hb ln ld ac;refine⟨v0,hf,du (by rw[C.ft];exact Ja) aq ?_⟩;unfold Co;simp only[enter];repeat' first|(exact tl _ _ _ _ _)|(apply abJ;rfl;rfl;first|exact q230 _)|apply aaQ|apply aa|apply aaf|apply aad|apply abC|(apply abx;rfl)|(apply abR;rfl;rfl)|(apply acn;rfl;rfl;rfl)|(apply abU;rfl;rfl;rfl)|(intro _;omega)|intro _
   all_goals try omega
def Bq (N:Nat)(q:Rat):Prop:=al q.num<wB^N/\(q.den:Int)<wB^N
structure CS (M:ax)(N N2:Nat):Prop extends CF M N where
 fG:CF M N2
 hN:2*N+1<=N2
 Vc:∀a b n d,aN a n->aN b d->al n<wB^N2->al d<wB^N2->d≠0->∃v0,cL v0 (be n d)/\∀h,M.ext 198 [a,b] h=some ⟨v0,h,[]⟩
theorem den_pos {q:Rat}:0<(q.den:Int):=by have:=q.den_pos;omega
theorem vG {x y:Int}:al (x*y)=al x*al y:=by
 have h:∀z:Int,al z=(z.natAbs:Int):=fun z=>by unfold al;split <;> omega
 rw[h,h,h,Int.natAbs_mul,Int.natCast_mul]
variable {N2:Nat}
theorem CS.Je (C:CS M N N2){x y:Int}(hx:al x<wB^N)(hy:al y<wB^N):al (x*y)<wB^N2:=by
 rw[vG];have h1:=b6 (gc hy) (jU (x:=x));have hp:(0:Int)<wB^N:=kw am;have h2:=d9 hx hp;have h3:=ie (b:=wB) am (m:=N+N) (n:=N2) (by have:=C.hN;omega);rw[ja]at h3;omega
theorem cL.one {v:AV}{n:Int}(h:ju v n 1):cL v (be n 1):=by
 unfold cL;rw[mD.1,mD.2];exact h
theorem Cy (p q:Rat):p+q=be (p.num*q.den+q.num*p.den) (p.den*q.den):=by
 have dp:=den_pos (q:=p);have dq:=den_pos (q:=q);have e:=Rat.divInt_add_divInt p.num q.num (d₁:=p.den) (d₂:=q.den) ac ac;rwa [l9,l9]at e
theorem Bq.neg {q:Rat}(h:Bq N q):Bq N (-q):=⟨by rw[n7,jt];exact h.1,h.2⟩
theorem Vd (C:CS M N N2){a b:AV}{p q:Rat}(ha:cL a p)(hb:cL b q)(lp:Bq N p)(lq:Bq N q):de M 147 [a,b] (.iV (br (p.num*q.den-q.num*p.den))):=by
 obtain⟨s1,w1,s2,w2,rfl,h1,h2⟩:=ha;obtain⟨s3,w3,s4,w4,rfl,h3,h4⟩:=hb;have dp:=den_pos (q:=p);have dq:=den_pos (q:=q);have hdp:al (p.den:Int)<wB^N:=by rw[fu ac];exact lp.2
 have hdq:al (q.den:Int)<wB^N:=by rw[fu ac];exact lq.2
 obtain⟨v1,k1,q199a⟩:=C.pZ _ _ _ _ h1 h4 lp.1 hdq;obtain⟨v2,k2,q199b⟩:=C.pZ _ _ _ _ h3 h2 lq.1 hdp;have q200:=C.fG.Cq v1 v2 _ _ k1 k2 (C.Je lp.1 hdq) (C.Je lq.1 hdp);refine du (by rw[C.ft];exact UR) aq ?_;unfold Jb;simp only[enter];repeat' first|(apply adN;rfl;rfl;(first|(simp only[nca];rfl)|rfl);first|exact q199a _|exact q199b _|exact q200 _)|apply aaQ|apply aa|apply aaf|apply aad|apply abw|apply adr|apply adI|(apply adO;rfl)|(apply adJ;rfl;rfl;(first|(simp only[nca];rfl)|rfl))|(apply acn;rfl;rfl;rfl)|(apply abU;rfl;rfl;rfl)|(apply abh;rfl;rfl)|(apply abl;rfl;rfl)
 all_goals exact cD rfl rfl (.same rfl rfl)
section
variable {t:Nat} {x y:aO} {l:List aY} {pe:List AV} {lo:List (Nat×AV)} {hp:ae} {df wr:List Nat} {a:Int} {k:IntKind} {Q:au->Prop}
theorem aeQ (hx:(St.mk pe lo hp df).ah x=some (.iV a))
 (h:WO M l ⟨⟨pe,(t,.iV (a/2))::lo,hp,df⟩,wr⟩ Q):WO M (⟨.l t,.bin .shr x (.c (.int k 1)),none⟩::l) ⟨⟨pe,lo,hp,df⟩,wr⟩ Q:=by
 refine WO.op (WP.pure (v:=.iV (a/2)) rfl ?_ h);have:a.fdiv (2^min (p8 1) IntKind.i64.bits)=a/2:=by
  show a.fdiv 2=a/2;rw[Int.fdiv_eq_ediv_of_nonneg _ ac]
 have e:(St.mk pe lo hp df).ah (.c (.int k 1))=some (.int k 1):=rfl;simp only[bk,hx,e,dy,this];rfl
theorem aeR (hx:(St.mk pe lo hp df).ah x=some (.iV a))(hy:(St.mk pe lo hp df).ah y=some (.iV 1))(ha:0<=a/\a<9223372036854775808)
 (h:WO M l ⟨⟨pe,(t,.iV (a%2))::lo,hp,df⟩,wr⟩ Q):WO M (⟨.l t,.bin .and x y,none⟩::l) ⟨⟨pe,lo,hp,df⟩,wr⟩ Q:=by
 refine abh (v:=.iV (a%2)) ?_ rfl h;obtain⟨n,rfl⟩:=Int.eq_ofNat_of_zero_le ha.1;have e:(BitVec.ofInt 64 (n:Int) &&& BitVec.ofInt 64 1).toNat=n%2:=by
  rw[pM,show (1:Int)=((1:Nat):Int) from rfl,pM,BitVec.toNat_and,BitVec.toNat_ofNat,BitVec.toNat_ofNat,jN (show n<2^64 by omega),jN (show 1<2^64 by decide)];exact Nat.and_two_pow_sub_one_eq_mod n 1
 simp only[bk,hx,hy,dy,if_true];show some (AV.iV (IntKind.i64.wrap ((BitVec.ofInt 64 (n:Int) &&& BitVec.ofInt 64 1).toNat:Int)))=_;rw[e,nt ac];rfl
end
def rX (s so:Int)(w wo:AV):ae:=[some (.cells [.iV s,w] 171),some (.cells [.iV 0,.ab] 171),some (.cells [.iV so,wo] 171)]
theorem Ve (C:CF M N){A:Int}{K:Nat}(hK:K<1000000)(hB:∀i,i<=K->al (A^i)<wB^N){Q:Ex->au->Prop}(a0:AV)
 (hQ:∀s so w wo p1 lo wr,aN (.agg [.iV so,wo]) (A^K)->Q (.exit 0) ⟨⟨[a0,p1,.ptr 0 0,.ptr 1 0,.ptr 2 0],lo,rX s so w wo,[]⟩,wr⟩)
 (s so:Int) (w wo:AV) (lo:List (Nat×AV)) (wr:List Nat) (hs:aN (.agg [.iV s,w]) A) (ho:aN (.agg [.iV so,wo]) 1) :
 W M (.loop pY) ⟨⟨[a0,.iV K,.ptr 0 0,.ptr 1 0,.ptr 2 0],lo,rX s so w wo,[]⟩,wr⟩ Q:=by
 refine W.gH (fun m st=>∃s so w wo kv lo wr i j,st=⟨⟨[a0,.iV kv,.ptr 0 0,.ptr 1 0,.ptr 2 0],lo,rX s so w wo,[]⟩,wr⟩/\kv=(m:Int)/\aN (.agg [.iV s,w]) (A^i)/\aN (.agg [.iV so,wo]) (A^j)/\j+i*m=K/\m<=K)
  (fun m st ⟨s,so,w,wo,kv,lo,wr,i,j,hst,hkv,hs,ho,hj,hmK⟩=>?_) (m:=K) ⟨s,so,w,wo,_,lo,wr,1,0,rfl,rfl,by rw[Int.pow_one];exact hs,by rw[m7];exact ho,ac,az _⟩
 subst hst;subst hkv;by_cases h0:m=0
 . subst h0;have ej:j=K:=by omega
   subst ej;unfold pY;repeat' first|apply aaQ|apply aa|apply aaf|apply aad|apply acH|apply bN|apply cX|(apply abx;rfl)|(apply abV;rfl;rfl)|(apply abh;rfl;rfl)|(intro _;omega)|intro _
   all_goals try omega
   exact hQ _ _ _ _ _ _ _ ho
 . obtain⟨q,b,hqb,hb⟩:∃q b:Nat,m=2*q+b/\b<2:=⟨m/2,m%2,ac,ac⟩;have him:i*m=2*(i*q)+i*b:=by rw[hqb,Nat.mul_add,←f7,fg i 2,f7]
   have hdiv:(m:Int)/2=(q:Int):=by omega
   have hmod:(m:Int)%2=(b:Int):=by omega
   have hi:i<=K:=by
    have:i*1<=i*m:=Nat.mul_le_mul_left i ac;omega
   have hjK:j<=K:=by omega
   obtain⟨o1,_⟩:=hs.one;obtain⟨o2,_⟩:=ho.one;have fin:∀s so w wo lo wr i' j',aN (.agg [.iV s,w]) (A^i')->aN (.agg [.iV so,wo]) (A^j')->j'+i'*q=K->LI (fun st=>∃m',m'<m/\∃s so w wo kv lo wr i j,st=⟨⟨[a0,.iV kv,.ptr 0 0,.ptr 1 0,.ptr 2 0],lo,rX s so w wo,[]⟩,wr⟩/\kv=(m':Int)/\aN (.agg [.iV s,w]) (A^i)/\aN (.agg [.iV so,wo]) (A^j)/\j+i*m'=K/\m'<=K) Q .normal ⟨⟨[a0,.iV ((m:Int)/2),.ptr 0 0,.ptr 1 0,.ptr 2 0],lo,rX s so w wo,[]⟩,wr⟩:=fun s so w wo lo wr i' j' h1 h2 h3=>
    cW ⟨q,ac,s,so,w,wo,_,lo,wr,i',j',rfl,hdiv,h1,h2,h3,ac⟩
   have sq:q≠0->∃v,aN v (A^(i+i))/\∀h,M.ext 199 [.agg [.iV s,w],.agg [.iV s,w]] h=some ⟨v,h,[]⟩:=fun hq=>by
    obtain⟨v,h1,h2⟩:=C.pZ _ _ _ _ hs hs (hB i hi) (hB i hi);exact⟨v,by rw[ja];exact h1,h2⟩
   by_cases hodd:b=1
   . subst hodd;obtain⟨v1,h1,q1⟩:=C.pZ _ _ _ _ ho hs (hB j hjK) (hB i hi);have h1:aN v1 (A^(j+i)):=by rw[ja];exact h1
     obtain⟨s1,w1,rfl,o3,_⟩:=h1.shape;by_cases hq:q=0
     . subst hq;unfold pY;repeat' first|(apply aeR;rfl;rfl;omega)|(apply aeQ;rfl)|(apply adM;rfl;rfl;rfl;exact⟨rfl,az _,by simp[eE,o3]⟩;rfl)|apply aaQ|apply aa|apply aaf|apply aad|apply abI|apply abC|apply bE|(apply abz;rfl)|(apply abx;rfl)|(apply abV;rfl;rfl)|(apply acR;rfl;rfl)|(apply abJ;rfl;rfl;first|exact q1 _)|(apply acn;rfl;rfl;rfl)|(apply abh;rfl;rfl)|(apply abl;rfl;rfl)|(intro _;omega)|intro _
       all_goals try omega
       all_goals exact fin s s1 w w1 _ _ i (j+i) hs h1 ac
     . obtain⟨v2,h2,q2⟩:=sq hq;obtain⟨s2,w2,rfl,o4,_⟩:=h2.shape;unfold pY;repeat' first|(apply aeR;rfl;rfl;omega)|(apply aeQ;rfl)|(apply adM;rfl;rfl;rfl;exact⟨rfl,az _,by simp[eE,o3,o4]⟩;rfl)|apply aaQ|apply aa|apply aaf|apply aad|apply abI|apply abC|apply bE|(apply abz;rfl)|(apply abV;rfl;rfl)|(apply acR;rfl;rfl)|(apply abJ;rfl;rfl;first|exact q1 _|exact q2 _)|(apply acn;rfl;rfl;rfl)|(apply abh;rfl;rfl)|(apply abl;rfl;rfl)|(intro _;omega)|intro _
       all_goals try omega
       all_goals exact fin s2 s1 w2 w1 _ _ (i+i) (j+i) h2 h1 (by rw[n8];omega)
   . obtain⟨v2,h2,q2⟩:=sq ac;obtain⟨s2,w2,rfl,o4,_⟩:=h2.shape;have hb0:b=0:=by omega
     subst hb0;unfold pY;repeat' first|(apply aeR;rfl;rfl;omega)|(apply aeQ;rfl)|(apply adM;rfl;rfl;rfl;exact⟨rfl,az _,by simp[eE,o4]⟩;rfl)|apply aaQ|apply aa|apply aaf|apply aad|apply abI|apply abC|apply bE|(apply abz;rfl)|(apply abx;rfl)|(apply abV;rfl;rfl)|(apply acR;rfl;rfl)|(apply abJ;rfl;rfl;first|exact q2 _)|(apply acn;rfl;rfl;rfl)|(apply abh;rfl;rfl)|(apply abl;rfl;rfl)|(intro _;omega)|intro _
     all_goals try omega
     all_goals exact fin s2 so w2 wo _ _ (i+i) j h2 ho (by rw[n8];omega)
theorem Vf (C:CF M N){v:AV}{A:Int}{K:Nat}(hv:aN v A)(hK:K<1000000)(hB:∀i,i<=K->al (A^i)<wB^N):∃v0,aN v0 (A^K)/\de M 284 [v,.iV K] v0:=by
 have q196:=C.mC 1;obtain⟨s,w,rfl,o1,_⟩:=hv.shape;obtain⟨v',hh,⟨v0,h0,ho⟩,hr⟩:=gS (M:=M) (f:=284) (ars:=[.agg [.iV s,w],.iV K]) (P:=fun v hh=>∃v0,aN v0 (A^K)/\dQ v hh v0) (by rw[C.ft];exact UO) aq (by
  unfold IX;simp only[enter];repeat' first|apply aaQ|apply aa|apply aaf|apply aad|apply abI|(apply abJ;rfl;rfl;first|exact q196 _)|(apply abU;rfl;rfl;rfl)|(apply aea;rfl;rfl;rfl)
  refine Ve C hK hB _ (fun s so w wo p1 lo wr hg=>?_) s 1 w .ab _ _ hv (.small am);obtain⟨o5,_⟩:=hg.one;repeat' first|(apply adM;rfl;rfl;rfl;exact⟨rfl,az _,by simp[eE,o5]⟩;rfl)|apply aaQ|apply aa|apply aaf|apply aad|apply abw|apply bJ|(apply acn;rfl;rfl;rfl)
  exact⟨.inr rfl,rfl,_,rfl,_,hg,hg.out⟩)
 exact⟨v0,h0,v',hh,ho,hr⟩
variable {P:Program} {T:List (Nat×Spec)} {g:Nat}
theorem de.runK {ars:List AV}{v0:AV}(h:de (bx P FT T) g ars v0)(ht:bz ars=0):Au P FT T g ars v0:=by
 obtain⟨v,hh,⟨v1,h1,h2,h3⟩,hr⟩:=h;exact⟨v,hh,v1,hr,h1,ht,h2,h3⟩
theorem de.eq {ars:List AV}{v0:AV}{hp:ae}(h:de (bx P FT T) g ars v0)(ht:bz ars=0):pI P FT T g ars hp=some ⟨v0,hp,[]⟩:=rD (h.runK ht)
theorem pQ.eq {ars as0:List AV}{z:Int}(h:pQ (bx P FT T) g as0 z):∃r,okW wB r/\aR r/\WV wB r=z/\∀hp,gp hp ars as0->rC P FT T g ars hp=some ⟨.vs (an r) r.length none,hp,[]⟩:=by
 obtain⟨r,⟨h1,h2,h3⟩,v,hh,⟨v1,f,t,c⟩,hr⟩:=h;exact⟨r,h1,h2,h3,fun hp hf=>ml hf ⟨v,hh,v1,hr,f,t,c⟩⟩
theorem rP.eq {ars:List AV}{x y:Int}(h:rP (bx P FT T) g ars x y)(ht:bz ars=0):∃qv q rv r,dw qv q/\dw rv r/\okW wB q/\aR q/\okW wB r/\aR r/\WV wB q=x/y/\WV wB r=x%y/\∀hp,pI P FT T g ars hp=some ⟨.ay [qv,rv],hp,[]⟩:=by
 obtain⟨q,r,⟨h1,h2,h3⟩,⟨h4,h5,h6⟩,v,hh,⟨v1,qv,rv,f,t,c,k1,k2⟩,hr⟩:=h;exact⟨qv,q,rv,r,k1,k2,h1,h2,h4,h5,h3,h6,fun hp=>rD ⟨v,hh,v1,hr,f,ht,t,c⟩⟩
theorem dw.top {x:AV}{l:List Int}(h:dw x l):x.top=0:=by
 rcases h with rfl|⟨rfl,rfl⟩
 . exact ij l
 . rfl
theorem aN.top {v:AV}{z:Int}(h:aN v z):v.top=0:=by
 obtain⟨s,w,rfl,_,t,_⟩:=h.shape;simp[AV.top,bz,t]
theorem cL.top {v:AV}{q:Rat}(h:cL v q):v.top=0:=by
 obtain⟨s,w,s',w',rfl,h1,h2⟩:=h;have t1:=h1.one.2.1;have t2:=h2.one.2.1;simp[AV.top,bz,t1,t2]
open Go.Proofs
noncomputable abbrev sK (T:List (Nat×Spec))(g:Nat):Spec:=pI Tryz.prog FT T g
noncomputable abbrev sL (T:List (Nat×Spec))(g:Nat):Spec:=rC Tryz.prog FT T g
theorem bG {g:Nat}(hT:cB Tryz.prog gl (bB T)):ba Tryz.prog gl g (sK T g):=Rl nH hT
theorem jv {g:Nat}(hT:cB Tryz.prog gl (bB T)):ba Tryz.prog gl g (sL T g):=Rj nH hT
theorem kV {v:AV}(h:v.top=0):bz [v]=0:=by simp[bz,h]
theorem fy {v w:AV}(h:v.top=0)(k:w.top=0):bz [v,w]=0:=by simp[bz,h,k]
theorem dM {ars:List AV}{v0:AV}{g:Nat}(h:de (bx Tryz.prog FT T) g ars v0)(ht:bz ars=0):∀hp,sK T g ars hp=some ⟨v0,hp,[]⟩:=fun _=>h.eq ht
def Jf:List (Nat×Spec):=[(310,nw .po),(330,nw .pq)]
theorem Vg:cB Tryz.prog gl (bB Jf):=aT (Ah HJ) (aT (Ah HK) bP)
structure CB (T:List (Nat×Spec)):Prop where
 Vh:∀ar h,bB T 310 ar h=nw .po ar h
 Vi:∀ar h,bB T 330 ar h=nw .pq ar h
 vj:∀ar h,bB T 288 ar h=none
theorem CB.c (E:CB T):mq (bx Tryz.prog FT T) where
 ft:=bF
 vj:=E.vj
 mr x y c h hx hy h0 h1:=by
  refine(E.Vh _ _).trans ?_;show qo _ (if _ then _ else _)=_;rw[if_pos ⟨hx,hy,h0,h1⟩];rfl
 vk x y c h hx hx1 hy hy1 h0 h1:=by
  refine(E.Vi _ _).trans ?_;show qo _ (if _ then _ else _)=_;rw[if_pos ⟨hx,hy,h0,h1⟩];have e1:(((x.toNat+18446744073709551616-y.toNat-c.toNat)%18446744073709551616:Nat):Int)=(x-y-c)%18446744073709551616:=by omega
  have e2:((if x.toNat<y.toNat+c.toNat then 1 else 0:Nat):Int)=if x<y+c then 1 else 0:=by
   by_cases hc:x<y+c
   . rw[if_pos hc,if_pos ac];rfl
   . rw[if_neg hc,if_neg ac];rfl
  show some (HR.mk (.ay [.uV _,.uV _]) h [])=_;rw[e1,e2]
noncomputable def qc:Spec:=sK [] 259
theorem Jg:ba Tryz.prog gl 259 qc:=bG bP
theorem Jh:∀(x y:Int) h,(0<=x/\x<18446744073709551616)->(0<=y/\y<18446744073709551616)->qc [.uV x,.uV y] h=some ⟨.ay [.uV (x*y/18446744073709551616),.uV (x*y%18446744073709551616)],h,[]⟩:=fun x y h hx hy=>cz (Tl bF x y hx hy) rfl rfl rfl h
noncomputable def qe:List (Nat×Spec):=(259,qc)::Jf
theorem vH:cB Tryz.prog gl (bB qe):=aT Jg Vg
structure vI (T:List (Nat×Spec)):Prop extends CB T where
 CC:∀ar h,bB T 259 ar h=qc ar h
theorem vI.c (E:vI T):mw (bx Tryz.prog FT T):={ E.toCB.c with nN:=fun x y h hx hy=>(E.CC _ _).trans (Jh x y h hx hy) }
theorem CE:vI qe:=by repeat' first|exact fun _ _=>rfl|constructor
noncomputable def CH:Spec:=sK [] 252
theorem Vj:ba Tryz.prog gl 252 CH:=bG bP
theorem Vk:∀(x:Int) h,(0<=x/\x<18446744073709551616)->CH [.uV x] h=some ⟨.iV (eo x),h,[]⟩:=fun x h hx=>cz (TB bF x hx) rfl rfl rfl h
noncomputable def Ji:List (Nat×Spec):=[(252,CH)]
noncomputable def rY:Spec:=sK Ji 289
theorem Jj:ba Tryz.prog gl 289 rY:=bG (aT Vj bP)
theorem Jk:∀(y:Int) h,(0<=y/\y<18446744073709551616)->rY [.uV y] h=some ⟨.iV (64-eo y:Nat),h,[]⟩:=fun x h hx=>cz (TC (M:=bx Tryz.prog FT Ji) bF x hx fun h=>Vk x h hx) rfl rfl rfl h
noncomputable def Jl:List (Nat×Spec):=[(289,rY)]
noncomputable def vJ:Spec:=sK Jl 287
theorem Vl:ba Tryz.prog gl 287 vJ:=bG (aT Jj bP)
theorem Vm:∀(hi lo y:Int) h,(0<y/\y<18446744073709551616)->(0<=hi/\hi<y)->(0<=lo/\lo<18446744073709551616)->vJ [.uV hi,.uV lo,.uV y] h=some ⟨.ay [.uV ((hi*18446744073709551616+lo)/y),.uV ((hi*18446744073709551616+lo)%y)],h,[]⟩:=fun hi lo y h hy hh hl=>
 cz (TM (M:=bx Tryz.prog FT Jl) bF hi lo y hy hh hl fun h=>Jk y h ⟨ac,hy.2⟩) rfl rfl rfl h
noncomputable def vK:Spec:=sL qe 308
noncomputable def vM:Spec:=sL qe 309
noncomputable def vN:Spec:=sL qe 262
noncomputable def nS:Spec:=sL [] 286
theorem Vn:ba Tryz.prog gl 308 vK:=jv vH
theorem Vo:ba Tryz.prog gl 309 vM:=jv vH
theorem Vp:ba Tryz.prog gl 262 vN:=jv vH
theorem Jm:ba Tryz.prog gl 286 nS:=jv bP
theorem Vq:∀x l y m,dw x l->dw y m->okW wB l->okW wB m->l.length<=500000->m.length<=500000->∃r,okW wB r/\aR r/\WV wB r=WV wB l+WV wB m/\∀h,vK [x,y] h=some ⟨.vs (an r) r.length none,h,[]⟩:=fun x l y m hx hy o1 o2 l1 l2=>by
 obtain⟨r,h1,h2,h3,h4⟩:=(Tr (c1:=none) (c2:=none) CE.c.tomq l m o1 o2 ac ac).eq;exact⟨r,h1,h2,h3,fun h=>h4 h (.cons hx.gI (.cons hy.gI .nil))⟩
theorem Vr:∀x l y m,dw x l->dw y m->okW wB l->okW wB m->aR l->aR m->l.length<=500000->m.length<=500000->WV wB m<=WV wB l->∃r,okW wB r/\aR r/\WV wB r=WV wB l-WV wB m/\∀h,vM [x,y] h=some ⟨.vs (an r) r.length none,h,[]⟩:=fun x l y m hx hy o1 o2 n1 n2 l1 l2 hle=>by
 have hlen:m.length<=l.length:=by
  rcases Nat.lt_or_ge l.length m.length with h|h
  . have:=nM (b:=wB) am o1 o2 n2 h;omega
  . exact h
 obtain⟨r,h1,h2,h3,h4⟩:=(Tt (c1:=none) (c2:=none) CE.c.tomq l m o1 o2 ac hlen hle).eq;exact⟨r,h1,h2,h3,fun h=>h4 h (.cons hx.gI (.cons hy.gI .nil))⟩
theorem Vs:∀x l y m,dw x l->dw y m->okW wB l->okW wB m->l.length<=500000->m.length<=500000->∃r,okW wB r/\aR r/\WV wB r=WV wB l*WV wB m/\∀h,vN [x,y] h=some ⟨.vs (an r) r.length none,h,[]⟩:=fun x l y m hx hy o1 o2 l1 l2=>by
 obtain⟨r,h1,h2,h3,h4⟩:=(Tv (c1:=none) (c2:=none) CE.c l m o1 o2 ac ac).eq;exact⟨r,h1,h2,h3,fun h=>h4 h (.cons hx.gI (.cons hy.gI .nil))⟩
theorem Jn {x y:AV}{l m:List Int}{c1 c2:Option Nat}{h:ae}(hx:dv h x (.vs (an l) l.length c1))(hy:dv h y (.vs (an m) m.length c2))(o1:okW wB l)(o2:okW wB m)(n1:aR l)(n2:aR m)(l1:l.length<1000000000)(l2:m.length<1000000000):nS [x,y] h=some ⟨.iV (br (WV wB l-WV wB m)),h,[]⟩:=
 pJ (Tp bF l m o1 o2 n1 n2 l1 l2) rfl rfl rfl (.cons hx (.cons hy .nil))
theorem Jo:∀x l y m,dw x l->dw y m->okW wB l->okW wB m->aR l->aR m->l.length<=500000->m.length<=500000->∀h,nS [x,y] h=some ⟨.iV (br (WV wB l-WV wB m)),h,[]⟩:=fun x l y m hx hy o1 o2 n1 n2 l1 l2 h=>
 Jn hx.gI hy.gI o1 o2 n1 n2 ac ac
noncomputable def vO:List (Nat×Spec):=(287,vJ)::(286,nS)::(289,rY)::qe
theorem Vt:cB Tryz.prog gl (bB vO):=aT Vl (aT Jm (aT Jj vH))
structure CK (T:List (Nat×Spec)):Prop extends vI T where
 Vu:∀ar h,bB T 287 ar h=vJ ar h
 CL:∀ar h,bB T 286 ar h=nS ar h
 Vv:∀ar h,bB T 289 ar h=rY ar h
 rO:∀ar h,bB T 290 ar h=none
 vw:∀ar h,bB T 291 ar h=none
theorem CK.c (E:CK T):IE (bx Tryz.prog FT T):={ E.tovI.c with
 Cc:=fun hi lo y h h1 h2 h3=>(E.Vu _ _).trans (Vm hi lo y h h1 h2 h3)
 rQ:=fun a b _c1 _c2 h o1 o2 n1 n2 l1 l2=>(E.CL _ _).trans (Jn (.pF (Ce a)) (.pF (Ce b)) o1 o2 n1 n2 l1 l2)
 rL:=fun y h hy=>(E.Vv _ _).trans (Jk y h hy)
 rO:=E.rO
 vw:=E.vw }
theorem Vw:CK vO:=by repeat' first|exact fun _ _=>rfl|constructor
noncomputable def vP:Spec:=sK vO 220
theorem Vx:ba Tryz.prog gl 220 vP:=bG Vt
theorem Vy:∀x l y m,dw x l->dw y m->okW wB l->okW wB m->aR l->aR m->l.length<=500000->m.length<=500000->m≠[]->∃qv q rv r,dw qv q/\dw rv r/\okW wB q/\aR q/\okW wB r/\aR r/\WV wB q=WV wB l/WV wB m/\WV wB r=WV wB l%WV wB m/\∀h,vP [x,y] h=some ⟨.ay [qv,rv],h,[]⟩:=fun x l y m hx hy o1 o2 n1 n2 l1 l2 hm=>by
 have hy':y = .vs (an m) m.length none:=by
  rcases hy with h|⟨_,h⟩
  . exact h
  . exact absurd h hm
 subst hy';rcases hx with rfl|⟨rfl,rfl⟩
 . exact(Uj Vw.c l m o1 o2 n1 n2 ac ac hm).eq (fy (ij l) (ij m))
 . have hv:=(je (b:=wB) am o2 n2).2 hm;have q286:∀h,(bx Tryz.prog FT vO).ext 286 [.ab,.vs (an m) m.length none] h=some ⟨.iV (-1),h,[]⟩:=fun h=>by
    have:=Jo .ab [] _ m (.inr ⟨rfl,rfl⟩) (.inl rfl) o1 o2 n1 n2 l1 l2 h;rw[show br (WV wB []-WV wB m) = -1 from if_pos (by simp[WV];omega)]at this;exact this
   exact(Uk bF m o2 n2 hm q286).eq (fy rfl (ij m))
noncomputable def rZ:Spec:=sK [] 260
theorem Jp:ba Tryz.prog gl 260 rZ:=bG bP
theorem Jq:∀s h,(-9223372036854775808<=s/\s<9223372036854775808)->rZ [.iV s] h=some ⟨.uV (al s),h,[]⟩:=fun s h hs=>cz (Ul bF s hs) rfl rfl rfl h
noncomputable def Jr:List (Nat×Spec):=[(260,rZ)]
noncomputable def vW:Spec:=sK Jr 219
theorem Vz:ba Tryz.prog gl 219 vW:=bG (aT Jp bP)
theorem VA:∀v z,aN v z->∃x l,dw x l/\okW wB l/\aR l/\WV wB l=al z/\∀h,vW [v] h=some ⟨.ay [.bool (decide (z<0)),x],h,[]⟩:=fun v z hv=>by
 obtain⟨x,l,h1,h2,h3,h4,h5⟩:=Um (M:=bx Tryz.prog FT Jr) bF (fun s h hs=>Jq s h hs) hv;exact⟨x,l,h1,h2,h3,h4,dM h5 (kV hv.top)⟩
noncomputable def vY:Spec:=sK [] 261
theorem VB:ba Tryz.prog gl 261 vY:=bG bP
theorem VC:∀neg x l,dw x l->okW wB l->aR l->l.length<=1000001->∃v0,aN v0 (gg neg (WV wB l))/\∀h,vY [.bool neg,x] h=some ⟨v0,h,[]⟩:=fun neg x l hx ok nr hl=>by
 obtain⟨v0,h1,h2⟩:=Un (M:=bx Tryz.prog FT []) bF neg hx ok nr ac;exact⟨v0,h1,dM h2 (fy rfl hx.top)⟩
noncomputable def TI:List (Nat×Spec):=[(260,rZ),(259,qc),(219,vW),(261,vY),(308,vK),(309,vM),(262,vN),(286,nS)]
theorem vZ:cB Tryz.prog gl (bB TI):=aT Jp (aT Jg (aT Vz (aT VB (aT Vn (aT Vo (aT Vp (aT Jm bP)))))))
structure EI (T:List (Nat×Spec)):Prop where
 VD:∀ar h,bB T 260 ar h=rZ ar h
 CC:∀ar h,bB T 259 ar h=qc ar h
 VE:∀ar h,bB T 219 ar h=vW ar h
 VF:∀ar h,bB T 261 ar h=vY ar h
 VG:∀ar h,bB T 308 ar h=vK ar h
 VH:∀ar h,bB T 309 ar h=vM ar h
 VI:∀ar h,bB T 262 ar h=vN ar h
 CL:∀ar h,bB T 286 ar h=nS ar h
theorem EI.c (E:EI T){N:Nat}(hN:N<=500000):CI (bx Tryz.prog FT T) N where
 ft:=bF
 lN:=hN
 rR:=by simp only[E.VD];exact Jq
 nN:=by simp only[E.CC];exact Jh
 mz:=by simp only[E.VE];exact VA
 jT:=by simp only[E.VF];exact VC
 IQ:=by simp only[E.VG];exact Vq
 Cj:=by simp only[E.VH];exact Vr
 IS:=by simp only[E.VI];exact Vs
 rQ:=by simp only[E.CL];exact Jo
theorem eI:EI TI:=by repeat' first|exact fun _ _=>rfl|constructor
noncomputable def wc:Spec:=sK TI 201
noncomputable def we:Spec:=sK TI 253
noncomputable def wh:Spec:=sK TI 199
noncomputable def wi:Spec:=sK [] 230
noncomputable def wj:Spec:=sK [] 196
theorem VJ:ba Tryz.prog gl 201 wc:=bG vZ
theorem VK:ba Tryz.prog gl 253 we:=bG vZ
theorem VM:ba Tryz.prog gl 199 wh:=bG vZ
theorem VN:ba Tryz.prog gl 230 wi:=bG bP
theorem VP:ba Tryz.prog gl 196 wj:=bG bP
def P1 (sp:Spec)(N:Nat)(f:Int->Int):Prop:=∀v z,aN v z->al z<wB^N->∃v0,aN v0 (f z)/\∀h,sp [v] h=some ⟨v0,h,[]⟩
def P2 (sp:Spec)(N:Nat)(f:Int->Int->Int):Prop:=∀a b x y,aN a x->aN b y->al x<wB^N->al y<wB^N->∃v0,aN v0 (f x y)/\∀h,sp [a,b] h=some ⟨v0,h,[]⟩
theorem P1.op {sp:Spec}{N g:Nat}{f:Int->Int}(p:P1 sp N f)(e:∀ar h,bB T g ar h=sp ar h):Ck (bx Tryz.prog FT T) N g f:=fun v z hv hz=>by
 obtain⟨v0,h1,h2⟩:=p v z hv hz;exact⟨v0,h1,fun h=>(e _ _).trans (h2 h)⟩
theorem P2.op {sp:Spec}{N g:Nat}{f:Int->Int->Int}(p:P2 sp N f)(e:∀ar h,bB T g ar h=sp ar h):vC (bx Tryz.prog FT T) N g f:=fun a b x y ha hb hx hy=>by
 obtain⟨v0,h1,h2⟩:=p a b x y ha hb hx hy;exact⟨v0,h1,fun h=>(e _ _).trans (h2 h)⟩
theorem VQ {N:Nat}(hN:N<=500000):P1 wc N (fun z=>-z):=fun v z hv hz=>by
 obtain⟨v0,h1,h2⟩:=Ut (eI.c hN) hv hz;exact⟨v0,h1,dM h2 (kV hv.top)⟩
theorem VR {N:Nat}(hN:N<=500000):P2 we N (· + ·):=fun a b x y ha hb hx hy=>by
 obtain⟨v0,h1,h2⟩:=UA (eI.c hN) ha hb hx hy;exact⟨v0,h1,dM h2 (fy ha.top hb.top)⟩
theorem VT {N:Nat}(hN:N<=500000):P2 wh N (· * ·):=fun a b x y ha hb hx hy=>by
 obtain⟨v0,h1,h2⟩:=UH (eI.c hN) ha hb hx hy;exact⟨v0,h1,dM h2 (fy ha.top hb.top)⟩
theorem VU:∀v z,aN v z->∀h,wi [v] h=some ⟨.iV (br z),h,[]⟩:=fun v z hv h=>cz (Uu bF hv) (kV hv.top) rfl rfl h
theorem VV:∀s h,wj [.iV s] h=some ⟨.agg [.iV s,.ab],h,[]⟩:=fun s h=>(UE bF s).eq rfl
noncomputable def wk:List (Nat×Spec):=(201,wc)::(253,we)::TI
theorem Js:cB Tryz.prog gl (bB wk):=aT VJ (aT VK vZ)
structure wm (T:List (Nat×Spec)):Prop extends EI T where
 VW:∀ar h,bB T 201 ar h=wc ar h
 VX:∀ar h,bB T 253 ar h=we ar h
theorem wm.c (E:wm T){N:Nat}(hN:N<=500000):Cl (bx Tryz.prog FT T) N:={ E.toEI.c hN with mA:=(VQ hN).op E.VW,vD:=(VR hN).op E.VX }
theorem VY:wm wk:=by repeat' first|exact fun _ _=>rfl|constructor
noncomputable def wq:Spec:=sK wk 263
theorem VZ:ba Tryz.prog gl 263 wq:=bG Js
theorem Wa {N:Nat}(hN:N<=500000):P2 wq N (· - ·):=fun a b x y ha hb hx hy=>by
 obtain⟨v0,h1,h2⟩:=UB (VY.c hN) ha hb hx hy;exact⟨v0,h1,dM h2 (fy ha.top hb.top)⟩
noncomputable def TJ:List (Nat×Spec):=(263,wq)::(230,wi)::wk
theorem wu:cB Tryz.prog gl (bB TJ):=aT VZ (aT VN Js)
structure EJ (T:List (Nat×Spec)):Prop extends wm T where
 Wb:∀ar h,bB T 263 ar h=wq ar h
 Wc:∀ar h,bB T 230 ar h=wi ar h
theorem EJ.c (E:EJ T){N:Nat}(hN:N<=500000):CJ (bx Tryz.prog FT T) N:={ E.towm.c hN with Cm:=(Wa hN).op E.Wb,mB:=fun v z hv h=>(E.Wc _ _).trans (VU v z hv h) }
theorem eJ:EJ TJ:=by repeat' first|exact fun _ _=>rfl|constructor
noncomputable def wx:Spec:=sK TJ 298
noncomputable def wy:Spec:=sK TJ 200
theorem Wd:ba Tryz.prog gl 298 wx:=bG wu
theorem We:ba Tryz.prog gl 200 wy:=bG wu
theorem Wf {N:Nat}(hN:N<=500000):P1 wx N al:=fun v z hv hz=>by
 obtain⟨v0,h1,h2⟩:=UC (eJ.c hN) hv hz;exact⟨v0,h1,dM h2 (kV hv.top)⟩
theorem Wg {N:Nat}(hN:N<=500000):∀a b x y,aN a x->aN b y->al x<wB^N->al y<wB^N->∀h,wy [a,b] h=some ⟨.iV (br (x-y)),h,[]⟩:=fun a b x y ha hb hx hy=>
 dM (UD (eJ.c hN) ha hb hx hy) (fy ha.top hb.top)
noncomputable def TD:List (Nat×Spec):=(196,wj)::(220,vP)::TJ
theorem CM:cB Tryz.prog gl (bB TD):=aT VP (aT Vx wu)
structure ED (T:List (Nat×Spec)):Prop extends EJ T where
 Wh:∀ar h,bB T 196 ar h=wj ar h
 Wi:∀ar h,bB T 220 ar h=vP ar h
theorem ED.c (E:ED T){N:Nat}(h1:1<=N)(hN:N<=500000):CD (bx Tryz.prog FT T) N:={ E.toEJ.c hN with
 n1:=h1
 mC:=fun s h=>(E.Wh _ _).trans (VV s h)
 IW:=by simp only[E.Wi];exact Vy }
theorem eD:ED TD:=by repeat' first|exact fun _ _=>rfl|constructor
noncomputable def wz:Spec:=sK TD 299
noncomputable def wA:Spec:=sK TD 195
theorem Wj:ba Tryz.prog gl 299 wz:=bG CM
theorem Wk:ba Tryz.prog gl 195 wA:=bG CM
theorem Wl {N:Nat}(h1:1<=N)(hN:N<=500000):∀a b x y,aN a x->aN b y->al x<wB^N->al y<wB^N->0<y->∃q r,aN q (x/y)/\aN r (x%y)/\∀h,wz [a,b] h=some ⟨.ay [q,r],h,[]⟩:=fun a b x y ha hb hx hy h0=>by
 obtain⟨q,r,k1,k2,k3⟩:=UM (eD.c h1 hN) ha hb hx hy h0;exact⟨q,r,k1,k2,dM k3 (fy ha.top hb.top)⟩
theorem ju.top {v:AV}{n d:Int}(h:ju v n d):v.top=0:=by
 obtain⟨s,w,s',w',rfl,h1,h2⟩:=h;have t1:=h1.one.2.1;have t2:=h2.one.2.1;simp[AV.top,bz,t1,t2]
theorem Wm:∀v z,aN v z->∃v0,ju v0 z 1/\∀h,wA [v] h=some ⟨v0,h,[]⟩:=fun v z hv=>by
 obtain⟨v0,h1,h2⟩:=UT (eD.c (N:=1) am am) hv;exact⟨v0,h1,dM h2 (kV hv.top)⟩
noncomputable def TQ:List (Nat×Spec):=(299,wz)::TD
theorem CN:cB Tryz.prog gl (bB TQ):=aT Wj CM
structure EQ (T:List (Nat×Spec)):Prop extends ED T where
 Wn:∀ar h,bB T 299 ar h=wz ar h
theorem EQ.c (E:EQ T){N:Nat}(h1:1<=N)(hN:N<=500000):CQ (bx Tryz.prog FT T) N:={ E.toED.c h1 hN with vE:=by simp only[E.Wn];exact Wl h1 hN }
theorem eQ:EQ TQ:=by repeat' first|exact fun _ _=>rfl|constructor
noncomputable def wC:Spec:=sK TQ 258
theorem Wo:ba Tryz.prog gl 258 wC:=bG CN
theorem Wp {N:Nat}(h1:1<=N)(hN:N<=500000):∀a b x y k,aN a x->aN b y->al x<wB^N->al y<wB^N->y≠0->x=y*k->∃v0,aN v0 k/\∀h,wC [a,b] h=some ⟨v0,h,[]⟩:=fun a b x y k ha hb hx hy h0 hk=>by
 obtain⟨v0,k1,k2⟩:=UN (eQ.c h1 hN) ha hb hx hy h0 hk;exact⟨v0,k1,dM k2 (fy ha.top hb.top)⟩
noncomputable def TF:List (Nat×Spec):=(195,wA)::(200,wy)::(199,wh)::TQ
theorem wD:cB Tryz.prog gl (bB TF):=aT Wk (aT We (aT VM CN))
structure EF (T:List (Nat×Spec)):Prop extends EQ T where
 Wq:∀ar h,bB T 195 ar h=wA ar h
 Wr:∀ar h,bB T 200 ar h=wy ar h
 Ws:∀ar h,bB T 199 ar h=wh ar h
theorem EF.c (E:EF T){N:Nat}(h1:1<=N)(hN:N<=500000):CF (bx Tryz.prog FT T) N:={ E.toEQ.c h1 hN with
 Cp:=by simp only[E.Wq];exact Wm
 Cq:=by simp only[E.Wr];exact Wg hN
 pZ:=(VT hN).op E.Ws }
theorem eF:EF TF:=by repeat' first|exact fun _ _=>rfl|constructor
noncomputable def TG:List (Nat×Spec):=(298,wx)::TQ
theorem Jt:cB Tryz.prog gl (bB TG):=aT Wd CN
structure EG (T:List (Nat×Spec)):Prop extends EQ T where
 Wt:∀ar h,bB T 298 ar h=wx ar h
theorem EG.c (E:EG T){N:Nat}(h1:1<=N)(hN:N<=500000):CG (bx Tryz.prog FT T) N:={ E.toEQ.c h1 hN with Cv:=(Wf hN).op E.Wt }
theorem eG:EG TG:=by repeat' first|exact fun _ _=>rfl|constructor
noncomputable def sc:Spec:=sK TG 229
theorem Ju:ba Tryz.prog gl 229 sc:=bG Jt
theorem Jv {N:Nat}(h1:1<=N)(hN:N<=500000):∀a b x y,aN a x->aN b y->al x<wB^N->al y<wB^N->∃v0,aN v0 (ci x y:Nat)/\∀h,sc [a,b] h=some ⟨v0,h,[]⟩:=fun a b x y ha hb hx hy=>by
 obtain⟨v0,k1,k2⟩:=UZ (eG.c h1 hN) ha hb hx hy;exact⟨v0,k1,dM k2 (fy ha.top hb.top)⟩
noncomputable def TR:List (Nat×Spec):=(229,sc)::(258,wC)::TG
theorem Wu:cB Tryz.prog gl (bB TR):=aT Ju (aT Wo Jt)
structure ER (T:List (Nat×Spec)):Prop extends EG T where
 Wv:∀ar h,bB T 229 ar h=sc ar h
 Ww:∀ar h,bB T 258 ar h=wC ar h
theorem ER.c (E:ER T){N:Nat}(h1:1<=N)(hN:N<=500000):CR (bx Tryz.prog FT T) N:={ E.toEG.c h1 hN with
 rW:=by simp only[E.Wv];exact Jv h1 hN
 Cw:=by simp only[E.Ww];exact Wp h1 hN }
theorem eR:ER TR:=by repeat' first|exact fun _ _=>rfl|constructor
noncomputable def wE:Spec:=sK TR 198
theorem Wx:ba Tryz.prog gl 198 wE:=bG Wu
theorem Wy {N:Nat}(h1:1<=N)(hN:N<=500000):∀a b n d,aN a n->aN b d->al n<wB^N->al d<wB^N->d≠0->∃v0,cL v0 (be n d)/\∀h,wE [a,b] h=some ⟨v0,h,[]⟩:=fun a b n d ha hb hn hd h0=>by
 obtain⟨v0,k1,k2⟩:=Vb (eR.c h1 hN) ha hb hn hd h0;exact⟨v0,k1,dM k2 (fy ha.top hb.top)⟩
noncomputable def TS:List (Nat×Spec):=(198,wE)::TF
theorem Wz:cB Tryz.prog gl (bB TS):=aT Wx wD
structure ES (T:List (Nat×Spec)):Prop extends EF T where
 WA:∀ar h,bB T 198 ar h=wE ar h
theorem ES.c (E:ES T){N:Nat}(h1:1<=N)(hN:N<=200000):CS (bx Tryz.prog FT T) N (2*N+1):={ E.toEF.c h1 (show N<=500000 by omega) with
  fG:=E.toEF.c ac ac
  hN:=az _
  Vc:=by simp only[E.WA];exact Wy ac ac }
theorem eS:ES TS:=by repeat' first|exact fun _ _=>rfl|constructor
noncomputable def kX:Spec:=sK TS 147
theorem wF:ba Tryz.prog gl 147 kX:=bG Wz
theorem CO {N:Nat}(h1:1<=N)(hN:N<=200000):∀a b p q,cL a p->cL b q->Bq N p->Bq N q->∀h,kX [a,b] h=some ⟨.iV (br (p.num*q.den-q.num*p.den)),h,[]⟩:=fun a b p q ha hb lp lq=>
 dM (Vd (eS.c h1 hN) ha hb lp lq) (fy ha.top hb.top)
end Go.Ab.Ch5.N

/-
  Own work: decimal texts of natural numbers: digits, texts, values.
-/
namespace Go.Ab.aX
def fS (d:Nat):UInt8:=UInt8.ofNat (48+d)
def dg:Nat->Nat->aj
 | 0,_=>[]
 | k+1,n=>dg k (n/10)++[fS (n%10)]
def bh (n:Nat):aj:=if n<10 then [fS n] else bh (n/10)++[fS (n%10)]
termination_by n
decreasing_by omega
def aL (n:Nat)(s:aj):Nat:=s.foldl (fun n b=>10*n+(b.toNat-48)) n
def wG (c:Nat):Bool:=48<=c && c<58
abbrev bI (b:UInt8):Bool:=wG b.toNat
theorem kr (b:UInt8):bI b=true↔48<=b.toNat/\b.toNat<58:=by simp[bI,wG]
theorem sd {d:Nat}(h:d<10):(fS d).toNat=48+d:=by simp[fS];omega
theorem CP {d:Nat}(h:d<10):bI (fS d)=true:=by rw[kr,sd h];omega
theorem WB {b:UInt8}(h:bI b=true):fS (b.toNat-48)=b:=by
 rw[kr]at h;apply d7.1;rw[sd ac];omega
theorem mE:∀(k n:Nat),(dg k n).length=k
 | 0,_=>rfl
 | k+1,n=>by simp[dg,mE k]
theorem Jw:∀(k n:Nat),(dg k n).all bI=true
 | 0,_=>rfl
 | k+1,n=>by simp only[dg,cN,Jw k,d8,m8,CP (mn n (show 10 > 0 by decide)),pL]
theorem CU:∀{k n j:Nat},j<k->(dg k n)[j]! = fS (n/10^(k-1-j)%10)
 | k+1,n,j,h=>by
  rw[dg];by_cases hj:j<k
  . have h1:j<(dg k (n/10)).length:=by rw[mE];exact hj
    have e:(dg k (n/10)++[fS (n%10)])[j]! = (dg k (n/10))[j]! := by
     simp only[bj,i8 h1]
    rw[e,CU hj,show k+1-1-j=(k-1-j)+1 by omega,dF,fg,←Nat.div_div_eq_div_mul]
  . obtain rfl:j=k:=by omega
    have e:(dg j (n/10)++[fS (n%10)])[j]! = fS (n%10):=by
     simp only[bj];rw[List.getElem?_append_right (by rw[mE];exact az _),mE];simp
    rw[e];simp
theorem Jx {k n:Nat}{s:aj}(hl:s.length=k)(h:∀j,j<k->s[j]! = fS (n/10^(k-1-j)%10)):s=dg k n:=by
 apply List.ext_getElem (by rw[hl,mE]);intro i h1 h2;have e1:=h i ac;have e2:=CU (n:=n) (show i<k by omega);rw[←e2]at e1;simpa[bj,aW h1,aW h2] using e1
theorem jV {n:Nat}(h:n<10):bh n=[fS n]:=by rw[bh,if_pos h]
theorem nT {n:Nat}(h:¬n<10):bh n=bh (n/10)++[fS (n%10)]:=by rw[bh,if_neg h]
theorem CV:∀{k n:Nat},n<10^(k+1)->(k=0\/10^k<=n)->bh n=dg (k+1) n
 | 0,n,h,_=>by
  have h:n<10:=by simpa using h
  rw[jV h];simp[dg,jN h]
 | k+1,n,h,h2=>by
  have h2:10^(k+1)<=n:=h2.resolve_left ac;rw[dF]at h h2;have hp:0<10^k:=Nat.pow_pos am;rw[nT ac,CV (k:=k) (n:=n/10) ac (.inr ac)];rfl
theorem Jy:∀{k a b:Nat},0<a->b<10^k->bh (a*10^k+b)=bh a++dg k b
 | 0,a,b,_,hb=>by
  obtain rfl:b=0:=by simpa using hb
  simp[dg]
 | k+1,a,b,ha,hb=>by
  rw[dF]at hb ⊢;have hp:0<10^k:=Nat.pow_pos am;have h1:10<=a*(10^k*10)+b:=by
   have:=Nat.mul_le_mul ha (ii 10 hp);omega
  have e1:(a*(10^k*10)+b)/10=a*10^k+b/10:=by
   rw[←f7];omega
  have e2:(a*(10^k*10)+b)%10=b%10:=by
   rw[←f7];omega
  rw[nT ac,e1,e2,Jy ha ac,dg,m9]
theorem nU (n:Nat)(s t:aj):aL n (s++t)=aL (aL n s) t:=by simp[aL,List.foldl_append]
theorem se (n:Nat)(b:UInt8)(s:aj):aL n (b::s)=aL (10*n+(b.toNat-48)) s:=by rw[aL,aL,ox]
theorem sf (n:Nat)(b:UInt8):aL n [b]=10*n+(b.toNat-48):=by rw[aL,ox,List.foldl_nil]
theorem wH (s:aj):∀(n:Nat),aL n s=n*10^s.length+aL 0 s:=by
 induction s with
 | nil=>intro n;simp[aL]
 | cons b s ih=>
  intro n;rw[se,se,ih,ih (10*0+_),b8,dF,n8];have:10*n*10^s.length=n*(10^s.length*10):=by rw[fg 10 n,f7,fg 10]
  rw[this];simp only[Nat.mul_zero,j0];omega
theorem mF (s:aj):s.all bI=true->aL 0 s<10^s.length:=by
 induction s with
 | nil=>intro _;simp[aL]
 | cons b s ih=>
  intro h;simp only[d8,bc]at h;have hb:=(kr b).1 h.1;have:=ih h.2;rw[se,wH,b8,dF];have h2:(10*0+(b.toNat-48))*10^s.length<=9*10^s.length:=ii _ ac;omega
theorem Jz:∀(k n m:Nat),aL m (dg k n)=m*10^k+n%10^k
 | 0,n,m=>by simp[aL,dg,Nat.mod_one]
 | k+1,n,m=>by
  rw[dg,nU,Jz k,sf,sd (mn _ am),dF];have e:n%(10^k*10)=n%10+10*(n/10%10^k):=by rw[fg (10^k) 10,Nat.mod_mul]
  rw[e,Nat.mul_add,←f7 m,fg 10 (m*10^k)];omega
theorem iL (n:Nat):aL 0 (bh n)=n:=by
 induction n using j9 with
 | _ n ih=>
  by_cases h:n<10
  . rw[jV h,sf,sd h];omega
  . rw[nT h,nU,ih _ ac,sf,sd (mn _ am)];omega
theorem jx (n:Nat):(bh n).all bI=true:=by
 induction n using j9 with
 | _ n ih=>
  by_cases h:n<10
  . rw[jV h];simp[CP h]
  . rw[nT h,cN,ih _ ac];simp[CP (mn n (show 10 > 0 by decide))]
theorem qf (n:Nat):bh n≠[]:=by
 by_cases h:n<10
 . rw[jV h];simp
 . rw[nT h];simp
theorem JA {m n:Nat}(h:bh m=bh n):m=n:=by rw[←iL m,h,iL]
def CW (s:aj):Prop:=s≠[]/\s.all bI=true/\(s.head? = some 48->s.length=1)
theorem WE {s:aj}(h:s.all bI=true):dg s.length (aL 0 s)=s:=by
 have key:∀(k:Nat) (s:aj),s.length=k->s.all bI=true->dg s.length (aL 0 s)=s:=by
  intro k;induction k with
  | zero=>intro s hs _;rw[dh hs];rfl
  | succ k ih=>
   intro s hs h;rcases gT s with rfl|⟨t,c,e⟩
   . simp at hs
   . rw[gU]at e;subst e;simp only[c6,b8,List.length_nil]at hs ⊢;simp only[cN,d8,m8,ib,bc]at h;have hc:=(kr c).1 h.2;rw[show t.length+(0+1)=t.length+1 by omega,dg,nU,sf];rw[show (10*aL 0 t+(c.toNat-48))/10=aL 0 t by omega,show (10*aL 0 t+(c.toNat-48))%10=c.toNat-48 by omega,ih t ac h.1,WB h.2]
 exact key _ s rfl h
theorem JB {s:aj}(h:CW s):bh (aL 0 s)=s:=by
 obtain⟨h0,h1,h2⟩:=h;cases s with
 | nil=>exact absurd rfl h0
 | cons b t=>
  have lt:=mF _ h1;rw[b8]at lt;refine(CV lt ?_).trans (WE h1);cases t with
  | nil=>exact .inl rfl
  | cons c t=>
   right;have hb:b≠48:=fun e=>by
    have:=h2 (by rw[e];rfl);simp at this
   simp only[d8,bc]at h1;have hb1:=(kr b).1 h1.1;have hb2:49<=b.toNat:=by
    have:b.toNat≠48:=fun e=>hb (d7.1 e)
    omega
   rw[se,wH];have:=ii (10^(c::t).length) (show 1<=10*0+(b.toNat-48) by omega);omega
theorem WG (n:Nat):CW (bh n):=by
 refine⟨qf n,jx n,?_⟩;induction n using j9 with
 | _ n ih=>
  by_cases h:n<10
  . rw[jV h];intro _;rfl
  . rw[nT h];intro e;have e2:(bh (n/10)).head? = some 48:=by
     cases hd:bh (n/10) with
     | nil=>exact absurd hd (qf _)
     | cons b t=>rw[hd]at e;exact e
    have l1:=ih _ (show n/10<n by omega) e2;exfalso;have e3:bh (n/10)=[48]:=by
     cases hd:bh (n/10) with
     | nil=>exact absurd hd (qf _)
     | cons b t=>
      rw[hd]at e2 l1;simp at l1 e2;rw[e2,l1]
    have:=iL (n/10);rw[e3]at this;simp[aL]at this;omega
theorem wI {n k:Nat}(h:n<10^k)(hk:0<k):(bh n).length<=k:=by
 induction k generalizing n with
 | zero=>omega
 | succ k ih=>
  by_cases h1:n<10
  . rw[jV h1];simp
  . rw[nT h1,c6];rw[dF]at h;have h0:0<k:=by
     rcases i5 k with rfl|hp
     . simp at h;omega
     . exact hp
    have:=ih (n:=n/10) ac h0;simp;omega
end Go.Ab.aX

/-
  Own work: decimal texts of machine integers: bytes, the number of digits, texts of two digits.
-/
namespace Go.Ab.Ch5.N
open Go.Ab.aX
variable {M:ax} {cap:Option Nat}
abbrev iR (k:Nat):AV:=.fn (.func k) [] []
def sh (s:aj):List AV:=s.map fun c=>.int .u8 c.toNat
section
variable {t:Nat} {x y:aO} {l:List aY} {pe:List AV} {lo:List (Nat×AV)} {hp:ae} {df wr:List Nat} {k:IntKind} {a b:Int} {Q:au->Prop} {e:TypeId} {L:aj} {m:Nat}
end
def JC (L:aj)(off n i u:Nat):Prop:=L.length=24/\∀j,i<=j->j<n->L[off+j]! = fS (u/10^(n-1-j)%10)
theorem JC.fin {L:aj}{off n u:Nat}(h:JC L off n 0 u)(hn:off+n<=24):(L.drop off).take n=dg n u:=by
 refine Jx (by rw[cd,List.length_drop,h.1];omega) fun j hj=>?_
 rw[←h.2 j (n9 _) hj];simp only[bj,List.getElem?_take,if_pos hj,List.getElem?_drop]
variable {e:TypeId}
set_option maxRecDepth 100000
section
variable {t:Nat} {x y:aO} {l:List aY} {pe:List AV} {lo:List (Nat×AV)} {df wr:List Nat} {k:IntKind} {a:Int} {Q:au->Prop} {L:aj} {n:Nat}
end
def cM (z:Int):aj:=if z<0 then 45::bh (-z).toNat else bh z.toNat
set_option maxRecDepth 1000000
end Go.Ab.Ch5.N

/-
  Own work: decimal texts in parts of 18 digits.
-/
namespace Go.Ab.aX
theorem CX:∀k,dg k 0=i6 k 48
 | 0=>rfl
 | k+1=>by rw[dg,CX k,List.replicate_succ'];rfl
end Go.Ab.aX

/-
  Own work: the code of texts of integers and fractions.
-/
namespace Go.Ab.Ch5.N
set_option maxRecDepth 1000000
def wJ:ao:=.seq (zR [zm 13 0,zL 14 13,zc 15 .gtr 14 0] (.cond (.l 15) (.skip) (.exit 0))) (.block 1 (zR [zm 16 0,zL 17 16,⟨.l 18,.mm false [(kI 18),(.l 17)],none⟩,zw 4 18] (zR [zm 20 0,zm 21 4,⟨.l 22,.slice .str 1 (.l 20) none (some (.l 21)) none,none⟩,z1 23 212 22,zn 19 23,ze 24 0 19,ze 25 1 19,zw 5 24,zn 7 25] (.seq (.draw [(zt 26 2 3,[]),(⟨.l 27,.call (kF 196) [(kI 10)],none⟩,[0]),(zm 28 4,[0,1]),(z2 29 284 27 28,[0]),(z2 30 199 26 29,[]),(zm 31 5,[0,1,2,3,4]),(z1 32 196 31,[]),(z2 33 253 30 32,[]),(zs 2 3 33,[])]) (.region [zm 34 0,zm 35 4,⟨.l 36,.slice .str 1 (.l 34) (some (.l 35)) none none,none⟩,zw 0 36])))))
def JD:ao:=zR [⟨.p 1,.alloc 171 [.iV (0),.ab],none⟩] (zR [zm 8 0,⟨.l 9,.call (kF 283) [(.l 8),(.c (.str [45]))],none⟩,zw 2 9] (zR [zm 10 0,⟨.l 11,.call (kF 218) [(.l 10),(.c (.str [45]))],none⟩,zw 0 11] (zR [⟨.l 12,.build [.iV (0),.ab] [],none⟩,⟨.p 3,.alloc 171 [.iV (0),.ab],none⟩,zs 2 3 12] (.seq (.block 0 (.loop wJ)) (.seq (zR [zm 37 2] (.cond (.l 37) (zR [zt 38 2 3,z1 39 201 38,zs 2 1 39] (.ret)) (.skip))) (zR [zt 40 2 3,zs 2 1 40] (.ret)))))))
theorem WH:FT 216=some ⟨41,[0,2,3,4,5,6],[.cell 2 true (.p 1)],JD⟩:=by kernel_rfl
def CY:ao:=zR [⟨.p 1,.alloc 173 [.iV (0),.ab,.iV (0),.ab],none⟩] (zR [zm 7 0,⟨.l 8,.call (kF 160) [(.l 7),(.c (.str [47]))],none⟩,zn 6 8,ze 9 0 6,ze 10 1 6,ze 11 2 6,zw 2 9,zw 3 10,zw 4 11] (.seq (zR [zm 12 4,zu 13 12] (.cond (.l 13) (zR [zm 14 2,z1 15 216 14,z1 16 195 15,zs 4 1 16] (.ret)) (.skip))) (zR [zm 17 2,z1 18 216 17,zm 19 3,z1 20 216 19,⟨.l 21,.build [.iV (0),.ab,.iV (0),.ab] [(0,2,(.l 18)),(2,2,(.l 20))],none⟩,zs 4 1 21] (.ret))))
theorem JE:FT 165=some ⟨22,[0,2,3,4,5],[.cell 4 true (.p 1)],CY⟩:=by kernel_rfl
open Go.Ab.aX
variable {M:ax} {cap:Option Nat} {N:Nat}
theorem nW {z:Int}(h:z<0):cM z=45::bh (al z).toNat:=by
 rw[cM,if_pos h];unfold al;rw[if_pos h]
theorem mG {z:Int}(h:¬z<0):cM z=bh (al z).toNat:=by
 rw[cM,if_neg h];unfold al;rw[if_neg h]
variable {N2:Nat}
def aQ (q:Rat):aj:=if q.den=1 then cM q.num else cM q.num++47::bh q.den
theorem WI (n:Nat):cM (n:Int)=bh n:=by
 rw[cM,if_neg ac];rfl
def wK:List AV:=i6 256 (.bool false)
def JF:ao:=zR [⟨.p 2,.mv (.c (.bool false)),none⟩] (zR [zm 5 0,zm 6 1,z2 7 329 5 6,zw 2 7] (.ret))
theorem WJ:FT 283=some ⟨8,[0,1,4],[.var (.p 2)],JF⟩:=by kernel_rfl
def CZ:ao:=zR [⟨.p 2,.mv (.c (.bool false)),none⟩] (zR [zm 5 0,zL 6 5,zm 7 1,zL 8 7,zb 9 .geq 6 8,zn 10 9,zg (zm 11 0) 10 true,zg (zm 12 1) 10 true,zg (zL 13 12) 10 true,⟨.l 14,.slice .str 1 (.l 11) none (some (.l 13)) none,some ((.l 10),true)⟩,zg (zm 15 1) 10 true,zg (zb 16 .eql 14 15) 10 true,zp 17 10 16,zw 2 17] (.ret))
theorem WK:FT 329=some ⟨18,[0,1,4],[.var (.p 2)],CZ⟩:=by kernel_rfl
def JG:ao:=zR [⟨.p 2,.mv (.c (.str [])),none⟩] (zR [zm 5 0,zm 6 1,z2 7 285 5 6,zw 2 7] (.ret))
theorem WL:FT 218=some ⟨8,[0,1,4],[.var (.p 2)],JG⟩:=by kernel_rfl
def JH:ao:=zR [⟨.p 2,.mv (.c (.str [])),none⟩] (.seq (zR [zm 5 0,zm 6 1,z2 7 329 5 6] (.cond (.l 7) (zR [zm 8 0,zm 9 1,zL 10 9,⟨.l 11,.slice .str 1 (.l 8) (some (.l 10)) none none,none⟩,zw 2 11] (.ret)) (.skip))) (zR [zm 12 0,zw 2 12] (.ret)))
theorem WM:FT 285=some ⟨13,[0,1,4],[.var (.p 2)],JH⟩:=by kernel_rfl
def JI:ao:=zR [zi 1 0,⟨.p 2,.mv (.c (.dN)),none⟩] (zR [zm 7 0,z1 8 278 7,zn 6 8,ze 9 0 6,ze 10 1 6,zw 3 9,zw 4 10] (.seq (zR [zm 11 4,⟨.l 12,.eq true (.iface false) (.l 11) (.c (.dN)),none⟩] (.cond (.l 12) (zR [zm 13 3,zm 14 0,zm 15 4,⟨.l 16,.call (kF 279) [(.c (.str zD1)),(.l 14),(kI 0),(kI 0),(.l 15)],none⟩,zw 1 13,zw 2 16] (.ret)) (.skip))) (zR [zm 17 3,zw 1 17,⟨.p 2,.mv (.c (.dN)),none⟩] (.ret))))
theorem WN:FT 212=some ⟨18,[0,2,3,4,5],[.var (.p 1),.var (.p 2)],JI⟩:=by kernel_rfl
def wL:ao:=zR [zr 50 .lss 11 10] (.seq (.cond (.l 50) (.skip) (.exit 0)) (.seq (.block 1 (zR [⟨.l 51,.eL none 1 (.p 9) (.p 11),none⟩,zd 52 1 51,zw 6 52] (zR [zm 53 6,⟨.l 54,.bin .sub (.l 53) (.c (.int .u8 (48))),none⟩,zw 6 54] (.seq (zR [zm 55 6,⟨.l 56,.bin .gtr (.l 55) (.c (.int .u8 (9))),none⟩] (.cond (.l 56) (zR [⟨.l 57,.qJ 347 (kI 2),none⟩,zi 1 0,zw 2 57] (.ret)) (.skip))) (.region [zm 58 5,zc 59 .mul 58 10,zm 60 6,⟨.l 61,.gW .i64 (.l 60),none⟩,zb 62 .add 59 61,zw 5 62]))))) (.region [zq 63 .add 11 1,zw 11 63])))
def JJ:ao:=zR [zi 1 0,⟨.p 2,.mv (.c (.dN)),none⟩] (zR [zm 11 0,zL 12 11,zw 3 12] (.seq (zR [⟨.l 13,.mv (.c (.bool false)),none⟩,zg (zm 14 3) 13 true,⟨.l 15,.bin .lss (kI 0) (.l 14),some ((.l 13),true)⟩,zg (zn 16 15) 13 true,zg (zm 17 3) 16 true,zg (zc 18 .lss 17 10) 16 true,zg (zp 19 16 18) 13 true,zp 20 13 19,zn 21 20,⟨.l 22,.mv (.c (.bool true)),some ((.l 21),false)⟩,zg (zm 23 3) 22 true,⟨.l 24,.bin .lss (kI 0) (.l 23),some ((.l 22),true)⟩,zg (zn 25 24) 22 true,zg (zm 26 3) 25 true,zg (zc 27 .lss 26 19) 25 true,zg (zp 28 25 27) 22 true,zg (zp 29 22 28) 21 false,zP 30 21 29] (.cond (.l 30) (zR [zm 31 0,zw 4 31] (.seq (zR [zm 32 0,⟨.l 33,.index (.l 32) (kI 0),none⟩,⟨.l 34,.bin .eql (.l 33) (.c (.int .u8 (45))),none⟩,zn 35 34,zg (zm 36 0) 35 false,⟨.l 37,.index (.l 36) (kI 0),some ((.l 35),false)⟩,⟨.l 38,.bin .eql (.l 37) (.c (.int .u8 (43))),some ((.l 35),false)⟩,zP 39 35 38] (.cond (.l 39) (zR [zm 40 0,⟨.l 41,.slice .str 1 (.l 40) (some (kI 1)) none none,none⟩,zw 0 41] (zR [zm 42 0,zL 43 42,zc 44 .lss 43 1] (.cond (.l 44) (zR [⟨.l 45,.qJ 347 (kI 2),none⟩,zi 1 0,zw 2 45] (.ret)) (.skip)))) (.skip))) (zR [zi 5 0] (.seq (zR [zm 46 0,⟨.p 9,.oH 5 (.l 46),none⟩,⟨.p 10,.len .sl (.p 9),none⟩,zi 11 0] (.block 0 (.loop wL))) (.seq (zR [zm 64 4,⟨.l 65,.index (.l 64) (kI 0),none⟩,⟨.l 66,.bin .eql (.l 65) (.c (.int .u8 (45))),none⟩] (.cond (.l 66) (.region [zm 67 5,⟨.l 68,.un .neg (.l 67),none⟩,zw 5 68]) (.skip))) (zR [zm 69 5,zw 1 69,⟨.p 2,.mv (.c (.dN)),none⟩] (.ret))))))) (.skip))) (zR [zm 71 0,⟨.l 72,.call (kF 323) [(.l 71),(kI 10),(kI 0)],none⟩,zn 70 72,ze 73 0 70,ze 74 1 70,zw 7 73,zw 8 74] (zR [zm 75 7,zm 76 8,zw 1 75,zw 2 76] (.ret)))))
theorem WQ:FT 278=some ⟨77,[0,2,3,4,5,6,8,9,10,47,48,49],[.var (.p 1),.var (.p 2)],JJ⟩:=by kernel_rfl
def JK:ao:=zR [⟨.p 2,.mv (.c (.str [])),none⟩,⟨.p 3,.mv (.c (.str [])),none⟩,⟨.p 4,.mv (.c (.bool false)),none⟩] (zR [zm 7 0,zm 8 1,z2 9 210 7 8,ze 10 0 9,ze 11 1 9,ze 12 2 9,zw 2 10,zw 3 11,zw 4 12] (.ret))
theorem WR:FT 160=some ⟨13,[0,1,4,5,6],[.var (.p 2),.var (.p 3),.var (.p 4)],JK⟩:=by kernel_rfl
def Da:ao:=zR [⟨.p 2,.mv (.c (.str [])),none⟩,⟨.p 3,.mv (.c (.str [])),none⟩,⟨.p 4,.mv (.c (.bool false)),none⟩] (.seq (zR [zm 8 0,zm 9 1,z2 10 270 8 9,zw 5 10] (zR [zm 11 5,zc 12 .geq 11 0] (.cond (.l 12) (.seq (.draw [(zm 13 0,[]),(zm 14 5,[0]),(⟨.l 15,.slice .str 1 (.l 13) none (some (.l 14)) none,none⟩,[]),(zm 16 0,[0,1,2]),(zm 17 5,[0,1,2,3]),(zm 18 1,[0,1,2,3,4]),(zL 19 18,[0,1,2,3,4]),(zb 20 .add 17 19,[0,1,2,3]),(⟨.l 21,.slice .str 1 (.l 16) (some (.l 20)) none none,none⟩,[0,1,2]),(zw 2 15,[3,4,5,6,7,8]),(zw 3 21,[]),(⟨.p 4,.mv (.c (.bool true)),none⟩,[])]) (.ret)) (.skip)))) (zR [zm 22 0,zw 2 22,⟨.p 3,.mv (.c (.str [])),none⟩,⟨.p 4,.mv (.c (.bool false)),none⟩] (.ret)))
theorem WS:FT 210=some ⟨23,[0,1,4,5,6,7],[.var (.p 2),.var (.p 3),.var (.p 4)],Da⟩:=by kernel_rfl
def WT:ao:=.seq (zR [zm 57 6,zm 58 7,zb 59 .lss 57 58] (.cond (.l 59) (.skip) (.exit 1))) (.block 2 (.seq (zR [zm 60 0,zm 61 6,⟨.l 62,.index (.l 60) (.l 61),none⟩,zm 63 4,zb 64 .neq 62 63] (.cond (.l 64) (zR [zm 65 0,zm 66 6,zc 67 .add 66 1,zm 68 7,⟨.l 69,.slice .str 1 (.l 65) (some (.l 67)) (some (.l 68)) none,none⟩,zm 70 4,z2 71 316 69 70,zw 9 71] (.seq (zR [zm 72 9,zc 73 .lss 72 0] (.cond (.l 73) (zR [zi 2 (-1)] (.ret)) (.skip))) (.region [zm 74 6,zm 75 9,zc 76 .add 75 1,zb 77 .add 74 76,zw 6 77]))) (.skip))) (.seq (zR [zm 78 0,zm 79 6,zc 80 .add 79 1,⟨.l 81,.index (.l 78) (.l 80),none⟩,zm 82 5,zb 83 .eql 81 82,zn 84 83,zg (zm 85 0) 84 true,zg (zm 86 6) 84 true,zg (zm 87 6) 84 true,zg (zm 88 3) 84 true,zg (zb 89 .add 87 88) 84 true,⟨.l 90,.slice .str 1 (.l 85) (some (.l 86)) (some (.l 89)) none,some ((.l 84),true)⟩,zg (zm 91 1) 84 true,zg (zb 92 .eql 90 91) 84 true,zp 93 84 92] (.cond (.l 93) (zR [zm 94 6,zw 2 94] (.ret)) (.skip))) (zR [zm 95 6,zc 96 .add 95 1,zw 6 96] (zR [zm 97 8,zc 98 .add 97 1,zw 8 98] (.seq (.bad) (.cond (.l 107) (zR [zm 108 0,zm 109 6,⟨.l 110,.slice .str 1 (.l 108) (some (.l 109)) none none,none⟩,zm 111 1,z2 112 317 110 111,zw 10 112] (.seq (zR [zm 113 10,zc 114 .geq 113 0] (.cond (.l 114) (zR [zm 115 10,zm 116 6,zb 117 .add 115 116,zw 2 117] (.ret)) (.skip))) (zR [zi 2 (-1)] (.ret)))) (.seq (.bad) (.cond (.l 132) (zR [zm 133 0,zm 134 6,⟨.l 135,.slice .str 1 (.l 133) (some (.l 134)) none none,none⟩,zm 136 1,z2 137 319 135 136,zw 11 137] (.seq (zR [zm 138 11,zc 139 .lss 138 0] (.cond (.l 139) (zR [zi 2 (-1)] (.ret)) (.skip))) (zR [zm 140 6,zm 141 11,zb 142 .add 140 141,zw 2 142] (.ret)))) (.skip))))))))))
def JL:ao:=zR [zi 2 0] (zR [zm 14 1,zL 15 14,zw 3 15] (.seq (.block 0 (zR [zm 17 3,zc 18 .eql 17 0,zn 19 18,zg (zm 20 1) 19 false,zg (zm 21 0) 19 false,zg (zb 22 .eql 20 21) 19 false,zP 23 19 22,zn 16 23] (.cond (.l 16) (zR [zi 2 0] (.ret)) (zR [zm 25 3,zc 26 .eql 25 1,zn 24 26] (.cond (.l 24) (zR [zm 27 0,zm 28 1,⟨.l 29,.index (.l 28) (kI 0),none⟩,z2 30 316 27 29,zw 2 30] (.ret)) (zR [zm 32 3,zm 33 0,zL 34 33,zb 35 .geq 32 34,zn 31 35] (.cond (.l 31) (zR [zi 2 (-1)] (.ret)) (.seq (.bad) (.cond (.l 36) (zR [zm 45 0,zm 46 1,z2 47 317 45 46,zw 2 47] (.ret)) (.skip)))))))))) (zR [zm 48 1,⟨.l 49,.index (.l 48) (kI 0),none⟩,zw 4 49] (zR [zm 50 1,⟨.l 51,.index (.l 50) (kI 1),none⟩,zw 5 51] (zR [zi 6 0] (zR [zm 52 0,zL 53 52,zm 54 3,zb 55 .sub 53 54,zc 56 .add 55 1,zw 7 56] (zR [zi 8 0] (.seq (.block 1 (.loop WT)) (zR [zi 2 (-1)] (.ret))))))))))
theorem WU:FT 270=some ⟨143,[0,1,4,5,6,7,8,9,10,11,12,13],[.var (.p 2)],JL⟩:=by kernel_rfl
def JM:ao:=zR [zi 2 0] (zR [zm 5 0,zm 6 1,z2 7 336 5 6,zw 2 7] (.ret))
theorem WW:FT 316=some ⟨8,[0,1,4],[.var (.p 2)],JM⟩:=by kernel_rfl
def JN:ao:=zR [⟨.p 2,.mv (.c (.str [])),none⟩,⟨.p 3,.mv (.c (.bool false)),none⟩] (zR [zm 6 0,zm 7 1,z2 8 296 6 7,ze 9 0 8,ze 10 1 8,zw 2 9,zw 3 10] (.ret))
theorem WX:FT 225=some ⟨11,[0,1,4,5],[.var (.p 2),.var (.p 3)],JN⟩:=by kernel_rfl
def JO:ao:=zR [⟨.p 2,.mv (.c (.str [])),none⟩,⟨.p 3,.mv (.c (.bool false)),none⟩] (.seq (zR [zm 6 0,zm 7 1,z2 8 329 6 7,zu 9 8] (.cond (.l 9) (zR [zm 10 0,zw 2 10,⟨.p 3,.mv (.c (.bool false)),none⟩] (.ret)) (.skip))) (zR [zm 11 0,zm 12 1,zL 13 12,⟨.l 14,.slice .str 1 (.l 11) (some (.l 13)) none none,none⟩,zw 2 14,⟨.p 3,.mv (.c (.bool true)),none⟩] (.ret)))
theorem WY:FT 296=some ⟨15,[0,1,4,5],[.var (.p 2),.var (.p 3)],JO⟩:=by kernel_rfl
def JP:ao:=zR [⟨.p 1,.mv (.c (.bool false)),none⟩] (zR [zm 3 0,⟨.l 4,.bin .neq (.l 3) (.c (.str [])),none⟩,zn 5 4,zg (zm 6 0) 5 true,⟨.l 7,.call (kF 211) [(.l 6),(.c (.str zD2))],some ((.l 5),true)⟩,⟨.l 8,.bin .eql (.l 7) (.c (.str [])),some ((.l 5),true)⟩,zp 9 5 8,zw 1 9] (.ret))
theorem WZ:FT 297=some ⟨10,[0,2],[.var (.p 1)],JP⟩:=by kernel_rfl
def JQ:ao:=zR [⟨.p 2,.mv (.c (.str [])),none⟩] (.seq (zR [zm 7 0,⟨.l 8,.bin .eql (.l 7) (.c (.str [])),none⟩,zn 9 8,zg (zm 10 1) 9 false,⟨.l 11,.bin .eql (.l 10) (.c (.str [])),some ((.l 9),false)⟩,zP 12 9 11] (.cond (.l 12) (zR [zm 13 0,zw 2 13] (.ret)) (.skip))) (.seq (zR [zm 14 1,zL 15 14,zc 16 .eql 15 1,zn 17 16,zg (zm 18 1) 17 true,⟨.l 19,.index (.l 18) (kI 0),some ((.l 17),true)⟩,⟨.l 20,.bin .lss (.l 19) (.c (.int .u8 (128))),some ((.l 17),true)⟩,zp 21 17 20] (.cond (.l 21) (.seq (.draw [(zm 22 0,[]),(zm 23 1,[0]),(⟨.l 24,.index (.l 23) (kI 0),none⟩,[0]),(z2 25 272 22 24,[]),(zm 26 1,[0,1,2,3]),(⟨.l 27,.index (.l 26) (kI 0),none⟩,[0,1,2,3]),(z2 28 271 25 27,[]),(zw 2 28,[])]) (.ret)) (.skip))) (.seq (zR [zm 30 1,z1 31 273 30,zn 29 31,ze 32 0 29,ze 33 1 29,⟨.p 3,.alloc 314 wK,none⟩,zs 256 3 32,zw 4 33] (zR [zm 34 4] (.cond (.l 34) (zR [zm 35 0,⟨.l 36,.call (kF 275) [(.l 35),(.p 3)],none⟩,⟨.l 37,.call (kF 274) [(.l 36),(.p 3)],none⟩,zw 2 37] (.ret)) (.skip)))) (zR [zm 38 0,zm 39 1,z2 40 277 38 39,zm 41 1,z2 42 276 40 41,zw 2 42] (.ret)))))
theorem Xa:FT 211=some ⟨43,[0,1,4,5,6],[.var (.p 2)],JQ⟩:=by kernel_rfl
def Xb:ao:=.seq (zR [zm 6 3,zm 7 0,zL 8 7,zb 9 .lss 6 8] (.cond (.l 9) (.skip) (.exit 0))) (.seq (.block 1 (zR [zm 12 0,zm 13 3,⟨.l 14,.index (.l 12) (.l 13),none⟩,zw 4 14] (.seq (zR [zm 15 4,⟨.l 16,.bin .geq (.l 15) (.c (.int .u8 (128))),none⟩] (.cond (.l 16) (zR [zt 17 256 1,zs 256 1 17,⟨.p 2,.mv (.c (.bool false)),none⟩] (.ret)) (.skip))) (.region [zm 18 4,⟨.l 19,.eL (some 256) 1 (.p 1) (.l 18),none⟩,⟨.no,.store 1 (.l 19) (.c (.bool true)),none⟩])))) (.region [zm 10 3,zc 11 .add 10 1,zw 3 11]))
def Db:ao:=zR [⟨.p 1,.alloc 314 wK,none⟩,⟨.p 2,.mv (.c (.bool false)),none⟩] (.seq (zR [zi 3 0] (.block 0 (.loop Xb))) (zR [zt 20 256 1,zs 256 1 20,⟨.p 2,.mv (.c (.bool true)),none⟩] (.ret)))
theorem Xc:FT 273=some ⟨21,[0,2,3,4,5],[.cell 256 true (.p 1),.var (.p 2)],Db⟩:=by kernel_rfl
def si:ao:=.seq (zR [zm 5 0,zL 6 5,zc 7 .gtr 6 0] (.cond (.l 7) (.skip) (.exit 0))) (.block 1 (.seq (zR [zm 8 1,zm 9 0,⟨.l 10,.index (.l 9) (kI 0),none⟩,z2 11 320 8 10,zu 12 11] (.cond (.l 12) (.exit 0) (.skip))) (.region [zm 13 0,⟨.l 14,.slice .str 1 (.l 13) (some (kI 1)) none none,none⟩,zw 0 14])))
def JR:ao:=zR [⟨.p 2,.mv (.c (.str [])),none⟩] (.seq (.block 0 (.loop si)) (zR [zm 15 0,zw 2 15] (.ret)))
theorem Xd:FT 274=some ⟨16,[0,1,4],[.var (.p 2)],JR⟩:=by kernel_rfl
def sm:ao:=.seq (zR [zm 5 0,zL 6 5,zc 7 .gtr 6 0] (.cond (.l 7) (.skip) (.exit 0))) (.block 1 (.seq (zR [zm 8 1,zm 9 0,zm 10 0,zL 11 10,zc 12 .sub 11 1,⟨.l 13,.index (.l 9) (.l 12),none⟩,z2 14 320 8 13,zu 15 14] (.cond (.l 15) (.exit 0) (.skip))) (.region [zm 16 0,zm 17 0,zL 18 17,zc 19 .sub 18 1,⟨.l 20,.slice .str 1 (.l 16) none (some (.l 19)) none,none⟩,zw 0 20])))
def JS:ao:=zR [⟨.p 2,.mv (.c (.str [])),none⟩] (.seq (.block 0 (.loop sm)) (zR [zm 21 0,zw 2 21] (.ret)))
theorem Xe:FT 275=some ⟨22,[0,1,4],[.var (.p 2)],JS⟩:=by kernel_rfl
def JT:ao:=zR [⟨.p 2,.mv (.c (.bool false)),none⟩] (zR [zm 5 0,zm 6 1,⟨.l 7,.tu (.l 5),none⟩,⟨.l 8,.eL (some 256) 1 (.l 7) (.l 6),none⟩,zd 9 1 8,zw 2 9] (.ret))
theorem Xf:FT 320=some ⟨10,[0,1,4],[.var (.p 2)],JT⟩:=by kernel_rfl
def JU:ao:=zR [⟨.p 1,.mv (.c (.bool false)),none⟩] (zR [zm 3 0,z1 4 297 3,zn 5 4,zg (zm 6 0) 5 true,⟨.l 7,.index (.l 6) (kI 0),some ((.l 5),true)⟩,⟨.l 8,.bin .neq (.l 7) (.c (.int .u8 (48))),some ((.l 5),true)⟩,zg (zn 9 8) 5 true,zg (zm 10 0) 9 false,⟨.l 11,.bin .eql (.l 10) (.c (.str [48])),some ((.l 9),false)⟩,zg (zP 12 9 11) 5 true,zp 13 5 12,zw 1 13] (.ret))
theorem Xg:FT 226=some ⟨14,[0,2],[.var (.p 1)],JU⟩:=by kernel_rfl
theorem afr {t esz n0:Nat}{x i:aO}{l:List aY}{pe:List AV}{lo:List (Nat×AV)}{hp:ae}{df wr:List Nat}{b o:Nat}{k:IntKind}{n:Int}{Q:au->Prop}(hx:(St.mk pe lo hp df).ah x=some (.ptr b o))(hy:(St.mk pe lo hp df).ah i=some (.int k n))(hb:0<=n/\n<n0)
 (h:WO M l ⟨⟨pe,(t,.ptr b (o+n.toNat*esz))::lo,hp,df⟩,wr⟩ Q):WO M (⟨.l t,.eL (some n0) esz x i,none⟩::l) ⟨⟨pe,lo,hp,df⟩,wr⟩ Q:=
 abh (v:=.ptr b (o+n.toNat*esz)) (by simp[bk,hx,hy,oM,hb]) rfl h
theorem afs {t:Nat}{x y:aO}{l:List aY}{pe:List AV}{lo:List (Nat×AV)}{hp:ae}{df wr:List Nat}{a b:Int}{Q:au->Prop}(hx:(St.mk pe lo hp df).ah x=some (.int .u8 a))(hy:(St.mk pe lo hp df).ah y=some (.int .u8 b))(hr:0<=a-b/\a-b<256)
 (h:WO M l ⟨⟨pe,(t,.int .u8 (a-b))::lo,hp,df⟩,wr⟩ Q):WO M (⟨.l t,.bin .sub x y,none⟩::l) ⟨⟨pe,lo,hp,df⟩,wr⟩ Q:=
 abh (v:=.int .u8 (a-b)) (by
  have:IntKind.u8.wrap (a-b)=a-b:=by simp only[IntKind.wrap,IntKind.bits,IntKind.signed];simp;omega
  simp only[bk,hx,hy,dy,if_true,this]) rfl h
def hasB (c:Int)(s:aj):Bool:=s.any (fun b=>decide ((b.toNat:Int)=c))
theorem Xj (s:aj)(b:UInt8):decide (0<=firstIdx ⟨s.toArray⟩ b)=hasB b.toNat s:=by
 unfold firstIdx hasB;have hsz:(aZ s.toArray).size=s.length:=by simp[pp]
 have hg:∀i,i<s.length->(aZ s.toArray)[i]! = s[i]! := fun i hi=>by
  have h1:i<(aZ s.toArray).size:=by rw[hsz];exact hi
  rw[getElem!_pos (aZ s.toArray) i h1,getElem!_pos s i hi];rfl
 cases hf:(g9 (aZ s.toArray).size).find? fun i=>(aZ s.toArray)[i]! == b with
 | some i=>
  have h1:=oy hf;have h2:=i9 hf;rw[kM,hsz]at h2;rw[hg i h2]at h1;symm
  simp only[decide_eq_true (show (0:Int)<=(i:Int) by omega)];rw[List.any_eq_true];refine⟨s[i],db h2,?_⟩;rw[getElem!_pos s i h2]at h1;simp at h1;simp[h1]
 | none=>
  rw[List.find?_eq_none]at hf;symm
  rw[show decide ((0:Int) <= -1)=false from rfl];rw[List.any_eq_false];intro x hx;obtain⟨i,hi,rfl⟩:=List.mem_iff_getElem.1 hx;have:=hf i (by rw[kM,hsz];exact hi);rw[hg i hi,getElem!_pos s i hi]at this;simp at this;simp only[decide_eq_true_eq];intro e;exact this (d7.1 ac)
structure sn (M:ax):Prop where
 ft:M.FT=FT
 JV:∀ars h,M.ext 270 ars h=none
 JW:∀ars h,M.ext 316 ars h=none
 JX:∀(s:aj) (c:Int) h,M.ext 336 [.str s,.int .u8 c] h=some ⟨.iV (firstIdx ⟨s.toArray⟩ c.toNat.toUInt8),h,[]⟩
theorem Xk (b:UInt8):((b.toNat:Int)).toNat.toUInt8=b:=by simp
theorem Xl (C:sn M)(s:aj)(b:UInt8)(H:ae):CT M (iR 316) [.str s,.int .u8 b.toNat] H ⟨.iV (firstIdx ⟨s.toArray⟩ b),H,[]⟩:=by
 have hc:=C.JX s b.toNat H;rw[Xk]at hc;refine CT.run (C.JW _ _) (pD (by rw[C.ft];exact WW) aq ?_);simp only[cV,c5];unfold JM;simp only[enter];repeat' first|apply aaQ|apply aa|apply aaf|apply aad|apply abw|(apply abJ;rfl;rfl;first|exact hc)|(apply abh;rfl;rfl)|(apply abl;rfl;rfl)
 exact⟨.inr rfl,rfl,rfl,rfl,_,rfl,rfl⟩
theorem Xm (C:sn M)(s:aj)(b:UInt8)(H:ae):CT M (iR 270) [.str s,.str [b]] H ⟨.iV (firstIdx ⟨s.toArray⟩ b),H,[]⟩:=by
 have hc:=Xl C s b H;have hn0:¬(([b]:aj).length:Int)=0:=by simp
 have hn:(([b]:aj).length:Int)=1:=rfl;refine CT.run (C.JV _ _) (pD (by rw[C.ft];exact WU) aq ?_);simp only[cV,c5];unfold JL;simp only[enter];by_cases hs:([b]:aj)=s
 . subst hs;have e:firstIdx ⟨([b]:aj).toArray⟩ b=0:=by
    have h1:=Xj [b] b;have h2:hasB b.toNat [b]=true:=by simp[hasB]
    rw[h2,decide_eq_true_eq]at h1;unfold firstIdx at h1 ⊢;rw[show (aZ ([b]:aj).toArray).size=1 from rfl]at h1 ⊢;rw[show g9 1=[0] from rfl]at h1 ⊢;have h3:((aZ ([b]:aj).toArray)[0]! == b)=true:=by
     cases hq:((aZ ([b]:aj).toArray)[0]! == b) with
     | true=>rfl
     | false=>simp[hq]at h1
    simp only[List.find?_cons,h3];rfl
   rw[e];repeat' first|(apply adV;rfl;rfl;all_goals first|(intro h;exact absurd rfl h)|intro _)|apply aaQ|apply aa|apply aaf|apply aad|apply abI|apply abw|apply aU|apply cQ|(apply abz;rfl)|(apply adb;rfl)|(apply acR;rfl;rfl)|(apply acw;rfl;rfl)|(apply abh;rfl;rfl)|(apply abl;rfl;rfl)|(intro _;omega)|intro _
   all_goals exact⟨.inr rfl,rfl,rfl,rfl,_,rfl,rfl⟩
 . repeat' first|(apply adV;rfl;rfl;all_goals first|(intro h;exact absurd h hs)|intro _)|apply aaQ|apply aa|apply aaf|apply aad|apply abI|apply abw|apply aU|apply cQ|(apply abz;rfl)|(apply abx;rfl)|(apply adb;rfl)|(apply acR;rfl;rfl)|(apply acw;rfl;rfl)|(apply adQ;rfl;rfl;first|exact hc)|(apply adT;rfl;rfl;omega)|(apply abh;rfl;rfl)|(apply abl;rfl;rfl)|(intro _;omega)|intro _
   all_goals exact⟨.inr rfl,rfl,rfl,rfl,_,rfl,rfl⟩
def bH (b:UInt8):aj->aj×Option aj
 | []=>([],none)
 | c::s=>if c=b then ([],some s) else (c::(bH b s).1,(bH b s).2)
def mH (b:UInt8):aj->List aj
 | []=>[[]]
 | c::s=>if c=b then []::mH b s else match mH b s with
   | []=>[[c]]
   | x::l=>(c::x)::l
def kY (b:UInt8):aj->Nat
 | []=>0
 | c::s=>(if c=b then 1 else 0)+kY b s
theorem mI {b:UInt8}:∀{s:aj},(bH b s).2=none->(bH b s).1=s/\mH b s=[s]/\kY b s=0
 | [],_=>⟨rfl,rfl,rfl⟩
 | c::s,h=>by
  rw[bH]at h ⊢;by_cases hc:c=b
  . rw[if_pos hc]at h;cases h
  . rw[if_neg hc]at h ⊢;obtain⟨h1,h2,h3⟩:=mI (s:=s) h;refine⟨by simp only;rw[h1],?_,?_⟩
    . rw[mH,if_neg hc,h2]
    . rw[kY,if_neg hc,h3]
theorem qh {b:UInt8}:∀{s y:aj},(bH b s).2=some y->s=(bH b s).1++b::y/\mH b s=(bH b s).1::mH b y/\kY b s=kY b y+1/\b∉(bH b s).1
 | [],y,h=>by cases h
 | c::s,y,h=>by
  rw[bH]at h ⊢;by_cases hc:c=b
  . rw[if_pos hc]at h ⊢;obtain rfl:s=y:=k9.inj h;subst hc;refine⟨rfl,?_,?_,aq⟩
    . rw[mH,if_pos rfl]
    . rw[kY,if_pos rfl];omega
  . rw[if_neg hc]at h ⊢;obtain⟨h1,h2,h3,h4⟩:=qh (s:=s) h;refine⟨by simp only[nO];rw[←h1],?_,?_,?_⟩
    . rw[mH,if_neg hc,h2]
    . rw[kY,if_neg hc,h3];omega
    . simp only[p6,not_or];exact⟨fun e=>hc e.symm,h4⟩
theorem Xn (s:aj)(b:UInt8):firstIdx ⟨s.toArray⟩ b=if (bH b s).2=none then -1 else ((bH b s).1.length:Int):=by
 have hsz:(aZ s.toArray).size=s.length:=by simp[pp]
 have hg:∀i,i<s.length->(aZ s.toArray)[i]! = s[i]! := fun i hi=>by
  have h1:i<(aZ s.toArray).size:=by rw[hsz];exact hi
  rw[getElem!_pos (aZ s.toArray) i h1,getElem!_pos s i hi];rfl
 unfold firstIdx;cases hy:(bH b s).2 with
 | none=>
  rw[if_pos rfl];cases hf:(g9 (aZ s.toArray).size).find? fun i=>(aZ s.toArray)[i]! == b with
  | none=>rfl
  | some i=>
   exfalso;have h1:=oy hf;have h2:=i9 hf;rw[kM,hsz]at h2;rw[hg i h2,getElem!_pos s i h2]at h1;have hm:b∈s:=by
    have:s[i]=b:=by simpa using h1
    rw[←this];exact db h2
   have h0:=(mI hy).2.2;have:∀s:aj,b∈s->0<kY b s:=fun s=>by
    induction s with
    | nil=>intro h;cases h
    | cons c s ih=>
     intro h;rw[kY];rcases p6.1 h with rfl|h
     . rw[if_pos rfl];omega
     . have:=ih h;omega
   have:=this s hm;omega
 | some y=>
  rw[if_neg aq];obtain⟨h1,_,_,h4⟩:=qh hy;generalize (bH b s).1=x at h1 h4 ⊢;have hl:x.length<s.length:=by rw[h1];simp
  have hf:((g9 (aZ s.toArray).size).find? fun i=>(aZ s.toArray)[i]! == b)=some x.length:=by
   rw[hsz,List.find?_range_eq_some];refine⟨?_,by simpa using hl,fun j hj=>?_⟩
   . rw[hg _ hl,getElem!_pos s _ hl];have:s[x.length]? = some b:=by rw[h1];simp
     rw[aW hl]at this;simp[k9.inj this]
   . rw[hg j ac,getElem!_pos s j ac];have:s[j]? = x[j]? := by rw[h1,i8 hj]
     rw[aW (by omega:j<s.length),aW hj]at this;rw[k9.inj this];have hne:x[j]≠b:=fun e=>h4 (by rw[←e];exact db hj)
     simp[hne]
  rw[hf]
def iQ (b:UInt8)(s:aj):AV:=.ay [.str (bH b s).1,.str ((bH b s).2.getD []),.bool (bH b s).2.isSome]
theorem sr {b:UInt8}{s y:aj}(h:(bH b s).2=some y):s.length=(bH b s).1.length+1+y.length:=by
 have:=congrArg List.length (qh h).1;simp only[c6,b8]at this;omega
theorem Dc {b:UInt8}{s y:aj}(h:(bH b s).2=some y):s.take (bH b s).1.length=(bH b s).1:=by
 have e:=(qh h).1;generalize (bH b s).1=x at e ⊢;rw[e];simp
theorem JY {b:UInt8}{s y:aj}(h:(bH b s).2=some y):s.drop ((bH b s).1.length+1)=y:=by
 have e:=(qh h).1;generalize (bH b s).1=x at e ⊢;rw[e];simp
theorem Xo (n210:∀ars h,M.ext 210 ars h=none)(C:sn M)(s:aj)(b:UInt8)(hl:s.length<1000000)(H:ae):CT M (iR 210) [.str s,.str [b]] H ⟨iQ b s,H,[]⟩:=by
 have hc:=Xm C s b H;have hn1:([b]:aj).length=1:=rfl;rw[Xn]at hc;refine CT.run (n210 _ _) (pD (by rw[C.ft];exact WS) aq ?_);simp only[cV,c5];cases hy:(bH b s).2 with
 | none=>
  rw[if_pos hy]at hc;have h1:=(mI hy).1;unfold Da;simp only[enter];repeat' first|apply aaQ|apply aa|apply aaf|apply aad|apply abw|apply abC|(apply abx;rfl)|(apply adK;rfl;rfl)|(apply adQ;rfl;rfl;first|exact hc)|(apply abh;rfl;rfl)|(apply abl;rfl;rfl)|(intro _;omega)|intro _
  refine⟨.inr rfl,rfl,rfl,rfl,_,rfl,?_⟩;simp only[iQ,hy,h1];rfl
 | some y=>
  rw[if_neg (by rw[hy];simp)]at hc;have h1:=sr hy;have h2:=Dc hy;have h3:=JY hy;generalize hx:(bH b s).1=x at h1 h2 h3 hc;unfold Da;simp only[enter];repeat' first|(apply aec (r:=x);rfl;rfl;omega;(rw[ff];exact h2))|(apply adY (r:=y);rfl;rfl;omega;(rw[show ((x.length:Int)+(([b]:aj).length:Int)).toNat=x.length+1 by omega];exact h3))|apply aaQ|apply aa|apply aaf|apply aad|apply abw|apply aU|(apply adX;rfl)|(apply abz;rfl)|(apply adK;rfl;rfl)|(apply acS;rfl;rfl;omega)|(apply adQ;rfl;rfl;first|exact hc)|(apply abh;rfl;rfl)|(apply abl;rfl;rfl)|(intro _;omega)|intro _
  refine⟨.inr rfl,rfl,rfl,rfl,_,rfl,?_⟩;simp only[iQ,hy,hx];rfl
theorem Xp (n210:∀ars h,M.ext 210 ars h=none)(C:sn M)(s:aj)(b:UInt8)(hl:s.length<1000000):bg M 160 [.str s,.str [b]] [] ⟨iQ b s,[],[]⟩:=by
 have hc:=Xo n210 C s b hl [];unfold iQ at hc ⊢;refine bY (by rw[C.ft];exact WR) aq ?_;unfold JK;simp only[enter];repeat' first|apply aaQ|apply aa|apply aaf|apply aad|apply abw|(apply adQ;rfl;rfl;first|exact hc)|(apply abh;rfl;rfl)|(apply abl;rfl;rfl)
 exact⟨.inr rfl,rfl,_,rfl,rfl,rfl⟩
@[irreducible] def fh:List AV:=(g9 256).map fun i=>.bool (wG i)
def mJ:aj:=[48,49,50,51,52,53,54,55,56,57]
set_option maxRecDepth 1000000 in
theorem Xq (M:ax):gQ (bw M.ext M.inv M.FT 100) (fun _=>some ⟨21,[0,2,3,4,5],[.cell 256 true (.p 1),.var (.p 2)],Db⟩) 273 [.str mJ] []=some ⟨.ay [.agg fh,.bool true],[],[]⟩:=by
 kernel_rfl
theorem Xr {run:ao->au->Option (Ex×au)}{F G:FuncId->Option cU}{f:FuncId}(h:F f=G f)(ars:List AV)(hp:ae):gQ run F f ars hp=gQ run G f ars hp:=by
 simp only[gQ,h]
theorem Xs (hft:M.FT=FT):bg M 273 [.str mJ] [] ⟨.ay [.agg fh,.bool true],[],[]⟩:=by
 have h2:M.FT 273=(fun _=>some ⟨21,[0,2,3,4,5],[.cell 256 true (.p 1),.var (.p 2)],Db⟩:FuncId->Option cU) 273:=by rw[hft];exact Xc
 exact⟨100,(Xr h2 _ _).trans (Xq M)⟩
structure nX (M:ax):Prop where
 ft:M.FT=FT
 JZ:∀ars h,M.ext 320 ars h=none
 Ka:∀ars h,M.ext 274 ars h=none
 Kb:∀ars h,M.ext 275 ars h=none
 wM:∀h,M.ext 273 [.str mJ] h=some ⟨.ay [.agg fh,.bool true],h,[]⟩
theorem Xt {c:Nat}(h:c<256):fh[c]? = some (.bool (wG c)):=by
 simp[fh,h]
theorem Xu {c:UInt8}:partOf (fh.drop (0+((c.toNat:Int)).toNat*1)) 0 1 false=some (.bool (bI c)):=by
 have hc:c.toNat<256:=c.toNat_lt;rw[GY,ff,j0,Nat.mul_one];simp only[partOf,i7,if_false];exact Xt hc
theorem Kc (C:nX M)(c:UInt8){H:ae}{b:Nat}(hb:H.at b=some (.cells fh 314)):CT M (iR 320) [.ptr b 0,.int .u8 c.toNat] H ⟨.bool (bI c),H,[]⟩:=by
 have hc:c.toNat<256:=c.toNat_lt;refine CT.run (C.JZ _ _) (pD (by rw[C.ft];exact Xf) aq ?_);simp only[cV,c5];unfold JT;simp only[enter];repeat' first|(apply afr;rfl;rfl;omega)|(apply aeA;rfl;exact hb;exact Xu)|apply aaQ|apply aa|apply aaf|apply aad|apply abw|(apply abh;rfl;rfl)|(apply abl;rfl;rfl)
 exact⟨.inr rfl,rfl,rfl,rfl,_,rfl,rfl⟩
def jW (s:aj):aj:=s.dropWhile bI
def iS (s:aj):aj:=(s.reverse.dropWhile bI).reverse
theorem Kd (s:aj)(c:UInt8):iS (s++[c])=if bI c then iS s else s++[c]:=by
 unfold iS;rw[List.reverse_append,List.reverse_singleton,List.singleton_append,fM];split
 . rfl
 . simp
theorem Xv (C:nX M){H:ae}{b:Nat}(hb:H.at b=some (.cells fh 314)){Q:Ex->au->Prop}:∀(n:Nat) (s:aj) (lo:List (Nat×AV)) (wr:List Nat) (_:wr=[]),s.length=n->n<1000000 ->
 (∀lo,Q (.exit 0) ⟨⟨[.str (iS s),.ptr b 0,.str []],lo,H,[]⟩,[]⟩)->W M (.loop sm) ⟨⟨[.str s,.ptr b 0,.str []],lo,H,[]⟩,wr⟩ Q:=by
 intro n;induction n with
 | zero=>
  intro s lo wr hw hs hn hQ;subst hw;obtain rfl:s=[]:=List.length_eq_zero_iff.1 hs;have h0:([]:aj).length=0:=rfl;refine W.loop ?_;unfold sm;repeat' first|apply aaQ|apply aa|apply aaf|apply aad|apply acH|apply bN|apply dP|(apply abx;rfl)|(apply abV;rfl;rfl)|(apply abh;rfl;rfl)|(intro _;omega)|intro _
  exact hQ _
 | succ n ih=>
  intro s lo wr hw hs hn hQ;subst hw;rcases gT s with rfl|⟨t,c,e⟩
  . cases hs
  . rw[gU]at e;subst e;have hl:(t++[c]).length=t.length+1:=by simp
    have hg:(t++[c])[(((t++[c]).length:Int)-1).toNat]! = c:=by
     rw[show (((t++[c]).length:Int)-1).toNat=t.length by omega,getElem!_pos _ _ aq];simp
    have hc:=Kc C c hb;rw[Kd]at hQ;cases hd:bI c with
    | true=>
     rw[hd]at hc;rw[if_pos hd]at hQ;refine W.loop ?_;unfold sm;repeat' first|(rw[hg])|(apply aec (r:=t);rfl;rfl;omega;(rw[show (((t++[c]).length:Int)-1).toNat=t.length by omega];simp))|apply aaQ|apply aa|apply aaf|apply aad|apply abI|apply abC|apply bE|(apply abz;rfl)|(apply abx;rfl)|(apply abV;rfl;rfl)|(apply adj;rfl;rfl;omega)|(apply adQ;rfl;rfl;first|exact hc)|(apply adT;rfl;rfl;omega)|(apply abh;rfl;rfl)|(apply abl;rfl;rfl)|(intro _;omega)|intro _
     refine gk ?_;exact ih t _ _ rfl ac ac hQ
    | false=>
     rw[hd]at hc;rw[if_neg (by rw[hd];simp)]at hQ;refine W.loop ?_;unfold sm;repeat' first|(rw[hg])|apply aaQ|apply aa|apply aaf|apply aad|apply abI|apply acH|apply abC|apply bN|(apply nu;rfl)|apply dP|(apply abz;rfl)|(apply abV;rfl;rfl)|(apply adj;rfl;rfl;omega)|(apply adQ;rfl;rfl;first|exact hc)|(apply adT;rfl;rfl;omega)|(apply abh;rfl;rfl)|(intro _;omega)|intro _
     exact hQ _
theorem Xw (C:nX M){H:ae}{b:Nat}(hb:H.at b=some (.cells fh 314))(s:aj)(hl:s.length<1000000):CT M (iR 275) [.str s,.ptr b 0] H ⟨.str (iS s),H,[]⟩:=by
 refine CT.run (C.Kb _ _) (pD (by rw[C.ft];exact Xe) aq ?_);simp only[cV,c5];unfold JS;simp only[enter];repeat' first|apply aaQ|apply aa|apply aaf|apply aad|apply abI|(apply abl;rfl;rfl)
 refine Xv C hb s.length s _ _ rfl rfl hl fun lo=>?_
 repeat' first|apply aaQ|apply aa|apply aaf|apply aad|apply abw|apply bJ|(apply abh;rfl;rfl)|(apply abl;rfl;rfl)
 exact⟨.inr rfl,rfl,rfl,rfl,_,rfl,rfl⟩
theorem Ke (C:nX M){H:ae}{b:Nat}(hb:H.at b=some (.cells fh 314)){Q:Ex->au->Prop}:∀(s:aj) (lo:List (Nat×AV)) (wr:List Nat) (_:wr=[]),s.length<1000000 ->
 (∀lo,Q (.exit 0) ⟨⟨[.str (jW s),.ptr b 0,.str []],lo,H,[]⟩,[]⟩)->W M (.loop si) ⟨⟨[.str s,.ptr b 0,.str []],lo,H,[]⟩,wr⟩ Q
 | [],lo,wr,hw,hn,hQ=>by
  subst hw;have h0:([]:aj).length=0:=rfl;refine W.loop ?_;unfold si;repeat' first|apply aaQ|apply aa|apply aaf|apply aad|apply acH|apply bN|apply dP|(apply abx;rfl)|(apply abV;rfl;rfl)|(apply abh;rfl;rfl)|(intro _;omega)|intro _
  exact hQ _
 | c::s,lo,wr,hw,hn,hQ=>by
  subst hw;have hl:(c::s).length=s.length+1:=rfl;have hc:=Kc C c hb;have e:jW (c::s)=if bI c then jW s else c::s:=fM ..
  rw[e]at hQ;cases hd:bI c with
  | true=>
   rw[hd]at hc;rw[if_pos hd]at hQ;refine W.loop ?_;unfold si;repeat' first|(apply adY (r:=s);rfl;rfl;omega;rfl)|apply aaQ|apply aa|apply aaf|apply aad|apply abI|apply abC|apply bE|(apply abz;rfl)|(apply abx;rfl)|(apply abV;rfl;rfl)|(apply adQ;rfl;rfl;first|exact hc)|(apply adT;rfl;rfl;omega)|(apply abh;rfl;rfl)|(apply abl;rfl;rfl)|(intro _;omega)|intro _
   refine gk ?_;exact Ke C hb s _ _ rfl ac hQ
  | false=>
   rw[hd]at hc;rw[if_neg (by rw[hd];simp)]at hQ;refine W.loop ?_;unfold si;repeat' first|apply aaQ|apply aa|apply aaf|apply aad|apply abI|apply acH|apply abC|apply bN|(apply nu;rfl)|apply dP|(apply abz;rfl)|(apply abV;rfl;rfl)|(apply adQ;rfl;rfl;first|exact hc)|(apply adT;rfl;rfl;omega)|(apply abh;rfl;rfl)|(intro _;omega)|intro _
   exact hQ _
theorem Xx (C:nX M){H:ae}{b:Nat}(hb:H.at b=some (.cells fh 314))(s:aj)(hl:s.length<1000000):CT M (iR 274) [.str s,.ptr b 0] H ⟨.str (jW s),H,[]⟩:=by
 refine CT.run (C.Ka _ _) (pD (by rw[C.ft];exact Xd) aq ?_);simp only[cV,c5];unfold JR;simp only[enter];repeat' first|apply aaQ|apply aa|apply aaf|apply aad|apply abI|(apply abl;rfl;rfl)
 refine Ke C hb s _ _ rfl hl fun lo=>?_
 repeat' first|apply aaQ|apply aa|apply aaf|apply aad|apply abw|apply bJ|(apply abh;rfl;rfl)|(apply abl;rfl;rfl)
 exact⟨.inr rfl,rfl,rfl,rfl,_,rfl,rfl⟩
theorem Kf {p:UInt8->Bool}:∀s:aj,(s.dropWhile p).length<=s.length
 | []=>az _
 | c::s=>by
  rw[fM];have:=Kf (p:=p) s;split
  . rw[b8];omega
  . exact az _
theorem Xy (s:aj):(iS s).length<=s.length:=by
 unfold iS;have:=Kf (p:=bI) s.reverse;simpa using this
theorem Kg:fh.length=256:=by simp[fh]
theorem Xz:fh.all cI=true:=by
 simp only[fh,List.all_map,ce];intro x _;rfl
theorem XA {a b:List AV}(h:a.length=b.length):overwrite a 0 b=b:=by
 unfold overwrite;rw[List.take_zero,cV,List.drop_of_length_le ac,c5]
theorem Kh:wK.length=256:=by kernel_rfl
theorem XB:overwrite wK 0 fh=fh:=XA (by rw[Kg,Kh])
theorem XC (C:nX M)(s:aj)(hl:s.length<1000000):bg M 211 [.str s,.str mJ] [] ⟨.str (jW (iS s)),[],[]⟩:=by
 have hD:mJ.length=10:=rfl;have hT:=Xy s;have wM:=C.wM [];have hb:ae.at [some (.cells fh 314)] 0=some (.cells fh 314):=rfl;have q1:=Xw C hb s hl;have q2:=Xx C hb (iS s) ac;refine bY (by rw[C.ft];exact Xa) aq ?_;unfold JQ;simp only[enter];by_cases h0:s=[]
 . subst h0;repeat' first|(apply adV;rfl;rfl;intro _;rotate_left;(intro h;exact absurd rfl h))|apply aaQ|apply aa|apply aaf|apply aad|apply abw|apply aU|(apply abz;rfl)|(apply adU;rfl)|(apply aco;rfl;rfl)|(apply abh;rfl;rfl)|(apply abl;rfl;rfl)
   exact⟨.inr rfl,rfl,_,rfl,rfl,rfl⟩
 . repeat' first|(apply adV;rfl;rfl;(intro h;first|exact absurd h h0|exact absurd h am);intro _)|apply aaQ|apply aa|apply aaf|apply aad|apply abw|apply abC|apply aU|(apply abz;rfl)|(apply abx;rfl)|(apply adb;rfl)|(apply adu;rfl)|(apply acR;rfl;rfl)|(apply acw;rfl;rfl)|(apply abJ;rfl;rfl;first|exact wM)|(apply adM (c':=fh);rfl;rfl;rfl;exact⟨Kg,Nat.le_of_eq ((j0 _).trans Kh.symm),Xz⟩;exact XB)|(apply adQ;rfl;rfl;first|exact q1|exact q2)|(apply abU;rfl;rfl;rfl)|(apply abh;rfl;rfl)|(apply abl;rfl;rfl)|(intro _;omega)|intro _
   exact⟨.inr rfl,rfl,_,rfl,rfl,rfl⟩
structure Ki (M:ax):Prop where
 ft:M.FT=FT
 XD:∀ars h,M.ext 278 ars h=none
theorem XE {s:aj}{i:Nat}(h:i<s.length):(sh s)[i]? = some (.int .u8 (s[i]!).toNat):=by
 rw[sh,List.getElem?_map,aW h,getElem!_pos s i h];rfl
theorem XF {H:ae}{c:Nat}(s:aj)(hb:H.at c=some (.cells (sh s) 5))(hs:s.length<=18)(hd:s.all bI=true)(cp:Option Nat)(a1 a2 a3 a4 a7 a8:AV){Q:Ex->au->Prop}:∀(r i n:Nat) (a6:AV) (lo:List (Nat×AV)) (wr:List Nat),i+r=s.length->n<10^i ->
 (∀a6 lo,Q (.exit 0) ⟨⟨[.str s,a1,a2,a3,a4,.iV (aL n (s.drop i)),a6,a7,a8,.sl c 0 s.length 1 cp,.iV s.length,.iV s.length],lo,H,[]⟩,wr⟩) ->
 W M (.loop wL) ⟨⟨[.str s,a1,a2,a3,a4,.iV n,a6,a7,a8,.sl c 0 s.length 1 cp,.iV s.length,.iV i],lo,H,[]⟩,wr⟩ Q:=by
 intro r;induction r with
 | zero=>
  intro i n a6 lo wr hi hn hQ;obtain rfl:i=s.length:=by omega
  rw[jR]at hQ;refine W.loop ?_;unfold wL;repeat' first|apply aaQ|apply aa|apply aaf|apply aad|apply acH|apply bN|apply dP|(apply abx;rfl)|(apply abR;rfl;rfl)|(intro _;omega)|intro _
  exact hQ _ _
 | succ r ih=>
  intro i n a6 lo wr hi hn hQ;have hil:i<s.length:=by omega
  have hp:10^i<=10^17:=lc am ac;have hg:s[i]! = s[i]:=getElem!_pos s i hil;have hm:=ce.1 hd (s[i]!) (by rw[hg];exact db hil);have hx:=(kr _).1 hm;rw[fF hil,se,←hg]at hQ;have hpart:partOf ((sh s).drop (0+((i:Int)).toNat*1)) 0 1 false=some (.int .u8 (s[i]!).toNat):=by
   rw[GY,ff,j0,Nat.mul_one];simp only[partOf,i7,if_false];exact XE hil
  refine W.loop ?_;unfold wL;repeat' first|(apply aeA;rfl;exact hb;exact hpart)|(apply afs;rfl;rfl;omega)|apply aaQ|apply aa|apply aaf|apply aad|apply abI|apply abC|apply bE|(apply abz;rfl)|(apply abx;rfl)|(apply abR;rfl;rfl)|(apply abV;rfl;rfl)|(apply aen;rfl;omega)|(apply acS;rfl;rfl;omega)|(apply ael;rfl;rfl;omega)|(apply adP;rfl;rfl;omega)|(apply abh;rfl;rfl)|(apply abl;rfl;rfl)|(intro _;omega)|intro _
  refine gk ?_;have hpow:10^(i+1)=10*10^i:=by rw[dF,fg]
  have e:=ih (i+1) (10*n+((s[i]!).toNat-48));rw[show (((10*n+((s[i]!).toNat-48):Nat):Int))=(n:Int)*10+(((s[i]!).toNat:Int)-48) by omega,show (((i+1:Nat):Int))=(i:Int)+1 by omega]at e;exact e _ _ _ ac ac hQ
theorem XG (C:Ki M)(s:aj)(h0:s≠[])(hl:s.length<=18)(hd:s.all bI=true)(H:ae):bg M 278 [.str s] H ⟨.ay [.iV (aL 0 s),.dN],H,[]⟩:=by
 have hpos:0<s.length:=f6.2 h0;have hg:s[0]! = s[0]:=getElem!_pos s 0 hpos;have hx:48<=(s[p8 0]!).toNat/\(s[p8 0]!).toNat<58:=(kr _).1 (ce.1 hd (s[0]!) (by rw[hg];exact db hpos));refine mg (by rw[C.ft];exact WQ) aq (n9 _) ?_;unfold JJ;simp only[enter];repeat' first|apply aaQ|apply aa|apply aaf|apply aad|apply abI|apply abC|(apply abz;rfl)|(apply abx;rfl)|(apply acF;rfl)|(apply adb;rfl)|(apply adu;rfl)|(apply aej;rfl)|(apply abR;rfl;rfl)|(apply acR;rfl;rfl)|(apply aco;rfl;rfl)|(apply acw;rfl;rfl)|(apply adT;rfl;rfl;omega)|(apply abU;rfl;rfl;rfl)|(apply abh;rfl;rfl)|(apply abl;rfl;rfl)|(intro _;omega)|intro _
 refine XF (H:=H++[some (.cells (sh s) 5)]) (c:=H.length) s bS hl hd none _ _ _ _ _ _ s.length 0 0 _ _ _ ac aq (fun a6 lo=>?_);rw[List.drop_zero];repeat' first|apply aaQ|apply aa|apply aaf|apply aad|apply abw|apply abC|apply aU|apply bJ|(apply abx;rfl)|(apply acR;rfl;rfl)|(apply adT;rfl;rfl;omega)|(apply abh;rfl;rfl)|(apply abl;rfl;rfl)|(intro _;omega)|intro _
 exact⟨.inr rfl,rfl,⟨_,rfl⟩,fun x h=>by simp at h,_,rfl,rfl⟩
theorem XH (C:Ki M)(s:aj)(h0:s≠[])(hl:s.length<=18)(hd:s.all bI=true):bg M 212 [.str s] [] ⟨.ay [.iV (aL 0 s),.dN],[],[]⟩:=by
 have hc:=CT.run (fi:=[]) (ca:=[]) (ars:=[.str s]) (C.XD _ _) (XG C s h0 hl hd []);refine bY (by rw[C.ft];exact WN) aq ?_;unfold JI;simp only[enter];repeat' first|apply aaQ|apply aa|apply aaf|apply aad|apply abw|apply abC|(apply abx;rfl)|(apply adQ;rfl;rfl;first|exact hc)|(apply abh;rfl;rfl)|(apply abl;rfl;rfl)
 exact⟨.inr rfl,rfl,_,rfl,rfl,rfl⟩
theorem dropWhile_nil {p:UInt8->Bool}:∀l:aj,l.dropWhile p=[]↔∀x∈l,p x=true
 | []=>by simp
 | c::l=>by
  rw[fM];split
  . rename_i h;rw[dropWhile_nil l];simp[h]
  . rename_i h;simp[h]
theorem Kj (s:aj):jW (iS s)=[]↔s.all bI=true:=by
 rcases gT s with rfl|⟨t,c,e⟩
 . simp[jW,iS]
 . rw[gU]at e;subst e;have hlen:t.length<(t++[c]).length:=by simp
   rw[Kd];split
   . rename_i h;rw[Kj t];simp only[cN,d8,m8,h,ib]
   . rename_i h;unfold jW;rw[dropWhile_nil,ce]
termination_by s.length
decreasing_by subst_vars;simp
def preB (b:UInt8)(s:aj):Bool:=decide (s.head? = some b)
def bL (b:UInt8)(s:aj):aj:=if s.head? = some b then s.tail else s
theorem qi (b:UInt8)(s:aj):(bL b s).length<=s.length:=by unfold bL;split <;> simp
theorem XI (hft:M.FT=FT)(s:aj)(b:UInt8)(hl:s.length<1000000):bg M 329 [.str s,.str [b]] [] ⟨.bool (preB b s),[],[]⟩:=by
 have hn1:([b]:aj).length=1:=rfl;refine bY (by rw[hft];exact WK) aq ?_;cases s with
 | nil=>
  have h0:([]:aj).length=0:=rfl;unfold CZ;simp only[enter];repeat' first|apply aaQ|apply aa|apply aaf|apply aad|apply abw|(apply adu;rfl)|(apply adK;rfl;rfl)|(apply acw;rfl;rfl)|(apply abh;rfl;rfl)|(apply abl;rfl;rfl)|(intro _;omega)|intro _
  all_goals try omega
  all_goals exact⟨.inr rfl,rfl,_,rfl,rfl,rfl⟩
 | cons c t=>
  have hcl:(c::t).length=t.length+1:=rfl;have hd:(c::t).take (([b]:aj).length:Int).toNat=[c]:=rfl;have he:preB b (c::t)=decide (c=b):=by simp[preB]
  rw[he];unfold CZ;simp only[enter];by_cases hc:c=b
  . subst hc;rw[decide_eq_true rfl];repeat' first|(apply aec;rfl;rfl;omega;exact hd)|(apply adV;rfl;rfl;intro _;rotate_left;(intro h;exact absurd rfl h))|apply aaQ|apply aa|apply aaf|apply aad|apply abw|(apply acF;rfl)|(apply adK;rfl;rfl)|(apply aco;rfl;rfl)|(apply abh;rfl;rfl)|(apply abl;rfl;rfl)|(intro _;omega)|intro _
    all_goals try omega
    all_goals exact⟨.inr rfl,rfl,_,rfl,rfl,rfl⟩
  . rw[decide_eq_false hc];repeat' first|(apply aec;rfl;rfl;omega;exact hd)|(apply adV;rfl;rfl;(intro h;exact absurd (List.cons.inj h).1 hc);intro _)|apply aaQ|apply aa|apply aaf|apply aad|apply abw|(apply acF;rfl)|(apply adK;rfl;rfl)|(apply aco;rfl;rfl)|(apply abh;rfl;rfl)|(apply abl;rfl;rfl)|(intro _;omega)|intro _
    all_goals try omega
    all_goals exact⟨.inr rfl,rfl,_,rfl,rfl,rfl⟩
theorem XJ (hft:M.FT=FT)(s:aj)(b:UInt8)(q:∀h,M.ext 329 [.str s,.str [b]] h=some ⟨.bool (preB b s),h,[]⟩):bg M 283 [.str s,.str [b]] [] ⟨.bool (preB b s),[],[]⟩:=by
 refine bY (by rw[hft];exact WJ) aq ?_;unfold JF;simp only[enter];repeat' first|apply aaQ|apply aa|apply aaf|apply aad|apply abw|(apply abJ;rfl;rfl;first|exact q _)|(apply abh;rfl;rfl)|(apply abl;rfl;rfl)
 all_goals exact⟨.inr rfl,rfl,_,rfl,rfl,rfl⟩
theorem ss {b:UInt8}{s:aj}(h:preB b s=true):s.drop (([b]:aj).length:Int).toNat=bL b s/\1<=s.length:=by
 have h:=of_decide_eq_true h;unfold bL;rw[if_pos h];cases s with
 | nil=>simp at h
 | cons c t=>exact⟨rfl,aq⟩
theorem jX {b:UInt8}{s:aj}(h:preB b s=false):bL b s=s:=if_neg (of_decide_eq_false h)
theorem XL (hft:M.FT=FT)(s:aj)(b:UInt8)(hl:s.length<1000000)(q:∀h,M.ext 329 [.str s,.str [b]] h=some ⟨.bool (preB b s),h,[]⟩):bg M 285 [.str s,.str [b]] [] ⟨.str (bL b s),[],[]⟩:=by
 have hn1:([b]:aj).length=1:=rfl;refine bY (by rw[hft];exact WM) aq ?_;unfold JH;simp only[enter];cases hp:preB b s with
 | true=>
  rw[hp]at q;obtain⟨h1,h2⟩:=ss hp;repeat' first|(apply adY;rfl;rfl;omega;exact h1)|apply aaQ|apply aa|apply aaf|apply aad|apply abw|apply aU|(apply abz;rfl)|(apply abJ;rfl;rfl;first|exact q _)|(apply abh;rfl;rfl)|(apply abl;rfl;rfl)
  all_goals exact⟨.inr rfl,rfl,_,rfl,rfl,rfl⟩
 | false=>
  rw[hp]at q;rw[jX hp];repeat' first|apply aaQ|apply aa|apply aaf|apply aad|apply abw|apply abC|(apply abx;rfl)|(apply abJ;rfl;rfl;first|exact q _)|(apply abh;rfl;rfl)|(apply abl;rfl;rfl)
  all_goals exact⟨.inr rfl,rfl,_,rfl,rfl,rfl⟩
theorem XM (hft:M.FT=FT)(s:aj)(b:UInt8)(q:∀h,M.ext 285 [.str s,.str [b]] h=some ⟨.str (bL b s),h,[]⟩):bg M 218 [.str s,.str [b]] [] ⟨.str (bL b s),[],[]⟩:=by
 refine bY (by rw[hft];exact WL) aq ?_;unfold JG;simp only[enter];repeat' first|apply aaQ|apply aa|apply aaf|apply aad|apply abw|(apply abJ;rfl;rfl;first|exact q _)|(apply abh;rfl;rfl)|(apply abl;rfl;rfl)
 all_goals exact⟨.inr rfl,rfl,_,rfl,rfl,rfl⟩
theorem XO (hft:M.FT=FT)(s:aj)(b:UInt8)(hl:s.length<1000000)(q:∀h,M.ext 329 [.str s,.str [b]] h=some ⟨.bool (preB b s),h,[]⟩):bg M 296 [.str s,.str [b]] [] ⟨.ay [.str (bL b s),.bool (preB b s)],[],[]⟩:=by
 have hn1:([b]:aj).length=1:=rfl;refine bY (by rw[hft];exact WY) aq ?_;unfold JO;simp only[enter];cases hp:preB b s with
 | true=>
  rw[hp]at q;obtain⟨h1,h2⟩:=ss hp;repeat' first|(apply adY;rfl;rfl;omega;exact h1)|apply aaQ|apply aa|apply aaf|apply aad|apply abw|apply abC|(apply abx;rfl)|(apply abJ;rfl;rfl;first|exact q _)|(apply abh;rfl;rfl)|(apply abl;rfl;rfl)
  all_goals exact⟨.inr rfl,rfl,_,rfl,rfl,rfl⟩
 | false=>
  rw[hp]at q;rw[jX hp];repeat' first|apply aaQ|apply aa|apply aaf|apply aad|apply abw|apply aU|(apply abz;rfl)|(apply abJ;rfl;rfl;first|exact q _)|(apply abh;rfl;rfl)|(apply abl;rfl;rfl)
  all_goals exact⟨.inr rfl,rfl,_,rfl,rfl,rfl⟩
theorem XP (hft:M.FT=FT)(s:aj)(b:UInt8)(q:∀h,M.ext 296 [.str s,.str [b]] h=some ⟨.ay [.str (bL b s),.bool (preB b s)],h,[]⟩):bg M 225 [.str s,.str [b]] [] ⟨.ay [.str (bL b s),.bool (preB b s)],[],[]⟩:=by
 refine bY (by rw[hft];exact WX) aq ?_;unfold JN;simp only[enter];repeat' first|apply aaQ|apply aa|apply aaf|apply aad|apply abw|(apply abJ;rfl;rfl;first|exact q _)|(apply abh;rfl;rfl)|(apply abl;rfl;rfl)
 all_goals exact⟨.inr rfl,rfl,_,rfl,rfl,rfl⟩
structure wN (M:ax)(N:Nat):Prop extends CF M N where
 Kk:∀(s:aj) h,s.length<1000000->M.ext 283 [.str s,.str [45]] h=some ⟨.bool (preB 45 s),h,[]⟩
 Kl:∀(s:aj) h,s.length<1000000->M.ext 218 [.str s,.str [45]] h=some ⟨.str (bL 45 s),h,[]⟩
 Km:∀(s:aj) h,s≠[]->s.length<=18->s.all bI=true->M.ext 212 [.str s] h=some ⟨.ay [.iV (aL 0 s),.dN],h,[]⟩
 Kn:∀v A (K:Nat),aN v A->K<=18->K<=N->al A<=10->∃v0,aN v0 (A^K)/\∀h,M.ext 284 [v,.iV K] h=some ⟨v0,h,[]⟩
theorem wO (n:Nat):(10:Int)^n<=wB^n:=by
 induction n with
 | zero=>decide
 | succ n ih=>
  rw[dU,dU];exact Int.mul_le_mul ih am am (pu am)
theorem nY {s:aj}(h:s.all bI=true)(hl:s.length<=N):al (aL 0 s:Nat)<wB^N:=by
 have h1:=mF s h;rw[fu ac];have h2:(aL 0 s:Int)<(10:Int)^s.length:=by exact_mod_cast h1
 exact c7 h2 (gF (wO _) (ie am hl))
theorem Ko {s:aj}(h:s.all bI=true)(hl:s.length<=18):aL 0 s<1000000000000000000:=
 Nat.lt_of_lt_of_le (mF s h) (b7 (lc am hl) am)
def Dd (so:Int)(wo:AV):ae:=[some (.cells [.iV 0,.ab] 171),some (.cells [.iV so,wo] 171)]
theorem XQ (C:wN M N){Q:Ex->au->Prop}(full:aj)(hD:full.all bI=true)(hl:full.length<=N)(a2:AV)
 (hQ:∀so wo a4 a5 lo wr,aN (.agg [.iV so,wo]) (aL 0 full:Nat)->Q (.exit 0) ⟨⟨[.str [],.ptr 0 0,a2,.ptr 1 0,a4,a5],lo,Dd so wo,[]⟩,wr⟩)
 (a4 a5:AV) (lo:List (Nat×AV)) (wr:List Nat) :
 W M (.loop wJ) ⟨⟨[.str full,.ptr 0 0,a2,.ptr 1 0,a4,a5],lo,Dd 0 .ab,[]⟩,wr⟩ Q:=by
 have hlN:=C.lN;refine W.gH (fun m st=>∃t dn so wo a4 a5 lo wr,st=⟨⟨[.str t,.ptr 0 0,a2,.ptr 1 0,a4,a5],lo,Dd so wo,[]⟩,wr⟩/\t.length=m/\full=dn++t/\aN (.agg [.iV so,wo]) (aL 0 dn:Nat))
  (fun m st ⟨t,dn,so,wo,a4,a5,lo,wr,hst,hm,hf,hv⟩=>?_) (m:=full.length) ⟨full,[],0,.ab,a4,a5,lo,wr,rfl,rfl,rfl,.small am⟩
 subst hst;cases t with
 | nil=>
  rw[c5]at hf;subst hf;have h0:([]:aj).length=0:=rfl;unfold wJ;repeat' first|apply aaQ|apply aa|apply aaf|apply aad|apply acH|apply bN|apply cX|(apply abx;rfl)|(apply abV;rfl;rfl)|(apply abh;rfl;rfl)|(intro _;omega)|intro _
  all_goals try omega
  all_goals exact hQ _ _ _ _ _ _ hv
 | cons c t=>
  obtain⟨t',ht'⟩:∃t',t'=c::t:=⟨_,rfl⟩;rw[←ht']at hm hf ⊢;have hpos:0<t'.length:=by rw[ht'];simp
  have hDt:t'.all bI=true:=by rw[hf,cN,bc]at hD;exact hD.2
  have hDd:dn.all bI=true:=by rw[hf,cN,bc]at hD;exact hD.1
  have hfl:full.length=dn.length+t'.length:=by rw[hf,c6]
  obtain⟨n,hn,hn1⟩:∃n:Nat,((n:Int)=18/\(18:Int)<=t'.length\/(n:Int)=t'.length/\(t'.length:Int)<=18)/\0<n/\n<=18/\n<=t'.length:=by
   by_cases h:t'.length<=18
   . exact⟨t'.length,.inr ⟨rfl,ac⟩,ac,ac,ac⟩
   . exact⟨18,.inl ⟨rfl,ac⟩,ac,ac,ac⟩
  obtain⟨x,y,hxy,hxl⟩:∃x y,t'=x++y/\x.length=n:=⟨t'.take n,t'.drop n,(List.take_append_drop n t').symm,by rw[cd];omega⟩;have hx0:x≠[]:=fun e=>by rw[e]at hxl;simp at hxl;omega
  have hDx:x.all bI=true:=by rw[hxy,cN,bc]at hDt;exact hDt.1
  have htk:t'.take (n:Int).toNat=x:=by rw[hxy,ff,←hxl,List.take_left]
  have hdr:t'.drop (n:Int).toNat=y:=by rw[hxy,ff,←hxl,List.drop_left]
  have hyl:t'.length=n+y.length:=by rw[hxy,c6,hxl]
  have q212:=fun h=>C.Km x h hx0 ac hDx
  have q196:=C.mC 10;obtain⟨v1,k1,q284⟩:=C.Kn (.agg [.iV 10,.ab]) 10 n (.small am) hn1.2.1 ac am;have b1:=nY (N:=N) hDd ac;have b2:al ((10:Int)^n)<wB^N:=by
   rw[fu (pu am)];have h1:=ie (b:=wB) am (m:=n) (n:=N) ac;have h2:=wO n;have h3:(10:Int)^n<wB^n:=by
    obtain⟨k,rfl⟩:∃k,n=k+1:=⟨n-1,ac⟩;have:=wO k;have p0:(0:Int)<10^k:=kw am;rw[dU,dU];have:(10:Int)^k*10<10^k*wB:=Int.mul_lt_mul_of_pos_left am p0;have h5:(10:Int)^k*wB<=wB^k*wB:=b5 (wO k) am;omega
   omega
  obtain⟨v2,k2,q199⟩:=C.pZ _ _ _ _ hv k1 b1 b2;have e2:(aL 0 dn:Int)*10^n=((aL 0 (dn++i6 n 48):Nat):Int):=by
   have:aL (aL 0 dn) (i6 n 48)=aL 0 dn*10^n:=by rw[←CX,Jz];simp
   rw[nU,this];push_cast;rfl
  have k2:aN v2 ((aL 0 dn:Int)*10^n):=k2;have b3:al ((aL 0 dn:Int)*10^n)<wB^N:=by
   rw[e2];exact nY (by rw[cN,hDd,←CX,Jw];rfl) (by rw[c6,List.length_replicate];omega)
  have hxs:=Ko hDx ac;have q196b:=C.mC (aL 0 x:Nat);obtain⟨v3,k3,q253⟩:=C.vD v2 (.agg [.iV (aL 0 x:Nat),.ab]) _ _ k2 (.small ac) b3 (nY hDx ac);have e3:(aL 0 dn:Int)*10^n+(aL 0 x:Nat)=((aL 0 (dn++x):Nat):Int):=by
   rw[nU,wH x (aL 0 dn),hxl];push_cast;rfl
  have k3:aN v3 ((aL 0 (dn++x):Nat):Int):=by rw[←e3];exact k3
  obtain⟨s3,w3,rfl,o3,_⟩:=k3.shape;unfold wJ;repeat' first|(apply afl (m:=(n:Int));rfl;rfl;exact hn)|(apply aec (s:=t') (r:=x);rfl;rfl;omega;exact htk)|(apply adY (s:=t') (r:=y);rfl;rfl;omega;exact hdr)|(apply abJ;rfl;rfl;first|exact q212 _|exact q196 _|exact q284 _|exact q199 _|exact q196b _|exact q253 _)|(apply adN;rfl;rfl;(first|(simp only[nca];rfl)|rfl);first|exact q212 _|exact q196 _|exact q284 _|exact q199 _|exact q196b _|exact q253 _)|(apply adM;rfl;rfl;rfl;exact⟨rfl,az _,by simp[eE,o3]⟩;rfl)|apply aaQ|apply aa|apply aaf|apply aad|apply abI|apply abC|apply bE|apply adr|apply adI|(apply adO;rfl)|(apply adJ;rfl;rfl;(first|(simp only[nca];rfl)|rfl))|(apply adW;rfl;(first|(simp only[nca];rfl)|rfl);(first|(simp only[nca];rfl)|rfl))|(apply abz;rfl)|(apply abV;rfl;rfl)|(apply acn;rfl;rfl;rfl)|(apply abh;rfl;rfl)|(apply abl;rfl;rfl)|(intro _;omega)|intro _
  all_goals try omega
  all_goals exact cW ⟨y.length,ac,y,dn++x,s3,w3,_,_,_,_,rfl,rfl,by rw[hf,hxy,m9],k3⟩
theorem XR (C:wN M N)(s:aj)(hl:s.length<=N)(hD:(bL 45 s).all bI=true):∃v0,aN v0 (if preB 45 s then -(aL 0 (bL 45 s):Int) else (aL 0 (bL 45 s):Nat))/\de M 216 [.str s] v0:=by
 have hlN:=C.lN;have q283:=fun h=>C.Kk s h ac
 have q218:=fun h=>C.Kl s h ac
 have hcl:(bL 45 s).length<=N:=b7 (qi 45 s) hl;have hb:=nY (N:=N) hD hcl;obtain⟨v',hh,⟨v0,h0,ho⟩,hr⟩:=gS (M:=M) (f:=216) (ars:=[.str s]) (P:=fun v hh=>∃v0,aN v0 (if preB 45 s then -(aL 0 (bL 45 s):Int) else (aL 0 (bL 45 s):Nat))/\dQ v hh v0) (by rw[C.ft];exact WH) aq (by
  unfold JD;simp only[enter];repeat' first|apply aaQ|apply aa|apply aaf|apply aad|apply abI|(apply abJ;rfl;rfl;first|exact q283 _|exact q218 _)|(apply abU;rfl;rfl;rfl)|(apply aea;rfl;rfl;rfl)|(apply abh;rfl;rfl)|(apply abl;rfl;rfl)
  refine XQ C (bL 45 s) hD hcl _ (fun so wo a4 a5 lo wr hv=>?_) _ _ _ _;cases hp:preB 45 s with
  | true=>
   rw[if_pos rfl];obtain⟨v1,k1,q201⟩:=C.mA _ _ hv hb;have k1:aN v1 (-(aL 0 (bL 45 s):Int)):=k1;obtain⟨s1,w1,rfl,o1,_⟩:=k1.shape;repeat' first|(apply adM;rfl;rfl;rfl;exact⟨rfl,az _,by simp[eE,o1]⟩;rfl)|apply aaQ|apply aa|apply aaf|apply aad|apply abw|apply aU|apply bJ|(apply abz;rfl)|(apply abJ;rfl;rfl;first|exact q201 _)|(apply acn;rfl;rfl;rfl)|(apply abh;rfl;rfl)
   exact⟨.inr rfl,rfl,_,rfl,_,k1,k1.out⟩
  | false=>
   rw[if_neg am];obtain⟨o1,_⟩:=hv.one;repeat' first|(apply adM;rfl;rfl;rfl;exact⟨rfl,az _,by simp[eE,o1]⟩;rfl)|apply aaQ|apply aa|apply aaf|apply aad|apply abw|apply abC|apply bJ|(apply abx;rfl)|(apply acn;rfl;rfl;rfl)|(apply abh;rfl;rfl)
   exact⟨.inr rfl,rfl,_,rfl,_,hv,hv.out⟩)
 exact⟨v0,h0,v',hh,ho,hr⟩
theorem Kp {s:aj}(h:s.all bI=true){c:UInt8}(hc:¬bI c=true):c∉s:=fun hm=>hc ((ce.1 h) c hm)
theorem Kq (n:Nat){c:UInt8}(hc:¬bI c=true):preB c (bh n)=false:=by
 rw[preB,decide_eq_false_iff_not];intro h;cases hd:bh n with
 | nil=>exact qf n hd
 | cons b t=>
  rw[hd]at h;have hb:b∈bh n:=by rw[hd];simp
  simp at h;exact hc (h ▸ (ce.1 (jx n)) b hb)
theorem XS (z:Int):preB 45 (cM z)=decide (z<0)/\bL 45 (cM z)=bh (al z).toNat:=by
 by_cases h:z<0
 . rw[nW h,decide_eq_true h];exact⟨rfl,rfl⟩
 . rw[mG h,decide_eq_false h];have:=Kq (al z).toNat (c:=45) am;exact⟨this,jX this⟩
theorem su {b:UInt8}:∀{x:aj},b∉x->bH b x=(x,none)
 | [],_=>rfl
 | c::x,h=>by
  have h1:¬c=b:=fun e=>h (by rw[e];simp)
  have h2:b∉x:=fun e=>h (by simp[e])
  rw[bH,if_neg h1,su h2]
theorem sv {b:UInt8}{y:aj}:∀{x:aj},b∉x->bH b (x++b::y)=(x,some y)
 | [],_=>by rw[cV,bH,if_pos rfl]
 | c::x,h=>by
  have h1:¬c=b:=fun e=>h (by rw[e];simp)
  have h2:b∉x:=fun e=>h (by simp[e])
  rw[nO,bH,if_neg h1,sv h2]
theorem wP (z:Int):(47:UInt8)∉cM z:=by
 have h:=Kp (jx (al z).toNat) (c:=47) am;by_cases hz:z<0
 . rw[nW hz];simp[h]
 . rw[mG hz];exact h
theorem XT (q:Rat):iQ 47 (aQ q)=if q.den=1 then .ay [.str (cM q.num),.str [],.bool false] else .ay [.str (cM q.num),.str (bh q.den),.bool true]:=by
 unfold iQ aQ;by_cases h:q.den=1
 . rw[if_pos h,if_pos h,su (wP _)];rfl
 . rw[if_neg h,if_neg h,sv (wP _)];rfl
def Lq (N:Nat)(q:Rat):Prop:=(cM q.num).length<=N/\(bh q.den).length<=N
structure kZ (M:ax)(N:Nat):Prop extends wN M N where
 De:∀(s:aj) h,s.length<1000000->M.ext 160 [.str s,.str [47]] h=some ⟨iQ 47 s,h,[]⟩
 Df:∀(s:aj),s.length<=N->(bL 45 s).all bI=true->∃v0,aN v0 (if preB 45 s then -(aL 0 (bL 45 s):Int) else (aL 0 (bL 45 s):Nat))/\∀h,M.ext 216 [.str s] h=some ⟨v0,h,[]⟩
theorem kZ.Kr (C:kZ M N)(z:Int)(hl:(cM z).length<=N):∃v0,aN v0 z/\∀h,M.ext 216 [.str (cM z)] h=some ⟨v0,h,[]⟩:=by
 obtain⟨h1,h2⟩:=XS z;obtain⟨v0,h0,q⟩:=C.Df (cM z) hl (by rw[h2];exact jx _);refine⟨v0,?_,q⟩;rw[h1,h2,iL]at h0;have ha:=jU (x:=z);have e:((al z).toNat:Int)=al z:=Int.toNat_of_nonneg ha;by_cases hz:z<0
 . rw[decide_eq_true hz,if_pos rfl,e]at h0;have e2:al z = -z:=if_pos hz;rw[e2,n4]at h0;exact h0
 . rw[decide_eq_false hz,if_neg am,e]at h0;have e2:al z=z:=if_neg hz;rw[e2]at h0;exact h0
theorem kZ.XU (C:kZ M N)(n:Nat)(hl:(bh n).length<=N):∃v0,aN v0 (n:Int)/\∀h,M.ext 216 [.str (bh n)] h=some ⟨v0,h,[]⟩:=by
 rw[←WI]at hl ⊢;exact C.Kr n hl
theorem Ks {q:Rat}(h:Lq N q):(aQ q).length<=2*N+1:=by
 unfold aQ;split
 . have:=h.1;omega
 . have h1:=h.1;have h2:=h.2;simp;omega
theorem XV (C:kZ M N)(hN:N<=400000){q:Rat}(lq:Lq N q):∃v0,cL v0 q/\de M 165 [.str (aQ q)] v0:=by
 have sl:=Ks lq;have q160:=fun h=>C.De (aQ q) h ac
 have cs:=XT q;rw[cs]at q160;obtain⟨va,ka,qa⟩:=C.Kr q.num lq.1;by_cases hd:q.den=1
 . rw[if_pos hd]at q160;obtain⟨v0,k0,q195⟩:=C.Cp _ _ ka;have k0:cL v0 q:=by
    have:=k0;unfold cL;rw[hd];exact this
   refine⟨v0,k0,du (by rw[C.ft];exact JE) aq ?_⟩;have out:=fun hh=>k0.out (hh:=hh)
   obtain⟨s5,w5,s6,w6,rfl,h5,h6⟩:=k0;obtain⟨o5,_⟩:=h5.one;obtain⟨o6,_⟩:=h6.one;unfold CY;simp only[enter];repeat' first|(apply adM;rfl;rfl;rfl;exact⟨rfl,az _,by simp[eE,o5,o6]⟩;rfl)|apply aaQ|apply aa|apply aaf|apply aad|apply abw|apply aU|(apply abz;rfl)|(apply abJ;rfl;rfl;first|exact q160 _|exact qa _|exact q195 _)|(apply abU;rfl;rfl;rfl)|(apply abh;rfl;rfl)|(apply abl;rfl;rfl)
   all_goals exact cD rfl rfl (out _)
 . rw[if_neg hd]at q160;obtain⟨vb,kb,qb⟩:=C.XU q.den lq.2;obtain⟨s5,w5,rfl,o5,_⟩:=ka.shape;obtain⟨s6,w6,rfl,o6,_⟩:=kb.shape;have k0:cL (.agg [.iV s5,w5,.iV s6,w6]) q:=⟨_,_,_,_,rfl,ka,kb⟩;refine⟨_,k0,du (by rw[C.ft];exact JE) aq ?_⟩;have out:=fun hh=>k0.out (hh:=hh)
   unfold CY;simp only[enter];repeat' first|(apply adM;rfl;rfl;rfl;exact⟨rfl,az _,by simp[overwrite,eE,o5,o6]⟩;rfl)|apply aaQ|apply aa|apply aaf|apply aad|apply abw|apply abC|(apply abx;rfl)|(apply abJ;rfl;rfl;first|exact q160 _|exact qa _|exact qb _)|(apply abU;rfl;rfl;rfl)|(apply abh;rfl;rfl)|(apply abl;rfl;rfl)
   all_goals exact cD rfl rfl (out _)
def Kt:ao:=zR [zi 1 0] (zR [zm 12 0,⟨.l 13,.call (kF 225) [(.l 12),(.c (.str [45]))],none⟩,zn 11 13,ze 14 0 11,ze 15 1 11,zw 2 14,zw 3 15] (zR [zm 17 2,⟨.l 18,.call (kF 160) [(.l 17),(.c (.str [47]))],none⟩,zn 16 18,ze 19 0 16,ze 20 1 16,ze 21 2 16,zw 4 19,zw 5 20,zw 6 21] (zR [zm 22 4,z1 23 226 22,zn 24 23,zg (zm 25 3) 24 true,zg (zn 26 25) 24 true,zg (zm 27 4) 26 true,⟨.l 28,.bin .eql (.l 27) (.c (.str [48])),some ((.l 26),true)⟩,zg (zp 29 26 28) 24 true,zg (zu 30 29) 24 true,zp 31 24 30,zw 7 31] (.seq (zR [zm 32 6] (.cond (.l 32) (.region [zm 33 7,zn 34 33,zg (zm 35 5) 34 true,zg (z1 36 226 35) 34 true,zp 37 34 36,zn 38 37,zg (zm 39 5) 38 true,⟨.l 40,.bin .neq (.l 39) (.c (.str [48])),some ((.l 38),true)⟩,zp 41 38 40,zn 42 41,zg (zm 43 5) 42 true,⟨.l 44,.bin .neq (.l 43) (.c (.str [49])),some ((.l 42),true)⟩,zp 45 42 44,zw 7 45]) (.skip))) (.seq (zR [zm 46 7,zu 47 46,⟨.l 48,.call (kF 228) [(.l 47),(kI 1)],none⟩,zm 49 4,zL 50 49,zm 51 5,zL 52 51,⟨.l 53,.mm true [(.l 50),(.l 52)],none⟩,zc 54 .gtr 53 600,⟨.l 55,.call (kF 228) [(.l 54),(kI 4)],none⟩,⟨.l 56,.dX 28 2 1 [.iV (0)] [(0,1,(.l 48)),(1,1,(.l 55))],none⟩,z1 57 227 56,zw 8 57] (zR [zm 58 8,zc 59 .neq 58 0,zn 60 59,zg (zm 61 6) 60 false,zg (zu 62 61) 60 false,zP 63 60 62] (.cond (.l 63) (zR [zm 64 8,zw 1 64] (.ret)) (.skip)))) (zR [zm 65 4,z1 66 216 65,zm 67 5,z1 68 216 67,z2 69 229 66 68,⟨.p 9,.alloc 171 [.iV (0),.ab],none⟩,zs 2 9 69] (.seq (.draw [(zt 70 2 9,[]),(⟨.l 71,.call (kF 196) [(kI 1)],none⟩,[0]),(z2 72 200 70 71,[]),(zc 73 .neq 72 0,[]),(⟨.l 74,.call (kF 228) [(.l 73),(kI 1)],none⟩,[]),(zw 1 74,[])]) (.ret))))))))
theorem XW:FT 172=some ⟨75,[0,2,3,4,5,6,7,8,9,10],[.var (.p 1)],Kt⟩:=by kernel_rfl
def dR (s:aj):Bool:=decide (s≠[]) && s.all bI && (decide (s[0]! ≠ 48) || decide (s=[48]))
theorem XX (hft:M.FT=FT)(s:aj)(q211:∀h,M.ext 211 [.str s,.str mJ] h=some ⟨.str (jW (iS s)),h,[]⟩):bg M 297 [.str s] [] ⟨.bool (decide (s≠[]) && s.all bI),[],[]⟩:=by
 refine bY (by rw[hft];exact WZ) aq ?_;unfold JP;simp only[enter];by_cases h0:s=[]
 . rw[decide_eq_false (by simpa using h0),c8];repeat' first|(apply aek;rfl;rfl;all_goals first|(intro h;exact absurd h0 h)|intro _)|apply aaQ|apply aa|apply aaf|apply aad|apply abw|(apply adu;rfl)|(apply acw;rfl;rfl)|(apply abh;rfl;rfl)|(apply abl;rfl;rfl)
   all_goals exact⟨.inr rfl,rfl,_,rfl,rfl,rfl⟩
 . rw[decide_eq_true h0,cK];have ht:=Kj s;cases hd:s.all bI with
   | true=>
    rw[ht.2 hd]at q211;repeat' first|(apply aek;rfl;rfl;all_goals first|(intro h;exact absurd h h0)|intro _)|apply aaQ|apply aa|apply aaf|apply aad|apply abw|(apply acF;rfl)|(apply aco;rfl;rfl)|(apply abJ;rfl;rfl;first|exact q211 _)|(apply adV;rfl;rfl;all_goals first|(intro h;exact absurd h am)|(intro h;exact absurd rfl h)|(intro h;contradiction)|intro _)|(apply abh;rfl;rfl)|(apply abl;rfl;rfl)
    all_goals exact⟨.inr rfl,rfl,_,rfl,rfl,rfl⟩
   | false=>
    have hne:jW (iS s)≠[]:=fun e=>by rw[ht.1 e]at hd;cases hd
    repeat' first|(apply aek;rfl;rfl;all_goals first|(intro h;exact absurd h h0)|intro _)|(apply adV;rfl;rfl;all_goals first|(intro h;exact absurd h hne)|intro _)|apply aaQ|apply aa|apply aaf|apply aad|apply abw|(apply acF;rfl)|(apply aco;rfl;rfl)|(apply abJ;rfl;rfl;first|exact q211 _)|(apply abh;rfl;rfl)|(apply abl;rfl;rfl)
    all_goals exact⟨.inr rfl,rfl,_,rfl,rfl,rfl⟩
theorem XY (hft:M.FT=FT)(s:aj)(q297:∀h,M.ext 297 [.str s] h=some ⟨.bool (decide (s≠[]) && s.all bI),h,[]⟩):bg M 226 [.str s] [] ⟨.bool (dR s),[],[]⟩:=by
 refine bY (by rw[hft];exact Xg) aq ?_;unfold dR;unfold JU;simp only[enter];cases hb:(decide (s≠[]) && s.all bI) with
 | false=>
  rw[hb]at q297;rw[c8];repeat' first|apply aaQ|apply aa|apply aaf|apply aad|apply abw|(apply adu;rfl)|(apply aej;rfl)|(apply acw;rfl;rfl)|(apply abJ;rfl;rfl;first|exact q297 _)|(apply abh;rfl;rfl)|(apply abl;rfl;rfl)
  all_goals exact⟨.inr rfl,rfl,_,rfl,rfl,rfl⟩
 | true=>
  rw[hb]at q297;rw[cK];have hne:s≠[]:=by
   rw[bc]at hb;exact of_decide_eq_true hb.1
  have hpos:0<s.length:=f6.2 hne;by_cases h48:s[0]! = 48
  . rw[decide_eq_false (by simpa using h48),le];have e48:((s[(0:Int).toNat]!).toNat:Int)=48:=by rw[show s[(0:Int).toNat]! = s[0]! from rfl,h48];rfl
    by_cases hs:s=[48]
    . rw[decide_eq_true hs];repeat' first|(apply adV;rfl;rfl;all_goals first|(intro h;exact absurd hs h)|intro _)|apply aaQ|apply aa|apply aaf|apply aad|apply abw|(apply acF;rfl)|(apply adb;rfl)|(apply adf;rfl;rfl)|(apply aco;rfl;rfl)|(apply acw;rfl;rfl)|(apply abJ;rfl;rfl;first|exact q297 _)|(apply adT;rfl;rfl;omega)|(apply abh;rfl;rfl)|(apply abl;rfl;rfl)|(intro _;omega)|intro _
      all_goals try omega
      all_goals exact⟨.inr rfl,rfl,_,rfl,rfl,rfl⟩
    . rw[decide_eq_false hs];repeat' first|(apply adV;rfl;rfl;all_goals first|(intro h;exact absurd h hs)|intro _)|apply aaQ|apply aa|apply aaf|apply aad|apply abw|(apply acF;rfl)|(apply adb;rfl)|(apply adf;rfl;rfl)|(apply aco;rfl;rfl)|(apply acw;rfl;rfl)|(apply abJ;rfl;rfl;first|exact q297 _)|(apply adT;rfl;rfl;omega)|(apply abh;rfl;rfl)|(apply abl;rfl;rfl)|(intro _;omega)|intro _
      all_goals try omega
      all_goals exact⟨.inr rfl,rfl,_,rfl,rfl,rfl⟩
  . rw[decide_eq_true (show s[0]! ≠ 48 from h48),ne];have e48:((s[(0:Int).toNat]!).toNat:Int)≠48:=fun e=>h48 (d7.1 (by rw[show s[(0:Int).toNat]! = s[0]! from rfl]at e;have:(48:UInt8).toNat=48:=rfl;omega))
    repeat' first|apply aaQ|apply aa|apply aaf|apply aad|apply abw|(apply acF;rfl)|(apply adU;rfl)|(apply adf;rfl;rfl)|(apply aco;rfl;rfl)|(apply abJ;rfl;rfl;first|exact q297 _)|(apply adT;rfl;rfl;omega)|(apply abh;rfl;rfl)|(apply abl;rfl;rfl)|(intro _;omega)|intro _
    all_goals try omega
    all_goals exact⟨.inr rfl,rfl,_,rfl,rfl,rfl⟩
open Go.Proofs
variable {T:List (Nat×Spec)}
noncomputable def mK:Spec:=sK [] 329
noncomputable def wQ:Spec:=sK [(329,mK)] 283
noncomputable def wR:Spec:=sK [(329,mK)] 285
noncomputable def wS:Spec:=sK [(285,wR)] 218
noncomputable def wT:Spec:=sK [(329,mK)] 296
noncomputable def Dg:Spec:=sK [(296,wT)] 225
theorem Dh:ba Tryz.prog gl 329 mK:=bG bP
theorem XZ:ba Tryz.prog gl 283 wQ:=bG (aT Dh bP)
theorem Ya:ba Tryz.prog gl 285 wR:=bG (aT Dh bP)
theorem Yb:ba Tryz.prog gl 218 wS:=bG (aT Ya bP)
theorem Yc:ba Tryz.prog gl 296 wT:=bG (aT Dh bP)
theorem Yd:ba Tryz.prog gl 225 Dg:=bG (aT Yc bP)
theorem Di:∀(s:aj) b h,s.length<1000000->mK [.str s,.str [b]] h=some ⟨.bool (preB b s),h,[]⟩:=fun s b h hl=>cz (XI bF s b hl) rfl rfl rfl h
theorem Ye:∀(s:aj) b h,s.length<1000000->wQ [.str s,.str [b]] h=some ⟨.bool (preB b s),h,[]⟩:=fun s b h hl=>
 cz (XJ (M:=bx Tryz.prog FT [(329,mK)]) bF s b fun h=>Di s b h hl) rfl rfl rfl h
theorem Yf:∀(s:aj) b h,s.length<1000000->wS [.str s,.str [b]] h=some ⟨.str (bL b s),h,[]⟩:=fun s b h hl=>by
 have q285:∀h,wR [.str s,.str [b]] h=some ⟨.str (bL b s),h,[]⟩:=cz (XL (M:=bx Tryz.prog FT [(329,mK)]) bF s b hl fun h=>Di s b h hl) rfl rfl rfl;exact cz (XM (M:=bx Tryz.prog FT [(285,wR)]) bF s b q285) rfl rfl rfl h
theorem Yg:∀(s:aj) b h,s.length<1000000->Dg [.str s,.str [b]] h=some ⟨.ay [.str (bL b s),.bool (preB b s)],h,[]⟩:=fun s b h hl=>by
 have q296:∀h,wT [.str s,.str [b]] h=some ⟨.ay [.str (bL b s),.bool (preB b s)],h,[]⟩:=cz (XO (M:=bx Tryz.prog FT [(329,mK)]) bF s b hl fun h=>Di s b h hl) rfl rfl rfl;exact cz (XP (M:=bx Tryz.prog FT [(296,wT)]) bF s b q296) rfl rfl rfl h
def Ku:List (Nat×Spec):=[(336,nw .index)]
theorem Yh:sn (bx Tryz.prog FT Ku) where
 ft:=bF
 JV:=fun _ _=>rfl
 JW:=fun _ _=>rfl
 JX:=fun _ _ _=>rfl
noncomputable def wU:Spec:=sK Ku 160
theorem Yi:ba Tryz.prog gl 160 wU:=bG (aT (Ah HL) bP)
theorem Yj:∀(s:aj) b h,s.length<1000000->wU [.str s,.str [b]] h=some ⟨iQ b s,h,[]⟩:=fun s b h hl=>cz (Xp (fun _ _=>rfl) Yh s b hl) rfl rfl rfl h
theorem Yk:cC fh=fh:=by
 unfold fh;induction g9 256 with
 | nil=>rfl
 | cons a l ih=>
  rw[p7,cC,ih];rfl
theorem Yl:bz fh=0:=by
 unfold fh;induction g9 256 with
 | nil=>rfl
 | cons a l ih=>simp only[p7,bz,ih,AV.top];rfl
noncomputable def wV:Spec:=sK [] 273
noncomputable def wW:Spec:=sK [(273,wV)] 211
noncomputable def wX:Spec:=sK [(211,wW)] 297
noncomputable def Dj:Spec:=sK [(297,wX)] 226
noncomputable def wY:Spec:=sK [] 212
theorem Ym:ba Tryz.prog gl 273 wV:=bG bP
theorem Yn:ba Tryz.prog gl 211 wW:=bG (aT Ym bP)
theorem Yo:ba Tryz.prog gl 297 wX:=bG (aT Yn bP)
theorem Yp:ba Tryz.prog gl 226 Dj:=bG (aT Yo bP)
theorem Yq:ba Tryz.prog gl 212 wY:=bG bP
theorem Yr:∀h,wV [.str mJ] h=some ⟨.ay [.agg fh,.bool true],h,[]⟩:=cz (Xs bF) rfl (by simp[AV.top,bz,Yl]) (by simp only[bD,cC,Yk])
theorem Ys:nX (bx Tryz.prog FT [(273,wV)]) where
 ft:=bF
 JZ:=fun _ _=>rfl
 Ka:=fun _ _=>rfl
 Kb:=fun _ _=>rfl
 wM:=Yr
theorem Yt:∀(s:aj) h,s.length<1000000->Dj [.str s] h=some ⟨.bool (dR s),h,[]⟩:=fun s h hl=>by
 have q211:∀h,wW [.str s,.str mJ] h=some ⟨.str (jW (iS s)),h,[]⟩:=cz (XC Ys s hl) rfl rfl rfl;have q297:∀h,wX [.str s] h=some ⟨.bool (decide (s≠[]) && s.all bI),h,[]⟩:=cz (XX (M:=bx Tryz.prog FT [(211,wW)]) bF s q211) rfl rfl rfl;exact cz (XY (M:=bx Tryz.prog FT [(297,wX)]) bF s q297) rfl rfl rfl h
theorem Yu:∀(s:aj) h,s≠[]->s.length<=18->s.all bI=true->wY [.str s] h=some ⟨.ay [.iV (aL 0 s),.dN],h,[]⟩:=fun s h h0 hl hd=>cz (XH ⟨bF,fun _ _=>rfl⟩ s h0 hl hd) rfl rfl rfl h
theorem aeq {t:Nat}{x y:aO}{l:List aY}{pe:List AV}{lo:List (Nat×AV)}{hp:ae}{df wr:List Nat}{k:IntKind}{a b:Int}{Q:au->Prop}{m:Int}(hx:(St.mk pe lo hp df).ah x=some (.int k a))(hy:(St.mk pe lo hp df).ah y=some (.int k b))(hm:m=a/\b<=a\/m=b/\a<=b)
 (h:WO M l ⟨⟨pe,(t,.int k m)::lo,hp,df⟩,wr⟩ Q):WO M (⟨.l t,.mm true [x,y],none⟩::l) ⟨⟨pe,lo,hp,df⟩,wr⟩ Q:=by
 refine abh (v:=.int k m) ?_ rfl h;simp only[bk,St.cS,hx,hy];have e:(if a<b then b else a)=m:=by split <;> omega
 simp[mQ,e]
def cY (s:aj):aj:=(bH 47 (bL 45 s)).1
def dJ (s:aj):aj:=(bH 47 (bL 45 s)).2.getD []
def im (s:aj):Bool:=(bH 47 (bL 45 s)).2.isSome
def jh (s:aj):Bool:=dR (cY s) && !(preB 45 s && decide (cY s=[48])) && (!im s || (dR (dJ s) && decide (dJ s≠[48]) && decide (dJ s≠[49])))
def fT (a b:Nat):Bool:=!(p9 a b == 1)
def cO (s:aj):Int:=if jh s=false then 1 else if 600<(cY s).length\/600<(dJ s).length then 4 else if im s=true/\fT (aL 0 (cY s)) (aL 0 (dJ s))=true then 1 else 0
structure Dk (M:ax)(N:Nat):Prop extends kZ M N where
 Kv:∀(s:aj) h,s.length<1000000->M.ext 225 [.str s,.str [45]] h=some ⟨.ay [.str (bL 45 s),.bool (preB 45 s)],h,[]⟩
 Dl:∀(s:aj) h,s.length<1000000->M.ext 226 [.str s] h=some ⟨.bool (dR s),h,[]⟩
 rW:∀a b x y,aN a x->aN b y->al x<wB^N->al y<wB^N->∃v0,aN v0 (ci x y:Nat)/\∀h,M.ext 229 [a,b] h=some ⟨v0,h,[]⟩
 sw:∀t (e:Int) h,M.ext 228 [.bool t,.iV e] h=some ⟨.iV (if t then e else 0),h,[]⟩
 sx:∀v h l,gm h v=some l->l.length<1000->M.ext 227 [v] h=some ⟨.iV (bK l),h,[]⟩
theorem sy {s:aj}(h:dR s=true):s≠[]/\s.all bI=true:=by
 simp only[dR,bc,decide_eq_true_eq]at h;exact h.1
theorem Yv {s:aj}(h:s.all bI=true):preB 45 s=false:=by
 rw[preB,decide_eq_false_iff_not];intro e;cases s with
 | nil=>simp at e
 | cons c t=>
  simp at e;subst e;simp[d8]at h;exact absurd h.1 am
theorem kZ.Kw (C:kZ M N)(s:aj)(hl:s.length<=N)(h:s.all bI=true):∃v0,aN v0 (aL 0 s:Nat)/\∀h,M.ext 216 [.str s] h=some ⟨v0,h,[]⟩:=by
 have hp:=Yv h;have hc:=jX hp;obtain⟨v0,h0,q⟩:=C.Df s hl (by rw[hc];exact h);rw[hp,hc]at h0;exact⟨v0,h0,q⟩
theorem sA (b:UInt8)(s:aj):(bH b s).1.length<=s.length:=by
 cases h:(bH b s).2 with
 | none=>rw[(mI h).1];exact az _
 | some y=>have:=sr h;omega
theorem Dm (b:UInt8)(s:aj):((bH b s).2.getD []).length<=s.length:=by
 cases h:(bH b s).2 with
 | none=>exact n9 _
 | some y=>have:=sr h;simp;omega
def qj:ao:=
 zR [zm 46 7,
          zu 47 46,
          ⟨(.l 48),.call (kF 228) [(.l 47),(kI 1)],none⟩,
          zm 49 4,
          zL 50 49,
          zm 51 5,
          zL 52 51,
          ⟨(.l 53),.mm true [(.l 50),(.l 52)],none⟩,
          zc 54 .gtr 53 600,
          ⟨(.l 55),.call (kF 228) [(.l 54),(kI 4)],none⟩,
          ⟨(.l 56),.dX 28 2 1 [.iV (0)] [(0,1,(.l 48)),(1,1,(.l 55))],none⟩,
          z1 57 227 56,
          zw 8 57]
        (
         zR [zm 58 8,
           zc 59 .neq 58 0,
           zn 60 59,
           zg (zm 61 6) 60 false,
           zg (zu 62 61) 60 false,
           zP 63 60 62]
         (
          .cond (.l 63)
          (
           zR [zm 64 8,
             zw 1 64]
           (.ret))
          (.skip)))
def qk:ao:=
 zR [zm 65 4,
          z1 66 216 65,
          zm 67 5,
          z1 68 216 67,
          z2 69 229 66 68,
          ⟨(.p 9),.alloc 171 [.iV (0),.ab],none⟩,
          zs 2 9 69]
        (
         .seq (.draw [(zt 70 2 9,[]),
           (⟨(.l 71),.call (kF 196) [(kI 1)],none⟩,[0]),
           (z2 72 200 70 71,[]),
           (zc 73 .neq 72 0,[]),
           (⟨(.l 74),.call (kF 228) [(.l 73),(kI 1)],none⟩,[]),
           (zw 1 74,[])])
         (.ret))
def Dn (res:List fw)(r:Int)(e:Ex)(s:au):Prop:=(e = .normal\/e = .ret)/\s.s.cg=[]/\∃vs,dH s.s res=some vs/\aV vs = .iV r/\(if (AV.iV r).top<=0 then [] else s.s.hp)=[]
theorem iT {res:List fw}{r r':Int}{e:Ex}{s:au}{vs:List AV}(he:e = .normal\/e = .ret)(hd:s.s.cg=[])(hv:dH s.s res=some vs)(ht:aV vs = .iV r')(hr:r'=r):Dn res r e s:=by
 subst hr;exact⟨he,hd,vs,hv,ht,rfl⟩
theorem jy (C:Dk M N)(hN:600<=N)(F B:Bool)(top bot:aj)(hl:top.length<1000000/\bot.length<1000000)(hd:F=true->top.all bI=true/\(B=true->bot.all bI=true))(a0 a1 a2 a3 a8 a9:AV)(lo:List (Nat×AV))(wr:List Nat) :
 W M (.seq qj qk) ⟨⟨[a0,a1,a2,a3,.str top,.str bot,.bool B,.bool F,a8,a9],lo,[],[]⟩,wr⟩ (Dn [.var (.p 1)] (if F=false then 1 else if 600<top.length\/600<bot.length then 4 else if B=true/\fT (aL 0 top) (aL 0 bot)=true then 1 else 0)):=by
 have t1:∀h,M.ext 228 [.bool true,.iV 1] h=some ⟨.iV 1,h,[]⟩:=fun h=>C.sw true 1 h
 have f1:∀h,M.ext 228 [.bool false,.iV 1] h=some ⟨.iV 0,h,[]⟩:=fun h=>C.sw false 1 h
 have t4:∀h,M.ext 228 [.bool true,.iV 4] h=some ⟨.iV 4,h,[]⟩:=fun h=>C.sw true 4 h
 have f4:∀h,M.ext 228 [.bool false,.iV 4] h=some ⟨.iV 0,h,[]⟩:=fun h=>C.sw false 4 h
 have g14:∀v h,gm h v=some [1,4]->M.ext 227 [v] h=some ⟨.iV 1,h,[]⟩:=fun v h e=>C.sx v h _ e am
 have g10:∀v h,gm h v=some [1,0]->M.ext 227 [v] h=some ⟨.iV 1,h,[]⟩:=fun v h e=>C.sx v h _ e am
 have g04:∀v h,gm h v=some [0,4]->M.ext 227 [v] h=some ⟨.iV 4,h,[]⟩:=fun v h e=>C.sx v h _ e am
 have g00:∀v h,gm h v=some [0,0]->M.ext 227 [v] h=some ⟨.iV 0,h,[]⟩:=fun v h e=>C.sx v h _ e am
 obtain⟨m,hm⟩:∃m:Int,m=top.length/\(bot.length:Int)<=top.length\/m=bot.length/\(top.length:Int)<=bot.length:=by
  by_cases h:bot.length<=top.length
  . exact⟨_,.inl ⟨rfl,ac⟩⟩
  . exact⟨_,.inr ⟨rfl,ac⟩⟩
 cases F with
 | false=>
  rw[if_pos rfl];unfold qj qk;repeat' first|(apply aeq (m:=m);rfl;rfl;exact hm)|apply aaQ|apply aa|apply aaf|apply aad|apply abw|apply aU|(apply abz;rfl)|(apply adU;rfl)|(apply abV;rfl;rfl)|(apply adf;rfl;rfl)|(apply aco;rfl;rfl)|(apply abJ;rfl;rfl;first|exact t1 _|exact f1 _|exact t4 _|exact f4 _)|(apply abJ;rfl;rfl;first|exact g14 _ _ rfl|exact g10 _ _ rfl)|(apply acn;rfl;rfl;rfl)|(apply abh;rfl;rfl)|(apply abl;rfl;rfl)|(intro _;omega)|intro _
  all_goals try omega
  all_goals exact iT (.inr rfl) rfl rfl rfl rfl
 | true=>
  rw[if_neg am];by_cases hb:600<top.length\/600<bot.length
  . rw[if_pos hb];unfold qj qk;repeat' first|(apply aeq (m:=m);rfl;rfl;exact hm)|apply aaQ|apply aa|apply aaf|apply aad|apply abw|apply aU|(apply abz;rfl)|(apply adU;rfl)|(apply abV;rfl;rfl)|(apply adf;rfl;rfl)|(apply aco;rfl;rfl)|(apply abJ;rfl;rfl;first|exact t1 _|exact f1 _|exact t4 _|exact f4 _)|(apply abJ;rfl;rfl;first|exact g04 _ _ rfl|exact g00 _ _ rfl)|(apply acn;rfl;rfl;rfl)|(apply abh;rfl;rfl)|(apply abl;rfl;rfl)|(intro _;omega)|intro _
    all_goals try omega
    all_goals exact iT (.inr rfl) rfl rfl rfl rfl
  . rw[if_neg hb];cases B with
    | false=>
     rw[if_neg aq];unfold qj qk;repeat' first|(apply aeq (m:=m);rfl;rfl;exact hm)|apply aaQ|apply aa|apply aaf|apply aad|apply abw|apply aU|(apply abz;rfl)|(apply adb;rfl)|(apply abV;rfl;rfl)|(apply adf;rfl;rfl)|(apply acw;rfl;rfl)|(apply abJ;rfl;rfl;first|exact t1 _|exact f1 _|exact t4 _|exact f4 _)|(apply abJ;rfl;rfl;first|exact g04 _ _ rfl|exact g00 _ _ rfl)|(apply acn;rfl;rfl;rfl)|(apply abh;rfl;rfl)|(apply abl;rfl;rfl)|(intro _;omega)|intro _
     all_goals try omega
     all_goals exact iT (.inr rfl) rfl rfl rfl rfl
    | true=>
     obtain⟨hta,hba⟩:=hd rfl;have hba:=hba rfl;obtain⟨va,ka,qa⟩:=C.Kw top ac hta;obtain⟨vb,kb,qb⟩:=C.Kw bot ac hba;have la:=nY (N:=N) hta ac;have lb:=nY (N:=N) hba ac;obtain⟨vg,kg,qg⟩:=C.rW va vb _ _ ka kb la lb;obtain⟨g,hg⟩:∃g,g=p9 (aL 0 top) (aL 0 bot):=⟨_,rfl⟩;have kg:aN vg (g:Int):=by rw[hg];exact kg
     have lg:al (g:Int)<wB^N:=by
      rw[fu ac]at la lb ⊢;rw[hg];rcases i5 (aL 0 top) with h0|h0
      . rw[h0,Nat.gcd_zero_left];exact lb
      . have:=Nat.gcd_le_left (aL 0 bot) h0;omega
     have q196:=C.mC 1;have q200:=C.Cq _ (.agg [.iV 1,.ab]) _ 1 kg (.small am) lg (nY (s:=[49]) am (by
                                                                                                                             have:([49]:aj).length=1:=rfl;omega))
     obtain⟨sg,wg,rfl,og,_⟩:=kg.shape;by_cases h1:g=1
     . have hc:fT (aL 0 top) (aL 0 bot)=false:=by rw[fT,←hg,h1];rfl
       rw[if_neg (by rw[hc];simp)];subst h1;rw[show br (((1:Nat):Int)-1)=0 by rfl]at q200;unfold qj qk;repeat' first|(apply aeq (m:=m);rfl;rfl;exact hm)|(apply abJ;rfl;rfl;first|exact q196 _|exact q200 _|exact t1 _|exact f1 _)|(apply adN;rfl;rfl;(first|(simp only[nca];rfl)|rfl);first|exact q196 _|exact q200 _|exact t1 _|exact f1 _)|(apply adM;rfl;rfl;rfl;exact⟨rfl,az _,by simp[eE,og]⟩;rfl)|apply aaQ|apply aa|apply aaf|apply aad|apply abw|apply abC|apply adr|apply adI|(apply adO;rfl)|(apply adJ;rfl;rfl;(first|(simp only[nca];rfl)|rfl))|(apply abx;rfl)|(apply adb;rfl)|(apply abV;rfl;rfl)|(apply adf;rfl;rfl)|(apply acw;rfl;rfl)|(apply abJ;rfl;rfl;first|exact t1 _|exact f1 _|exact t4 _|exact f4 _|exact qa _|exact qb _|exact qg _)|(apply abJ;rfl;rfl;first|exact g04 _ _ rfl|exact g00 _ _ rfl)|(apply acn;rfl;rfl;rfl)|(apply abU;rfl;rfl;rfl)|(apply abh;rfl;rfl)|(apply abl;rfl;rfl)|(intro _;omega)|intro _
       all_goals try omega
       all_goals exact iT (.inr rfl) rfl rfl rfl rfl
     . have hc:fT (aL 0 top) (aL 0 bot)=true:=by rw[fT,←hg];simp[h1]
       rw[if_pos ⟨rfl,hc⟩];obtain⟨z,hz⟩:∃z,z=br ((g:Int)-1):=⟨_,rfl⟩;have z0:z≠0:=by rw[hz];unfold br;split <;> (first|omega|(split <;> omega))
       rw[←hz]at q200;unfold qj qk;repeat' first|(apply aeq (m:=m);rfl;rfl;exact hm)|(apply abJ;rfl;rfl;first|exact q196 _|exact q200 _|exact t1 _|exact f1 _)|(apply adN;rfl;rfl;(first|(simp only[nca];rfl)|rfl);first|exact q196 _|exact q200 _|exact t1 _|exact f1 _)|(apply adM;rfl;rfl;rfl;exact⟨rfl,az _,by simp[eE,og]⟩;rfl)|apply aaQ|apply aa|apply aaf|apply aad|apply abw|apply abC|apply adr|apply adI|(apply adO;rfl)|(apply adJ;rfl;rfl;(first|(simp only[nca];rfl)|rfl))|(apply abx;rfl)|(apply adb;rfl)|(apply abV;rfl;rfl)|(apply adf;rfl;rfl)|(apply acw;rfl;rfl)|(apply abJ;rfl;rfl;first|exact t1 _|exact f1 _|exact t4 _|exact f4 _|exact qa _|exact qb _|exact qg _)|(apply abJ;rfl;rfl;first|exact g04 _ _ rfl|exact g00 _ _ rfl)|(apply acn;rfl;rfl;rfl)|(apply abU;rfl;rfl;rfl)|(apply abh;rfl;rfl)|(apply abl;rfl;rfl)|(intro _;omega)|intro _
       all_goals try omega
       all_goals exact iT (.inr rfl) rfl rfl rfl rfl
theorem Yw (C:Dk M N)(hN:600<=N)(s:aj)(hl:s.length<1000000):bg M 172 [.str s] [] ⟨.iV (cO s),[],[]⟩:=by
 have hcl:=qi 45 s;have htl:(cY s).length<=s.length:=b7 (sA 47 _) hcl;have hbl:(dJ s).length<=s.length:=b7 (Dm 47 _) hcl;have q225:=fun h=>C.Kv s h hl
 have q160:=fun h=>C.De (bL 45 s) h ac
 have ecut:iQ 47 (bL 45 s) = .ay [.str (cY s),.str (dJ s),.bool (im s)]:=rfl;rw[ecut]at q160;have q226a:=fun h=>C.Dl (cY s) h ac
 have q226b:=fun h=>C.Dl (dJ s) h ac
 have hform:jh s=(dR (cY s) && !(preB 45 s && decide (cY s=[48])) && (!im s || (dR (dJ s) && decide (dJ s≠[48]) && decide (dJ s≠[49])))):=rfl;have hchk:cO s=if jh s=false then 1 else if 600<(cY s).length\/600<(dJ s).length then 4 else if im s=true/\fT (aL 0 (cY s)) (aL 0 (dJ s))=true then 1 else 0:=rfl
 have dA:=fun h=>(sy (s:=cY s) h).2
 have dC:=fun h=>(sy (s:=dJ s) h).2
 rw[hchk];clear hchk ecut;refine bY (by rw[C.ft];exact XW) aq ?_;generalize cY s=top at *
 generalize dJ s=bot at *
 generalize jh s=F at *
 generalize im s=B at *
 generalize preB 45 s=P at *
 have ll:top.length<1000000/\bot.length<1000000:=⟨ac,ac⟩;unfold Kt;simp only[enter];cases hA:dR top with
 | false=>
  rw[hA]at q226a hform;simp only[c8]at hform;subst hform;cases B;all_goals
  . repeat' first|(exact jy C hN _ _ top bot ll (fun h=>by cases h) _ _ _ _ _ _ _ _)|apply aaQ|apply aa|apply aaf|apply aad|apply abC|(apply abz;rfl)|(apply abx;rfl)|(apply adu;rfl)|(apply aej;rfl)|(apply acw;rfl;rfl)|(apply abJ;rfl;rfl;first|exact q225 _|exact q160 _|exact q226a _)|(apply abh;rfl;rfl)|(apply abl;rfl;rfl)
 | true=>
  rw[hA]at q226a hform;simp only[cK]at hform;have dA:=dA hA;by_cases hz:P=true/\top=[48]
  . obtain⟨rfl,hz⟩:=hz;rw[decide_eq_true hz]at hform;simp only[pL,li,c8]at hform;subst hform;cases B;all_goals
    . repeat' first|(exact jy C hN _ _ top bot ll (fun h=>by cases h) _ _ _ _ _ _ _ _)|(apply adV;rfl;rfl;all_goals first|(intro h;exact absurd hz h)|intro _)|apply aaQ|apply aa|apply aaf|apply aad|apply abC|(apply abz;rfl)|(apply abx;rfl)|(apply acF;rfl)|(apply adu;rfl)|(apply aco;rfl;rfl)|(apply acw;rfl;rfl)|(apply abJ;rfl;rfl;first|exact q225 _|exact q160 _|exact q226a _)|(apply abh;rfl;rfl)|(apply abl;rfl;rfl)
  . have hpz:(P && decide (top=[48]))=false:=by
     cases P with
     | false=>rfl
     | true=>rw[decide_eq_false (fun e=>hz ⟨rfl,e⟩)];rfl
    rw[hpz]at hform;simp only[pB,cK]at hform;cases B with
    | false=>
     simp only[pB,ne]at hform;subst hform;cases P with
     | false=>
      repeat' first|(exact jy C hN _ _ top bot ll (fun _=>⟨dA,fun h=>by cases h⟩) _ _ _ _ _ _ _ _)|apply aaQ|apply aa|apply aaf|apply aad|apply abC|(apply abx;rfl)|(apply acF;rfl)|(apply adu;rfl)|(apply aco;rfl;rfl)|(apply acw;rfl;rfl)|(apply abJ;rfl;rfl;first|exact q225 _|exact q160 _|exact q226a _)|(apply abh;rfl;rfl)|(apply abl;rfl;rfl)
     | true=>
      have hz:¬top=[48]:=fun e=>hz ⟨rfl,e⟩
      repeat' first|(exact jy C hN _ _ top bot ll (fun _=>⟨dA,fun h=>by cases h⟩) _ _ _ _ _ _ _ _)|(apply adV;rfl;rfl;all_goals first|(intro h;exact absurd h hz)|intro _)|apply aaQ|apply aa|apply aaf|apply aad|apply abC|(apply abx;rfl)|(apply acF;rfl)|(apply aco;rfl;rfl)|(apply abJ;rfl;rfl;first|exact q225 _|exact q160 _|exact q226a _)|(apply abh;rfl;rfl)|(apply abl;rfl;rfl)
    | true=>
     simp only[li,le]at hform;cases hC:dR bot with
     | false=>
      rw[hC]at q226b hform;simp only[c8]at hform;subst hform;cases P with
      | false=>
       repeat' first|(exact jy C hN _ _ top bot ll (fun h=>by cases h) _ _ _ _ _ _ _ _)|apply aaQ|apply aa|apply aaf|apply aad|(apply abz;rfl)|(apply acF;rfl)|(apply adu;rfl)|(apply aco;rfl;rfl)|(apply acw;rfl;rfl)|(apply abJ;rfl;rfl;first|exact q225 _|exact q160 _|exact q226a _|exact q226b _)|(apply abh;rfl;rfl)|(apply abl;rfl;rfl)
      | true=>
       have hz:¬top=[48]:=fun e=>hz ⟨rfl,e⟩
       repeat' first|(exact jy C hN _ _ top bot ll (fun h=>by cases h) _ _ _ _ _ _ _ _)|(apply adV;rfl;rfl;all_goals first|(intro h;exact absurd h hz)|intro _)|apply aaQ|apply aa|apply aaf|apply aad|(apply abz;rfl)|(apply acF;rfl)|(apply adu;rfl)|(apply aco;rfl;rfl)|(apply acw;rfl;rfl)|(apply abJ;rfl;rfl;first|exact q225 _|exact q160 _|exact q226a _|exact q226b _)|(apply abh;rfl;rfl)|(apply abl;rfl;rfl)
     | true=>
      rw[hC]at q226b hform;simp only[cK]at hform;have dC:=dC hC;by_cases h48:bot=[48]
      . rw[decide_eq_false (show ¬bot≠[48] from fun h=>h h48)]at hform;simp only[c8]at hform;subst hform;cases P with
        | false=>
         repeat' first|(exact jy C hN _ _ top bot ll (fun h=>by cases h) _ _ _ _ _ _ _ _)|(apply aek;rfl;rfl;all_goals first|(intro h;exact absurd h48 h)|intro _)|apply aaQ|apply aa|apply aaf|apply aad|(apply abz;rfl)|(apply acF;rfl)|(apply adu;rfl)|(apply aco;rfl;rfl)|(apply acw;rfl;rfl)|(apply abJ;rfl;rfl;first|exact q225 _|exact q160 _|exact q226a _|exact q226b _)|(apply abh;rfl;rfl)|(apply abl;rfl;rfl)
        | true=>
         have hz:¬top=[48]:=fun e=>hz ⟨rfl,e⟩
         repeat' first|(exact jy C hN _ _ top bot ll (fun h=>by cases h) _ _ _ _ _ _ _ _)|(apply adV;rfl;rfl;all_goals first|(intro h;exact absurd h hz)|intro _)|(apply aek;rfl;rfl;all_goals first|(intro h;exact absurd h48 h)|intro _)|apply aaQ|apply aa|apply aaf|apply aad|(apply abz;rfl)|(apply acF;rfl)|(apply adu;rfl)|(apply aco;rfl;rfl)|(apply acw;rfl;rfl)|(apply abJ;rfl;rfl;first|exact q225 _|exact q160 _|exact q226a _|exact q226b _)|(apply abh;rfl;rfl)|(apply abl;rfl;rfl)
      . rw[decide_eq_true (show bot≠[48] from h48)]at hform;simp only[cK]at hform;by_cases h49:bot=[49]
        . rw[decide_eq_false (show ¬bot≠[49] from fun h=>h h49)]at hform;subst hform;cases P with
          | false=>
           repeat' first|(exact jy C hN _ _ top bot ll (fun h=>by cases h) _ _ _ _ _ _ _ _)|(apply aek;rfl;rfl;all_goals first|(intro h;exact absurd h h48)|(intro h;exact absurd h49 h)|intro _)|apply aaQ|apply aa|apply aaf|apply aad|(apply abz;rfl)|(apply acF;rfl)|(apply adu;rfl)|(apply aco;rfl;rfl)|(apply acw;rfl;rfl)|(apply abJ;rfl;rfl;first|exact q225 _|exact q160 _|exact q226a _|exact q226b _)|(apply abh;rfl;rfl)|(apply abl;rfl;rfl)
          | true=>
           have hz:¬top=[48]:=fun e=>hz ⟨rfl,e⟩
           repeat' first|(exact jy C hN _ _ top bot ll (fun h=>by cases h) _ _ _ _ _ _ _ _)|(apply adV;rfl;rfl;all_goals first|(intro h;exact absurd h hz)|intro _)|(apply aek;rfl;rfl;all_goals first|(intro h;exact absurd h h48)|(intro h;exact absurd h49 h)|intro _)|apply aaQ|apply aa|apply aaf|apply aad|(apply abz;rfl)|(apply acF;rfl)|(apply aco;rfl;rfl)|(apply abJ;rfl;rfl;first|exact q225 _|exact q160 _|exact q226a _|exact q226b _)|(apply abh;rfl;rfl)|(apply abl;rfl;rfl)
        . rw[decide_eq_true (show bot≠[49] from h49)]at hform;subst hform;cases P with
          | false=>
           repeat' first|(exact jy C hN _ _ top bot ll (fun _=>⟨dA,fun _=>dC⟩) _ _ _ _ _ _ _ _)|(apply aek;rfl;rfl;all_goals first|(intro h;exact absurd h h48)|(intro h;exact absurd h h49)|intro _)|apply aaQ|apply aa|apply aaf|apply aad|(apply abz;rfl)|(apply acF;rfl)|(apply adu;rfl)|(apply aco;rfl;rfl)|(apply acw;rfl;rfl)|(apply abJ;rfl;rfl;first|exact q225 _|exact q160 _|exact q226a _|exact q226b _)|(apply abh;rfl;rfl)|(apply abl;rfl;rfl)
          | true=>
           have hz:¬top=[48]:=fun e=>hz ⟨rfl,e⟩
           repeat' first|(exact jy C hN _ _ top bot ll (fun _=>⟨dA,fun _=>dC⟩) _ _ _ _ _ _ _ _)|(apply adV;rfl;rfl;all_goals first|(intro h;exact absurd h hz)|intro _)|(apply aek;rfl;rfl;all_goals first|(intro h;exact absurd h h48)|(intro h;exact absurd h h49)|intro _)|apply aaQ|apply aa|apply aaf|apply aad|(apply abz;rfl)|(apply acF;rfl)|(apply aco;rfl;rfl)|(apply abJ;rfl;rfl;first|exact q225 _|exact q160 _|exact q226a _|exact q226b _)|(apply abh;rfl;rfl)|(apply abl;rfl;rfl)
theorem Dp {h:ae}{b:Nat}{a c:AV}{e:TypeId}{cp:Option Nat}(ha:rA a=true)(hc:rA c=true)(hb:h.at b=some (.cells [a,c] e)):dv h (.sl b 0 2 1 cp) (.vs [a,c] 2 none):=
 .sl (m:=[a,c]) hb rfl rfl fun i x y hx hy=>by
  match i,hx,hy with
  | 0,hx,hy=>cases hx;cases hy;exact .atom ha
  | 1,hx,hy=>cases hx;cases hy;exact .atom hc
def Dq (k:Nat)(q:Rat):Prop:=al q.num<10^k/\(q.den:Int)<10^k
theorem wZ (k:Nat):(0:Int)<10^k:=kw am
theorem nZ {m n:Nat}(h:m<=n):(10:Int)^m<=10^n:=ie am h
theorem Dq.mono {m n:Nat}{q:Rat}(h:Dq m q)(hl:m<=n):Dq n q:=⟨c7 h.1 (nZ hl),c7 h.2 (nZ hl)⟩
theorem Kx {n d:Int}(h:0<d):∃c:Int,0<c/\n=c*(be n d).num/\d=c*((be n d).den:Int):=by
 obtain⟨k1,k2,h1,h2,h3,h4⟩:=vF (n:=n) h;refine⟨(ci n d:Nat),?_,by rw[h3];exact h1,by rw[h4];exact h2⟩;have:=d6 n (show d≠0 by omega);omega
theorem Yx {c x:Int}(hc:0<c):al x<=al (c*x):=by
 rw[vG,fu (gc hc)];have:=b5 (show 1<=c by omega) (jU (x:=x));omega
theorem Dq.divInt {k:Nat}{n d:Int}(hd:0<d)(h1:al n<10^k)(h2:d<10^k):Dq k (be n d):=by
 obtain⟨c,hc,e1,e2⟩:=Kx (n:=n) hd;refine⟨f8 ?_ h1,f8 ?_ h2⟩
 . have:=Yx (x:=(be n d).num) hc;rw[←e1]at this;exact this
 . have h0:(0:Int)<=((be n d).den:Int):=by omega
   have:=b5 (show 1<=c by omega) h0;rw[←e2]at this;omega
theorem xc {x y:Int}{m n:Nat}(hx:al x<10^m)(hy:al y<10^n):al (x*y)<10^(m+n):=by
 rw[vG,ja];have h1:=b6 (gc hy) (jU (x:=x));have h2:=d9 hx (wZ n);omega
theorem Yy {x y:Int}:al (x+y)<=al x+al y:=by unfold al;split <;> split <;> split <;> omega
theorem Dq.neg {m:Nat}{p:Rat}(hp:Dq m p):Dq m (-p):=by
 refine⟨?_,?_⟩
 . rw[n7,jt];exact hp.1
 . rw[Rat.neg_den];exact hp.2
def gw (p q:Rat):Int:=br (p.num*q.den-q.num*p.den)
theorem Yz {c x:Int}(h:0<c):br (c*x)=br x:=by
 unfold br;by_cases h1:x<0
 . have:=Int.mul_neg_of_pos_of_neg h h1;rw[if_pos this,if_pos h1]
 . by_cases h2:0<x
   . have:=Int.mul_pos h h2;rw[if_neg ac,if_pos this,if_neg h1,if_pos h2]
   . have:x=0:=by omega
     subst this;rw[Int.mul_zero]
theorem YA {n d:Int}(h:0<d):br (be n d).num=br n:=by
 obtain⟨c,hc,e1,_⟩:=Kx (n:=n) h;rw[←Yz hc,←e1]
theorem YB (p q:Rat):p-q=be (p.num*q.den-q.num*p.den) (p.den*q.den):=by
 rw[Rat.sub_eq_add_neg,Cy,n7,Rat.neg_den,n3,Int.sub_eq_add_neg]
theorem Dr (p:Rat):gw p 0=br p.num:=by
 unfold gw;congr 1;show p.num*1-0*_=_;rw[n6,Int.zero_mul,Int.sub_zero]
theorem Ky (p q:Rat):gw (p-q) 0=gw p q:=by
 rw[Dr,YB,YA (Int.mul_pos den_pos den_pos)];rfl
theorem xe {z:Int}{k:Nat}(hk:0<k)(h:al z<10^k):(bh (al z).toNat).length<=k:=by
 refine wI ?_ hk;have h0:=jU (x:=z);have e:((10^k:Nat):Int)=(10:Int)^k:=Int.natCast_pow _ _;rw[←e]at h;omega
theorem Kz {z:Int}{k:Nat}(hk:0<k)(h:al z<10^k):(cM z).length<=k+1:=by
 have:=xe hk h;by_cases hz:z<0
 . rw[nW hz,b8];omega
 . rw[mG hz];omega
theorem KA {q:Rat}{k:Nat}(hk:0<k)(h:Dq k q):(bh q.den).length<=k:=by
 have:=xe (z:=(q.den:Int)) hk (by rw[fu ac];exact h.2);rw[fu ac]at this;exact this
theorem Dq.lq {q:Rat}{k N:Nat}(hk:0<k)(h:Dq k q)(hN:k+1<=N):Lq N q:=
 ⟨b7 (Kz hk h.1) hN,b7 (KA hk h) ac⟩
theorem KB (n:Nat):dR (bh n)=true:=by
 obtain⟨h1,h2,h3⟩:=WG n;unfold dR;rw[decide_eq_true h1,h2,cK];cases hd:bh n with
 | nil=>exact absurd hd h1
 | cons b t=>
  rw[hd]at h3;by_cases hb:b=48
  . subst hb;have ht:=h3 rfl;have:t=[]:=dh (by simpa using ht);subst this;rfl
  . have e:(b::t)[0]! = b:=rfl;rw[e,decide_eq_true (show b≠48 from hb)];rfl
theorem oc (q:Rat):preB 45 (aQ q)=decide (q.num<0)/\bL 45 (aQ q)=(if q.den=1 then bh (al q.num).toNat else bh (al q.num).toNat++47::bh q.den):=by
 by_cases hn:q.num<0
 . rw[decide_eq_true hn];unfold aQ;split
   . rw[nW hn];exact⟨rfl,rfl⟩
   . rw[nW hn];exact⟨rfl,rfl⟩
 . rw[decide_eq_false hn];unfold aQ;rw[mG hn];have hp:=Kq (al q.num).toNat (c:=45) am;split
   . exact⟨hp,jX hp⟩
   . have hp2:preB 45 (bh (al q.num).toNat++47::bh q.den)=false:=by
      cases hd:bh (al q.num).toNat with
      | nil=>exact absurd hd (qf _)
      | cons b t=>rw[hd]at hp;exact hp
     exact⟨hp2,jX hp2⟩
theorem KC (q:Rat):cY (aQ q)=bh (al q.num).toNat/\dJ (aQ q)=(if q.den=1 then [] else bh q.den)/\im (aQ q)=decide (q.den≠1):=by
 have hn:=Kp (jx (al q.num).toNat) (c:=47) am;unfold cY dJ im;rw[(oc q).2];by_cases h:q.den=1
 . rw[if_pos h,if_pos h,su hn,decide_eq_false (by simpa using h)];exact⟨rfl,rfl,rfl⟩
 . rw[if_neg h,if_neg h,sv hn,decide_eq_true h];exact⟨rfl,rfl,rfl⟩
theorem KD (z:Int):(al z).toNat=z.natAbs:=by unfold al;split <;> omega
theorem xf {q:Rat}{k:Nat}(hk:0<k)(h6:k<=600)(h:Dq k q):cO (aQ q)=0:=by
 obtain⟨e1,e2,e3⟩:=KC q;have l1:=xe hk h.1;have l2:=KA hk h;have hpre:=(oc q).1;have hz:(preB 45 (aQ q) && decide (bh (al q.num).toNat=[48]))=false:=by
  rw[hpre];by_cases hn:q.num<0
  . rw[decide_eq_true hn,cK,decide_eq_false_iff_not];intro e;have:=iL (al q.num).toNat;rw[e]at this;have h2:al q.num = -q.num:=if_pos hn;simp[aL]at this;omega
  . rw[decide_eq_false hn,c8]
 have dp:=q.den_pos;have hform:jh (aQ q)=true:=by
  unfold jh;rw[e1,e2,e3,KB,hz];by_cases hd:q.den=1
  . rw[decide_eq_false (by simpa using hd)];rfl
  . rw[decide_eq_true hd,if_neg hd,KB];have n0:bh q.den≠[48]:=fun e=>by
     have:=iL q.den;rw[e]at this;simp[aL]at this;omega
    have n1:bh q.den≠[49]:=fun e=>by
     have:=iL q.den;rw[e]at this;simp[aL]at this;omega
    rw[decide_eq_true n0,decide_eq_true n1];rfl
 unfold cO;rw[hform,if_neg am,e1,e2,e3];by_cases hd:q.den=1
 . rw[if_pos hd,if_neg (by simp;omega),if_neg (by simp[hd])]
 . rw[if_neg hd,if_neg ac,iL,iL,if_neg];rintro⟨_,h2⟩;rw[KD]at h2;have:=q.reduced;unfold Nat.Coprime at this;rw[fT,this]at h2;exact absurd h2 am
theorem KE {s:aj}(h:dR s=true):CW s:=by
 obtain⟨h1,h2⟩:=sy h;refine⟨h1,h2,fun h3=>?_⟩;simp only[dR,bc,Bool.or_eq_true,decide_eq_true_eq]at h;cases s with
 | nil=>exact absurd rfl h1
 | cons b t=>
  simp at h3;subst h3;rcases h.2 with h4|h4
  . exact absurd rfl h4
  . rw[h4];rfl
theorem KF {s:aj}{k:Nat}(h:s.all bI=true)(hl:s.length<=k):((aL 0 s:Nat):Int)<10^k:=by
 have h1:=mF s h;have h2:(aL 0 s:Int)<(10:Int)^s.length:=by exact_mod_cast h1
 exact c7 h2 (nZ hl)
theorem YC {s:aj}{k:Nat}(h:cO s=0)(hl:s.length<=k):∃q,s=aQ q/\Dq k q:=by
 have hform:jh s=true:=by
  cases hf:jh s with
  | true=>rfl
  | false=>unfold cO at h;rw[hf,if_pos rfl]at h;exact absurd h am
 have hcop:¬(im s=true/\fT (aL 0 (cY s)) (aL 0 (dJ s))=true):=fun hc=>by
  unfold cO at h;rw[hform,if_neg am]at h;split at h
  . exact absurd h am
  . exact absurd h am
 unfold jh at hform;rw[bc,bc]at hform;obtain⟨⟨f1,f2⟩,f3⟩:=hform;have hcl:=qi 45 s;have htl:(cY s).length<=k:=b7 (b7 (sA 47 _) hcl) hl;have hbl:(dJ s).length<=k:=b7 (b7 (Dm 47 _) hcl) hl;have hT:=KE f1;have eT:=JB hT;have hs:s=if preB 45 s=true then 45::bL 45 s else bL 45 s:=by
  cases hp:preB 45 s with
  | false=>rw[if_neg am,jX hp]
  | true=>
   rw[if_pos rfl];have hh:=of_decide_eq_true hp;unfold bL;rw[if_pos hh];cases s with
   | nil=>simp at hh
   | cons c t=>simp at hh;rw[hh];rfl
 obtain⟨z,hz⟩:∃z:Int,z=if preB 45 s=true then -(aL 0 (cY s):Int) else (aL 0 (cY s):Nat):=⟨_,rfl⟩
 have hza:al z=(aL 0 (cY s):Nat):=by
  rw[hz];unfold al;cases preB 45 s with
  | false=>simp only[i7,↓reduceIte];exact if_neg ac
  | true=>simp only[↓reduceIte];split <;> omega
 have hzn:preB 45 s=decide (z<0):=by
  cases hp:preB 45 s with
  | false=>
   rw[hp,if_neg am]at hz;exact(decide_eq_false ac).symm
  | true=>
   rw[hp,if_pos rfl]at hz;rw[hp]at f2;have n0:aL 0 (cY s)≠0:=fun e=>by
    rw[e,jV am]at eT;rw[←eT]at f2;exact absurd f2 am
   rw[decide_eq_true ac]
 have hzt:cM z=if preB 45 s=true then 45::cY s else cY s:=by
  rw[hzn];by_cases hn:z<0
  . rw[nW hn,hza,decide_eq_true hn,if_pos rfl];show 45::bh (aL 0 (cY s))=_;rw[eT]
  . rw[mG hn,hza,decide_eq_false hn,if_neg am];exact eT
 have hzb:al z<10^k:=by rw[hza];exact KF hT.2.1 htl
 have k1:(1:Int)<10^k:=by
  have h0:0<(cY s).length:=f6.2 hT.1;have:=nZ (show 1<=k by omega);rw[Int.pow_one]at this;omega
 cases hb:im s with
 | false=>
  have hn:(bH 47 (bL 45 s)).2=none:=by
   unfold im at hb;cases h:(bH 47 (bL 45 s)).2 with
   | none=>rfl
   | some y=>rw[h]at hb;cases hb
  have e:cY s=bL 45 s:=(mI hn).1;refine⟨be z 1,?_,?_⟩
  . unfold aQ;rw[mD.1,mD.2,if_pos rfl,hzt,e];exact hs
  . exact⟨by rw[mD.1];exact hzb,by rw[mD.2];exact k1⟩
 | true=>
  rw[hb]at f3 hcop;simp only[li,le,bc,decide_eq_true_eq]at f3;have hB:=KE f3.1.1;have eB:=JB hB;have hd2:aL 0 (dJ s)≠0/\aL 0 (dJ s)≠1:=by
   refine⟨fun e=>?_,fun e=>?_⟩
   . rw[e,jV am]at eB;exact f3.1.2 eB.symm
   . rw[e,jV am]at eB;exact f3.2 eB.symm
  have hco:z.natAbs.Coprime (aL 0 (dJ s)):=by
   have h2:fT (aL 0 (cY s)) (aL 0 (dJ s))=false:=by
    cases hc:fT (aL 0 (cY s)) (aL 0 (dJ s)) with
    | false=>rfl
    | true=>exact absurd ⟨rfl,hc⟩ hcop
   have:z.natAbs=aL 0 (cY s):=by rw[←KD,hza];rfl
   rw[this];simpa[fT] using h2
  refine⟨⟨z,aL 0 (dJ s),hd2.1,hco⟩,?_,hzb,KF hB.2.1 hbl⟩;unfold im at hb;obtain⟨y,hy⟩:=Option.isSome_iff_exists.1 hb;have e:=(qh hy).1;have eb:dJ s=y:=by unfold dJ;rw[hy];rfl
  have et:(bH 47 (bL 45 s)).1=cY s:=rfl;rw[et,←eb]at e;unfold aQ;rw[if_neg hd2.2,hzt];show s=_++47::bh (aL 0 (dJ s));rw[eB];cases hp:preB 45 s with
  | false=>rw[hp,if_neg am,e]at hs;rw[if_neg am];exact hs
  | true=>rw[hp,if_pos rfl,e]at hs;rw[if_pos rfl];exact hs
theorem YD:aQ 0=[48]:=by
 show (if (1:Nat)=1 then cM 0 else _)=_;rw[if_pos rfl,mG am];exact jV am
theorem YE {q:Rat}(h:aQ q=[48]):q=0:=by
 obtain⟨e1,e2,e3⟩:=KC q;rw[h]at e1 e3;have a1:cY [48]=[48]:=rfl;have a3:im [48]=false:=rfl;rw[a1]at e1;have:=iL (al q.num).toNat;rw[←e1]at this;simp[aL]at this;have h0:=jU (x:=q.num);refine Rat.num_eq_zero.1 ?_;unfold al at this h0;split at this <;> omega
theorem Dq.bq {k N:Nat}{q:Rat}(h:Dq k q)(hN:k<=N):Bq N q:=by
 have e:(10:Int)^k<=wB^N:=gF (nZ hN) (by
  clear hN;induction N with
  | zero=>decide
  | succ n ih=>
   rw[dU,dU];have h0:(0:Int)<=10^n:=gc (wZ n);have h1:(0:Int)<=wB^n:=gF h0 ih;exact gF (b5 ih am) (b6 am h1))
 exact⟨c7 h.1 e,c7 h.2 e⟩
noncomputable def xg:Spec:=sK TF 284
theorem YF:ba Tryz.prog gl 284 xg:=bG wD
theorem YG {A:Int}(hA:al A<=10)(i:Nat):al (A^i)<=10^i:=by
 induction i with
 | zero=>
  rw[m7,m7];decide
 | succ n ih=>
  rw[dU,dU,vG];exact gF (b5 ih jU) (b6 hA (gc (wZ n)))
theorem YH:∀v A (K:Nat),aN v A->K<=18->al A<=10->∃v0,aN v0 (A^K)/\∀h,xg [v,.iV K] h=some ⟨v0,h,[]⟩:=fun v A K hv hK hA=>by
 obtain⟨v0,h1,h2⟩:=Vf (eF.c (N:=1) am am) hv (K:=K) ac fun i hi=>by
  have uM:(10:Int)^i<=10^18:=nZ ac;have hw:(10:Int)^18<wB^1:=by decide
  exact f8 (gF (YG hA i) uM) hw
 exact⟨v0,h1,dM h2 (fy hv.top rfl)⟩
noncomputable def xh:List (Nat×Spec):=(283,wQ)::(218,wS)::(212,wY)::(284,xg)::TF
theorem KG:cB Tryz.prog gl (bB xh):=aT XZ (aT Yb (aT Yq (aT YF wD)))
structure xi (T:List (Nat×Spec)):Prop extends EF T where
 YI:∀ar h,bB T 283 ar h=wQ ar h
 YJ:∀ar h,bB T 218 ar h=wS ar h
 YK:∀ar h,bB T 212 ar h=wY ar h
 YL:∀ar h,bB T 284 ar h=xg ar h
theorem xi.c (E:xi T){N:Nat}(h1:1<=N)(hN:N<=500000):wN (bx Tryz.prog FT T) N:={ E.toEF.c h1 hN with
 Kk:=fun s h hl=>(E.YI _ _).trans (Ye s 45 h hl)
 Kl:=fun s h hl=>(E.YJ _ _).trans (Yf s 45 h hl)
 Km:=fun s h h0 hl hd=>(E.YK _ _).trans (Yu s h h0 hl hd)
 Kn:=fun v A K hv hK _ hA=>by
  obtain⟨v0,k1,k2⟩:=YH v A K hv hK hA;exact⟨v0,k1,fun h=>(E.YL _ _).trans (k2 h)⟩ }
theorem YM:xi xh:=by repeat' first|exact fun _ _=>rfl|constructor
noncomputable def xj:Spec:=sK xh 216
theorem YN:ba Tryz.prog gl 216 xj:=bG KG
theorem YO {N:Nat}(h1:1<=N)(hN:N<=500000):∀(s:aj),s.length<=N->(bL 45 s).all bI=true->∃v0,aN v0 (if preB 45 s then -(aL 0 (bL 45 s):Int) else (aL 0 (bL 45 s):Nat))/\∀h,xj [.str s] h=some ⟨v0,h,[]⟩:=fun s hl hd=>by
 obtain⟨v0,k1,k2⟩:=XR (YM.c h1 hN) s hl hd;exact⟨v0,k1,dM k2 rfl⟩
noncomputable def xk:List (Nat×Spec):=(160,wU)::(216,xj)::xh
theorem KH:cB Tryz.prog gl (bB xk):=aT Yi (aT YN KG)
structure xl (T:List (Nat×Spec)):Prop extends xi T where
 YP:∀ar h,bB T 160 ar h=wU ar h
 YQ:∀ar h,bB T 216 ar h=xj ar h
theorem xl.c (E:xl T){N:Nat}(h1:1<=N)(hN:N<=500000):kZ (bx Tryz.prog FT T) N:={ E.toxi.c h1 hN with
 De:=fun s h hl=>(E.YP _ _).trans (Yj s 47 h hl)
 Df:=by simp only[E.YQ];exact YO h1 hN }
theorem YR:xl xk:=by repeat' first|exact fun _ _=>rfl|constructor
noncomputable def Ds:Spec:=sK xk 165
theorem YS:ba Tryz.prog gl 165 Ds:=bG KH
theorem KI {N:Nat}(h1:1<=N)(hN:N<=400000):∀q,Lq N q->∃v0,cL v0 q/\∀h,Ds [.str (aQ q)] h=some ⟨v0,h,[]⟩:=fun q lq=>by
 obtain⟨v0,k1,k2⟩:=XV (YR.c h1 ac) hN lq;exact⟨v0,k1,dM k2 rfl⟩
noncomputable def xn:List (Nat×Spec):=(225,Dg)::(226,Dj)::(229,sc)::(228,jb)::(227,jc)::xk
theorem YT:cB Tryz.prog gl (bB xn):=aT Yd (aT Yp (aT Ju (aT SV (aT SX KH))))
theorem YU:xl xn:=by repeat' first|exact fun _ _=>rfl|constructor
theorem YV {v:AV}{h:ae}{l:List Int}(hl:gm h v=some l)(hn:l.length<1000):jc [v] h=some ⟨.iV (bK l),h,[]⟩:=by
 simp only[jc,hl];rw[if_pos ac]
theorem YW:Dk (bx Tryz.prog FT xn) 600:={ YU.c am am with
  Kv:=fun s h hl=>Yg s 45 h hl
  Dl:=fun s h hl=>Yt s h hl
  rW:=fun a b x y ha hb hx hy=>Jv am am a b x y ha hb hx hy
  sw:=fun _ _ _=>rfl
  sx:=fun v h l hl hn=>YV hl hn }
noncomputable def Dt:Spec:=sK xn 172
theorem YX:ba Tryz.prog gl 172 Dt:=bG YT
theorem xp:∀(s:aj) h,s.length<1000000->Dt [.str s] h=some ⟨.iV (cO s),h,[]⟩:=fun s h hl=>cz (Yw YW (az _) s hl) rfl rfl rfl h
def KJ:ao:=zR [zi 1 0] (zR [zm 8 0,zw 2 8] (.seq (zR [zm 9 2,zL 10 9,zc 11 .gtr 10 0,zn 12 11,zg (zm 13 2) 12 true,⟨.l 14,.index (.l 13) (kI 0),some ((.l 12),true)⟩,⟨.l 15,.bin .eql (.l 14) (.c (.int .u8 (45))),some ((.l 12),true)⟩,zp 16 12 15] (.cond (.l 16) (.region [zm 17 2,⟨.l 18,.slice .str 1 (.l 17) (some (kI 1)) none none,none⟩,zw 2 18]) (.skip))) (zR [zm 19 2,z1 20 152 19,zw 3 20] (.seq (zR [zm 21 2,zm 22 3,⟨.l 23,.slice .str 1 (.l 21) none (some (.l 22)) none,none⟩,z1 24 169 23,zu 25 24,zn 26 25,zg (zm 27 0) 26 false,⟨.l 28,.index (.l 27) (kI 0),some ((.l 26),false)⟩,⟨.l 29,.bin .eql (.l 28) (.c (.int .u8 (45))),some ((.l 26),false)⟩,zg (zn 30 29) 26 false,zg (zm 31 2) 30 true,zg (zm 32 3) 30 true,⟨.l 33,.slice .str 1 (.l 31) none (some (.l 32)) none,some ((.l 30),true)⟩,⟨.l 34,.bin .eql (.l 33) (.c (.str [48])),some ((.l 30),true)⟩,zg (zp 35 30 34) 26 false,zP 36 26 35] (.cond (.l 36) (zR [zi 1 1] (.ret)) (.skip))) (.seq (zR [zm 37 3,zm 38 2,zL 39 38,zb 40 .lss 37 39,zn 41 40,zg (zm 42 2) 41 true,zg (zm 43 3) 41 true,zg (zc 44 .add 43 1) 41 true,⟨.l 45,.slice .str 1 (.l 42) (some (.l 44)) none none,some ((.l 41),true)⟩,zg (z1 46 169 45) 41 true,zg (zu 47 46) 41 true,zg (zn 48 47) 41 true,zg (zm 49 2) 48 false,zg (zm 50 3) 48 false,zg (zc 51 .add 50 1) 48 false,⟨.l 52,.slice .str 1 (.l 49) (some (.l 51)) none none,some ((.l 48),false)⟩,⟨.l 53,.bin .eql (.l 52) (.c (.str [48])),some ((.l 48),false)⟩,zg (zP 54 48 53) 41 true,zg (zn 55 54) 41 true,zg (zm 56 2) 55 false,zg (zm 57 3) 55 false,zg (zc 58 .add 57 1) 55 false,⟨.l 59,.slice .str 1 (.l 56) (some (.l 58)) none none,some ((.l 55),false)⟩,⟨.l 60,.bin .eql (.l 59) (.c (.str [49])),some ((.l 55),false)⟩,zg (zP 61 55 60) 41 true,zp 62 41 61] (.cond (.l 62) (zR [zi 1 1] (.ret)) (.skip))) (.seq (zR [zm 63 3,zc 64 .gtr 63 600,zn 65 64,zg (zm 66 2) 65 false,zg (zL 67 66) 65 false,zg (zm 68 3) 65 false,zg (zb 69 .sub 67 68) 65 false,zg (zc 70 .sub 69 1) 65 false,zg (zc 71 .gtr 70 600) 65 false,zP 72 65 71] (.cond (.l 72) (zR [zi 1 4] (.ret)) (.skip))) (.seq (zR [zm 73 3,zm 74 2,zL 75 74,zb 76 .lss 73 75] (.cond (.l 76) (zR [zm 78 2,z1 79 170 78,zn 77 79,ze 80 0 77,ze 81 1 77,⟨.p 4,.alloc 200 [.bool false,.ab],none⟩,⟨.p 5,.alloc 200 [.bool false,.ab],none⟩,zs 2 4 80,zs 2 5 81] (zR [zf 82 1 4,zd 83 1 82,zf 84 1 5,zd 85 1 84,z2 86 171 83 85,zw 6 86] (zR [zm 87 6,zl 88 87,zc 89 .neq 88 1,zn 90 89,zg (zm 91 6) 90 false,⟨.l 92,.eL none 1 (.l 91) (kI 0),some ((.l 90),false)⟩,zg (zd 93 1 92) 90 false,zg (zc 94 .neq 93 1) 90 false,zP 95 90 94] (.cond (.l 95) (zR [zi 1 1] (.ret)) (.skip))))) (.skip))) (zR [zi 1 0] (.ret)))))))))
theorem YY:FT 104=some ⟨96,[0,2,3,4,5,6,7],[.var (.p 1)],KJ⟩:=by kernel_rfl
def sB:ao:=.seq (zR [zm 4 2,zm 5 0,zL 6 5,zb 7 .lss 4 6] (.cond (.l 7) (.skip) (.exit 0))) (.seq (.block 1 (zR [zm 10 0,zm 11 2,⟨.l 12,.index (.l 10) (.l 11),none⟩,⟨.l 13,.bin .eql (.l 12) (.c (.int .u8 (47))),none⟩] (.cond (.l 13) (zR [zm 14 2,zw 1 14] (.ret)) (.skip)))) (.region [zm 8 2,zc 9 .add 8 1,zw 2 9]))
def KK:ao:=zR [zi 1 0] (.seq (zR [zi 2 0] (.block 0 (.loop sB))) (zR [zm 15 0,zL 16 15,zw 1 16] (.ret)))
theorem YZ:FT 152=some ⟨17,[0,2,3],[.var (.p 1)],KK⟩:=by kernel_rfl
def sC:ao:=zR [⟨.p 1,.mv (.c (.bool false)),none⟩] (.seq (zR [zm 3 0,zL 4 3,zc 5 .eql 4 0,zn 6 5,zg (zm 7 0) 6 false,zg (zL 8 7) 6 false,zg (zc 9 .gtr 8 1) 6 false,zg (zn 10 9) 6 false,zg (zm 11 0) 10 true,⟨.l 12,.index (.l 11) (kI 0),some ((.l 10),true)⟩,⟨.l 13,.bin .eql (.l 12) (.c (.int .u8 (48))),some ((.l 10),true)⟩,zg (zp 14 10 13) 6 false,zP 15 6 14] (.cond (.l 15) (zR [⟨.p 1,.mv (.c (.bool false)),none⟩] (.ret)) (.skip))) (zR [zm 16 0,z1 17 223 16,zw 1 17] (.ret)))
theorem Za:FT 169=some ⟨18,[0,2],[.var (.p 1)],sC⟩:=by kernel_rfl
def sD:ao:=.seq (zR [zm 4 2,zm 5 0,zL 6 5,zb 7 .lss 4 6] (.cond (.l 7) (.skip) (.exit 0))) (.seq (.block 1 (zR [zm 10 0,zm 11 2,⟨.l 12,.index (.l 10) (.l 11),none⟩,⟨.l 13,.bin .lss (.l 12) (.c (.int .u8 (48))),none⟩,zn 14 13,zg (zm 15 0) 14 false,zg (zm 16 2) 14 false,⟨.l 17,.index (.l 15) (.l 16),some ((.l 14),false)⟩,⟨.l 18,.bin .gtr (.l 17) (.c (.int .u8 (57))),some ((.l 14),false)⟩,zP 19 14 18] (.cond (.l 19) (zR [⟨.p 1,.mv (.c (.bool false)),none⟩] (.ret)) (.skip)))) (.region [zm 8 2,zc 9 .add 8 1,zw 2 9]))
def KL:ao:=zR [⟨.p 1,.mv (.c (.bool false)),none⟩] (.seq (zR [zi 2 0] (.block 0 (.loop sD))) (zR [⟨.p 1,.mv (.c (.bool true)),none⟩] (.ret)))
theorem Zb:FT 223=some ⟨20,[0,2,3],[.var (.p 1)],KL⟩:=by kernel_rfl
def Du:ao:=zR [⟨.p 1,.alloc 200 [.bool false,.ab],none⟩,⟨.p 2,.alloc 200 [.bool false,.ab],none⟩] (zR [zm 6 0,zw 3 6] (zR [zm 7 3,z1 8 152 7,zw 4 8] (.seq (zR [zm 9 4,zm 10 3,zL 11 10,zb 12 .eql 9 11] (.cond (.l 12) (zR [zm 13 3,z1 14 178 13,⟨.l 15,.call (kF 130) [(kI 1)],none⟩,zs 2 1 14,zs 2 2 15] (.ret)) (.skip))) (.seq (.draw [(zm 16 3,[]),(zm 17 4,[0]),(⟨.l 18,.slice .str 1 (.l 16) none (some (.l 17)) none,none⟩,[]),(z1 19 178 18,[]),(zm 20 3,[0,1,2,3]),(zm 21 4,[0,1,2,3,4]),(zc 22 .add 21 1,[0,1,2,3,4]),(⟨.l 23,.slice .str 1 (.l 20) (some (.l 22)) none none,none⟩,[0,1,2,3]),(z1 24 178 23,[]),(zs 2 1 19,[]),(zs 2 2 24,[])]) (.ret)))))
theorem KM:FT 170=some ⟨25,[0,2,3,4,5],[.cell 2 true (.p 1),.cell 2 true (.p 2)],Du⟩:=by kernel_rfl
def sE:ao:=.seq (zR [zm 16 0,zL 17 16,zc 18 .gtr 17 9] (.cond (.l 18) (.skip) (.exit 0))) (.block 1 (zR [zm 19 3,zm 20 0,zm 21 0,zL 22 21,zc 23 .sub 22 9,⟨.l 24,.slice .str 1 (.l 20) (some (.l 23)) none none,none⟩,z1 25 232 24,⟨.l 26,.dX 3 1 1 [.iV (0)] [(0,1,(.l 25))],none⟩,⟨.l 27,.append 3 1 8 (.l 19) (.l 26),none⟩,zw 3 27] (.region [zm 28 0,zm 29 0,zL 30 29,zc 31 .sub 30 9,⟨.l 32,.slice .str 1 (.l 28) none (some (.l 31)) none,none⟩,zw 0 32])))
def KN:ao:=zR [⟨.p 1,.alloc 200 [.bool false,.ab],none⟩] (zR [zm 5 0,zL 6 5,zc 7 .gtr 6 0,zn 8 7,zg (zm 9 0) 8 true,⟨.l 10,.index (.l 9) (kI 0),some ((.l 8),true)⟩,⟨.l 11,.bin .eql (.l 10) (.c (.int .u8 (45))),some ((.l 8),true)⟩,zp 12 8 11,zw 2 12] (.seq (zR [zm 13 2] (.cond (.l 13) (.region [zm 14 0,⟨.l 15,.slice .str 1 (.l 14) (some (kI 1)) none none,none⟩,zw 0 15]) (.skip))) (zR [⟨.p 3,.mv (.c (.ab)),none⟩] (.seq (.block 0 (.loop sE)) (zR [zm 33 2,zm 34 3,zm 35 0,z1 36 232 35,⟨.l 37,.dX 3 1 1 [.iV (0)] [(0,1,(.l 36))],none⟩,⟨.l 38,.append 3 1 8 (.l 34) (.l 37),none⟩,z2 39 183 33 38,zs 2 1 39] (.ret))))))
theorem Zc:FT 178=some ⟨40,[0,2,3,4],[.cell 2 true (.p 1)],KN⟩:=by kernel_rfl
def xq:ao:=.seq (zR [zm 5 3,zm 6 0,zL 7 6,zb 8 .lss 5 7] (.cond (.l 8) (.skip) (.exit 0))) (.seq (.block 1 (.region [zm 11 2,⟨.l 12,.bin .mul (kI 10) (.l 11),none⟩,zm 13 0,zm 14 3,⟨.l 15,.index (.l 13) (.l 14),none⟩,⟨.l 16,.gW .i64 (.l 15),none⟩,zb 17 .add 12 16,zc 18 .sub 17 48,zw 2 18])) (.region [zm 9 3,zc 10 .add 9 1,zw 3 10]))
def KO:ao:=zR [zi 1 0] (zR [zi 2 0] (.seq (zR [zi 3 0] (.block 0 (.loop xq))) (zR [zm 19 2,zw 1 19] (.ret))))
theorem Zd:FT 232=some ⟨20,[0,2,3,4],[.var (.p 1)],KO⟩:=by kernel_rfl
def ql:ao:=.seq (zR [zm 8 0,zc 9 .neq 8 0] (.cond (.l 9) (.skip) (.exit 0))) (.block 1 (zR [zm 10 0,zc 11 .rem 10 1000000000,zw 4 11] (.seq (zR [zm 12 4,zc 13 .lss 12 0] (.cond (.l 13) (.region [zm 14 4,⟨.l 15,.bin .sub (kI 0) (.l 14),none⟩,zw 4 15]) (.skip))) (zR [zm 16 2,zm 17 4,⟨.l 18,.dX 3 1 1 [.iV (0)] [(0,1,(.l 17))],none⟩,⟨.l 19,.append 3 1 8 (.l 16) (.l 18),none⟩,zw 2 19] (.region [zm 20 0,zc 21 .quo 20 1000000000,zw 0 21])))))
def Dv:ao:=zR [⟨.p 1,.alloc 200 [.bool false,.ab],none⟩] (zR [⟨.p 2,.mv (.c (.ab)),none⟩] (zR [zm 6 0,zc 7 .lss 6 0,zw 3 7] (.seq (.block 0 (.loop ql)) (zR [zm 22 3,zm 23 2,z2 24 183 22 23,zs 2 1 24] (.ret)))))
theorem Ze:FT 130=some ⟨25,[0,2,3,4,5],[.cell 2 true (.p 1)],Dv⟩:=by kernel_rfl
def sG:ao:=zR [⟨.p 2,.alloc 200 [.bool false,.ab],none⟩] (zR [zm 5 1,z1 6 236 5,zw 1 6] (zR [zm 7 0,zn 8 7,zg (zm 9 1) 8 true,zg (zl 10 9) 8 true,zg (zc 11 .gtr 10 0) 8 true,zp 12 8 11,zm 13 1,⟨.l 14,.build [.bool false,.ab] [(0,1,(.l 12)),(1,1,(.l 13))],none⟩,zs 2 2 14] (.ret)))
theorem xr:FT 183=some ⟨15,[0,1,4],[.cell 2 true (.p 2)],sG⟩:=by kernel_rfl
def jz:ao:=.seq (zR [zm 3 0,zl 4 3,zc 5 .gtr 4 0,zn 6 5,zg (zm 7 0) 6 true,zg (zm 8 0) 6 true,zg (zl 9 8) 6 true,zg (zc 10 .sub 9 1) 6 true,zg (za 11 1 7 10) 6 true,zg (zd 12 1 11) 6 true,zg (zc 13 .eql 12 0) 6 true,zp 14 6 13] (.cond (.l 14) (.skip) (.exit 0))) (.block 1 (.region [zm 15 0,zm 16 0,zl 17 16,zc 18 .sub 17 1,⟨.l 19,.slice .sl 1 (.l 15) none (some (.l 18)) none,none⟩,zw 0 19]))
def sH:ao:=zR [⟨.p 1,.mv (.c (.ab)),none⟩] (.seq (.block 0 (.loop jz)) (zR [zm 20 0,zw 1 20] (.ret)))
theorem xu:FT 236=some ⟨21,[0,2],[.var (.p 1)],sH⟩:=by kernel_rfl
def sI:ao:=.seq (zR [zm 7 1,zl 8 7,zc 9 .gtr 8 0] (.cond (.l 9) (.skip) (.exit 0))) (.block 1 (zR [zm 11 0,zm 12 1,z2 13 224 11 12,zn 10 13,ze 14 0 10,ze 15 1 10,zn 5 14,zw 3 15] (.region [zm 16 1,zm 17 3,zw 0 16,zw 1 17])))
def Dw:ao:=zR [⟨.p 2,.mv (.c (.ab)),none⟩] (.seq (.block 0 (.loop sI)) (zR [zm 18 0,zw 2 18] (.ret)))
theorem KP:FT 171=some ⟨19,[0,1,4,6],[.var (.p 2)],Dw⟩:=by kernel_rfl
def xw:ao:=.seq (zR [zm 63 9,zl 64 63,zm 65 0,zl 66 65,zc 67 .add 66 1,zb 68 .lss 64 67] (.cond (.l 68) (.skip) (.exit 0))) (.block 1 (.region [zm 69 9,⟨.l 70,.dX 3 1 1 [.iV (0)] [(0,1,(kI 0))],none⟩,⟨.l 71,.append 3 1 8 (.l 69) (.l 70),none⟩,zw 9 71]))
def xy:ao:=.seq (zR [zm 90 14,zm 91 8,zb 92 .lss 90 91] (.cond (.l 92) (.skip) (.exit 4))) (.seq (.block 5 (zR [zm 95 12,zm 96 7,zm 97 14,za 98 1 96 97,zd 99 1 98,zb 100 .mul 95 99,zm 101 13,zb 102 .add 100 101,zw 15 102] (zR [zm 103 9,zm 104 14,zm 105 11,zb 106 .add 104 105,za 107 1 103 106,zd 108 1 107,zm 109 15,zc 110 .rem 109 1000000000,zb 111 .sub 108 110,zw 16 111] (zR [zm 112 15,zc 113 .quo 112 1000000000,zw 13 113] (.seq (zR [zm 114 16,zc 115 .lss 114 0] (.cond (.l 115) (zR [zm 116 16,zc 117 .add 116 1000000000,zw 16 117] (.region [zm 118 13,zc 119 .add 118 1,zw 13 119])) (.skip))) (.region [zm 120 9,zm 121 14,zm 122 11,zb 123 .add 121 122,zm 124 16,za 125 1 120 123,zS 1 125 124])))))) (.region [zm 93 14,zc 94 .add 93 1,zw 14 94]))
def xz:ao:=.seq (zR [zm 148 18,zm 149 8,zb 150 .lss 148 149] (.cond (.l 150) (.skip) (.exit 6))) (.seq (.block 7 (.seq (.draw [(zm 153 9,[]),(zm 154 18,[0]),(zm 155 11,[0,1]),(zb 156 .add 154 155,[0]),(za 157 1 153 156,[]),(zd 158 1 157,[]),(zm 159 7,[0,1,2,3,4,5]),(zm 160 18,[0,1,2,3,4,5,6]),(za 161 1 159 160,[0,1,2,3,4,5]),(zd 162 1 161,[0,1,2,3,4,5]),(zb 163 .add 158 162,[]),(zm 164 17,[0,1,2,3,4,5,6,7,8,9,10]),(zb 165 .add 163 164,[]),(zw 19 165,[])]) (zR [zm 166 9,zm 167 18,zm 168 11,zb 169 .add 167 168,zm 170 19,zc 171 .rem 170 1000000000,za 172 1 166 169,zS 1 172 171] (.region [zm 173 19,zc 174 .quo 173 1000000000,zw 17 174])))) (.region [zm 151 18,zc 152 .add 151 1,zw 18 152]))
def xB:ao:=.seq (zR [zm 82 11,zc 83 .geq 82 0] (.cond (.l 83) (.skip) (.exit 2))) (.seq (.block 3 (zR [zm 86 9,zm 87 7,zm 88 11,⟨.l 89,.call (kF 295) [(.l 86),(.l 87),(.l 88)],none⟩,zw 12 89] (zR [zi 13 0] (.seq (zR [zi 14 0] (.block 4 (.loop xy))) (zR [zm 126 9,zm 127 11,zm 128 8,zb 129 .add 127 128,zm 130 9,zm 131 11,zm 132 8,zb 133 .add 131 132,za 134 1 130 133,zd 135 1 134,zm 136 13,zb 137 .sub 135 136,za 138 1 126 129,zS 1 138 137] (.seq (zR [zm 139 9,zm 140 11,zm 141 8,zb 142 .add 140 141,za 143 1 139 142,zd 144 1 143,zc 145 .lss 144 0] (.cond (.l 145) (zR [zm 146 12,zc 147 .sub 146 1,zw 12 147] (zR [zi 17 0] (.seq (zR [zi 18 0] (.block 6 (.loop xz))) (.region [zm 175 9,zm 176 11,zm 177 8,zb 178 .add 176 177,zm 179 9,zm 180 11,zm 181 8,zb 182 .add 180 181,za 183 1 179 182,zd 184 1 183,zm 185 17,zb 186 .add 184 185,za 187 1 175 178,zS 1 187 186])))) (.skip))) (.region [zm 188 10,zm 189 11,zm 190 12,za 191 1 188 189,zS 1 191 190]))))))) (.region [zm 84 11,zc 85 .sub 84 1,zw 11 85]))
def Dx:ao:=zR [⟨.p 2,.mv (.c (.ab)),none⟩,⟨.p 3,.mv (.c (.ab)),none⟩] (.seq (zR [zm 24 0,zm 25 1,z2 26 255 24 25,zc 27 .lss 26 0] (.cond (.l 27) (zR [zm 28 0,⟨.p 2,.mv (.c (.ab)),none⟩,zw 3 28] (.ret)) (.skip))) (.seq (zR [zm 29 1,zl 30 29,zc 31 .eql 30 1] (.cond (.l 31) (zR [zm 33 0,zm 34 1,⟨.l 35,.eL none 1 (.l 34) (kI 0),none⟩,zd 36 1 35,z2 37 294 33 36,zn 32 37,ze 38 0 32,ze 39 1 32,zw 4 38,zw 5 39] (zR [zm 40 4,zm 41 5,⟨.l 42,.dX 3 1 1 [.iV (0)] [(0,1,(.l 41))],none⟩,z1 43 236 42,zw 2 40,zw 3 43] (.ret))) (.skip))) (zR [zm 44 1,zm 45 1,zl 46 45,zc 47 .sub 46 1,za 48 1 44 47,zd 49 1 48,zc 50 .add 49 1,⟨.l 51,.bin .quo (kI 1000000000) (.l 50),none⟩,⟨.l 52,.dX 3 1 1 [.iV (0)] [(0,1,(.l 51))],none⟩,zw 6 52] (zR [zm 53 1,zm 54 6,z2 55 257 53 54,zw 7 55] (zR [zm 56 7,zl 57 56,zw 8 57] (zR [⟨.l 58,.dX 3 0 1 [.iV (0)] [],none⟩,zm 59 0,zm 60 6,z2 61 257 59 60,⟨.l 62,.append 3 1 8 (.l 58) (.l 61),none⟩,zw 9 62] (.seq (.block 0 (.loop xw)) (zR [zm 72 9,zl 73 72,zm 74 8,zb 75 .sub 73 74,⟨.l 76,.gM 3 1 8 [.iV (0)] (.l 75) (.l 75),none⟩,zw 10 76] (.seq (zR [zm 77 9,zl 78 77,zm 79 8,zb 80 .sub 78 79,zc 81 .sub 80 1,zw 11 81] (.block 2 (.loop xB))) (.seq (.draw [(zm 193 9,[]),(zm 194 8,[0]),(⟨.l 195,.slice .sl 1 (.l 193) none (some (.l 194)) none,none⟩,[]),(z1 196 236 195,[]),(zm 197 6,[0,1,2,3]),(⟨.l 198,.eL none 1 (.l 197) (kI 0),none⟩,[0,1,2,3]),(zd 199 1 198,[0,1,2,3]),(z2 200 294 196 199,[]),(zn 192 200,[]),(ze 201 0 192,[]),(ze 202 1 192,[9]),(zw 20 201,[10]),(zn 23 202,[])]) (zR [zm 203 10,z1 204 236 203,zm 205 20,zw 2 204,zw 3 205] (.ret))))))))))))
theorem KQ:FT 224=some ⟨206,[0,1,4,5,6,7,8,9,10,11,12,13,14,15,16,17,18,19,20,21,22],[.var (.p 2),.var (.p 3)],Dx⟩:=by kernel_rfl
def qm:ao:=.seq (zR [zm 19 3,zc 20 .geq 19 0] (.cond (.l 20) (.skip) (.exit 0))) (.seq (.block 1 (.seq (.seq (.draw [(zm 23 0,[]),(zm 24 3,[0]),(za 25 1 23 24,[]),(zd 26 1 25,[]),(zm 27 1,[0,1,2,3]),(zm 28 3,[0,1,2,3,4]),(za 29 1 27 28,[0,1,2,3]),(zd 30 1 29,[0,1,2,3]),(zb 31 .lss 26 30,[])]) (.cond (.l 31) (zR [zi 2 (-1)] (.ret)) (.skip))) (.seq (.draw [(zm 32 0,[]),(zm 33 3,[0]),(za 34 1 32 33,[]),(zd 35 1 34,[]),(zm 36 1,[0,1,2,3]),(zm 37 3,[0,1,2,3,4]),(za 38 1 36 37,[0,1,2,3]),(zd 39 1 38,[0,1,2,3]),(zb 40 .gtr 35 39,[])]) (.cond (.l 40) (zR [zi 2 1] (.ret)) (.skip))))) (.region [zm 21 3,zc 22 .sub 21 1,zw 3 22]))
def Dy:ao:=zR [zi 2 0] (.seq (zR [zm 6 0,zl 7 6,zm 8 1,zl 9 8,zb 10 .neq 7 9] (.cond (.l 10) (.seq (zR [zm 11 0,zl 12 11,zm 13 1,zl 14 13,zb 15 .lss 12 14] (.cond (.l 15) (zR [zi 2 (-1)] (.ret)) (.skip))) (zR [zi 2 1] (.ret))) (.skip))) (.seq (zR [zm 16 0,zl 17 16,zc 18 .sub 17 1,zw 3 18] (.block 0 (.loop qm))) (zR [zi 2 0] (.ret))))
theorem Zf:FT 255=some ⟨41,[0,1,4,5],[.var (.p 2)],Dy⟩:=by kernel_rfl
def xC:ao:=.seq (zR [zm 22 6,zm 23 1,zl 24 23,zb 25 .lss 22 24] (.cond (.l 25) (.skip) (.exit 2))) (.seq (.block 3 (.seq (.draw [(zm 28 3,[]),(zm 29 4,[0]),(zm 30 6,[0,1]),(zb 31 .add 29 30,[0]),(za 32 1 28 31,[]),(zd 33 1 32,[]),(zm 34 0,[0,1,2,3,4,5]),(zm 35 4,[0,1,2,3,4,5,6]),(za 36 1 34 35,[0,1,2,3,4,5]),(zd 37 1 36,[0,1,2,3,4,5]),(zm 38 1,[0,1,2,3,4,5,6,7,8,9]),(zm 39 6,[0,1,2,3,4,5,6,7,8,9,10]),(za 40 1 38 39,[0,1,2,3,4,5,6,7,8,9]),(zd 41 1 40,[0,1,2,3,4,5,6,7,8,9]),(zb 42 .mul 37 41,[0,1,2,3,4,5]),(zb 43 .add 33 42,[]),(zm 44 5,[0,1,2,3,4,5,6,7,8,9,10,11,12,13,14,15]),(zb 45 .add 43 44,[]),(zw 7 45,[])]) (zR [zm 46 3,zm 47 4,zm 48 6,zb 49 .add 47 48,zm 50 7,zc 51 .rem 50 1000000000,za 52 1 46 49,zS 1 52 51] (.region [zm 53 7,zc 54 .quo 53 1000000000,zw 5 54])))) (.region [zm 26 6,zc 27 .add 26 1,zw 6 27]))
def xD:ao:=.seq (zR [zm 16 4,zm 17 0,zl 18 17,zb 19 .lss 16 18] (.cond (.l 19) (.skip) (.exit 0))) (.seq (.block 1 (zR [zi 5 0] (.seq (zR [zi 6 0] (.block 2 (.loop xC))) (.region [zm 55 3,zm 56 4,zm 57 1,zl 58 57,zb 59 .add 56 58,zm 60 3,zm 61 4,zm 62 1,zl 63 62,zb 64 .add 61 63,za 65 1 60 64,zd 66 1 65,zm 67 5,zb 68 .add 66 67,za 69 1 55 59,zS 1 69 68])))) (.region [zm 20 4,zc 21 .add 20 1,zw 4 21]))
def Dz:ao:=zR [⟨.p 2,.mv (.c (.ab)),none⟩] (zR [zm 10 0,zl 11 10,zm 12 1,zl 13 12,zb 14 .add 11 13,⟨.l 15,.gM 3 1 8 [.iV (0)] (.l 14) (.l 14),none⟩,zw 3 15] (.seq (zR [zi 4 0] (.block 0 (.loop xD))) (zR [zm 70 3,z1 71 236 70,zw 2 71] (.ret))))
theorem KR:FT 257=some ⟨72,[0,1,4,5,6,7,8,9],[.var (.p 2)],Dz⟩:=by kernel_rfl
def xE:ao:=.seq (zR [zm 16 6,zc 17 .geq 16 0] (.cond (.l 17) (.skip) (.exit 0))) (.seq (.block 1 (zR [zm 20 5,zc 21 .mul 20 1000000000,zm 22 0,zm 23 6,za 24 1 22 23,zd 25 1 24,zb 26 .add 21 25,zw 7 26] (zR [zm 27 4,zm 28 6,zm 29 7,zm 30 1,zb 31 .quo 29 30,za 32 1 27 28,zS 1 32 31] (.region [zm 33 7,zm 34 1,zb 35 .rem 33 34,zw 5 35])))) (.region [zm 18 6,zc 19 .sub 18 1,zw 6 19]))
def KS:ao:=zR [⟨.p 2,.mv (.c (.ab)),none⟩,zi 3 0] (zR [zm 10 0,zl 11 10,⟨.l 12,.gM 3 1 8 [.iV (0)] (.l 11) (.l 11),none⟩,zw 4 12] (zR [zi 5 0] (.seq (zR [zm 13 0,zl 14 13,zc 15 .sub 14 1,zw 6 15] (.block 0 (.loop xE))) (zR [zm 36 4,z1 37 236 36,zm 38 5,zw 2 37,zw 3 38] (.ret)))))
theorem Zg:FT 294=some ⟨39,[0,1,4,5,6,7,8,9],[.var (.p 2),.var (.p 3)],KS⟩:=by kernel_rfl
def sJ:ao:=.seq (.seq (.draw [(zm 42 6,[]),(zc 43 .geq 42 1000000000,[]),(zn 44 43,[]),(zg (zm 45 6) 44 false,[]),(zg (zm 46 1) 44 false,[3]),(zg (zm 47 4) 44 false,[3,4]),(zg (zc 48 .sub 47 2) 44 false,[3,4]),(zg (za 49 1 46 48) 44 false,[3]),(zg (zd 50 1 49) 44 false,[3]),(zg (zb 51 .mul 45 50) 44 false,[]),(zg (zm 52 7) 44 false,[3,4,5,6,7,8,9]),(zg (zc 53 .mul 52 1000000000) 44 false,[3,4,5,6,7,8,9]),(zg (zm 54 0) 44 false,[3,4,5,6,7,8,9,10,11]),(zg (zm 55 2) 44 false,[3,4,5,6,7,8,9,10,11,12]),(zg (zm 56 4) 44 false,[3,4,5,6,7,8,9,10,11,12,13]),(zg (zb 57 .add 55 56) 44 false,[3,4,5,6,7,8,9,10,11,12]),(zg (zc 58 .sub 57 2) 44 false,[3,4,5,6,7,8,9,10,11,12]),(zg (za 59 1 54 58) 44 false,[3,4,5,6,7,8,9,10,11]),(zg (zd 60 1 59) 44 false,[3,4,5,6,7,8,9,10,11]),(zg (zb 61 .add 53 60) 44 false,[3,4,5,6,7,8,9]),(zg (zb 62 .gtr 51 61) 44 false,[]),(zP 63 44 62,[])]) (.cond (.l 63) (.skip) (.exit 0))) (.block 1 (zR [zm 64 6,zc 65 .sub 64 1,zw 6 65] (zR [zm 66 7,zm 67 1,zm 68 4,zc 69 .sub 68 1,za 70 1 67 69,zd 71 1 70,zb 72 .add 66 71,zw 7 72] (zR [zm 73 7,zc 74 .geq 73 1000000000] (.cond (.l 74) (zR [zm 75 6,zw 3 75] (.ret)) (.skip))))))
def KT:ao:=zR [zi 3 0] (zR [zm 11 1,zl 12 11,zw 4 12] (.seq (.draw [(zm 13 0,[]),(zm 14 2,[0]),(zm 15 4,[0,1]),(zb 16 .add 14 15,[0]),(za 17 1 13 16,[]),(zd 18 1 17,[]),(zc 19 .mul 18 1000000000,[]),(zm 20 0,[0,1,2,3,4,5,6]),(zm 21 2,[0,1,2,3,4,5,6,7]),(zm 22 4,[0,1,2,3,4,5,6,7,8]),(zb 23 .add 21 22,[0,1,2,3,4,5,6,7]),(zc 24 .sub 23 1,[0,1,2,3,4,5,6,7]),(za 25 1 20 24,[0,1,2,3,4,5,6]),(zd 26 1 25,[0,1,2,3,4,5,6]),(zb 27 .add 19 26,[]),(zw 5 27,[])]) (.seq (.draw [(zm 28 5,[]),(zm 29 1,[0]),(zm 30 4,[0,1]),(zc 31 .sub 30 1,[0,1]),(za 32 1 29 31,[0]),(zd 33 1 32,[0]),(zb 34 .quo 28 33,[]),(zm 35 5,[0,1,2,3,4,5,6]),(zm 36 1,[0,1,2,3,4,5,6,7]),(zm 37 4,[0,1,2,3,4,5,6,7,8]),(zc 38 .sub 37 1,[0,1,2,3,4,5,6,7,8]),(za 39 1 36 38,[0,1,2,3,4,5,6,7]),(zd 40 1 39,[0,1,2,3,4,5,6,7]),(zb 41 .rem 35 40,[0,1,2,3,4,5,6]),(zw 6 34,[7,8,9,10,11,12,13]),(zw 7 41,[])]) (.seq (.block 0 (.loop sJ)) (zR [zm 76 6,zw 3 76] (.ret))))))
theorem Zh:FT 295=some ⟨77,[0,1,2,6,7,8,9,10],[.var (.p 3)],KT⟩:=by kernel_rfl
def KU:ao:=zR [zi 2 0] (.seq (zR [zm 5 1,zm 6 0,zl 7 6,zb 8 .lss 5 7] (.cond (.l 8) (zR [zm 9 0,zm 10 1,za 11 1 9 10,zd 12 1 11,zw 2 12] (.ret)) (.skip))) (zR [zi 2 0] (.ret)))
theorem Zi:FT 300=some ⟨13,[0,1,4],[.var (.p 2)],KU⟩:=by kernel_rfl
theorem KV {s:aj}{i:Nat}(h:i<s.length):s.drop i=s[i]! :: s.drop (i+1):=by
 rw[fF h,getElem!_pos s i h]
def jA (s:aj):Bool:=(bH 47 s).2.isSome
def cE (s:aj):Nat:=(bH 47 s).1.length
theorem DA (s:aj):cE s<=s.length:=sA 47 s
theorem Zj (hft:M.FT=FT)(s:aj)(hl:s.length<1000000):bg M 152 [.str s] [] ⟨.iV (cE s),[],[]⟩:=by
 refine bY (by rw[hft];exact YZ) aq ?_;have loop:∀(r i:Nat) (lo:List (Nat×AV)) (wr:List Nat) {Q:Ex->au->Prop} (a1:AV),i+r=s.length->i+cE (s.drop i)=cE s ->
  (cE s<s.length->∀lo wr,Q .ret ⟨⟨[.str s,.iV (cE s),.iV (cE s)],lo,[],[]⟩,wr⟩) ->
  (cE s=s.length->∀lo wr,Q (.exit 0) ⟨⟨[.str s,a1,.iV s.length],lo,[],[]⟩,wr⟩) ->
  W M (.loop sB) ⟨⟨[.str s,a1,.iV i],lo,[],[]⟩,wr⟩ Q:=by
  intro r;induction r with
  | zero=>
   intro i lo wr Q a1 hi he h1 h2;obtain rfl:i=s.length:=by omega
   rw[jR]at he;have e0:cE ([]:aj)=0:=rfl;refine W.loop ?_;unfold sB;repeat' first|apply aaQ|apply aa|apply aaf|apply aad|apply acH|apply bN|apply dP|(apply abx;rfl)|(apply abR;rfl;rfl)|(apply abh;rfl;rfl)|(intro _;omega)|intro _
   all_goals try omega
   all_goals exact h2 ac _ _
  | succ r ih=>
   intro i lo wr Q a1 hi he h1 h2;have hd:=KV (s:=s) (i:=i) ac;refine W.loop ?_;by_cases h47:s[i]! = 47
   . have e1:cE (s.drop i)=0:=by rw[hd,h47];simp[cE,bH]
     have e2:cE s=i:=by omega
     have e47:((s[((i:Int)).toNat]!).toNat:Int)=47:=by rw[show s[((i:Int)).toNat]! = s[i]! from rfl,h47];rfl
     rw[e2]at h1;unfold sB;repeat' first|apply aaQ|apply aa|apply aaf|apply aad|apply abI|apply abw|apply abC|apply aU|apply cQ|apply jJ|(apply abz;rfl)|(apply abR;rfl;rfl)|(apply acR;rfl;rfl)|(apply adT;rfl;rfl;omega)|(apply abh;rfl;rfl)|(apply abl;rfl;rfl)|(intro _;omega)|intro _
     all_goals try omega
     all_goals exact h1 ac _ _
   . have e1:cE (s.drop i)=1+cE (s.drop (i+1)):=by
      rw[hd];simp only[cE,bH,if_neg h47,b8];omega
     have e47:((s[((i:Int)).toNat]!).toNat:Int)≠47:=fun e=>h47 (d7.1 (by
                                                                                                  rw[show s[((i:Int)).toNat]! = s[i]! from rfl]at e;have:(47:UInt8).toNat=47:=rfl;omega))
     unfold sB;repeat' first|apply aaQ|apply aa|apply aaf|apply aad|apply abI|apply abC|apply bE|(apply abz;rfl)|(apply abx;rfl)|(apply abR;rfl;rfl)|(apply acR;rfl;rfl)|(apply acS;rfl;rfl;omega)|(apply adT;rfl;rfl;omega)|(apply abh;rfl;rfl)|(apply abl;rfl;rfl)|(intro _;omega)|intro _
     all_goals try omega
     all_goals exact gk (ih (i+1) _ _ _ ac ac h1 h2)
 unfold KK;simp only[enter];repeat' first|apply aaQ|apply aa|apply aaf|apply aad|apply abI|(apply abl;rfl;rfl)
 refine loop s.length 0 _ _ _ ac aq (fun h lo wr=>?_) (fun h lo wr=>?_)
 . repeat' first|apply aU|apply cQ
   all_goals exact⟨.inr rfl,rfl,_,rfl,rfl,rfl⟩
 . rw[h];repeat' first|apply aaQ|apply aa|apply aaf|apply aad|apply abw|apply bJ|(apply abh;rfl;rfl)|(apply abl;rfl;rfl)
   all_goals exact⟨.inr rfl,rfl,_,rfl,rfl,rfl⟩
theorem Zk (hft:M.FT=FT)(s:aj)(hl:s.length<1000000):bg M 223 [.str s] [] ⟨.bool (s.all bI),[],[]⟩:=by
 refine bY (by rw[hft];exact Zb) aq ?_;have loop:∀(r i:Nat) (lo:List (Nat×AV)) (wr:List Nat) {Q:Ex->au->Prop} (a1:AV),i+r=s.length->s.all bI=(s.drop i).all bI ->
  (s.all bI=false->∀lo wr a2,Q .ret ⟨⟨[.str s,.bool false,a2],lo,[],[]⟩,wr⟩) ->
  (s.all bI=true->∀lo wr a2,Q (.exit 0) ⟨⟨[.str s,a1,a2],lo,[],[]⟩,wr⟩) ->
  W M (.loop sD) ⟨⟨[.str s,a1,.iV i],lo,[],[]⟩,wr⟩ Q:=by
  intro r;induction r with
  | zero=>
   intro i lo wr Q a1 hi he h1 h2;obtain rfl:i=s.length:=by omega
   rw[jR]at he;refine W.loop ?_;unfold sD;repeat' first|apply aaQ|apply aa|apply aaf|apply aad|apply acH|apply bN|apply dP|(apply abx;rfl)|(apply abR;rfl;rfl)|(apply abh;rfl;rfl)|(intro _;omega)|intro _
   all_goals try omega
   all_goals exact h2 he _ _ _
  | succ r ih=>
   intro i lo wr Q a1 hi he h1 h2;have hd:=KV (s:=s) (i:=i) ac;rw[hd,d8]at he;have ei:s[((i:Int)).toNat]! = s[i]! := rfl;refine W.loop ?_;cases hb:bI s[i]! with
   | false=>
    rw[hb,c8]at he;have hne:¬(48<=(s[i]!).toNat/\(s[i]!).toNat<58):=fun h=>by rw[(kr _).2 h]at hb;cases hb
    rw[←ei]at hne;unfold sD;repeat' first|apply aaQ|apply aa|apply aaf|apply aad|apply abI|apply abw|apply abC|apply aU|apply cQ|apply jJ|(apply abz;rfl)|(apply adb;rfl)|(apply adU;rfl)|(apply abR;rfl;rfl)|(apply abV;rfl;rfl)|(apply aco;rfl;rfl)|(apply acw;rfl;rfl)|(apply adT;rfl;rfl;omega)|(apply abh;rfl;rfl)|(apply abl;rfl;rfl)|(intro _;omega)|intro _
    all_goals try omega
    all_goals exact h1 he _ _ _
   | true=>
    rw[hb,cK]at he;have hne:=(kr _).1 hb;rw[←ei]at hne;unfold sD;repeat' first|apply aaQ|apply aa|apply aaf|apply aad|apply abI|apply abC|apply bE|(apply abz;rfl)|(apply abx;rfl)|(apply adb;rfl)|(apply abR;rfl;rfl)|(apply abV;rfl;rfl)|(apply acw;rfl;rfl)|(apply acS;rfl;rfl;omega)|(apply adT;rfl;rfl;omega)|(apply abh;rfl;rfl)|(apply abl;rfl;rfl)|(intro _;omega)|intro _
    all_goals try omega
    all_goals exact gk (ih (i+1) _ _ _ ac he h1 h2)
 unfold KL;simp only[enter];repeat' first|apply aaQ|apply aa|apply aaf|apply aad|apply abI|(apply abl;rfl;rfl)
 refine loop s.length 0 _ _ _ ac aq (fun h lo wr a2=>?_) (fun h lo wr a2=>?_)
 . rw[h];repeat' first|apply aU|apply cQ
   all_goals exact⟨.inr rfl,rfl,_,rfl,rfl,rfl⟩
 . rw[h];repeat' first|apply aaQ|apply aa|apply aaf|apply aad|apply abw|apply bJ|(apply abl;rfl;rfl)
   all_goals exact⟨.inr rfl,rfl,_,rfl,rfl,rfl⟩
theorem Zl (hft:M.FT=FT)(s:aj)(hl:s.length<1000000)(q223:∀h,M.ext 223 [.str s] h=some ⟨.bool (s.all bI),h,[]⟩):bg M 169 [.str s] [] ⟨.bool (dR s),[],[]⟩:=by
 refine bY (by rw[hft];exact Za) aq ?_;by_cases h0:s=[]
 . subst h0;have hl0:([]:aj).length=0:=rfl;rw[show dR []=false from rfl];unfold sC;simp only[enter];repeat' first|apply aaQ|apply aa|apply aaf|apply aad|apply abw|apply aU|(apply abz;rfl)|(apply adU;rfl)|(apply aej;rfl)|(apply acR;rfl;rfl)|(apply aco;rfl;rfl)|(apply abh;rfl;rfl)|(apply abl;rfl;rfl)|(intro _;omega)|intro _
   all_goals try omega
   all_goals exact⟨.inr rfl,rfl,_,rfl,rfl,rfl⟩
 . have hpos:0<s.length:=f6.2 h0;have ei:s[(0:Int).toNat]! = s[0]! := rfl;have hdec:dR s=(s.all bI && (decide (s[0]! ≠ 48) || decide (s=[48]))):=by rw[dR,decide_eq_true h0,cK]
   by_cases h48:s[0]! = 48
   . have e48:((s[(0:Int).toNat]!).toNat:Int)=48:=by rw[ei,h48];rfl
     by_cases hl1:s.length=1
     . have hs:s=[48]:=by
        cases s with
        | nil=>exact absurd rfl h0
        | cons c t=>
         have:t=[]:=dh (by simpa using hl1);subst this;have:c=48:=h48;rw[this]
       rw[hdec,decide_eq_true hs,Bool.or_true,ib];unfold sC;simp only[enter];repeat' first|apply aaQ|apply aa|apply aaf|apply aad|apply abw|apply abC|(apply abx;rfl)|(apply adb;rfl)|(apply adu;rfl)|(apply abV;rfl;rfl)|(apply acR;rfl;rfl)|(apply acw;rfl;rfl)|(apply abJ;rfl;rfl;first|exact q223 _)|(apply abh;rfl;rfl)|(apply abl;rfl;rfl)|(intro _;omega)|intro _
       all_goals try omega
       all_goals exact⟨.inr rfl,rfl,_,rfl,rfl,rfl⟩
     . have hs:¬s=[48]:=fun e=>hl1 (by rw[e];rfl)
       rw[hdec,decide_eq_false hs,decide_eq_false (by simpa using h48),Bool.or_self,pC];unfold sC;simp only[enter];repeat' first|apply aaQ|apply aa|apply aaf|apply aad|apply abw|apply aU|(apply abz;rfl)|(apply acF;rfl)|(apply adb;rfl)|(apply abV;rfl;rfl)|(apply acR;rfl;rfl)|(apply aco;rfl;rfl)|(apply acw;rfl;rfl)|(apply adT;rfl;rfl;omega)|(apply abh;rfl;rfl)|(apply abl;rfl;rfl)|(intro _;omega)|intro _
       all_goals try omega
       all_goals exact⟨.inr rfl,rfl,_,rfl,rfl,rfl⟩
   . have e48:((s[(0:Int).toNat]!).toNat:Int)≠48:=fun e=>h48 (d7.1 (by rw[ei]at e;have:(48:UInt8).toNat=48:=rfl;omega))
     rw[hdec,decide_eq_true (show s[0]! ≠ 48 from h48),ne,ib];unfold sC;simp only[enter];repeat' first|apply aaQ|apply aa|apply aaf|apply aad|apply abw|apply abC|(apply abx;rfl)|(apply acF;rfl)|(apply adb;rfl)|(apply adu;rfl)|(apply abV;rfl;rfl)|(apply acR;rfl;rfl)|(apply aco;rfl;rfl)|(apply acw;rfl;rfl)|(apply abJ;rfl;rfl;first|exact q223 _)|(apply adT;rfl;rfl;omega)|(apply abh;rfl;rfl)|(apply abl;rfl;rfl)|(intro _;omega)|intro _
     all_goals try omega
     all_goals exact⟨.inr rfl,rfl,_,rfl,rfl,rfl⟩
theorem Zm {s:aj}(h:s.all bI=true)(hl:s.length<=18)(i:Nat)(hi:i<=s.length):aL 0 (s.take i)<1000000000000000000:=by
 refine Ko ?_ (by rw[cd];omega);rw[ce]at h ⊢;exact fun x hx=>h x (List.mem_of_mem_take hx)
theorem Zn (hft:M.FT=FT)(s:aj)(hl:s.length<=18)(hd:s.all bI=true):bg M 232 [.str s] [] ⟨.iV (aL 0 s:Nat),[],[]⟩:=by
 refine bY (by rw[hft];exact Zd) aq ?_;have loop:∀(r i:Nat) (lo:List (Nat×AV)) (wr:List Nat) {Q:Ex->au->Prop} (a1:AV),i+r=s.length ->
  (∀lo wr,Q (.exit 0) ⟨⟨[.str s,a1,.iV (aL 0 s:Nat),.iV s.length],lo,[],[]⟩,wr⟩) ->
  W M (.loop xq) ⟨⟨[.str s,a1,.iV (aL 0 (s.take i):Nat),.iV i],lo,[],[]⟩,wr⟩ Q:=by
  intro r;induction r with
  | zero=>
   intro i lo wr Q a1 hi hQ;obtain rfl:i=s.length:=by omega
   rw[List.take_length];refine W.loop ?_;unfold xq;repeat' first|apply aaQ|apply aa|apply aaf|apply aad|apply acH|apply bN|apply dP|(apply abx;rfl)|(apply abR;rfl;rfl)|(apply abh;rfl;rfl)|(intro _;omega)|intro _
   all_goals try omega
   all_goals exact hQ _ _
  | succ r ih=>
   intro i lo wr Q a1 hi hQ;have uM:=Zm hd hl (i+1) ac;have hb:=(kr _).1 ((ce.1 hd) s[i]! (by rw[getElem!_pos s i ac];exact db ac));have e1:aL 0 (s.take (i+1))=10*aL 0 (s.take i)+((s[i]!).toNat-48):=by
    rw[List.take_add_one,aW ac,Option.toList_some,nU,sf,getElem!_pos s i ac]
   have ei:s[((i:Int)).toNat]! = s[i]! := rfl;rw[←ei]at hb e1;have ih':=ih (i+1);generalize aL 0 (s.take (i+1))=m at *
   generalize aL 0 (s.take i)=n at *
   have e2:(m:Int)=10*n+((s[((i:Int)).toNat]!).toNat:Int)-48:=by omega
   rw[e2]at ih';refine W.loop ?_;unfold xq;repeat' first|apply aaQ|apply aa|apply aaf|apply aad|apply abI|apply abC|apply bE|(apply abz;rfl)|(apply abR;rfl;rfl)|(apply aen;rfl;omega)|(apply acS;rfl;rfl;omega)|(apply adj;rfl;rfl;omega)|(apply ael;rfl;rfl;omega)|(apply adT;rfl;rfl;omega)|(apply abh;rfl;rfl)|(apply abl;rfl;rfl)|(intro _;omega)|intro _
   all_goals try omega
   all_goals exact gk (ih' _ _ _ ac hQ)
 unfold KO;simp only[enter];repeat' first|apply aaQ|apply aa|apply aaf|apply aad|apply abI|(apply abl;rfl;rfl)
 refine loop s.length 0 _ _ _ ac (fun lo wr=>?_);repeat' first|apply aaQ|apply aa|apply aaf|apply aad|apply abw|apply bJ|(apply abh;rfl;rfl)|(apply abl;rfl;rfl)
 all_goals exact⟨.inr rfl,rfl,_,rfl,rfl,rfl⟩
variable {c1 c2:Option Nat}
abbrev iC (x:Int):List AV:=[.iV x]
abbrev ak (l:List Int):List AV:=arr iC l
abbrev dB:Int:=1000000000
theorem KW {l:List Int}:(ak l).length=l.length:=by
 have:=pA (f:=iC) (esz:=1) (fun _=>rfl) l;simpa using this
theorem Zo {l:List Int}{m:Nat}(h:m<l.length):(ak l)[m]? = some (.iV l[m]!):=by
 induction l generalizing m with
 | nil=>simp at h
 | cons x l ih=>
  cases m with
  | zero=>rfl
  | succ m=>
   have e:(x::l)[m+1]! = l[m]! := by simp[bj]
   rw[e,←ih (by simpa using h)];rfl
section
variable {t b m:Nat} {x y:aO} {l:List aY} {pe:List AV} {lo:List (Nat×AV)} {hp:ae} {df wr:List Nat} {L:List Int} {e:TypeId} {v:Int} {Q:au->Prop}
theorem aeF (hx:(St.mk pe lo hp df).ah x=some (.ptr b m))(hb:hp.at b=some (.cells (ak L) e))(hi:m<L.length)
 (h:WO M l ⟨⟨pe,(t,.iV L[m]!)::lo,hp,df⟩,wr⟩ Q):WO M (⟨.l t,.load 1 false x,none⟩::l) ⟨⟨pe,lo,hp,df⟩,wr⟩ Q:=by
 refine WO.Hn (c:=ak L) (o:=m) (e:=e) (v:=.iV L[m]!) hx hb ?_ h;have h1:=Zo hi;have h2:m<(ak L).length:=by rw[KW];exact hi
 rw[fF h2];rw[aW h2]at h1;rw[k9.inj h1];rfl
theorem Zp {L:List Int}{m:Nat}{v:Int}(h:m<L.length):overwrite (ak L) m (iC v)=ak (L.set m v):=by
 induction L generalizing m with
 | nil=>simp at h
 | cons x L ih=>
  cases m with
  | zero=>simp[overwrite,arr]
  | succ m=>
   have:=ih (m:=m) (by simpa using h);simp only[List.set_cons_succ];have e1:ak (x::L) = .iV x::ak L:=rfl;have e2:ak (x::L.set m v) = .iV x::ak (L.set m v):=rfl;rw[e1,e2,←this];simp[overwrite]
theorem aex (hx:(St.mk pe lo hp df).ah x=some (.ptr b m))(hy:(St.mk pe lo hp df).ah y=some (.iV v))(hb:hp.at b=some (.cells (ak L) e))(hi:m<L.length)
 (h:WO M l ⟨⟨pe,lo,hp.put b (some (.cells (ak (L.set m v)) e)),df⟩,b::wr⟩ Q):WO M (⟨.no,.store 1 x y,none⟩::l) ⟨⟨pe,lo,hp,df⟩,wr⟩ Q:=
 adM (c:=ak L) (new:=iC v) hx (by rw[hy];rfl) hb ⟨rfl,by rw[KW];omega,rfl⟩ (Zp hi) h
end
def cZ (hp:ae)(b:Nat)(e:TypeId)(P S X:List Int):ae:=hp.put b (some (.cells (ak (P++X++S)) e))
theorem KX {hp:ae}{b:Nat}{e:TypeId}{P S X:List Int}:(cZ hp b e P S X).length=hp.length:=ny
section
variable {t bu bv m:Nat} {x y:aO} {l:List aY} {pe:List AV} {lo:List (Nat×AV)} {hp:ae} {df wr:List Nat} {P S X V Y:List Int} {e e':TypeId} {v:Int} {Q:au->Prop}
theorem aeS {i:Nat}(hx:(St.mk pe lo (cZ hp bu e P S X) df).ah x=some (.ptr bu m))(hl:bu<hp.length)(hi:i<X.length)(hm:m=P.length+i)
 (h:WO M l ⟨⟨pe,(t,.iV X[i]!)::lo,cZ hp bu e P S X,df⟩,wr⟩ Q):WO M (⟨.l t,.load 1 false x,none⟩::l) ⟨⟨pe,lo,cZ hp bu e P S X,df⟩,wr⟩ Q:=by
 subst hm;refine aeF (L:=P++X++S) (e:=e) hx (by unfold cZ;exact cJ hl) (by simp;omega) ?_;rw[Ca hi];exact h
theorem aeT {i:Nat}(hx:(St.mk pe lo (cZ hp bu e P S X) df).ah x=some (.ptr bu m))(hy:(St.mk pe lo (cZ hp bu e P S X) df).ah y=some (.iV v))(hl:bu<hp.length)(hi:i<X.length)(hm:m=P.length+i)
 (h:WO M l ⟨⟨pe,lo,cZ hp bu e P S (X.set i v),df⟩,bu::wr⟩ Q):WO M (⟨.no,.store 1 x y,none⟩::l) ⟨⟨pe,lo,cZ hp bu e P S X,df⟩,wr⟩ Q:=by
 subst hm;refine aex (L:=P++X++S) (e:=e) hx hy (by unfold cZ;exact cJ hl) (by simp;omega) ?_;rw[Iy hi];have:ae.put (cZ hp bu e P S X) bu (some (.cells (ak (P++X.set i v++S)) e))=cZ hp bu e P S (X.set i v):=by unfold cZ;exact Hl
 rw[this];exact h
end
def gJ (v:AV)(hh:ae)(r:List Int):Prop:=∃v1,kl hh v v1/\v1.top=0/\cw v1 = .vs (ak r) r.length none
theorem DD (l:List Int):eA (ak l)=ak l:=As (fun _=>rfl) l
theorem fv (l:List Int):bz (ak l)=0:=jL (fun _=>rfl) l
theorem gJ.trim {b:Nat}{L:List Int}{e:TypeId}{hp:ae}{n:Nat}(hb:hp.at b=some (.cells (ak L) e))(hn:n<=L.length):gJ (bO b (aS (L.take n)) cap) (if (aV [bO b (aS (L.take n)) cap]).top<=0 then [] else hp) (L.take (aS (L.take n))):=by
 have hle:=iJ (l:=L.take n);rw[cd]at hle;obtain⟨k,hk⟩:∃k,k=aS (L.take n):=⟨_,rfl⟩;rw[←hk]at hle ⊢;by_cases h0:0<k
 . have e1:bO b k cap = .sl b 0 k 1 cap:=if_pos h0;rw[e1,if_neg (by simp[aV,AV.top])];have hl:(L.take k).length=k:=by rw[cd];omega
   have hF:Fr hp [b] (.sl b 0 k 1 cap) (.vs (ak (L.take k)) k none):=by
    refine .sl (m:=ak (L.take k)) (mp.2 rfl) hb ?_ rfl (fun i x y hx hy=>?_) (.inr rfl)
    . have:=kO (f:=iC) (esz:=1) (fun _=>rfl) (l:=L) (i:=0) (n:=k) ac;simpa using this
    . rw[hx]at hy;cases hy;exact .same (cR (fv _) hx)
   unfold gJ;rw[hl];refine⟨_,⟨[b],hF,rfl,fun c l' e' hc hl'=>?_⟩,fv _,by rw[cw,DD]⟩;rw[mp.1 hc,hb]at hl';cases hl';exact pz (fun _=>rfl) _
 . obtain rfl:k=0:=by omega
   exact⟨.vs [] 0 cap,.same rfl rfl,rfl,rfl⟩
def xG (M:ax)(g:Nat)(ars:List AV)(z:Int):Prop:=∃r:List Int,(okW dB r/\aR r/\WV dB r=z)/\∃v hh,gJ v hh r/\bg M g ars [] ⟨v,hh,[]⟩
theorem DE {f N:Nat}{aP:List Nat}{res:List fw}{body:ao}{ars:List AV}{z:Int}(hft:M.FT f=some ⟨N,aP,res,body⟩)(hN:ars.length<=N)
 (h:W M body ⟨⟨aP.map (fun t=>(ars[t]?).getD cG),[],[],[]⟩,[]⟩ fun e s=>(e = .normal\/e = .ret)/\s.s.cg=[]/\∃vs,dH s.s res=some vs/\∃r:List Int,(okW dB r/\aR r/\WV dB r=z)/\gJ (aV vs) (if (aV vs).top<=0 then [] else s.s.hp) r):xG M f ars z:=by
 obtain⟨v,hh,⟨r,hr,ho⟩,h2⟩:=gS (P:=fun v hh=>∃r:List Int,(okW dB r/\aR r/\WV dB r=z)/\gJ v hh r) hft hN h;exact⟨r,hr,v,hh,ho,h2⟩
theorem od {L:List Int}(ok:okW dB L):okW dB (L.take (aS L))/\aR (L.take (aS L))/\WV dB (L.take (aS L))=WV dB L:=⟨dL ok _,BT,ve⟩
def cH (x:AV)(l:List Int):Prop:=x = .vs (ak l) l.length none\/(x = .ab/\l=[])
def jB (v:AV)(hh:ae)(q r:List Int):Prop:=∃v1 x y,eC hh v v1/\v1.top=0/\bD v1 = .ay [x,y]/\cH x q/\cH y r
theorem oe (l:List Int):cC (ak l)=ak l:=uK (fun _=>rfl) l
theorem DG {b:Nat}{L:List Int}{e:TypeId}{hp:ae}{n:Nat}(hb:hp.at b=some (.cells (ak L) e))(hn:n<=L.length)(hh:ae)(he:(bO b (aS (L.take n)) cap).top≠0->hh=hp) :
 ∃v1,eC hh (bO b (aS (L.take n)) cap) v1/\v1.top=0/\bD v1 = .vs (ak (L.take (aS (L.take n)))) (L.take (aS (L.take n))).length none:=by
 have hle:=iJ (l:=L.take n);rw[cd]at hle;obtain⟨k,hk⟩:∃k,k=aS (L.take n):=⟨_,rfl⟩;rw[←hk]at hle he ⊢;by_cases h0:0<k
 . have e1:bO b k cap = .sl b 0 k 1 cap:=if_pos h0;rw[e1]at he ⊢;obtain rfl:=he (by simp[AV.top]);have hl:(L.take k).length=k:=by rw[cd];omega
   have hF:eC hh (.sl b 0 k 1 cap) (.vs (ak (L.take k)) k none):=by
    refine .sl (m:=ak (L.take k)) hb ?_ rfl (fun i x y hx hy=>?_)
    . have:=kO (f:=iC) (esz:=1) (fun _=>rfl) (l:=L) (i:=0) (n:=k) ac;simpa using this
    . rw[hx]at hy;cases hy;exact .same (cR (fv _) hx)
   rw[hl];exact⟨_,hF,fv _,by rw[bD,oe]⟩
 . obtain rfl:k=0:=by omega
   exact⟨.vs [] 0 cap,.same rfl,rfl,rfl⟩
theorem jB.less {hh:ae}{l:List Int}:jB (aV [.ab,.vs (ak l) l.length cap]) hh [] l:=by
 have ht:(aV [.ab,.vs (ak l) l.length cap]).top=0:=by simp[aV,AV.top,bz,fv l]
 refine⟨aV [.ab,.vs (ak l) l.length cap],.ab,.vs (ak l) l.length none,.same ht,ht,?_,.inr ⟨rfl,rfl⟩,.inl rfl⟩;simp only[aV,bD,cC,oe l]
def KY (M:ax)(g:Nat)(ars:List AV)(x y:Int):Prop:=∃q r:List Int,(okW dB q/\aR q/\WV dB q=x/y)/\(okW dB r/\aR r/\WV dB r=x%y)/\∃v hh,jB v hh q r/\bg M g ars [] ⟨v,hh,[]⟩
theorem Zq {f N:Nat}{aP:List Nat}{res:List fw}{body:ao}{ars:List AV}{x y:Int}(hft:M.FT f=some ⟨N,aP,res,body⟩)(hN:ars.length<=N)
 (h:W M body ⟨⟨aP.map (fun t=>(ars[t]?).getD cG),[],[],[]⟩,[]⟩ fun e s=>(e = .normal\/e = .ret)/\s.s.cg=[]/\∃vs,dH s.s res=some vs/\∃q r:List Int,(okW dB q/\aR q/\WV dB q=x/y)/\(okW dB r/\aR r/\WV dB r=x%y)/\jB (aV vs) (if (aV vs).top<=0 then [] else s.s.hp) q r):KY M f ars x y:=by
 obtain⟨v,hh,⟨q,r,hq,hr,ho⟩,h2⟩:=gS (P:=fun v hh=>∃q r:List Int,(okW dB q/\aR q/\WV dB q=x/y)/\(okW dB r/\aR r/\WV dB r=x%y)/\jB v hh q r) hft hN h;exact⟨q,r,hq,hr,v,hh,ho,h2⟩
theorem sM {b:Nat}:bO b 0 cap = .vs [] 0 cap:=if_neg ac
theorem KZ {b r:Nat}:bO b (r+1) cap = .sl b 0 (r+1) 1 cap:=if_pos ac
theorem Zr (hft:M.FT=FT){b n:Nat}{L:List Int}{e:TypeId}{hp:ae}(hb:hp.at b=some (.cells (ak L) e))(hn:n<=L.length)(hl:n<1000000000)(hc:∀c,cap=some c->n<=c) :
 bg M 236 [bO b n cap] hp ⟨bO b (aS (L.take n)) cap,hp,[]⟩:=by
 have hbl:=gG hb;refine mg (by rw[hft];exact xu) aq (by unfold bO;split <;> simp[AV.top,bz];omega) ?_;have loop:∀(r:Nat) (lo:List (Nat×AV)) (a1:AV) {Q:Ex->au->Prop},r<=n->aS (L.take r)=aS (L.take n)->(∀lo,Q (.exit 0) ⟨⟨[bO b (aS (L.take n)) cap,a1],lo,hp,[]⟩,[]⟩)->W M (.loop jz) ⟨⟨[bO b r cap,a1],lo,hp,[]⟩,[]⟩ Q:=by
  intro r;induction r with
  | zero=>
   intro lo a1 Q hr he hQ;have e0:aS (L.take n)=0:=by rw[←he];rfl
   rw[e0,sM]at hQ;rw[sM];refine W.loop ?_;unfold jz;repeat' first|apply aaQ|apply aa|apply aaf|apply aad|apply acH|apply bN|apply dP|(apply abx;rfl)|(apply adu;rfl)|(apply abV;rfl;rfl)|(apply acw;rfl;rfl)|(apply abh;rfl;rfl)|(intro _;omega)|intro _
   all_goals try omega
   all_goals exact hQ _
  | succ r ih=>
   intro lo a1 Q hr he hQ;have e:=nK (l:=L) (i:=r) ac;have ei:0+((((r+1:Nat):Int)-1).toNat)*1=r:=by omega
   have er:((r+1:Nat):Int)-1=r:=by omega
   rw[KZ];refine W.loop ?_;by_cases h0:L[r]! = 0
   . rw[if_pos h0]at e;unfold jz;repeat' first|(apply aeF;exact congrArg (fun z=>some (AV.ptr b z)) ei;exact hb;omega)|(apply aeK (k:=.i64) (r:=r);rfl;exact congrArg (fun z=>some (AV.iV z)) er;omega;(intro c hc';have:=hc c hc';omega))|apply aaQ|apply aa|apply aaf|apply aad|apply abI|apply abC|apply bE|(apply abz;rfl)|(apply acF;rfl)|(apply abV;rfl;rfl)|(apply acR;rfl;rfl)|(apply aco;rfl;rfl)|(apply adj;rfl;rfl;omega)|(apply adP;rfl;rfl;omega)|(apply abh;rfl;rfl)|(apply abl;rfl;rfl)|(intro _;omega)|intro _
     all_goals try omega
     all_goals exact gk (ih _ _ ac (e.symm.trans he) hQ)
   . rw[if_neg h0]at e;have e2:aS (L.take n)=r+1:=by rw[←he,e]
     rw[e2,KZ]at hQ;unfold jz;repeat' first|(apply aeF;exact congrArg (fun z=>some (AV.ptr b z)) ei;exact hb;omega)|apply aaQ|apply aa|apply aaf|apply aad|apply acH|apply bN|apply dP|(apply abx;rfl)|(apply acF;rfl)|(apply abV;rfl;rfl)|(apply acR;rfl;rfl)|(apply aco;rfl;rfl)|(apply adj;rfl;rfl;omega)|(apply adP;rfl;rfl;omega)|(apply abh;rfl;rfl)|(intro _;omega)|intro _
     all_goals try omega
     all_goals exact hQ _
 unfold sH;simp only[enter];repeat' first|apply aaQ|apply aa|apply aaf|apply aad|apply abI|(apply abl;rfl;rfl)
 refine loop n _ _ (az _) rfl (fun lo=>?_);repeat' first|apply aaQ|apply aa|apply aaf|apply aad|apply abw|apply bJ|(apply abh;rfl;rfl)|(apply abl;rfl;rfl)
 exact⟨.inr rfl,rfl,⟨[],aq⟩,aq,_,rfl,rfl⟩
theorem oh (hft:M.FT=FT)(dV:∀ars h,M.ext 236 ars h=none){b n:Nat}{L:List Int}{e:TypeId}{hp:ae}(hb:hp.at b=some (.cells (ak L) e))(h0:0<n)(hn:n<=L.length)(hl:n<1000000000)(hc:∀c,cap=some c->n<=c) :
 CT M (iR 236) [.sl b 0 n 1 cap] hp ⟨bO b (aS (L.take n)) cap,hp,[]⟩:=by
 have h:=Zr (cap:=cap) hft hb hn hl hc;rw[show bO b n cap = .sl b 0 n 1 cap from if_pos h0]at h;exact CT.run (fi:=[]) (ca:=[]) (dV _ _) h
theorem La {b n:Nat}:bO b n cap = .sl b 0 n 1 cap\/bO b n cap = .vs [] 0 cap/\n=0:=by
 rcases i5 n with rfl|h
 . exact .inr ⟨sM,rfl⟩
 . exact .inl (if_pos h)
theorem ot {st:St}{i b:Nat}{x y:AV}{e:TypeId}(h1:st.pe[i]? = some (.ptr b 0))(h2:st.hp.at b=some (.cells [x,y] e)):dH st [.cell 2 true (.p i)]=some [.agg [x,y]]:=by
 simp only[dH,St.ah,h1,Option.bind_some,fV,h2,List.drop];rfl
theorem Lb (hft:M.FT=FT)(dV:∀ars h,M.ext 236 ars h=none){b n:Nat}{L:List Int}{e:TypeId}{hp:ae}(neg:Bool)(hb:hp.at b=some (.cells (ak L) e))(h0:0<n)(hn:n<=L.length)(hl:n<1000000000)(hc:∀c,cap=some c->n<=c) :
 bg M 183 [.bool neg,.sl b 0 n 1 cap] hp ⟨.agg [.bool (neg && decide (0<aS (L.take n))),bO b (aS (L.take n)) cap],hp,[]⟩:=by
 have hbl:=gG hb;have q:=oh (cap:=cap) hft dV (hp:=hp++[some (.cells [.bool false,.ab] 200)]) (cm hb) h0 hn hl hc;have ht:aS (L.take n)<=n:=by have:=iJ (l:=L.take n);rw[cd]at this;omega
 obtain⟨k,hk⟩:∃k,k=aS (L.take n):=⟨_,rfl⟩;rw[←hk]at q ht ⊢;refine mg (by rw[hft];exact xr) aq (by rcases La (cap:=cap) (b:=b) (n:=k) with h|⟨h,_⟩ <;> rw[h] <;> simp[AV.top,bz] <;> omega) ?_;unfold sG;simp only[enter];rcases La (cap:=cap) (b:=b) (n:=k) with h|⟨h,h1⟩
 . rw[h]at q ⊢;by_cases hk0:0<k
   . rw[decide_eq_true hk0,ib];cases neg;all_goals
     . repeat' first|(apply adS;rfl;rfl;exact⟨rfl,by first|exact az _|decide|(simp[overwrite]),rfl⟩;rfl)|apply aaQ|apply aa|apply aaf|apply aad|apply abw|(apply acF;rfl)|(apply adu;rfl)|(apply abV;rfl;rfl)|(apply aco;rfl;rfl)|(apply acw;rfl;rfl)|(apply adQ;rfl;rfl;first|exact q)|(apply abU;rfl;rfl;rfl)|(apply abh;rfl;rfl)|(apply abl;rfl;rfl)|(intro _;omega)|intro _
       all_goals try omega
       all_goals exact⟨.inr rfl,rfl,⟨_,rfl⟩,aq,_,ot rfl bS,rfl⟩
   . exfalso;have:k=0:=by omega
     rw[this,sM]at h;cases h
 . rw[h]at q ⊢;subst h1;rw[decide_eq_false ac,pC];cases neg;all_goals
   . repeat' first|(apply adS;rfl;rfl;exact⟨rfl,by first|exact az _|decide|(simp[overwrite]),rfl⟩;rfl)|apply aaQ|apply aa|apply aaf|apply aad|apply abw|(apply acF;rfl)|(apply adu;rfl)|(apply abV;rfl;rfl)|(apply aco;rfl;rfl)|(apply acw;rfl;rfl)|(apply adQ;rfl;rfl;first|exact q)|(apply abU;rfl;rfl;rfl)|(apply abh;rfl;rfl)|(apply abl;rfl;rfl)|(intro _;omega)|intro _
     all_goals try omega
     all_goals exact⟨.inr rfl,rfl,⟨_,rfl⟩,aq,_,ot rfl bS,rfl⟩
end Go.Ab.Ch5.N
