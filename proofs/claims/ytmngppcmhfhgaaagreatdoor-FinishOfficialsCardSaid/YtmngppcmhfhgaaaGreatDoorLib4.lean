/-
  Own work: integers of any size: products.
-/
import Derived.Test.YtmngppcmhfhgaaaGreatDoorLib3
import Derived.Test.YtmngppcmhfhgaaaGreatDoorCh5Base
import Derived.Test.YtmngppcmhfhgaaaGreatDoorLib2
import Derived.Test.YtmngppcmhfhgaaaGreatDoorLib1
import Derived.Lib.Bytealg
open Bool renaming and_eq_true→be,true_and→b9,false_and→cZ,and_true→gc,false_eq_true→hJ,false_or→j0,not_true→j1,true_or→ki,not_false→m9,and_false→ne,and_self→nW
open ByteArray renaming mk→aY,size→m7
open Int renaming mul_le_mul_of_nonneg_right→bI,mul_le_mul_of_nonneg_left→bN,gcd→b8,pow_succ→cn,emod_lt_of_pos→cP,lt_of_lt_of_le→cT,gcd_pos_of_ne_zero_right→c8,mul_lt_mul_of_pos_right→dK,toNat_natCast→dL,le_of_lt→d6,emod_nonneg→fW,lt_of_le_of_lt→fX,le_trans→f6,ediv_eq_of_eq_mul_right→gF,tmod_eq_emod_of_nonneg→gR,pow_add→ip,mul_ediv_cancel_left→ix,ediv_le_self→iK,mul_ediv_add_emod→i6,pow_pos→i7,mul_one→i8,gcd_comm→j5,gcd_dvd_right→j6,pow_zero→j7,neg_mul→kw,neg_neg→k9,mul_neg→lc,ediv_nonneg→mp,pow_nonneg→m8,toNat→n5
open List renaming getElem?_eq_getElem→aR,getElem!_eq_getElem?_getD→bA,length_cons→bW,length_take→b6,all_eq_true→b7,all_append→ce,nil_append→ci,append_nil→ck,length_append→cQ,getElem_mem→c0,eq_nil_of_length_eq_zero→c6,all_cons→dw,drop_eq_getElem_cons→d8,dropWhile_cons→d9,length_pos_iff→ew,eq_nil_or_concat→f7,concat_eq_append→f8,range→f9,replicate→g9,getElem?_append_left→hZ,mem_of_find?_eq_some→ii,drop_length→iQ,mem_range→i9,mem_singleton→j4,all_nil→j8,append_assoc→j9,cons_append→kn,foldl_cons→mJ,find?_some→mO,mem_cons→n3,map_cons→n4
open Nat renaming le_refl→aL,le_trans→bP,pow_succ→c7,mul_comm→d7,mul_assoc→fu,mul_le_mul_right→gu,eq_zero_or_pos→gT,mod_eq_of_lt→iM,zero_add→iX,strongRecOn→i5,pow_le_pow_right→jz,mod_lt→j3,add_mul→li,zero_le→l9,gcd→n6
open Option renaming some→jr,map→n7
open Rat renaming divInt→ba,num_divInt_den→j2,neg_num→le,num_divInt→m5,den_divInt→m6
open UInt8 renaming toNat_inj→c9
set_option maxHeartbeats 8000000
set_option maxRecDepth 20000
namespace Go.Ab.Ch5.N
open Go.Ab.bl
variable {M:az} {cap:Option Nat} {N:Nat}
def t199:ao:=
 zR [zt 50 2 2,
      z1 51 219 50,
      zn 49 51,
      ze 52 0 49,
      ze 53 1 49,
      zw 7 52,
      zw 8 53]
    (
     zR [zt 55 2 3,
       z1 56 219 55,
       zn 54 56,
       ze 57 0 54,
       ze 58 1 54,
       zw 9 57,
       zw 10 58]
     (
      zR [zm 59 7,
        zm 60 9,
        ⟨(.l 61),.eq true .bool (.l 59) (.l 60),none⟩,
        zm 62 8,
        zm 63 10,
        z2 64 262 62 63,
        z2 65 261 61 64,
        zs 2 4 65]
      (.ret)))
theorem kq {x:Int}:0<=al x:=by unfold al;split <;> omega
theorem Jf {x y:Int}(h:x<0↔y<0):al x*al y=x*y:=by
 unfold al;by_cases h1:x<0
 . rw[if_pos h1,if_pos (h.1 h1),Int.neg_mul_neg]
 . rw[if_neg h1,if_neg (fun h2=>h1 (h.2 h2))]
theorem Jg {x y:Int}(h:¬(x<0↔y<0)) : -(al x*al y)=x*y:=by
 unfold al;by_cases h1:x<0
 . rw[if_pos h1,if_neg (fun h2=>h ⟨fun _=>h2,fun _=>h1⟩),kw,k9]
 . rw[if_neg h1,if_pos (Decidable.byContradiction fun h2=>h ⟨fun h3=>absurd h3 h1,fun h3=>absurd h3 h2⟩),lc,k9]
theorem Va {l m r:List Int}(C:CI M N)(ok:okW wB r)(nr:aU r)(okl:okW wB l)(okm:okW wB m)(hr:WV wB r=WV wB l*WV wB m)(hl:WV wB l<wB^N)(hm:WV wB m<wB^N):r.length<=1000001:=by
 have hN:=C.lN;have hp:wB^(N+N)=wB^N*wB^N:=ip _ _ _;have l0:=cK (b:=wB) ak okl;have m0:=cK (b:=wB) ak okm;have hp0:0<wB^N:=i7 ak;have h1:WV wB l*WV wB m<wB^N*wB^N:=by
  have a1:=bN (d6 hm) l0;have a2:=dK hl hp0;omega
 exact bP (gw (b:=wB) ak ok nr (n:=N+N) (by rw[hr,hp];exact h1)) ac
theorem Vb (C:CI M N){s s' za zb:Int}{wa wb:AV}(ha:aN (.agg [.iV s,wa]) za)(hb:aN (.agg [.iV s',wb]) zb)(lza:al za<wB^N)(lzb:al zb<wB^N) :
 ∃v0,aN v0 (za*zb)/\∀a0 a1 a5 a6 a7 a8 a9 aA lo wr,W M t199 ⟨⟨[a0,a1,.ptr 0 0,.ptr 1 0,.ptr 2 0,a5,a6,a7,a8,a9,aA],lo,[some (.cells [.iV s,wa] 171),some (.cells [.iV s',wb] 171),some (.cells [.iV 0,.ab] 171)],[]⟩,wr⟩ (lT v0 [.cell 2 true (.p 4)]):=by
 obtain⟨x,l,hx,okl,nrl,vl,q219a⟩:=C.mU _ za ha;obtain⟨y,m,hy,okm,nrm',vm,q219b⟩:=C.mU _ zb hb;have ll:=C.len okl nrl vl lza;have lm:=C.len okm nrm' vm lzb;obtain⟨r,okr,nrr,vr,q262⟩:=C.Jd x l y m hx hy okl okm ll lm;have lr:=Va C okr nrr okl okm vr (by rw[vl];exact lza) (by rw[vm];exact lzb);rw[vl,vm]at vr;by_cases hs:za<0↔zb<0
 . obtain⟨v0,h0,q261⟩:=C.kp false (.vs (aq r) r.length none) r (.inl rfl) okr nrr lr;have h0:aN v0 (za*zb):=by rw[←Jf hs,←vr];exact h0
   refine⟨v0,h0,fun a0 a1 a5 a6 a7 a8 a9 aA lo wr=>?_⟩;have out:=fun hh=>h0.out (hh:=hh)
   unfold t199;by_cases h:za<0 <;> by_cases h':zb<0 <;> simp only[h,h',decide_true,decide_false]at hs q219a q219b
   all_goals first|(exfalso;revert hs;decide)|skip
   all_goals
   . cases h0;all_goals
     . repeat' first|apply aaK|apply aa|apply aaI|apply aaC|apply abZ|(apply acq;rfl;rfl;first|exact q219a _|exact q219b _|exact q262 _|exact q261 _)|(apply acH;rfl;rfl;rfl)|(apply aeS;rfl;rfl;rfl)|(apply abx;rfl;rfl)|(apply abO;rfl;rfl)
       all_goals exact cI rfl rfl (out _)
 . obtain⟨v0,h0,q261⟩:=C.kp true (.vs (aq r) r.length none) r (.inl rfl) okr nrr lr;have h0:aN v0 (za*zb):=by rw[←Jg hs,←vr];exact h0
   refine⟨v0,h0,fun a0 a1 a5 a6 a7 a8 a9 aA lo wr=>?_⟩;have out:=fun hh=>h0.out (hh:=hh)
   unfold t199;by_cases h:za<0 <;> by_cases h':zb<0 <;> simp only[h,h',decide_true,decide_false]at hs q219a q219b
   all_goals first|(exfalso;revert hs;decide)|skip
   all_goals
   . cases h0;all_goals
     . repeat' first|apply aaK|apply aa|apply aaI|apply aaC|apply abZ|(apply acq;rfl;rfl;first|exact q219a _|exact q219b _|exact q262 _|exact q261 _)|(apply acH;rfl;rfl;rfl)|(apply aeS;rfl;rfl;rfl)|(apply abx;rfl;rfl)|(apply abO;rfl;rfl)
       all_goals exact cI rfl rfl (out _)
theorem Vc (C:CI M N){a b:AV}{za zb:Int}(ha:aN a za)(hb:aN b zb)(lza:al za<wB^N)(lzb:al zb<wB^N):∃v0,aN v0 (za*zb)/\dj M 199 [a,b] v0:=by
 have main:∀{s s':Int} {wa wb:AV},a = .agg [.iV s,wa]->b = .agg [.iV s',wb]->∃v0,aN v0 (za*zb)/\∀a0 a1 a5 a6 a7 a8 a9 aA lo wr,W M t199 ⟨⟨[a0,a1,.ptr 0 0,.ptr 1 0,.ptr 2 0,a5,a6,a7,a8,a9,aA],lo,[some (.cells [.iV s,wa] 171),some (.cells [.iV s',wb] 171),some (.cells [.iV 0,.ab] 171)],[]⟩,wr⟩ (lT v0 [.cell 2 true (.p 4)]):=
  fun e1 e2=>Vb C (e1 ▸ ha) (e2 ▸ hb) lza lzb
 cases ha with
 | small h=>
  cases hb with
  | small h'=>
   have q260a:=fun k=>C.sf za k h
   have q260b:=fun k=>C.sf zb k h'
   have ga:0<=al za/\al za<18446744073709551616:=by unfold al;split <;> omega
   have gb:0<=al zb/\al zb<18446744073709551616:=by unfold al;split <;> omega
   have q259:=fun k=>C.oz (al za) (al zb) k ga gb
   have hm:=vK ga gb;have ms:=@Jf za zb;have md:=@Jg za zb;obtain⟨m,hmm⟩:∃m,m=al za*al zb:=⟨_,rfl⟩;rw[←hmm]at q259 hm ms md;by_cases hbig:m<=9223372036854775807
   . by_cases hs:za<0↔zb<0
     . refine⟨.agg [.iV m,.ab],by rw[←ms hs];exact .small ac,?_⟩;refine dm (by rw[C.ft];exact si) am ?_;have e:m%18446744073709551616=m:=by omega
       have e2:m/18446744073709551616=0:=by omega
       rw[e,e2]at q259;unfold qt;simp only[enter];by_cases h1:za<0 <;> by_cases h2:zb<0
       all_goals try omega
       all_goals
       . repeat' first|(apply adA;rfl;rfl;(first|(simp only[nca];rfl)|rfl);first|exact q260a _|exact q260b _|exact q259 _)|apply aaK|apply aa|apply aaI|apply aaC|apply abZ|apply acn|apply aP|apply adJ|apply adY|(apply aez;rfl)|(apply aeu;rfl;rfl;(first|(simp only[nca];rfl)|rfl))|(apply ack;rfl)|(apply acj;rfl)|(apply adx;rfl)|(apply acE;rfl;rfl)|(apply afK;rfl;rfl)|(apply adw;rfl;rfl)|(apply afP;rfl;omega)|(apply acJ;rfl;rfl)|(apply afu;rfl;rfl;exact⟨rfl,by first|exact aL _|decide|(simp[overwrite]),rfl⟩;rfl)|(apply afq;rfl;(first|(focus((repeat' first|exact cC|assumption|apply cW);done))|exact di am);rfl)|(apply acv;rfl;rfl;rfl)|(apply abx;rfl;rfl)|(apply abO;rfl;rfl)|(intro _;omega)|intro _
         all_goals try omega
         all_goals exact cI rfl rfl (.same rfl rfl)
     . refine⟨.agg [.iV (-m),.ab],by rw[←md hs];exact .small ac,?_⟩;refine dm (by rw[C.ft];exact si) am ?_;have e:m%18446744073709551616=m:=by omega
       have e2:m/18446744073709551616=0:=by omega
       rw[e,e2]at q259;unfold qt;simp only[enter];by_cases h1:za<0 <;> by_cases h2:zb<0
       all_goals try omega
       all_goals
       . repeat' first|(apply adA;rfl;rfl;(first|(simp only[nca];rfl)|rfl);first|exact q260a _|exact q260b _|exact q259 _)|apply aaK|apply aa|apply aaI|apply aaC|apply abZ|apply aP|apply adJ|apply adY|(apply aez;rfl)|(apply aeu;rfl;rfl;(first|(simp only[nca];rfl)|rfl))|(apply ack;rfl)|(apply adx;rfl)|(apply acE;rfl;rfl)|(apply afK;rfl;rfl)|(apply adw;rfl;rfl)|(apply afP;rfl;omega)|(apply acJ;rfl;rfl)|(apply afu;rfl;rfl;exact⟨rfl,by first|exact aL _|decide|(simp[overwrite]),rfl⟩;rfl)|(apply afq;rfl;(first|(focus((repeat' first|exact cC|assumption|apply cW);done))|exact di am);rfl)|(apply afZ;rfl;omega)|(apply acv;rfl;rfl;rfl)|(apply abx;rfl;rfl)|(apply abO;rfl;rfl)|(intro _;omega)|intro _
         all_goals try omega
         all_goals exact cI rfl rfl (.same rfl rfl)
   . obtain⟨v0,h0,tl⟩:=main rfl rfl;refine⟨v0,h0,dm (by rw[C.ft];exact si) am ?_⟩;unfold qt;simp only[enter];repeat' first|(exact tl _ _ _ _ _ _ _ _ _ _)|(apply adA;rfl;rfl;(first|(simp only[nca];rfl)|rfl);first|exact q260a _|exact q260b _|exact q259 _)|apply aaK|apply aa|apply aaI|apply aaC|apply acn|apply adJ|apply adY|(apply aez;rfl)|(apply aeu;rfl;rfl;(first|(simp only[nca];rfl)|rfl))|(apply ack;rfl)|(apply acj;rfl)|(apply adx;rfl)|(apply aeU;rfl)|(apply afK;rfl;rfl)|(apply adw;rfl;rfl)|(apply acJ;rfl;rfl)|(apply adt;rfl;rfl)|(apply afq;rfl;(first|(focus((repeat' first|exact cC|assumption|apply cW);done))|exact di am);rfl)|(apply acv;rfl;rfl;rfl)|(apply abx;rfl;rfl)|(apply abO;rfl;rfl)|(intro _;omega)|intro _
     all_goals try omega
  | @fQ σ z w hs ok nr hw hz=>
   cases w with
   | nil=>simp[WV]at hw
   | cons y w=>
   obtain⟨v0,h0,tl⟩:=main rfl rfl;refine⟨v0,h0,dm (by rw[C.ft];exact si) am ?_⟩;unfold qt;simp only[enter];repeat' first|(exact tl _ _ _ _ _ _ _ _ _ _)|apply aaK|apply aa|apply aaI|apply aaC|apply acn|(apply acj;rfl)|(apply adx;rfl)|(apply acJ;rfl;rfl)|(apply afq;rfl;(first|(focus((repeat' first|exact cC|assumption|apply cW);done))|exact di am);rfl)|(apply acv;rfl;rfl;rfl)|(apply abx;rfl;rfl)
 | @fQ σ z w hs ok nr hw hz=>
  cases w with
  | nil=>simp[WV]at hw
  | cons y w=>
  cases hb;all_goals
  . obtain⟨v0,h0,tl⟩:=main rfl rfl;refine⟨v0,h0,dm (by rw[C.ft];exact si) am ?_⟩;unfold qt;simp only[enter];repeat' first|(exact tl _ _ _ _ _ _ _ _ _ _)|apply aaK|apply aa|apply aaI|apply aaC|apply acn|(apply acj;rfl)|(apply aeU;rfl)|(apply adt;rfl;rfl)|(apply afq;rfl;(first|(focus((repeat' first|exact cC|assumption|apply cW);done))|exact di am);rfl)|(apply acv;rfl;rfl;rfl)|(apply abx;rfl;rfl)
structure CD (M:az)(N:Nat):Prop extends CJ M N where
 n1:1<=N
 mW:∀s h,M.ext 196 [.iV s] h=some ⟨.agg [.iV s,.ab],h,[]⟩
 Jh:∀x l y m,dN x l->dN y m->okW wB l->okW wB m->aU l->aU m->l.length<=500000->m.length<=500000->m≠[]->∃qv q rv r,dN qv q/\dN rv r/\okW wB q/\aU q/\okW wB r/\aU r/\WV wB q=WV wB l/WV wB m/\WV wB r=WV wB l%WV wB m/\∀h,M.ext 220 [x,y] h=some ⟨.ay [qv,rv],h,[]⟩
def t299:ao:=
 zR [zt 52 2 2,
      z1 53 219 52,
      zn 51 53,
      ze 54 0 51,
      ze 55 1 51,
      zw 8 54,
      zw 9 55]
    (
     zR [zt 57 2 3,
       z1 58 219 57,
       zn 56 58,
       ze 59 0 56,
       ze 60 1 56,
       zn 10 59,
       zw 10 60]
     (
      zR [zm 62 9,
        zm 63 10,
        z2 64 220 62 63,
        zn 61 64,
        ze 65 0 61,
        ze 66 1 61,
        zw 11 65,
        zw 12 66]
      (
       zR [zm 67 8,
         zm 68 11,
         z2 69 261 67 68,
         zm 70 8,
         zm 71 12,
         z2 72 261 70 71,
         ⟨(.p 13),.alloc 171 [.iV (0),.ab],none⟩,
         ⟨(.p 14),.alloc 171 [.iV (0),.ab],none⟩,
         zs 2 13 69,
         zs 2 14 72]
       (
        .seq (zR [zt 73 2 14,
           z1 74 230 73,
           zc 75 .lss 74 0]
         (
          .cond (.l 75)
          (.draw [(zt 76 2 13,[]),
            (⟨(.l 77),.call (kF 196) [(kI 1)],none⟩,[0]),
            (z2 78 263 76 77,[]),
            (zt 79 2 14,[0,1,2]),
            (zt 80 2 3,[0,1,2,3]),
            (z2 81 253 79 80,[]),
            (zs 2 13 78,[]),
            (zs 2 14 81,[])])
          (.skip)))
        (
         .seq (.draw [(zt 82 2 13,[]),
           (zt 83 2 14,[0]),
           (zs 2 4 82,[1]),
           (zs 2 5 83,[])])
         (.ret))))))
theorem Vd {x y:Int}(hy:0<y):(x.tmod y<0->x/y=x.tdiv y-1/\x%y=x.tmod y+y)/\(0<=x.tmod y->x/y=x.tdiv y/\x%y=x.tmod y)/\(-y<x.tmod y/\x.tmod y<y):=by
 have e:=Int.mul_tdiv_add_tmod x y;have hb : -y<x.tmod y/\x.tmod y<y:=by
  rcases Int.le_total 0 x with h|h
  . rw[gR h];have:=fW x (show y≠0 by omega);have:=cP x hy;omega
  . have e:x.tmod y = -(-x%y):=by
     rw[←gR (show 0 <= -x by omega),Int.neg_tmod];omega
    have:=fW (-x) (show y≠0 by omega);have:=cP (-x) hy;omega
 refine⟨fun h=>?_,fun h=>?_,hb⟩
 . obtain⟨h1,h2⟩:=oE (x:=x) (y:=y) (q:=x.tdiv y-1) (r:=x.tmod y+y) (by rw[Int.mul_sub,i8];omega) ac ac;exact⟨h1.symm,h2.symm⟩
 . obtain⟨h1,h2⟩:=oE (x:=x) (y:=y) (q:=x.tdiv y) (r:=x.tmod y) ac h hb.2;exact⟨h1.symm,h2.symm⟩
theorem Ve {x y q r:Int}(hy:0<y)(hx:x<0)(hq:q = -x/y)(hr:r = -x%y):(r=0->x/y = -q/\x%y=0)/\(r≠0->x/y = -q-1/\x%y=y-r)/\(0<=r/\r<y)/\0<=q/\q <= -x:=by
 have e:=i6 (-x) y;have r0:=fW (-x) (show y≠0 by omega);have r1:=cP (-x) hy;have q0:0 <= -x/y:=mp ac ac;have q1 : -x/y <= -x:=iK _ ac;rw[←hq,←hr]at e;rw[←hr]at r0 r1;rw[←hq]at q0 q1;refine⟨fun h=>?_,fun h=>?_,⟨r0,r1⟩,q0,q1⟩
 . obtain⟨h1,h2⟩:=oE (x:=x) (y:=y) (q:=-q) (r:=0) (by rw[lc];omega) ac hy;exact⟨h1.symm,h2.symm⟩
 . obtain⟨h1,h2⟩:=oE (x:=x) (y:=y) (q:=-q-1) (r:=y-r) (by rw[Int.mul_sub,lc,i8];omega) ac ac;exact⟨h1.symm,h2.symm⟩
theorem CK {a b:AV}{x y:Int}{hh:ae}(ha:aN a x)(hb:aN b y):fw (aT [a,b]) hh (.ay [a,b]):=by
 cases ha;all_goals
 . cases hb;all_goals exact .same (by simp[aT,AV.top,bG,iz]) (by simp[aT,bR,da,lS])
theorem fk {x:Int}(h:0<=x):al x=x:=if_neg ac
theorem Vf (C:CD M N):(1:Int)<wB^N:=by
 have h:=iy (b:=wB) ak (m:=1) (n:=N) C.n1;have h3:wB^1=18446744073709551616:=rfl;omega
theorem Vg (C:CD M N){s s' za zb:Int}{wa wb:AV}(ha:aN (.agg [.iV s,wa]) za)(hb:aN (.agg [.iV s',wb]) zb)(lza:al za<wB^N)(lzb:al zb<wB^N)(hpos:0<zb) :
 ∃q r,aN q (za/zb)/\aN r (za%zb)/\∀a0 a1 a6 a7 a8 a9 aA aB aC aD aE lo wr,W M t299 ⟨⟨[a0,a1,.ptr 0 0,.ptr 1 0,.ptr 2 0,.ptr 3 0,a6,a7,a8,a9,aA,aB,aC,aD,aE],lo,[some (.cells [.iV s,wa] 171),some (.cells [.iV s',wb] 171),some (.cells [.iV 0,.ab] 171),some (.cells [.iV 0,.ab] 171)],[]⟩,wr⟩ (lT (.ay [q,r]) [.cell 2 true (.p 4),.cell 2 true (.p 5)]):=by
 obtain⟨x,l,hx,okl,nrl,vl,q219a⟩:=C.mU _ za ha;obtain⟨y,m,hy,okm,nrm',vm,q219b⟩:=C.mU _ zb hb;have ll:=C.len okl nrl vl lza;have lm:=C.len okm nrm' vm lzb;have hb0:¬zb<0:=by omega
 rw[fk ac]at vm lzb;have mne:m≠[]:=fun e=>by rw[e]at vm;simp[WV]at vm;omega
 obtain⟨qv,q,rv,r,hq,hr,okq,nrq,okr,nrr,vq,vr,q220⟩:=C.Jh x l y m hx hy okl okm nrl nrm' ll lm mne;rw[vl,vm]at vq vr;have q0:=cK (b:=wB) ak okq;have r0:=cK (b:=wB) ak okr;have a0:=kq (x:=za);have q1:WV wB q<=al za:=by rw[vq];exact iK _ a0
 have r1:WV wB r<zb:=by rw[vr];exact cP _ hpos
 have lN:=C.lN;have lq:q.length<=1000001:=bP (gw (b:=wB) ak okq nrq (n:=N) ac) ac;have lr:r.length<=1000001:=bP (gw (b:=wB) ak okr nrr (n:=N) ac) ac;simp only[hb0,decide_false]at q219b;by_cases hn:za<0
 . simp only[hn,decide_true]at q219a;rw[show al za = -za from if_pos hn]at vq vr q1 lza;obtain⟨d1,d2,d3,d4,d5⟩:=Ve hpos hn vq vr;obtain⟨vQ,hQ,q261q⟩:=C.kp true qv q hq okq nrq lq;obtain⟨vR,hR,q261r⟩:=C.kp true rv r hr okr nrr lr;have hQ:aN vQ (-WV wB q):=hQ;have hR:aN vR (-WV wB r):=hR;have q230:=C.mV vR _ hR;by_cases hz:WV wB r=0
   . obtain⟨e1,e2⟩:=d1 hz;rw[show bB (-WV wB r)=0 by rw[hz];rfl]at q230;refine⟨vQ,vR,by rw[e1];exact hQ,by rw[e2];rw[hz]at hR;exact hR,fun a0 a1 a6 a7 a8 a9 aA aB aC aD aE lo wr=>?_⟩;have out:=fun hh=>CK (hh:=hh) hQ hR
     unfold t299;cases hQ;all_goals
     . cases hR;all_goals
       . repeat' first|apply aaK|apply aa|apply aaI|apply aaC|apply abZ|apply acn|apply adJ|apply adY|(apply aeu;rfl;rfl;(first|(simp only[nca];rfl)|rfl))|(apply aeV;rfl;(first|(simp only[nca];rfl)|rfl);(first|(simp only[nca];rfl)|rfl))|(apply acj;rfl)|(apply acE;rfl;rfl)|(apply acq;rfl;rfl;first|exact q219a _|exact q219b _|exact q220 _|exact q261q _|exact q261r _|exact q230 _)|(apply acH;rfl;rfl;rfl)|(apply acv;rfl;rfl;rfl)|(apply aeS;rfl;rfl;rfl)|(apply abx;rfl;rfl)|(apply abO;rfl;rfl)|(intro _;omega)|intro _
         all_goals try omega
         all_goals exact cI rfl rfl (out _)
   . obtain⟨e1,e2⟩:=d2 hz;rw[show bB (-WV wB r) = -1 from if_pos ac]at q230;have q196:=C.mW 1;have h1:=Vf C;obtain⟨vS,hS,q263⟩:=C.CH vQ _ _ 1 hQ (.small ak) (by rw[jM,fk q0];omega) h1;obtain⟨vT,hT,q253⟩:=C.wh vR _ _ zb hR hb (by rw[jM,fk r0];omega) (by rw[fk ac];exact lzb);have hS:aN vS (za/zb):=by rw[e1];exact hS
     have hT:aN vT (za%zb):=by rw[e2,show zb-WV wB r = -WV wB r+zb by omega];exact hT
     refine⟨vS,vT,hS,hT,fun a0 a1 a6 a7 a8 a9 aA aB aC aD aE lo wr=>?_⟩;have out:=fun hh=>CK (hh:=hh) hS hT
     unfold t299;cases hQ;all_goals
     . cases hR;all_goals
       . cases hS;all_goals
         . cases hT;all_goals
           . repeat' first|(apply adA;rfl;rfl;(first|(simp only[nca];rfl)|rfl);first|exact q196 _|exact q263 _|exact q253 _)|apply aaK|apply aa|apply aaI|apply aaC|apply abZ|apply adJ|apply adY|(apply aeu;rfl;rfl;(first|(simp only[nca];rfl)|rfl))|(apply aeV;rfl;(first|(simp only[nca];rfl)|rfl);(first|(simp only[nca];rfl)|rfl))|(apply ack;rfl)|(apply acE;rfl;rfl)|(apply acq;rfl;rfl;first|exact q219a _|exact q219b _|exact q220 _|exact q261q _|exact q261r _|exact q230 _)|(apply acH;rfl;rfl;rfl)|(apply acv;rfl;rfl;rfl)|(apply aeS;rfl;rfl;rfl)|(apply abx;rfl;rfl)|(apply abO;rfl;rfl)|(intro _;omega)|intro _
             all_goals try omega
             all_goals exact cI rfl rfl (out _)
 . simp only[hn,decide_false]at q219a;rw[show al za=za from if_neg hn]at vq vr;obtain⟨vQ,hQ,q261q⟩:=C.kp false qv q hq okq nrq lq;obtain⟨vR,hR,q261r⟩:=C.kp false rv r hr okr nrr lr;have hQ:aN vQ (za/zb):=by rw[←vq];exact hQ
   have q230:=C.mV vR _ hR;have hR:aN vR (za%zb):=by rw[←vr];exact hR
   obtain⟨g,hg⟩:∃g,g=bB (gA false (WV wB r)):=⟨_,rfl⟩;have g0:0<=g:=by rw[hg];unfold bB gA;simp;split <;> omega
   rw[←hg]at q230;refine⟨vQ,vR,hQ,hR,fun a0 a1 a6 a7 a8 a9 aA aB aC aD aE lo wr=>?_⟩;have out:=fun hh=>CK (hh:=hh) hQ hR
   unfold t299;cases hQ;all_goals
   . cases hR;all_goals
     . repeat' first|apply aaK|apply aa|apply aaI|apply aaC|apply abZ|apply acn|apply adJ|apply adY|(apply aeu;rfl;rfl;(first|(simp only[nca];rfl)|rfl))|(apply aeV;rfl;(first|(simp only[nca];rfl)|rfl);(first|(simp only[nca];rfl)|rfl))|(apply acj;rfl)|(apply acE;rfl;rfl)|(apply acq;rfl;rfl;first|exact q219a _|exact q219b _|exact q220 _|exact q261q _|exact q261r _|exact q230 _)|(apply acH;rfl;rfl;rfl)|(apply acv;rfl;rfl;rfl)|(apply aeS;rfl;rfl;rfl)|(apply abx;rfl;rfl)|(apply abO;rfl;rfl)|(intro _;omega)|intro _
       all_goals try omega
       all_goals exact cI rfl rfl (out _)
theorem Vh (C:CD M N){a b:AV}{za zb:Int}(ha:aN a za)(hb:aN b zb)(lza:al za<wB^N)(lzb:al zb<wB^N)(hpos:0<zb):∃q r,aN q (za/zb)/\aN r (za%zb)/\dj M 299 [a,b] (.ay [q,r]):=by
 have main:∀{s s':Int} {wa wb:AV},a = .agg [.iV s,wa]->b = .agg [.iV s',wb]->∃q r,aN q (za/zb)/\aN r (za%zb)/\∀a0 a1 a6 a7 a8 a9 aA aB aC aD aE lo wr,W M t299 ⟨⟨[a0,a1,.ptr 0 0,.ptr 1 0,.ptr 2 0,.ptr 3 0,a6,a7,a8,a9,aA,aB,aC,aD,aE],lo,[some (.cells [.iV s,wa] 171),some (.cells [.iV s',wb] 171),some (.cells [.iV 0,.ab] 171),some (.cells [.iV 0,.ab] 171)],[]⟩,wr⟩ (lT (.ay [q,r]) [.cell 2 true (.p 4),.cell 2 true (.p 5)]):=
  fun e1 e2=>Vg C (e1 ▸ ha) (e2 ▸ hb) lza lzb hpos
 cases ha with
 | small h=>
  cases hb with
  | small h'=>
   by_cases hmin:za = -9223372036854775808
   . obtain⟨q,r,hq,hr,tl⟩:=main rfl rfl;refine⟨q,r,hq,hr,dm (by rw[C.ft];exact sm) am ?_⟩;unfold qu;simp only[enter];repeat' first|(exact tl _ _ _ _ _ _ _ _ _ _ _ _ _)|apply aaK|apply aa|apply aaI|apply aaC|apply acn|(apply acj;rfl)|(apply adx;rfl)|(apply adH;rfl;rfl)|(apply acJ;rfl;rfl)|(apply acH;rfl;rfl;rfl)|(apply acv;rfl;rfl;rfl)|(apply abx;rfl;rfl)|(intro _;omega)|intro _
     all_goals try omega
   . obtain⟨d1,d2,d3⟩:=Vd (x:=za) hpos;have hq : -9223372036854775807<=za.tdiv zb/\za.tdiv zb<=9223372036854775807:=by
      have h1:(za.tdiv zb).natAbs<=za.natAbs:=by rw[Int.natAbs_tdiv];exact Nat.div_le_self _ _
      omega
     by_cases hr:za.tmod zb<0
     . obtain⟨e1,e2⟩:=d1 hr;refine⟨_,_,by rw[e1];exact .small ac,by rw[e2];exact .small ac,dm (by rw[C.ft];exact sm) am ?_⟩;unfold qu;simp only[enter];repeat' first|apply aaK|apply aa|apply aaI|apply aaC|apply abZ|apply aP|(apply aeW;rfl)|(apply ack;rfl)|(apply adx;rfl)|(apply acE;rfl;rfl)|(apply adH;rfl;rfl)|(apply acJ;rfl;rfl)|(apply adz;rfl;rfl;omega)|(apply aeR;rfl;rfl;omega)|(apply afw;rfl;rfl;omega)|(apply afv;rfl;rfl;omega;omega)|(apply acH;rfl;rfl;rfl)|(apply acv;rfl;rfl;rfl)|(apply aeS;rfl;rfl;rfl)|(apply abx;rfl;rfl)|(apply abO;rfl;rfl)|(intro _;omega)|intro _
       all_goals try omega
       all_goals exact cI rfl rfl (.same rfl rfl)
     . obtain⟨e1,e2⟩:=d2 ac;refine⟨_,_,by rw[e1];exact .small ac,by rw[e2];exact .small ac,dm (by rw[C.ft];exact sm) am ?_⟩;unfold qu;simp only[enter];repeat' first|apply aaK|apply aa|apply aaI|apply aaC|apply abZ|apply acn|apply aP|(apply aeW;rfl)|(apply ack;rfl)|(apply acj;rfl)|(apply adx;rfl)|(apply acE;rfl;rfl)|(apply adH;rfl;rfl)|(apply acJ;rfl;rfl)|(apply afw;rfl;rfl;omega)|(apply afv;rfl;rfl;omega;omega)|(apply acH;rfl;rfl;rfl)|(apply acv;rfl;rfl;rfl)|(apply aeS;rfl;rfl;rfl)|(apply abx;rfl;rfl)|(apply abO;rfl;rfl)|(intro _;omega)|intro _
       all_goals try omega
       all_goals exact cI rfl rfl (.same rfl rfl)
  | @fQ σ z w hs ok nr hw hz=>
   cases w with
   | nil=>simp[WV]at hw
   | cons y w=>
   obtain⟨q,r,hq,hr,tl⟩:=main rfl rfl;refine⟨q,r,hq,hr,dm (by rw[C.ft];exact sm) am ?_⟩;unfold qu;simp only[enter];repeat' first|(exact tl _ _ _ _ _ _ _ _ _ _ _ _ _)|apply aaK|apply aa|apply aaI|apply aaC|apply acn|(apply acj;rfl)|(apply adx;rfl)|(apply aeU;rfl)|(apply acJ;rfl;rfl)|(apply adt;rfl;rfl)|(apply acH;rfl;rfl;rfl)|(apply acv;rfl;rfl;rfl)|(apply abx;rfl;rfl)
 | @fQ σ z w hs ok nr hw hz=>
  cases w with
  | nil=>simp[WV]at hw
  | cons y w=>
  cases hb;all_goals
  . obtain⟨q,r,hq,hr,tl⟩:=main rfl rfl;refine⟨q,r,hq,hr,dm (by rw[C.ft];exact sm) am ?_⟩;unfold qu;simp only[enter];repeat' first|(exact tl _ _ _ _ _ _ _ _ _ _ _ _ _)|apply aaK|apply aa|apply aaI|apply aaC|apply acn|(apply acj;rfl)|(apply aeU;rfl)|(apply adt;rfl;rfl)|(apply acH;rfl;rfl;rfl)|(apply acv;rfl;rfl;rfl)|(apply abx;rfl;rfl)
structure CQ (M:az)(N:Nat):Prop extends CD M N where
 sn:∀a b x y,aN a x->aN b y->al x<wB^N->al y<wB^N->0<y->∃q r,aN q (x/y)/\aN r (x%y)/\∀h,M.ext 299 [a,b] h=some ⟨.ay [q,r],h,[]⟩
theorem eW {k:IntKind}{n:Int}:db (.int k n)=true:=rfl
theorem fL:db .ab=true:=rfl
theorem aN.shape {v:AV}{z:Int}(h:aN v z):∃s w,v = .agg [.iV s,w]/\db w=true/\w.top=0/\bR w=w:=by
 cases h with
 | small=>exact⟨_,_,rfl,rfl,rfl,rfl⟩
 | @fQ σ z w=>exact⟨_,_,rfl,rfl,iz _,by rw[bR,lS]⟩
theorem aN.one {s:Int}{w:AV}{z:Int}(h:aN (.agg [.iV s,w]) z):db w=true/\w.top=0/\bR w=w:=by
 obtain⟨s',w',e,h⟩:=h.shape;cases e;exact h
theorem Vi (C:CQ M N){a b:AV}{x y k:Int}(ha:aN a x)(hb:aN b y)(lx:al x<wB^N)(ly:al y<wB^N)(hy:y≠0)(hk:x=y*k):∃v0,aN v0 k/\dj M 258 [a,b] v0:=by
 have q230:=C.mV b y hb;by_cases hn:y<0
 . rw[show bB y = -1 from if_pos hn]at q230;obtain⟨va,h1,q201a⟩:=C.lW a x ha lx;obtain⟨vb,h2,q201b⟩:=C.lW b y hb ly;have h1:aN va (-x):=h1;have h2:aN vb (-y):=h2;obtain⟨q,r,hq,hr,q299⟩:=C.sn va vb _ _ h1 h2 (by rw[jM];exact lx) (by rw[jM];exact ly) ac;have hq:aN q k:=by
    have : -x / -y=k:=by rw[hk,←kw,ix _ ac]
    rw[←this];exact hq
   refine⟨q,hq,dm (by rw[C.ft];exact Ja) am ?_⟩;have out:=fun hh=>hq.out (hh:=hh)
   obtain⟨_,_,rfl,o1,_⟩:=ha.shape;obtain⟨_,_,rfl,o2,_⟩:=hb.shape;obtain⟨_,_,rfl,o3,_⟩:=hq.shape;obtain⟨_,_,rfl,o4,_⟩:=hr.shape;obtain⟨_,_,rfl,o5,_⟩:=h1.shape;obtain⟨_,_,rfl,o6,_⟩:=h2.shape;unfold CA;simp only[enter];repeat' first|(apply acq;rfl;rfl;first|exact q230 _|exact q201a _|exact q201b _|exact q299 _)|(apply adA;rfl;rfl;(first|(simp only[nca];rfl)|rfl);first|exact q230 _|exact q201a _|exact q201b _|exact q299 _)|(apply afa;rfl;rfl;rfl;exact⟨rfl,aL _,by simp[overwrite,eW,o3,o4,o5,o6]⟩;rfl)|apply aaK|apply aa|apply aaI|apply aaC|apply abZ|apply adJ|apply adY|(apply aeu;rfl;rfl;(first|(simp only[nca];rfl)|rfl))|(apply aeV;rfl;(first|(simp only[nca];rfl)|rfl);(first|(simp only[nca];rfl)|rfl))|(apply ack;rfl)|(apply acE;rfl;rfl)|(apply acH;rfl;rfl;rfl)|(apply acv;rfl;rfl;rfl)|(apply abx;rfl;rfl)|(intro _;omega)|intro _
   all_goals try omega
   all_goals exact cI rfl rfl (out _)
 . obtain⟨g,hg⟩:∃g,g=bB y:=⟨_,rfl⟩;have g0:0<=g:=by rw[hg];unfold bB;split <;> (first|omega|(split <;> omega))
   rw[←hg]at q230;obtain⟨q,r,hq,hr,q299⟩:=C.sn a b _ _ ha hb lx ly ac;have hq:aN q k:=by
    have:x/y=k:=by rw[hk,ix _ ac]
    rw[←this];exact hq
   refine⟨q,hq,dm (by rw[C.ft];exact Ja) am ?_⟩;have out:=fun hh=>hq.out (hh:=hh)
   obtain⟨_,_,rfl,o1,_⟩:=ha.shape;obtain⟨_,_,rfl,o2,_⟩:=hb.shape;obtain⟨_,_,rfl,o3,_⟩:=hq.shape;obtain⟨_,_,rfl,o4,_⟩:=hr.shape;unfold CA;simp only[enter];repeat' first|(apply acq;rfl;rfl;first|exact q230 _|exact q299 _)|(apply afa;rfl;rfl;rfl;exact⟨rfl,aL _,by simp[overwrite,eW,o3,o4]⟩;rfl)|apply aaK|apply aa|apply aaI|apply aaC|apply abZ|apply acn|(apply acj;rfl)|(apply acE;rfl;rfl)|(apply acH;rfl;rfl;rfl)|(apply acv;rfl;rfl;rfl)|(apply abx;rfl;rfl)|(intro _;omega)|intro _
   all_goals try omega
   all_goals exact cI rfl rfl (out _)
set_option maxRecDepth 1000000
def qw:ao:=.seq (zR [zm 7 1,zc 8 .gtr 7 0] (.cond (.l 8) (.skip) (.exit 0))) (.seq (.block 1 (.seq (zR [zm 11 1,zc 12 .and 11 1,zc 13 .eql 12 1] (.cond (.l 13) (.region [zt 14 2 4,zt 15 2 2,z2 16 199 14 15,zs 2 4 16]) (.skip))) (zR [zm 17 1,zc 18 .gtr 17 1] (.cond (.l 18) (.region [zt 19 2 2,zt 20 2 2,z2 21 199 19 20,zs 2 2 21]) (.skip))))) (.region [zm 9 1,⟨.l 10,.bin .shr (.l 9) (kU 1),none⟩,zw 1 10]))
def Ji:ao:=zR [zx 2 171 2 0,⟨.p 3,.alloc 171 [.iV (0),.ab],none⟩] (zR [⟨.l 6,.call (kF 196) [(kI 1)],none⟩,⟨.p 4,.alloc 171 [.iV (0),.ab],none⟩,zs 2 4 6] (.seq (.block 0 (.loop qw)) (zR [zt 22 2 4,zs 2 3 22] (.ret))))
theorem Vj:FT 284=some ⟨23,[0,1,2,4,5],[.cell 2 true (.p 3)],Ji⟩:=by kernel_rfl
def Jj:ao:=zR [⟨.p 1,.alloc 173 [.iV (0),.ab,.iV (0),.ab],none⟩] (zR [zm 3 0,z1 4 196 3,z1 5 195 4,zs 4 1 5] (.ret))
theorem Vk:FT 143=some ⟨6,[0,2],[.cell 4 true (.p 1)],Jj⟩:=by kernel_rfl
def Jk:ao:=zR [zx 1 171 2 0,⟨.p 2,.alloc 173 [.iV (0),.ab,.iV (0),.ab],none⟩] (.seq (.draw [(zt 3 2 1,[]),(⟨.l 4,.call (kF 196) [(kI 1)],none⟩,[0]),(⟨.l 5,.build [.iV (0),.ab,.iV (0),.ab] [(0,2,(.l 3)),(2,2,(.l 4))],none⟩,[]),(zs 4 2 5,[])]) (.ret))
theorem Vl:FT 195=some ⟨6,[0,1,2],[.cell 4 true (.p 2)],Jk⟩:=by kernel_rfl
def CL:ao:=zR [zx 2 171 2 0,zx 3 171 2 1,⟨.p 4,.alloc 173 [.iV (0),.ab,.iV (0),.ab],none⟩] (.seq (zR [zt 6 2 3,z1 7 230 6,zc 8 .lss 7 0] (.cond (.l 8) (.draw [(zt 9 2 2,[]),(z1 10 201 9,[]),(zt 11 2 3,[0,1]),(z1 12 201 11,[]),(zs 2 2 10,[]),(zs 2 3 12,[])]) (.skip))) (.seq (zR [zf 13 1 3,zd 14 1 13,⟨.l 15,.eq false (.ref .slice) (.l 14) (.c (.ab)),none⟩,zn 16 15,zg (zf 17 0 3) 16 true,zg (zd 18 1 17) 16 true,zg (zc 19 .eql 18 1) 16 true,zp 20 16 19] (.cond (.l 20) (zR [zt 21 2 2,zt 22 2 3,⟨.l 23,.build [.iV (0),.ab,.iV (0),.ab] [(0,2,(.l 21)),(2,2,(.l 22))],none⟩,zs 4 4 23] (.ret)) (.skip))) (zR [zt 24 2 2,zt 25 2 3,z2 26 229 24 25,⟨.p 5,.alloc 171 [.iV (0),.ab],none⟩,zs 2 5 26] (.seq (.draw [(zt 27 2 2,[]),(zt 28 2 5,[0]),(z2 29 258 27 28,[]),(zt 30 2 3,[0,1,2]),(zt 31 2 5,[0,1,2,3]),(z2 32 258 30 31,[]),(⟨.l 33,.build [.iV (0),.ab,.iV (0),.ab] [(0,2,(.l 29)),(2,2,(.l 32))],none⟩,[]),(zs 4 4 33,[])]) (.ret)))))
theorem Jl:FT 198=some ⟨34,[0,1,2,3,4,5],[.cell 4 true (.p 4)],CL⟩:=by kernel_rfl
def Jm:ao:=zR [zx 1 173 4 0,⟨.p 2,.alloc 173 [.iV (0),.ab,.iV (0),.ab],none⟩] (.seq (.draw [(zf 3 0 1,[]),(zT 4 2 3,[]),(z1 5 201 4,[]),(zf 6 2 1,[0,1,2]),(zT 7 2 6,[0,1,2]),(⟨.l 8,.build [.iV (0),.ab,.iV (0),.ab] [(0,2,(.l 5)),(2,2,(.l 7))],none⟩,[]),(zs 4 2 8,[])]) (.ret))
theorem Vm:FT 148=some ⟨9,[0,1,2],[.cell 4 true (.p 2)],Jm⟩:=by kernel_rfl
def Jn:ao:=zR [zx 2 173 4 0,zx 3 173 4 1,zi 4 0] (.seq (.draw [(zf 5 0 2,[]),(zT 6 2 5,[]),(zf 7 2 3,[0,1]),(zT 8 2 7,[0,1]),(z2 9 199 6 8,[]),(zf 10 0 3,[0,1,2,3,4]),(zT 11 2 10,[0,1,2,3,4]),(zf 12 2 2,[0,1,2,3,4,5,6]),(zT 13 2 12,[0,1,2,3,4,5,6]),(z2 14 199 11 13,[]),(z2 15 200 9 14,[]),(zw 4 15,[])]) (.ret))
theorem Vn:FT 147=some ⟨16,[0,1,2,3,4],[.var (.p 4)],Jn⟩:=by kernel_rfl
def Jo:ao:=zR [zx 1 173 4 0,⟨.p 2,.alloc 171 [.iV (0),.ab],none⟩] (zR [zf 6 0 1,zT 7 2 6,zf 8 2 1,zT 9 2 8,z2 10 299 7 9,zn 5 10,ze 11 0 5,ze 12 1 5,⟨.p 3,.alloc 171 [.iV (0),.ab],none⟩,⟨.l 4,.alloc 171 [.iV (0),.ab],none⟩,zs 2 3 11,zS 2 4 12] (zR [zt 13 2 3,zs 2 2 13] (.ret)))
theorem Vo:FT 231=some ⟨14,[0,1,2,3],[.cell 2 true (.p 2)],Jo⟩:=by kernel_rfl
def Jp:ao:=zR [zx 1 173 4 0,zi 2 0] (zR [zf 3 0 1,zT 4 2 3,z1 5 230 4,zw 2 5] (.ret))
theorem Vp:FT 173=some ⟨6,[0,1,2],[.var (.p 2)],Jp⟩:=by kernel_rfl
def iY (v:AV)(n d:Int):Prop:=∃s w s' w',v = .agg [.iV s,w,.iV s',w']/\aN (.agg [.iV s,w]) n/\aN (.agg [.iV s',w']) d
theorem iY.out {v:AV}{n d:Int}{hh:ae}(h:iY v n d):fw (aT [v]) hh v:=by
 obtain⟨s,w,s',w',rfl,h1,h2⟩:=h;obtain⟨_,t1,c1⟩:=h1.one;obtain⟨_,t2,c2⟩:=h2.one;exact .same (by simp[aT,AV.top,bG,t1,t2]) (by simp[aT,bR,da,c1,c2])
structure CF (M:az)(N:Nat):Prop extends CQ M N where
 CM:∀v z,aN v z->∃v0,iY v0 z 1/\∀h,M.ext 195 [v] h=some ⟨v0,h,[]⟩
 CN:∀a b x y,aN a x->aN b y->al x<wB^N->al y<wB^N->∀h,M.ext 200 [a,b] h=some ⟨.iV (bB (x-y)),h,[]⟩
 qx:we M N 199 (· * ·)
theorem Vq (C:CD M N){v:AV}{z:Int}(hv:aN v z):∃v0,iY v0 z 1/\dj M 195 [v] v0:=by
 obtain⟨s,w,rfl,o1,_⟩:=hv.shape;have q196:=C.mW 1;have hf:iY (.agg [.iV s,w,.iV 1,.ab]) z 1:=⟨_,_,_,_,rfl,hv,.small ak⟩;refine⟨_,hf,dm (by rw[C.ft];exact Vl) am ?_⟩;have out:=fun hh=>hf.out (hh:=hh)
 unfold Jk;simp only[enter];repeat' first|(apply adA;rfl;rfl;(first|(simp only[nca];rfl)|rfl);first|exact q196 _)|(apply afa;rfl;rfl;rfl;exact⟨rfl,aL _,by simp[overwrite,eW,fL,o1]⟩;rfl)|apply aaK|apply aa|apply aaI|apply aaC|apply abZ|apply adJ|apply adY|(apply aez;rfl)|(apply aeu;rfl;rfl;(first|(simp only[nca];rfl)|rfl))|(apply aeV;rfl;(first|(simp only[nca];rfl)|rfl);(first|(simp only[nca];rfl)|rfl))|(apply acH;rfl;rfl;rfl)|(apply acv;rfl;rfl;rfl)|(apply abx;rfl;rfl)
 exact cI rfl rfl (out _)
theorem Vr (C:CF M N){s:Int}(hs : -9223372036854775808<=s/\s<9223372036854775808):∃v0,iY v0 s 1/\dj M 143 [.iV s] v0:=by
 have q196:=C.mW s;obtain⟨v0,hf,q195⟩:=C.CM _ s (.small hs);refine⟨_,hf,dm (by rw[C.ft];exact Vk) am ?_⟩;have out:=fun hh=>hf.out (hh:=hh)
 obtain⟨s1,w,s',w',rfl,h1,h2⟩:=hf;obtain⟨o1,_⟩:=h1.one;obtain⟨o2,_⟩:=h2.one;unfold Jj;simp only[enter];repeat' first|(apply afa;rfl;rfl;rfl;exact⟨rfl,aL _,by simp[eW,o1,o2]⟩;rfl)|apply aaK|apply aa|apply aaI|apply aaC|apply abZ|(apply acq;rfl;rfl;first|exact q196 _|exact q195 _)|(apply acv;rfl;rfl;rfl)|(apply abx;rfl;rfl)
 exact cI rfl rfl (out _)
theorem Vs (C:CJ M N){v:AV}{n d:Int}(hv:iY v n d)(ln:al n<wB^N):∃v0,iY v0 (-n) d/\dj M 148 [v] v0:=by
 obtain⟨s1,w,s',w',rfl,h1,h2⟩:=hv;obtain⟨v1,h3,q201⟩:=C.lW _ n h1 ln;obtain⟨s3,w3,rfl,o3,_⟩:=h3.shape;obtain⟨o1,_⟩:=h1.one;obtain⟨o2,_⟩:=h2.one;have hf:iY (.agg [.iV s3,w3,.iV s',w']) (-n) d:=⟨_,_,_,_,rfl,h3,h2⟩;refine⟨_,hf,dm (by rw[C.ft];exact Vm) am ?_⟩;have out:=fun hh=>hf.out (hh:=hh)
 unfold Jm;simp only[enter];repeat' first|(apply adA;rfl;rfl;(first|(simp only[nca];rfl)|rfl);first|exact q201 _)|(apply afa;rfl;rfl;rfl;exact⟨rfl,aL _,by simp[overwrite,eW,o2,o3]⟩;rfl)|apply aaK|apply aa|apply aaI|apply aaC|apply abZ|apply adJ|apply adY|(apply aez;rfl)|(apply aeu;rfl;rfl;(first|(simp only[nca];rfl)|rfl))|(apply aeV;rfl;(first|(simp only[nca];rfl)|rfl);(first|(simp only[nca];rfl)|rfl))|(apply acH;rfl;rfl;rfl)|(apply acv;rfl;rfl;rfl)|(apply abx;rfl;rfl)
 exact cI rfl rfl (out _)
theorem Vt (C:CJ M N){v:AV}{n d:Int}(hv:iY v n d):dj M 173 [v] (.iV (bB n)):=by
 obtain⟨s1,w,s',w',rfl,h1,h2⟩:=hv;have q230:=C.mV _ n h1;refine dm (by rw[C.ft];exact Vp) am ?_;unfold Jp;simp only[enter];repeat' first|apply aaK|apply aa|apply aaI|apply aaC|apply abZ|(apply acq;rfl;rfl;first|exact q230 _)|(apply acH;rfl;rfl;rfl)|(apply acv;rfl;rfl;rfl)|(apply abx;rfl;rfl)|(apply abO;rfl;rfl)
 exact cI rfl rfl (.same rfl rfl)
section
variable {t n m:Nat} {x y:aS} {l:List bj} {pe:List AV} {lo:List (Nat×AV)} {H:ae} {df wr:List Nat} {c c' new:List AV} {e:TypeId} {a:Option cd} {Q:aw->Prop}
theorem agH (hx:(St.mk pe lo (H++[some (.cells c e)]++[a]) df).ah x=some (.ptr H.length 0))(hy:((St.mk pe lo (H++[some (.cells c e)]++[a]) df).ah y).bind AV.cells=some new)(hn:new.length=n/\0+n<=c.length/\new.all db=true)(hc:overwrite c 0 new=c')
 (h:WO M l ⟨⟨pe,lo,H++[some (.cells c' e)]++[a],df⟩,H.length::wr⟩ Q):WO M (⟨.no,.store n x y,none⟩::l) ⟨⟨pe,lo,H++[some (.cells c e)]++[a],df⟩,wr⟩ Q:=by
 refine afa hx hy (cW cC) hn hc ?_;have:ae.put (H++[some (.cells c e)]++[a]) H.length (some (.cells c' e))=H++[some (.cells c' e)]++[a]:=by
  simp[ae.put]
 rw[this];exact h
theorem agI (hx:(St.mk pe lo (H++[a]++[some (.cells c e)]) df).ah x=some (.ptr m 0))(hy:((St.mk pe lo (H++[a]++[some (.cells c e)]) df).ah y).bind AV.cells=some new)(hm:m=H.length+1)(hn:new.length=n/\0+n<=c.length/\new.all db=true)(hc:overwrite c 0 new=c')
 (h:WO M l ⟨⟨pe,lo,H++[a]++[some (.cells c' e)],df⟩,m::wr⟩ Q):WO M (⟨.no,.store n x y,none⟩::l) ⟨⟨pe,lo,H++[a]++[some (.cells c e)],df⟩,wr⟩ Q:=by
 subst hm;have hl:H.length+1=(H++[a]).length:=by simp
 rw[hl]at hx h;refine afa hx hy cC hn hc ?_;have:ae.put (H++[a]++[some (.cells c e)]) (H++[a]).length (some (.cells c' e))=H++[a]++[some (.cells c' e)]:=IH;rw[this];exact h
theorem agJ {ag:Bool}{v:AV}(hx:(St.mk pe lo (H++[a]++[some (.cells c e)]) df).ah x=some (.ptr m 0))(hm:m=H.length+1)(hv:partOf (c.drop 0) 0 n ag=some v)
 (h:WO M l ⟨⟨pe,(t,v)::lo,H++[a]++[some (.cells c e)],df⟩,wr⟩ Q):WO M (⟨.l t,.load n ag x,none⟩::l) ⟨⟨pe,lo,H++[a]++[some (.cells c e)],df⟩,wr⟩ Q:=by
 subst hm;have hl:H.length+1=(H++[a]).length:=by simp
 rw[hl]at hx;exact afN hx cC hv h
end
theorem CO {x y:Int}:b8 y (x%y)=b8 x y:=by
 have h:=Int.gcd_add_mul_left_right y (x%y) (x/y);rw[Int.emod_add_mul_ediv]at h;rw[←h,j5]
def sr (s s':Int)(w w':AV)(J:ae):ae:=[some (.cells [.iV s,w] 171),some (.cells [.iV s',w'] 171),some (.cells [.iV 0,.ab] 171)]++J
theorem Vx (C:CQ M N){G:Nat}{Q:Ex->aw->Prop}(a0 a1:AV)
 (hQ:∀s s' w w' J p5 lo wr (x:Int),aN (.agg [.iV s,w]) x->x=G->Q (.exit 0) ⟨⟨[a0,a1,.ptr 0 0,.ptr 1 0,.ptr 2 0,p5],lo,sr s s' w w' J,[]⟩,wr⟩)
 (s s':Int) (w w':AV) (J:ae) (p5:AV) (lo:List (Nat×AV)) (wr:List Nat) (x y:Int) (hx:aN (.agg [.iV s,w]) x) (hy:aN (.agg [.iV s',w']) y) (x0:0<=x/\x<wB^N) (y0:0<=y/\y<wB^N) (hG:b8 x y=G) :
 W M (.loop wc) ⟨⟨[a0,a1,.ptr 0 0,.ptr 1 0,.ptr 2 0,p5],lo,sr s s' w w' J,[]⟩,wr⟩ Q:=by
 refine W.gP (fun m st=>∃s s' w w' J p5 lo wr x y,st=⟨⟨[a0,a1,.ptr 0 0,.ptr 1 0,.ptr 2 0,p5],lo,sr s s' w w' J,[]⟩,wr⟩/\m=y.toNat/\aN (.agg [.iV s,w]) x/\aN (.agg [.iV s',w']) y/\(0<=x/\x<wB^N)/\(0<=y/\y<wB^N)/\b8 x y=G)
  (fun m st ⟨s,s',w,w',J,p5,lo,wr,x,y,hst,hm,hx,hy,x0,y0,hG⟩=>?_) (m:=y.toNat) ⟨s,s',w,w',J,p5,lo,wr,x,y,rfl,rfl,hx,hy,x0,y0,hG⟩
 subst hst;subst hm;have q230:=C.mV _ y hy;by_cases h0:y=0
 . subst h0;have e:x=G:=by rw[←hG,Int.gcd_zero];omega
   rw[show bB 0=0 from rfl]at q230;unfold wc;repeat' first|apply aaK|apply aa|apply aaI|apply aaC|apply acV|apply bh|apply bF|(apply acj;rfl)|(apply adH;rfl;rfl)|(apply acq;rfl;rfl;first|exact q230 _)|(apply acH;rfl;rfl;rfl)|(intro _;omega)|intro _
   all_goals try omega
   exact hQ _ _ _ _ _ _ _ _ x hx e
 . rw[show bB y=1 by unfold bB;rw[if_neg ac,if_pos ac]]at q230;obtain⟨q,r,hq,hr,q299⟩:=C.sn _ _ x y hx hy (by rw[fk x0.1];exact x0.2) (by rw[fk y0.1];exact y0.2) ac;obtain⟨o1,_⟩:=hx.one;obtain⟨o2,_⟩:=hy.one;obtain⟨s1,w1,rfl,o3,_⟩:=hq.shape;obtain⟨s2,w2,rfl,o4,_⟩:=hr.shape;have r0:=fW x (show y≠0 by omega);have r1:=cP x (show 0<y by omega);have next:∀J p5 lo wr,LI (fun st=>∃m',m'<y.toNat/\∃s s' w w' J p5 lo wr x y,st=⟨⟨[a0,a1,.ptr 0 0,.ptr 1 0,.ptr 2 0,p5],lo,sr s s' w w' J,[]⟩,wr⟩/\m'=y.toNat/\aN (.agg [.iV s,w]) x/\aN (.agg [.iV s',w']) y/\(0<=x/\x<wB^N)/\(0<=y/\y<wB^N)/\b8 x y=G) Q .normal ⟨⟨[a0,a1,.ptr 0 0,.ptr 1 0,.ptr 2 0,p5],lo,sr s' s2 w' w2 J,[]⟩,wr⟩:=fun J p5 lo wr=>
    ek ⟨(x%y).toNat,ac,_,_,_,_,J,p5,lo,wr,y,x%y,rfl,rfl,hy,hr,y0,⟨r0,ac⟩,by rw[CO,hG]⟩
   unfold wc;repeat' first|(apply agH;rfl;rfl;exact⟨rfl,aL _,by simp[eW,o3]⟩;rfl)|(apply agI;rfl;rfl;simp;exact⟨rfl,aL _,by simp[eW,o4]⟩;rfl)|(apply agJ;rfl;simp;rfl)|(apply afa;rfl;rfl;rfl;exact⟨rfl,aL _,by simp[overwrite,eW,o2,o4]⟩;rfl)|apply aaK|apply aa|apply aaI|apply aaC|apply acu|apply acn|apply bc|apply adJ|apply adY|(apply aeu;rfl;rfl;(first|(simp only[nca];rfl)|rfl))|(apply aeV;rfl;(first|(simp only[nca];rfl)|rfl);(first|(simp only[nca];rfl)|rfl))|(apply ack;rfl)|(apply adH;rfl;rfl)|(apply acq;rfl;rfl;first|exact q230 _|exact q299 _)|(apply acH;rfl;rfl;rfl)|(apply acv;rfl;rfl;rfl)|(apply abx;rfl;rfl)|(intro _;omega)|intro _
   all_goals try omega
   all_goals exact next _ _ _ _
structure CG (M:az)(N:Nat):Prop extends CQ M N where
 CP:CC M N 298 al
theorem Vy {x y:Int}:b8 (al x) (al y)=b8 x y:=by
 have h:∀z:Int,(al z).natAbs=z.natAbs:=fun z=>by unfold al;split <;> omega
 show n6 _ _=n6 _ _;rw[h,h]
theorem Vz (C:CG M N){a b:AV}{x y:Int}(ha:aN a x)(hb:aN b y)(lx:al x<wB^N)(ly:al y<wB^N):∃v0,aN v0 (b8 x y:Nat)/\dj M 229 [a,b] v0:=by
 obtain⟨va,h1,q298a⟩:=C.CP a x ha lx;obtain⟨vb,h2,q298b⟩:=C.CP b y hb ly;obtain⟨sa,wa,rfl,o1,_⟩:=ha.shape;obtain⟨sb,wb,rfl,o2,_⟩:=hb.shape;obtain⟨s1,w1,rfl,o3,_⟩:=h1.shape;obtain⟨s2,w2,rfl,o4,_⟩:=h2.shape;obtain⟨v,hh,⟨v0,h0,ho⟩,hr⟩:=iL (M:=M) (f:=229) (ars:=[.agg [.iV sa,wa],.agg [.iV sb,wb]]) (P:=fun v hh=>∃v0,aN v0 (b8 x y:Nat)/\fw v hh v0) (by rw[C.ft];exact UM) am (by
  unfold Jb;simp only[enter];repeat' first|(apply adA;rfl;rfl;(first|(simp only[nca];rfl)|rfl);first|exact q298a _|exact q298b _)|(apply afa;rfl;rfl;rfl;exact⟨rfl,aL _,by simp[eW,o3,o4]⟩;rfl)|apply aaK|apply aa|apply aaI|apply aaC|apply acu|apply adJ|apply adY|(apply aeu;rfl;rfl;(first|(simp only[nca];rfl)|rfl))|(apply aeV;rfl;(first|(simp only[nca];rfl)|rfl);(first|(simp only[nca];rfl)|rfl))|(apply acH;rfl;rfl;rfl)|(apply acv;rfl;rfl;rfl)
  refine Vx C.toCQ (G:=b8 x y) _ _ (fun s s' w w' J p5 lo wr g hg eg=>?_) s1 s2 w1 w2 [] _ _ _ (al x) (al y) h1 h2 ⟨kq,lx⟩ ⟨kq,ly⟩ Vy;obtain⟨o5,t5,k5⟩:=hg.one;repeat' first|(apply afa;rfl;rfl;rfl;exact⟨rfl,aL _,by simp[eW,o5]⟩;rfl)|apply aaK|apply aa|apply aaI|apply aaC|apply abZ|apply bk|(apply acH;rfl;rfl;rfl)
  rw[eg]at hg;exact⟨.inr rfl,rfl,_,rfl,_,hg,hg.out⟩)
 exact⟨v0,h0,v,hh,ho,hr⟩
def dP (v:AV)(q:Rat):Prop:=iY v q.num q.den
structure CR (M:az)(N:Nat):Prop extends CG M N where
 ss:∀a b x y,aN a x->aN b y->al x<wB^N->al y<wB^N->∃v0,aN v0 (b8 x y:Nat)/\∀h,M.ext 229 [a,b] h=some ⟨v0,h,[]⟩
 CU:∀a b x y k,aN a x->aN b y->al x<wB^N->al y<wB^N->y≠0->x=y*k->∃v0,aN v0 k/\∀h,M.ext 258 [a,b] h=some ⟨v0,h,[]⟩
def t198:ao:=
 .seq (zR [zf 13 1 3,
       zd 14 1 13,
       ⟨(.l 15),.eq false (.ref .slice) (.l 14) (.c (.ab)),none⟩,
       zn 16 15,
       zg (zf 17 0 3) 16 true,
       zg (zd 18 1 17) 16 true,
       zg (zc 19 .eql 18 1) 16 true,
       zp 20 16 19]
     (
      .cond (.l 20)
      (
       zR [zt 21 2 2,
         zt 22 2 3,
         ⟨(.l 23),.build [.iV (0),.ab,.iV (0),.ab] [(0,2,(.l 21)),(2,2,(.l 22))],none⟩,
         zs 4 4 23]
       (.ret))
      (.skip)))
    (
     zR [zt 24 2 2,
       zt 25 2 3,
       z2 26 229 24 25,
       ⟨(.p 5),.alloc 171 [.iV (0),.ab],none⟩,
       zs 2 5 26]
     (
      .seq (.draw [(zt 27 2 2,[]),
        (zt 28 2 5,[0]),
        (z2 29 258 27 28,[]),
        (zt 30 2 3,[0,1,2]),
        (zt 31 2 5,[0,1,2,3]),
        (z2 32 258 30 31,[]),
        (⟨(.l 33),.build [.iV (0),.ab,.iV (0),.ab] [(0,2,(.l 29)),(2,2,(.l 32))],none⟩,[]),
        (zs 4 4 33,[])])
      (.ret)))
theorem lZ {n:Int}:(ba n 1).num=n/\(ba n 1).den=1:=by
 refine⟨?_,?_⟩
 . rw[m5];simp
 . rw[m6];simp
theorem wi {n d:Int}(h:0<d):∃k1 k2:Int,n=(b8 n d:Nat)*k1/\d=(b8 n d:Nat)*k2/\(ba n d).num=k1/\((ba n d).den:Int)=k2:=by
 have g0:(b8 n d:Int)≠0:=by
  have:=c8 n (show d≠0 by omega);omega
 obtain⟨k1,h1⟩:=Int.gcd_dvd_left n d;obtain⟨k2,h2⟩:=j6 n d;refine⟨k1,k2,h1,h2,?_,?_⟩
 . rw[m5,Int.sign_eq_one_of_pos h,Int.one_mul,j5 d n];exact gF g0 h1
 . rw[m6,if_neg ac,j5 d n];have e:((d.natAbs/b8 n d:Nat):Int)=d/(b8 n d:Int):=by
    rw[Int.natCast_ediv,Int.natAbs_of_nonneg ac]
   rw[e];exact gF g0 h2
theorem VA {x y:Int}(h:0<y):al (b8 x y:Nat)<=al y:=by
 have:=Int.le_of_dvd h (j6 x y);rw[fk ac,fk ac];exact this
theorem Jq (C:CR M N){s s' n d:Int}{w w':AV}(hn:aN (.agg [.iV s,w]) n)(hd:aN (.agg [.iV s',w']) d)(ln:al n<wB^N)(ld:al d<wB^N)(d0:0<d) :
 ∃v0,dP v0 (ba n d)/\∀a0 a1 p5 lo wr,W M t198 ⟨⟨[a0,a1,.ptr 0 0,.ptr 1 0,.ptr 2 0,p5],lo,[some (.cells [.iV s,w] 171),some (.cells [.iV s',w'] 171),some (.cells [.iV 0,.ab,.iV 0,.ab] 173)],[]⟩,wr⟩ (lT v0 [.cell 4 true (.p 4)]):=by
 obtain⟨o1,_⟩:=hn.one;by_cases h1:d=1/\w' = .ab
 . obtain⟨rfl,rfl⟩:=h1;have hs:s'=1:=by cases hd;rfl
   subst hs;have hf:dP (.agg [.iV s,w,.iV 1,.ab]) (ba n 1):=by
    unfold dP;rw[lZ.1,lZ.2];exact⟨_,_,_,_,rfl,hn,hd⟩
   refine⟨_,hf,fun a0 a1 p5 lo wr=>?_⟩;have out:=fun hh=>hf.out (hh:=hh)
   unfold t198;repeat' first|(apply afa;rfl;rfl;rfl;exact⟨rfl,aL _,by simp[overwrite,eW,fL,o1]⟩;rfl)|apply aaK|apply aa|apply aaI|apply aaC|apply abZ|apply aP|(apply ack;rfl)|(apply adx;rfl)|(apply adw;rfl;rfl)|(apply acJ;rfl;rfl)|(apply acH;rfl;rfl;rfl)|(apply abx;rfl;rfl)|(intro _;omega)|intro _
   all_goals try omega
   all_goals exact cI rfl rfl (out _)
 . obtain⟨k1,k2,e1,e2,e3,e4⟩:=wi (n:=n) d0;obtain⟨vg,hg,q229⟩:=C.ss _ _ n d hn hd ln ld;have lg:al (b8 n d:Nat)<wB^N:=fX (VA d0) ld;have g0:(b8 n d:Int)≠0:=by
    have:=c8 n (show d≠0 by omega);omega
   obtain⟨v1,hv1,q258a⟩:=C.CU _ vg n _ k1 hn hg ln lg g0 e1;obtain⟨v2,hv2,q258b⟩:=C.CU _ vg d _ k2 hd hg ld lg g0 e2;obtain⟨sg,wg,rfl,og,_⟩:=hg.shape;obtain⟨s1,w1,rfl,o3,_⟩:=hv1.shape;obtain⟨s2,w2,rfl,o4,_⟩:=hv2.shape;have hf:dP (.agg [.iV s1,w1,.iV s2,w2]) (ba n d):=by
    unfold dP;rw[e3,e4];exact⟨_,_,_,_,rfl,hv1,hv2⟩
   refine⟨_,hf,fun a0 a1 p5 lo wr=>?_⟩;have out:=fun hh=>hf.out (hh:=hh)
   unfold t198;cases hd with
   | small h=>
    have h2:s'≠1:=fun e=>h1 ⟨e,rfl⟩
    repeat' first|(apply acq;rfl;rfl;first|exact q229 _|exact q258a _|exact q258b _)|(apply adA;rfl;rfl;(first|(simp only[nca];rfl)|rfl);first|exact q229 _|exact q258a _|exact q258b _)|(apply afa;rfl;rfl;rfl;exact⟨rfl,aL _,by simp[overwrite,eW,og,o3,o4]⟩;rfl)|apply aaK|apply aa|apply aaI|apply aaC|apply abZ|apply acn|apply adJ|apply adY|(apply aez;rfl)|(apply aeu;rfl;rfl;(first|(simp only[nca];rfl)|rfl))|(apply aeV;rfl;(first|(simp only[nca];rfl)|rfl);(first|(simp only[nca];rfl)|rfl))|(apply acj;rfl)|(apply adx;rfl)|(apply adw;rfl;rfl)|(apply acJ;rfl;rfl)|(apply acH;rfl;rfl;rfl)|(apply acv;rfl;rfl;rfl)|(apply abx;rfl;rfl)|(intro _;omega)|intro _
    all_goals try omega
    all_goals exact cI rfl rfl (out _)
   | @fQ σ z ww hs ok nr hw hz=>
    cases ww with
    | nil=>simp[WV]at hw
    | cons y ww=>
    repeat' first|(apply acq;rfl;rfl;first|exact q229 _|exact q258a _|exact q258b _)|(apply adA;rfl;rfl;(first|(simp only[nca];rfl)|rfl);first|exact q229 _|exact q258a _|exact q258b _)|(apply afa;rfl;rfl;rfl;exact⟨rfl,aL _,by simp[overwrite,eW,og,o3,o4]⟩;rfl)|apply aaK|apply aa|apply aaI|apply aaC|apply abZ|apply acn|apply adJ|apply adY|(apply aez;rfl)|(apply aeu;rfl;rfl;(first|(simp only[nca];rfl)|rfl))|(apply aeV;rfl;(first|(simp only[nca];rfl)|rfl);(first|(simp only[nca];rfl)|rfl))|(apply acj;rfl)|(apply aeU;rfl)|(apply adt;rfl;rfl)|(apply acH;rfl;rfl;rfl)|(apply acv;rfl;rfl;rfl)|(apply abx;rfl;rfl)
    all_goals try omega
    all_goals exact cI rfl rfl (out _)
theorem VB (C:CR M N){a b:AV}{n d:Int}(ha:aN a n)(hb:aN b d)(ln:al n<wB^N)(ld:al d<wB^N)(d0:d≠0):∃v0,dP v0 (ba n d)/\dj M 198 [a,b] v0:=by
 have q230:=C.mV b d hb;by_cases hn:d<0
 . rw[show bB d = -1 from if_pos hn]at q230;obtain⟨va,h1,q201a⟩:=C.lW a n ha ln;obtain⟨vb,h2,q201b⟩:=C.lW b d hb ld;have h1:aN va (-n):=h1;have h2:aN vb (-d):=h2;obtain⟨_,_,rfl,o1,_⟩:=ha.shape;obtain⟨_,_,rfl,o2,_⟩:=hb.shape;obtain⟨_,_,rfl,o3,_⟩:=h1.shape;obtain⟨_,_,rfl,o4,_⟩:=h2.shape;obtain⟨v0,hf,tl⟩:=Jq C h1 h2 (by rw[jM];exact ln) (by rw[jM];exact ld) ac;rw[Rat.neg_divInt_neg]at hf;refine⟨v0,hf,dm (by rw[C.ft];exact Jl) am ?_⟩;unfold CL;simp only[enter];repeat' first|(exact tl _ _ _ _ _)|(apply acq;rfl;rfl;first|exact q230 _|exact q201a _|exact q201b _)|(apply adA;rfl;rfl;(first|(simp only[nca];rfl)|rfl);first|exact q230 _|exact q201a _|exact q201b _)|(apply afa;rfl;rfl;rfl;exact⟨rfl,aL _,by simp[eW,o3,o4]⟩;rfl)|apply aaK|apply aa|apply aaI|apply aaC|apply adJ|apply adY|(apply aeu;rfl;rfl;(first|(simp only[nca];rfl)|rfl))|(apply aeV;rfl;(first|(simp only[nca];rfl)|rfl);(first|(simp only[nca];rfl)|rfl))|(apply ack;rfl)|(apply acE;rfl;rfl)|(apply acH;rfl;rfl;rfl)|(apply acv;rfl;rfl;rfl)|(intro _;omega)|intro _
   all_goals try omega
 . obtain⟨g,hg⟩:∃g,g=bB d:=⟨_,rfl⟩;have g0:0<=g:=by rw[hg];unfold bB;split <;> (first|omega|(split <;> omega))
   rw[←hg]at q230;obtain⟨_,_,rfl,o1,_⟩:=ha.shape;obtain⟨_,_,rfl,o2,_⟩:=hb.shape;obtain⟨v0,hf,tl⟩:=Jq C ha hb ln ld ac;refine⟨v0,hf,dm (by rw[C.ft];exact Jl) am ?_⟩;unfold CL;simp only[enter];repeat' first|(exact tl _ _ _ _ _)|(apply acq;rfl;rfl;first|exact q230 _)|apply aaK|apply aa|apply aaI|apply aaC|apply acn|(apply acj;rfl)|(apply acE;rfl;rfl)|(apply acH;rfl;rfl;rfl)|(apply acv;rfl;rfl;rfl)|(intro _;omega)|intro _
   all_goals try omega
def Bq (N:Nat)(q:Rat):Prop:=al q.num<wB^N/\(q.den:Int)<wB^N
structure CS (M:az)(N N2:Nat):Prop extends CF M N where
 fQ:CF M N2
 hN:2*N+1<=N2
 VC:∀a b n d,aN a n->aN b d->al n<wB^N2->al d<wB^N2->d≠0->∃v0,dP v0 (ba n d)/\∀h,M.ext 198 [a,b] h=some ⟨v0,h,[]⟩
theorem den_pos {q:Rat}:0<(q.den:Int):=by have:=q.den_pos;omega
theorem wj {x y:Int}:al (x*y)=al x*al y:=by
 have h:∀z:Int,al z=(z.natAbs:Int):=fun z=>by unfold al;split <;> omega
 rw[h,h,h,Int.natAbs_mul,Int.natCast_mul]
variable {N2:Nat}
theorem CS.Jr (C:CS M N N2){x y:Int}(hx:al x<wB^N)(hy:al y<wB^N):al (x*y)<wB^N2:=by
 rw[wj];have h1:=bN (d6 hy) (kq (x:=x));have hp:(0:Int)<wB^N:=i7 ak;have h2:=dK hx hp;have h3:=iy (b:=wB) ak (m:=N+N) (n:=N2) (by have:=C.hN;omega);rw[ip]at h3;omega
theorem dP.one {v:AV}{n:Int}(h:iY v n 1):dP v (ba n 1):=by
 unfold dP;rw[lZ.1,lZ.2];exact h
theorem CV (p q:Rat):p+q=ba (p.num*q.den+q.num*p.den) (p.den*q.den):=by
 have dp:=den_pos (q:=p);have dq:=den_pos (q:=q);have e:=Rat.divInt_add_divInt p.num q.num (d₁:=p.den) (d₂:=q.den) ac ac;rwa [j2,j2]at e
theorem VD (C:CJ M N){v:AV}{q:Rat}(hv:dP v q)(lq:Bq N q):∃v0,dP v0 (-q)/\dj M 148 [v] v0:=by
 obtain⟨v0,h0,hr⟩:=Vs C hv lq.1;exact⟨v0,h0,hr⟩
theorem Bq.neg {q:Rat}(h:Bq N q):Bq N (-q):=⟨by rw[le,jM];exact h.1,h.2⟩
theorem VE (C:CS M N N2){a b:AV}{p q:Rat}(ha:dP a p)(hb:dP b q)(lp:Bq N p)(lq:Bq N q):dj M 147 [a,b] (.iV (bB (p.num*q.den-q.num*p.den))):=by
 obtain⟨s1,w1,s2,w2,rfl,h1,h2⟩:=ha;obtain⟨s3,w3,s4,w4,rfl,h3,h4⟩:=hb;have dp:=den_pos (q:=p);have dq:=den_pos (q:=q);have hdp:al (p.den:Int)<wB^N:=by rw[fk ac];exact lp.2
 have hdq:al (q.den:Int)<wB^N:=by rw[fk ac];exact lq.2
 obtain⟨v1,k1,q199a⟩:=C.qx _ _ _ _ h1 h4 lp.1 hdq;obtain⟨v2,k2,q199b⟩:=C.qx _ _ _ _ h3 h2 lq.1 hdp;have q200:=C.fQ.CN v1 v2 _ _ k1 k2 (C.Jr lp.1 hdq) (C.Jr lq.1 hdp);refine dm (by rw[C.ft];exact Vn) am ?_;unfold Jn;simp only[enter];repeat' first|(apply adA;rfl;rfl;(first|(simp only[nca];rfl)|rfl);first|exact q199a _|exact q199b _|exact q200 _)|apply aaK|apply aa|apply aaI|apply aaC|apply abZ|apply adJ|apply adY|(apply aez;rfl)|(apply aeu;rfl;rfl;(first|(simp only[nca];rfl)|rfl))|(apply acH;rfl;rfl;rfl)|(apply acv;rfl;rfl;rfl)|(apply abx;rfl;rfl)|(apply abO;rfl;rfl)
 all_goals exact cI rfl rfl (.same rfl rfl)
theorem VF (C:CS M N N2){v:AV}{q:Rat}(hv:dP v q)(lq:Bq N q):∃v0,aN v0 (q.num/q.den)/\dj M 231 [v] v0:=by
 obtain⟨s1,w1,s2,w2,rfl,h1,h2⟩:=hv;have dq:=den_pos (q:=q);have hdq:al (q.den:Int)<wB^N:=by rw[fk ac];exact lq.2
 obtain⟨v0,r,k0,kr,q299⟩:=C.sn _ _ _ _ h1 h2 lq.1 hdq dq;refine⟨v0,k0,dm (by rw[C.ft];exact Vo) am ?_⟩;have out:=fun hh=>k0.out (hh:=hh)
 obtain⟨s5,w5,rfl,o5,_⟩:=k0.shape;obtain⟨s6,w6,rfl,o6,_⟩:=kr.shape;unfold Jo;simp only[enter];repeat' first|(apply acq;rfl;rfl;first|exact q299 _)|(apply afa;rfl;rfl;rfl;exact⟨rfl,aL _,by simp[overwrite,eW,o5,o6]⟩;rfl)|apply aaK|apply aa|apply aaI|apply aaC|apply abZ|(apply acH;rfl;rfl;rfl)|(apply acv;rfl;rfl;rfl)|(apply abx;rfl;rfl)
 all_goals exact cI rfl rfl (out _)
section
variable {t:Nat} {x y:aS} {l:List bj} {pe:List AV} {lo:List (Nat×AV)} {hp:ae} {df wr:List Nat} {a:Int} {k:IntKind} {Q:aw->Prop}
theorem agk (hx:(St.mk pe lo hp df).ah x=some (.iV a))
 (h:WO M l ⟨⟨pe,(t,.iV (a/2))::lo,hp,df⟩,wr⟩ Q):WO M (⟨.l t,.bin .shr x (.c (.int k 1)),none⟩::l) ⟨⟨pe,lo,hp,df⟩,wr⟩ Q:=by
 refine WO.op (WP.pure (v:=.iV (a/2)) rfl ?_ h);have:a.fdiv (2^min (n5 1) IntKind.i64.bits)=a/2:=by
  show a.fdiv 2=a/2;rw[Int.fdiv_eq_ediv_of_nonneg _ ac]
 have e:(St.mk pe lo hp df).ah (.c (.int k 1))=some (.int k 1):=rfl;simp only[br,hx,e,dO,this];rfl
theorem agl (hx:(St.mk pe lo hp df).ah x=some (.iV a))(hy:(St.mk pe lo hp df).ah y=some (.iV 1))(ha:0<=a/\a<9223372036854775808)
 (h:WO M l ⟨⟨pe,(t,.iV (a%2))::lo,hp,df⟩,wr⟩ Q):WO M (⟨.l t,.bin .and x y,none⟩::l) ⟨⟨pe,lo,hp,df⟩,wr⟩ Q:=by
 refine abx (v:=.iV (a%2)) ?_ rfl h;obtain⟨n,rfl⟩:=Int.eq_ofNat_of_zero_le ha.1;have e:(BitVec.ofInt 64 (n:Int) &&& BitVec.ofInt 64 1).toNat=n%2:=by
  rw[qi,show (1:Int)=((1:Nat):Int) from rfl,qi,BitVec.toNat_and,BitVec.toNat_ofNat,BitVec.toNat_ofNat,iM (show n<2^64 by omega),iM (show 1<2^64 by decide)];exact Nat.and_two_pow_sub_one_eq_mod n 1
 simp only[br,hx,hy,dO,if_true];show some (AV.iV (IntKind.i64.wrap ((BitVec.ofInt 64 (n:Int) &&& BitVec.ofInt 64 1).toNat:Int)))=_;rw[e,nP ac];rfl
end
def su (s so:Int)(w wo:AV):ae:=[some (.cells [.iV s,w] 171),some (.cells [.iV 0,.ab] 171),some (.cells [.iV so,wo] 171)]
theorem VG (C:CF M N){A:Int}{K:Nat}(hK:K<1000000)(hB:∀i,i<=K->al (A^i)<wB^N){Q:Ex->aw->Prop}(a0:AV)
 (hQ:∀s so w wo p1 lo wr,aN (.agg [.iV so,wo]) (A^K)->Q (.exit 0) ⟨⟨[a0,p1,.ptr 0 0,.ptr 1 0,.ptr 2 0],lo,su s so w wo,[]⟩,wr⟩)
 (s so:Int) (w wo:AV) (lo:List (Nat×AV)) (wr:List Nat) (hs:aN (.agg [.iV s,w]) A) (ho:aN (.agg [.iV so,wo]) 1) :
 W M (.loop qw) ⟨⟨[a0,.iV K,.ptr 0 0,.ptr 1 0,.ptr 2 0],lo,su s so w wo,[]⟩,wr⟩ Q:=by
 refine W.gP (fun m st=>∃s so w wo kv lo wr i j,st=⟨⟨[a0,.iV kv,.ptr 0 0,.ptr 1 0,.ptr 2 0],lo,su s so w wo,[]⟩,wr⟩/\kv=(m:Int)/\aN (.agg [.iV s,w]) (A^i)/\aN (.agg [.iV so,wo]) (A^j)/\j+i*m=K/\m<=K)
  (fun m st ⟨s,so,w,wo,kv,lo,wr,i,j,hst,hkv,hs,ho,hj,hmK⟩=>?_) (m:=K) ⟨s,so,w,wo,_,lo,wr,1,0,rfl,rfl,by rw[Int.pow_one];exact hs,by rw[j7];exact ho,ac,aL _⟩
 subst hst;subst hkv;by_cases h0:m=0
 . subst h0;have ej:j=K:=by omega
   subst ej;unfold qw;repeat' first|apply aaK|apply aa|apply aaI|apply aaC|apply acV|apply bh|apply bF|(apply acj;rfl)|(apply acI;rfl;rfl)|(apply abx;rfl;rfl)|(intro _;omega)|intro _
   all_goals try omega
   exact hQ _ _ _ _ _ _ _ ho
 . obtain⟨q,b,hqb,hb⟩:∃q b:Nat,m=2*q+b/\b<2:=⟨m/2,m%2,ac,ac⟩;have him:i*m=2*(i*q)+i*b:=by rw[hqb,Nat.mul_add,←fu,d7 i 2,fu]
   have hdiv:(m:Int)/2=(q:Int):=by omega
   have hmod:(m:Int)%2=(b:Int):=by omega
   have hi:i<=K:=by
    have:i*1<=i*m:=Nat.mul_le_mul_left i ac;omega
   have hjK:j<=K:=by omega
   obtain⟨o1,_⟩:=hs.one;obtain⟨o2,_⟩:=ho.one;have fin:∀s so w wo lo wr i' j',aN (.agg [.iV s,w]) (A^i')->aN (.agg [.iV so,wo]) (A^j')->j'+i'*q=K->LI (fun st=>∃m',m'<m/\∃s so w wo kv lo wr i j,st=⟨⟨[a0,.iV kv,.ptr 0 0,.ptr 1 0,.ptr 2 0],lo,su s so w wo,[]⟩,wr⟩/\kv=(m':Int)/\aN (.agg [.iV s,w]) (A^i)/\aN (.agg [.iV so,wo]) (A^j)/\j+i*m'=K/\m'<=K) Q .normal ⟨⟨[a0,.iV ((m:Int)/2),.ptr 0 0,.ptr 1 0,.ptr 2 0],lo,su s so w wo,[]⟩,wr⟩:=fun s so w wo lo wr i' j' h1 h2 h3=>
    ek ⟨q,ac,s,so,w,wo,_,lo,wr,i',j',rfl,hdiv,h1,h2,h3,ac⟩
   have sq:q≠0->∃v,aN v (A^(i+i))/\∀h,M.ext 199 [.agg [.iV s,w],.agg [.iV s,w]] h=some ⟨v,h,[]⟩:=fun hq=>by
    obtain⟨v,h1,h2⟩:=C.qx _ _ _ _ hs hs (hB i hi) (hB i hi);exact⟨v,by rw[ip];exact h1,h2⟩
   by_cases hodd:b=1
   . subst hodd;obtain⟨v1,h1,q1⟩:=C.qx _ _ _ _ ho hs (hB j hjK) (hB i hi);have h1:aN v1 (A^(j+i)):=by rw[ip];exact h1
     obtain⟨s1,w1,rfl,o3,_⟩:=h1.shape;by_cases hq:q=0
     . subst hq;unfold qw;repeat' first|(apply agl;rfl;rfl;omega)|(apply agk;rfl)|(apply afa;rfl;rfl;rfl;exact⟨rfl,aL _,by simp[eW,o3]⟩;rfl)|apply aaK|apply aa|apply aaI|apply aaC|apply acu|apply acn|apply bc|(apply ack;rfl)|(apply acj;rfl)|(apply acI;rfl;rfl)|(apply adw;rfl;rfl)|(apply acq;rfl;rfl;first|exact q1 _)|(apply acH;rfl;rfl;rfl)|(apply abx;rfl;rfl)|(apply abO;rfl;rfl)|(intro _;omega)|intro _
       all_goals try omega
       all_goals exact fin s s1 w w1 _ _ i (j+i) hs h1 ac
     . obtain⟨v2,h2,q2⟩:=sq hq;obtain⟨s2,w2,rfl,o4,_⟩:=h2.shape;unfold qw;repeat' first|(apply agl;rfl;rfl;omega)|(apply agk;rfl)|(apply afa;rfl;rfl;rfl;exact⟨rfl,aL _,by simp[eW,o3,o4]⟩;rfl)|apply aaK|apply aa|apply aaI|apply aaC|apply acu|apply acn|apply bc|(apply ack;rfl)|(apply acI;rfl;rfl)|(apply adw;rfl;rfl)|(apply acq;rfl;rfl;first|exact q1 _|exact q2 _)|(apply acH;rfl;rfl;rfl)|(apply abx;rfl;rfl)|(apply abO;rfl;rfl)|(intro _;omega)|intro _
       all_goals try omega
       all_goals exact fin s2 s1 w2 w1 _ _ (i+i) (j+i) h2 h1 (by rw[li];omega)
   . obtain⟨v2,h2,q2⟩:=sq ac;obtain⟨s2,w2,rfl,o4,_⟩:=h2.shape;have hb0:b=0:=by omega
     subst hb0;unfold qw;repeat' first|(apply agl;rfl;rfl;omega)|(apply agk;rfl)|(apply afa;rfl;rfl;rfl;exact⟨rfl,aL _,by simp[eW,o4]⟩;rfl)|apply aaK|apply aa|apply aaI|apply aaC|apply acu|apply acn|apply bc|(apply ack;rfl)|(apply acj;rfl)|(apply acI;rfl;rfl)|(apply adw;rfl;rfl)|(apply acq;rfl;rfl;first|exact q2 _)|(apply acH;rfl;rfl;rfl)|(apply abx;rfl;rfl)|(apply abO;rfl;rfl)|(intro _;omega)|intro _
     all_goals try omega
     all_goals exact fin s2 so w2 wo _ _ (i+i) j h2 ho (by rw[li];omega)
theorem VH (C:CF M N){v:AV}{A:Int}{K:Nat}(hv:aN v A)(hK:K<1000000)(hB:∀i,i<=K->al (A^i)<wB^N):∃v0,aN v0 (A^K)/\dj M 284 [v,.iV K] v0:=by
 have q196:=C.mW 1;obtain⟨s,w,rfl,o1,_⟩:=hv.shape;obtain⟨v',hh,⟨v0,h0,ho⟩,hr⟩:=iL (M:=M) (f:=284) (ars:=[.agg [.iV s,w],.iV K]) (P:=fun v hh=>∃v0,aN v0 (A^K)/\fw v hh v0) (by rw[C.ft];exact Vj) am (by
  unfold Ji;simp only[enter];repeat' first|apply aaK|apply aa|apply aaI|apply aaC|apply acu|(apply acq;rfl;rfl;first|exact q196 _)|(apply acv;rfl;rfl;rfl)|(apply aeS;rfl;rfl;rfl)
  refine VG C hK hB _ (fun s so w wo p1 lo wr hg=>?_) s 1 w .ab _ _ hv (.small ak);obtain⟨o5,_⟩:=hg.one;repeat' first|(apply afa;rfl;rfl;rfl;exact⟨rfl,aL _,by simp[eW,o5]⟩;rfl)|apply aaK|apply aa|apply aaI|apply aaC|apply abZ|apply bk|(apply acH;rfl;rfl;rfl)
  exact⟨.inr rfl,rfl,_,rfl,_,hg,hg.out⟩)
 exact⟨v0,h0,v',hh,ho,hr⟩
variable {P:Program} {T:List (Nat×Spec)} {g:Nat}
theorem dj.runK {ars:List AV}{v0:AV}(h:dj (bz P FT T) g ars v0)(ht:bG ars=0):AR P FT T g ars v0:=by
 obtain⟨v,hh,⟨v1,h1,h2,h3⟩,hr⟩:=h;exact⟨v,hh,v1,hr,h1,ht,h2,h3⟩
theorem dj.eq {ars:List AV}{v0:AV}{hp:ae}(h:dj (bz P FT T) g ars v0)(ht:bG ars=0):qc P FT T g ars hp=some ⟨v0,hp,[]⟩:=rN (h.runK ht)
theorem qo.eq {ars as0:List AV}{z:Int}(h:qo (bz P FT T) g as0 z):∃r,okW wB r/\aU r/\WV wB r=z/\∀hp,gC hp ars as0->rM P FT T g ars hp=some ⟨.vs (aq r) r.length none,hp,[]⟩:=by
 obtain⟨r,⟨h1,h2,h3⟩,v,hh,⟨v1,f,t,c⟩,hr⟩:=h;exact⟨r,h1,h2,h3,fun hp hf=>mN hf ⟨v,hh,v1,hr,f,t,c⟩⟩
theorem sd.eq {ars:List AV}{x y:Int}(h:sd (bz P FT T) g ars x y)(ht:bG ars=0):∃qv q rv r,dN qv q/\dN rv r/\okW wB q/\aU q/\okW wB r/\aU r/\WV wB q=x/y/\WV wB r=x%y/\∀hp,qc P FT T g ars hp=some ⟨.ay [qv,rv],hp,[]⟩:=by
 obtain⟨q,r,⟨h1,h2,h3⟩,⟨h4,h5,h6⟩,v,hh,⟨v1,qv,rv,f,t,c,k1,k2⟩,hr⟩:=h;exact⟨qv,q,rv,r,k1,k2,h1,h2,h4,h5,h3,h6,fun hp=>rN ⟨v,hh,v1,hr,f,ht,t,c⟩⟩
theorem dN.top {x:AV}{l:List Int}(h:dN x l):x.top=0:=by
 rcases h with rfl|⟨rfl,rfl⟩
 . exact iz l
 . rfl
theorem aN.top {v:AV}{z:Int}(h:aN v z):v.top=0:=by
 obtain⟨s,w,rfl,_,t,_⟩:=h.shape;simp[AV.top,bG,t]
theorem dP.top {v:AV}{q:Rat}(h:dP v q):v.top=0:=by
 obtain⟨s,w,s',w',rfl,h1,h2⟩:=h;have t1:=h1.one.2.1;have t2:=h2.one.2.1;simp[AV.top,bG,t1,t2]
open Go.Proofs
noncomputable abbrev sK (T:List (Nat×Spec))(g:Nat):Spec:=qc Tryz.prog FT T g
noncomputable abbrev sL (T:List (Nat×Spec))(g:Nat):Spec:=rM Tryz.prog FT T g
theorem bM {g:Nat}(hT:cY Tryz.prog gl (bE T)):aZ Tryz.prog gl g (sK T g):=RI iN hT
theorem jN {g:Nat}(hT:cY Tryz.prog gl (bE T)):aZ Tryz.prog gl g (sL T g):=RG iN hT
theorem jO {v:AV}(h:v.top=0):bG [v]=0:=by simp[bG,h]
theorem fM {v w:AV}(h:v.top=0)(k:w.top=0):bG [v,w]=0:=by simp[bG,h,k]
theorem dW {ars:List AV}{v0:AV}{g:Nat}(h:dj (bz Tryz.prog FT T) g ars v0)(ht:bG ars=0):∀hp,sK T g ars hp=some ⟨v0,hp,[]⟩:=fun _=>h.eq ht
def Js:List (Nat×Spec):=[(310,nS .pI),(330,nS .pJ)]
theorem VI:cY Tryz.prog gl (bE Js):=aQ (Az HS) (aQ (Az HT) bK)
structure CY (T:List (Nat×Spec)):Prop where
 VJ:∀ar h,bE T 310 ar h=nS .pI ar h
 VK:∀ar h,bE T 330 ar h=nS .pJ ar h
 vI:∀ar h,bE T 288 ar h=none
theorem CY.c (E:CY T):mP (bz Tryz.prog FT T) where
 ft:=bL
 vI:=E.vI
 mQ x y c h hx hy h0 h1:=by
  refine(E.VJ _ _).trans ?_;show n7 _ (if _ then _ else _)=_;rw[if_pos ⟨hx,hy,h0,h1⟩];rfl
 vJ x y c h hx hx1 hy hy1 h0 h1:=by
  refine(E.VK _ _).trans ?_;show n7 _ (if _ then _ else _)=_;rw[if_pos ⟨hx,hy,h0,h1⟩];have e1:(((x.toNat+18446744073709551616-y.toNat-c.toNat)%18446744073709551616:Nat):Int)=(x-y-c)%18446744073709551616:=by omega
  have e2:((if x.toNat<y.toNat+c.toNat then 1 else 0:Nat):Int)=if x<y+c then 1 else 0:=by
   by_cases hc:x<y+c
   . rw[if_pos hc,if_pos ac];rfl
   . rw[if_neg hc,if_neg ac];rfl
  show some (HR.mk (.ay [.uV _,.uV _]) h [])=_;rw[e1,e2]
noncomputable def qy:Spec:=sK [] 259
theorem Jt:aZ Tryz.prog gl 259 qy:=bM bK
theorem Ju:∀(x y:Int) h,(0<=x/\x<18446744073709551616)->(0<=y/\y<18446744073709551616)->qy [.uV x,.uV y] h=some ⟨.ay [.uV (x*y/18446744073709551616),.uV (x*y%18446744073709551616)],h,[]⟩:=fun x y h hx hy=>cE (TK bL x y hx hy) rfl rfl rfl h
noncomputable def qz:List (Nat×Spec):=(259,qy)::Js
theorem wk:cY Tryz.prog gl (bE qz):=aQ Jt VI
structure wm (T:List (Nat×Spec)):Prop extends CY T where
 CZ:∀ar h,bE T 259 ar h=qy ar h
theorem wm.c (E:wm T):mS (bz Tryz.prog FT T):={ E.toCY.c with oz:=fun x y h hx hy=>(E.CZ _ _).trans (Ju x y h hx hy) }
theorem Da:wm qz:=by repeat' first|exact fun _ _=>rfl|constructor
noncomputable def Db:Spec:=sK [] 252
theorem VM:aZ Tryz.prog gl 252 Db:=bM bK
theorem VN:∀(x:Int) h,(0<=x/\x<18446744073709551616)->Db [.uV x] h=some ⟨.iV (eO x),h,[]⟩:=fun x h hx=>cE (Ud bL x hx) rfl rfl rfl h
noncomputable def Jv:List (Nat×Spec):=[(252,Db)]
noncomputable def sv:Spec:=sK Jv 289
theorem Jw:aZ Tryz.prog gl 289 sv:=bM (aQ VM bK)
theorem Jx:∀(y:Int) h,(0<=y/\y<18446744073709551616)->sv [.uV y] h=some ⟨.iV (64-eO y:Nat),h,[]⟩:=fun x h hx=>cE (Ue (M:=bz Tryz.prog FT Jv) bL x hx fun h=>VN x h hx) rfl rfl rfl h
noncomputable def Jy:List (Nat×Spec):=[(289,sv)]
noncomputable def wq:Spec:=sK Jy 287
theorem VP:aZ Tryz.prog gl 287 wq:=bM (aQ Jw bK)
theorem VQ:∀(hi lo y:Int) h,(0<y/\y<18446744073709551616)->(0<=hi/\hi<y)->(0<=lo/\lo<18446744073709551616)->wq [.uV hi,.uV lo,.uV y] h=some ⟨.ay [.uV ((hi*18446744073709551616+lo)/y),.uV ((hi*18446744073709551616+lo)%y)],h,[]⟩:=fun hi lo y h hy hh hl=>
 cE (Uj (M:=bz Tryz.prog FT Jy) bL hi lo y hy hh hl fun h=>Jx y h ⟨ac,hy.2⟩) rfl rfl rfl h
noncomputable def wu:Spec:=sL qz 308
noncomputable def wv:Spec:=sL qz 309
noncomputable def wx:Spec:=sL qz 262
noncomputable def oF:Spec:=sL [] 286
theorem VR:aZ Tryz.prog gl 308 wu:=jN wk
theorem VT:aZ Tryz.prog gl 309 wv:=jN wk
theorem VU:aZ Tryz.prog gl 262 wx:=jN wk
theorem Jz:aZ Tryz.prog gl 286 oF:=jN bK
theorem VV:∀x l y m,dN x l->dN y m->okW wB l->okW wB m->l.length<=500000->m.length<=500000->∃r,okW wB r/\aU r/\WV wB r=WV wB l+WV wB m/\∀h,wu [x,y] h=some ⟨.vs (aq r) r.length none,h,[]⟩:=fun x l y m hx hy o1 o2 l1 l2=>by
 obtain⟨r,h1,h2,h3,h4⟩:=(TT (c1:=none) (c2:=none) Da.c.tomP l m o1 o2 ac ac).eq;exact⟨r,h1,h2,h3,fun h=>h4 h (.cons hx.gG (.cons hy.gG .nil))⟩
theorem VW:∀x l y m,dN x l->dN y m->okW wB l->okW wB m->aU l->aU m->l.length<=500000->m.length<=500000->WV wB m<=WV wB l->∃r,okW wB r/\aU r/\WV wB r=WV wB l-WV wB m/\∀h,wv [x,y] h=some ⟨.vs (aq r) r.length none,h,[]⟩:=fun x l y m hx hy o1 o2 n1 n2 l1 l2 hle=>by
 have hlen:m.length<=l.length:=by
  rcases Nat.lt_or_ge l.length m.length with h|h
  . have:=oy (b:=wB) ak o1 o2 n2 h;omega
  . exact h
 obtain⟨r,h1,h2,h3,h4⟩:=(TV (c1:=none) (c2:=none) Da.c.tomP l m o1 o2 ac hlen hle).eq;exact⟨r,h1,h2,h3,fun h=>h4 h (.cons hx.gG (.cons hy.gG .nil))⟩
theorem VX:∀x l y m,dN x l->dN y m->okW wB l->okW wB m->l.length<=500000->m.length<=500000->∃r,okW wB r/\aU r/\WV wB r=WV wB l*WV wB m/\∀h,wx [x,y] h=some ⟨.vs (aq r) r.length none,h,[]⟩:=fun x l y m hx hy o1 o2 l1 l2=>by
 obtain⟨r,h1,h2,h3,h4⟩:=(TX (c1:=none) (c2:=none) Da.c l m o1 o2 ac ac).eq;exact⟨r,h1,h2,h3,fun h=>h4 h (.cons hx.gG (.cons hy.gG .nil))⟩
theorem JA {x y:AV}{l m:List Int}{c1 c2:Option Nat}{h:ae}(hx:dx h x (.vs (aq l) l.length c1))(hy:dx h y (.vs (aq m) m.length c2))(o1:okW wB l)(o2:okW wB m)(n1:aU l)(n2:aU m)(l1:l.length<1000000000)(l2:m.length<1000000000):oF [x,y] h=some ⟨.iV (bB (WV wB l-WV wB m)),h,[]⟩:=
 qe (TO bL l m o1 o2 n1 n2 l1 l2) rfl rfl rfl (.cons hx (.cons hy .nil))
theorem JB:∀x l y m,dN x l->dN y m->okW wB l->okW wB m->aU l->aU m->l.length<=500000->m.length<=500000->∀h,oF [x,y] h=some ⟨.iV (bB (WV wB l-WV wB m)),h,[]⟩:=fun x l y m hx hy o1 o2 n1 n2 l1 l2 h=>
 JA hx.gG hy.gG o1 o2 n1 n2 ac ac
noncomputable def wy:List (Nat×Spec):=(287,wq)::(286,oF)::(289,sv)::qz
theorem VY:cY Tryz.prog gl (bE wy):=aQ VP (aQ Jz (aQ Jw wk))
structure Dc (T:List (Nat×Spec)):Prop extends wm T where
 VZ:∀ar h,bE T 287 ar h=wq ar h
 Dd:∀ar h,bE T 286 ar h=oF ar h
 Wa:∀ar h,bE T 289 ar h=sv ar h
 sc:∀ar h,bE T 290 ar h=none
 vW:∀ar h,bE T 291 ar h=none
theorem Dc.c (E:Dc T):IQ (bz Tryz.prog FT T):={ E.towm.c with
 Ct:=fun hi lo y h h1 h2 h3=>(E.VZ _ _).trans (VQ hi lo y h h1 h2 h3)
 se:=fun a b _c1 _c2 h o1 o2 n1 n2 l1 l2=>(E.Dd _ _).trans (JA (.pW (Cv a)) (.pW (Cv b)) o1 o2 n1 n2 l1 l2)
 rX:=fun y h hy=>(E.Wa _ _).trans (Jx y h hy)
 sc:=E.sc
 vW:=E.vW }
theorem Wb:Dc wy:=by repeat' first|exact fun _ _=>rfl|constructor
noncomputable def wz:Spec:=sK wy 220
theorem Wc:aZ Tryz.prog gl 220 wz:=bM VY
theorem Wd:∀x l y m,dN x l->dN y m->okW wB l->okW wB m->aU l->aU m->l.length<=500000->m.length<=500000->m≠[]->∃qv q rv r,dN qv q/\dN rv r/\okW wB q/\aU q/\okW wB r/\aU r/\WV wB q=WV wB l/WV wB m/\WV wB r=WV wB l%WV wB m/\∀h,wz [x,y] h=some ⟨.ay [qv,rv],h,[]⟩:=fun x l y m hx hy o1 o2 n1 n2 l1 l2 hm=>by
 have hy':y = .vs (aq m) m.length none:=by
  rcases hy with h|⟨_,h⟩
  . exact h
  . exact absurd h hm
 subst hy';rcases hx with rfl|⟨rfl,rfl⟩
 . exact(UD Wb.c l m o1 o2 n1 n2 ac ac hm).eq (fM (iz l) (iz m))
 . have hv:=(ib (b:=wB) ak o2 n2).2 hm;have q286:∀h,(bz Tryz.prog FT wy).ext 286 [.ab,.vs (aq m) m.length none] h=some ⟨.iV (-1),h,[]⟩:=fun h=>by
    have:=JB .ab [] _ m (.inr ⟨rfl,rfl⟩) (.inl rfl) o1 o2 n1 n2 l1 l2 h;rw[show bB (WV wB []-WV wB m) = -1 from if_pos (by simp[WV];omega)]at this;exact this
   exact(UE bL m o2 n2 hm q286).eq (fM rfl (iz m))
noncomputable def sw:Spec:=sK [] 260
theorem JC:aZ Tryz.prog gl 260 sw:=bM bK
theorem JD:∀s h,(-9223372036854775808<=s/\s<9223372036854775808)->sw [.iV s] h=some ⟨.uV (al s),h,[]⟩:=fun s h hs=>cE (UF bL s hs) rfl rfl rfl h
noncomputable def JE:List (Nat×Spec):=[(260,sw)]
noncomputable def wA:Spec:=sK JE 219
theorem We:aZ Tryz.prog gl 219 wA:=bM (aQ JC bK)
theorem Wf:∀v z,aN v z->∃x l,dN x l/\okW wB l/\aU l/\WV wB l=al z/\∀h,wA [v] h=some ⟨.ay [.bool (decide (z<0)),x],h,[]⟩:=fun v z hv=>by
 obtain⟨x,l,h1,h2,h3,h4,h5⟩:=UG (M:=bz Tryz.prog FT JE) bL (fun s h hs=>JD s h hs) hv;exact⟨x,l,h1,h2,h3,h4,dW h5 (jO hv.top)⟩
noncomputable def wC:Spec:=sK [] 261
theorem Wg:aZ Tryz.prog gl 261 wC:=bM bK
theorem Wh:∀neg x l,dN x l->okW wB l->aU l->l.length<=1000001->∃v0,aN v0 (gA neg (WV wB l))/\∀h,wC [.bool neg,x] h=some ⟨v0,h,[]⟩:=fun neg x l hx ok nr hl=>by
 obtain⟨v0,h1,h2⟩:=UH (M:=bz Tryz.prog FT []) bL neg hx ok nr ac;exact⟨v0,h1,dW h2 (fM rfl hx.top)⟩
noncomputable def TI:List (Nat×Spec):=[(260,sw),(259,qy),(219,wA),(261,wC),(308,wu),(309,wv),(262,wx),(286,oF)]
theorem wD:cY Tryz.prog gl (bE TI):=aQ JC (aQ Jt (aQ We (aQ Wg (aQ VR (aQ VT (aQ VU (aQ Jz bK)))))))
structure EI (T:List (Nat×Spec)):Prop where
 Wi:∀ar h,bE T 260 ar h=sw ar h
 CZ:∀ar h,bE T 259 ar h=qy ar h
 Wj:∀ar h,bE T 219 ar h=wA ar h
 Wk:∀ar h,bE T 261 ar h=wC ar h
 Wl:∀ar h,bE T 308 ar h=wu ar h
 Wm:∀ar h,bE T 309 ar h=wv ar h
 Wn:∀ar h,bE T 262 ar h=wx ar h
 Dd:∀ar h,bE T 286 ar h=oF ar h
theorem EI.c (E:EI T){N:Nat}(hN:N<=500000):CI (bz Tryz.prog FT T) N where
 ft:=bL
 lN:=hN
 sf:=by simp only[E.Wi];exact JD
 oz:=by simp only[E.CZ];exact Ju
 mU:=by simp only[E.Wj];exact Wf
 kp:=by simp only[E.Wk];exact Wh
 Jc:=by simp only[E.Wl];exact VV
 CB:=by simp only[E.Wm];exact VW
 Jd:=by simp only[E.Wn];exact VX
 se:=by simp only[E.Dd];exact JB
theorem eI:EI TI:=by repeat' first|exact fun _ _=>rfl|constructor
noncomputable def sx:Spec:=sK TI 201
noncomputable def wE:Spec:=sK TI 253
noncomputable def wF:Spec:=sK TI 199
noncomputable def wG:Spec:=sK [] 230
noncomputable def wH:Spec:=sK [] 196
theorem JF:aZ Tryz.prog gl 201 sx:=bM wD
theorem Wo:aZ Tryz.prog gl 253 wE:=bM wD
theorem Wp:aZ Tryz.prog gl 199 wF:=bM wD
theorem Wq:aZ Tryz.prog gl 230 wG:=bM bK
theorem Wr:aZ Tryz.prog gl 196 wH:=bM bK
def P1 (sp:Spec)(N:Nat)(f:Int->Int):Prop:=∀v z,aN v z->al z<wB^N->∃v0,aN v0 (f z)/\∀h,sp [v] h=some ⟨v0,h,[]⟩
def P2 (sp:Spec)(N:Nat)(f:Int->Int->Int):Prop:=∀a b x y,aN a x->aN b y->al x<wB^N->al y<wB^N->∃v0,aN v0 (f x y)/\∀h,sp [a,b] h=some ⟨v0,h,[]⟩
theorem P1.op {sp:Spec}{N g:Nat}{f:Int->Int}(p:P1 sp N f)(e:∀ar h,bE T g ar h=sp ar h):CC (bz Tryz.prog FT T) N g f:=fun v z hv hz=>by
 obtain⟨v0,h1,h2⟩:=p v z hv hz;exact⟨v0,h1,fun h=>(e _ _).trans (h2 h)⟩
theorem P2.op {sp:Spec}{N g:Nat}{f:Int->Int->Int}(p:P2 sp N f)(e:∀ar h,bE T g ar h=sp ar h):we (bz Tryz.prog FT T) N g f:=fun a b x y ha hb hx hy=>by
 obtain⟨v0,h1,h2⟩:=p a b x y ha hb hx hy;exact⟨v0,h1,fun h=>(e _ _).trans (h2 h)⟩
theorem JG {N:Nat}(hN:N<=500000):P1 sx N (fun z=>-z):=fun v z hv hz=>by
 obtain⟨v0,h1,h2⟩:=UN (eI.c hN) hv hz;exact⟨v0,h1,dW h2 (jO hv.top)⟩
theorem Ws {N:Nat}(hN:N<=500000):P2 wE N (· + ·):=fun a b x y ha hb hx hy=>by
 obtain⟨v0,h1,h2⟩:=UU (eI.c hN) ha hb hx hy;exact⟨v0,h1,dW h2 (fM ha.top hb.top)⟩
theorem Wt {N:Nat}(hN:N<=500000):P2 wF N (· * ·):=fun a b x y ha hb hx hy=>by
 obtain⟨v0,h1,h2⟩:=Vc (eI.c hN) ha hb hx hy;exact⟨v0,h1,dW h2 (fM ha.top hb.top)⟩
theorem Wu:∀v z,aN v z->∀h,wG [v] h=some ⟨.iV (bB z),h,[]⟩:=fun v z hv h=>cE (UO bL hv) (jO hv.top) rfl rfl h
theorem Wv:∀s h,wH [.iV s] h=some ⟨.agg [.iV s,.ab],h,[]⟩:=fun s h=>(UZ bL s).eq rfl
noncomputable def wI:List (Nat×Spec):=(201,sx)::(253,wE)::TI
theorem JH:cY Tryz.prog gl (bE wI):=aQ JF (aQ Wo wD)
structure wJ (T:List (Nat×Spec)):Prop extends EI T where
 Ww:∀ar h,bE T 201 ar h=sx ar h
 Wx:∀ar h,bE T 253 ar h=wE ar h
theorem wJ.c (E:wJ T){N:Nat}(hN:N<=500000):CE (bz Tryz.prog FT T) N:={ E.toEI.c hN with lW:=(JG hN).op E.Ww,wh:=(Ws hN).op E.Wx }
theorem Wy:wJ wI:=by repeat' first|exact fun _ _=>rfl|constructor
noncomputable def wK:Spec:=sK wI 263
theorem Wz:aZ Tryz.prog gl 263 wK:=bM JH
theorem WA {N:Nat}(hN:N<=500000):P2 wK N (· - ·):=fun a b x y ha hb hx hy=>by
 obtain⟨v0,h1,h2⟩:=UW (Wy.c hN) ha hb hx hy;exact⟨v0,h1,dW h2 (fM ha.top hb.top)⟩
noncomputable def TJ:List (Nat×Spec):=(263,wK)::(230,wG)::wI
theorem sy:cY Tryz.prog gl (bE TJ):=aQ Wz (aQ Wq JH)
structure EJ (T:List (Nat×Spec)):Prop extends wJ T where
 WB:∀ar h,bE T 263 ar h=wK ar h
 WE:∀ar h,bE T 230 ar h=wG ar h
theorem EJ.c (E:EJ T){N:Nat}(hN:N<=500000):CJ (bz Tryz.prog FT T) N:={ E.towJ.c hN with CH:=(WA hN).op E.WB,mV:=fun v z hv h=>(E.WE _ _).trans (Wu v z hv h) }
theorem eJ:EJ TJ:=by repeat' first|exact fun _ _=>rfl|constructor
noncomputable def wL:Spec:=sK TJ 298
noncomputable def wM:Spec:=sK TJ 200
noncomputable def De:Spec:=sK TJ 148
theorem WG:aZ Tryz.prog gl 298 wL:=bM sy
theorem WH:aZ Tryz.prog gl 200 wM:=bM sy
theorem WI:aZ Tryz.prog gl 148 De:=bM sy
theorem WJ {N:Nat}(hN:N<=500000):P1 wL N al:=fun v z hv hz=>by
 obtain⟨v0,h1,h2⟩:=UX (eJ.c hN) hv hz;exact⟨v0,h1,dW h2 (jO hv.top)⟩
theorem WK {N:Nat}(hN:N<=500000):∀a b x y,aN a x->aN b y->al x<wB^N->al y<wB^N->∀h,wM [a,b] h=some ⟨.iV (bB (x-y)),h,[]⟩:=fun a b x y ha hb hx hy=>
 dW (UY (eJ.c hN) ha hb hx hy) (fM ha.top hb.top)
theorem WL {N:Nat}(hN:N<=500000):∀v q,dP v q->Bq N q->∃v0,dP v0 (-q)/\∀h,De [v] h=some ⟨v0,h,[]⟩:=fun v q hv lq=>by
 obtain⟨v0,h1,h2⟩:=VD (eJ.c hN) hv lq;exact⟨v0,h1,dW h2 (jO hv.top)⟩
noncomputable def TD:List (Nat×Spec):=(196,wH)::(220,wz)::TJ
theorem Df:cY Tryz.prog gl (bE TD):=aQ Wr (aQ Wc sy)
structure ED (T:List (Nat×Spec)):Prop extends EJ T where
 WM:∀ar h,bE T 196 ar h=wH ar h
 WN:∀ar h,bE T 220 ar h=wz ar h
theorem ED.c (E:ED T){N:Nat}(h1:1<=N)(hN:N<=500000):CD (bz Tryz.prog FT T) N:={ E.toEJ.c hN with
 n1:=h1
 mW:=fun s h=>(E.WM _ _).trans (Wv s h)
 Jh:=by simp only[E.WN];exact Wd }
theorem eD:ED TD:=by repeat' first|exact fun _ _=>rfl|constructor
noncomputable def wN:Spec:=sK TD 299
noncomputable def wO:Spec:=sK TD 195
theorem WQ:aZ Tryz.prog gl 299 wN:=bM Df
theorem WR:aZ Tryz.prog gl 195 wO:=bM Df
theorem WS {N:Nat}(h1:1<=N)(hN:N<=500000):∀a b x y,aN a x->aN b y->al x<wB^N->al y<wB^N->0<y->∃q r,aN q (x/y)/\aN r (x%y)/\∀h,wN [a,b] h=some ⟨.ay [q,r],h,[]⟩:=fun a b x y ha hb hx hy h0=>by
 obtain⟨q,r,k1,k2,k3⟩:=Vh (eD.c h1 hN) ha hb hx hy h0;exact⟨q,r,k1,k2,dW k3 (fM ha.top hb.top)⟩
theorem iY.top {v:AV}{n d:Int}(h:iY v n d):v.top=0:=by
 obtain⟨s,w,s',w',rfl,h1,h2⟩:=h;have t1:=h1.one.2.1;have t2:=h2.one.2.1;simp[AV.top,bG,t1,t2]
theorem WT:∀v z,aN v z->∃v0,iY v0 z 1/\∀h,wO [v] h=some ⟨v0,h,[]⟩:=fun v z hv=>by
 obtain⟨v0,h1,h2⟩:=Vq (eD.c (N:=1) ak ak) hv;exact⟨v0,h1,dW h2 (jO hv.top)⟩
noncomputable def TQ:List (Nat×Spec):=(299,wN)::TD
theorem Dg:cY Tryz.prog gl (bE TQ):=aQ WQ Df
structure EQ (T:List (Nat×Spec)):Prop extends ED T where
 WU:∀ar h,bE T 299 ar h=wN ar h
theorem EQ.c (E:EQ T){N:Nat}(h1:1<=N)(hN:N<=500000):CQ (bz Tryz.prog FT T) N:={ E.toED.c h1 hN with sn:=by simp only[E.WU];exact WS h1 hN }
theorem eQ:EQ TQ:=by repeat' first|exact fun _ _=>rfl|constructor
noncomputable def wP:Spec:=sK TQ 258
theorem WW:aZ Tryz.prog gl 258 wP:=bM Dg
theorem WX {N:Nat}(h1:1<=N)(hN:N<=500000):∀a b x y k,aN a x->aN b y->al x<wB^N->al y<wB^N->y≠0->x=y*k->∃v0,aN v0 k/\∀h,wP [a,b] h=some ⟨v0,h,[]⟩:=fun a b x y k ha hb hx hy h0 hk=>by
 obtain⟨v0,k1,k2⟩:=Vi (eQ.c h1 hN) ha hb hx hy h0 hk;exact⟨v0,k1,dW k2 (fM ha.top hb.top)⟩
noncomputable def TF:List (Nat×Spec):=(195,wO)::(200,wM)::(199,wF)::TQ
theorem wQ:cY Tryz.prog gl (bE TF):=aQ WR (aQ WH (aQ Wp Dg))
structure EF (T:List (Nat×Spec)):Prop extends EQ T where
 WY:∀ar h,bE T 195 ar h=wO ar h
 WZ:∀ar h,bE T 200 ar h=wM ar h
 Xa:∀ar h,bE T 199 ar h=wF ar h
theorem EF.c (E:EF T){N:Nat}(h1:1<=N)(hN:N<=500000):CF (bz Tryz.prog FT T) N:={ E.toEQ.c h1 hN with
 CM:=by simp only[E.WY];exact WT
 CN:=by simp only[E.WZ];exact WK hN
 qx:=(Wt hN).op E.Xa }
theorem eF:EF TF:=by repeat' first|exact fun _ _=>rfl|constructor
noncomputable def TG:List (Nat×Spec):=(298,wL)::TQ
theorem JI:cY Tryz.prog gl (bE TG):=aQ WG Dg
structure EG (T:List (Nat×Spec)):Prop extends EQ T where
 Xb:∀ar h,bE T 298 ar h=wL ar h
theorem EG.c (E:EG T){N:Nat}(h1:1<=N)(hN:N<=500000):CG (bz Tryz.prog FT T) N:={ E.toEQ.c h1 hN with CP:=(WJ hN).op E.Xb }
theorem eG:EG TG:=by repeat' first|exact fun _ _=>rfl|constructor
noncomputable def sA:Spec:=sK TG 229
theorem JJ:aZ Tryz.prog gl 229 sA:=bM JI
theorem JK {N:Nat}(h1:1<=N)(hN:N<=500000):∀a b x y,aN a x->aN b y->al x<wB^N->al y<wB^N->∃v0,aN v0 (b8 x y:Nat)/\∀h,sA [a,b] h=some ⟨v0,h,[]⟩:=fun a b x y ha hb hx hy=>by
 obtain⟨v0,k1,k2⟩:=Vz (eG.c h1 hN) ha hb hx hy;exact⟨v0,k1,dW k2 (fM ha.top hb.top)⟩
noncomputable def TR:List (Nat×Spec):=(229,sA)::(258,wP)::TG
theorem Xc:cY Tryz.prog gl (bE TR):=aQ JJ (aQ WW JI)
structure ER (T:List (Nat×Spec)):Prop extends EG T where
 Xd:∀ar h,bE T 229 ar h=sA ar h
 Xe:∀ar h,bE T 258 ar h=wP ar h
theorem ER.c (E:ER T){N:Nat}(h1:1<=N)(hN:N<=500000):CR (bz Tryz.prog FT T) N:={ E.toEG.c h1 hN with
 ss:=by simp only[E.Xd];exact JK h1 hN
 CU:=by simp only[E.Xe];exact WX h1 hN }
theorem eR:ER TR:=by repeat' first|exact fun _ _=>rfl|constructor
noncomputable def wR:Spec:=sK TR 198
theorem Xf:aZ Tryz.prog gl 198 wR:=bM Xc
theorem Xg {N:Nat}(h1:1<=N)(hN:N<=500000):∀a b n d,aN a n->aN b d->al n<wB^N->al d<wB^N->d≠0->∃v0,dP v0 (ba n d)/\∀h,wR [a,b] h=some ⟨v0,h,[]⟩:=fun a b n d ha hb hn hd h0=>by
 obtain⟨v0,k1,k2⟩:=VB (eR.c h1 hN) ha hb hn hd h0;exact⟨v0,k1,dW k2 (fM ha.top hb.top)⟩
noncomputable def TS:List (Nat×Spec):=(198,wR)::TF
theorem JL:cY Tryz.prog gl (bE TS):=aQ Xf wQ
structure ES (T:List (Nat×Spec)):Prop extends EF T where
 Xh:∀ar h,bE T 198 ar h=wR ar h
theorem ES.c (E:ES T){N:Nat}(h1:1<=N)(hN:N<=200000):CS (bz Tryz.prog FT T) N (2*N+1):={ E.toEF.c h1 (show N<=500000 by omega) with
  fQ:=E.toEF.c ac ac
  hN:=aL _
  VC:=by simp only[E.Xh];exact Xg ac ac }
theorem eS:ES TS:=by repeat' first|exact fun _ _=>rfl|constructor
noncomputable def sB:Spec:=sK TS 147
noncomputable def Dh:Spec:=sK TS 231
theorem JM:aZ Tryz.prog gl 147 sB:=bM JL
theorem Xi:aZ Tryz.prog gl 231 Dh:=bM JL
theorem JN {N:Nat}(h1:1<=N)(hN:N<=200000):∀a b p q,dP a p->dP b q->Bq N p->Bq N q->∀h,sB [a,b] h=some ⟨.iV (bB (p.num*q.den-q.num*p.den)),h,[]⟩:=fun a b p q ha hb lp lq=>
 dW (VE (eS.c h1 hN) ha hb lp lq) (fM ha.top hb.top)
theorem Xj {N:Nat}(h1:1<=N)(hN:N<=200000):∀v q,dP v q->Bq N q->∃v0,aN v0 (q.num/q.den)/\∀h,Dh [v] h=some ⟨v0,h,[]⟩:=fun v q hv lq=>by
 obtain⟨v0,k1,k2⟩:=VF (eS.c h1 hN) hv lq;exact⟨v0,k1,dW k2 (jO hv.top)⟩
end Go.Ab.Ch5.N

/-
  Own work: decimal texts of natural numbers: digits, texts, values.
-/
namespace Go.Ab.bl
def gh (d:Nat):UInt8:=UInt8.ofNat (48+d)
def dz:Nat->Nat->ax
 | 0,_=>[]
 | k+1,n=>dz k (n/10)++[gh (n%10)]
def bm (n:Nat):ax:=if n<10 then [gh n] else bm (n/10)++[gh (n%10)]
termination_by n
decreasing_by omega
def aM (n:Nat)(s:ax):Nat:=s.foldl (fun n b=>10*n+(b.toNat-48)) n
def wS (c:Nat):Bool:=48<=c && c<58
abbrev bS (b:UInt8):Bool:=wS b.toNat
theorem kR (b:UInt8):bS b=true↔48<=b.toNat/\b.toNat<58:=by simp[bS,wS]
theorem sC {d:Nat}(h:d<10):(gh d).toNat=48+d:=by simp[gh];omega
theorem Di {d:Nat}(h:d<10):bS (gh d)=true:=by rw[kR,sC h];omega
theorem Xk {b:UInt8}(h:bS b=true):gh (b.toNat-48)=b:=by
 rw[kR]at h;apply c9.1;rw[sC ac];omega
theorem mX:∀(k n:Nat),(dz k n).length=k
 | 0,_=>rfl
 | k+1,n=>by simp[dz,mX k]
theorem JO:∀(k n:Nat),(dz k n).all bS=true
 | 0,_=>rfl
 | k+1,n=>by simp only[dz,ce,JO k,dw,j8,Di (j3 n (show 10 > 0 by decide)),nW]
theorem Dj:∀{k n j:Nat},j<k->(dz k n)[j]! = gh (n/10^(k-1-j)%10)
 | k+1,n,j,h=>by
  rw[dz];by_cases hj:j<k
  . have h1:j<(dz k (n/10)).length:=by rw[mX];exact hj
    have e:(dz k (n/10)++[gh (n%10)])[j]! = (dz k (n/10))[j]! := by
     simp only[bA,hZ h1]
    rw[e,Dj hj,show k+1-1-j=(k-1-j)+1 by omega,c7,d7,←Nat.div_div_eq_div_mul]
  . obtain rfl:j=k:=by omega
    have e:(dz j (n/10)++[gh (n%10)])[j]! = gh (n%10):=by
     simp only[bA];rw[List.getElem?_append_right (by rw[mX];exact aL _),mX];simp
    rw[e];simp
theorem JP {k n:Nat}{s:ax}(hl:s.length=k)(h:∀j,j<k->s[j]! = gh (n/10^(k-1-j)%10)):s=dz k n:=by
 apply List.ext_getElem (by rw[hl,mX]);intro i h1 h2;have e1:=h i ac;have e2:=Dj (n:=n) (show i<k by omega);rw[←e2]at e1;simpa[bA,aR h1,aR h2] using e1
theorem ku {n:Nat}(h:n<10):bm n=[gh n]:=by rw[bm,if_pos h]
theorem oG {n:Nat}(h:¬n<10):bm n=bm (n/10)++[gh (n%10)]:=by rw[bm,if_neg h]
theorem Dk:∀{k n:Nat},n<10^(k+1)->(k=0\/10^k<=n)->bm n=dz (k+1) n
 | 0,n,h,_=>by
  have h:n<10:=by simpa using h
  rw[ku h];simp[dz,iM h]
 | k+1,n,h,h2=>by
  have h2:10^(k+1)<=n:=h2.resolve_left ac;rw[c7]at h h2;have hp:0<10^k:=Nat.pow_pos ak;rw[oG ac,Dk (k:=k) (n:=n/10) ac (.inr ac)];rfl
theorem JQ:∀{k a b:Nat},0<a->b<10^k->bm (a*10^k+b)=bm a++dz k b
 | 0,a,b,_,hb=>by
  obtain rfl:b=0:=by simpa using hb
  simp[dz]
 | k+1,a,b,ha,hb=>by
  rw[c7]at hb ⊢;have hp:0<10^k:=Nat.pow_pos ak;have h1:10<=a*(10^k*10)+b:=by
   have:=Nat.mul_le_mul ha (gu 10 hp);omega
  have e1:(a*(10^k*10)+b)/10=a*10^k+b/10:=by
   rw[←fu];omega
  have e2:(a*(10^k*10)+b)%10=b%10:=by
   rw[←fu];omega
  rw[oG ac,e1,e2,JQ ha ac,dz,j9]
theorem oH (n:Nat)(s t:ax):aM n (s++t)=aM (aM n s) t:=by simp[aM,List.foldl_append]
theorem sD (n:Nat)(b:UInt8)(s:ax):aM n (b::s)=aM (10*n+(b.toNat-48)) s:=by rw[aM,aM,mJ]
theorem sE (n:Nat)(b:UInt8):aM n [b]=10*n+(b.toNat-48):=by rw[aM,mJ,List.foldl_nil]
theorem wT (s:ax):∀(n:Nat),aM n s=n*10^s.length+aM 0 s:=by
 induction s with
 | nil=>intro n;simp[aM]
 | cons b s ih=>
  intro n;rw[sD,sD,ih,ih (10*0+_),bW,c7,li];have:10*n*10^s.length=n*(10^s.length*10):=by rw[d7 10 n,fu,d7 10]
  rw[this];simp only[Nat.mul_zero,iX];omega
theorem mY (s:ax):s.all bS=true->aM 0 s<10^s.length:=by
 induction s with
 | nil=>intro _;simp[aM]
 | cons b s ih=>
  intro h;simp only[dw,be]at h;have hb:=(kR b).1 h.1;have:=ih h.2;rw[sD,wT,bW,c7];have h2:(10*0+(b.toNat-48))*10^s.length<=9*10^s.length:=gu _ ac;omega
theorem JR:∀(k n m:Nat),aM m (dz k n)=m*10^k+n%10^k
 | 0,n,m=>by simp[aM,dz,Nat.mod_one]
 | k+1,n,m=>by
  rw[dz,oH,JR k,sE,sC (j3 _ ak),c7];have e:n%(10^k*10)=n%10+10*(n/10%10^k):=by rw[d7 (10^k) 10,Nat.mod_mul]
  rw[e,Nat.mul_add,←fu m,d7 10 (m*10^k)];omega
theorem jh (n:Nat):aM 0 (bm n)=n:=by
 induction n using i5 with
 | _ n ih=>
  by_cases h:n<10
  . rw[ku h,sE,sC h];omega
  . rw[oG h,oH,ih _ ac,sE,sC (j3 _ ak)];omega
theorem jv (n:Nat):(bm n).all bS=true:=by
 induction n using i5 with
 | _ n ih=>
  by_cases h:n<10
  . rw[ku h];simp[Di h]
  . rw[oG h,ce,ih _ ac];simp[Di (j3 n (show 10 > 0 by decide))]
theorem qA (n:Nat):bm n≠[]:=by
 by_cases h:n<10
 . rw[ku h];simp
 . rw[oG h];simp
def Dl (s:ax):Prop:=s≠[]/\s.all bS=true/\(s.head? = some 48->s.length=1)
theorem Xl {s:ax}(h:s.all bS=true):dz s.length (aM 0 s)=s:=by
 have key:∀(k:Nat) (s:ax),s.length=k->s.all bS=true->dz s.length (aM 0 s)=s:=by
  intro k;induction k with
  | zero=>intro s hs _;rw[c6 hs];rfl
  | succ k ih=>
   intro s hs h;rcases f7 s with rfl|⟨t,c,e⟩
   . simp at hs
   . rw[f8]at e;subst e;simp only[cQ,bW,List.length_nil]at hs ⊢;simp only[ce,dw,j8,gc,be]at h;have hc:=(kR c).1 h.2;rw[show t.length+(0+1)=t.length+1 by omega,dz,oH,sE];rw[show (10*aM 0 t+(c.toNat-48))/10=aM 0 t by omega,show (10*aM 0 t+(c.toNat-48))%10=c.toNat-48 by omega,ih t ac h.1,Xk h.2]
 exact key _ s rfl h
theorem JS {s:ax}(h:Dl s):bm (aM 0 s)=s:=by
 obtain⟨h0,h1,h2⟩:=h;cases s with
 | nil=>exact absurd rfl h0
 | cons b t=>
  have lt:=mY _ h1;rw[bW]at lt;refine(Dk lt ?_).trans (Xl h1);cases t with
  | nil=>exact .inl rfl
  | cons c t=>
   right;have hb:b≠48:=fun e=>by
    have:=h2 (by rw[e];rfl);simp at this
   simp only[dw,be]at h1;have hb1:=(kR b).1 h1.1;have hb2:49<=b.toNat:=by
    have:b.toNat≠48:=fun e=>hb (c9.1 e)
    omega
   rw[sD,wT];have:=gu (10^(c::t).length) (show 1<=10*0+(b.toNat-48) by omega);omega
theorem Xm (n:Nat):Dl (bm n):=by
 refine⟨qA n,jv n,?_⟩;induction n using i5 with
 | _ n ih=>
  by_cases h:n<10
  . rw[ku h];intro _;rfl
  . rw[oG h];intro e;have e2:(bm (n/10)).head? = some 48:=by
     cases hd:bm (n/10) with
     | nil=>exact absurd hd (qA _)
     | cons b t=>rw[hd]at e;exact e
    have l1:=ih _ (show n/10<n by omega) e2;exfalso;have e3:bm (n/10)=[48]:=by
     cases hd:bm (n/10) with
     | nil=>exact absurd hd (qA _)
     | cons b t=>
      rw[hd]at e2 l1;simp at l1 e2;rw[e2,l1]
    have:=jh (n/10);rw[e3]at this;simp[aM]at this;omega
theorem wU {n k:Nat}(h:n<10^k)(hk:0<k):(bm n).length<=k:=by
 induction k generalizing n with
 | zero=>omega
 | succ k ih=>
  by_cases h1:n<10
  . rw[ku h1];simp
  . rw[oG h1,cQ];rw[c7]at h;have h0:0<k:=by
     rcases gT k with rfl|hp
     . simp at h;omega
     . exact hp
    have:=ih (n:=n/10) ac h0;simp;omega
end Go.Ab.bl

/-
  Own work: decimal texts of machine integers: bytes, the number of digits, texts of two digits.
-/
namespace Go.Ab.Ch5.N
open Go.Ab.bl
variable {M:az} {cap:Option Nat}
abbrev ji (k:Nat):AV:=.fn (.func k) [] []
def sG (s:ax):List AV:=s.map fun c=>.int .u8 c.toNat
section
variable {t:Nat} {x y:aS} {l:List bj} {pe:List AV} {lo:List (Nat×AV)} {hp:ae} {df wr:List Nat} {k:IntKind} {a b:Int} {Q:aw->Prop} {e:TypeId} {L:ax} {m:Nat}
end
def JT (L:ax)(off n i u:Nat):Prop:=L.length=24/\∀j,i<=j->j<n->L[off+j]! = gh (u/10^(n-1-j)%10)
theorem JT.fin {L:ax}{off n u:Nat}(h:JT L off n 0 u)(hn:off+n<=24):(L.drop off).take n=dz n u:=by
 refine JP (by rw[b6,List.length_drop,h.1];omega) fun j hj=>?_
 rw[←h.2 j (l9 _) hj];simp only[bA,List.getElem?_take,if_pos hj,List.getElem?_drop]
variable {e:TypeId}
set_option maxRecDepth 100000
section
variable {t:Nat} {x y:aS} {l:List bj} {pe:List AV} {lo:List (Nat×AV)} {df wr:List Nat} {k:IntKind} {a:Int} {Q:aw->Prop} {L:ax} {n:Nat}
end
def cR (z:Int):ax:=if z<0 then 45::bm (-z).toNat else bm z.toNat
set_option maxRecDepth 1000000
end Go.Ab.Ch5.N

/-
  Own work: decimal texts in parts of 18 digits.
-/
namespace Go.Ab.bl
theorem Dm:∀k,dz k 0=g9 k 48
 | 0=>rfl
 | k+1=>by rw[dz,Dm k,List.replicate_succ'];rfl
end Go.Ab.bl

/-
  Own work: the code of texts of integers and fractions.
-/
namespace Go.Ab.Ch5.N
set_option maxRecDepth 1000000
def wV:ao:=.seq (zR [zm 13 0,zL 14 13,zc 15 .gtr 14 0] (.cond (.l 15) (.skip) (.exit 0))) (.block 1 (zR [zm 16 0,zL 17 16,⟨.l 18,.mm false [(kI 18),(.l 17)],none⟩,zw 4 18] (zR [zm 20 0,zm 21 4,⟨.l 22,.slice .str 1 (.l 20) none (some (.l 21)) none,none⟩,z1 23 212 22,zn 19 23,ze 24 0 19,ze 25 1 19,zw 5 24,zn 7 25] (.seq (.draw [(zt 26 2 3,[]),(⟨.l 27,.call (kF 196) [(kI 10)],none⟩,[0]),(zm 28 4,[0,1]),(z2 29 284 27 28,[0]),(z2 30 199 26 29,[]),(zm 31 5,[0,1,2,3,4]),(z1 32 196 31,[]),(z2 33 253 30 32,[]),(zs 2 3 33,[])]) (.region [zm 34 0,zm 35 4,⟨.l 36,.slice .str 1 (.l 34) (some (.l 35)) none none,none⟩,zw 0 36])))))
def JU:ao:=zR [⟨.p 1,.alloc 171 [.iV (0),.ab],none⟩] (zR [zm 8 0,⟨.l 9,.call (kF 283) [(.l 8),(.c (.str [45]))],none⟩,zw 2 9] (zR [zm 10 0,⟨.l 11,.call (kF 218) [(.l 10),(.c (.str [45]))],none⟩,zw 0 11] (zR [⟨.l 12,.build [.iV (0),.ab] [],none⟩,⟨.p 3,.alloc 171 [.iV (0),.ab],none⟩,zs 2 3 12] (.seq (.block 0 (.loop wV)) (.seq (zR [zm 37 2] (.cond (.l 37) (zR [zt 38 2 3,z1 39 201 38,zs 2 1 39] (.ret)) (.skip))) (zR [zt 40 2 3,zs 2 1 40] (.ret)))))))
theorem Xn:FT 216=some ⟨41,[0,2,3,4,5,6],[.cell 2 true (.p 1)],JU⟩:=by kernel_rfl
def Dn:ao:=zR [⟨.p 1,.alloc 173 [.iV (0),.ab,.iV (0),.ab],none⟩] (zR [zm 7 0,⟨.l 8,.call (kF 160) [(.l 7),(.c (.str [47]))],none⟩,zn 6 8,ze 9 0 6,ze 10 1 6,ze 11 2 6,zw 2 9,zw 3 10,zw 4 11] (.seq (zR [zm 12 4,zu 13 12] (.cond (.l 13) (zR [zm 14 2,z1 15 216 14,z1 16 195 15,zs 4 1 16] (.ret)) (.skip))) (zR [zm 17 2,z1 18 216 17,zm 19 3,z1 20 216 19,⟨.l 21,.build [.iV (0),.ab,.iV (0),.ab] [(0,2,(.l 18)),(2,2,(.l 20))],none⟩,zs 4 1 21] (.ret))))
theorem JV:FT 165=some ⟨22,[0,2,3,4,5],[.cell 4 true (.p 1)],Dn⟩:=by kernel_rfl
open Go.Ab.bl
variable {M:az} {cap:Option Nat} {N:Nat}
theorem oI {z:Int}(h:z<0):cR z=45::bm (al z).toNat:=by
 rw[cR,if_pos h];unfold al;rw[if_pos h]
theorem mZ {z:Int}(h:¬z<0):cR z=bm (al z).toNat:=by
 rw[cR,if_neg h];unfold al;rw[if_neg h]
variable {N2:Nat}
def aW (q:Rat):ax:=if q.den=1 then cR q.num else cR q.num++47::bm q.den
theorem Xo (n:Nat):cR (n:Int)=bm n:=by
 rw[cR,if_neg ac];rfl
def wW:List AV:=g9 256 (.bool false)
def JW:ao:=zR [⟨.p 2,.mv (.c (.bool false)),none⟩] (zR [zm 5 0,zm 6 1,z2 7 329 5 6,zw 2 7] (.ret))
theorem Xp:FT 283=some ⟨8,[0,1,4],[.var (.p 2)],JW⟩:=by kernel_rfl
def Dp:ao:=zR [⟨.p 2,.mv (.c (.bool false)),none⟩] (zR [zm 5 0,zL 6 5,zm 7 1,zL 8 7,zb 9 .geq 6 8,zn 10 9,zg (zm 11 0) 10 true,zg (zm 12 1) 10 true,zg (zL 13 12) 10 true,⟨.l 14,.slice .str 1 (.l 11) none (some (.l 13)) none,some ((.l 10),true)⟩,zg (zm 15 1) 10 true,zg (zb 16 .eql 14 15) 10 true,zp 17 10 16,zw 2 17] (.ret))
theorem Xq:FT 329=some ⟨18,[0,1,4],[.var (.p 2)],Dp⟩:=by kernel_rfl
def JX:ao:=zR [⟨.p 2,.mv (.c (.str [])),none⟩] (zR [zm 5 0,zm 6 1,z2 7 285 5 6,zw 2 7] (.ret))
theorem Xr:FT 218=some ⟨8,[0,1,4],[.var (.p 2)],JX⟩:=by kernel_rfl
def JY:ao:=zR [⟨.p 2,.mv (.c (.str [])),none⟩] (.seq (zR [zm 5 0,zm 6 1,z2 7 329 5 6] (.cond (.l 7) (zR [zm 8 0,zm 9 1,zL 10 9,⟨.l 11,.slice .str 1 (.l 8) (some (.l 10)) none none,none⟩,zw 2 11] (.ret)) (.skip))) (zR [zm 12 0,zw 2 12] (.ret)))
theorem Xs:FT 285=some ⟨13,[0,1,4],[.var (.p 2)],JY⟩:=by kernel_rfl
def JZ:ao:=zR [zi 1 0,⟨.p 2,.mv (.c (.eh)),none⟩] (zR [zm 7 0,z1 8 278 7,zn 6 8,ze 9 0 6,ze 10 1 6,zw 3 9,zw 4 10] (.seq (zR [zm 11 4,⟨.l 12,.eq true (.iface false) (.l 11) (.c (.eh)),none⟩] (.cond (.l 12) (zR [zm 13 3,zm 14 0,zm 15 4,⟨.l 16,.call (kF 279) [(.c (.str zD1)),(.l 14),(kI 0),(kI 0),(.l 15)],none⟩,zw 1 13,zw 2 16] (.ret)) (.skip))) (zR [zm 17 3,zw 1 17,⟨.p 2,.mv (.c (.eh)),none⟩] (.ret))))
theorem Xt:FT 212=some ⟨18,[0,2,3,4,5],[.var (.p 1),.var (.p 2)],JZ⟩:=by kernel_rfl
def wX:ao:=zR [zr 50 .lss 11 10] (.seq (.cond (.l 50) (.skip) (.exit 0)) (.seq (.block 1 (zR [⟨.l 51,.fy none 1 (.p 9) (.p 11),none⟩,zd 52 1 51,zw 6 52] (zR [zm 53 6,⟨.l 54,.bin .sub (.l 53) (.c (.int .u8 (48))),none⟩,zw 6 54] (.seq (zR [zm 55 6,⟨.l 56,.bin .gtr (.l 55) (.c (.int .u8 (9))),none⟩] (.cond (.l 56) (zR [⟨.l 57,.qW 347 (kI 2),none⟩,zi 1 0,zw 2 57] (.ret)) (.skip))) (.region [zm 58 5,zc 59 .mul 58 10,zm 60 6,⟨.l 61,.im .i64 (.l 60),none⟩,zb 62 .add 59 61,zw 5 62]))))) (.region [zq 63 .add 11 1,zw 11 63])))
def Ka:ao:=zR [zi 1 0,⟨.p 2,.mv (.c (.eh)),none⟩] (zR [zm 11 0,zL 12 11,zw 3 12] (.seq (zR [⟨.l 13,.mv (.c (.bool false)),none⟩,zg (zm 14 3) 13 true,⟨.l 15,.bin .lss (kI 0) (.l 14),some ((.l 13),true)⟩,zg (zn 16 15) 13 true,zg (zm 17 3) 16 true,zg (zc 18 .lss 17 10) 16 true,zg (zp 19 16 18) 13 true,zp 20 13 19,zn 21 20,⟨.l 22,.mv (.c (.bool true)),some ((.l 21),false)⟩,zg (zm 23 3) 22 true,⟨.l 24,.bin .lss (kI 0) (.l 23),some ((.l 22),true)⟩,zg (zn 25 24) 22 true,zg (zm 26 3) 25 true,zg (zc 27 .lss 26 19) 25 true,zg (zp 28 25 27) 22 true,zg (zp 29 22 28) 21 false,zP 30 21 29] (.cond (.l 30) (zR [zm 31 0,zw 4 31] (.seq (zR [zm 32 0,⟨.l 33,.index (.l 32) (kI 0),none⟩,⟨.l 34,.bin .eql (.l 33) (.c (.int .u8 (45))),none⟩,zn 35 34,zg (zm 36 0) 35 false,⟨.l 37,.index (.l 36) (kI 0),some ((.l 35),false)⟩,⟨.l 38,.bin .eql (.l 37) (.c (.int .u8 (43))),some ((.l 35),false)⟩,zP 39 35 38] (.cond (.l 39) (zR [zm 40 0,⟨.l 41,.slice .str 1 (.l 40) (some (kI 1)) none none,none⟩,zw 0 41] (zR [zm 42 0,zL 43 42,zc 44 .lss 43 1] (.cond (.l 44) (zR [⟨.l 45,.qW 347 (kI 2),none⟩,zi 1 0,zw 2 45] (.ret)) (.skip)))) (.skip))) (zR [zi 5 0] (.seq (zR [zm 46 0,⟨.p 9,.ph 5 (.l 46),none⟩,⟨.p 10,.len .sl (.p 9),none⟩,zi 11 0] (.block 0 (.loop wX))) (.seq (zR [zm 64 4,⟨.l 65,.index (.l 64) (kI 0),none⟩,⟨.l 66,.bin .eql (.l 65) (.c (.int .u8 (45))),none⟩] (.cond (.l 66) (.region [zm 67 5,⟨.l 68,.un .neg (.l 67),none⟩,zw 5 68]) (.skip))) (zR [zm 69 5,zw 1 69,⟨.p 2,.mv (.c (.eh)),none⟩] (.ret))))))) (.skip))) (zR [zm 71 0,⟨.l 72,.call (kF 323) [(.l 71),(kI 10),(kI 0)],none⟩,zn 70 72,ze 73 0 70,ze 74 1 70,zw 7 73,zw 8 74] (zR [zm 75 7,zm 76 8,zw 1 75,zw 2 76] (.ret)))))
theorem Xu:FT 278=some ⟨77,[0,2,3,4,5,6,8,9,10,47,48,49],[.var (.p 1),.var (.p 2)],Ka⟩:=by kernel_rfl
def Kb:ao:=zR [⟨.p 2,.mv (.c (.str [])),none⟩,⟨.p 3,.mv (.c (.str [])),none⟩,⟨.p 4,.mv (.c (.bool false)),none⟩] (zR [zm 7 0,zm 8 1,z2 9 210 7 8,ze 10 0 9,ze 11 1 9,ze 12 2 9,zw 2 10,zw 3 11,zw 4 12] (.ret))
theorem Xv:FT 160=some ⟨13,[0,1,4,5,6],[.var (.p 2),.var (.p 3),.var (.p 4)],Kb⟩:=by kernel_rfl
def Dr:ao:=zR [⟨.p 2,.mv (.c (.str [])),none⟩,⟨.p 3,.mv (.c (.str [])),none⟩,⟨.p 4,.mv (.c (.bool false)),none⟩] (.seq (zR [zm 8 0,zm 9 1,z2 10 270 8 9,zw 5 10] (zR [zm 11 5,zc 12 .geq 11 0] (.cond (.l 12) (.seq (.draw [(zm 13 0,[]),(zm 14 5,[0]),(⟨.l 15,.slice .str 1 (.l 13) none (some (.l 14)) none,none⟩,[]),(zm 16 0,[0,1,2]),(zm 17 5,[0,1,2,3]),(zm 18 1,[0,1,2,3,4]),(zL 19 18,[0,1,2,3,4]),(zb 20 .add 17 19,[0,1,2,3]),(⟨.l 21,.slice .str 1 (.l 16) (some (.l 20)) none none,none⟩,[0,1,2]),(zw 2 15,[3,4,5,6,7,8]),(zw 3 21,[]),(⟨.p 4,.mv (.c (.bool true)),none⟩,[])]) (.ret)) (.skip)))) (zR [zm 22 0,zw 2 22,⟨.p 3,.mv (.c (.str [])),none⟩,⟨.p 4,.mv (.c (.bool false)),none⟩] (.ret)))
theorem Xw:FT 210=some ⟨23,[0,1,4,5,6,7],[.var (.p 2),.var (.p 3),.var (.p 4)],Dr⟩:=by kernel_rfl
def Xx:ao:=.seq (zR [zm 57 6,zm 58 7,zb 59 .lss 57 58] (.cond (.l 59) (.skip) (.exit 1))) (.block 2 (.seq (zR [zm 60 0,zm 61 6,⟨.l 62,.index (.l 60) (.l 61),none⟩,zm 63 4,zb 64 .neq 62 63] (.cond (.l 64) (zR [zm 65 0,zm 66 6,zc 67 .add 66 1,zm 68 7,⟨.l 69,.slice .str 1 (.l 65) (some (.l 67)) (some (.l 68)) none,none⟩,zm 70 4,z2 71 316 69 70,zw 9 71] (.seq (zR [zm 72 9,zc 73 .lss 72 0] (.cond (.l 73) (zR [zi 2 (-1)] (.ret)) (.skip))) (.region [zm 74 6,zm 75 9,zc 76 .add 75 1,zb 77 .add 74 76,zw 6 77]))) (.skip))) (.seq (zR [zm 78 0,zm 79 6,zc 80 .add 79 1,⟨.l 81,.index (.l 78) (.l 80),none⟩,zm 82 5,zb 83 .eql 81 82,zn 84 83,zg (zm 85 0) 84 true,zg (zm 86 6) 84 true,zg (zm 87 6) 84 true,zg (zm 88 3) 84 true,zg (zb 89 .add 87 88) 84 true,⟨.l 90,.slice .str 1 (.l 85) (some (.l 86)) (some (.l 89)) none,some ((.l 84),true)⟩,zg (zm 91 1) 84 true,zg (zb 92 .eql 90 91) 84 true,zp 93 84 92] (.cond (.l 93) (zR [zm 94 6,zw 2 94] (.ret)) (.skip))) (zR [zm 95 6,zc 96 .add 95 1,zw 6 96] (zR [zm 97 8,zc 98 .add 97 1,zw 8 98] (.seq (.bad) (.cond (.l 107) (zR [zm 108 0,zm 109 6,⟨.l 110,.slice .str 1 (.l 108) (some (.l 109)) none none,none⟩,zm 111 1,z2 112 317 110 111,zw 10 112] (.seq (zR [zm 113 10,zc 114 .geq 113 0] (.cond (.l 114) (zR [zm 115 10,zm 116 6,zb 117 .add 115 116,zw 2 117] (.ret)) (.skip))) (zR [zi 2 (-1)] (.ret)))) (.seq (.bad) (.cond (.l 132) (zR [zm 133 0,zm 134 6,⟨.l 135,.slice .str 1 (.l 133) (some (.l 134)) none none,none⟩,zm 136 1,z2 137 319 135 136,zw 11 137] (.seq (zR [zm 138 11,zc 139 .lss 138 0] (.cond (.l 139) (zR [zi 2 (-1)] (.ret)) (.skip))) (zR [zm 140 6,zm 141 11,zb 142 .add 140 141,zw 2 142] (.ret)))) (.skip))))))))))
def Kc:ao:=zR [zi 2 0] (zR [zm 14 1,zL 15 14,zw 3 15] (.seq (.block 0 (zR [zm 17 3,zc 18 .eql 17 0,zn 19 18,zg (zm 20 1) 19 false,zg (zm 21 0) 19 false,zg (zb 22 .eql 20 21) 19 false,zP 23 19 22,zn 16 23] (.cond (.l 16) (zR [zi 2 0] (.ret)) (zR [zm 25 3,zc 26 .eql 25 1,zn 24 26] (.cond (.l 24) (zR [zm 27 0,zm 28 1,⟨.l 29,.index (.l 28) (kI 0),none⟩,z2 30 316 27 29,zw 2 30] (.ret)) (zR [zm 32 3,zm 33 0,zL 34 33,zb 35 .geq 32 34,zn 31 35] (.cond (.l 31) (zR [zi 2 (-1)] (.ret)) (.seq (.bad) (.cond (.l 36) (zR [zm 45 0,zm 46 1,z2 47 317 45 46,zw 2 47] (.ret)) (.skip)))))))))) (zR [zm 48 1,⟨.l 49,.index (.l 48) (kI 0),none⟩,zw 4 49] (zR [zm 50 1,⟨.l 51,.index (.l 50) (kI 1),none⟩,zw 5 51] (zR [zi 6 0] (zR [zm 52 0,zL 53 52,zm 54 3,zb 55 .sub 53 54,zc 56 .add 55 1,zw 7 56] (zR [zi 8 0] (.seq (.block 1 (.loop Xx)) (zR [zi 2 (-1)] (.ret))))))))))
theorem Xy:FT 270=some ⟨143,[0,1,4,5,6,7,8,9,10,11,12,13],[.var (.p 2)],Kc⟩:=by kernel_rfl
def Kd:ao:=zR [zi 2 0] (zR [zm 5 0,zm 6 1,z2 7 336 5 6,zw 2 7] (.ret))
theorem Xz:FT 316=some ⟨8,[0,1,4],[.var (.p 2)],Kd⟩:=by kernel_rfl
def Ke:ao:=zR [⟨.p 2,.mv (.c (.str [])),none⟩,⟨.p 3,.mv (.c (.bool false)),none⟩] (zR [zm 6 0,zm 7 1,z2 8 296 6 7,ze 9 0 8,ze 10 1 8,zw 2 9,zw 3 10] (.ret))
theorem XA:FT 225=some ⟨11,[0,1,4,5],[.var (.p 2),.var (.p 3)],Ke⟩:=by kernel_rfl
def Kf:ao:=zR [⟨.p 2,.mv (.c (.str [])),none⟩,⟨.p 3,.mv (.c (.bool false)),none⟩] (.seq (zR [zm 6 0,zm 7 1,z2 8 329 6 7,zu 9 8] (.cond (.l 9) (zR [zm 10 0,zw 2 10,⟨.p 3,.mv (.c (.bool false)),none⟩] (.ret)) (.skip))) (zR [zm 11 0,zm 12 1,zL 13 12,⟨.l 14,.slice .str 1 (.l 11) (some (.l 13)) none none,none⟩,zw 2 14,⟨.p 3,.mv (.c (.bool true)),none⟩] (.ret)))
theorem XB:FT 296=some ⟨15,[0,1,4,5],[.var (.p 2),.var (.p 3)],Kf⟩:=by kernel_rfl
def Kg:ao:=zR [⟨.p 1,.mv (.c (.bool false)),none⟩] (zR [zm 3 0,⟨.l 4,.bin .neq (.l 3) (.c (.str [])),none⟩,zn 5 4,zg (zm 6 0) 5 true,⟨.l 7,.call (kF 211) [(.l 6),(.c (.str zD2))],some ((.l 5),true)⟩,⟨.l 8,.bin .eql (.l 7) (.c (.str [])),some ((.l 5),true)⟩,zp 9 5 8,zw 1 9] (.ret))
theorem XC:FT 297=some ⟨10,[0,2],[.var (.p 1)],Kg⟩:=by kernel_rfl
def Kh:ao:=zR [⟨.p 2,.mv (.c (.str [])),none⟩] (.seq (zR [zm 7 0,⟨.l 8,.bin .eql (.l 7) (.c (.str [])),none⟩,zn 9 8,zg (zm 10 1) 9 false,⟨.l 11,.bin .eql (.l 10) (.c (.str [])),some ((.l 9),false)⟩,zP 12 9 11] (.cond (.l 12) (zR [zm 13 0,zw 2 13] (.ret)) (.skip))) (.seq (zR [zm 14 1,zL 15 14,zc 16 .eql 15 1,zn 17 16,zg (zm 18 1) 17 true,⟨.l 19,.index (.l 18) (kI 0),some ((.l 17),true)⟩,⟨.l 20,.bin .lss (.l 19) (.c (.int .u8 (128))),some ((.l 17),true)⟩,zp 21 17 20] (.cond (.l 21) (.seq (.draw [(zm 22 0,[]),(zm 23 1,[0]),(⟨.l 24,.index (.l 23) (kI 0),none⟩,[0]),(z2 25 272 22 24,[]),(zm 26 1,[0,1,2,3]),(⟨.l 27,.index (.l 26) (kI 0),none⟩,[0,1,2,3]),(z2 28 271 25 27,[]),(zw 2 28,[])]) (.ret)) (.skip))) (.seq (zR [zm 30 1,z1 31 273 30,zn 29 31,ze 32 0 29,ze 33 1 29,⟨.p 3,.alloc 314 wW,none⟩,zs 256 3 32,zw 4 33] (zR [zm 34 4] (.cond (.l 34) (zR [zm 35 0,⟨.l 36,.call (kF 275) [(.l 35),(.p 3)],none⟩,⟨.l 37,.call (kF 274) [(.l 36),(.p 3)],none⟩,zw 2 37] (.ret)) (.skip)))) (zR [zm 38 0,zm 39 1,z2 40 277 38 39,zm 41 1,z2 42 276 40 41,zw 2 42] (.ret)))))
theorem XD:FT 211=some ⟨43,[0,1,4,5,6],[.var (.p 2)],Kh⟩:=by kernel_rfl
def XE:ao:=.seq (zR [zm 6 3,zm 7 0,zL 8 7,zb 9 .lss 6 8] (.cond (.l 9) (.skip) (.exit 0))) (.seq (.block 1 (zR [zm 12 0,zm 13 3,⟨.l 14,.index (.l 12) (.l 13),none⟩,zw 4 14] (.seq (zR [zm 15 4,⟨.l 16,.bin .geq (.l 15) (.c (.int .u8 (128))),none⟩] (.cond (.l 16) (zR [zt 17 256 1,zs 256 1 17,⟨.p 2,.mv (.c (.bool false)),none⟩] (.ret)) (.skip))) (.region [zm 18 4,⟨.l 19,.fy (some 256) 1 (.p 1) (.l 18),none⟩,⟨.no,.store 1 (.l 19) (.c (.bool true)),none⟩])))) (.region [zm 10 3,zc 11 .add 10 1,zw 3 11]))
def Ds:ao:=zR [⟨.p 1,.alloc 314 wW,none⟩,⟨.p 2,.mv (.c (.bool false)),none⟩] (.seq (zR [zi 3 0] (.block 0 (.loop XE))) (zR [zt 20 256 1,zs 256 1 20,⟨.p 2,.mv (.c (.bool true)),none⟩] (.ret)))
theorem XF:FT 273=some ⟨21,[0,2,3,4,5],[.cell 256 true (.p 1),.var (.p 2)],Ds⟩:=by kernel_rfl
def sH:ao:=.seq (zR [zm 5 0,zL 6 5,zc 7 .gtr 6 0] (.cond (.l 7) (.skip) (.exit 0))) (.block 1 (.seq (zR [zm 8 1,zm 9 0,⟨.l 10,.index (.l 9) (kI 0),none⟩,z2 11 320 8 10,zu 12 11] (.cond (.l 12) (.exit 0) (.skip))) (.region [zm 13 0,⟨.l 14,.slice .str 1 (.l 13) (some (kI 1)) none none,none⟩,zw 0 14])))
def Ki:ao:=zR [⟨.p 2,.mv (.c (.str [])),none⟩] (.seq (.block 0 (.loop sH)) (zR [zm 15 0,zw 2 15] (.ret)))
theorem XG:FT 274=some ⟨16,[0,1,4],[.var (.p 2)],Ki⟩:=by kernel_rfl
def sI:ao:=.seq (zR [zm 5 0,zL 6 5,zc 7 .gtr 6 0] (.cond (.l 7) (.skip) (.exit 0))) (.block 1 (.seq (zR [zm 8 1,zm 9 0,zm 10 0,zL 11 10,zc 12 .sub 11 1,⟨.l 13,.index (.l 9) (.l 12),none⟩,z2 14 320 8 13,zu 15 14] (.cond (.l 15) (.exit 0) (.skip))) (.region [zm 16 0,zm 17 0,zL 18 17,zc 19 .sub 18 1,⟨.l 20,.slice .str 1 (.l 16) none (some (.l 19)) none,none⟩,zw 0 20])))
def Kj:ao:=zR [⟨.p 2,.mv (.c (.str [])),none⟩] (.seq (.block 0 (.loop sI)) (zR [zm 21 0,zw 2 21] (.ret)))
theorem XH:FT 275=some ⟨22,[0,1,4],[.var (.p 2)],Kj⟩:=by kernel_rfl
def Kk:ao:=zR [⟨.p 2,.mv (.c (.bool false)),none⟩] (zR [zm 5 0,zm 6 1,⟨.l 7,.tM (.l 5),none⟩,⟨.l 8,.fy (some 256) 1 (.l 7) (.l 6),none⟩,zd 9 1 8,zw 2 9] (.ret))
theorem XI:FT 320=some ⟨10,[0,1,4],[.var (.p 2)],Kk⟩:=by kernel_rfl
def Kl:ao:=zR [⟨.p 1,.mv (.c (.bool false)),none⟩] (zR [zm 3 0,z1 4 297 3,zn 5 4,zg (zm 6 0) 5 true,⟨.l 7,.index (.l 6) (kI 0),some ((.l 5),true)⟩,⟨.l 8,.bin .neq (.l 7) (.c (.int .u8 (48))),some ((.l 5),true)⟩,zg (zn 9 8) 5 true,zg (zm 10 0) 9 false,⟨.l 11,.bin .eql (.l 10) (.c (.str [48])),some ((.l 9),false)⟩,zg (zP 12 9 11) 5 true,zp 13 5 12,zw 1 13] (.ret))
theorem XJ:FT 226=some ⟨14,[0,2],[.var (.p 1)],Kl⟩:=by kernel_rfl
theorem agK {t esz n0:Nat}{x i:aS}{l:List bj}{pe:List AV}{lo:List (Nat×AV)}{hp:ae}{df wr:List Nat}{b o:Nat}{k:IntKind}{n:Int}{Q:aw->Prop}(hx:(St.mk pe lo hp df).ah x=some (.ptr b o))(hy:(St.mk pe lo hp df).ah i=some (.int k n))(hb:0<=n/\n<n0)
 (h:WO M l ⟨⟨pe,(t,.ptr b (o+n.toNat*esz))::lo,hp,df⟩,wr⟩ Q):WO M (⟨.l t,.fy (some n0) esz x i,none⟩::l) ⟨⟨pe,lo,hp,df⟩,wr⟩ Q:=
 abx (v:=.ptr b (o+n.toNat*esz)) (by simp[br,hx,hy,po,hb]) rfl h
theorem agL {t:Nat}{x y:aS}{l:List bj}{pe:List AV}{lo:List (Nat×AV)}{hp:ae}{df wr:List Nat}{a b:Int}{Q:aw->Prop}(hx:(St.mk pe lo hp df).ah x=some (.int .u8 a))(hy:(St.mk pe lo hp df).ah y=some (.int .u8 b))(hr:0<=a-b/\a-b<256)
 (h:WO M l ⟨⟨pe,(t,.int .u8 (a-b))::lo,hp,df⟩,wr⟩ Q):WO M (⟨.l t,.bin .sub x y,none⟩::l) ⟨⟨pe,lo,hp,df⟩,wr⟩ Q:=
 abx (v:=.int .u8 (a-b)) (by
  have:IntKind.u8.wrap (a-b)=a-b:=by simp only[IntKind.wrap,IntKind.bits,IntKind.signed];simp;omega
  simp only[br,hx,hy,dO,if_true,this]) rfl h
def hasB (c:Int)(s:ax):Bool:=s.any (fun b=>decide ((b.toNat:Int)=c))
theorem XO (s:ax)(b:UInt8):decide (0<=firstIdx ⟨s.toArray⟩ b)=hasB b.toNat s:=by
 unfold firstIdx hasB;have hsz:(aY s.toArray).size=s.length:=by simp[m7]
 have hg:∀i,i<s.length->(aY s.toArray)[i]! = s[i]! := fun i hi=>by
  have h1:i<(aY s.toArray).size:=by rw[hsz];exact hi
  rw[getElem!_pos (aY s.toArray) i h1,getElem!_pos s i hi];rfl
 cases hf:(f9 (aY s.toArray).size).find? fun i=>(aY s.toArray)[i]! == b with
 | some i=>
  have h1:=mO hf;have h2:=ii hf;rw[i9,hsz]at h2;rw[hg i h2]at h1;symm
  simp only[decide_eq_true (show (0:Int)<=(i:Int) by omega)];rw[List.any_eq_true];refine⟨s[i],c0 h2,?_⟩;rw[getElem!_pos s i h2]at h1;simp at h1;simp[h1]
 | none=>
  rw[List.find?_eq_none]at hf;symm
  rw[show decide ((0:Int) <= -1)=false from rfl];rw[List.any_eq_false];intro x hx;obtain⟨i,hi,rfl⟩:=List.mem_iff_getElem.1 hx;have:=hf i (by rw[i9,hsz];exact hi);rw[hg i hi,getElem!_pos s i hi]at this;simp at this;simp only[decide_eq_true_eq];intro e;exact this (c9.1 ac)
structure sJ (M:az):Prop where
 ft:M.FT=FT
 Km:∀ars h,M.ext 270 ars h=none
 Kn:∀ars h,M.ext 316 ars h=none
 Ko:∀(s:ax) (c:Int) h,M.ext 336 [.str s,.int .u8 c] h=some ⟨.iV (firstIdx ⟨s.toArray⟩ c.toNat.toUInt8),h,[]⟩
theorem XP (b:UInt8):((b.toNat:Int)).toNat.toUInt8=b:=by simp
theorem XQ (C:sJ M)(s:ax)(b:UInt8)(H:ae):CT M (ji 316) [.str s,.int .u8 b.toNat] H ⟨.iV (firstIdx ⟨s.toArray⟩ b),H,[]⟩:=by
 have hc:=C.Ko s b.toNat H;rw[XP]at hc;refine CT.run (C.Kn _ _) (pS (by rw[C.ft];exact Xz) am ?_);simp only[ci,ck];unfold Kd;simp only[enter];repeat' first|apply aaK|apply aa|apply aaI|apply aaC|apply abZ|(apply acq;rfl;rfl;first|exact hc)|(apply abx;rfl;rfl)|(apply abO;rfl;rfl)
 exact⟨.inr rfl,rfl,rfl,rfl,_,rfl,rfl⟩
theorem XR (C:sJ M)(s:ax)(b:UInt8)(H:ae):CT M (ji 270) [.str s,.str [b]] H ⟨.iV (firstIdx ⟨s.toArray⟩ b),H,[]⟩:=by
 have hc:=XQ C s b H;have hn0:¬(([b]:ax).length:Int)=0:=by simp
 have hn:(([b]:ax).length:Int)=1:=rfl;refine CT.run (C.Km _ _) (pS (by rw[C.ft];exact Xy) am ?_);simp only[ci,ck];unfold Kc;simp only[enter];by_cases hs:([b]:ax)=s
 . subst hs;have e:firstIdx ⟨([b]:ax).toArray⟩ b=0:=by
    have h1:=XO [b] b;have h2:hasB b.toNat [b]=true:=by simp[hasB]
    rw[h2,decide_eq_true_eq]at h1;unfold firstIdx at h1 ⊢;rw[show (aY ([b]:ax).toArray).size=1 from rfl]at h1 ⊢;rw[show f9 1=[0] from rfl]at h1 ⊢;have h3:((aY ([b]:ax).toArray)[0]! == b)=true:=by
     cases hq:((aY ([b]:ax).toArray)[0]! == b) with
     | true=>rfl
     | false=>simp[hq]at h1
    simp only[List.find?_cons,h3];rfl
   rw[e];repeat' first|(apply aeT;rfl;rfl;all_goals first|(intro h;exact absurd rfl h)|intro _)|apply aaK|apply aa|apply aaI|apply aaC|apply acu|apply abZ|apply aP|apply bH|(apply ack;rfl)|(apply aew;rfl)|(apply adw;rfl;rfl)|(apply adt;rfl;rfl)|(apply abx;rfl;rfl)|(apply abO;rfl;rfl)|(intro _;omega)|intro _
   all_goals exact⟨.inr rfl,rfl,rfl,rfl,_,rfl,rfl⟩
 . repeat' first|(apply aeT;rfl;rfl;all_goals first|(intro h;exact absurd h hs)|intro _)|apply aaK|apply aa|apply aaI|apply aaC|apply acu|apply abZ|apply aP|apply bH|(apply ack;rfl)|(apply acj;rfl)|(apply aew;rfl)|(apply adw;rfl;rfl)|(apply adt;rfl;rfl)|(apply afp;rfl;rfl;first|exact hc)|(apply aft;rfl;rfl;omega)|(apply abx;rfl;rfl)|(apply abO;rfl;rfl)|(intro _;omega)|intro _
   all_goals exact⟨.inr rfl,rfl,rfl,rfl,_,rfl,rfl⟩
def bQ (b:UInt8):ax->ax×Option ax
 | []=>([],none)
 | c::s=>if c=b then ([],some s) else (c::(bQ b s).1,(bQ b s).2)
def nc (b:UInt8):ax->List ax
 | []=>[[]]
 | c::s=>if c=b then []::nc b s else match nc b s with
   | []=>[[c]]
   | x::l=>(c::x)::l
def mc (b:UInt8):ax->Nat
 | []=>0
 | c::s=>(if c=b then 1 else 0)+mc b s
theorem nd {b:UInt8}:∀{s:ax},(bQ b s).2=none->(bQ b s).1=s/\nc b s=[s]/\mc b s=0
 | [],_=>⟨rfl,rfl,rfl⟩
 | c::s,h=>by
  rw[bQ]at h ⊢;by_cases hc:c=b
  . rw[if_pos hc]at h;cases h
  . rw[if_neg hc]at h ⊢;obtain⟨h1,h2,h3⟩:=nd (s:=s) h;refine⟨by simp only;rw[h1],?_,?_⟩
    . rw[nc,if_neg hc,h2]
    . rw[mc,if_neg hc,h3]
theorem qB {b:UInt8}:∀{s y:ax},(bQ b s).2=some y->s=(bQ b s).1++b::y/\nc b s=(bQ b s).1::nc b y/\mc b s=mc b y+1/\b∉(bQ b s).1
 | [],y,h=>by cases h
 | c::s,y,h=>by
  rw[bQ]at h ⊢;by_cases hc:c=b
  . rw[if_pos hc]at h ⊢;obtain rfl:s=y:=jr.inj h;subst hc;refine⟨rfl,?_,?_,am⟩
    . rw[nc,if_pos rfl]
    . rw[mc,if_pos rfl];omega
  . rw[if_neg hc]at h ⊢;obtain⟨h1,h2,h3,h4⟩:=qB (s:=s) h;refine⟨by simp only[kn];rw[←h1],?_,?_,?_⟩
    . rw[nc,if_neg hc,h2]
    . rw[mc,if_neg hc,h3];omega
    . simp only[n3,not_or];exact⟨fun e=>hc e.symm,h4⟩
theorem XS (s:ax)(b:UInt8):firstIdx ⟨s.toArray⟩ b=if (bQ b s).2=none then -1 else ((bQ b s).1.length:Int):=by
 have hsz:(aY s.toArray).size=s.length:=by simp[m7]
 have hg:∀i,i<s.length->(aY s.toArray)[i]! = s[i]! := fun i hi=>by
  have h1:i<(aY s.toArray).size:=by rw[hsz];exact hi
  rw[getElem!_pos (aY s.toArray) i h1,getElem!_pos s i hi];rfl
 unfold firstIdx;cases hy:(bQ b s).2 with
 | none=>
  rw[if_pos rfl];cases hf:(f9 (aY s.toArray).size).find? fun i=>(aY s.toArray)[i]! == b with
  | none=>rfl
  | some i=>
   exfalso;have h1:=mO hf;have h2:=ii hf;rw[i9,hsz]at h2;rw[hg i h2,getElem!_pos s i h2]at h1;have hm:b∈s:=by
    have:s[i]=b:=by simpa using h1
    rw[←this];exact c0 h2
   have h0:=(nd hy).2.2;have:∀s:ax,b∈s->0<mc b s:=fun s=>by
    induction s with
    | nil=>intro h;cases h
    | cons c s ih=>
     intro h;rw[mc];rcases n3.1 h with rfl|h
     . rw[if_pos rfl];omega
     . have:=ih h;omega
   have:=this s hm;omega
 | some y=>
  rw[if_neg am];obtain⟨h1,_,_,h4⟩:=qB hy;generalize (bQ b s).1=x at h1 h4 ⊢;have hl:x.length<s.length:=by rw[h1];simp
  have hf:((f9 (aY s.toArray).size).find? fun i=>(aY s.toArray)[i]! == b)=some x.length:=by
   rw[hsz,List.find?_range_eq_some];refine⟨?_,by simpa using hl,fun j hj=>?_⟩
   . rw[hg _ hl,getElem!_pos s _ hl];have:s[x.length]? = some b:=by rw[h1];simp
     rw[aR hl]at this;simp[jr.inj this]
   . rw[hg j ac,getElem!_pos s j ac];have:s[j]? = x[j]? := by rw[h1,hZ hj]
     rw[aR (by omega:j<s.length),aR hj]at this;rw[jr.inj this];have hne:x[j]≠b:=fun e=>h4 (by rw[←e];exact c0 hj)
     simp[hne]
  rw[hf]
def jd (b:UInt8)(s:ax):AV:=.ay [.str (bQ b s).1,.str ((bQ b s).2.getD []),.bool (bQ b s).2.isSome]
theorem sM {b:UInt8}{s y:ax}(h:(bQ b s).2=some y):s.length=(bQ b s).1.length+1+y.length:=by
 have:=congrArg List.length (qB h).1;simp only[cQ,bW]at this;omega
theorem Dt {b:UInt8}{s y:ax}(h:(bQ b s).2=some y):s.take (bQ b s).1.length=(bQ b s).1:=by
 have e:=(qB h).1;generalize (bQ b s).1=x at e ⊢;rw[e];simp
theorem Kp {b:UInt8}{s y:ax}(h:(bQ b s).2=some y):s.drop ((bQ b s).1.length+1)=y:=by
 have e:=(qB h).1;generalize (bQ b s).1=x at e ⊢;rw[e];simp
theorem XT (n210:∀ars h,M.ext 210 ars h=none)(C:sJ M)(s:ax)(b:UInt8)(hl:s.length<1000000)(H:ae):CT M (ji 210) [.str s,.str [b]] H ⟨jd b s,H,[]⟩:=by
 have hc:=XR C s b H;have hn1:([b]:ax).length=1:=rfl;rw[XS]at hc;refine CT.run (n210 _ _) (pS (by rw[C.ft];exact Xw) am ?_);simp only[ci,ck];cases hy:(bQ b s).2 with
 | none=>
  rw[if_pos hy]at hc;have h1:=(nd hy).1;unfold Dr;simp only[enter];repeat' first|apply aaK|apply aa|apply aaI|apply aaC|apply abZ|apply acn|(apply acj;rfl)|(apply aeY;rfl;rfl)|(apply afp;rfl;rfl;first|exact hc)|(apply abx;rfl;rfl)|(apply abO;rfl;rfl)|(intro _;omega)|intro _
  refine⟨.inr rfl,rfl,rfl,rfl,_,rfl,?_⟩;simp only[jd,hy,h1];rfl
 | some y=>
  rw[if_neg (by rw[hy];simp)]at hc;have h1:=sM hy;have h2:=Dt hy;have h3:=Kp hy;generalize hx:(bQ b s).1=x at h1 h2 h3 hc;unfold Dr;simp only[enter];repeat' first|(apply afD (r:=x);rfl;rfl;omega;(rw[dL];exact h2))|(apply afy (r:=y);rfl;rfl;omega;(rw[show ((x.length:Int)+(([b]:ax).length:Int)).toNat=x.length+1 by omega];exact h3))|apply aaK|apply aa|apply aaI|apply aaC|apply abZ|apply aP|(apply aeW;rfl)|(apply ack;rfl)|(apply aeY;rfl;rfl)|(apply adz;rfl;rfl;omega)|(apply afp;rfl;rfl;first|exact hc)|(apply abx;rfl;rfl)|(apply abO;rfl;rfl)|(intro _;omega)|intro _
  refine⟨.inr rfl,rfl,rfl,rfl,_,rfl,?_⟩;simp only[jd,hy,hx];rfl
theorem XU (n210:∀ars h,M.ext 210 ars h=none)(C:sJ M)(s:ax)(b:UInt8)(hl:s.length<1000000):bg M 160 [.str s,.str [b]] [] ⟨jd b s,[],[]⟩:=by
 have hc:=XT n210 C s b hl [];unfold jd at hc ⊢;refine bU (by rw[C.ft];exact Xv) am ?_;unfold Kb;simp only[enter];repeat' first|apply aaK|apply aa|apply aaI|apply aaC|apply abZ|(apply afp;rfl;rfl;first|exact hc)|(apply abx;rfl;rfl)|(apply abO;rfl;rfl)
 exact⟨.inr rfl,rfl,_,rfl,rfl,rfl⟩
@[irreducible] def fB:List AV:=(f9 256).map fun i=>.bool (wS i)
def nf:ax:=[48,49,50,51,52,53,54,55,56,57]
set_option maxRecDepth 1000000 in
theorem XV (M:az):gW (bC M.ext M.inv M.FT 100) (fun _=>some ⟨21,[0,2,3,4,5],[.cell 256 true (.p 1),.var (.p 2)],Ds⟩) 273 [.str nf] []=some ⟨.ay [.agg fB,.bool true],[],[]⟩:=by
 kernel_rfl
theorem XW {run:ao->aw->Option (Ex×aw)}{F G:FuncId->Option dh}{f:FuncId}(h:F f=G f)(ars:List AV)(hp:ae):gW run F f ars hp=gW run G f ars hp:=by
 simp only[gW,h]
theorem XX (hft:M.FT=FT):bg M 273 [.str nf] [] ⟨.ay [.agg fB,.bool true],[],[]⟩:=by
 have h2:M.FT 273=(fun _=>some ⟨21,[0,2,3,4,5],[.cell 256 true (.p 1),.var (.p 2)],Ds⟩:FuncId->Option dh) 273:=by rw[hft];exact XF
 exact⟨100,(XW h2 _ _).trans (XV M)⟩
structure oJ (M:az):Prop where
 ft:M.FT=FT
 Kq:∀ars h,M.ext 320 ars h=none
 Kr:∀ars h,M.ext 274 ars h=none
 Ks:∀ars h,M.ext 275 ars h=none
 wY:∀h,M.ext 273 [.str nf] h=some ⟨.ay [.agg fB,.bool true],h,[]⟩
theorem XY {c:Nat}(h:c<256):fB[c]? = some (.bool (wS c)):=by
 simp[fB,h]
theorem XZ {c:UInt8}:partOf (fB.drop (0+((c.toNat:Int)).toNat*1)) 0 1 false=some (.bool (bS c)):=by
 have hc:c.toNat<256:=c.toNat_lt;rw[Hf,dL,iX,Nat.mul_one];simp only[partOf,hJ,if_false];exact XY hc
theorem Kt (C:oJ M)(c:UInt8){H:ae}{b:Nat}(hb:H.at b=some (.cells fB 314)):CT M (ji 320) [.ptr b 0,.int .u8 c.toNat] H ⟨.bool (bS c),H,[]⟩:=by
 have hc:c.toNat<256:=c.toNat_lt;refine CT.run (C.Kq _ _) (pS (by rw[C.ft];exact XI) am ?_);simp only[ci,ck];unfold Kk;simp only[enter];repeat' first|(apply agK;rfl;rfl;omega)|(apply afN;rfl;exact hb;exact XZ)|apply aaK|apply aa|apply aaI|apply aaC|apply abZ|(apply abx;rfl;rfl)|(apply abO;rfl;rfl)
 exact⟨.inr rfl,rfl,rfl,rfl,_,rfl,rfl⟩
def ky (s:ax):ax:=s.dropWhile bS
def jj (s:ax):ax:=(s.reverse.dropWhile bS).reverse
theorem Ku (s:ax)(c:UInt8):jj (s++[c])=if bS c then jj s else s++[c]:=by
 unfold jj;rw[List.reverse_append,List.reverse_singleton,List.singleton_append,d9];split
 . rfl
 . simp
theorem Ya (C:oJ M){H:ae}{b:Nat}(hb:H.at b=some (.cells fB 314)){Q:Ex->aw->Prop}:∀(n:Nat) (s:ax) (lo:List (Nat×AV)) (wr:List Nat) (_:wr=[]),s.length=n->n<1000000 ->
 (∀lo,Q (.exit 0) ⟨⟨[.str (jj s),.ptr b 0,.str []],lo,H,[]⟩,[]⟩)->W M (.loop sI) ⟨⟨[.str s,.ptr b 0,.str []],lo,H,[]⟩,wr⟩ Q:=by
 intro n;induction n with
 | zero=>
  intro s lo wr hw hs hn hQ;subst hw;obtain rfl:s=[]:=List.length_eq_zero_iff.1 hs;have h0:([]:ax).length=0:=rfl;refine W.loop ?_;unfold sI;repeat' first|apply aaK|apply aa|apply aaI|apply aaC|apply acV|apply bh|apply bJ|(apply acj;rfl)|(apply acI;rfl;rfl)|(apply abx;rfl;rfl)|(intro _;omega)|intro _
  exact hQ _
 | succ n ih=>
  intro s lo wr hw hs hn hQ;subst hw;rcases f7 s with rfl|⟨t,c,e⟩
  . cases hs
  . rw[f8]at e;subst e;have hl:(t++[c]).length=t.length+1:=by simp
    have hg:(t++[c])[(((t++[c]).length:Int)-1).toNat]! = c:=by
     rw[show (((t++[c]).length:Int)-1).toNat=t.length by omega,getElem!_pos _ _ am];simp
    have hc:=Kt C c hb;rw[Ku]at hQ;cases hd:bS c with
    | true=>
     rw[hd]at hc;rw[if_pos hd]at hQ;refine W.loop ?_;unfold sI;repeat' first|(rw[hg])|(apply afD (r:=t);rfl;rfl;omega;(rw[show (((t++[c]).length:Int)-1).toNat=t.length by omega];simp))|apply aaK|apply aa|apply aaI|apply aaC|apply acu|apply acn|apply bc|(apply ack;rfl)|(apply acj;rfl)|(apply acI;rfl;rfl)|(apply aeR;rfl;rfl;omega)|(apply afp;rfl;rfl;first|exact hc)|(apply aft;rfl;rfl;omega)|(apply abx;rfl;rfl)|(apply abO;rfl;rfl)|(intro _;omega)|intro _
     refine fV ?_;exact ih t _ _ rfl ac ac hQ
    | false=>
     rw[hd]at hc;rw[if_neg (by rw[hd];simp)]at hQ;refine W.loop ?_;unfold sI;repeat' first|(rw[hg])|apply aaK|apply aa|apply aaI|apply aaC|apply acu|apply acV|apply acn|apply bh|(apply cB;rfl)|apply bJ|(apply ack;rfl)|(apply acI;rfl;rfl)|(apply aeR;rfl;rfl;omega)|(apply afp;rfl;rfl;first|exact hc)|(apply aft;rfl;rfl;omega)|(apply abx;rfl;rfl)|(intro _;omega)|intro _
     exact hQ _
theorem Yb (C:oJ M){H:ae}{b:Nat}(hb:H.at b=some (.cells fB 314))(s:ax)(hl:s.length<1000000):CT M (ji 275) [.str s,.ptr b 0] H ⟨.str (jj s),H,[]⟩:=by
 refine CT.run (C.Ks _ _) (pS (by rw[C.ft];exact XH) am ?_);simp only[ci,ck];unfold Kj;simp only[enter];repeat' first|apply aaK|apply aa|apply aaI|apply aaC|apply acu|(apply abO;rfl;rfl)
 refine Ya C hb s.length s _ _ rfl rfl hl fun lo=>?_
 repeat' first|apply aaK|apply aa|apply aaI|apply aaC|apply abZ|apply bk|(apply abx;rfl;rfl)|(apply abO;rfl;rfl)
 exact⟨.inr rfl,rfl,rfl,rfl,_,rfl,rfl⟩
theorem Kv (C:oJ M){H:ae}{b:Nat}(hb:H.at b=some (.cells fB 314)){Q:Ex->aw->Prop}:∀(s:ax) (lo:List (Nat×AV)) (wr:List Nat) (_:wr=[]),s.length<1000000 ->
 (∀lo,Q (.exit 0) ⟨⟨[.str (ky s),.ptr b 0,.str []],lo,H,[]⟩,[]⟩)->W M (.loop sH) ⟨⟨[.str s,.ptr b 0,.str []],lo,H,[]⟩,wr⟩ Q
 | [],lo,wr,hw,hn,hQ=>by
  subst hw;have h0:([]:ax).length=0:=rfl;refine W.loop ?_;unfold sH;repeat' first|apply aaK|apply aa|apply aaI|apply aaC|apply acV|apply bh|apply bJ|(apply acj;rfl)|(apply acI;rfl;rfl)|(apply abx;rfl;rfl)|(intro _;omega)|intro _
  exact hQ _
 | c::s,lo,wr,hw,hn,hQ=>by
  subst hw;have hl:(c::s).length=s.length+1:=rfl;have hc:=Kt C c hb;have e:ky (c::s)=if bS c then ky s else c::s:=d9 ..
  rw[e]at hQ;cases hd:bS c with
  | true=>
   rw[hd]at hc;rw[if_pos hd]at hQ;refine W.loop ?_;unfold sH;repeat' first|(apply afy (r:=s);rfl;rfl;omega;rfl)|apply aaK|apply aa|apply aaI|apply aaC|apply acu|apply acn|apply bc|(apply ack;rfl)|(apply acj;rfl)|(apply acI;rfl;rfl)|(apply afp;rfl;rfl;first|exact hc)|(apply aft;rfl;rfl;omega)|(apply abx;rfl;rfl)|(apply abO;rfl;rfl)|(intro _;omega)|intro _
   refine fV ?_;exact Kv C hb s _ _ rfl ac hQ
  | false=>
   rw[hd]at hc;rw[if_neg (by rw[hd];simp)]at hQ;refine W.loop ?_;unfold sH;repeat' first|apply aaK|apply aa|apply aaI|apply aaC|apply acu|apply acV|apply acn|apply bh|(apply cB;rfl)|apply bJ|(apply ack;rfl)|(apply acI;rfl;rfl)|(apply afp;rfl;rfl;first|exact hc)|(apply aft;rfl;rfl;omega)|(apply abx;rfl;rfl)|(intro _;omega)|intro _
   exact hQ _
theorem Yc (C:oJ M){H:ae}{b:Nat}(hb:H.at b=some (.cells fB 314))(s:ax)(hl:s.length<1000000):CT M (ji 274) [.str s,.ptr b 0] H ⟨.str (ky s),H,[]⟩:=by
 refine CT.run (C.Kr _ _) (pS (by rw[C.ft];exact XG) am ?_);simp only[ci,ck];unfold Ki;simp only[enter];repeat' first|apply aaK|apply aa|apply aaI|apply aaC|apply acu|(apply abO;rfl;rfl)
 refine Kv C hb s _ _ rfl hl fun lo=>?_
 repeat' first|apply aaK|apply aa|apply aaI|apply aaC|apply abZ|apply bk|(apply abx;rfl;rfl)|(apply abO;rfl;rfl)
 exact⟨.inr rfl,rfl,rfl,rfl,_,rfl,rfl⟩
theorem Kw {p:UInt8->Bool}:∀s:ax,(s.dropWhile p).length<=s.length
 | []=>aL _
 | c::s=>by
  rw[d9];have:=Kw (p:=p) s;split
  . rw[bW];omega
  . exact aL _
theorem Yd (s:ax):(jj s).length<=s.length:=by
 unfold jj;have:=Kw (p:=bS) s.reverse;simpa using this
theorem Kx:fB.length=256:=by simp[fB]
theorem Ye:fB.all db=true:=by
 simp only[fB,List.all_map,b7];intro x _;rfl
theorem Yf {a b:List AV}(h:a.length=b.length):overwrite a 0 b=b:=by
 unfold overwrite;rw[List.take_zero,ci,List.drop_of_length_le ac,ck]
theorem Ky:wW.length=256:=by kernel_rfl
theorem Yg:overwrite wW 0 fB=fB:=Yf (by rw[Kx,Ky])
theorem Yh (C:oJ M)(s:ax)(hl:s.length<1000000):bg M 211 [.str s,.str nf] [] ⟨.str (ky (jj s)),[],[]⟩:=by
 have hD:nf.length=10:=rfl;have hT:=Yd s;have wY:=C.wY [];have hb:ae.at [some (.cells fB 314)] 0=some (.cells fB 314):=rfl;have q1:=Yb C hb s hl;have q2:=Yc C hb (jj s) ac;refine bU (by rw[C.ft];exact XD) am ?_;unfold Kh;simp only[enter];by_cases h0:s=[]
 . subst h0;repeat' first|(apply aeT;rfl;rfl;intro _;rotate_left;(intro h;exact absurd rfl h))|apply aaK|apply aa|apply aaI|apply aaC|apply abZ|apply aP|(apply ack;rfl)|(apply afc;rfl)|(apply acJ;rfl;rfl)|(apply abx;rfl;rfl)|(apply abO;rfl;rfl)
   exact⟨.inr rfl,rfl,_,rfl,rfl,rfl⟩
 . repeat' first|(apply aeT;rfl;rfl;(intro h;first|exact absurd h h0|exact absurd h ak);intro _)|apply aaK|apply aa|apply aaI|apply aaC|apply abZ|apply acn|apply aP|(apply ack;rfl)|(apply acj;rfl)|(apply aew;rfl)|(apply aeU;rfl)|(apply adw;rfl;rfl)|(apply adt;rfl;rfl)|(apply acq;rfl;rfl;first|exact wY)|(apply afa (c':=fB);rfl;rfl;rfl;exact⟨Kx,Nat.le_of_eq ((iX _).trans Ky.symm),Ye⟩;exact Yg)|(apply afp;rfl;rfl;first|exact q1|exact q2)|(apply acv;rfl;rfl;rfl)|(apply abx;rfl;rfl)|(apply abO;rfl;rfl)|(intro _;omega)|intro _
   exact⟨.inr rfl,rfl,_,rfl,rfl,rfl⟩
structure Kz (M:az):Prop where
 ft:M.FT=FT
 Yi:∀ars h,M.ext 278 ars h=none
theorem Yj {s:ax}{i:Nat}(h:i<s.length):(sG s)[i]? = some (.int .u8 (s[i]!).toNat):=by
 rw[sG,List.getElem?_map,aR h,getElem!_pos s i h];rfl
theorem Yk {H:ae}{c:Nat}(s:ax)(hb:H.at c=some (.cells (sG s) 5))(hs:s.length<=18)(hd:s.all bS=true)(cp:Option Nat)(a1 a2 a3 a4 a7 a8:AV){Q:Ex->aw->Prop}:∀(r i n:Nat) (a6:AV) (lo:List (Nat×AV)) (wr:List Nat),i+r=s.length->n<10^i ->
 (∀a6 lo,Q (.exit 0) ⟨⟨[.str s,a1,a2,a3,a4,.iV (aM n (s.drop i)),a6,a7,a8,.sl c 0 s.length 1 cp,.iV s.length,.iV s.length],lo,H,[]⟩,wr⟩) ->
 W M (.loop wX) ⟨⟨[.str s,a1,a2,a3,a4,.iV n,a6,a7,a8,.sl c 0 s.length 1 cp,.iV s.length,.iV i],lo,H,[]⟩,wr⟩ Q:=by
 intro r;induction r with
 | zero=>
  intro i n a6 lo wr hi hn hQ;obtain rfl:i=s.length:=by omega
  rw[iQ]at hQ;refine W.loop ?_;unfold wX;repeat' first|apply aaK|apply aa|apply aaI|apply aaC|apply acV|apply bh|apply bJ|(apply acj;rfl)|(apply acE;rfl;rfl)|(intro _;omega)|intro _
  exact hQ _ _
 | succ r ih=>
  intro i n a6 lo wr hi hn hQ;have hil:i<s.length:=by omega
  have hp:10^i<=10^17:=jz ak ac;have hg:s[i]! = s[i]:=getElem!_pos s i hil;have hm:=b7.1 hd (s[i]!) (by rw[hg];exact c0 hil);have hx:=(kR _).1 hm;rw[d8 hil,sD,←hg]at hQ;have hpart:partOf ((sG s).drop (0+((i:Int)).toNat*1)) 0 1 false=some (.int .u8 (s[i]!).toNat):=by
   rw[Hf,dL,iX,Nat.mul_one];simp only[partOf,hJ,if_false];exact Yj hil
  refine W.loop ?_;unfold wX;repeat' first|(apply afN;rfl;exact hb;exact hpart)|(apply agL;rfl;rfl;omega)|apply aaK|apply aa|apply aaI|apply aaC|apply acu|apply acn|apply bc|(apply ack;rfl)|(apply acj;rfl)|(apply acE;rfl;rfl)|(apply acI;rfl;rfl)|(apply afP;rfl;omega)|(apply adz;rfl;rfl;omega)|(apply afr;rfl;rfl;omega)|(apply afn;rfl;rfl;omega)|(apply abx;rfl;rfl)|(apply abO;rfl;rfl)|(intro _;omega)|intro _
  refine fV ?_;have hpow:10^(i+1)=10*10^i:=by rw[c7,d7]
  have e:=ih (i+1) (10*n+((s[i]!).toNat-48));rw[show (((10*n+((s[i]!).toNat-48):Nat):Int))=(n:Int)*10+(((s[i]!).toNat:Int)-48) by omega,show (((i+1:Nat):Int))=(i:Int)+1 by omega]at e;exact e _ _ _ ac ac hQ
theorem Yl (C:Kz M)(s:ax)(h0:s≠[])(hl:s.length<=18)(hd:s.all bS=true)(H:ae):bg M 278 [.str s] H ⟨.ay [.iV (aM 0 s),.eh],H,[]⟩:=by
 have hpos:0<s.length:=ew.2 h0;have hg:s[0]! = s[0]:=getElem!_pos s 0 hpos;have hx:48<=(s[n5 0]!).toNat/\(s[n5 0]!).toNat<58:=(kR _).1 (b7.1 hd (s[0]!) (by rw[hg];exact c0 hpos));refine mI (by rw[C.ft];exact Xu) am (l9 _) ?_;unfold Ka;simp only[enter];repeat' first|apply aaK|apply aa|apply aaI|apply aaC|apply acu|apply acn|(apply ack;rfl)|(apply acj;rfl)|(apply adx;rfl)|(apply aew;rfl)|(apply aeU;rfl)|(apply afs;rfl)|(apply acE;rfl;rfl)|(apply adw;rfl;rfl)|(apply acJ;rfl;rfl)|(apply adt;rfl;rfl)|(apply aft;rfl;rfl;omega)|(apply acv;rfl;rfl;rfl)|(apply abx;rfl;rfl)|(apply abO;rfl;rfl)|(intro _;omega)|intro _
 refine Yk (H:=H++[some (.cells (sG s) 5)]) (c:=H.length) s cC hl hd none _ _ _ _ _ _ s.length 0 0 _ _ _ ac am (fun a6 lo=>?_);rw[List.drop_zero];repeat' first|apply aaK|apply aa|apply aaI|apply aaC|apply abZ|apply acn|apply aP|apply bk|(apply acj;rfl)|(apply adw;rfl;rfl)|(apply aft;rfl;rfl;omega)|(apply abx;rfl;rfl)|(apply abO;rfl;rfl)|(intro _;omega)|intro _
 exact⟨.inr rfl,rfl,⟨_,rfl⟩,fun x h=>by simp at h,_,rfl,rfl⟩
theorem Ym (C:Kz M)(s:ax)(h0:s≠[])(hl:s.length<=18)(hd:s.all bS=true):bg M 212 [.str s] [] ⟨.ay [.iV (aM 0 s),.eh],[],[]⟩:=by
 have hc:=CT.run (fi:=[]) (ca:=[]) (ars:=[.str s]) (C.Yi _ _) (Yl C s h0 hl hd []);refine bU (by rw[C.ft];exact Xt) am ?_;unfold JZ;simp only[enter];repeat' first|apply aaK|apply aa|apply aaI|apply aaC|apply abZ|apply acn|(apply acj;rfl)|(apply afp;rfl;rfl;first|exact hc)|(apply abx;rfl;rfl)|(apply abO;rfl;rfl)
 exact⟨.inr rfl,rfl,_,rfl,rfl,rfl⟩
theorem dropWhile_nil {p:UInt8->Bool}:∀l:ax,l.dropWhile p=[]↔∀x∈l,p x=true
 | []=>by simp
 | c::l=>by
  rw[d9];split
  . rename_i h;rw[dropWhile_nil l];simp[h]
  . rename_i h;simp[h]
theorem KA (s:ax):ky (jj s)=[]↔s.all bS=true:=by
 rcases f7 s with rfl|⟨t,c,e⟩
 . simp[ky,jj]
 . rw[f8]at e;subst e;have hlen:t.length<(t++[c]).length:=by simp
   rw[Ku];split
   . rename_i h;rw[KA t];simp only[ce,dw,j8,h,gc]
   . rename_i h;unfold ky;rw[dropWhile_nil,b7]
termination_by s.length
decreasing_by subst_vars;simp
def preB (b:UInt8)(s:ax):Bool:=decide (s.head? = some b)
def bX (b:UInt8)(s:ax):ax:=if s.head? = some b then s.tail else s
theorem qC (b:UInt8)(s:ax):(bX b s).length<=s.length:=by unfold bX;split <;> simp
theorem Yn (hft:M.FT=FT)(s:ax)(b:UInt8)(hl:s.length<1000000):bg M 329 [.str s,.str [b]] [] ⟨.bool (preB b s),[],[]⟩:=by
 have hn1:([b]:ax).length=1:=rfl;refine bU (by rw[hft];exact Xq) am ?_;cases s with
 | nil=>
  have h0:([]:ax).length=0:=rfl;unfold Dp;simp only[enter];repeat' first|apply aaK|apply aa|apply aaI|apply aaC|apply abZ|(apply aeU;rfl)|(apply aeY;rfl;rfl)|(apply adt;rfl;rfl)|(apply abx;rfl;rfl)|(apply abO;rfl;rfl)|(intro _;omega)|intro _
  all_goals try omega
  all_goals exact⟨.inr rfl,rfl,_,rfl,rfl,rfl⟩
 | cons c t=>
  have hcl:(c::t).length=t.length+1:=rfl;have hd:(c::t).take (([b]:ax).length:Int).toNat=[c]:=rfl;have he:preB b (c::t)=decide (c=b):=by simp[preB]
  rw[he];unfold Dp;simp only[enter];by_cases hc:c=b
  . subst hc;rw[decide_eq_true rfl];repeat' first|(apply afD;rfl;rfl;omega;exact hd)|(apply aeT;rfl;rfl;intro _;rotate_left;(intro h;exact absurd rfl h))|apply aaK|apply aa|apply aaI|apply aaC|apply abZ|(apply adx;rfl)|(apply aeY;rfl;rfl)|(apply acJ;rfl;rfl)|(apply abx;rfl;rfl)|(apply abO;rfl;rfl)|(intro _;omega)|intro _
    all_goals try omega
    all_goals exact⟨.inr rfl,rfl,_,rfl,rfl,rfl⟩
  . rw[decide_eq_false hc];repeat' first|(apply afD;rfl;rfl;omega;exact hd)|(apply aeT;rfl;rfl;(intro h;exact absurd (List.cons.inj h).1 hc);intro _)|apply aaK|apply aa|apply aaI|apply aaC|apply abZ|(apply adx;rfl)|(apply aeY;rfl;rfl)|(apply acJ;rfl;rfl)|(apply abx;rfl;rfl)|(apply abO;rfl;rfl)|(intro _;omega)|intro _
    all_goals try omega
    all_goals exact⟨.inr rfl,rfl,_,rfl,rfl,rfl⟩
theorem Yo (hft:M.FT=FT)(s:ax)(b:UInt8)(q:∀h,M.ext 329 [.str s,.str [b]] h=some ⟨.bool (preB b s),h,[]⟩):bg M 283 [.str s,.str [b]] [] ⟨.bool (preB b s),[],[]⟩:=by
 refine bU (by rw[hft];exact Xp) am ?_;unfold JW;simp only[enter];repeat' first|apply aaK|apply aa|apply aaI|apply aaC|apply abZ|(apply acq;rfl;rfl;first|exact q _)|(apply abx;rfl;rfl)|(apply abO;rfl;rfl)
 all_goals exact⟨.inr rfl,rfl,_,rfl,rfl,rfl⟩
theorem sN {b:UInt8}{s:ax}(h:preB b s=true):s.drop (([b]:ax).length:Int).toNat=bX b s/\1<=s.length:=by
 have h:=of_decide_eq_true h;unfold bX;rw[if_pos h];cases s with
 | nil=>simp at h
 | cons c t=>exact⟨rfl,am⟩
theorem kA {b:UInt8}{s:ax}(h:preB b s=false):bX b s=s:=if_neg (of_decide_eq_false h)
theorem Yp (hft:M.FT=FT)(s:ax)(b:UInt8)(hl:s.length<1000000)(q:∀h,M.ext 329 [.str s,.str [b]] h=some ⟨.bool (preB b s),h,[]⟩):bg M 285 [.str s,.str [b]] [] ⟨.str (bX b s),[],[]⟩:=by
 have hn1:([b]:ax).length=1:=rfl;refine bU (by rw[hft];exact Xs) am ?_;unfold JY;simp only[enter];cases hp:preB b s with
 | true=>
  rw[hp]at q;obtain⟨h1,h2⟩:=sN hp;repeat' first|(apply afy;rfl;rfl;omega;exact h1)|apply aaK|apply aa|apply aaI|apply aaC|apply abZ|apply aP|(apply ack;rfl)|(apply acq;rfl;rfl;first|exact q _)|(apply abx;rfl;rfl)|(apply abO;rfl;rfl)
  all_goals exact⟨.inr rfl,rfl,_,rfl,rfl,rfl⟩
 | false=>
  rw[hp]at q;rw[kA hp];repeat' first|apply aaK|apply aa|apply aaI|apply aaC|apply abZ|apply acn|(apply acj;rfl)|(apply acq;rfl;rfl;first|exact q _)|(apply abx;rfl;rfl)|(apply abO;rfl;rfl)
  all_goals exact⟨.inr rfl,rfl,_,rfl,rfl,rfl⟩
theorem Yq (hft:M.FT=FT)(s:ax)(b:UInt8)(q:∀h,M.ext 285 [.str s,.str [b]] h=some ⟨.str (bX b s),h,[]⟩):bg M 218 [.str s,.str [b]] [] ⟨.str (bX b s),[],[]⟩:=by
 refine bU (by rw[hft];exact Xr) am ?_;unfold JX;simp only[enter];repeat' first|apply aaK|apply aa|apply aaI|apply aaC|apply abZ|(apply acq;rfl;rfl;first|exact q _)|(apply abx;rfl;rfl)|(apply abO;rfl;rfl)
 all_goals exact⟨.inr rfl,rfl,_,rfl,rfl,rfl⟩
theorem Yr (hft:M.FT=FT)(s:ax)(b:UInt8)(hl:s.length<1000000)(q:∀h,M.ext 329 [.str s,.str [b]] h=some ⟨.bool (preB b s),h,[]⟩):bg M 296 [.str s,.str [b]] [] ⟨.ay [.str (bX b s),.bool (preB b s)],[],[]⟩:=by
 have hn1:([b]:ax).length=1:=rfl;refine bU (by rw[hft];exact XB) am ?_;unfold Kf;simp only[enter];cases hp:preB b s with
 | true=>
  rw[hp]at q;obtain⟨h1,h2⟩:=sN hp;repeat' first|(apply afy;rfl;rfl;omega;exact h1)|apply aaK|apply aa|apply aaI|apply aaC|apply abZ|apply acn|(apply acj;rfl)|(apply acq;rfl;rfl;first|exact q _)|(apply abx;rfl;rfl)|(apply abO;rfl;rfl)
  all_goals exact⟨.inr rfl,rfl,_,rfl,rfl,rfl⟩
 | false=>
  rw[hp]at q;rw[kA hp];repeat' first|apply aaK|apply aa|apply aaI|apply aaC|apply abZ|apply aP|(apply ack;rfl)|(apply acq;rfl;rfl;first|exact q _)|(apply abx;rfl;rfl)|(apply abO;rfl;rfl)
  all_goals exact⟨.inr rfl,rfl,_,rfl,rfl,rfl⟩
theorem Ys (hft:M.FT=FT)(s:ax)(b:UInt8)(q:∀h,M.ext 296 [.str s,.str [b]] h=some ⟨.ay [.str (bX b s),.bool (preB b s)],h,[]⟩):bg M 225 [.str s,.str [b]] [] ⟨.ay [.str (bX b s),.bool (preB b s)],[],[]⟩:=by
 refine bU (by rw[hft];exact XA) am ?_;unfold Ke;simp only[enter];repeat' first|apply aaK|apply aa|apply aaI|apply aaC|apply abZ|(apply acq;rfl;rfl;first|exact q _)|(apply abx;rfl;rfl)|(apply abO;rfl;rfl)
 all_goals exact⟨.inr rfl,rfl,_,rfl,rfl,rfl⟩
structure wZ (M:az)(N:Nat):Prop extends CF M N where
 KB:∀(s:ax) h,s.length<1000000->M.ext 283 [.str s,.str [45]] h=some ⟨.bool (preB 45 s),h,[]⟩
 KC:∀(s:ax) h,s.length<1000000->M.ext 218 [.str s,.str [45]] h=some ⟨.str (bX 45 s),h,[]⟩
 KD:∀(s:ax) h,s≠[]->s.length<=18->s.all bS=true->M.ext 212 [.str s] h=some ⟨.ay [.iV (aM 0 s),.eh],h,[]⟩
 KE:∀v A (K:Nat),aN v A->K<=18->K<=N->al A<=10->∃v0,aN v0 (A^K)/\∀h,M.ext 284 [v,.iV K] h=some ⟨v0,h,[]⟩
theorem xc (n:Nat):(10:Int)^n<=wB^n:=by
 induction n with
 | zero=>decide
 | succ n ih=>
  rw[cn,cn];exact Int.mul_le_mul ih ak ak (m8 ak)
theorem oK {s:ax}(h:s.all bS=true)(hl:s.length<=N):al (aM 0 s:Nat)<wB^N:=by
 have h1:=mY s h;rw[fk ac];have h2:(aM 0 s:Int)<(10:Int)^s.length:=by exact_mod_cast h1
 exact cT h2 (f6 (xc _) (iy ak hl))
theorem KF {s:ax}(h:s.all bS=true)(hl:s.length<=18):aM 0 s<1000000000000000000:=
 Nat.lt_of_lt_of_le (mY s h) (bP (jz ak hl) ak)
def Du (so:Int)(wo:AV):ae:=[some (.cells [.iV 0,.ab] 171),some (.cells [.iV so,wo] 171)]
theorem Yt (C:wZ M N){Q:Ex->aw->Prop}(full:ax)(hD:full.all bS=true)(hl:full.length<=N)(a2:AV)
 (hQ:∀so wo a4 a5 lo wr,aN (.agg [.iV so,wo]) (aM 0 full:Nat)->Q (.exit 0) ⟨⟨[.str [],.ptr 0 0,a2,.ptr 1 0,a4,a5],lo,Du so wo,[]⟩,wr⟩)
 (a4 a5:AV) (lo:List (Nat×AV)) (wr:List Nat) :
 W M (.loop wV) ⟨⟨[.str full,.ptr 0 0,a2,.ptr 1 0,a4,a5],lo,Du 0 .ab,[]⟩,wr⟩ Q:=by
 have hlN:=C.lN;refine W.gP (fun m st=>∃t dn so wo a4 a5 lo wr,st=⟨⟨[.str t,.ptr 0 0,a2,.ptr 1 0,a4,a5],lo,Du so wo,[]⟩,wr⟩/\t.length=m/\full=dn++t/\aN (.agg [.iV so,wo]) (aM 0 dn:Nat))
  (fun m st ⟨t,dn,so,wo,a4,a5,lo,wr,hst,hm,hf,hv⟩=>?_) (m:=full.length) ⟨full,[],0,.ab,a4,a5,lo,wr,rfl,rfl,rfl,.small ak⟩
 subst hst;cases t with
 | nil=>
  rw[ck]at hf;subst hf;have h0:([]:ax).length=0:=rfl;unfold wV;repeat' first|apply aaK|apply aa|apply aaI|apply aaC|apply acV|apply bh|apply bF|(apply acj;rfl)|(apply acI;rfl;rfl)|(apply abx;rfl;rfl)|(intro _;omega)|intro _
  all_goals try omega
  all_goals exact hQ _ _ _ _ _ _ hv
 | cons c t=>
  obtain⟨t',ht'⟩:∃t',t'=c::t:=⟨_,rfl⟩;rw[←ht']at hm hf ⊢;have hpos:0<t'.length:=by rw[ht'];simp
  have hDt:t'.all bS=true:=by rw[hf,ce,be]at hD;exact hD.2
  have hDd:dn.all bS=true:=by rw[hf,ce,be]at hD;exact hD.1
  have hfl:full.length=dn.length+t'.length:=by rw[hf,cQ]
  obtain⟨n,hn,hn1⟩:∃n:Nat,((n:Int)=18/\(18:Int)<=t'.length\/(n:Int)=t'.length/\(t'.length:Int)<=18)/\0<n/\n<=18/\n<=t'.length:=by
   by_cases h:t'.length<=18
   . exact⟨t'.length,.inr ⟨rfl,ac⟩,ac,ac,ac⟩
   . exact⟨18,.inl ⟨rfl,ac⟩,ac,ac,ac⟩
  obtain⟨x,y,hxy,hxl⟩:∃x y,t'=x++y/\x.length=n:=⟨t'.take n,t'.drop n,(List.take_append_drop n t').symm,by rw[b6];omega⟩;have hx0:x≠[]:=fun e=>by rw[e]at hxl;simp at hxl;omega
  have hDx:x.all bS=true:=by rw[hxy,ce,be]at hDt;exact hDt.1
  have htk:t'.take (n:Int).toNat=x:=by rw[hxy,dL,←hxl,List.take_left]
  have hdr:t'.drop (n:Int).toNat=y:=by rw[hxy,dL,←hxl,List.drop_left]
  have hyl:t'.length=n+y.length:=by rw[hxy,cQ,hxl]
  have q212:=fun h=>C.KD x h hx0 ac hDx
  have q196:=C.mW 10;obtain⟨v1,k1,q284⟩:=C.KE (.agg [.iV 10,.ab]) 10 n (.small ak) hn1.2.1 ac ak;have b1:=oK (N:=N) hDd ac;have b2:al ((10:Int)^n)<wB^N:=by
   rw[fk (m8 ak)];have h1:=iy (b:=wB) ak (m:=n) (n:=N) ac;have h2:=xc n;have h3:(10:Int)^n<wB^n:=by
    obtain⟨k,rfl⟩:∃k,n=k+1:=⟨n-1,ac⟩;have:=xc k;have p0:(0:Int)<10^k:=i7 ak;rw[cn,cn];have:(10:Int)^k*10<10^k*wB:=Int.mul_lt_mul_of_pos_left ak p0;have h5:(10:Int)^k*wB<=wB^k*wB:=bI (xc k) ak;omega
   omega
  obtain⟨v2,k2,q199⟩:=C.qx _ _ _ _ hv k1 b1 b2;have e2:(aM 0 dn:Int)*10^n=((aM 0 (dn++g9 n 48):Nat):Int):=by
   have:aM (aM 0 dn) (g9 n 48)=aM 0 dn*10^n:=by rw[←Dm,JR];simp
   rw[oH,this];push_cast;rfl
  have k2:aN v2 ((aM 0 dn:Int)*10^n):=k2;have b3:al ((aM 0 dn:Int)*10^n)<wB^N:=by
   rw[e2];exact oK (by rw[ce,hDd,←Dm,JO];rfl) (by rw[cQ,List.length_replicate];omega)
  have hxs:=KF hDx ac;have q196b:=C.mW (aM 0 x:Nat);obtain⟨v3,k3,q253⟩:=C.wh v2 (.agg [.iV (aM 0 x:Nat),.ab]) _ _ k2 (.small ac) b3 (oK hDx ac);have e3:(aM 0 dn:Int)*10^n+(aM 0 x:Nat)=((aM 0 (dn++x):Nat):Int):=by
   rw[oH,wT x (aM 0 dn),hxl];push_cast;rfl
  have k3:aN v3 ((aM 0 (dn++x):Nat):Int):=by rw[←e3];exact k3
  obtain⟨s3,w3,rfl,o3,_⟩:=k3.shape;unfold wV;repeat' first|(apply agB (m:=(n:Int));rfl;rfl;exact hn)|(apply afD (s:=t') (r:=x);rfl;rfl;omega;exact htk)|(apply afy (s:=t') (r:=y);rfl;rfl;omega;exact hdr)|(apply acq;rfl;rfl;first|exact q212 _|exact q196 _|exact q284 _|exact q199 _|exact q196b _|exact q253 _)|(apply adA;rfl;rfl;(first|(simp only[nca];rfl)|rfl);first|exact q212 _|exact q196 _|exact q284 _|exact q199 _|exact q196b _|exact q253 _)|(apply afa;rfl;rfl;rfl;exact⟨rfl,aL _,by simp[eW,o3]⟩;rfl)|apply aaK|apply aa|apply aaI|apply aaC|apply acu|apply acn|apply bc|apply adJ|apply adY|(apply aez;rfl)|(apply aeu;rfl;rfl;(first|(simp only[nca];rfl)|rfl))|(apply aeV;rfl;(first|(simp only[nca];rfl)|rfl);(first|(simp only[nca];rfl)|rfl))|(apply ack;rfl)|(apply acI;rfl;rfl)|(apply acH;rfl;rfl;rfl)|(apply abx;rfl;rfl)|(apply abO;rfl;rfl)|(intro _;omega)|intro _
  all_goals try omega
  all_goals exact ek ⟨y.length,ac,y,dn++x,s3,w3,_,_,_,_,rfl,rfl,by rw[hf,hxy,j9],k3⟩
theorem Yu (C:wZ M N)(s:ax)(hl:s.length<=N)(hD:(bX 45 s).all bS=true):∃v0,aN v0 (if preB 45 s then -(aM 0 (bX 45 s):Int) else (aM 0 (bX 45 s):Nat))/\dj M 216 [.str s] v0:=by
 have hlN:=C.lN;have q283:=fun h=>C.KB s h ac
 have q218:=fun h=>C.KC s h ac
 have hcl:(bX 45 s).length<=N:=bP (qC 45 s) hl;have hb:=oK (N:=N) hD hcl;obtain⟨v',hh,⟨v0,h0,ho⟩,hr⟩:=iL (M:=M) (f:=216) (ars:=[.str s]) (P:=fun v hh=>∃v0,aN v0 (if preB 45 s then -(aM 0 (bX 45 s):Int) else (aM 0 (bX 45 s):Nat))/\fw v hh v0) (by rw[C.ft];exact Xn) am (by
  unfold JU;simp only[enter];repeat' first|apply aaK|apply aa|apply aaI|apply aaC|apply acu|(apply acq;rfl;rfl;first|exact q283 _|exact q218 _)|(apply acv;rfl;rfl;rfl)|(apply aeS;rfl;rfl;rfl)|(apply abx;rfl;rfl)|(apply abO;rfl;rfl)
  refine Yt C (bX 45 s) hD hcl _ (fun so wo a4 a5 lo wr hv=>?_) _ _ _ _;cases hp:preB 45 s with
  | true=>
   rw[if_pos rfl];obtain⟨v1,k1,q201⟩:=C.lW _ _ hv hb;have k1:aN v1 (-(aM 0 (bX 45 s):Int)):=k1;obtain⟨s1,w1,rfl,o1,_⟩:=k1.shape;repeat' first|(apply afa;rfl;rfl;rfl;exact⟨rfl,aL _,by simp[eW,o1]⟩;rfl)|apply aaK|apply aa|apply aaI|apply aaC|apply abZ|apply aP|apply bk|(apply ack;rfl)|(apply acq;rfl;rfl;first|exact q201 _)|(apply acH;rfl;rfl;rfl)|(apply abx;rfl;rfl)
   exact⟨.inr rfl,rfl,_,rfl,_,k1,k1.out⟩
  | false=>
   rw[if_neg ak];obtain⟨o1,_⟩:=hv.one;repeat' first|(apply afa;rfl;rfl;rfl;exact⟨rfl,aL _,by simp[eW,o1]⟩;rfl)|apply aaK|apply aa|apply aaI|apply aaC|apply abZ|apply acn|apply bk|(apply acj;rfl)|(apply acH;rfl;rfl;rfl)|(apply abx;rfl;rfl)
   exact⟨.inr rfl,rfl,_,rfl,_,hv,hv.out⟩)
 exact⟨v0,h0,v',hh,ho,hr⟩
theorem KG {s:ax}(h:s.all bS=true){c:UInt8}(hc:¬bS c=true):c∉s:=fun hm=>hc ((b7.1 h) c hm)
theorem KH (n:Nat){c:UInt8}(hc:¬bS c=true):preB c (bm n)=false:=by
 rw[preB,decide_eq_false_iff_not];intro h;cases hd:bm n with
 | nil=>exact qA n hd
 | cons b t=>
  rw[hd]at h;have hb:b∈bm n:=by rw[hd];simp
  simp at h;exact hc (h ▸ (b7.1 (jv n)) b hb)
theorem Yv (z:Int):preB 45 (cR z)=decide (z<0)/\bX 45 (cR z)=bm (al z).toNat:=by
 by_cases h:z<0
 . rw[oI h,decide_eq_true h];exact⟨rfl,rfl⟩
 . rw[mZ h,decide_eq_false h];have:=KH (al z).toNat (c:=45) ak;exact⟨this,kA this⟩
theorem sO {b:UInt8}:∀{x:ax},b∉x->bQ b x=(x,none)
 | [],_=>rfl
 | c::x,h=>by
  have h1:¬c=b:=fun e=>h (by rw[e];simp)
  have h2:b∉x:=fun e=>h (by simp[e])
  rw[bQ,if_neg h1,sO h2]
theorem sP {b:UInt8}{y:ax}:∀{x:ax},b∉x->bQ b (x++b::y)=(x,some y)
 | [],_=>by rw[ci,bQ,if_pos rfl]
 | c::x,h=>by
  have h1:¬c=b:=fun e=>h (by rw[e];simp)
  have h2:b∉x:=fun e=>h (by simp[e])
  rw[kn,bQ,if_neg h1,sP h2]
theorem xe (z:Int):(47:UInt8)∉cR z:=by
 have h:=KG (jv (al z).toNat) (c:=47) ak;by_cases hz:z<0
 . rw[oI hz];simp[h]
 . rw[mZ hz];exact h
theorem Yw (q:Rat):jd 47 (aW q)=if q.den=1 then .ay [.str (cR q.num),.str [],.bool false] else .ay [.str (cR q.num),.str (bm q.den),.bool true]:=by
 unfold jd aW;by_cases h:q.den=1
 . rw[if_pos h,if_pos h,sO (xe _)];rfl
 . rw[if_neg h,if_neg h,sP (xe _)];rfl
def Lq (N:Nat)(q:Rat):Prop:=(cR q.num).length<=N/\(bm q.den).length<=N
structure me (M:az)(N:Nat):Prop extends wZ M N where
 Dv:∀(s:ax) h,s.length<1000000->M.ext 160 [.str s,.str [47]] h=some ⟨jd 47 s,h,[]⟩
 Dw:∀(s:ax),s.length<=N->(bX 45 s).all bS=true->∃v0,aN v0 (if preB 45 s then -(aM 0 (bX 45 s):Int) else (aM 0 (bX 45 s):Nat))/\∀h,M.ext 216 [.str s] h=some ⟨v0,h,[]⟩
theorem me.KI (C:me M N)(z:Int)(hl:(cR z).length<=N):∃v0,aN v0 z/\∀h,M.ext 216 [.str (cR z)] h=some ⟨v0,h,[]⟩:=by
 obtain⟨h1,h2⟩:=Yv z;obtain⟨v0,h0,q⟩:=C.Dw (cR z) hl (by rw[h2];exact jv _);refine⟨v0,?_,q⟩;rw[h1,h2,jh]at h0;have ha:=kq (x:=z);have e:((al z).toNat:Int)=al z:=Int.toNat_of_nonneg ha;by_cases hz:z<0
 . rw[decide_eq_true hz,if_pos rfl,e]at h0;have e2:al z = -z:=if_pos hz;rw[e2,k9]at h0;exact h0
 . rw[decide_eq_false hz,if_neg ak,e]at h0;have e2:al z=z:=if_neg hz;rw[e2]at h0;exact h0
theorem me.Yx (C:me M N)(n:Nat)(hl:(bm n).length<=N):∃v0,aN v0 (n:Int)/\∀h,M.ext 216 [.str (bm n)] h=some ⟨v0,h,[]⟩:=by
 rw[←Xo]at hl ⊢;exact C.KI n hl
theorem KJ {q:Rat}(h:Lq N q):(aW q).length<=2*N+1:=by
 unfold aW;split
 . have:=h.1;omega
 . have h1:=h.1;have h2:=h.2;simp;omega
theorem Yy (C:me M N)(hN:N<=400000){q:Rat}(lq:Lq N q):∃v0,dP v0 q/\dj M 165 [.str (aW q)] v0:=by
 have sl:=KJ lq;have q160:=fun h=>C.Dv (aW q) h ac
 have cs:=Yw q;rw[cs]at q160;obtain⟨va,ka,qa⟩:=C.KI q.num lq.1;by_cases hd:q.den=1
 . rw[if_pos hd]at q160;obtain⟨v0,k0,q195⟩:=C.CM _ _ ka;have k0:dP v0 q:=by
    have:=k0;unfold dP;rw[hd];exact this
   refine⟨v0,k0,dm (by rw[C.ft];exact JV) am ?_⟩;have out:=fun hh=>k0.out (hh:=hh)
   obtain⟨s5,w5,s6,w6,rfl,h5,h6⟩:=k0;obtain⟨o5,_⟩:=h5.one;obtain⟨o6,_⟩:=h6.one;unfold Dn;simp only[enter];repeat' first|(apply afa;rfl;rfl;rfl;exact⟨rfl,aL _,by simp[eW,o5,o6]⟩;rfl)|apply aaK|apply aa|apply aaI|apply aaC|apply abZ|apply aP|(apply ack;rfl)|(apply acq;rfl;rfl;first|exact q160 _|exact qa _|exact q195 _)|(apply acv;rfl;rfl;rfl)|(apply abx;rfl;rfl)|(apply abO;rfl;rfl)
   all_goals exact cI rfl rfl (out _)
 . rw[if_neg hd]at q160;obtain⟨vb,kb,qb⟩:=C.Yx q.den lq.2;obtain⟨s5,w5,rfl,o5,_⟩:=ka.shape;obtain⟨s6,w6,rfl,o6,_⟩:=kb.shape;have k0:dP (.agg [.iV s5,w5,.iV s6,w6]) q:=⟨_,_,_,_,rfl,ka,kb⟩;refine⟨_,k0,dm (by rw[C.ft];exact JV) am ?_⟩;have out:=fun hh=>k0.out (hh:=hh)
   unfold Dn;simp only[enter];repeat' first|(apply afa;rfl;rfl;rfl;exact⟨rfl,aL _,by simp[overwrite,eW,o5,o6]⟩;rfl)|apply aaK|apply aa|apply aaI|apply aaC|apply abZ|apply acn|(apply acj;rfl)|(apply acq;rfl;rfl;first|exact q160 _|exact qa _|exact qb _)|(apply acv;rfl;rfl;rfl)|(apply abx;rfl;rfl)|(apply abO;rfl;rfl)
   all_goals exact cI rfl rfl (out _)
def KK:ao:=zR [zi 1 0] (zR [zm 12 0,⟨.l 13,.call (kF 225) [(.l 12),(.c (.str [45]))],none⟩,zn 11 13,ze 14 0 11,ze 15 1 11,zw 2 14,zw 3 15] (zR [zm 17 2,⟨.l 18,.call (kF 160) [(.l 17),(.c (.str [47]))],none⟩,zn 16 18,ze 19 0 16,ze 20 1 16,ze 21 2 16,zw 4 19,zw 5 20,zw 6 21] (zR [zm 22 4,z1 23 226 22,zn 24 23,zg (zm 25 3) 24 true,zg (zn 26 25) 24 true,zg (zm 27 4) 26 true,⟨.l 28,.bin .eql (.l 27) (.c (.str [48])),some ((.l 26),true)⟩,zg (zp 29 26 28) 24 true,zg (zu 30 29) 24 true,zp 31 24 30,zw 7 31] (.seq (zR [zm 32 6] (.cond (.l 32) (.region [zm 33 7,zn 34 33,zg (zm 35 5) 34 true,zg (z1 36 226 35) 34 true,zp 37 34 36,zn 38 37,zg (zm 39 5) 38 true,⟨.l 40,.bin .neq (.l 39) (.c (.str [48])),some ((.l 38),true)⟩,zp 41 38 40,zn 42 41,zg (zm 43 5) 42 true,⟨.l 44,.bin .neq (.l 43) (.c (.str [49])),some ((.l 42),true)⟩,zp 45 42 44,zw 7 45]) (.skip))) (.seq (zR [zm 46 7,zu 47 46,⟨.l 48,.call (kF 228) [(.l 47),(kI 1)],none⟩,zm 49 4,zL 50 49,zm 51 5,zL 52 51,⟨.l 53,.mm true [(.l 50),(.l 52)],none⟩,zc 54 .gtr 53 600,⟨.l 55,.call (kF 228) [(.l 54),(kI 4)],none⟩,⟨.l 56,.eo 28 2 1 [.iV (0)] [(0,1,(.l 48)),(1,1,(.l 55))],none⟩,z1 57 227 56,zw 8 57] (zR [zm 58 8,zc 59 .neq 58 0,zn 60 59,zg (zm 61 6) 60 false,zg (zu 62 61) 60 false,zP 63 60 62] (.cond (.l 63) (zR [zm 64 8,zw 1 64] (.ret)) (.skip)))) (zR [zm 65 4,z1 66 216 65,zm 67 5,z1 68 216 67,z2 69 229 66 68,⟨.p 9,.alloc 171 [.iV (0),.ab],none⟩,zs 2 9 69] (.seq (.draw [(zt 70 2 9,[]),(⟨.l 71,.call (kF 196) [(kI 1)],none⟩,[0]),(z2 72 200 70 71,[]),(zc 73 .neq 72 0,[]),(⟨.l 74,.call (kF 228) [(.l 73),(kI 1)],none⟩,[]),(zw 1 74,[])]) (.ret))))))))
theorem Yz:FT 172=some ⟨75,[0,2,3,4,5,6,7,8,9,10],[.var (.p 1)],KK⟩:=by kernel_rfl
def eA (s:ax):Bool:=decide (s≠[]) && s.all bS && (decide (s[0]! ≠ 48) || decide (s=[48]))
theorem YA (hft:M.FT=FT)(s:ax)(q211:∀h,M.ext 211 [.str s,.str nf] h=some ⟨.str (ky (jj s)),h,[]⟩):bg M 297 [.str s] [] ⟨.bool (decide (s≠[]) && s.all bS),[],[]⟩:=by
 refine bU (by rw[hft];exact XC) am ?_;unfold Kg;simp only[enter];by_cases h0:s=[]
 . rw[decide_eq_false (by simpa using h0),cZ];repeat' first|(apply aeZ;rfl;rfl;all_goals first|(intro h;exact absurd h0 h)|intro _)|apply aaK|apply aa|apply aaI|apply aaC|apply abZ|(apply aeU;rfl)|(apply adt;rfl;rfl)|(apply abx;rfl;rfl)|(apply abO;rfl;rfl)
   all_goals exact⟨.inr rfl,rfl,_,rfl,rfl,rfl⟩
 . rw[decide_eq_true h0,b9];have ht:=KA s;cases hd:s.all bS with
   | true=>
    rw[ht.2 hd]at q211;repeat' first|(apply aeZ;rfl;rfl;all_goals first|(intro h;exact absurd h h0)|intro _)|apply aaK|apply aa|apply aaI|apply aaC|apply abZ|(apply adx;rfl)|(apply acJ;rfl;rfl)|(apply acq;rfl;rfl;first|exact q211 _)|(apply aeT;rfl;rfl;all_goals first|(intro h;exact absurd h ak)|(intro h;exact absurd rfl h)|(intro h;contradiction)|intro _)|(apply abx;rfl;rfl)|(apply abO;rfl;rfl)
    all_goals exact⟨.inr rfl,rfl,_,rfl,rfl,rfl⟩
   | false=>
    have hne:ky (jj s)≠[]:=fun e=>by rw[ht.1 e]at hd;cases hd
    repeat' first|(apply aeZ;rfl;rfl;all_goals first|(intro h;exact absurd h h0)|intro _)|(apply aeT;rfl;rfl;all_goals first|(intro h;exact absurd h hne)|intro _)|apply aaK|apply aa|apply aaI|apply aaC|apply abZ|(apply adx;rfl)|(apply acJ;rfl;rfl)|(apply acq;rfl;rfl;first|exact q211 _)|(apply abx;rfl;rfl)|(apply abO;rfl;rfl)
    all_goals exact⟨.inr rfl,rfl,_,rfl,rfl,rfl⟩
theorem YB (hft:M.FT=FT)(s:ax)(q297:∀h,M.ext 297 [.str s] h=some ⟨.bool (decide (s≠[]) && s.all bS),h,[]⟩):bg M 226 [.str s] [] ⟨.bool (eA s),[],[]⟩:=by
 refine bU (by rw[hft];exact XJ) am ?_;unfold eA;unfold Kl;simp only[enter];cases hb:(decide (s≠[]) && s.all bS) with
 | false=>
  rw[hb]at q297;rw[cZ];repeat' first|apply aaK|apply aa|apply aaI|apply aaC|apply abZ|(apply aeU;rfl)|(apply afs;rfl)|(apply adt;rfl;rfl)|(apply acq;rfl;rfl;first|exact q297 _)|(apply abx;rfl;rfl)|(apply abO;rfl;rfl)
  all_goals exact⟨.inr rfl,rfl,_,rfl,rfl,rfl⟩
 | true=>
  rw[hb]at q297;rw[b9];have hne:s≠[]:=by
   rw[be]at hb;exact of_decide_eq_true hb.1
  have hpos:0<s.length:=ew.2 hne;by_cases h48:s[0]! = 48
  . rw[decide_eq_false (by simpa using h48),j0];have e48:((s[(0:Int).toNat]!).toNat:Int)=48:=by rw[show s[(0:Int).toNat]! = s[0]! from rfl,h48];rfl
    by_cases hs:s=[48]
    . rw[decide_eq_true hs];repeat' first|(apply aeT;rfl;rfl;all_goals first|(intro h;exact absurd hs h)|intro _)|apply aaK|apply aa|apply aaI|apply aaC|apply abZ|(apply adx;rfl)|(apply aew;rfl)|(apply adH;rfl;rfl)|(apply acJ;rfl;rfl)|(apply adt;rfl;rfl)|(apply acq;rfl;rfl;first|exact q297 _)|(apply aft;rfl;rfl;omega)|(apply abx;rfl;rfl)|(apply abO;rfl;rfl)|(intro _;omega)|intro _
      all_goals try omega
      all_goals exact⟨.inr rfl,rfl,_,rfl,rfl,rfl⟩
    . rw[decide_eq_false hs];repeat' first|(apply aeT;rfl;rfl;all_goals first|(intro h;exact absurd h hs)|intro _)|apply aaK|apply aa|apply aaI|apply aaC|apply abZ|(apply adx;rfl)|(apply aew;rfl)|(apply adH;rfl;rfl)|(apply acJ;rfl;rfl)|(apply adt;rfl;rfl)|(apply acq;rfl;rfl;first|exact q297 _)|(apply aft;rfl;rfl;omega)|(apply abx;rfl;rfl)|(apply abO;rfl;rfl)|(intro _;omega)|intro _
      all_goals try omega
      all_goals exact⟨.inr rfl,rfl,_,rfl,rfl,rfl⟩
  . rw[decide_eq_true (show s[0]! ≠ 48 from h48),ki];have e48:((s[(0:Int).toNat]!).toNat:Int)≠48:=fun e=>h48 (c9.1 (by rw[show s[(0:Int).toNat]! = s[0]! from rfl]at e;have:(48:UInt8).toNat=48:=rfl;omega))
    repeat' first|apply aaK|apply aa|apply aaI|apply aaC|apply abZ|(apply adx;rfl)|(apply afc;rfl)|(apply adH;rfl;rfl)|(apply acJ;rfl;rfl)|(apply acq;rfl;rfl;first|exact q297 _)|(apply aft;rfl;rfl;omega)|(apply abx;rfl;rfl)|(apply abO;rfl;rfl)|(intro _;omega)|intro _
    all_goals try omega
    all_goals exact⟨.inr rfl,rfl,_,rfl,rfl,rfl⟩
open Go.Proofs
variable {T:List (Nat×Spec)}
noncomputable def nh:Spec:=sK [] 329
noncomputable def xf:Spec:=sK [(329,nh)] 283
noncomputable def xg:Spec:=sK [(329,nh)] 285
noncomputable def xh:Spec:=sK [(285,xg)] 218
noncomputable def xi:Spec:=sK [(329,nh)] 296
noncomputable def Dx:Spec:=sK [(296,xi)] 225
theorem Dy:aZ Tryz.prog gl 329 nh:=bM bK
theorem YC:aZ Tryz.prog gl 283 xf:=bM (aQ Dy bK)
theorem YD:aZ Tryz.prog gl 285 xg:=bM (aQ Dy bK)
theorem YE:aZ Tryz.prog gl 218 xh:=bM (aQ YD bK)
theorem YF:aZ Tryz.prog gl 296 xi:=bM (aQ Dy bK)
theorem YG:aZ Tryz.prog gl 225 Dx:=bM (aQ YF bK)
theorem Dz:∀(s:ax) b h,s.length<1000000->nh [.str s,.str [b]] h=some ⟨.bool (preB b s),h,[]⟩:=fun s b h hl=>cE (Yn bL s b hl) rfl rfl rfl h
theorem YH:∀(s:ax) b h,s.length<1000000->xf [.str s,.str [b]] h=some ⟨.bool (preB b s),h,[]⟩:=fun s b h hl=>
 cE (Yo (M:=bz Tryz.prog FT [(329,nh)]) bL s b fun h=>Dz s b h hl) rfl rfl rfl h
theorem YI:∀(s:ax) b h,s.length<1000000->xh [.str s,.str [b]] h=some ⟨.str (bX b s),h,[]⟩:=fun s b h hl=>by
 have q285:∀h,xg [.str s,.str [b]] h=some ⟨.str (bX b s),h,[]⟩:=cE (Yp (M:=bz Tryz.prog FT [(329,nh)]) bL s b hl fun h=>Dz s b h hl) rfl rfl rfl;exact cE (Yq (M:=bz Tryz.prog FT [(285,xg)]) bL s b q285) rfl rfl rfl h
theorem YJ:∀(s:ax) b h,s.length<1000000->Dx [.str s,.str [b]] h=some ⟨.ay [.str (bX b s),.bool (preB b s)],h,[]⟩:=fun s b h hl=>by
 have q296:∀h,xi [.str s,.str [b]] h=some ⟨.ay [.str (bX b s),.bool (preB b s)],h,[]⟩:=cE (Yr (M:=bz Tryz.prog FT [(329,nh)]) bL s b hl fun h=>Dz s b h hl) rfl rfl rfl;exact cE (Ys (M:=bz Tryz.prog FT [(296,xi)]) bL s b q296) rfl rfl rfl h
def KL:List (Nat×Spec):=[(336,nS .index)]
theorem YK:sJ (bz Tryz.prog FT KL) where
 ft:=bL
 Km:=fun _ _=>rfl
 Kn:=fun _ _=>rfl
 Ko:=fun _ _ _=>rfl
noncomputable def xj:Spec:=sK KL 160
theorem YL:aZ Tryz.prog gl 160 xj:=bM (aQ (Az HU) bK)
theorem YM:∀(s:ax) b h,s.length<1000000->xj [.str s,.str [b]] h=some ⟨jd b s,h,[]⟩:=fun s b h hl=>cE (XU (fun _ _=>rfl) YK s b hl) rfl rfl rfl h
theorem YN:da fB=fB:=by
 unfold fB;induction f9 256 with
 | nil=>rfl
 | cons a l ih=>
  rw[n4,da,ih];rfl
theorem YO:bG fB=0:=by
 unfold fB;induction f9 256 with
 | nil=>rfl
 | cons a l ih=>simp only[n4,bG,ih,AV.top];rfl
noncomputable def xk:Spec:=sK [] 273
noncomputable def xl:Spec:=sK [(273,xk)] 211
noncomputable def xn:Spec:=sK [(211,xl)] 297
noncomputable def DA:Spec:=sK [(297,xn)] 226
noncomputable def xp:Spec:=sK [] 212
theorem YP:aZ Tryz.prog gl 273 xk:=bM bK
theorem YQ:aZ Tryz.prog gl 211 xl:=bM (aQ YP bK)
theorem YR:aZ Tryz.prog gl 297 xn:=bM (aQ YQ bK)
theorem YS:aZ Tryz.prog gl 226 DA:=bM (aQ YR bK)
theorem YT:aZ Tryz.prog gl 212 xp:=bM bK
theorem YU:∀h,xk [.str nf] h=some ⟨.ay [.agg fB,.bool true],h,[]⟩:=cE (XX bL) rfl (by simp[AV.top,bG,YO]) (by simp only[bR,da,YN])
theorem YV:oJ (bz Tryz.prog FT [(273,xk)]) where
 ft:=bL
 Kq:=fun _ _=>rfl
 Kr:=fun _ _=>rfl
 Ks:=fun _ _=>rfl
 wY:=YU
theorem YW:∀(s:ax) h,s.length<1000000->DA [.str s] h=some ⟨.bool (eA s),h,[]⟩:=fun s h hl=>by
 have q211:∀h,xl [.str s,.str nf] h=some ⟨.str (ky (jj s)),h,[]⟩:=cE (Yh YV s hl) rfl rfl rfl;have q297:∀h,xn [.str s] h=some ⟨.bool (decide (s≠[]) && s.all bS),h,[]⟩:=cE (YA (M:=bz Tryz.prog FT [(211,xl)]) bL s q211) rfl rfl rfl;exact cE (YB (M:=bz Tryz.prog FT [(297,xn)]) bL s q297) rfl rfl rfl h
theorem YX:∀(s:ax) h,s≠[]->s.length<=18->s.all bS=true->xp [.str s] h=some ⟨.ay [.iV (aM 0 s),.eh],h,[]⟩:=fun s h h0 hl hd=>cE (Ym ⟨bL,fun _ _=>rfl⟩ s h0 hl hd) rfl rfl rfl h
theorem afR {t:Nat}{x y:aS}{l:List bj}{pe:List AV}{lo:List (Nat×AV)}{hp:ae}{df wr:List Nat}{k:IntKind}{a b:Int}{Q:aw->Prop}{m:Int}(hx:(St.mk pe lo hp df).ah x=some (.int k a))(hy:(St.mk pe lo hp df).ah y=some (.int k b))(hm:m=a/\b<=a\/m=b/\a<=b)
 (h:WO M l ⟨⟨pe,(t,.int k m)::lo,hp,df⟩,wr⟩ Q):WO M (⟨.l t,.mm true [x,y],none⟩::l) ⟨⟨pe,lo,hp,df⟩,wr⟩ Q:=by
 refine abx (v:=.int k m) ?_ rfl h;simp only[br,St.cX,hx,hy];have e:(if a<b then b else a)=m:=by split <;> omega
 simp[nw,e]
def dr (s:ax):ax:=(bQ 47 (bX 45 s)).1
def dX (s:ax):ax:=(bQ 47 (bX 45 s)).2.getD []
def iB (s:ax):Bool:=(bQ 47 (bX 45 s)).2.isSome
def jx (s:ax):Bool:=eA (dr s) && !(preB 45 s && decide (dr s=[48])) && (!iB s || (eA (dX s) && decide (dX s≠[48]) && decide (dX s≠[49])))
def gk (a b:Nat):Bool:=!(n6 a b == 1)
def dD (s:ax):Int:=if jx s=false then 1 else if 600<(dr s).length\/600<(dX s).length then 4 else if iB s=true/\gk (aM 0 (dr s)) (aM 0 (dX s))=true then 1 else 0
structure DB (M:az)(N:Nat):Prop extends me M N where
 KM:∀(s:ax) h,s.length<1000000->M.ext 225 [.str s,.str [45]] h=some ⟨.ay [.str (bX 45 s),.bool (preB 45 s)],h,[]⟩
 DC:∀(s:ax) h,s.length<1000000->M.ext 226 [.str s] h=some ⟨.bool (eA s),h,[]⟩
 ss:∀a b x y,aN a x->aN b y->al x<wB^N->al y<wB^N->∃v0,aN v0 (b8 x y:Nat)/\∀h,M.ext 229 [a,b] h=some ⟨v0,h,[]⟩
 sQ:∀t (e:Int) h,M.ext 228 [.bool t,.iV e] h=some ⟨.iV (if t then e else 0),h,[]⟩
 sR:∀v h l,gO h v=some l->l.length<1000->M.ext 227 [v] h=some ⟨.iV (cM l),h,[]⟩
theorem sS {s:ax}(h:eA s=true):s≠[]/\s.all bS=true:=by
 simp only[eA,be,decide_eq_true_eq]at h;exact h.1
theorem YY {s:ax}(h:s.all bS=true):preB 45 s=false:=by
 rw[preB,decide_eq_false_iff_not];intro e;cases s with
 | nil=>simp at e
 | cons c t=>
  simp at e;subst e;simp[dw]at h;exact absurd h.1 ak
theorem me.KN (C:me M N)(s:ax)(hl:s.length<=N)(h:s.all bS=true):∃v0,aN v0 (aM 0 s:Nat)/\∀h,M.ext 216 [.str s] h=some ⟨v0,h,[]⟩:=by
 have hp:=YY h;have hc:=kA hp;obtain⟨v0,h0,q⟩:=C.Dw s hl (by rw[hc];exact h);rw[hp,hc]at h0;exact⟨v0,h0,q⟩
theorem sV (b:UInt8)(s:ax):(bQ b s).1.length<=s.length:=by
 cases h:(bQ b s).2 with
 | none=>rw[(nd h).1];exact aL _
 | some y=>have:=sM h;omega
theorem DD (b:UInt8)(s:ax):((bQ b s).2.getD []).length<=s.length:=by
 cases h:(bQ b s).2 with
 | none=>exact l9 _
 | some y=>have:=sM h;simp;omega
def qE:ao:=
 zR [zm 46 7,
          zu 47 46,
          ⟨(.l 48),.call (kF 228) [(.l 47),(kI 1)],none⟩,
          zm 49 4,
          zL 50 49,
          zm 51 5,
          zL 52 51,
          ⟨(.l 53),.mm true [(.l 50),(.l 52)],none⟩,
          zc 54 .gtr 53 600,
          ⟨(.l 55),.call (kF 228) [(.l 54),(kI 4)],none⟩,
          ⟨(.l 56),.eo 28 2 1 [.iV (0)] [(0,1,(.l 48)),(1,1,(.l 55))],none⟩,
          z1 57 227 56,
          zw 8 57]
        (
         zR [zm 58 8,
           zc 59 .neq 58 0,
           zn 60 59,
           zg (zm 61 6) 60 false,
           zg (zu 62 61) 60 false,
           zP 63 60 62]
         (
          .cond (.l 63)
          (
           zR [zm 64 8,
             zw 1 64]
           (.ret))
          (.skip)))
def qF:ao:=
 zR [zm 65 4,
          z1 66 216 65,
          zm 67 5,
          z1 68 216 67,
          z2 69 229 66 68,
          ⟨(.p 9),.alloc 171 [.iV (0),.ab],none⟩,
          zs 2 9 69]
        (
         .seq (.draw [(zt 70 2 9,[]),
           (⟨(.l 71),.call (kF 196) [(kI 1)],none⟩,[0]),
           (z2 72 200 70 71,[]),
           (zc 73 .neq 72 0,[]),
           (⟨(.l 74),.call (kF 228) [(.l 73),(kI 1)],none⟩,[]),
           (zw 1 74,[])])
         (.ret))
def DE (res:List fK)(r:Int)(e:Ex)(s:aw):Prop:=(e = .normal\/e = .ret)/\s.s.cF=[]/\∃vs,dU s.s res=some vs/\aT vs = .iV r/\(if (AV.iV r).top<=0 then [] else s.s.hp)=[]
theorem jk {res:List fK}{r r':Int}{e:Ex}{s:aw}{vs:List AV}(he:e = .normal\/e = .ret)(hd:s.s.cF=[])(hv:dU s.s res=some vs)(ht:aT vs = .iV r')(hr:r'=r):DE res r e s:=by
 subst hr;exact⟨he,hd,vs,hv,ht,rfl⟩
theorem jP (C:DB M N)(hN:600<=N)(F B:Bool)(top bot:ax)(hl:top.length<1000000/\bot.length<1000000)(hd:F=true->top.all bS=true/\(B=true->bot.all bS=true))(a0 a1 a2 a3 a8 a9:AV)(lo:List (Nat×AV))(wr:List Nat) :
 W M (.seq qE qF) ⟨⟨[a0,a1,a2,a3,.str top,.str bot,.bool B,.bool F,a8,a9],lo,[],[]⟩,wr⟩ (DE [.var (.p 1)] (if F=false then 1 else if 600<top.length\/600<bot.length then 4 else if B=true/\gk (aM 0 top) (aM 0 bot)=true then 1 else 0)):=by
 have t1:∀h,M.ext 228 [.bool true,.iV 1] h=some ⟨.iV 1,h,[]⟩:=fun h=>C.sQ true 1 h
 have f1:∀h,M.ext 228 [.bool false,.iV 1] h=some ⟨.iV 0,h,[]⟩:=fun h=>C.sQ false 1 h
 have t4:∀h,M.ext 228 [.bool true,.iV 4] h=some ⟨.iV 4,h,[]⟩:=fun h=>C.sQ true 4 h
 have f4:∀h,M.ext 228 [.bool false,.iV 4] h=some ⟨.iV 0,h,[]⟩:=fun h=>C.sQ false 4 h
 have g14:∀v h,gO h v=some [1,4]->M.ext 227 [v] h=some ⟨.iV 1,h,[]⟩:=fun v h e=>C.sR v h _ e ak
 have g10:∀v h,gO h v=some [1,0]->M.ext 227 [v] h=some ⟨.iV 1,h,[]⟩:=fun v h e=>C.sR v h _ e ak
 have g04:∀v h,gO h v=some [0,4]->M.ext 227 [v] h=some ⟨.iV 4,h,[]⟩:=fun v h e=>C.sR v h _ e ak
 have g00:∀v h,gO h v=some [0,0]->M.ext 227 [v] h=some ⟨.iV 0,h,[]⟩:=fun v h e=>C.sR v h _ e ak
 obtain⟨m,hm⟩:∃m:Int,m=top.length/\(bot.length:Int)<=top.length\/m=bot.length/\(top.length:Int)<=bot.length:=by
  by_cases h:bot.length<=top.length
  . exact⟨_,.inl ⟨rfl,ac⟩⟩
  . exact⟨_,.inr ⟨rfl,ac⟩⟩
 cases F with
 | false=>
  rw[if_pos rfl];unfold qE qF;repeat' first|(apply afR (m:=m);rfl;rfl;exact hm)|apply aaK|apply aa|apply aaI|apply aaC|apply abZ|apply aP|(apply ack;rfl)|(apply afc;rfl)|(apply acI;rfl;rfl)|(apply adH;rfl;rfl)|(apply acJ;rfl;rfl)|(apply acq;rfl;rfl;first|exact t1 _|exact f1 _|exact t4 _|exact f4 _)|(apply acq;rfl;rfl;first|exact g14 _ _ rfl|exact g10 _ _ rfl)|(apply acH;rfl;rfl;rfl)|(apply abx;rfl;rfl)|(apply abO;rfl;rfl)|(intro _;omega)|intro _
  all_goals try omega
  all_goals exact jk (.inr rfl) rfl rfl rfl rfl
 | true=>
  rw[if_neg ak];by_cases hb:600<top.length\/600<bot.length
  . rw[if_pos hb];unfold qE qF;repeat' first|(apply afR (m:=m);rfl;rfl;exact hm)|apply aaK|apply aa|apply aaI|apply aaC|apply abZ|apply aP|(apply ack;rfl)|(apply afc;rfl)|(apply acI;rfl;rfl)|(apply adH;rfl;rfl)|(apply acJ;rfl;rfl)|(apply acq;rfl;rfl;first|exact t1 _|exact f1 _|exact t4 _|exact f4 _)|(apply acq;rfl;rfl;first|exact g04 _ _ rfl|exact g00 _ _ rfl)|(apply acH;rfl;rfl;rfl)|(apply abx;rfl;rfl)|(apply abO;rfl;rfl)|(intro _;omega)|intro _
    all_goals try omega
    all_goals exact jk (.inr rfl) rfl rfl rfl rfl
  . rw[if_neg hb];cases B with
    | false=>
     rw[if_neg am];unfold qE qF;repeat' first|(apply afR (m:=m);rfl;rfl;exact hm)|apply aaK|apply aa|apply aaI|apply aaC|apply abZ|apply aP|(apply ack;rfl)|(apply aew;rfl)|(apply acI;rfl;rfl)|(apply adH;rfl;rfl)|(apply adt;rfl;rfl)|(apply acq;rfl;rfl;first|exact t1 _|exact f1 _|exact t4 _|exact f4 _)|(apply acq;rfl;rfl;first|exact g04 _ _ rfl|exact g00 _ _ rfl)|(apply acH;rfl;rfl;rfl)|(apply abx;rfl;rfl)|(apply abO;rfl;rfl)|(intro _;omega)|intro _
     all_goals try omega
     all_goals exact jk (.inr rfl) rfl rfl rfl rfl
    | true=>
     obtain⟨hta,hba⟩:=hd rfl;have hba:=hba rfl;obtain⟨va,ka,qa⟩:=C.KN top ac hta;obtain⟨vb,kb,qb⟩:=C.KN bot ac hba;have la:=oK (N:=N) hta ac;have lb:=oK (N:=N) hba ac;obtain⟨vg,kg,qg⟩:=C.ss va vb _ _ ka kb la lb;obtain⟨g,hg⟩:∃g,g=n6 (aM 0 top) (aM 0 bot):=⟨_,rfl⟩;have kg:aN vg (g:Int):=by rw[hg];exact kg
     have lg:al (g:Int)<wB^N:=by
      rw[fk ac]at la lb ⊢;rw[hg];rcases gT (aM 0 top) with h0|h0
      . rw[h0,Nat.gcd_zero_left];exact lb
      . have:=Nat.gcd_le_left (aM 0 bot) h0;omega
     have q196:=C.mW 1;have q200:=C.CN _ (.agg [.iV 1,.ab]) _ 1 kg (.small ak) lg (oK (s:=[49]) ak (by
                                                                                                                             have:([49]:ax).length=1:=rfl;omega))
     obtain⟨sg,wg,rfl,og,_⟩:=kg.shape;by_cases h1:g=1
     . have hc:gk (aM 0 top) (aM 0 bot)=false:=by rw[gk,←hg,h1];rfl
       rw[if_neg (by rw[hc];simp)];subst h1;rw[show bB (((1:Nat):Int)-1)=0 by rfl]at q200;unfold qE qF;repeat' first|(apply afR (m:=m);rfl;rfl;exact hm)|(apply acq;rfl;rfl;first|exact q196 _|exact q200 _|exact t1 _|exact f1 _)|(apply adA;rfl;rfl;(first|(simp only[nca];rfl)|rfl);first|exact q196 _|exact q200 _|exact t1 _|exact f1 _)|(apply afa;rfl;rfl;rfl;exact⟨rfl,aL _,by simp[eW,og]⟩;rfl)|apply aaK|apply aa|apply aaI|apply aaC|apply abZ|apply acn|apply adJ|apply adY|(apply aez;rfl)|(apply aeu;rfl;rfl;(first|(simp only[nca];rfl)|rfl))|(apply acj;rfl)|(apply aew;rfl)|(apply acI;rfl;rfl)|(apply adH;rfl;rfl)|(apply adt;rfl;rfl)|(apply acq;rfl;rfl;first|exact t1 _|exact f1 _|exact t4 _|exact f4 _|exact qa _|exact qb _|exact qg _)|(apply acq;rfl;rfl;first|exact g04 _ _ rfl|exact g00 _ _ rfl)|(apply acH;rfl;rfl;rfl)|(apply acv;rfl;rfl;rfl)|(apply abx;rfl;rfl)|(apply abO;rfl;rfl)|(intro _;omega)|intro _
       all_goals try omega
       all_goals exact jk (.inr rfl) rfl rfl rfl rfl
     . have hc:gk (aM 0 top) (aM 0 bot)=true:=by rw[gk,←hg];simp[h1]
       rw[if_pos ⟨rfl,hc⟩];obtain⟨z,hz⟩:∃z,z=bB ((g:Int)-1):=⟨_,rfl⟩;have z0:z≠0:=by rw[hz];unfold bB;split <;> (first|omega|(split <;> omega))
       rw[←hz]at q200;unfold qE qF;repeat' first|(apply afR (m:=m);rfl;rfl;exact hm)|(apply acq;rfl;rfl;first|exact q196 _|exact q200 _|exact t1 _|exact f1 _)|(apply adA;rfl;rfl;(first|(simp only[nca];rfl)|rfl);first|exact q196 _|exact q200 _|exact t1 _|exact f1 _)|(apply afa;rfl;rfl;rfl;exact⟨rfl,aL _,by simp[eW,og]⟩;rfl)|apply aaK|apply aa|apply aaI|apply aaC|apply abZ|apply acn|apply adJ|apply adY|(apply aez;rfl)|(apply aeu;rfl;rfl;(first|(simp only[nca];rfl)|rfl))|(apply acj;rfl)|(apply aew;rfl)|(apply acI;rfl;rfl)|(apply adH;rfl;rfl)|(apply adt;rfl;rfl)|(apply acq;rfl;rfl;first|exact t1 _|exact f1 _|exact t4 _|exact f4 _|exact qa _|exact qb _|exact qg _)|(apply acq;rfl;rfl;first|exact g04 _ _ rfl|exact g00 _ _ rfl)|(apply acH;rfl;rfl;rfl)|(apply acv;rfl;rfl;rfl)|(apply abx;rfl;rfl)|(apply abO;rfl;rfl)|(intro _;omega)|intro _
       all_goals try omega
       all_goals exact jk (.inr rfl) rfl rfl rfl rfl
theorem YZ (C:DB M N)(hN:600<=N)(s:ax)(hl:s.length<1000000):bg M 172 [.str s] [] ⟨.iV (dD s),[],[]⟩:=by
 have hcl:=qC 45 s;have htl:(dr s).length<=s.length:=bP (sV 47 _) hcl;have hbl:(dX s).length<=s.length:=bP (DD 47 _) hcl;have q225:=fun h=>C.KM s h hl
 have q160:=fun h=>C.Dv (bX 45 s) h ac
 have ecut:jd 47 (bX 45 s) = .ay [.str (dr s),.str (dX s),.bool (iB s)]:=rfl;rw[ecut]at q160;have q226a:=fun h=>C.DC (dr s) h ac
 have q226b:=fun h=>C.DC (dX s) h ac
 have hform:jx s=(eA (dr s) && !(preB 45 s && decide (dr s=[48])) && (!iB s || (eA (dX s) && decide (dX s≠[48]) && decide (dX s≠[49])))):=rfl;have hchk:dD s=if jx s=false then 1 else if 600<(dr s).length\/600<(dX s).length then 4 else if iB s=true/\gk (aM 0 (dr s)) (aM 0 (dX s))=true then 1 else 0:=rfl
 have dA:=fun h=>(sS (s:=dr s) h).2
 have dC:=fun h=>(sS (s:=dX s) h).2
 rw[hchk];clear hchk ecut;refine bU (by rw[C.ft];exact Yz) am ?_;generalize dr s=top at *
 generalize dX s=bot at *
 generalize jx s=F at *
 generalize iB s=B at *
 generalize preB 45 s=P at *
 have ll:top.length<1000000/\bot.length<1000000:=⟨ac,ac⟩;unfold KK;simp only[enter];cases hA:eA top with
 | false=>
  rw[hA]at q226a hform;simp only[cZ]at hform;subst hform;cases B;all_goals
  . repeat' first|(exact jP C hN _ _ top bot ll (fun h=>by cases h) _ _ _ _ _ _ _ _)|apply aaK|apply aa|apply aaI|apply aaC|apply acn|(apply ack;rfl)|(apply acj;rfl)|(apply aeU;rfl)|(apply afs;rfl)|(apply adt;rfl;rfl)|(apply acq;rfl;rfl;first|exact q225 _|exact q160 _|exact q226a _)|(apply abx;rfl;rfl)|(apply abO;rfl;rfl)
 | true=>
  rw[hA]at q226a hform;simp only[b9]at hform;have dA:=dA hA;by_cases hz:P=true/\top=[48]
  . obtain⟨rfl,hz⟩:=hz;rw[decide_eq_true hz]at hform;simp only[nW,j1,cZ]at hform;subst hform;cases B;all_goals
    . repeat' first|(exact jP C hN _ _ top bot ll (fun h=>by cases h) _ _ _ _ _ _ _ _)|(apply aeT;rfl;rfl;all_goals first|(intro h;exact absurd hz h)|intro _)|apply aaK|apply aa|apply aaI|apply aaC|apply acn|(apply ack;rfl)|(apply acj;rfl)|(apply adx;rfl)|(apply aeU;rfl)|(apply acJ;rfl;rfl)|(apply adt;rfl;rfl)|(apply acq;rfl;rfl;first|exact q225 _|exact q160 _|exact q226a _)|(apply abx;rfl;rfl)|(apply abO;rfl;rfl)
  . have hpz:(P && decide (top=[48]))=false:=by
     cases P with
     | false=>rfl
     | true=>rw[decide_eq_false (fun e=>hz ⟨rfl,e⟩)];rfl
    rw[hpz]at hform;simp only[m9,b9]at hform;cases B with
    | false=>
     simp only[m9,ki]at hform;subst hform;cases P with
     | false=>
      repeat' first|(exact jP C hN _ _ top bot ll (fun _=>⟨dA,fun h=>by cases h⟩) _ _ _ _ _ _ _ _)|apply aaK|apply aa|apply aaI|apply aaC|apply acn|(apply acj;rfl)|(apply adx;rfl)|(apply aeU;rfl)|(apply acJ;rfl;rfl)|(apply adt;rfl;rfl)|(apply acq;rfl;rfl;first|exact q225 _|exact q160 _|exact q226a _)|(apply abx;rfl;rfl)|(apply abO;rfl;rfl)
     | true=>
      have hz:¬top=[48]:=fun e=>hz ⟨rfl,e⟩
      repeat' first|(exact jP C hN _ _ top bot ll (fun _=>⟨dA,fun h=>by cases h⟩) _ _ _ _ _ _ _ _)|(apply aeT;rfl;rfl;all_goals first|(intro h;exact absurd h hz)|intro _)|apply aaK|apply aa|apply aaI|apply aaC|apply acn|(apply acj;rfl)|(apply adx;rfl)|(apply acJ;rfl;rfl)|(apply acq;rfl;rfl;first|exact q225 _|exact q160 _|exact q226a _)|(apply abx;rfl;rfl)|(apply abO;rfl;rfl)
    | true=>
     simp only[j1,j0]at hform;cases hC:eA bot with
     | false=>
      rw[hC]at q226b hform;simp only[cZ]at hform;subst hform;cases P with
      | false=>
       repeat' first|(exact jP C hN _ _ top bot ll (fun h=>by cases h) _ _ _ _ _ _ _ _)|apply aaK|apply aa|apply aaI|apply aaC|(apply ack;rfl)|(apply adx;rfl)|(apply aeU;rfl)|(apply acJ;rfl;rfl)|(apply adt;rfl;rfl)|(apply acq;rfl;rfl;first|exact q225 _|exact q160 _|exact q226a _|exact q226b _)|(apply abx;rfl;rfl)|(apply abO;rfl;rfl)
      | true=>
       have hz:¬top=[48]:=fun e=>hz ⟨rfl,e⟩
       repeat' first|(exact jP C hN _ _ top bot ll (fun h=>by cases h) _ _ _ _ _ _ _ _)|(apply aeT;rfl;rfl;all_goals first|(intro h;exact absurd h hz)|intro _)|apply aaK|apply aa|apply aaI|apply aaC|(apply ack;rfl)|(apply adx;rfl)|(apply aeU;rfl)|(apply acJ;rfl;rfl)|(apply adt;rfl;rfl)|(apply acq;rfl;rfl;first|exact q225 _|exact q160 _|exact q226a _|exact q226b _)|(apply abx;rfl;rfl)|(apply abO;rfl;rfl)
     | true=>
      rw[hC]at q226b hform;simp only[b9]at hform;have dC:=dC hC;by_cases h48:bot=[48]
      . rw[decide_eq_false (show ¬bot≠[48] from fun h=>h h48)]at hform;simp only[cZ]at hform;subst hform;cases P with
        | false=>
         repeat' first|(exact jP C hN _ _ top bot ll (fun h=>by cases h) _ _ _ _ _ _ _ _)|(apply aeZ;rfl;rfl;all_goals first|(intro h;exact absurd h48 h)|intro _)|apply aaK|apply aa|apply aaI|apply aaC|(apply ack;rfl)|(apply adx;rfl)|(apply aeU;rfl)|(apply acJ;rfl;rfl)|(apply adt;rfl;rfl)|(apply acq;rfl;rfl;first|exact q225 _|exact q160 _|exact q226a _|exact q226b _)|(apply abx;rfl;rfl)|(apply abO;rfl;rfl)
        | true=>
         have hz:¬top=[48]:=fun e=>hz ⟨rfl,e⟩
         repeat' first|(exact jP C hN _ _ top bot ll (fun h=>by cases h) _ _ _ _ _ _ _ _)|(apply aeT;rfl;rfl;all_goals first|(intro h;exact absurd h hz)|intro _)|(apply aeZ;rfl;rfl;all_goals first|(intro h;exact absurd h48 h)|intro _)|apply aaK|apply aa|apply aaI|apply aaC|(apply ack;rfl)|(apply adx;rfl)|(apply aeU;rfl)|(apply acJ;rfl;rfl)|(apply adt;rfl;rfl)|(apply acq;rfl;rfl;first|exact q225 _|exact q160 _|exact q226a _|exact q226b _)|(apply abx;rfl;rfl)|(apply abO;rfl;rfl)
      . rw[decide_eq_true (show bot≠[48] from h48)]at hform;simp only[b9]at hform;by_cases h49:bot=[49]
        . rw[decide_eq_false (show ¬bot≠[49] from fun h=>h h49)]at hform;subst hform;cases P with
          | false=>
           repeat' first|(exact jP C hN _ _ top bot ll (fun h=>by cases h) _ _ _ _ _ _ _ _)|(apply aeZ;rfl;rfl;all_goals first|(intro h;exact absurd h h48)|(intro h;exact absurd h49 h)|intro _)|apply aaK|apply aa|apply aaI|apply aaC|(apply ack;rfl)|(apply adx;rfl)|(apply aeU;rfl)|(apply acJ;rfl;rfl)|(apply adt;rfl;rfl)|(apply acq;rfl;rfl;first|exact q225 _|exact q160 _|exact q226a _|exact q226b _)|(apply abx;rfl;rfl)|(apply abO;rfl;rfl)
          | true=>
           have hz:¬top=[48]:=fun e=>hz ⟨rfl,e⟩
           repeat' first|(exact jP C hN _ _ top bot ll (fun h=>by cases h) _ _ _ _ _ _ _ _)|(apply aeT;rfl;rfl;all_goals first|(intro h;exact absurd h hz)|intro _)|(apply aeZ;rfl;rfl;all_goals first|(intro h;exact absurd h h48)|(intro h;exact absurd h49 h)|intro _)|apply aaK|apply aa|apply aaI|apply aaC|(apply ack;rfl)|(apply adx;rfl)|(apply acJ;rfl;rfl)|(apply acq;rfl;rfl;first|exact q225 _|exact q160 _|exact q226a _|exact q226b _)|(apply abx;rfl;rfl)|(apply abO;rfl;rfl)
        . rw[decide_eq_true (show bot≠[49] from h49)]at hform;subst hform;cases P with
          | false=>
           repeat' first|(exact jP C hN _ _ top bot ll (fun _=>⟨dA,fun _=>dC⟩) _ _ _ _ _ _ _ _)|(apply aeZ;rfl;rfl;all_goals first|(intro h;exact absurd h h48)|(intro h;exact absurd h h49)|intro _)|apply aaK|apply aa|apply aaI|apply aaC|(apply ack;rfl)|(apply adx;rfl)|(apply aeU;rfl)|(apply acJ;rfl;rfl)|(apply adt;rfl;rfl)|(apply acq;rfl;rfl;first|exact q225 _|exact q160 _|exact q226a _|exact q226b _)|(apply abx;rfl;rfl)|(apply abO;rfl;rfl)
          | true=>
           have hz:¬top=[48]:=fun e=>hz ⟨rfl,e⟩
           repeat' first|(exact jP C hN _ _ top bot ll (fun _=>⟨dA,fun _=>dC⟩) _ _ _ _ _ _ _ _)|(apply aeT;rfl;rfl;all_goals first|(intro h;exact absurd h hz)|intro _)|(apply aeZ;rfl;rfl;all_goals first|(intro h;exact absurd h h48)|(intro h;exact absurd h h49)|intro _)|apply aaK|apply aa|apply aaI|apply aaC|(apply ack;rfl)|(apply adx;rfl)|(apply acJ;rfl;rfl)|(apply acq;rfl;rfl;first|exact q225 _|exact q160 _|exact q226a _|exact q226b _)|(apply abx;rfl;rfl)|(apply abO;rfl;rfl)
theorem DG {h:ae}{b:Nat}{a c:AV}{e:TypeId}{cp:Option Nat}(ha:rK a=true)(hc:rK c=true)(hb:h.at b=some (.cells [a,c] e)):dx h (.sl b 0 2 1 cp) (.vs [a,c] 2 none):=
 .sl (m:=[a,c]) hb rfl rfl fun i x y hx hy=>by
  match i,hx,hy with
  | 0,hx,hy=>cases hx;cases hy;exact .atom ha
  | 1,hx,hy=>cases hx;cases hy;exact .atom hc
def Dq (k:Nat)(q:Rat):Prop:=al q.num<10^k/\(q.den:Int)<10^k
theorem qG (k:Nat):(0:Int)<10^k:=i7 ak
theorem oM {m n:Nat}(h:m<=n):(10:Int)^m<=10^n:=iy ak h
theorem Dq.mono {m n:Nat}{q:Rat}(h:Dq m q)(hl:m<=n):Dq n q:=⟨cT h.1 (oM hl),cT h.2 (oM hl)⟩
theorem KO {n d:Int}(h:0<d):∃c:Int,0<c/\n=c*(ba n d).num/\d=c*((ba n d).den:Int):=by
 obtain⟨k1,k2,h1,h2,h3,h4⟩:=wi (n:=n) h;refine⟨(b8 n d:Nat),?_,by rw[h3];exact h1,by rw[h4];exact h2⟩;have:=c8 n (show d≠0 by omega);omega
theorem Za {c x:Int}(hc:0<c):al x<=al (c*x):=by
 rw[wj,fk (d6 hc)];have:=bI (show 1<=c by omega) (kq (x:=x));omega
theorem Dq.divInt {k:Nat}{n d:Int}(hd:0<d)(h1:al n<10^k)(h2:d<10^k):Dq k (ba n d):=by
 obtain⟨c,hc,e1,e2⟩:=KO (n:=n) hd;refine⟨fX ?_ h1,fX ?_ h2⟩
 . have:=Za (x:=(ba n d).num) hc;rw[←e1]at this;exact this
 . have h0:(0:Int)<=((ba n d).den:Int):=by omega
   have:=bI (show 1<=c by omega) h0;rw[←e2]at this;omega
theorem xq {x y:Int}{m n:Nat}(hx:al x<10^m)(hy:al y<10^n):al (x*y)<10^(m+n):=by
 rw[wj,ip];have h1:=bN (d6 hy) (kq (x:=x));have h2:=dK hx (qG n);omega
theorem Zb {x y:Int}:al (x+y)<=al x+al y:=by unfold al;split <;> split <;> split <;> omega
theorem Dq.neg {m:Nat}{p:Rat}(hp:Dq m p):Dq m (-p):=by
 refine⟨?_,?_⟩
 . rw[le,jM];exact hp.1
 . rw[Rat.neg_den];exact hp.2
def jQ (p q:Rat):Int:=bB (p.num*q.den-q.num*p.den)
theorem Zc {c x:Int}(h:0<c):bB (c*x)=bB x:=by
 unfold bB;by_cases h1:x<0
 . have:=Int.mul_neg_of_pos_of_neg h h1;rw[if_pos this,if_pos h1]
 . by_cases h2:0<x
   . have:=Int.mul_pos h h2;rw[if_neg ac,if_pos this,if_neg h1,if_pos h2]
   . have:x=0:=by omega
     subst this;rw[Int.mul_zero]
theorem Zd {n d:Int}(h:0<d):bB (ba n d).num=bB n:=by
 obtain⟨c,hc,e1,_⟩:=KO (n:=n) h;rw[←Zc hc,←e1]
theorem Ze (p q:Rat):p-q=ba (p.num*q.den-q.num*p.den) (p.den*q.den):=by
 rw[Rat.sub_eq_add_neg,CV,le,Rat.neg_den,kw,Int.sub_eq_add_neg]
theorem KP (p:Rat):jQ p 0=bB p.num:=by
 unfold jQ;congr 1;show p.num*1-0*_=_;rw[i8,Int.zero_mul,Int.sub_zero]
theorem Zf (p q:Rat):jQ (p-q) 0=jQ p q:=by
 rw[KP,Ze,Zd (Int.mul_pos den_pos den_pos)];rfl
def qH (p:Rat):Rat:=ba (p.num/p.den) 1
theorem xr (p:Rat):(qH p).num=p.num/p.den/\(qH p).den=1:=lZ
theorem Dq.floor {m:Nat}{p:Rat}(hp:Dq m p):Dq (m+1) (qH p):=by
 have dp:=den_pos (q:=p);refine .divInt ak ?_ ?_
 . have h1:=i6 p.num p.den;have h2:=fW p.num (show (p.den:Int)≠0 by omega);have h3:=cP p.num dp;have e:(10:Int)^(m+1)=10^m*10:=cn _ _;have h4:=qG m;have hn:=hp.1;have hd:=hp.2;have key:al (p.num/p.den)<=al p.num+1:=by
    by_cases hs:0<=p.num
    . have a1:=mp hs (d6 dp);have a2:=iK (b:=(p.den:Int)) hs;rw[fk a1,fk hs];omega
    . have a0:al p.num = -p.num:=if_pos ac;have a1:p.num/p.den<0:=Int.ediv_neg_of_neg_of_pos ac dp;have a2:al (p.num/p.den) = -(p.num/p.den):=if_pos a1;rw[a0,a2];have hm:=Int.mul_le_mul_of_nonpos_left (show p.num<=0 by omega) (show (1:Int)<=p.den by omega);rw[i8]at hm;have:p.num<=p.num/p.den:=Int.le_ediv_of_mul_le dp hm;omega
   omega
 . have:=qG m;have e:(10:Int)^(m+1)=10^m*10:=cn _ _;omega
theorem xu {z:Int}{k:Nat}(hk:0<k)(h:al z<10^k):(bm (al z).toNat).length<=k:=by
 refine wU ?_ hk;have h0:=kq (x:=z);have e:((10^k:Nat):Int)=(10:Int)^k:=Int.natCast_pow _ _;rw[←e]at h;omega
theorem DH {z:Int}{k:Nat}(hk:0<k)(h:al z<10^k):(cR z).length<=k+1:=by
 have:=xu hk h;by_cases hz:z<0
 . rw[oI hz,bW];omega
 . rw[mZ hz];omega
theorem KQ {q:Rat}{k:Nat}(hk:0<k)(h:Dq k q):(bm q.den).length<=k:=by
 have:=xu (z:=(q.den:Int)) hk (by rw[fk ac];exact h.2);rw[fk ac]at this;exact this
theorem Dq.lq {q:Rat}{k N:Nat}(hk:0<k)(h:Dq k q)(hN:k+1<=N):Lq N q:=
 ⟨bP (DH hk h.1) hN,bP (KQ hk h) ac⟩
theorem KR (n:Nat):eA (bm n)=true:=by
 obtain⟨h1,h2,h3⟩:=Xm n;unfold eA;rw[decide_eq_true h1,h2,b9];cases hd:bm n with
 | nil=>exact absurd hd h1
 | cons b t=>
  rw[hd]at h3;by_cases hb:b=48
  . subst hb;have ht:=h3 rfl;have:t=[]:=c6 (by simpa using ht);subst this;rfl
  . have e:(b::t)[0]! = b:=rfl;rw[e,decide_eq_true (show b≠48 from hb)];rfl
theorem sW (q:Rat):preB 45 (aW q)=decide (q.num<0)/\bX 45 (aW q)=(if q.den=1 then bm (al q.num).toNat else bm (al q.num).toNat++47::bm q.den):=by
 by_cases hn:q.num<0
 . rw[decide_eq_true hn];unfold aW;split
   . rw[oI hn];exact⟨rfl,rfl⟩
   . rw[oI hn];exact⟨rfl,rfl⟩
 . rw[decide_eq_false hn];unfold aW;rw[mZ hn];have hp:=KH (al q.num).toNat (c:=45) ak;split
   . exact⟨hp,kA hp⟩
   . have hp2:preB 45 (bm (al q.num).toNat++47::bm q.den)=false:=by
      cases hd:bm (al q.num).toNat with
      | nil=>exact absurd hd (qA _)
      | cons b t=>rw[hd]at hp;exact hp
     exact⟨hp2,kA hp2⟩
theorem KS (q:Rat):dr (aW q)=bm (al q.num).toNat/\dX (aW q)=(if q.den=1 then [] else bm q.den)/\iB (aW q)=decide (q.den≠1):=by
 have hn:=KG (jv (al q.num).toNat) (c:=47) ak;unfold dr dX iB;rw[(sW q).2];by_cases h:q.den=1
 . rw[if_pos h,if_pos h,sO hn,decide_eq_false (by simpa using h)];exact⟨rfl,rfl,rfl⟩
 . rw[if_neg h,if_neg h,sP hn,decide_eq_true h];exact⟨rfl,rfl,rfl⟩
theorem KT (z:Int):(al z).toNat=z.natAbs:=by unfold al;split <;> omega
theorem xw {q:Rat}{k:Nat}(hk:0<k)(h6:k<=600)(h:Dq k q):dD (aW q)=0:=by
 obtain⟨e1,e2,e3⟩:=KS q;have l1:=xu hk h.1;have l2:=KQ hk h;have hpre:=(sW q).1;have hz:(preB 45 (aW q) && decide (bm (al q.num).toNat=[48]))=false:=by
  rw[hpre];by_cases hn:q.num<0
  . rw[decide_eq_true hn,b9,decide_eq_false_iff_not];intro e;have:=jh (al q.num).toNat;rw[e]at this;have h2:al q.num = -q.num:=if_pos hn;simp[aM]at this;omega
  . rw[decide_eq_false hn,cZ]
 have dp:=q.den_pos;have hform:jx (aW q)=true:=by
  unfold jx;rw[e1,e2,e3,KR,hz];by_cases hd:q.den=1
  . rw[decide_eq_false (by simpa using hd)];rfl
  . rw[decide_eq_true hd,if_neg hd,KR];have n0:bm q.den≠[48]:=fun e=>by
     have:=jh q.den;rw[e]at this;simp[aM]at this;omega
    have n1:bm q.den≠[49]:=fun e=>by
     have:=jh q.den;rw[e]at this;simp[aM]at this;omega
    rw[decide_eq_true n0,decide_eq_true n1];rfl
 unfold dD;rw[hform,if_neg ak,e1,e2,e3];by_cases hd:q.den=1
 . rw[if_pos hd,if_neg (by simp;omega),if_neg (by simp[hd])]
 . rw[if_neg hd,if_neg ac,jh,jh,if_neg];rintro⟨_,h2⟩;rw[KT]at h2;have:=q.reduced;unfold Nat.Coprime at this;rw[gk,this]at h2;exact absurd h2 ak
theorem KU {s:ax}(h:eA s=true):Dl s:=by
 obtain⟨h1,h2⟩:=sS h;refine⟨h1,h2,fun h3=>?_⟩;simp only[eA,be,Bool.or_eq_true,decide_eq_true_eq]at h;cases s with
 | nil=>exact absurd rfl h1
 | cons b t=>
  simp at h3;subst h3;rcases h.2 with h4|h4
  . exact absurd rfl h4
  . rw[h4];rfl
theorem KV {s:ax}{k:Nat}(h:s.all bS=true)(hl:s.length<=k):((aM 0 s:Nat):Int)<10^k:=by
 have h1:=mY s h;have h2:(aM 0 s:Int)<(10:Int)^s.length:=by exact_mod_cast h1
 exact cT h2 (oM hl)
theorem mf {s:ax}{k:Nat}(h:dD s=0)(hl:s.length<=k):∃q,s=aW q/\Dq k q:=by
 have hform:jx s=true:=by
  cases hf:jx s with
  | true=>rfl
  | false=>unfold dD at h;rw[hf,if_pos rfl]at h;exact absurd h ak
 have hcop:¬(iB s=true/\gk (aM 0 (dr s)) (aM 0 (dX s))=true):=fun hc=>by
  unfold dD at h;rw[hform,if_neg ak]at h;split at h
  . exact absurd h ak
  . exact absurd h ak
 unfold jx at hform;rw[be,be]at hform;obtain⟨⟨f1,f2⟩,f3⟩:=hform;have hcl:=qC 45 s;have htl:(dr s).length<=k:=bP (bP (sV 47 _) hcl) hl;have hbl:(dX s).length<=k:=bP (bP (DD 47 _) hcl) hl;have hT:=KU f1;have eT:=JS hT;have hs:s=if preB 45 s=true then 45::bX 45 s else bX 45 s:=by
  cases hp:preB 45 s with
  | false=>rw[if_neg ak,kA hp]
  | true=>
   rw[if_pos rfl];have hh:=of_decide_eq_true hp;unfold bX;rw[if_pos hh];cases s with
   | nil=>simp at hh
   | cons c t=>simp at hh;rw[hh];rfl
 obtain⟨z,hz⟩:∃z:Int,z=if preB 45 s=true then -(aM 0 (dr s):Int) else (aM 0 (dr s):Nat):=⟨_,rfl⟩
 have hza:al z=(aM 0 (dr s):Nat):=by
  rw[hz];unfold al;cases preB 45 s with
  | false=>simp only[hJ,↓reduceIte];exact if_neg ac
  | true=>simp only[↓reduceIte];split <;> omega
 have hzn:preB 45 s=decide (z<0):=by
  cases hp:preB 45 s with
  | false=>
   rw[hp,if_neg ak]at hz;exact(decide_eq_false ac).symm
  | true=>
   rw[hp,if_pos rfl]at hz;rw[hp]at f2;have n0:aM 0 (dr s)≠0:=fun e=>by
    rw[e,ku ak]at eT;rw[←eT]at f2;exact absurd f2 ak
   rw[decide_eq_true ac]
 have hzt:cR z=if preB 45 s=true then 45::dr s else dr s:=by
  rw[hzn];by_cases hn:z<0
  . rw[oI hn,hza,decide_eq_true hn,if_pos rfl];show 45::bm (aM 0 (dr s))=_;rw[eT]
  . rw[mZ hn,hza,decide_eq_false hn,if_neg ak];exact eT
 have hzb:al z<10^k:=by rw[hza];exact KV hT.2.1 htl
 have k1:(1:Int)<10^k:=by
  have h0:0<(dr s).length:=ew.2 hT.1;have:=oM (show 1<=k by omega);rw[Int.pow_one]at this;omega
 cases hb:iB s with
 | false=>
  have hn:(bQ 47 (bX 45 s)).2=none:=by
   unfold iB at hb;cases h:(bQ 47 (bX 45 s)).2 with
   | none=>rfl
   | some y=>rw[h]at hb;cases hb
  have e:dr s=bX 45 s:=(nd hn).1;refine⟨ba z 1,?_,?_⟩
  . unfold aW;rw[lZ.1,lZ.2,if_pos rfl,hzt,e];exact hs
  . exact⟨by rw[lZ.1];exact hzb,by rw[lZ.2];exact k1⟩
 | true=>
  rw[hb]at f3 hcop;simp only[j1,j0,be,decide_eq_true_eq]at f3;have hB:=KU f3.1.1;have eB:=JS hB;have hd2:aM 0 (dX s)≠0/\aM 0 (dX s)≠1:=by
   refine⟨fun e=>?_,fun e=>?_⟩
   . rw[e,ku ak]at eB;exact f3.1.2 eB.symm
   . rw[e,ku ak]at eB;exact f3.2 eB.symm
  have hco:z.natAbs.Coprime (aM 0 (dX s)):=by
   have h2:gk (aM 0 (dr s)) (aM 0 (dX s))=false:=by
    cases hc:gk (aM 0 (dr s)) (aM 0 (dX s)) with
    | false=>rfl
    | true=>exact absurd ⟨rfl,hc⟩ hcop
   have:z.natAbs=aM 0 (dr s):=by rw[←KT,hza];rfl
   rw[this];simpa[gk] using h2
  refine⟨⟨z,aM 0 (dX s),hd2.1,hco⟩,?_,hzb,KV hB.2.1 hbl⟩;unfold iB at hb;obtain⟨y,hy⟩:=Option.isSome_iff_exists.1 hb;have e:=(qB hy).1;have eb:dX s=y:=by unfold dX;rw[hy];rfl
  have et:(bQ 47 (bX 45 s)).1=dr s:=rfl;rw[et,←eb]at e;unfold aW;rw[if_neg hd2.2,hzt];show s=_++47::bm (aM 0 (dX s));rw[eB];cases hp:preB 45 s with
  | false=>rw[hp,if_neg ak,e]at hs;rw[if_neg ak];exact hs
  | true=>rw[hp,if_pos rfl,e]at hs;rw[if_pos rfl];exact hs
theorem Zg:aW 0=[48]:=by
 show (if (1:Nat)=1 then cR 0 else _)=_;rw[if_pos rfl,mZ ak];exact ku ak
theorem Zh {q:Rat}(h:aW q=[48]):q=0:=by
 obtain⟨e1,e2,e3⟩:=KS q;rw[h]at e1 e3;have a1:dr [48]=[48]:=rfl;have a3:iB [48]=false:=rfl;rw[a1]at e1;have:=jh (al q.num).toNat;rw[←e1]at this;simp[aM]at this;have h0:=kq (x:=q.num);refine Rat.num_eq_zero.1 ?_;unfold al at this h0;split at this <;> omega
theorem Dq.bq {k N:Nat}{q:Rat}(h:Dq k q)(hN:k<=N):Bq N q:=by
 have e:(10:Int)^k<=wB^N:=f6 (oM hN) (by
  clear hN;induction N with
  | zero=>decide
  | succ n ih=>
   rw[cn,cn];have h0:(0:Int)<=10^n:=d6 (qG n);have h1:(0:Int)<=wB^n:=f6 h0 ih;exact f6 (bI ih ak) (bN ak h1))
 exact⟨cT h.1 e,cT h.2 e⟩
noncomputable def xy:Spec:=sK TF 284
theorem Zi:aZ Tryz.prog gl 284 xy:=bM wQ
theorem Zj {A:Int}(hA:al A<=10)(i:Nat):al (A^i)<=10^i:=by
 induction i with
 | zero=>
  rw[j7,j7];decide
 | succ n ih=>
  rw[cn,cn,wj];exact f6 (bI ih kq) (bN hA (d6 (qG n)))
theorem Zk:∀v A (K:Nat),aN v A->K<=18->al A<=10->∃v0,aN v0 (A^K)/\∀h,xy [v,.iV K] h=some ⟨v0,h,[]⟩:=fun v A K hv hK hA=>by
 obtain⟨v0,h1,h2⟩:=VH (eF.c (N:=1) ak ak) hv (K:=K) ac fun i hi=>by
  have vi:(10:Int)^i<=10^18:=oM ac;have hw:(10:Int)^18<wB^1:=by decide
  exact fX (f6 (Zj hA i) vi) hw
 exact⟨v0,h1,dW h2 (fM hv.top rfl)⟩
noncomputable def xz:List (Nat×Spec):=(283,xf)::(218,xh)::(212,xp)::(284,xy)::TF
theorem KW:cY Tryz.prog gl (bE xz):=aQ YC (aQ YE (aQ YT (aQ Zi wQ)))
structure xB (T:List (Nat×Spec)):Prop extends EF T where
 Zl:∀ar h,bE T 283 ar h=xf ar h
 Zm:∀ar h,bE T 218 ar h=xh ar h
 Zn:∀ar h,bE T 212 ar h=xp ar h
 Zo:∀ar h,bE T 284 ar h=xy ar h
theorem xB.c (E:xB T){N:Nat}(h1:1<=N)(hN:N<=500000):wZ (bz Tryz.prog FT T) N:={ E.toEF.c h1 hN with
 KB:=fun s h hl=>(E.Zl _ _).trans (YH s 45 h hl)
 KC:=fun s h hl=>(E.Zm _ _).trans (YI s 45 h hl)
 KD:=fun s h h0 hl hd=>(E.Zn _ _).trans (YX s h h0 hl hd)
 KE:=fun v A K hv hK _ hA=>by
  obtain⟨v0,k1,k2⟩:=Zk v A K hv hK hA;exact⟨v0,k1,fun h=>(E.Zo _ _).trans (k2 h)⟩ }
theorem Zp:xB xz:=by repeat' first|exact fun _ _=>rfl|constructor
noncomputable def xC:Spec:=sK xz 216
theorem Zq:aZ Tryz.prog gl 216 xC:=bM KW
theorem Zr {N:Nat}(h1:1<=N)(hN:N<=500000):∀(s:ax),s.length<=N->(bX 45 s).all bS=true->∃v0,aN v0 (if preB 45 s then -(aM 0 (bX 45 s):Int) else (aM 0 (bX 45 s):Nat))/\∀h,xC [.str s] h=some ⟨v0,h,[]⟩:=fun s hl hd=>by
 obtain⟨v0,k1,k2⟩:=Yu (Zp.c h1 hN) s hl hd;exact⟨v0,k1,dW k2 rfl⟩
noncomputable def xD:List (Nat×Spec):=(160,xj)::(216,xC)::xz
theorem KX:cY Tryz.prog gl (bE xD):=aQ YL (aQ Zq KW)
structure xE (T:List (Nat×Spec)):Prop extends xB T where
 Zs:∀ar h,bE T 160 ar h=xj ar h
 Zt:∀ar h,bE T 216 ar h=xC ar h
theorem xE.c (E:xE T){N:Nat}(h1:1<=N)(hN:N<=500000):me (bz Tryz.prog FT T) N:={ E.toxB.c h1 hN with
 Dv:=fun s h hl=>(E.Zs _ _).trans (YM s 47 h hl)
 Dw:=by simp only[E.Zt];exact Zr h1 hN }
theorem Zu:xE xD:=by repeat' first|exact fun _ _=>rfl|constructor
noncomputable def DI:Spec:=sK xD 165
theorem Zv:aZ Tryz.prog gl 165 DI:=bM KX
theorem KY {N:Nat}(h1:1<=N)(hN:N<=400000):∀q,Lq N q->∃v0,dP v0 q/\∀h,DI [.str (aW q)] h=some ⟨v0,h,[]⟩:=fun q lq=>by
 obtain⟨v0,k1,k2⟩:=Yy (Zu.c h1 ac) hN lq;exact⟨v0,k1,dW k2 rfl⟩
noncomputable def xF:List (Nat×Spec):=(225,Dx)::(226,DA)::(229,sA)::(228,kL)::(227,jg)::xD
theorem Zw:cY Tryz.prog gl (bE xF):=aQ YG (aQ YS (aQ JJ (aQ Ik (aQ Il KX))))
theorem Zx:xE xF:=by repeat' first|exact fun _ _=>rfl|constructor
theorem Zy {v:AV}{h:ae}{l:List Int}(hl:gO h v=some l)(hn:l.length<1000):jg [v] h=some ⟨.iV (cM l),h,[]⟩:=by
 simp only[jg,hl];rw[if_pos ac]
theorem Zz:DB (bz Tryz.prog FT xF) 600:={ Zx.c ak ak with
  KM:=fun s h hl=>YJ s 45 h hl
  DC:=fun s h hl=>YW s h hl
  ss:=fun a b x y ha hb hx hy=>JK ak ak a b x y ha hb hx hy
  sQ:=fun _ _ _=>rfl
  sR:=fun v h l hl hn=>Zy hl hn }
noncomputable def DJ:Spec:=sK xF 172
theorem ZA:aZ Tryz.prog gl 172 DJ:=bM Zw
theorem xG:∀(s:ax) h,s.length<1000000->DJ [.str s] h=some ⟨.iV (dD s),h,[]⟩:=fun s h hl=>cE (YZ Zz (aL _) s hl) rfl rfl rfl h
def KZ:ao:=zR [zi 1 0] (zR [zm 8 0,zw 2 8] (.seq (zR [zm 9 2,zL 10 9,zc 11 .gtr 10 0,zn 12 11,zg (zm 13 2) 12 true,⟨.l 14,.index (.l 13) (kI 0),some ((.l 12),true)⟩,⟨.l 15,.bin .eql (.l 14) (.c (.int .u8 (45))),some ((.l 12),true)⟩,zp 16 12 15] (.cond (.l 16) (.region [zm 17 2,⟨.l 18,.slice .str 1 (.l 17) (some (kI 1)) none none,none⟩,zw 2 18]) (.skip))) (zR [zm 19 2,z1 20 152 19,zw 3 20] (.seq (zR [zm 21 2,zm 22 3,⟨.l 23,.slice .str 1 (.l 21) none (some (.l 22)) none,none⟩,z1 24 169 23,zu 25 24,zn 26 25,zg (zm 27 0) 26 false,⟨.l 28,.index (.l 27) (kI 0),some ((.l 26),false)⟩,⟨.l 29,.bin .eql (.l 28) (.c (.int .u8 (45))),some ((.l 26),false)⟩,zg (zn 30 29) 26 false,zg (zm 31 2) 30 true,zg (zm 32 3) 30 true,⟨.l 33,.slice .str 1 (.l 31) none (some (.l 32)) none,some ((.l 30),true)⟩,⟨.l 34,.bin .eql (.l 33) (.c (.str [48])),some ((.l 30),true)⟩,zg (zp 35 30 34) 26 false,zP 36 26 35] (.cond (.l 36) (zR [zi 1 1] (.ret)) (.skip))) (.seq (zR [zm 37 3,zm 38 2,zL 39 38,zb 40 .lss 37 39,zn 41 40,zg (zm 42 2) 41 true,zg (zm 43 3) 41 true,zg (zc 44 .add 43 1) 41 true,⟨.l 45,.slice .str 1 (.l 42) (some (.l 44)) none none,some ((.l 41),true)⟩,zg (z1 46 169 45) 41 true,zg (zu 47 46) 41 true,zg (zn 48 47) 41 true,zg (zm 49 2) 48 false,zg (zm 50 3) 48 false,zg (zc 51 .add 50 1) 48 false,⟨.l 52,.slice .str 1 (.l 49) (some (.l 51)) none none,some ((.l 48),false)⟩,⟨.l 53,.bin .eql (.l 52) (.c (.str [48])),some ((.l 48),false)⟩,zg (zP 54 48 53) 41 true,zg (zn 55 54) 41 true,zg (zm 56 2) 55 false,zg (zm 57 3) 55 false,zg (zc 58 .add 57 1) 55 false,⟨.l 59,.slice .str 1 (.l 56) (some (.l 58)) none none,some ((.l 55),false)⟩,⟨.l 60,.bin .eql (.l 59) (.c (.str [49])),some ((.l 55),false)⟩,zg (zP 61 55 60) 41 true,zp 62 41 61] (.cond (.l 62) (zR [zi 1 1] (.ret)) (.skip))) (.seq (zR [zm 63 3,zc 64 .gtr 63 600,zn 65 64,zg (zm 66 2) 65 false,zg (zL 67 66) 65 false,zg (zm 68 3) 65 false,zg (zb 69 .sub 67 68) 65 false,zg (zc 70 .sub 69 1) 65 false,zg (zc 71 .gtr 70 600) 65 false,zP 72 65 71] (.cond (.l 72) (zR [zi 1 4] (.ret)) (.skip))) (.seq (zR [zm 73 3,zm 74 2,zL 75 74,zb 76 .lss 73 75] (.cond (.l 76) (zR [zm 78 2,z1 79 170 78,zn 77 79,ze 80 0 77,ze 81 1 77,⟨.p 4,.alloc 200 [.bool false,.ab],none⟩,⟨.p 5,.alloc 200 [.bool false,.ab],none⟩,zs 2 4 80,zs 2 5 81] (zR [zf 82 1 4,zd 83 1 82,zf 84 1 5,zd 85 1 84,z2 86 171 83 85,zw 6 86] (zR [zm 87 6,zl 88 87,zc 89 .neq 88 1,zn 90 89,zg (zm 91 6) 90 false,⟨.l 92,.fy none 1 (.l 91) (kI 0),some ((.l 90),false)⟩,zg (zd 93 1 92) 90 false,zg (zc 94 .neq 93 1) 90 false,zP 95 90 94] (.cond (.l 95) (zR [zi 1 1] (.ret)) (.skip))))) (.skip))) (zR [zi 1 0] (.ret)))))))))
theorem ZB:FT 104=some ⟨96,[0,2,3,4,5,6,7],[.var (.p 1)],KZ⟩:=by kernel_rfl
def sX:ao:=.seq (zR [zm 4 2,zm 5 0,zL 6 5,zb 7 .lss 4 6] (.cond (.l 7) (.skip) (.exit 0))) (.seq (.block 1 (zR [zm 10 0,zm 11 2,⟨.l 12,.index (.l 10) (.l 11),none⟩,⟨.l 13,.bin .eql (.l 12) (.c (.int .u8 (47))),none⟩] (.cond (.l 13) (zR [zm 14 2,zw 1 14] (.ret)) (.skip)))) (.region [zm 8 2,zc 9 .add 8 1,zw 2 9]))
def La:ao:=zR [zi 1 0] (.seq (zR [zi 2 0] (.block 0 (.loop sX))) (zR [zm 15 0,zL 16 15,zw 1 16] (.ret)))
theorem ZC:FT 152=some ⟨17,[0,2,3],[.var (.p 1)],La⟩:=by kernel_rfl
def sY:ao:=zR [⟨.p 1,.mv (.c (.bool false)),none⟩] (.seq (zR [zm 3 0,zL 4 3,zc 5 .eql 4 0,zn 6 5,zg (zm 7 0) 6 false,zg (zL 8 7) 6 false,zg (zc 9 .gtr 8 1) 6 false,zg (zn 10 9) 6 false,zg (zm 11 0) 10 true,⟨.l 12,.index (.l 11) (kI 0),some ((.l 10),true)⟩,⟨.l 13,.bin .eql (.l 12) (.c (.int .u8 (48))),some ((.l 10),true)⟩,zg (zp 14 10 13) 6 false,zP 15 6 14] (.cond (.l 15) (zR [⟨.p 1,.mv (.c (.bool false)),none⟩] (.ret)) (.skip))) (zR [zm 16 0,z1 17 223 16,zw 1 17] (.ret)))
theorem ZD:FT 169=some ⟨18,[0,2],[.var (.p 1)],sY⟩:=by kernel_rfl
def sZ:ao:=.seq (zR [zm 4 2,zm 5 0,zL 6 5,zb 7 .lss 4 6] (.cond (.l 7) (.skip) (.exit 0))) (.seq (.block 1 (zR [zm 10 0,zm 11 2,⟨.l 12,.index (.l 10) (.l 11),none⟩,⟨.l 13,.bin .lss (.l 12) (.c (.int .u8 (48))),none⟩,zn 14 13,zg (zm 15 0) 14 false,zg (zm 16 2) 14 false,⟨.l 17,.index (.l 15) (.l 16),some ((.l 14),false)⟩,⟨.l 18,.bin .gtr (.l 17) (.c (.int .u8 (57))),some ((.l 14),false)⟩,zP 19 14 18] (.cond (.l 19) (zR [⟨.p 1,.mv (.c (.bool false)),none⟩] (.ret)) (.skip)))) (.region [zm 8 2,zc 9 .add 8 1,zw 2 9]))
def Lb:ao:=zR [⟨.p 1,.mv (.c (.bool false)),none⟩] (.seq (zR [zi 2 0] (.block 0 (.loop sZ))) (zR [⟨.p 1,.mv (.c (.bool true)),none⟩] (.ret)))
theorem ZE:FT 223=some ⟨20,[0,2,3],[.var (.p 1)],Lb⟩:=by kernel_rfl
def DK:ao:=zR [⟨.p 1,.alloc 200 [.bool false,.ab],none⟩,⟨.p 2,.alloc 200 [.bool false,.ab],none⟩] (zR [zm 6 0,zw 3 6] (zR [zm 7 3,z1 8 152 7,zw 4 8] (.seq (zR [zm 9 4,zm 10 3,zL 11 10,zb 12 .eql 9 11] (.cond (.l 12) (zR [zm 13 3,z1 14 178 13,⟨.l 15,.call (kF 130) [(kI 1)],none⟩,zs 2 1 14,zs 2 2 15] (.ret)) (.skip))) (.seq (.draw [(zm 16 3,[]),(zm 17 4,[0]),(⟨.l 18,.slice .str 1 (.l 16) none (some (.l 17)) none,none⟩,[]),(z1 19 178 18,[]),(zm 20 3,[0,1,2,3]),(zm 21 4,[0,1,2,3,4]),(zc 22 .add 21 1,[0,1,2,3,4]),(⟨.l 23,.slice .str 1 (.l 20) (some (.l 22)) none none,none⟩,[0,1,2,3]),(z1 24 178 23,[]),(zs 2 1 19,[]),(zs 2 2 24,[])]) (.ret)))))
theorem Lc:FT 170=some ⟨25,[0,2,3,4,5],[.cell 2 true (.p 1),.cell 2 true (.p 2)],DK⟩:=by kernel_rfl
def tc:ao:=.seq (zR [zm 16 0,zL 17 16,zc 18 .gtr 17 9] (.cond (.l 18) (.skip) (.exit 0))) (.block 1 (zR [zm 19 3,zm 20 0,zm 21 0,zL 22 21,zc 23 .sub 22 9,⟨.l 24,.slice .str 1 (.l 20) (some (.l 23)) none none,none⟩,z1 25 232 24,⟨.l 26,.eo 3 1 1 [.iV (0)] [(0,1,(.l 25))],none⟩,⟨.l 27,.append 3 1 8 (.l 19) (.l 26),none⟩,zw 3 27] (.region [zm 28 0,zm 29 0,zL 30 29,zc 31 .sub 30 9,⟨.l 32,.slice .str 1 (.l 28) none (some (.l 31)) none,none⟩,zw 0 32])))
def Ld:ao:=zR [⟨.p 1,.alloc 200 [.bool false,.ab],none⟩] (zR [zm 5 0,zL 6 5,zc 7 .gtr 6 0,zn 8 7,zg (zm 9 0) 8 true,⟨.l 10,.index (.l 9) (kI 0),some ((.l 8),true)⟩,⟨.l 11,.bin .eql (.l 10) (.c (.int .u8 (45))),some ((.l 8),true)⟩,zp 12 8 11,zw 2 12] (.seq (zR [zm 13 2] (.cond (.l 13) (.region [zm 14 0,⟨.l 15,.slice .str 1 (.l 14) (some (kI 1)) none none,none⟩,zw 0 15]) (.skip))) (zR [⟨.p 3,.mv (.c (.ab)),none⟩] (.seq (.block 0 (.loop tc)) (zR [zm 33 2,zm 34 3,zm 35 0,z1 36 232 35,⟨.l 37,.eo 3 1 1 [.iV (0)] [(0,1,(.l 36))],none⟩,⟨.l 38,.append 3 1 8 (.l 34) (.l 37),none⟩,z2 39 183 33 38,zs 2 1 39] (.ret))))))
theorem ZF:FT 178=some ⟨40,[0,2,3,4],[.cell 2 true (.p 1)],Ld⟩:=by kernel_rfl
def xH:ao:=.seq (zR [zm 5 3,zm 6 0,zL 7 6,zb 8 .lss 5 7] (.cond (.l 8) (.skip) (.exit 0))) (.seq (.block 1 (.region [zm 11 2,⟨.l 12,.bin .mul (kI 10) (.l 11),none⟩,zm 13 0,zm 14 3,⟨.l 15,.index (.l 13) (.l 14),none⟩,⟨.l 16,.im .i64 (.l 15),none⟩,zb 17 .add 12 16,zc 18 .sub 17 48,zw 2 18])) (.region [zm 9 3,zc 10 .add 9 1,zw 3 10]))
def Le:ao:=zR [zi 1 0] (zR [zi 2 0] (.seq (zR [zi 3 0] (.block 0 (.loop xH))) (zR [zm 19 2,zw 1 19] (.ret))))
theorem ZG:FT 232=some ⟨20,[0,2,3,4],[.var (.p 1)],Le⟩:=by kernel_rfl
def qI:ao:=.seq (zR [zm 8 0,zc 9 .neq 8 0] (.cond (.l 9) (.skip) (.exit 0))) (.block 1 (zR [zm 10 0,zc 11 .rem 10 1000000000,zw 4 11] (.seq (zR [zm 12 4,zc 13 .lss 12 0] (.cond (.l 13) (.region [zm 14 4,⟨.l 15,.bin .sub (kI 0) (.l 14),none⟩,zw 4 15]) (.skip))) (zR [zm 16 2,zm 17 4,⟨.l 18,.eo 3 1 1 [.iV (0)] [(0,1,(.l 17))],none⟩,⟨.l 19,.append 3 1 8 (.l 16) (.l 18),none⟩,zw 2 19] (.region [zm 20 0,zc 21 .quo 20 1000000000,zw 0 21])))))
def DL:ao:=zR [⟨.p 1,.alloc 200 [.bool false,.ab],none⟩] (zR [⟨.p 2,.mv (.c (.ab)),none⟩] (zR [zm 6 0,zc 7 .lss 6 0,zw 3 7] (.seq (.block 0 (.loop qI)) (zR [zm 22 3,zm 23 2,z2 24 183 22 23,zs 2 1 24] (.ret)))))
theorem ZH:FT 130=some ⟨25,[0,2,3,4,5],[.cell 2 true (.p 1)],DL⟩:=by kernel_rfl
def td:ao:=zR [⟨.p 2,.alloc 200 [.bool false,.ab],none⟩] (zR [zm 5 1,z1 6 236 5,zw 1 6] (zR [zm 7 0,zn 8 7,zg (zm 9 1) 8 true,zg (zl 10 9) 8 true,zg (zc 11 .gtr 10 0) 8 true,zp 12 8 11,zm 13 1,⟨.l 14,.build [.bool false,.ab] [(0,1,(.l 12)),(1,1,(.l 13))],none⟩,zs 2 2 14] (.ret)))
theorem xI:FT 183=some ⟨15,[0,1,4],[.cell 2 true (.p 2)],td⟩:=by kernel_rfl
def jR:ao:=.seq (zR [zm 3 0,zl 4 3,zc 5 .gtr 4 0,zn 6 5,zg (zm 7 0) 6 true,zg (zm 8 0) 6 true,zg (zl 9 8) 6 true,zg (zc 10 .sub 9 1) 6 true,zg (za 11 1 7 10) 6 true,zg (zd 12 1 11) 6 true,zg (zc 13 .eql 12 0) 6 true,zp 14 6 13] (.cond (.l 14) (.skip) (.exit 0))) (.block 1 (.region [zm 15 0,zm 16 0,zl 17 16,zc 18 .sub 17 1,⟨.l 19,.slice .sl 1 (.l 15) none (some (.l 18)) none,none⟩,zw 0 19]))
def tg:ao:=zR [⟨.p 1,.mv (.c (.ab)),none⟩] (.seq (.block 0 (.loop jR)) (zR [zm 20 0,zw 1 20] (.ret)))
theorem xJ:FT 236=some ⟨21,[0,2],[.var (.p 1)],tg⟩:=by kernel_rfl
def th:ao:=.seq (zR [zm 7 1,zl 8 7,zc 9 .gtr 8 0] (.cond (.l 9) (.skip) (.exit 0))) (.block 1 (zR [zm 11 0,zm 12 1,z2 13 224 11 12,zn 10 13,ze 14 0 10,ze 15 1 10,zn 5 14,zw 3 15] (.region [zm 16 1,zm 17 3,zw 0 16,zw 1 17])))
def DM:ao:=zR [⟨.p 2,.mv (.c (.ab)),none⟩] (.seq (.block 0 (.loop th)) (zR [zm 18 0,zw 2 18] (.ret)))
theorem Lf:FT 171=some ⟨19,[0,1,4,6],[.var (.p 2)],DM⟩:=by kernel_rfl
def xK:ao:=.seq (zR [zm 63 9,zl 64 63,zm 65 0,zl 66 65,zc 67 .add 66 1,zb 68 .lss 64 67] (.cond (.l 68) (.skip) (.exit 0))) (.block 1 (.region [zm 69 9,⟨.l 70,.eo 3 1 1 [.iV (0)] [(0,1,(kI 0))],none⟩,⟨.l 71,.append 3 1 8 (.l 69) (.l 70),none⟩,zw 9 71]))
def xL:ao:=.seq (zR [zm 90 14,zm 91 8,zb 92 .lss 90 91] (.cond (.l 92) (.skip) (.exit 4))) (.seq (.block 5 (zR [zm 95 12,zm 96 7,zm 97 14,za 98 1 96 97,zd 99 1 98,zb 100 .mul 95 99,zm 101 13,zb 102 .add 100 101,zw 15 102] (zR [zm 103 9,zm 104 14,zm 105 11,zb 106 .add 104 105,za 107 1 103 106,zd 108 1 107,zm 109 15,zc 110 .rem 109 1000000000,zb 111 .sub 108 110,zw 16 111] (zR [zm 112 15,zc 113 .quo 112 1000000000,zw 13 113] (.seq (zR [zm 114 16,zc 115 .lss 114 0] (.cond (.l 115) (zR [zm 116 16,zc 117 .add 116 1000000000,zw 16 117] (.region [zm 118 13,zc 119 .add 118 1,zw 13 119])) (.skip))) (.region [zm 120 9,zm 121 14,zm 122 11,zb 123 .add 121 122,zm 124 16,za 125 1 120 123,zS 1 125 124])))))) (.region [zm 93 14,zc 94 .add 93 1,zw 14 94]))
def xM:ao:=.seq (zR [zm 148 18,zm 149 8,zb 150 .lss 148 149] (.cond (.l 150) (.skip) (.exit 6))) (.seq (.block 7 (.seq (.draw [(zm 153 9,[]),(zm 154 18,[0]),(zm 155 11,[0,1]),(zb 156 .add 154 155,[0]),(za 157 1 153 156,[]),(zd 158 1 157,[]),(zm 159 7,[0,1,2,3,4,5]),(zm 160 18,[0,1,2,3,4,5,6]),(za 161 1 159 160,[0,1,2,3,4,5]),(zd 162 1 161,[0,1,2,3,4,5]),(zb 163 .add 158 162,[]),(zm 164 17,[0,1,2,3,4,5,6,7,8,9,10]),(zb 165 .add 163 164,[]),(zw 19 165,[])]) (zR [zm 166 9,zm 167 18,zm 168 11,zb 169 .add 167 168,zm 170 19,zc 171 .rem 170 1000000000,za 172 1 166 169,zS 1 172 171] (.region [zm 173 19,zc 174 .quo 173 1000000000,zw 17 174])))) (.region [zm 151 18,zc 152 .add 151 1,zw 18 152]))
def xN:ao:=.seq (zR [zm 82 11,zc 83 .geq 82 0] (.cond (.l 83) (.skip) (.exit 2))) (.seq (.block 3 (zR [zm 86 9,zm 87 7,zm 88 11,⟨.l 89,.call (kF 295) [(.l 86),(.l 87),(.l 88)],none⟩,zw 12 89] (zR [zi 13 0] (.seq (zR [zi 14 0] (.block 4 (.loop xL))) (zR [zm 126 9,zm 127 11,zm 128 8,zb 129 .add 127 128,zm 130 9,zm 131 11,zm 132 8,zb 133 .add 131 132,za 134 1 130 133,zd 135 1 134,zm 136 13,zb 137 .sub 135 136,za 138 1 126 129,zS 1 138 137] (.seq (zR [zm 139 9,zm 140 11,zm 141 8,zb 142 .add 140 141,za 143 1 139 142,zd 144 1 143,zc 145 .lss 144 0] (.cond (.l 145) (zR [zm 146 12,zc 147 .sub 146 1,zw 12 147] (zR [zi 17 0] (.seq (zR [zi 18 0] (.block 6 (.loop xM))) (.region [zm 175 9,zm 176 11,zm 177 8,zb 178 .add 176 177,zm 179 9,zm 180 11,zm 181 8,zb 182 .add 180 181,za 183 1 179 182,zd 184 1 183,zm 185 17,zb 186 .add 184 185,za 187 1 175 178,zS 1 187 186])))) (.skip))) (.region [zm 188 10,zm 189 11,zm 190 12,za 191 1 188 189,zS 1 191 190]))))))) (.region [zm 84 11,zc 85 .sub 84 1,zw 11 85]))
def DN:ao:=zR [⟨.p 2,.mv (.c (.ab)),none⟩,⟨.p 3,.mv (.c (.ab)),none⟩] (.seq (zR [zm 24 0,zm 25 1,z2 26 255 24 25,zc 27 .lss 26 0] (.cond (.l 27) (zR [zm 28 0,⟨.p 2,.mv (.c (.ab)),none⟩,zw 3 28] (.ret)) (.skip))) (.seq (zR [zm 29 1,zl 30 29,zc 31 .eql 30 1] (.cond (.l 31) (zR [zm 33 0,zm 34 1,⟨.l 35,.fy none 1 (.l 34) (kI 0),none⟩,zd 36 1 35,z2 37 294 33 36,zn 32 37,ze 38 0 32,ze 39 1 32,zw 4 38,zw 5 39] (zR [zm 40 4,zm 41 5,⟨.l 42,.eo 3 1 1 [.iV (0)] [(0,1,(.l 41))],none⟩,z1 43 236 42,zw 2 40,zw 3 43] (.ret))) (.skip))) (zR [zm 44 1,zm 45 1,zl 46 45,zc 47 .sub 46 1,za 48 1 44 47,zd 49 1 48,zc 50 .add 49 1,⟨.l 51,.bin .quo (kI 1000000000) (.l 50),none⟩,⟨.l 52,.eo 3 1 1 [.iV (0)] [(0,1,(.l 51))],none⟩,zw 6 52] (zR [zm 53 1,zm 54 6,z2 55 257 53 54,zw 7 55] (zR [zm 56 7,zl 57 56,zw 8 57] (zR [⟨.l 58,.eo 3 0 1 [.iV (0)] [],none⟩,zm 59 0,zm 60 6,z2 61 257 59 60,⟨.l 62,.append 3 1 8 (.l 58) (.l 61),none⟩,zw 9 62] (.seq (.block 0 (.loop xK)) (zR [zm 72 9,zl 73 72,zm 74 8,zb 75 .sub 73 74,⟨.l 76,.gS 3 1 8 [.iV (0)] (.l 75) (.l 75),none⟩,zw 10 76] (.seq (zR [zm 77 9,zl 78 77,zm 79 8,zb 80 .sub 78 79,zc 81 .sub 80 1,zw 11 81] (.block 2 (.loop xN))) (.seq (.draw [(zm 193 9,[]),(zm 194 8,[0]),(⟨.l 195,.slice .sl 1 (.l 193) none (some (.l 194)) none,none⟩,[]),(z1 196 236 195,[]),(zm 197 6,[0,1,2,3]),(⟨.l 198,.fy none 1 (.l 197) (kI 0),none⟩,[0,1,2,3]),(zd 199 1 198,[0,1,2,3]),(z2 200 294 196 199,[]),(zn 192 200,[]),(ze 201 0 192,[]),(ze 202 1 192,[9]),(zw 20 201,[10]),(zn 23 202,[])]) (zR [zm 203 10,z1 204 236 203,zm 205 20,zw 2 204,zw 3 205] (.ret))))))))))))
theorem Lg:FT 224=some ⟨206,[0,1,4,5,6,7,8,9,10,11,12,13,14,15,16,17,18,19,20,21,22],[.var (.p 2),.var (.p 3)],DN⟩:=by kernel_rfl
def qJ:ao:=.seq (zR [zm 19 3,zc 20 .geq 19 0] (.cond (.l 20) (.skip) (.exit 0))) (.seq (.block 1 (.seq (.seq (.draw [(zm 23 0,[]),(zm 24 3,[0]),(za 25 1 23 24,[]),(zd 26 1 25,[]),(zm 27 1,[0,1,2,3]),(zm 28 3,[0,1,2,3,4]),(za 29 1 27 28,[0,1,2,3]),(zd 30 1 29,[0,1,2,3]),(zb 31 .lss 26 30,[])]) (.cond (.l 31) (zR [zi 2 (-1)] (.ret)) (.skip))) (.seq (.draw [(zm 32 0,[]),(zm 33 3,[0]),(za 34 1 32 33,[]),(zd 35 1 34,[]),(zm 36 1,[0,1,2,3]),(zm 37 3,[0,1,2,3,4]),(za 38 1 36 37,[0,1,2,3]),(zd 39 1 38,[0,1,2,3]),(zb 40 .gtr 35 39,[])]) (.cond (.l 40) (zR [zi 2 1] (.ret)) (.skip))))) (.region [zm 21 3,zc 22 .sub 21 1,zw 3 22]))
def DO:ao:=zR [zi 2 0] (.seq (zR [zm 6 0,zl 7 6,zm 8 1,zl 9 8,zb 10 .neq 7 9] (.cond (.l 10) (.seq (zR [zm 11 0,zl 12 11,zm 13 1,zl 14 13,zb 15 .lss 12 14] (.cond (.l 15) (zR [zi 2 (-1)] (.ret)) (.skip))) (zR [zi 2 1] (.ret))) (.skip))) (.seq (zR [zm 16 0,zl 17 16,zc 18 .sub 17 1,zw 3 18] (.block 0 (.loop qJ))) (zR [zi 2 0] (.ret))))
theorem ZI:FT 255=some ⟨41,[0,1,4,5],[.var (.p 2)],DO⟩:=by kernel_rfl
def xO:ao:=.seq (zR [zm 22 6,zm 23 1,zl 24 23,zb 25 .lss 22 24] (.cond (.l 25) (.skip) (.exit 2))) (.seq (.block 3 (.seq (.draw [(zm 28 3,[]),(zm 29 4,[0]),(zm 30 6,[0,1]),(zb 31 .add 29 30,[0]),(za 32 1 28 31,[]),(zd 33 1 32,[]),(zm 34 0,[0,1,2,3,4,5]),(zm 35 4,[0,1,2,3,4,5,6]),(za 36 1 34 35,[0,1,2,3,4,5]),(zd 37 1 36,[0,1,2,3,4,5]),(zm 38 1,[0,1,2,3,4,5,6,7,8,9]),(zm 39 6,[0,1,2,3,4,5,6,7,8,9,10]),(za 40 1 38 39,[0,1,2,3,4,5,6,7,8,9]),(zd 41 1 40,[0,1,2,3,4,5,6,7,8,9]),(zb 42 .mul 37 41,[0,1,2,3,4,5]),(zb 43 .add 33 42,[]),(zm 44 5,[0,1,2,3,4,5,6,7,8,9,10,11,12,13,14,15]),(zb 45 .add 43 44,[]),(zw 7 45,[])]) (zR [zm 46 3,zm 47 4,zm 48 6,zb 49 .add 47 48,zm 50 7,zc 51 .rem 50 1000000000,za 52 1 46 49,zS 1 52 51] (.region [zm 53 7,zc 54 .quo 53 1000000000,zw 5 54])))) (.region [zm 26 6,zc 27 .add 26 1,zw 6 27]))
def xP:ao:=.seq (zR [zm 16 4,zm 17 0,zl 18 17,zb 19 .lss 16 18] (.cond (.l 19) (.skip) (.exit 0))) (.seq (.block 1 (zR [zi 5 0] (.seq (zR [zi 6 0] (.block 2 (.loop xO))) (.region [zm 55 3,zm 56 4,zm 57 1,zl 58 57,zb 59 .add 56 58,zm 60 3,zm 61 4,zm 62 1,zl 63 62,zb 64 .add 61 63,za 65 1 60 64,zd 66 1 65,zm 67 5,zb 68 .add 66 67,za 69 1 55 59,zS 1 69 68])))) (.region [zm 20 4,zc 21 .add 20 1,zw 4 21]))
def DP:ao:=zR [⟨.p 2,.mv (.c (.ab)),none⟩] (zR [zm 10 0,zl 11 10,zm 12 1,zl 13 12,zb 14 .add 11 13,⟨.l 15,.gS 3 1 8 [.iV (0)] (.l 14) (.l 14),none⟩,zw 3 15] (.seq (zR [zi 4 0] (.block 0 (.loop xP))) (zR [zm 70 3,z1 71 236 70,zw 2 71] (.ret))))
theorem Lh:FT 257=some ⟨72,[0,1,4,5,6,7,8,9],[.var (.p 2)],DP⟩:=by kernel_rfl
def xQ:ao:=.seq (zR [zm 16 6,zc 17 .geq 16 0] (.cond (.l 17) (.skip) (.exit 0))) (.seq (.block 1 (zR [zm 20 5,zc 21 .mul 20 1000000000,zm 22 0,zm 23 6,za 24 1 22 23,zd 25 1 24,zb 26 .add 21 25,zw 7 26] (zR [zm 27 4,zm 28 6,zm 29 7,zm 30 1,zb 31 .quo 29 30,za 32 1 27 28,zS 1 32 31] (.region [zm 33 7,zm 34 1,zb 35 .rem 33 34,zw 5 35])))) (.region [zm 18 6,zc 19 .sub 18 1,zw 6 19]))
def Li:ao:=zR [⟨.p 2,.mv (.c (.ab)),none⟩,zi 3 0] (zR [zm 10 0,zl 11 10,⟨.l 12,.gS 3 1 8 [.iV (0)] (.l 11) (.l 11),none⟩,zw 4 12] (zR [zi 5 0] (.seq (zR [zm 13 0,zl 14 13,zc 15 .sub 14 1,zw 6 15] (.block 0 (.loop xQ))) (zR [zm 36 4,z1 37 236 36,zm 38 5,zw 2 37,zw 3 38] (.ret)))))
theorem ZJ:FT 294=some ⟨39,[0,1,4,5,6,7,8,9],[.var (.p 2),.var (.p 3)],Li⟩:=by kernel_rfl
def ti:ao:=.seq (.seq (.draw [(zm 42 6,[]),(zc 43 .geq 42 1000000000,[]),(zn 44 43,[]),(zg (zm 45 6) 44 false,[]),(zg (zm 46 1) 44 false,[3]),(zg (zm 47 4) 44 false,[3,4]),(zg (zc 48 .sub 47 2) 44 false,[3,4]),(zg (za 49 1 46 48) 44 false,[3]),(zg (zd 50 1 49) 44 false,[3]),(zg (zb 51 .mul 45 50) 44 false,[]),(zg (zm 52 7) 44 false,[3,4,5,6,7,8,9]),(zg (zc 53 .mul 52 1000000000) 44 false,[3,4,5,6,7,8,9]),(zg (zm 54 0) 44 false,[3,4,5,6,7,8,9,10,11]),(zg (zm 55 2) 44 false,[3,4,5,6,7,8,9,10,11,12]),(zg (zm 56 4) 44 false,[3,4,5,6,7,8,9,10,11,12,13]),(zg (zb 57 .add 55 56) 44 false,[3,4,5,6,7,8,9,10,11,12]),(zg (zc 58 .sub 57 2) 44 false,[3,4,5,6,7,8,9,10,11,12]),(zg (za 59 1 54 58) 44 false,[3,4,5,6,7,8,9,10,11]),(zg (zd 60 1 59) 44 false,[3,4,5,6,7,8,9,10,11]),(zg (zb 61 .add 53 60) 44 false,[3,4,5,6,7,8,9]),(zg (zb 62 .gtr 51 61) 44 false,[]),(zP 63 44 62,[])]) (.cond (.l 63) (.skip) (.exit 0))) (.block 1 (zR [zm 64 6,zc 65 .sub 64 1,zw 6 65] (zR [zm 66 7,zm 67 1,zm 68 4,zc 69 .sub 68 1,za 70 1 67 69,zd 71 1 70,zb 72 .add 66 71,zw 7 72] (zR [zm 73 7,zc 74 .geq 73 1000000000] (.cond (.l 74) (zR [zm 75 6,zw 3 75] (.ret)) (.skip))))))
def Lj:ao:=zR [zi 3 0] (zR [zm 11 1,zl 12 11,zw 4 12] (.seq (.draw [(zm 13 0,[]),(zm 14 2,[0]),(zm 15 4,[0,1]),(zb 16 .add 14 15,[0]),(za 17 1 13 16,[]),(zd 18 1 17,[]),(zc 19 .mul 18 1000000000,[]),(zm 20 0,[0,1,2,3,4,5,6]),(zm 21 2,[0,1,2,3,4,5,6,7]),(zm 22 4,[0,1,2,3,4,5,6,7,8]),(zb 23 .add 21 22,[0,1,2,3,4,5,6,7]),(zc 24 .sub 23 1,[0,1,2,3,4,5,6,7]),(za 25 1 20 24,[0,1,2,3,4,5,6]),(zd 26 1 25,[0,1,2,3,4,5,6]),(zb 27 .add 19 26,[]),(zw 5 27,[])]) (.seq (.draw [(zm 28 5,[]),(zm 29 1,[0]),(zm 30 4,[0,1]),(zc 31 .sub 30 1,[0,1]),(za 32 1 29 31,[0]),(zd 33 1 32,[0]),(zb 34 .quo 28 33,[]),(zm 35 5,[0,1,2,3,4,5,6]),(zm 36 1,[0,1,2,3,4,5,6,7]),(zm 37 4,[0,1,2,3,4,5,6,7,8]),(zc 38 .sub 37 1,[0,1,2,3,4,5,6,7,8]),(za 39 1 36 38,[0,1,2,3,4,5,6,7]),(zd 40 1 39,[0,1,2,3,4,5,6,7]),(zb 41 .rem 35 40,[0,1,2,3,4,5,6]),(zw 6 34,[7,8,9,10,11,12,13]),(zw 7 41,[])]) (.seq (.block 0 (.loop ti)) (zR [zm 76 6,zw 3 76] (.ret))))))
theorem ZK:FT 295=some ⟨77,[0,1,2,6,7,8,9,10],[.var (.p 3)],Lj⟩:=by kernel_rfl
def Lk:ao:=zR [⟨.p 1,.mv (.c (.bool false)),none⟩] (zR [zm 3 0,z1 4 152 3,zm 5 0,zL 6 5,zb 7 .eql 4 6,zw 1 7] (.ret))
theorem ZL:FT 68=some ⟨8,[0,2],[.var (.p 1)],Lk⟩:=by kernel_rfl
def Ll:ao:=zR [zi 2 0] (.seq (zR [zm 5 1,zm 6 0,zl 7 6,zb 8 .lss 5 7] (.cond (.l 8) (zR [zm 9 0,zm 10 1,za 11 1 9 10,zd 12 1 11,zw 2 12] (.ret)) (.skip))) (zR [zi 2 0] (.ret)))
theorem ZM:FT 300=some ⟨13,[0,1,4],[.var (.p 2)],Ll⟩:=by kernel_rfl
theorem Lm {s:ax}{i:Nat}(h:i<s.length):s.drop i=s[i]! :: s.drop (i+1):=by
 rw[d8 h,getElem!_pos s i h]
def jS (s:ax):Bool:=(bQ 47 s).2.isSome
def cL (s:ax):Nat:=(bQ 47 s).1.length
theorem DQ (s:ax):cL s<=s.length:=sV 47 s
theorem ZN (hft:M.FT=FT)(s:ax)(hl:s.length<1000000):bg M 152 [.str s] [] ⟨.iV (cL s),[],[]⟩:=by
 refine bU (by rw[hft];exact ZC) am ?_;have loop:∀(r i:Nat) (lo:List (Nat×AV)) (wr:List Nat) {Q:Ex->aw->Prop} (a1:AV),i+r=s.length->i+cL (s.drop i)=cL s ->
  (cL s<s.length->∀lo wr,Q .ret ⟨⟨[.str s,.iV (cL s),.iV (cL s)],lo,[],[]⟩,wr⟩) ->
  (cL s=s.length->∀lo wr,Q (.exit 0) ⟨⟨[.str s,a1,.iV s.length],lo,[],[]⟩,wr⟩) ->
  W M (.loop sX) ⟨⟨[.str s,a1,.iV i],lo,[],[]⟩,wr⟩ Q:=by
  intro r;induction r with
  | zero=>
   intro i lo wr Q a1 hi he h1 h2;obtain rfl:i=s.length:=by omega
   rw[iQ]at he;have e0:cL ([]:ax)=0:=rfl;refine W.loop ?_;unfold sX;repeat' first|apply aaK|apply aa|apply aaI|apply aaC|apply acV|apply bh|apply bJ|(apply acj;rfl)|(apply acE;rfl;rfl)|(apply abx;rfl;rfl)|(intro _;omega)|intro _
   all_goals try omega
   all_goals exact h2 ac _ _
  | succ r ih=>
   intro i lo wr Q a1 hi he h1 h2;have hd:=Lm (s:=s) (i:=i) ac;refine W.loop ?_;by_cases h47:s[i]! = 47
   . have e1:cL (s.drop i)=0:=by rw[hd,h47];simp[cL,bQ]
     have e2:cL s=i:=by omega
     have e47:((s[((i:Int)).toNat]!).toNat:Int)=47:=by rw[show s[((i:Int)).toNat]! = s[i]! from rfl,h47];rfl
     rw[e2]at h1;unfold sX;repeat' first|apply aaK|apply aa|apply aaI|apply aaC|apply acu|apply abZ|apply acn|apply aP|apply bH|apply cz|(apply ack;rfl)|(apply acE;rfl;rfl)|(apply adw;rfl;rfl)|(apply aft;rfl;rfl;omega)|(apply abx;rfl;rfl)|(apply abO;rfl;rfl)|(intro _;omega)|intro _
     all_goals try omega
     all_goals exact h1 ac _ _
   . have e1:cL (s.drop i)=1+cL (s.drop (i+1)):=by
      rw[hd];simp only[cL,bQ,if_neg h47,bW];omega
     have e47:((s[((i:Int)).toNat]!).toNat:Int)≠47:=fun e=>h47 (c9.1 (by
                                                                                                  rw[show s[((i:Int)).toNat]! = s[i]! from rfl]at e;have:(47:UInt8).toNat=47:=rfl;omega))
     unfold sX;repeat' first|apply aaK|apply aa|apply aaI|apply aaC|apply acu|apply acn|apply bc|(apply ack;rfl)|(apply acj;rfl)|(apply acE;rfl;rfl)|(apply adw;rfl;rfl)|(apply adz;rfl;rfl;omega)|(apply aft;rfl;rfl;omega)|(apply abx;rfl;rfl)|(apply abO;rfl;rfl)|(intro _;omega)|intro _
     all_goals try omega
     all_goals exact fV (ih (i+1) _ _ _ ac ac h1 h2)
 unfold La;simp only[enter];repeat' first|apply aaK|apply aa|apply aaI|apply aaC|apply acu|(apply abO;rfl;rfl)
 refine loop s.length 0 _ _ _ ac am (fun h lo wr=>?_) (fun h lo wr=>?_)
 . repeat' first|apply aP|apply bH
   all_goals exact⟨.inr rfl,rfl,_,rfl,rfl,rfl⟩
 . rw[h];repeat' first|apply aaK|apply aa|apply aaI|apply aaC|apply abZ|apply bk|(apply abx;rfl;rfl)|(apply abO;rfl;rfl)
   all_goals exact⟨.inr rfl,rfl,_,rfl,rfl,rfl⟩
theorem ZO (hft:M.FT=FT)(s:ax)(hl:s.length<1000000):bg M 223 [.str s] [] ⟨.bool (s.all bS),[],[]⟩:=by
 refine bU (by rw[hft];exact ZE) am ?_;have loop:∀(r i:Nat) (lo:List (Nat×AV)) (wr:List Nat) {Q:Ex->aw->Prop} (a1:AV),i+r=s.length->s.all bS=(s.drop i).all bS ->
  (s.all bS=false->∀lo wr a2,Q .ret ⟨⟨[.str s,.bool false,a2],lo,[],[]⟩,wr⟩) ->
  (s.all bS=true->∀lo wr a2,Q (.exit 0) ⟨⟨[.str s,a1,a2],lo,[],[]⟩,wr⟩) ->
  W M (.loop sZ) ⟨⟨[.str s,a1,.iV i],lo,[],[]⟩,wr⟩ Q:=by
  intro r;induction r with
  | zero=>
   intro i lo wr Q a1 hi he h1 h2;obtain rfl:i=s.length:=by omega
   rw[iQ]at he;refine W.loop ?_;unfold sZ;repeat' first|apply aaK|apply aa|apply aaI|apply aaC|apply acV|apply bh|apply bJ|(apply acj;rfl)|(apply acE;rfl;rfl)|(apply abx;rfl;rfl)|(intro _;omega)|intro _
   all_goals try omega
   all_goals exact h2 he _ _ _
  | succ r ih=>
   intro i lo wr Q a1 hi he h1 h2;have hd:=Lm (s:=s) (i:=i) ac;rw[hd,dw]at he;have ei:s[((i:Int)).toNat]! = s[i]! := rfl;refine W.loop ?_;cases hb:bS s[i]! with
   | false=>
    rw[hb,cZ]at he;have hne:¬(48<=(s[i]!).toNat/\(s[i]!).toNat<58):=fun h=>by rw[(kR _).2 h]at hb;cases hb
    rw[←ei]at hne;unfold sZ;repeat' first|apply aaK|apply aa|apply aaI|apply aaC|apply acu|apply abZ|apply acn|apply aP|apply bH|apply cz|(apply ack;rfl)|(apply aew;rfl)|(apply afc;rfl)|(apply acE;rfl;rfl)|(apply acI;rfl;rfl)|(apply acJ;rfl;rfl)|(apply adt;rfl;rfl)|(apply aft;rfl;rfl;omega)|(apply abx;rfl;rfl)|(apply abO;rfl;rfl)|(intro _;omega)|intro _
    all_goals try omega
    all_goals exact h1 he _ _ _
   | true=>
    rw[hb,b9]at he;have hne:=(kR _).1 hb;rw[←ei]at hne;unfold sZ;repeat' first|apply aaK|apply aa|apply aaI|apply aaC|apply acu|apply acn|apply bc|(apply ack;rfl)|(apply acj;rfl)|(apply aew;rfl)|(apply acE;rfl;rfl)|(apply acI;rfl;rfl)|(apply adt;rfl;rfl)|(apply adz;rfl;rfl;omega)|(apply aft;rfl;rfl;omega)|(apply abx;rfl;rfl)|(apply abO;rfl;rfl)|(intro _;omega)|intro _
    all_goals try omega
    all_goals exact fV (ih (i+1) _ _ _ ac he h1 h2)
 unfold Lb;simp only[enter];repeat' first|apply aaK|apply aa|apply aaI|apply aaC|apply acu|(apply abO;rfl;rfl)
 refine loop s.length 0 _ _ _ ac am (fun h lo wr a2=>?_) (fun h lo wr a2=>?_)
 . rw[h];repeat' first|apply aP|apply bH
   all_goals exact⟨.inr rfl,rfl,_,rfl,rfl,rfl⟩
 . rw[h];repeat' first|apply aaK|apply aa|apply aaI|apply aaC|apply abZ|apply bk|(apply abO;rfl;rfl)
   all_goals exact⟨.inr rfl,rfl,_,rfl,rfl,rfl⟩
theorem ZP (hft:M.FT=FT)(s:ax)(hl:s.length<1000000)(q223:∀h,M.ext 223 [.str s] h=some ⟨.bool (s.all bS),h,[]⟩):bg M 169 [.str s] [] ⟨.bool (eA s),[],[]⟩:=by
 refine bU (by rw[hft];exact ZD) am ?_;by_cases h0:s=[]
 . subst h0;have hl0:([]:ax).length=0:=rfl;rw[show eA []=false from rfl];unfold sY;simp only[enter];repeat' first|apply aaK|apply aa|apply aaI|apply aaC|apply abZ|apply aP|(apply ack;rfl)|(apply afc;rfl)|(apply afs;rfl)|(apply adw;rfl;rfl)|(apply acJ;rfl;rfl)|(apply abx;rfl;rfl)|(apply abO;rfl;rfl)|(intro _;omega)|intro _
   all_goals try omega
   all_goals exact⟨.inr rfl,rfl,_,rfl,rfl,rfl⟩
 . have hpos:0<s.length:=ew.2 h0;have ei:s[(0:Int).toNat]! = s[0]! := rfl;have hdec:eA s=(s.all bS && (decide (s[0]! ≠ 48) || decide (s=[48]))):=by rw[eA,decide_eq_true h0,b9]
   by_cases h48:s[0]! = 48
   . have e48:((s[(0:Int).toNat]!).toNat:Int)=48:=by rw[ei,h48];rfl
     by_cases hl1:s.length=1
     . have hs:s=[48]:=by
        cases s with
        | nil=>exact absurd rfl h0
        | cons c t=>
         have:t=[]:=c6 (by simpa using hl1);subst this;have:c=48:=h48;rw[this]
       rw[hdec,decide_eq_true hs,Bool.or_true,gc];unfold sY;simp only[enter];repeat' first|apply aaK|apply aa|apply aaI|apply aaC|apply abZ|apply acn|(apply acj;rfl)|(apply aew;rfl)|(apply aeU;rfl)|(apply acI;rfl;rfl)|(apply adw;rfl;rfl)|(apply adt;rfl;rfl)|(apply acq;rfl;rfl;first|exact q223 _)|(apply abx;rfl;rfl)|(apply abO;rfl;rfl)|(intro _;omega)|intro _
       all_goals try omega
       all_goals exact⟨.inr rfl,rfl,_,rfl,rfl,rfl⟩
     . have hs:¬s=[48]:=fun e=>hl1 (by rw[e];rfl)
       rw[hdec,decide_eq_false hs,decide_eq_false (by simpa using h48),Bool.or_self,ne];unfold sY;simp only[enter];repeat' first|apply aaK|apply aa|apply aaI|apply aaC|apply abZ|apply aP|(apply ack;rfl)|(apply adx;rfl)|(apply aew;rfl)|(apply acI;rfl;rfl)|(apply adw;rfl;rfl)|(apply acJ;rfl;rfl)|(apply adt;rfl;rfl)|(apply aft;rfl;rfl;omega)|(apply abx;rfl;rfl)|(apply abO;rfl;rfl)|(intro _;omega)|intro _
       all_goals try omega
       all_goals exact⟨.inr rfl,rfl,_,rfl,rfl,rfl⟩
   . have e48:((s[(0:Int).toNat]!).toNat:Int)≠48:=fun e=>h48 (c9.1 (by rw[ei]at e;have:(48:UInt8).toNat=48:=rfl;omega))
     rw[hdec,decide_eq_true (show s[0]! ≠ 48 from h48),ki,gc];unfold sY;simp only[enter];repeat' first|apply aaK|apply aa|apply aaI|apply aaC|apply abZ|apply acn|(apply acj;rfl)|(apply adx;rfl)|(apply aew;rfl)|(apply aeU;rfl)|(apply acI;rfl;rfl)|(apply adw;rfl;rfl)|(apply acJ;rfl;rfl)|(apply adt;rfl;rfl)|(apply acq;rfl;rfl;first|exact q223 _)|(apply aft;rfl;rfl;omega)|(apply abx;rfl;rfl)|(apply abO;rfl;rfl)|(intro _;omega)|intro _
     all_goals try omega
     all_goals exact⟨.inr rfl,rfl,_,rfl,rfl,rfl⟩
theorem ZQ {s:ax}(h:s.all bS=true)(hl:s.length<=18)(i:Nat)(hi:i<=s.length):aM 0 (s.take i)<1000000000000000000:=by
 refine KF ?_ (by rw[b6];omega);rw[b7]at h ⊢;exact fun x hx=>h x (List.mem_of_mem_take hx)
theorem ZR (hft:M.FT=FT)(s:ax)(hl:s.length<=18)(hd:s.all bS=true):bg M 232 [.str s] [] ⟨.iV (aM 0 s:Nat),[],[]⟩:=by
 refine bU (by rw[hft];exact ZG) am ?_;have loop:∀(r i:Nat) (lo:List (Nat×AV)) (wr:List Nat) {Q:Ex->aw->Prop} (a1:AV),i+r=s.length ->
  (∀lo wr,Q (.exit 0) ⟨⟨[.str s,a1,.iV (aM 0 s:Nat),.iV s.length],lo,[],[]⟩,wr⟩) ->
  W M (.loop xH) ⟨⟨[.str s,a1,.iV (aM 0 (s.take i):Nat),.iV i],lo,[],[]⟩,wr⟩ Q:=by
  intro r;induction r with
  | zero=>
   intro i lo wr Q a1 hi hQ;obtain rfl:i=s.length:=by omega
   rw[List.take_length];refine W.loop ?_;unfold xH;repeat' first|apply aaK|apply aa|apply aaI|apply aaC|apply acV|apply bh|apply bJ|(apply acj;rfl)|(apply acE;rfl;rfl)|(apply abx;rfl;rfl)|(intro _;omega)|intro _
   all_goals try omega
   all_goals exact hQ _ _
  | succ r ih=>
   intro i lo wr Q a1 hi hQ;have vi:=ZQ hd hl (i+1) ac;have hb:=(kR _).1 ((b7.1 hd) s[i]! (by rw[getElem!_pos s i ac];exact c0 ac));have e1:aM 0 (s.take (i+1))=10*aM 0 (s.take i)+((s[i]!).toNat-48):=by
    rw[List.take_add_one,aR ac,Option.toList_some,oH,sE,getElem!_pos s i ac]
   have ei:s[((i:Int)).toNat]! = s[i]! := rfl;rw[←ei]at hb e1;have ih':=ih (i+1);generalize aM 0 (s.take (i+1))=m at *
   generalize aM 0 (s.take i)=n at *
   have e2:(m:Int)=10*n+((s[((i:Int)).toNat]!).toNat:Int)-48:=by omega
   rw[e2]at ih';refine W.loop ?_;unfold xH;repeat' first|apply aaK|apply aa|apply aaI|apply aaC|apply acu|apply acn|apply bc|(apply ack;rfl)|(apply acE;rfl;rfl)|(apply afP;rfl;omega)|(apply adz;rfl;rfl;omega)|(apply aeR;rfl;rfl;omega)|(apply afr;rfl;rfl;omega)|(apply aft;rfl;rfl;omega)|(apply abx;rfl;rfl)|(apply abO;rfl;rfl)|(intro _;omega)|intro _
   all_goals try omega
   all_goals exact fV (ih' _ _ _ ac hQ)
 unfold Le;simp only[enter];repeat' first|apply aaK|apply aa|apply aaI|apply aaC|apply acu|(apply abO;rfl;rfl)
 refine loop s.length 0 _ _ _ ac (fun lo wr=>?_);repeat' first|apply aaK|apply aa|apply aaI|apply aaC|apply abZ|apply bk|(apply abx;rfl;rfl)|(apply abO;rfl;rfl)
 all_goals exact⟨.inr rfl,rfl,_,rfl,rfl,rfl⟩
theorem ZS (hft:M.FT=FT)(s:ax)(q152:∀h,M.ext 152 [.str s] h=some ⟨.iV (cL s),h,[]⟩):bg M 68 [.str s] [] ⟨.bool (decide (cL s=s.length)),[],[]⟩:=by
 refine bU (by rw[hft];exact ZL) am ?_;unfold Lk;simp only[enter];by_cases h:cL s=s.length
 . rw[decide_eq_true h];repeat' first|apply aaK|apply aa|apply aaI|apply aaC|apply abZ|(apply adw;rfl;rfl)|(apply acq;rfl;rfl;first|exact q152 _)|(apply abx;rfl;rfl)|(apply abO;rfl;rfl)|(intro _;omega)|intro _
   all_goals try omega
   all_goals exact⟨.inr rfl,rfl,_,rfl,rfl,rfl⟩
 . rw[decide_eq_false h];repeat' first|apply aaK|apply aa|apply aaI|apply aaC|apply abZ|(apply adw;rfl;rfl)|(apply acq;rfl;rfl;first|exact q152 _)|(apply abx;rfl;rfl)|(apply abO;rfl;rfl)|(intro _;omega)|intro _
   all_goals try omega
   all_goals exact⟨.inr rfl,rfl,_,rfl,rfl,rfl⟩
variable {c1 c2:Option Nat}
abbrev iC (x:Int):List AV:=[.iV x]
abbrev aj (l:List Int):List AV:=arr iC l
abbrev dB:Int:=1000000000
theorem Ln {l:List Int}:(aj l).length=l.length:=by
 have:=pP (f:=iC) (esz:=1) (fun _=>rfl) l;simpa using this
theorem ZT {l:List Int}{m:Nat}(h:m<l.length):(aj l)[m]? = some (.iV l[m]!):=by
 induction l generalizing m with
 | nil=>simp at h
 | cons x l ih=>
  cases m with
  | zero=>rfl
  | succ m=>
   have e:(x::l)[m+1]! = l[m]! := by simp[bA]
   rw[e,←ih (by simpa using h)];rfl
section
variable {t b m:Nat} {x y:aS} {l:List bj} {pe:List AV} {lo:List (Nat×AV)} {hp:ae} {df wr:List Nat} {L:List Int} {e:TypeId} {v:Int} {Q:aw->Prop}
theorem agb (hx:(St.mk pe lo hp df).ah x=some (.ptr b m))(hb:hp.at b=some (.cells (aj L) e))(hi:m<L.length)
 (h:WO M l ⟨⟨pe,(t,.iV L[m]!)::lo,hp,df⟩,wr⟩ Q):WO M (⟨.l t,.load 1 false x,none⟩::l) ⟨⟨pe,lo,hp,df⟩,wr⟩ Q:=by
 refine WO.Hw (c:=aj L) (o:=m) (e:=e) (v:=.iV L[m]!) hx hb ?_ h;have h1:=ZT hi;have h2:m<(aj L).length:=by rw[Ln];exact hi
 rw[d8 h2];rw[aR h2]at h1;rw[jr.inj h1];rfl
theorem ZU {L:List Int}{m:Nat}{v:Int}(h:m<L.length):overwrite (aj L) m (iC v)=aj (L.set m v):=by
 induction L generalizing m with
 | nil=>simp at h
 | cons x L ih=>
  cases m with
  | zero=>simp[overwrite,arr]
  | succ m=>
   have:=ih (m:=m) (by simpa using h);simp only[List.set_cons_succ];have e1:aj (x::L) = .iV x::aj L:=rfl;have e2:aj (x::L.set m v) = .iV x::aj (L.set m v):=rfl;rw[e1,e2,←this];simp[overwrite]
theorem afW (hx:(St.mk pe lo hp df).ah x=some (.ptr b m))(hy:(St.mk pe lo hp df).ah y=some (.iV v))(hb:hp.at b=some (.cells (aj L) e))(hi:m<L.length)
 (h:WO M l ⟨⟨pe,lo,hp.put b (some (.cells (aj (L.set m v)) e)),df⟩,b::wr⟩ Q):WO M (⟨.no,.store 1 x y,none⟩::l) ⟨⟨pe,lo,hp,df⟩,wr⟩ Q:=
 afa (c:=aj L) (new:=iC v) hx (by rw[hy];rfl) hb ⟨rfl,by rw[Ln];omega,rfl⟩ (ZU hi) h
end
def du (hp:ae)(b:Nat)(e:TypeId)(P S X:List Int):ae:=hp.put b (some (.cells (aj (P++X++S)) e))
theorem Lo {hp:ae}{b:Nat}{e:TypeId}{P S X:List Int}:(du hp b e P S X).length=hp.length:=nT
section
variable {t bu bv m:Nat} {x y:aS} {l:List bj} {pe:List AV} {lo:List (Nat×AV)} {hp:ae} {df wr:List Nat} {P S X V Y:List Int} {e e':TypeId} {v:Int} {Q:aw->Prop}
theorem agm {i:Nat}(hx:(St.mk pe lo (du hp bu e P S X) df).ah x=some (.ptr bu m))(hl:bu<hp.length)(hi:i<X.length)(hm:m=P.length+i)
 (h:WO M l ⟨⟨pe,(t,.iV X[i]!)::lo,du hp bu e P S X,df⟩,wr⟩ Q):WO M (⟨.l t,.load 1 false x,none⟩::l) ⟨⟨pe,lo,du hp bu e P S X,df⟩,wr⟩ Q:=by
 subst hm;refine agb (L:=P++X++S) (e:=e) hx (by unfold du;exact di hl) (by simp;omega) ?_;rw[Cr hi];exact h
theorem agn {i:Nat}(hx:(St.mk pe lo (du hp bu e P S X) df).ah x=some (.ptr bu m))(hy:(St.mk pe lo (du hp bu e P S X) df).ah y=some (.iV v))(hl:bu<hp.length)(hi:i<X.length)(hm:m=P.length+i)
 (h:WO M l ⟨⟨pe,lo,du hp bu e P S (X.set i v),df⟩,bu::wr⟩ Q):WO M (⟨.no,.store 1 x y,none⟩::l) ⟨⟨pe,lo,du hp bu e P S X,df⟩,wr⟩ Q:=by
 subst hm;refine afW (L:=P++X++S) (e:=e) hx hy (by unfold du;exact di hl) (by simp;omega) ?_;rw[IK hi];have:ae.put (du hp bu e P S X) bu (some (.cells (aj (P++X.set i v++S)) e))=du hp bu e P S (X.set i v):=by unfold du;exact Hu
 rw[this];exact h
end
def gQ (v:AV)(hh:ae)(r:List Int):Prop:=∃v1,kK hh v v1/\v1.top=0/\cN v1 = .vs (aj r) r.length none
theorem DT (l:List Int):fe (aj l)=aj l:=AP (fun _=>rfl) l
theorem fJ (l:List Int):bG (aj l)=0:=pO (fun _=>rfl) l
theorem gQ.trim {b:Nat}{L:List Int}{e:TypeId}{hp:ae}{n:Nat}(hb:hp.at b=some (.cells (aj L) e))(hn:n<=L.length):gQ (bY b (aX (L.take n)) cap) (if (aT [bY b (aX (L.take n)) cap]).top<=0 then [] else hp) (L.take (aX (L.take n))):=by
 have hle:=iW (l:=L.take n);rw[b6]at hle;obtain⟨k,hk⟩:∃k,k=aX (L.take n):=⟨_,rfl⟩;rw[←hk]at hle ⊢;by_cases h0:0<k
 . have e1:bY b k cap = .sl b 0 k 1 cap:=if_pos h0;rw[e1,if_neg (by simp[aT,AV.top])];have hl:(L.take k).length=k:=by rw[b6];omega
   have hF:Fr hp [b] (.sl b 0 k 1 cap) (.vs (aj (L.take k)) k none):=by
    refine .sl (m:=aj (L.take k)) (j4.2 rfl) hb ?_ rfl (fun i x y hx hy=>?_) (.inr rfl)
    . have:=lJ (f:=iC) (esz:=1) (fun _=>rfl) (l:=L) (i:=0) (n:=k) ac;simpa using this
    . rw[hx]at hy;cases hy;exact .same (dg (fJ _) hx)
   unfold gQ;rw[hl];refine⟨_,⟨[b],hF,rfl,fun c l' e' hc hl'=>?_⟩,fJ _,by rw[cN,DT]⟩;rw[j4.1 hc,hb]at hl';cases hl';exact pN (fun _=>rfl) _
 . obtain rfl:k=0:=by omega
   exact⟨.vs [] 0 cap,.same rfl rfl,rfl,rfl⟩
def xS (M:az)(g:Nat)(ars:List AV)(z:Int):Prop:=∃r:List Int,(okW dB r/\aU r/\WV dB r=z)/\∃v hh,gQ v hh r/\bg M g ars [] ⟨v,hh,[]⟩
theorem DU {f N:Nat}{aV:List Nat}{res:List fK}{body:ao}{ars:List AV}{z:Int}(hft:M.FT f=some ⟨N,aV,res,body⟩)(hN:ars.length<=N)
 (h:W M body ⟨⟨aV.map (fun t=>(ars[t]?).getD cV),[],[],[]⟩,[]⟩ fun e s=>(e = .normal\/e = .ret)/\s.s.cF=[]/\∃vs,dU s.s res=some vs/\∃r:List Int,(okW dB r/\aU r/\WV dB r=z)/\gQ (aT vs) (if (aT vs).top<=0 then [] else s.s.hp) r):xS M f ars z:=by
 obtain⟨v,hh,⟨r,hr,ho⟩,h2⟩:=iL (P:=fun v hh=>∃r:List Int,(okW dB r/\aU r/\WV dB r=z)/\gQ v hh r) hft hN h;exact⟨r,hr,v,hh,ho,h2⟩
theorem oO {L:List Int}(ok:okW dB L):okW dB (L.take (aX L))/\aU (L.take (aX L))/\WV dB (L.take (aX L))=WV dB L:=⟨ee ok _,Cl,vF⟩
def cO (x:AV)(l:List Int):Prop:=x = .vs (aj l) l.length none\/(x = .ab/\l=[])
def jT (v:AV)(hh:ae)(q r:List Int):Prop:=∃v1 x y,fG hh v v1/\v1.top=0/\bR v1 = .ay [x,y]/\cO x q/\cO y r
theorem oT (l:List Int):da (aj l)=aj l:=AQ (fun _=>rfl) l
theorem DV {b:Nat}{L:List Int}{e:TypeId}{hp:ae}{n:Nat}(hb:hp.at b=some (.cells (aj L) e))(hn:n<=L.length)(hh:ae)(he:(bY b (aX (L.take n)) cap).top≠0->hh=hp) :
 ∃v1,fG hh (bY b (aX (L.take n)) cap) v1/\v1.top=0/\bR v1 = .vs (aj (L.take (aX (L.take n)))) (L.take (aX (L.take n))).length none:=by
 have hle:=iW (l:=L.take n);rw[b6]at hle;obtain⟨k,hk⟩:∃k,k=aX (L.take n):=⟨_,rfl⟩;rw[←hk]at hle he ⊢;by_cases h0:0<k
 . have e1:bY b k cap = .sl b 0 k 1 cap:=if_pos h0;rw[e1]at he ⊢;obtain rfl:=he (by simp[AV.top]);have hl:(L.take k).length=k:=by rw[b6];omega
   have hF:fG hh (.sl b 0 k 1 cap) (.vs (aj (L.take k)) k none):=by
    refine .sl (m:=aj (L.take k)) hb ?_ rfl (fun i x y hx hy=>?_)
    . have:=lJ (f:=iC) (esz:=1) (fun _=>rfl) (l:=L) (i:=0) (n:=k) ac;simpa using this
    . rw[hx]at hy;cases hy;exact .same (dg (fJ _) hx)
   rw[hl];exact⟨_,hF,fJ _,by rw[bR,oT]⟩
 . obtain rfl:k=0:=by omega
   exact⟨.vs [] 0 cap,.same rfl,rfl,rfl⟩
theorem jT.less {hh:ae}{l:List Int}:jT (aT [.ab,.vs (aj l) l.length cap]) hh [] l:=by
 have ht:(aT [.ab,.vs (aj l) l.length cap]).top=0:=by simp[aT,AV.top,bG,fJ l]
 refine⟨aT [.ab,.vs (aj l) l.length cap],.ab,.vs (aj l) l.length none,.same ht,ht,?_,.inr ⟨rfl,rfl⟩,.inl rfl⟩;simp only[aT,bR,da,oT l]
def Lp (M:az)(g:Nat)(ars:List AV)(x y:Int):Prop:=∃q r:List Int,(okW dB q/\aU q/\WV dB q=x/y)/\(okW dB r/\aU r/\WV dB r=x%y)/\∃v hh,jT v hh q r/\bg M g ars [] ⟨v,hh,[]⟩
theorem ZV {f N:Nat}{aV:List Nat}{res:List fK}{body:ao}{ars:List AV}{x y:Int}(hft:M.FT f=some ⟨N,aV,res,body⟩)(hN:ars.length<=N)
 (h:W M body ⟨⟨aV.map (fun t=>(ars[t]?).getD cV),[],[],[]⟩,[]⟩ fun e s=>(e = .normal\/e = .ret)/\s.s.cF=[]/\∃vs,dU s.s res=some vs/\∃q r:List Int,(okW dB q/\aU q/\WV dB q=x/y)/\(okW dB r/\aU r/\WV dB r=x%y)/\jT (aT vs) (if (aT vs).top<=0 then [] else s.s.hp) q r):Lp M f ars x y:=by
 obtain⟨v,hh,⟨q,r,hq,hr,ho⟩,h2⟩:=iL (P:=fun v hh=>∃q r:List Int,(okW dB q/\aU q/\WV dB q=x/y)/\(okW dB r/\aU r/\WV dB r=x%y)/\jT v hh q r) hft hN h;exact⟨q,r,hq,hr,v,hh,ho,h2⟩
theorem tj {b:Nat}:bY b 0 cap = .vs [] 0 cap:=if_neg ac
theorem Lr {b r:Nat}:bY b (r+1) cap = .sl b 0 (r+1) 1 cap:=if_pos ac
theorem ZW (hft:M.FT=FT){b n:Nat}{L:List Int}{e:TypeId}{hp:ae}(hb:hp.at b=some (.cells (aj L) e))(hn:n<=L.length)(hl:n<1000000000)(hc:∀c,cap=some c->n<=c) :
 bg M 236 [bY b n cap] hp ⟨bY b (aX (L.take n)) cap,hp,[]⟩:=by
 have hbl:=gZ hb;refine mI (by rw[hft];exact xJ) am (by unfold bY;split <;> simp[AV.top,bG];omega) ?_;have loop:∀(r:Nat) (lo:List (Nat×AV)) (a1:AV) {Q:Ex->aw->Prop},r<=n->aX (L.take r)=aX (L.take n)->(∀lo,Q (.exit 0) ⟨⟨[bY b (aX (L.take n)) cap,a1],lo,hp,[]⟩,[]⟩)->W M (.loop jR) ⟨⟨[bY b r cap,a1],lo,hp,[]⟩,[]⟩ Q:=by
  intro r;induction r with
  | zero=>
   intro lo a1 Q hr he hQ;have e0:aX (L.take n)=0:=by rw[←he];rfl
   rw[e0,tj]at hQ;rw[tj];refine W.loop ?_;unfold jR;repeat' first|apply aaK|apply aa|apply aaI|apply aaC|apply acV|apply bh|apply bJ|(apply acj;rfl)|(apply aeU;rfl)|(apply acI;rfl;rfl)|(apply adt;rfl;rfl)|(apply abx;rfl;rfl)|(intro _;omega)|intro _
   all_goals try omega
   all_goals exact hQ _
  | succ r ih=>
   intro lo a1 Q hr he hQ;have e:=ou (l:=L) (i:=r) ac;have ei:0+((((r+1:Nat):Int)-1).toNat)*1=r:=by omega
   have er:((r+1:Nat):Int)-1=r:=by omega
   rw[Lr];refine W.loop ?_;by_cases h0:L[r]! = 0
   . rw[if_pos h0]at e;unfold jR;repeat' first|(apply agb;exact congrArg (fun z=>some (AV.ptr b z)) ei;exact hb;omega)|(apply agh (k:=.i64) (r:=r);rfl;exact congrArg (fun z=>some (AV.iV z)) er;omega;(intro c hc';have:=hc c hc';omega))|apply aaK|apply aa|apply aaI|apply aaC|apply acu|apply acn|apply bc|(apply ack;rfl)|(apply adx;rfl)|(apply acI;rfl;rfl)|(apply adw;rfl;rfl)|(apply acJ;rfl;rfl)|(apply aeR;rfl;rfl;omega)|(apply afn;rfl;rfl;omega)|(apply abx;rfl;rfl)|(apply abO;rfl;rfl)|(intro _;omega)|intro _
     all_goals try omega
     all_goals exact fV (ih _ _ ac (e.symm.trans he) hQ)
   . rw[if_neg h0]at e;have e2:aX (L.take n)=r+1:=by rw[←he,e]
     rw[e2,Lr]at hQ;unfold jR;repeat' first|(apply agb;exact congrArg (fun z=>some (AV.ptr b z)) ei;exact hb;omega)|apply aaK|apply aa|apply aaI|apply aaC|apply acV|apply bh|apply bJ|(apply acj;rfl)|(apply adx;rfl)|(apply acI;rfl;rfl)|(apply adw;rfl;rfl)|(apply acJ;rfl;rfl)|(apply aeR;rfl;rfl;omega)|(apply afn;rfl;rfl;omega)|(apply abx;rfl;rfl)|(intro _;omega)|intro _
     all_goals try omega
     all_goals exact hQ _
 unfold tg;simp only[enter];repeat' first|apply aaK|apply aa|apply aaI|apply aaC|apply acu|(apply abO;rfl;rfl)
 refine loop n _ _ (aL _) rfl (fun lo=>?_);repeat' first|apply aaK|apply aa|apply aaI|apply aaC|apply abZ|apply bk|(apply abx;rfl;rfl)|(apply abO;rfl;rfl)
 exact⟨.inr rfl,rfl,⟨[],am⟩,am,_,rfl,rfl⟩
theorem oW (hft:M.FT=FT)(eH:∀ars h,M.ext 236 ars h=none){b n:Nat}{L:List Int}{e:TypeId}{hp:ae}(hb:hp.at b=some (.cells (aj L) e))(h0:0<n)(hn:n<=L.length)(hl:n<1000000000)(hc:∀c,cap=some c->n<=c) :
 CT M (ji 236) [.sl b 0 n 1 cap] hp ⟨bY b (aX (L.take n)) cap,hp,[]⟩:=by
 have h:=ZW (cap:=cap) hft hb hn hl hc;rw[show bY b n cap = .sl b 0 n 1 cap from if_pos h0]at h;exact CT.run (fi:=[]) (ca:=[]) (eH _ _) h
theorem Ls {b n:Nat}:bY b n cap = .sl b 0 n 1 cap\/bY b n cap = .vs [] 0 cap/\n=0:=by
 rcases gT n with rfl|h
 . exact .inr ⟨tj,rfl⟩
 . exact .inl (if_pos h)
theorem oZ {st:St}{i b:Nat}{x y:AV}{e:TypeId}(h1:st.pe[i]? = some (.ptr b 0))(h2:st.hp.at b=some (.cells [x,y] e)):dU st [.cell 2 true (.p i)]=some [.agg [x,y]]:=by
 simp only[dU,St.ah,h1,Option.bind_some,gB,h2,List.drop];rfl
theorem Lt (hft:M.FT=FT)(eH:∀ars h,M.ext 236 ars h=none){b n:Nat}{L:List Int}{e:TypeId}{hp:ae}(neg:Bool)(hb:hp.at b=some (.cells (aj L) e))(h0:0<n)(hn:n<=L.length)(hl:n<1000000000)(hc:∀c,cap=some c->n<=c) :
 bg M 183 [.bool neg,.sl b 0 n 1 cap] hp ⟨.agg [.bool (neg && decide (0<aX (L.take n))),bY b (aX (L.take n)) cap],hp,[]⟩:=by
 have hbl:=gZ hb;have q:=oW (cap:=cap) hft eH (hp:=hp++[some (.cells [.bool false,.ab] 200)]) (cW hb) h0 hn hl hc;have ht:aX (L.take n)<=n:=by have:=iW (l:=L.take n);rw[b6]at this;omega
 obtain⟨k,hk⟩:∃k,k=aX (L.take n):=⟨_,rfl⟩;rw[←hk]at q ht ⊢;refine mI (by rw[hft];exact xI) am (by rcases Ls (cap:=cap) (b:=b) (n:=k) with h|⟨h,_⟩ <;> rw[h] <;> simp[AV.top,bG] <;> omega) ?_;unfold td;simp only[enter];rcases Ls (cap:=cap) (b:=b) (n:=k) with h|⟨h,h1⟩
 . rw[h]at q ⊢;by_cases hk0:0<k
   . rw[decide_eq_true hk0,gc];cases neg;all_goals
     . repeat' first|(apply afu;rfl;rfl;exact⟨rfl,by first|exact aL _|decide|(simp[overwrite]),rfl⟩;rfl)|apply aaK|apply aa|apply aaI|apply aaC|apply abZ|(apply adx;rfl)|(apply aeU;rfl)|(apply acI;rfl;rfl)|(apply acJ;rfl;rfl)|(apply adt;rfl;rfl)|(apply afp;rfl;rfl;first|exact q)|(apply acv;rfl;rfl;rfl)|(apply abx;rfl;rfl)|(apply abO;rfl;rfl)|(intro _;omega)|intro _
       all_goals try omega
       all_goals exact⟨.inr rfl,rfl,⟨_,rfl⟩,am,_,oZ rfl cC,rfl⟩
   . exfalso;have:k=0:=by omega
     rw[this,tj]at h;cases h
 . rw[h]at q ⊢;subst h1;rw[decide_eq_false ac,ne];cases neg;all_goals
   . repeat' first|(apply afu;rfl;rfl;exact⟨rfl,by first|exact aL _|decide|(simp[overwrite]),rfl⟩;rfl)|apply aaK|apply aa|apply aaI|apply aaC|apply abZ|(apply adx;rfl)|(apply aeU;rfl)|(apply acI;rfl;rfl)|(apply acJ;rfl;rfl)|(apply adt;rfl;rfl)|(apply afp;rfl;rfl;first|exact q)|(apply acv;rfl;rfl;rfl)|(apply abx;rfl;rfl)|(apply abO;rfl;rfl)|(intro _;omega)|intro _
     all_goals try omega
     all_goals exact⟨.inr rfl,rfl,⟨_,rfl⟩,am,_,oZ rfl cC,rfl⟩
end Go.Ab.Ch5.N
