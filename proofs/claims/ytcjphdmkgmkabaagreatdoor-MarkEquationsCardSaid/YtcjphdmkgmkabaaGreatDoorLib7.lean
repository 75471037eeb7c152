import Derived.Test.YtcjphdmkgmkabaaGreatDoorLib6
open Bool renaming false_and→c9,true_and→it,and_eq_true→i9,not_false→j5
open Int renaming gcd→b6,toNat_natCast→ce,gcd_pos_of_ne_zero_right→c3,ediv_eq_of_eq_mul_right→c7,pow_succ→dN,toNat→d8,tmod_eq_emod_of_nonneg→f6,tdiv_eq_ediv_of_nonneg→f7,mul_tdiv_cancel_left→gF,gcd_zero_right→iy,emod_lt_of_pos→iz,lt_of_lt_of_le→i4,lt_of_le_of_lt→i5,mul_zero→i8,ediv_le_self→jU,emod_nonneg→j1,natAbs_tdiv→j4
open List renaming getElem!_eq_getElem?_getD→b7,length_pos_iff→b8,length_set→b9,range→ci,take_of_length_le→dO,length_range→dY,length_singleton→d6,take_length→d7,eq_nil_of_length_eq_zero→fG,length_append→f8,drop_eq_getElem_cons→f9,length_take→gT,mem_singleton→i7,length_drop→jD,length→j0
open Nat renaming lt_of_le_of_lt→c8,le_refl→d9,pow_le_pow_right→fm,gcd→fT,le_of_not_lt→g9,div_le_self→hZ,add_sub_cancel→i3,div_eq_of_lt→jq,zero_lt_one→j2
open Rat renaming divInt→b5,den_intCast→ii,num_intCast→ip,neg_divInt_neg→i6
open UInt8 renaming toNat_inj→j3
set_option maxHeartbeats 8000000
set_option maxRecDepth 20000
namespace Go.Ab.Ch1
open Go.Ab.aU
variable {M:aw} {cap c1 c2:Option Nat}
structure PJ (M:aw):Prop where
 ft:M.FT=FT
 kV:∀(a b:List Int),okW dB a->okW dB b->aN a->aN b->a.length<100000->b.length<100000->b≠[]->∃qv q rv r,cL qv q/\cL rv r/\okW dB r/\aN r/\WV dB q=WV dB a/WV dB b/\WV dB r=WV dB a%WV dB b/\∀h,M.ext 195 [.vs (an a) a.length none,.vs (an b) b.length none] h=some ⟨.au [qv,rv],h,[]⟩
theorem agF (C:PJ M)(a b:List Int)(oa:okW dB a)(ob:okW dB b)(na:aN a)(nb:aN b)(la:a.length<100000)(lb:b.length<100000) :
 ∃g,okW dB g/\aN g/\WV dB g=(b6 (WV dB a) (WV dB b):Nat)/\cQ M 155 [.vs (an a) a.length none,.vs (an b) b.length none] (.vs (an g) g.length none):=by
 obtain⟨v,hh,⟨g,og,ng,vg,ho⟩,hr⟩:=gO (M:=M) (f:=155) (ars:=[.vs (an a) a.length none,.vs (an b) b.length none]) (P:=fun v hh=>∃g,okW dB g/\aN g/\WV dB g=(b6 (WV dB a) (WV dB b):Nat)/\dZ v hh (.vs (an g) g.length none)) (by rw[C.ft];exact Pg) be (by
  unfold Gr;simp only[enter];repeat' first|refine gc ?_|fail
  refine W.gP (fun m st=>∃A B y a3 lo wr,st=⟨⟨[.vs (an A) A.length none,y,.ab,a3],lo,[],[]⟩,wr⟩/\cL y B/\m=(WV dB B).toNat/\okW dB A/\aN A/\A.length<100000/\okW dB B/\aN B/\B.length<100000/\b6 (WV dB A) (WV dB B)=b6 (WV dB a) (WV dB b))
   (fun m st ⟨A,B,y,a3,lo,wr,hst,hy,hm,oA,nA,lA,oB,nB,lB,hg⟩=>?_) (m:=(WV dB b).toNat) ⟨a,b,_,_,_,_,rfl,.inl rfl,rfl,oa,na,la,ob,nb,lb,rfl⟩
  subst hst;by_cases hB:B=[]
  . subst hB;have hl0:([]:List Int).length=0:=rfl;have fin:dZ (aW [.vs (an A) A.length none]) (if (aW [AV.vs (an A) A.length none]).top<=0 then [] else []) (.vs (an A) A.length none):=.same (fF A) (by rw[aW,bL,ql]);have hv:WV dB A=(b6 (WV dB a) (WV dB b):Nat):=by
     rw[←hg];have:=cB (b:=dB) am oA;show WV dB A=(b6 (WV dB A) 0:Nat);rw[iy];omega
    rcases hy with rfl|⟨rfl,_⟩;all_goals
    . unfold uM;exact gg1
  . obtain rfl:y = .vs (an B) B.length none:=hy.resolve_right fun h=>hB h.2
    have hBl:0<B.length:=bS;have hBp:=(jN (b:=dB) am oB nB).2 hB;have hA0:=cB (b:=dB) am oA;obtain⟨qv,q,rv,r,hq,hr,or_,nr,vq,vr,q195⟩:=C.kV A B oA oB nA nB lA lB hB;have r1:=iz (WV dB A) hBp;have r0:=j1 (WV dB A) (show WV dB B≠0 by omega);have lr:r.length<=B.length:=gk (b:=dB) am or_ nr (Int.lt_trans ac (dg am oB));have hg2:b6 (WV dB B) (WV dB r)=b6 (WV dB a) (WV dB b):=by
     rw[←hg,vr,EK]
    unfold uM;repeat' first|(apply aev;rfl;rfl)|refine gd0 ?_|refine gc ?_|(intro _;omega)|intro _
    all_goals try omega
    all_goals exact bW ⟨(WV dB r).toNat,ac,B,r,rv,_,_,_,rfl,hr,rfl,oB,nB,lB,or_,nr,ac,hg2⟩)
 exact⟨g,og,ng,vg,v,hh,ho,hr⟩
theorem PK {g:List Int}(og:okW dB g)(ng:aN g):WV dB g=1↔g=[1]:=by
 constructor
 . intro h;have h1:=gk (b:=dB) am og ng (n:=1) bS;match g,h1 with
   | [],_=>simp[WV]at h
   | [x],_=>simp[WV]at h;rw[h]
 . rintro rfl;rfl
def t62:ak:=
 .seq (
       zR [zm 37 3,
          zm 38 2,
          zL 39 38,
          zb 40 .lss 37 39,
          zn 41 40,
          zg (zm 42 2) 41 true,
          zg (zm 43 3) 41 true,
          zg (zc 44 .add 43 1) 41 true,
          ⟨(.l 45),.slice .str 1 (.l 42) (some (.l 44)) none none,some ((.l 41),true)⟩,
          zg (z1 46 154 45) 41 true,
          zg (zu 47 46) 41 true,
          zg (zn 48 47) 41 true,
          zg (zm 49 2) 48 false,
          zg (zm 50 3) 48 false,
          zg (zc 51 .add 50 1) 48 false,
          ⟨(.l 52),.slice .str 1 (.l 49) (some (.l 51)) none none,some ((.l 48),false)⟩,
          ⟨(.l 53),.bin .eql (.l 52) (.c (.str [48])),some ((.l 48),false)⟩,
          zg (zP 54 48 53) 41 true,
          zg (zn 55 54) 41 true,
          zg (zm 56 2) 55 false,
          zg (zm 57 3) 55 false,
          zg (zc 58 .add 57 1) 55 false,
          ⟨(.l 59),.slice .str 1 (.l 56) (some (.l 58)) none none,some ((.l 55),false)⟩,
          ⟨(.l 60),.bin .eql (.l 59) (.c (.str [49])),some ((.l 55),false)⟩,
          zg (zP 61 55 60) 41 true,
          zp 62 41 61]
        (
         .cond (.l 62)
         (
          zR [zi 1 1]
          (.ret))
         (.skip)))
       (
        .seq (zR [zm 63 3,
           zc 64 .gtr 63 600,
           zn 65 64,
           zg (zm 66 2) 65 false,
           zg (zL 67 66) 65 false,
           zg (zm 68 3) 65 false,
           zg (zb 69 .sub 67 68) 65 false,
           zg (zc 70 .sub 69 1) 65 false,
           zg (zc 71 .gtr 70 600) 65 false,
           zP 72 65 71]
         (
          .cond (.l 72)
          (
           zR [zi 1 4]
           (.ret))
          (.skip)))
        (
         .seq (zR [zm 73 3,
            zm 74 2,
            zL 75 74,
            zb 76 .lss 73 75]
          (
           .cond (.l 76)
           (
            zR [zm 78 2,
              z1 79 135 78,
              zn 77 79,
              ze 80 0 77,
              ze 81 1 77,
              ⟨(.p 4),.alloc 162 [.bool false,.ab],none⟩,
              ⟨(.p 5),.alloc 162 [.bool false,.ab],none⟩,
              zs 2 4 80,
              zs 2 5 81]
            (
             zR [zf 82 1 4,
               zd 83 1 82,
               zf 84 1 5,
               zd 85 1 84,
               z2 86 155 83 85,
               zw 6 86]
             (
              zR [zm 87 6,
                zl 88 87,
                zc 89 .neq 88 1,
                zn 90 89,
                zg (zm 91 6) 90 false,
                ⟨(.l 92),.dw none 1 (.l 91) (kI 0),some ((.l 90),false)⟩,
                zg (zd 93 1 92) 90 false,
                zg (zc 94 .neq 93 1) 90 false,
                zP 95 90 94]
              (
               .cond (.l 95)
               (
                zR [zi 1 1]
                (.ret))
               (.skip)))))
           (.skip)))
         (
          zR [zi 1 0]
          (.ret))))
structure GG (M:aw):Prop where
 ft:M.FT=FT
 uU:∀(s:ah) h,s.length<1000000->M.ext 153 [.str s] h=some ⟨.iV (cn s),h,[]⟩
 GH:∀(s:ah) h,s.length<1000000->M.ext 154 [.str s] h=some ⟨.bool (ee s),h,[]⟩
 mN:∀(s:ah),s.length<1000000->km s=true->(bK 47 s).1.all bJ=true->((bK 47 s).2.getD []).all bJ=true->∃v1 v2,jS v1 (aP 0 (bK 47 s).1:Nat)/\jS v2 (aP 0 ((bK 47 s).2.getD []):Nat)/\∀h,M.ext 135 [.str s] h=some ⟨.au [v1,v2],h,[]⟩
 qp:∀(a b:List Int),okW dB a->okW dB b->aN a->aN b->a.length<100000->b.length<100000->∃g,okW dB g/\aN g/\WV dB g=(b6 (WV dB a) (WV dB b):Nat)/\∀h,M.ext 155 [.vs (an a) a.length none,.vs (an b) b.length none] h=some ⟨.vs (an g) g.length none,h,[]⟩
theorem jS.pos {v:AV}{n:Nat}(h:jS v n):∃neg l,v = .agg [.bool neg,.vs (an l) l.length none]/\okW dB l/\aN l/\WV dB l=n:=by
 obtain⟨neg,l,rfl,ok,nr,hz,hn⟩:=h;refine⟨neg,l,rfl,ok,nr,?_⟩;cases neg with
 | false=>grind
 | true=>
  have:=(jN (b:=dB) am ok nr).2 (hn rfl);omega
theorem agG (C:GG M)(s u top bot:ah)(B:Bool)(lu:u.length<1000000)(htop:(bK 47 u).1=top)(hbot:(bK 47 u).2.getD []=bot)(hB:km u=B)(dt:top.all bJ=true)(a4 a5 a6:AV)(lo:List (Nat×AV))(wr:List Nat) :
 W M t62 ⟨⟨[.str s,.iV 0,.str u,.iV top.length,a4,a5,a6],lo,[],[]⟩,wr⟩ (Gg [.var (.p 1)] (if B=true/\(ee bot && decide (bot≠[48]) && decide (bot≠[49]))=false then 1 else if 600<top.length\/600<bot.length then 4 else if B=true/\gI (aP 0 top) (aP 0 bot)=true then 1 else 0)):=by
 have hs:cn u=top.length:=by rw[cn,htop]
 cases B with
 | false=>
  rw[if_neg be];have hn:(bK 47 u).2=none:=by unfold km at hB;cases h:(bK 47 u).2 with
    | none=>rfl
    | some y=>grind
  have hul:u.length=top.length:=by rw[←htop,(oh hn).1]
  have hb0:bot=[]:=by rw[←hbot,hn];rfl
  subst hb0;have hl0:([]:ah).length=0:=rfl;by_cases h6:600<top.length\/600<([]:ah).length
  . rw[if_pos h6];unfold t62;exact gg3
  . rw[if_neg h6,if_neg be];unfold t62;exact gg3
 | true=>
  obtain⟨e1,e2,hk⟩:=Py hB;rw[hs,hbot]at e2;have hul:u.length=top.length+1+bot.length:=by
   unfold km at hB;obtain⟨y,hy⟩:=Option.isSome_iff_exists.1 hB;have:=uy hy;rw[hy]at hbot;simp at hbot;rw[←htop,←hbot];exact this
  have e2':u.drop ((top.length:Int)+1).toNat=bot:=by rw[show ((top.length:Int)+1).toNat=top.length+1 by omega];exact e2
  have q154:=fun h=>C.GH bot h ac
  cases hC:ee bot with
  | false=>
   rw[if_pos ⟨rfl,rfl⟩];rw[hC]at q154;unfold t62;exact gg15
  | true=>
   rw[hC]at q154;by_cases h48:bot=[48]
   . rw[if_pos ⟨rfl,bS⟩];unfold t62;repeat' first|refine gd14 ?_|(apply agL;rfl;rfl;all_goals first|(intro h;exact absurd h48 h)|intro _)|(apply abd;rfl;rfl)|refine gd0 ?_|refine gc ?_|(intro _;omega)|intro _
     all_goals try omega
     all_goals exact jE (.inr rfl) rfl rfl rfl rfl
   . by_cases h49:bot=[49]
     . rw[if_pos ⟨rfl,bS⟩];unfold t62;repeat' first|refine gd14 ?_|(apply agL;rfl;rfl;all_goals first|(intro h;exact absurd h h48)|(intro h;exact absurd h49 h)|intro _)|(apply abd;rfl;rfl)|refine gd0 ?_|refine gc ?_|(intro _;omega)|intro _
       all_goals try omega
       all_goals exact jE (.inr rfl) rfl rfl rfl rfl
     . rw[if_neg bS];by_cases h6:600<top.length\/600<bot.length
       . rw[if_pos h6];unfold t62;repeat' first|refine gd14 ?_|(apply agL;rfl;rfl;all_goals first|(intro h;exact absurd h h48)|(intro h;exact absurd h h49)|intro _)|(apply abd;rfl;rfl)|(apply aev;rfl;rfl)|refine gd0 ?_|refine gc ?_|(intro _;omega)|intro _
         all_goals try omega
         all_goals exact jE (.inr rfl) rfl rfl rfl rfl
       . rw[if_neg h6];have dbt:=(uF hC).2;obtain⟨v1,v2,k1,k2,q135⟩:=C.mN u lu hB bS bS;rw[htop]at k1;rw[hbot]at k2;obtain⟨n1,l1,rfl,ok1,nr1,vl1⟩:=k1.pos;obtain⟨n2,l2,rfl,ok2,nr2,vl2⟩:=k2.pos;have len1:∀(t:ah) (l:List Int),t.all bJ=true->okW dB l->aN l->WV dB l=(aP 0 t:Nat)->t.length<=600->l.length<100000:=fun t l ht ok nr hv hl6=>by
          have h1:=nY t ht;have h2:l.length<=t.length:=gk (b:=dB) am ok nr (by
           rw[hv];have h3:(aP 0 t:Int)<(10:Int)^t.length:=by exact_mod_cast h1
           have h4:∀n:Nat,(10:Int)^n<=dB^n:=by
            intro n;induction n with
            | zero=>decide
            | succ n ih=>
             grind
           grind)
          omega
         obtain⟨g,og,ng,vg,q155⟩:=C.qp l1 l2 ok1 ok2 nr1 nr2 bS bS;rw[vl1,vl2]at vg;have hgn:(b6 (aP 0 top:Nat) (aP 0 bot:Nat))=fT (aP 0 top) (aP 0 bot):=rfl;rw[hgn]at vg;have h1d:=PK og ng;by_cases h1:g=[1]
         . have hc:gI (aP 0 top) (aP 0 bot)=false:=by
            have:=h1d.2 h1;rw[vg]at this;rw[gI,show fT (aP 0 top) (aP 0 bot)=1 by omega];rfl
           rw[if_neg bS];subst h1;have hl1:([1]:List Int).length=1:=rfl;unfold t62;repeat' first|refine gd14 ?_|(apply agL;rfl;rfl;all_goals first|(intro h;exact absurd h h48)|(intro h;exact absurd h h49)|intro _)|(apply aid (L:=[1]) (m:=0) (v:=1);rfl;rfl;exact j2;rfl)|(apply abd;rfl;rfl)|(apply aev;rfl;rfl)|(apply acr;rfl;rfl)|refine gd0 ?_|refine gc ?_|(intro _;omega)|intro _
           all_goals try omega
           all_goals exact jE (.inr rfl) rfl rfl rfl rfl
         . have hc:gI (aP 0 top) (aP 0 bot)=true:=by
            have:fT (aP 0 top) (aP 0 bot)≠1:=bS;rw[gI];simp[this]
           rw[if_pos ⟨rfl,hc⟩];by_cases hl1:g.length=1
           . obtain⟨x,rfl⟩:∃x,g=[x]:=by
              match g,hl1 with
              | [x],_=>simp
             have hx:x≠1:=bS;unfold t62;repeat' first|refine gd14 ?_|(apply agL;rfl;rfl;all_goals first|(intro h;exact absurd h h48)|(intro h;exact absurd h h49)|intro _)|(apply aid (L:=[x]) (m:=0) (v:=x);rfl;rfl;exact j2;rfl)|(apply abd;rfl;rfl)|(apply aev;rfl;rfl)|(apply acr;rfl;rfl)|refine gd0 ?_|refine gc ?_|(intro _;omega)|intro _
             all_goals try omega
             all_goals exact jE (.inr rfl) rfl rfl rfl rfl
           . unfold t62;repeat' first|refine gd14 ?_|(apply agL;rfl;rfl;all_goals first|(intro h;exact absurd h h48)|(intro h;exact absurd h h49)|intro _)|(apply abd;rfl;rfl)|(apply aev;rfl;rfl)|(apply acr;rfl;rfl)|refine gd0 ?_|refine gc ?_|(intro _;omega)|intro _
             all_goals try omega
             all_goals exact jE (.inr rfl) rfl rfl rfl rfl
theorem w62 (C:GG M)(s:ah)(hl:s.length<1000000):aV M 62 [.str s] [] ⟨.iV (gU s),[],[]⟩:=by
 have hcl:=rS 45 s;have q153:=fun h=>C.uU (bN 45 s) h ac
 have hsl:=uO (bN 45 s);have etk:(bN 45 s).take ((cn (bN 45 s):Nat):Int).toNat=cX s:=by
  show (bN 45 s).take (bK 47 (bN 45 s)).1.length=(bK 47 (bN 45 s)).1;cases h:(bK 47 (bN 45 s)).2 with
  | none=>rw[(oh h).1,d7]
  | some y=>exact FL h
 have htl:(cX s).length<=s.length:=bS;have q154:=fun h=>C.GH (cX s) h ac
 have hsT:cn (bN 45 s)=(cX s).length:=rfl;have tl:=fun dt=>agG C s (bN 45 s) (cX s) (dL s) (iM s) ac rfl rfl rfl dt
 rw[hsT]at q153 etk hsl;have hchk:gU s=if kS s=false then 1 else if 600<(cX s).length\/600<(dL s).length then 4 else if iM s=true/\gI (aP 0 (cX s)) (aP 0 (dL s))=true then 1 else 0:=rfl
 have hform:kS s=(ee (cX s) && !(preB 45 s && decide (cX s=[48])) && (!iM s || (ee (dL s) && decide (dL s≠[48]) && decide (dL s≠[49])))):=rfl;have dA:=fun h=>(uF (s:=cX s) h)
 have hhd:preB 45 s=true->s[0]! = 45:=fun h=>by
  have h:=of_decide_eq_true h;cases s with
  | nil=>simp at h
  | cons c t=>grind
 have hnhd:preB 45 s=false->s≠[]->s[0]! ≠ 45:=fun h h0 e=>by
  have h:=of_decide_eq_false h;cases s with
  | nil=>grind
  | cons c t=>grind
 have hne:cX s≠[]->s≠[]:=fun h e=>h (by rw[e];rfl)
 have hpc:=fun h=>uz (b:=45) (s:=s) h
 have hpn:=fun h=>kR (b:=45) (s:=s) h
 rw[hchk];clear hchk;generalize cX s=top at *
 generalize dL s=bot at *
 generalize iM s=B at *
 generalize bN 45 s=u at *
 have ei:s[(0:Int).toNat]! = s[0]! := rfl;refine bH (by rw[C.ft];exact afK) be ?_;unfold Pa;simp only[enter];cases hP:preB 45 s with
 | true=>
  rw[hP]at hform;have h45:=hhd hP;obtain⟨hc1,hc2⟩:=hpc hP;have hc1:s.drop (1:Int).toNat=u:=hc1;have e45:((s[(0:Int).toNat]!).toNat:Int)=45:=by rw[ei,h45];rfl
  cases hA:ee top with
  | false=>
   rw[hA]at q154 hform;simp only[c9]at hform;rw[hform,if_pos rfl];exact gg5
  | true=>
   rw[hA]at q154 hform;simp only[it]at hform;obtain⟨d1,d2⟩:=dA hA;have tl:=tl d2;by_cases hz:top=[48]
   . rw[decide_eq_true hz]at hform;simp only[Bool.not_true,c9]at hform;rw[hform,if_pos rfl];repeat' first|(apply aia (s:=s) (r:=u);rfl;rfl;omega;exact hc1)|refine gd20 ?_|(apply agL;rfl;rfl;all_goals first|(intro h;exact absurd hz h)|intro _)|(apply aev;rfl;rfl)|(apply aeJ;rfl;rfl)|refine gd0 ?_|refine gc ?_|(intro _;omega)|intro _
     all_goals try omega
     all_goals exact⟨.inr rfl,rfl,_,rfl,rfl,rfl⟩
   . rw[decide_eq_false hz]at hform;simp only[j5,it]at hform;have hres:(if B=true/\(ee bot && decide (bot≠[48]) && decide (bot≠[49]))=false then 1 else if 600<top.length\/600<bot.length then 4 else if B=true/\gI (aP 0 top) (aP 0 bot)=true then (1:Int) else 0)=(if kS s=false then 1 else if 600<top.length\/600<bot.length then 4 else if B=true/\gI (aP 0 top) (aP 0 bot)=true then 1 else 0):=by
      rw[hform];cases B with
      | false=>simp
      | true=>simp
     rw[hres]at tl;exact gg5
 | false=>
  rw[hP]at hform;obtain rfl:u=s:=hpn hP;simp only[c9,j5,Bool.and_true]at hform;by_cases h0:u=[]
  . have hA:ee top=false:=by
     cases h:ee top with
     | false=>rfl
     | true=>grind
    rw[hA]at q154 hform;simp only[c9]at hform;rw[hform,if_pos rfl];have hu0:u.length=0:=by rw[h0];rfl
    exact gg5
  . have hpos:0<u.length:=bS;have h45:=hnhd hP h0;have e45:((u[(0:Int).toNat]!).toNat:Int)≠45:=fun e=>h45 (j3.1 bS)
    cases hA:ee top with
    | false=>
     rw[hA]at q154 hform;simp only[c9]at hform;rw[hform,if_pos rfl];exact gg5
    | true=>
     rw[hA]at q154 hform;simp only[it]at hform;obtain⟨d1,d2⟩:=dA hA;have tl:=tl d2;have hres:(if B=true/\(ee bot && decide (bot≠[48]) && decide (bot≠[49]))=false then 1 else if 600<top.length\/600<bot.length then 4 else if B=true/\gI (aP 0 top) (aP 0 bot)=true then (1:Int) else 0)=(if kS u=false then 1 else if 600<top.length\/600<bot.length then 4 else if B=true/\gI (aP 0 top) (aP 0 bot)=true then 1 else 0):=by
      rw[hform];cases B with
      | false=>simp
      | true=>simp
     rw[hres]at tl;exact gg5
open Go.Proofs
variable {T:List (Nat×Spec)}
noncomputable def mc:Spec:=sK [] 153
noncomputable def GI:Spec:=sK [] 204
noncomputable def GJ:Spec:=sK [(204,GI)] 154
noncomputable def As:Spec:=sK [] 192
theorem rY:aT Tryz.prog gl 153 mc:=bh bA
theorem agI:aT Tryz.prog gl 204 GI:=bh bA
theorem agJ:aT Tryz.prog gl 154 GJ:=bh (aO agI bA)
theorem PL:aT Tryz.prog gl 192 As:=bh bA
theorem uW:∀(s:ah) h,s.length<1000000->mc [.str s] h=some ⟨.iV (cn s),h,[]⟩:=fun s h hl=>bO (afW bm s hl) rfl rfl rfl h
theorem agK:∀(s:ah) h,s.length<1000000->GJ [.str s] h=some ⟨.bool (ee s),h,[]⟩:=fun s h hl=>
 bO (afY (M:=aZ Tryz.prog FT [(204,GI)]) bm s hl fun h=>bO (afX bm s hl) rfl rfl rfl h) rfl rfl rfl h
theorem PM:∀(s:ah) h,s.length<=18->s.all bJ=true->As [.str s] h=some ⟨.iV (aP 0 s:Nat),h,[]⟩:=fun s h hl hd=>bO (aga bm s hl hd) rfl rfl rfl h
noncomputable def PN:List (Nat×Spec):=[(192,As)]
theorem cPa:Gy (aZ Tryz.prog FT PN) where
 ft:=bm
 dU:=fun _ _=>rfl
 uR:=fun _ _=>rfl
 qo:=fun s h hl hd=>PM s h hl hd
noncomputable def Au:Spec:=sK PN 193
theorem PO:aT Tryz.prog gl 193 Au:=bh (aO PL bA)
theorem Av:∀(s:ah),s.length<1000000->(bN 45 s).all bJ=true->∃v0,jS v0 (if preB 45 s then -(aP 0 (bN 45 s):Int) else (aP 0 (bN 45 s):Nat))/\∀h,Au [.str s] h=some ⟨v0,h,[]⟩:=fun s hl hd=>by
 obtain⟨v0,h1,h2⟩:=agi cPa s hl hd;exact⟨v0,h1,dm h2 rfl⟩
noncomputable def PQ:List (Nat×Spec):=[(153,mc),(193,Au)]
noncomputable def GK:Spec:=sK PQ 135
theorem agM:aT Tryz.prog gl 135 GK:=bh (aO rY (aO PO bA))
theorem GL {s:ah}(h:s.all bJ=true):preB 45 s=false/\bN 45 s=s:=by
 have hp:preB 45 s=false:=by
  cases s with
  | nil=>rfl
  | cons c t=>
   rw[List.all_cons,i9]at h;unfold preB;rw[decide_eq_false_iff_not];intro e;simp at e;rw[e]at h;exact absurd h.1 am
 exact⟨hp,kR hp⟩
theorem agN:∀(s:ah),s.length<1000000->km s=true->(bK 47 s).1.all bJ=true->((bK 47 s).2.getD []).all bJ=true->∃v1 v2,jS v1 (aP 0 (bK 47 s).1:Nat)/\jS v2 (aP 0 ((bK 47 s).2.getD []):Nat)/\∀h,GK [.str s] h=some ⟨.au [v1,v2],h,[]⟩:=fun s hl hb h1 h2=>by
 obtain⟨p1,c1⟩:=GL h1;obtain⟨p2,c2⟩:=GL h2;obtain⟨v1,k1,q1⟩:=Av (bK 47 s).1 (c8 (zQ 47 s) hl) (by rw[c1];exact h1);obtain⟨v2,k2,q2⟩:=Av ((bK 47 s).2.getD []) (c8 (Gf 47 s) hl) (by rw[c2];exact h2);rw[p1,c1,if_neg am]at k1;rw[p2,c2,if_neg am]at k2;exact⟨v1,v2,k1,k2,dm (Pz (M:=aZ Tryz.prog FT PQ) bm s hl hb (fun h=>uW s h hl) k1.uQ k2.uQ q1 q2) rfl⟩
theorem Aw {h:aa}(l:List Int){n:Nat}{c:Option Nat}:cK h (.vs (an l) n c) (.vs (an l) n c):=.nK (GC l)
noncomputable def Ax:Spec:=sL [] 218
noncomputable def PR:Spec:=sL [] 241
noncomputable def GM:Spec:=sL [] 197
noncomputable def PS:Spec:=sL [] 243
theorem PT:aT Tryz.prog gl 218 Ax:=jj bA
theorem agO:aT Tryz.prog gl 241 PR:=jj bA
theorem PU:aT Tryz.prog gl 197 GM:=jj bA
theorem agP:aT Tryz.prog gl 243 PS:=jj bA
noncomputable def Ay:List (Nat×Spec):=[(218,Ax),(197,GM),(241,PR),(243,PS)]
theorem agQ:cD Tryz.prog gl (bk Ay):=aO PT (aO PU (aO agO (aO agP bA)))
theorem PV:PG (aZ Tryz.prog FT Ay) where
 ft:=bm
 dU:=fun _ _=>rfl
 PF:=fun U V bu i k cu c2 e h T D p hb hV hi hU hK=>by
  obtain⟨q,h1,h2,h3,hr⟩:=ago (M:=aZ Tryz.prog FT []) (c1:=none) (c2:=c2) bm hV hi hU hK rfl rfl rfl rfl rfl;refine⟨q,h1,h2,h3,?_⟩;have hf:cK h (.sl bu 0 U.length 1 cu) (.vs (an U) U.length none):=by
   refine .sl (m:=an U) hb ?_ rfl (GC U).2;have:=ji (f:=iC) (esz:=1) (fun _=>rfl) (l:=U) (i:=0) (n:=U.length) ac;simpa using this
  exact rl hr rfl rfl rfl (.cons hf (.cons (Aw V) (.cons (.atom rfl) .nil)))
 uT:=fun a b c1 c2 h o1 o2 n1 n2 l1 l2=>rl (PA bm a b o1 o2 n1 n2 l1 l2) rfl rfl rfl (.cons (Aw a) (.cons (Aw b) .nil))
 rX:=fun x y a b c1 c2 h hx hy o1 o2 l1 l2 h0=>by
  obtain⟨r,⟨h1,h2,h3⟩,v,hh,⟨v1,f,t,k⟩,hr⟩:=PD (M:=aZ Tryz.prog FT []) (c1:=c1) (c2:=c2) bm (fun _ _=>rfl) a b o1 o2 l1 l2 h0;exact⟨r,h1,h2,h3,kL (.cons hx (.cons hy .nil)) ⟨v,hh,v1,hr,f,t,k⟩⟩
 GF:=fun x a c h d hx o l hd=>by
  obtain⟨q,⟨h1,h2,h3⟩,v,hh,⟨v1,f,t,k⟩,hr⟩:=agl (M:=aZ Tryz.prog FT []) (c1:=c) bm (fun _ _=>rfl) a o l d hd;exact⟨q,h1,h2,h3,kL (.cons hx (.cons (.atom rfl) .nil)) ⟨v,hh,v1,hr,f,t,k⟩⟩
noncomputable def rZ:Spec:=sK Ay 195
theorem PW:aT Tryz.prog gl 195 rZ:=bh agQ
theorem cCm:PJ (aZ Tryz.prog FT [(195,rZ)]) where
 ft:=bm
 kV:=fun a b o1 o2 n1 n2 l1 l2 hb=>by
  obtain⟨q,r,⟨h1,h2,h3⟩,⟨h4,h5,h6⟩,v,hh,⟨v1,x,y,f,t,k,i1,i2⟩,hr⟩:=PI (c1:=none) (c2:=none) PV a b o1 o2 n1 n2 l1 l2 hb;exact⟨x,q,y,r,i1,i2,h4,h5,h3,h6,fun h=>tx ⟨v,hh,v1,hr,f,eK (fF a) (fF b),t,k⟩⟩
noncomputable def Az:Spec:=sK [(195,rZ)] 155
theorem PX:aT Tryz.prog gl 155 Az:=bh (aO PW bA)
noncomputable def GN:List (Nat×Spec):=[(153,mc),(154,GJ),(135,GK),(155,Az)]
theorem agS:cD Tryz.prog gl (bk GN):=aO rY (aO agJ (aO agM (aO PX bA)))
theorem cCh:GG (aZ Tryz.prog FT GN) where
 ft:=bm
 uU:=fun s h hl=>uW s h hl
 GH:=fun s h hl=>agK s h hl
 mN:=fun s hl hb h1 h2=>agN s hl hb h1 h2
 qp:=fun a b o1 o2 n1 n2 l1 l2=>by
  obtain⟨g,h1,h2,h3,h4⟩:=agF cCm a b o1 o2 n1 n2 l1 l2;exact⟨g,h1,h2,h3,dm h4 (eK (fF a) (fF b))⟩
noncomputable def AA:Spec:=sK GN 62
theorem agU:aT Tryz.prog gl 62 AA:=bh agS
theorem k62:∀(s:ah) h,s.length<1000000->AA [.str s] h=some ⟨.iV (gU s),h,[]⟩:=fun s h hl=>bO (w62 cCh s hl) rfl rfl rfl h
set_option maxRecDepth 1000000
def GO:ak:=.seq (zR [zm 9 5,zm 10 0,zl 11 10,zb 12 .lss 9 11,zn 13 12,zg (zm 14 5) 13 false,zg (zm 15 1) 13 false,zg (zl 16 15) 13 false,zg (zb 17 .lss 14 16) 13 false,zP 18 13 17,zn 19 18,zg (zm 20 4) 19 false,zg (zc 21 .gtr 20 0) 19 false,zP 22 19 21] (.cond (.l 22) (.skip) (.exit 0))) (.seq (.block 1 (zR [zm 25 0,zm 26 5,z2 27 254 25 26,zm 28 1,zm 29 5,z2 30 254 28 29,zb 31 .add 27 30,zm 32 4,zb 33 .add 31 32,zw 6 33] (zR [zm 34 3,zm 35 6,zc 36 .rem 35 1000000000,⟨.l 37,.du 3 1 1 [.iV (0)] [(0,1,(.l 36))],none⟩,⟨.l 38,.append 3 1 8 (.l 34) (.l 37),none⟩,zw 3 38] (.region [zm 39 6,zc 40 .quo 39 1000000000,zw 4 40])))) (.region [zm 23 5,zc 24 .add 23 1,zw 5 24]))
def PY:ak:=zR [⟨.p 2,.mv (.c (.ab)),none⟩] (zR [⟨.p 3,.mv (.c (.ab)),none⟩] (zR [zi 4 0] (.seq (zR [zi 5 0] (.block 0 (.loop GO))) (zR [zm 41 3,zw 2 41] (.ret)))))
theorem agW:FT 206=some ⟨42,[0,1,4,5,6,7,8],[.var (.p 2)],PY⟩:=by kernel_rfl
def sc:ak:=.seq (zR [zm 9 5,zm 10 0,zl 11 10,zb 12 .lss 9 11] (.cond (.l 12) (.skip) (.exit 0))) (.seq (.block 1 (.seq (.draw [(zm 15 0,[]),(zm 16 5,[0]),(za 17 1 15 16,[]),(zd 18 1 17,[]),(zm 19 1,[0,1,2,3]),(zm 20 5,[0,1,2,3,4]),(z2 21 254 19 20,[0,1,2,3]),(zb 22 .sub 18 21,[]),(zm 23 4,[0,1,2,3,4,5,6,7]),(zb 24 .sub 22 23,[]),(zw 6 24,[])]) (zR [zi 4 0] (.seq (zR [zm 25 6,zc 26 .lss 25 0] (.cond (.l 26) (zR [zm 27 6,zc 28 .add 27 1000000000,zw 6 28] (.region [zi 4 1])) (.skip))) (.region [zm 29 3,zm 30 6,⟨.l 31,.du 3 1 1 [.iV (0)] [(0,1,(.l 30))],none⟩,⟨.l 32,.append 3 1 8 (.l 29) (.l 31),none⟩,zw 3 32]))))) (.region [zm 13 5,zc 14 .add 13 1,zw 5 14]))
def PZ:ak:=zR [⟨.p 2,.mv (.c (.ab)),none⟩] (zR [⟨.p 3,.mv (.c (.ab)),none⟩] (zR [zi 4 0] (.seq (zR [zi 5 0] (.block 0 (.loop sc))) (zR [zm 33 3,z1 34 242 33,zw 2 34] (.ret)))))
theorem agX:FT 219=some ⟨35,[0,1,4,5,6,7,8],[.var (.p 2)],PZ⟩:=by kernel_rfl
def Qa:ak:=zR [zx 2 162 2 0,zx 3 162 2 1,⟨.p 4,.alloc 162 [.bool false,.ab],none⟩] (.seq (zR [zf 5 0 2,zd 6 1 5,zf 7 0 3,zd 8 1 7,⟨.l 9,.eq false .bool (.l 6) (.l 8),none⟩] (.cond (.l 9) (.seq (.draw [(zf 10 0 2,[]),(zd 11 1 10,[]),(zf 12 1 2,[0,1]),(zd 13 1 12,[0,1]),(zf 14 1 3,[0,1,2,3]),(zd 15 1 14,[0,1,2,3]),(z2 16 206 13 15,[0,1]),(z2 17 196 11 16,[]),(zs 2 4 17,[])]) (.ret)) (.skip))) (.seq (zR [zf 18 1 2,zd 19 1 18,zf 20 1 3,zd 21 1 20,z2 22 218 19 21,zc 23 .geq 22 0] (.cond (.l 23) (.seq (.draw [(zf 24 0 2,[]),(zd 25 1 24,[]),(zf 26 1 2,[0,1]),(zd 27 1 26,[0,1]),(zf 28 1 3,[0,1,2,3]),(zd 29 1 28,[0,1,2,3]),(z2 30 219 27 29,[0,1]),(z2 31 196 25 30,[]),(zs 2 4 31,[])]) (.ret)) (.skip))) (.seq (.draw [(zf 32 0 3,[]),(zd 33 1 32,[]),(zf 34 1 3,[0,1]),(zd 35 1 34,[0,1]),(zf 36 1 2,[0,1,2,3]),(zd 37 1 36,[0,1,2,3]),(z2 38 219 35 37,[0,1]),(z2 39 196 33 38,[]),(zs 2 4 39,[])]) (.ret))))
theorem agY:FT 170=some ⟨40,[0,1,2,3,4],[.cell 2 true (.p 4)],Qa⟩:=by kernel_rfl
def Qb:ak:=zR [zx 1 162 2 0,⟨.p 2,.alloc 162 [.bool false,.ab],none⟩] (zR [zf 3 0 1,zd 4 1 3,zu 5 4,zf 6 1 1,zd 7 1 6,z2 8 196 5 7,zs 2 2 8] (.ret))
theorem agZ:FT 194=some ⟨9,[0,1,2],[.cell 2 true (.p 2)],Qb⟩:=by kernel_rfl
def Qc:ak:=zR [zx 2 162 2 0,zx 3 162 2 1,⟨.p 4,.alloc 162 [.bool false,.ab],none⟩] (.seq (.draw [(zf 5 0 2,[]),(zd 6 1 5,[]),(zf 7 0 3,[0,1]),(zd 8 1 7,[0,1]),(⟨.l 9,.eq true .bool (.l 6) (.l 8),none⟩,[]),(zf 10 1 2,[0,1,2,3,4]),(zd 11 1 10,[0,1,2,3,4]),(zf 12 1 3,[0,1,2,3,4,5,6]),(zd 13 1 12,[0,1,2,3,4,5,6]),(z2 14 197 11 13,[0,1,2,3,4]),(z2 15 196 9 14,[]),(zs 2 4 15,[])]) (.ret))
theorem aha:FT 137=some ⟨16,[0,1,2,3,4],[.cell 2 true (.p 4)],Qc⟩:=by kernel_rfl
def Qd:ak:=.seq (zR [zm 5 1,zc 6 .gtr 5 0] (.cond (.l 6) (.skip) (.exit 0))) (.block 1 (.draw [(zm 7 1,[]),(zm 8 0,[0]),(zm 9 1,[0,1]),(zb 10 .rem 8 9,[0]),(zw 0 7,[2,3]),(zw 1 10,[])]))
def Qe:ak:=zR [zi 2 0] (.seq (.block 0 (.loop Qd)) (zR [zm 11 0,zw 2 11] (.ret)))
theorem ahb:FT 158=some ⟨12,[0,1,4],[.var (.p 2)],Qe⟩:=by kernel_rfl
def GP:ak:=.seq (zR [zm 6 0,zc 7 .gtr 6 0,zn 8 7,zg (zm 9 3) 8 false,zg (zL 10 9) 8 false,zg (zm 11 1) 8 false,zg (zb 12 .lss 10 11) 8 false,zP 13 8 12] (.cond (.l 13) (.skip) (.exit 0))) (.block 1 (zR [zm 14 0,zc 15 .rem 14 10,zm 16 0,zc 17 .rem 16 10,zc 18 .add 17 1,⟨.l 19,.slice .str 1 (.c (.str zD9)) (some (.l 15)) (some (.l 18)) none,none⟩,zm 20 3,zb 21 .add 19 20,zw 3 21] (.region [zm 22 0,zc 23 .quo 22 10,zw 0 23])))
def Qf:ak:=zR [⟨.p 2,.mv (.c (.str [])),none⟩] (zR [⟨.p 3,.mv (.c (.str [])),none⟩] (.seq (.block 0 (.loop GP)) (zR [zm 24 3,zw 2 24] (.ret))))
theorem ahc:FT 117=some ⟨25,[0,1,4,5],[.var (.p 2)],Qf⟩:=by kernel_rfl
def AB:ak:=.seq (zR [zm 22 4,zc 23 .geq 22 0] (.cond (.l 23) (.skip) (.exit 0))) (.seq (.block 1 (.region [zm 26 3,zf 27 1 1,zd 28 1 27,zm 29 4,za 30 1 28 29,zd 31 1 30,⟨.l 32,.call (kF 117) [(.l 31),(kI 9)],none⟩,zb 33 .add 26 32,zw 3 33])) (.region [zm 24 4,zc 25 .sub 24 1,zw 4 25]))
def GR:ak:=zR [zx 1 162 2 0,⟨.p 2,.mv (.c (.str [])),none⟩] (.seq (zR [zf 5 1 1,zd 6 1 5,zl 7 6,zc 8 .eql 7 0] (.cond (.l 8) (zR [⟨.p 2,.mv (.c (.str [48])),none⟩] (.ret)) (.skip))) (zR [zf 9 1 1,zd 10 1 9,zf 11 1 1,zd 12 1 11,zl 13 12,zc 14 .sub 13 1,za 15 1 10 14,zd 16 1 15,⟨.l 17,.call (kF 117) [(.l 16),(kI 1)],none⟩,zw 3 17] (.seq (zR [zf 18 1 1,zd 19 1 18,zl 20 19,zc 21 .sub 20 2,zw 4 21] (.block 0 (.loop AB))) (.seq (zR [zf 34 0 1,zd 35 1 34] (.cond (.l 35) (zR [zm 36 3,⟨.l 37,.bin .add (.c (.str [45])) (.l 36),none⟩,zw 2 37] (.ret)) (.skip))) (zR [zm 38 3,zw 2 38] (.ret))))))
theorem Qg:FT 138=some ⟨39,[0,1,2,3,4],[.var (.p 2)],GR⟩:=by kernel_rfl
def t134:ak:=zR [zm 25 4,z1 26 153 25,zw 6 26] (.seq (zR [zm 27 6,zc 28 .gtr 27 9,zn 29 28,zg (zm 30 4) 29 false,zg (zL 31 30) 29 false,zg (zm 32 6) 29 false,zg (zb 33 .sub 31 32) 29 false,zg (zc 34 .gtr 33 10) 29 false,zP 35 29 34] (.cond (.l 35) (zR [zi 1 0,zi 2 0,⟨.p 3,.mv (.c (.bool false)),none⟩] (.ret)) (.skip))) (zR [zm 36 4,zm 37 6,⟨.l 38,.slice .str 1 (.l 36) none (some (.l 37)) none,none⟩,z1 39 192 38,zw 7 39,zi 8 1] (.seq (zR [zm 40 6,zm 41 4,zL 42 41,zb 43 .lss 40 42] (.cond (.l 43) (.region [zm 44 4,zm 45 6,zc 46 .add 45 1,⟨.l 47,.slice .str 1 (.l 44) (some (.l 46)) none none,none⟩,z1 48 192 47,zw 8 48]) (.skip))) (.seq (zR [zm 49 5] (.cond (.l 49) (.region [zm 50 7,⟨.l 51,.bin .sub (kI 0) (.l 50),none⟩,zw 7 51]) (.skip))) (zR [zm 52 7,zm 53 8,zw 1 52,zw 2 53,⟨.p 3,.mv (.c (.bool true)),none⟩] (.ret))))))
def AD:ak:=zR [zi 1 0,zi 2 0,⟨.p 3,.mv (.c (.bool false)),none⟩] (zR [zm 10 0,zw 4 10] (.seq (zR [zm 11 4,zL 12 11,zc 13 .gtr 12 20] (.cond (.l 13) (zR [zi 1 0,zi 2 0,⟨.p 3,.mv (.c (.bool false)),none⟩] (.ret)) (.skip))) (zR [zm 14 4,zL 15 14,zc 16 .gtr 15 0,zn 17 16,zg (zm 18 4) 17 true,⟨.l 19,.index (.l 18) (kI 0),some ((.l 17),true)⟩,⟨.l 20,.bin .eql (.l 19) (.c (.int .u8 (45))),some ((.l 17),true)⟩,zp 21 17 20,zw 5 21] (.seq (zR [zm 22 5] (.cond (.l 22) (.region [zm 23 4,⟨.l 24,.slice .str 1 (.l 23) (some (kI 1)) none none,none⟩,zw 4 24]) (.skip)))
      t134))))
theorem Qh:FT 134=some ⟨54,[0,2,3,4,5,6,7,8,9],[.var (.p 1),.var (.p 2),.var (.p 3)],AD⟩:=by kernel_rfl
def t136:ak:=zR [zf 17 1 2,zd 18 1 17,zf 19 1 3,zd 20 1 19,z2 21 155 18 20,zw 5 21] (zR [zf 23 1 2,zd 24 1 23,zm 25 5,z2 26 195 24 25,zn 22 26,ze 27 0 22,ze 28 1 22,zw 6 27,zn 7 28] (zR [zf 30 1 3,zd 31 1 30,zm 32 5,z2 33 195 31 32,zn 29 33,ze 34 0 29,ze 35 1 29,zw 7 34,zn 9 35] (zR [zf 36 0 2,zd 37 1 36,zm 38 6,z2 39 196 37 38,z1 40 138 39,zw 8 40] (.seq (zR [zm 41 7,zl 42 41,zc 43 .eql 42 1,zn 44 43,zg (zm 45 7) 44 true,⟨.l 46,.dw none 1 (.l 45) (kI 0),some ((.l 44),true)⟩,zg (zd 47 1 46) 44 true,zg (zc 48 .eql 47 1) 44 true,zp 49 44 48] (.cond (.l 49) (zR [zm 50 8,zw 4 50] (.ret)) (.skip))) (zR [zm 51 8,⟨.l 52,.bin .add (.l 51) (.c (.str [47])),none⟩,zm 53 7,⟨.l 54,.call (kF 196) [(.c (.bool false)),(.l 53)],none⟩,z1 55 138 54,zb 56 .add 52 55,zw 4 56] (.ret))))))
def GS:ak:=zR [zx 2 162 2 0,zx 3 162 2 1,⟨.p 4,.mv (.c (.str [])),none⟩] (.seq (zR [zf 11 0 3,zd 12 1 11] (.cond (.l 12) (.draw [(zt 13 2 2,[]),(z1 14 194 13,[]),(zt 15 2 3,[0,1]),(z1 16 194 15,[]),(zs 2 2 14,[]),(zs 2 3 16,[])]) (.skip)))
   t136)
theorem ahd:FT 136=some ⟨57,[0,1,2,3,4,5,6,8,10],[.var (.p 4)],GS⟩:=by kernel_rfl
def t78:ak:=zR [zm 32 0,zm 33 0,⟨.l 34,.bin .sub (kI 0) (.l 33),none⟩,⟨.l 35,.mm true [(.l 32),(.l 34)],none⟩,zm 36 1,z2 37 158 35 36,zw 3 37] (.seq (.draw [(zm 38 0,[]),(zm 39 3,[0]),(zb 40 .quo 38 39,[]),(zm 41 1,[0,1,2]),(zm 42 3,[0,1,2,3]),(zb 43 .quo 41 42,[0,1,2]),(zw 0 40,[3,4,5]),(zw 1 43,[])]) (zR [⟨.p 4,.mv (.c (.str [])),none⟩] (.seq (zR [zm 44 0,zc 45 .lss 44 0] (.cond (.l 45) (.region [⟨.p 4,.mv (.c (.str [45])),none⟩]) (.skip))) (zR [zm 46 4,zm 47 0,zm 48 0,⟨.l 49,.bin .sub (kI 0) (.l 48),none⟩,⟨.l 50,.mm true [(.l 47),(.l 49)],none⟩,⟨.l 51,.call (kF 117) [(.l 50),(kI 1)],none⟩,zb 52 .add 46 51,zw 4 52] (.seq (zR [zm 53 1,zc 54 .gtr 53 1] (.cond (.l 54) (.region [zm 55 4,⟨.l 56,.bin .add (.l 55) (.c (.str [47])),none⟩,zm 57 1,⟨.l 58,.call (kF 117) [(.l 57),(kI 1)],none⟩,zb 59 .add 56 58,zw 4 59]) (.skip))) (zR [zm 60 4,zw 2 60] (.ret)))))))
def GU:ak:=zR [⟨.p 2,.mv (.c (.str [])),none⟩] (.seq (zR [zm 7 0,zc 8 .lss 7 (-4000000000000000000),zn 9 8,zg (zm 10 0) 9 false,zg (zc 11 .gtr 10 4000000000000000000) 9 false,zP 12 9 11,zn 13 12,zg (zm 14 1) 13 false,zg (zc 15 .lss 14 (-4000000000000000000)) 13 false,zP 16 13 15,zn 17 16,zg (zm 18 1) 17 false,zg (zc 19 .gtr 18 4000000000000000000) 17 false,zP 20 17 19] (.cond (.l 20) (zR [zm 21 0,z1 22 139 21,zm 23 1,z1 24 139 23,z2 25 136 22 24,zw 2 25] (.ret)) (.skip))) (.seq (zR [zm 26 1,zc 27 .lss 26 0] (.cond (.l 27) (.region [zm 28 0,⟨.l 29,.bin .sub (kI 0) (.l 28),none⟩,zm 30 1,⟨.l 31,.bin .sub (kI 0) (.l 30),none⟩,zw 0 29,zw 1 31]) (.skip)))
 t78))
theorem ahe:FT 78=some ⟨61,[0,1,4,5,6],[.var (.p 2)],GU⟩:=by kernel_rfl
def Qi:ak:=zR [zi 1 0] (.seq (zR [zm 3 0,⟨.l 4,.bin .eql (.l 3) (.c (.str [48])),none⟩] (.cond (.l 4) (zR [zi 1 0] (.ret)) (.skip))) (.seq (zR [zm 5 0,zL 6 5,zc 7 .gtr 6 0,zn 8 7,zg (zm 9 0) 8 true,⟨.l 10,.index (.l 9) (kI 0),some ((.l 8),true)⟩,⟨.l 11,.bin .eql (.l 10) (.c (.int .u8 (45))),some ((.l 8),true)⟩,zp 12 8 11] (.cond (.l 12) (zR [zi 1 (-1)] (.ret)) (.skip))) (zR [zi 1 1] (.ret))))
theorem ahf:FT 140=some ⟨13,[0,2],[.var (.p 1)],Qi⟩:=by kernel_rfl
def Qj:ak:=zR [⟨.p 1,.mv (.c (.str [])),none⟩] (.seq (zR [zm 3 0,z1 4 140 3,zc 5 .lss 4 0] (.cond (.l 5) (zR [zm 6 0,⟨.l 7,.slice .str 1 (.l 6) (some (kI 1)) none none,none⟩,zw 1 7] (.ret)) (.skip))) (.seq (zR [zm 8 0,z1 9 140 8,zc 10 .eql 9 0] (.cond (.l 10) (zR [zm 11 0,zw 1 11] (.ret)) (.skip))) (zR [zm 12 0,⟨.l 13,.bin .add (.c (.str [45])) (.l 12),none⟩,zw 1 13] (.ret))))
theorem ahg:FT 141=some ⟨14,[0,2],[.var (.p 1)],Qj⟩:=by kernel_rfl
def GV:ak:=zR [⟨.p 2,.mv (.c (.str [])),none⟩] (zR [zm 16 0,z1 17 134 16,zn 15 17,ze 18 0 15,ze 19 1 15,ze 20 2 15,zw 3 18,zw 4 19,zw 5 20] (zR [zm 22 1,z1 23 134 22,zn 21 23,ze 24 0 21,ze 25 1 21,ze 26 2 21,zw 6 24,zw 7 25,zw 8 26] (.seq (zR [zm 27 5,zn 28 27,zg (zm 29 8) 28 true,zp 30 28 29] (.cond (.l 30) (zR [zm 31 3,zm 32 7,zb 33 .mul 31 32,zm 34 6,zm 35 4,zb 36 .mul 34 35,zb 37 .add 33 36,zm 38 4,zm 39 7,zb 40 .mul 38 39,z2 41 78 37 40,zw 2 41] (.ret)) (.skip))) (zR [zm 43 0,z1 44 135 43,zn 42 44,ze 45 0 42,ze 46 1 42,⟨.p 9,.alloc 162 [.bool false,.ab],none⟩,⟨.p 10,.alloc 162 [.bool false,.ab],none⟩,zs 2 9 45,zs 2 10 46] (zR [zm 48 1,z1 49 135 48,zn 47 49,ze 50 0 47,ze 51 1 47,⟨.p 11,.alloc 162 [.bool false,.ab],none⟩,⟨.p 12,.alloc 162 [.bool false,.ab],none⟩,zs 2 11 50,zs 2 12 51] (.seq (.draw [(zt 52 2 9,[]),(zt 53 2 12,[0]),(z2 54 137 52 53,[]),(zt 55 2 11,[0,1,2]),(zt 56 2 10,[0,1,2,3]),(z2 57 137 55 56,[]),(z2 58 170 54 57,[]),(zt 59 2 10,[0,1,2,3,4,5,6]),(zt 60 2 12,[0,1,2,3,4,5,6,7]),(z2 61 137 59 60,[]),(z2 62 136 58 61,[]),(zw 2 62,[])]) (.ret)))))))
theorem ahh:FT 90=some ⟨63,[0,1,4,5,6,7,8,9,10,11,12,13,14],[.var (.p 2)],GV⟩:=by kernel_rfl
def Qk:ak:=zR [⟨.p 2,.mv (.c (.str [])),none⟩] (zR [zm 5 0,zm 6 1,z1 7 141 6,z2 8 90 5 7,zw 2 8] (.ret))
theorem ahi:FT 57=some ⟨9,[0,1,4],[.var (.p 2)],Qk⟩:=by kernel_rfl
def GW:ak:=zR [⟨.p 2,.mv (.c (.str [])),none⟩] (zR [zm 16 0,z1 17 134 16,zn 15 17,ze 18 0 15,ze 19 1 15,ze 20 2 15,zw 3 18,zw 4 19,zw 5 20] (zR [zm 22 1,z1 23 134 22,zn 21 23,ze 24 0 21,ze 25 1 21,ze 26 2 21,zw 6 24,zw 7 25,zw 8 26] (.seq (zR [zm 27 5,zn 28 27,zg (zm 29 8) 28 true,zp 30 28 29] (.cond (.l 30) (zR [zm 31 3,zm 32 6,zb 33 .mul 31 32,zm 34 4,zm 35 7,zb 36 .mul 34 35,z2 37 78 33 36,zw 2 37] (.ret)) (.skip))) (zR [zm 39 0,z1 40 135 39,zn 38 40,ze 41 0 38,ze 42 1 38,⟨.p 9,.alloc 162 [.bool false,.ab],none⟩,⟨.p 10,.alloc 162 [.bool false,.ab],none⟩,zs 2 9 41,zs 2 10 42] (zR [zm 44 1,z1 45 135 44,zn 43 45,ze 46 0 43,ze 47 1 43,⟨.p 11,.alloc 162 [.bool false,.ab],none⟩,⟨.p 12,.alloc 162 [.bool false,.ab],none⟩,zs 2 11 46,zs 2 12 47] (.seq (.draw [(zt 48 2 9,[]),(zt 49 2 11,[0]),(z2 50 137 48 49,[]),(zt 51 2 10,[0,1,2]),(zt 52 2 12,[0,1,2,3]),(z2 53 137 51 52,[]),(z2 54 136 50 53,[]),(zw 2 54,[])]) (.ret)))))))
theorem ahj:FT 53=some ⟨55,[0,1,4,5,6,7,8,9,10,11,12,13,14],[.var (.p 2)],GW⟩:=by kernel_rfl
def Ql:ak:=zR [⟨.p 1,.mv (.c (.str [])),none⟩] (zR [zm 6 0,z1 7 135 6,zn 5 7,ze 8 0 5,ze 9 1 5,⟨.p 2,.alloc 162 [.bool false,.ab],none⟩,⟨.p 3,.alloc 162 [.bool false,.ab],none⟩,zs 2 2 8,zs 2 3 9] (zR [zt 10 2 3,zt 11 2 2,z2 12 136 10 11,zw 1 12] (.ret)))
theorem ahk:FT 133=some ⟨13,[0,2,3,4],[.var (.p 1)],Ql⟩:=by kernel_rfl
theorem GX {y:List Int}(ok:okW dB y)(i:Nat):0<=gm y i/\gm y i<1000000000:=by
 unfold gm;split
 . rename_i h;exact cg ok h
 simp
theorem ahl (hft:M.FT=FT)(a:List Int)(i:Int)(hi:0<=i):aV M 254 [.vs (an a) a.length c1,.iV i] [] ⟨.iV (gm a i.toNat),[],[]⟩:=by
 refine bH (by rw[hft];exact afV) be ?_;unfold gm;unfold Po;simp only[enter];by_cases h:i.toNat<a.length
 . rw[if_pos h];exact gg0
 . rw[if_neg h];exact gg0
theorem GY (hft:M.FT=FT)(K:aa):aV M 242 [.ab] K ⟨.ab,K,[]⟩:=by
 refine mA (by rw[hft];exact Ai) be (by simp[AV.top]) ?_;unfold uL;simp only[enter];repeat' first|refine gc ?_|fail
 refine W.loop ?_;unfold kl;exact gg1
def Qm (M:aw)(g:Nat)(ars:List AV)(n:Nat)(z:Int):Prop:=∃r:List Int,(okW dB r/\WV dB r=z/\r.length<=n)/\∃v hh,ie v hh r/\aV M g ars [] ⟨v,hh,[]⟩
theorem ahm {f N n:Nat}{aR:List Nat}{res:List fA}{body:ak}{ars:List AV}{z:Int}(hft:M.FT f=some ⟨N,aR,res,body⟩)(hN:ars.length<=N)
 (h:W M body ⟨⟨aR.map (fun t=>(ars[t]?).getD bD),[],[],[]⟩,[]⟩ fun e s=>(e = .normal\/e = .ret)/\s.s.bV=[]/\∃vs,dx s.s res=some vs/\∃r:List Int,(okW dB r/\WV dB r=z/\r.length<=n)/\ie (aW vs) (if (aW vs).top<=0 then [] else s.s.hp) r):Qm M f ars n z:=by
 obtain⟨v,hh,⟨r,hr,ho⟩,h2⟩:=gO (P:=fun v hh=>∃r:List Int,(okW dB r/\WV dB r=z/\r.length<=n)/\ie v hh r) hft hN h;exact⟨r,hr,v,hh,ho,h2⟩
theorem ie.Ix {K:aa}{o:AV}{acc:List Int}{S:List Nat}(h:bj iC 1 3 K o acc S):ie (aW [o]) (if (aW [o]).top<=0 then [] else K) acc:=
 ⟨.vs (an acc) acc.length none,h.WT (fun _=>rfl) (fun _=>rfl) (fun _=>rfl),fF acc,by rw[cf,Gv]⟩
section
variable {t:Nat} {x y:ay} {l:List aX} {pe:List AV} {lo:List (Nat×AV)} {hp:aa} {df wr:List Nat} {v a d:Int} {Q:aq->Prop}
theorem amX (hx:(St.mk pe lo hp df).ae x=some (.iV a))(hy:(St.mk pe lo hp df).ae y=some (.iV d))(ha:0<=a/\a<9223372036854775808)(hd:0<d)(hv:a/d=v)
 (h:WO M l ⟨⟨pe,(t,.iV v)::lo,hp,df⟩,wr⟩ Q):WO M (⟨.l t,.bin .quo x y,none⟩::l) ⟨⟨pe,lo,hp,df⟩,wr⟩ Q:=alS hx hy ha hd (by rw[hv];exact h)
theorem amY (hx:(St.mk pe lo hp df).ae x=some (.iV a))(hy:(St.mk pe lo hp df).ae y=some (.iV d))(ha:0<=a)(hd:0<d)(hv:a%d=v)
 (h:WO M l ⟨⟨pe,(t,.iV v)::lo,hp,df⟩,wr⟩ Q):WO M (⟨.l t,.bin .rem x y,none⟩::l) ⟨⟨pe,lo,hp,df⟩,wr⟩ Q:=amb hx hy ha hd (by rw[hv];exact h)
end
structure GZ (M:aw):Prop where
 ft:M.FT=FT
 AE:∀(a:List Int) c (i:Int) h,0<=i->M.ext 254 [.vs (an a) a.length c,.iV i] h=some ⟨.iV (gm a i.toNat),h,[]⟩
 dU:∀ars h,M.ext 242 ars h=none
theorem ahn (C:GZ M)(a b:List Int)(oa:okW dB a)(ob:okW dB b)(la:a.length<1000000)(lb:b.length<1000000):Qm M 206 [.vs (an a) a.length c1,.vs (an b) b.length c2] (a.length+b.length+1) (WV dB a+WV dB b):=by
 refine ahm (by rw[C.ft];exact agW) be ?_;unfold PY;simp only[enter];repeat' first|refine gc ?_|fail
 obtain⟨n,hn⟩:∃n:Nat,a.length<=n/\b.length<=n/\n<=a.length+b.length/\(n=a.length\/n=b.length):=⟨max a.length b.length,ac,ac,ac,ac⟩;refine W.gP (fun m st=>∃i acc o c a6 K lo wr,st=⟨⟨[.vs (an a) a.length c1,.vs (an b) b.length c2,.ab,o,.iV c,.iV (i:Nat),a6],lo,K,[]⟩,wr⟩/\m=n+1-i/\i<=n+1/\(i=n+1->c=0)/\(0<=c/\c<=1)/\okW dB acc/\acc.length=i/\bj iC 1 3 K o acc []/\WV dB acc+dB^i*c=WV dB (a.take i)+WV dB (b.take i))
  (fun m st ⟨i,acc,o,c,a6,K,lo,wr,hst,hm,hi,hic,hc,oA,lA,ho,hv⟩=>?_) (m:=n+1) ⟨0,[],.ab,0,_,_,_,_,rfl,rfl,ac,fun _=>rfl,⟨am,am⟩,jf,rfl,.jL,by rfl⟩
 subst hst;by_cases hend:i<a.length\/i<b.length\/0<c
 . have ga:=GX oa i;have gb:=GX ob i;have ta:=tI (B:=dB) (y:=a) (i:=i);have tb:=tI (B:=dB) (y:=b) (i:=i);have q1:=fun h=>C.AE a c1 i h ac
   have q2:=fun h=>C.AE b c2 i h ac
   rw[ce]at q1 q2;have za:a.length<=i->gm a i=0:=fun h=>if_neg ac
   have zb:b.length<=i->gm b i=0:=fun h=>if_neg ac
   generalize gm a i=x at *
   generalize gm b i=y at *
   have hi2:i<=n:=by
    rcases Nat.lt_or_ge n i with h|h
    . omega
    . exact h
   obtain⟨R,hR⟩:∃R,R=(x+y+c)%1000000000:=⟨_,rfl⟩;obtain⟨D,hD⟩:∃D,D=(x+y+c)/1000000000:=⟨_,rfl⟩;have hroom:(acc.length+1)*8<=cz:=by unfold cz;omega
   have hD0:i+1=n+1->D=0:=ac;have hval:WV dB (acc++[R])+dB^(i+1)*D=WV dB (a.take (i+1))+WV dB (b.take (i+1)):=by
    rw[gh,lA,ta,tb,dN];have e1:WV dB [R]=R:=by simp[WV]
    have e2:R+1000000000*D=x+y+c:=by omega
    have e3:dB^i*(R+1000000000*D)=dB^i*(x+y+c):=by rw[e2]
    rw[e1];show WV dB acc+dB^i*R+dB^i*1000000000*D=_;grind
   unfold GO;exact gg3
 . have h1:a.take i=a:=dO ac;have h2:b.take i=b:=dO ac;have hc0:c=0:=by omega
   rw[h1,h2,hc0,i8,Int.add_zero]at hv;unfold GO;exact gg3
theorem aho (C:GZ M)(a b:List Int)(oa:okW dB a)(ob:okW dB b)(la:a.length<1000000)(lb:b.length<=a.length)(hle:WV dB b<=WV dB a):Aq M 219 [.vs (an a) a.length c1,.vs (an b) b.length c2] (WV dB a-WV dB b):=by
 refine Gw (by rw[C.ft];exact agX) be ?_;unfold PZ;simp only[enter];repeat' first|refine gc ?_|fail
 refine W.di a.length (fun i st=>∃acc o c a6 K lo wr,st=⟨⟨[.vs (an a) a.length c1,.vs (an b) b.length c2,.ab,o,.iV c,.iV i,a6],lo,K,[]⟩,wr⟩/\(0<=c/\c<=1)/\okW dB acc/\acc.length=i/\bj iC 1 3 K o acc []/\WV dB acc-dB^i*c=WV dB (a.take i)-WV dB (b.take i))
  (fun i st hi ⟨acc,o,c,a6,K,lo,wr,hst,hc,oA,lA,ho,hv⟩=>?_) (fun st ⟨acc,o,c,a6,K,lo,wr,hst,hc,oA,lA,ho,hv⟩=>?_) (Nat.zero_le _) ⟨[],.ab,0,_,_,_,_,rfl,⟨am,am⟩,jf,rfl,.jL,by rfl⟩
 . subst hst;have ga:=cg oa hi;have gb:=GX ob i;have ta:=fE (b:=dB) (l:=a) hi;have tb:=tI (B:=dB) (y:=b) (i:=i);have q2:=fun h=>C.AE b c2 i h ac
   rw[ce]at q2;obtain⟨x,hx⟩:∃x,x=a[((i:Int)).toNat]! := ⟨_,rfl⟩;rw[show a[i]! = x from hx.symm]at ga ta;have ga:0<=x/\x<1000000000:=ga;generalize gm b i=y at *
   have hroom:(acc.length+1)*8<=cz:=by unfold cz;omega
   have next:∀(R D:Int) H o' a6 lo wr,bj iC 1 3 H o' (acc++[R]) []->(0<=D/\D<=1)->(0<=R/\R<1000000000)->R-1000000000*D=x-y-c->LI (fun st=>∃acc o c a6 K lo wr,st=⟨⟨[.vs (an a) a.length c1,.vs (an b) b.length c2,.ab,o,.iV c,.iV ((i+1:Nat):Int),a6],lo,K,[]⟩,wr⟩/\(0<=c/\c<=1)/\okW dB acc/\acc.length=i+1/\bj iC 1 3 K o acc []/\WV dB acc-dB^(i+1)*c=WV dB (a.take (i+1))-WV dB (b.take (i+1)))
    (BQ 0 (SQ M (zR [zm 33 3,z1 34 242 33,zw 2 34] (.ret)) (fun e s=>(e = .normal\/e = .ret)/\s.s.bV=[]/\∃vs,dx s.s [.var (.p 2)]=some vs/\∃r:List Int,(okW dB r/\aN r/\WV dB r=WV dB a-WV dB b)/\ie (aW vs) (if (aW vs).top<=0 then [] else s.s.hp) r)))
    .normal ⟨⟨[.vs (an a) a.length c1,.vs (an b) b.length c2,.ab,o',.iV D,.iV ((i:Int)+1),a6],lo,H,[]⟩,wr⟩:=fun R D H o' a6 lo wr ho' hD hR he=>
    bW ⟨acc++[R],o',D,a6,H,lo,wr,rfl,hD,jV oA (fun z hz=>by grind),by simp[lA],ho',by
     rw[gh,lA,ta,tb,dN];have e1:WV dB [R]=R:=by simp[WV]
     grind⟩
   by_cases hneg:x-y-c<0
   . rw[hx]at hneg;unfold sc;exact gg10
   . rw[hx]at hneg;unfold sc;exact gg10
 . subst hst;have h2:b.take a.length=b:=dO lb;rw[d7,h2]at hv;have hc0:c=0:=by
    have h1:=dg (b:=dB) am oA;rw[lA]at h1;rcases (show c=0\/c=1 by omega) with h|h
    . exact h
    . grind
   rw[hc0,i8,Int.sub_zero]at hv;obtain⟨g1,g2,g3⟩:=qk oA;rcases ho with ⟨rfl,rfl⟩|⟨k,cap,_,rfl,hk,hcap⟩
   . have ha0:a.length=0:=lA.symm;have q0:CT M (iY 242) [.ab] K ⟨.ab,K,[]⟩:=CT.run (fi:=[]) (ca:=[]) (C.dU _ _) (GY C.ft K);unfold sc;exact gg10
   . have hpos:0<acc.length\/acc.length=0:=by omega
     rcases hpos with h0|h0
     . obtain rfl:cap=none:=bS;have q1:=qm (cap:=none) C.ft C.dU hk h0 (d9 _) ac be;have hout:=ie.trim (cap:=none) hk (d9 acc.length);rw[d7]at q1 hout;unfold sc;exact gg10
     . have ha0:acc=[]:=bS;subst ha0;have q1:CT M (iY 242) [.sl k 0 ([]:List Int).length 1 cap] K ⟨.sl k 0 ([]:List Int).length 1 cap,K,[]⟩:=CT.run (fi:=[]) (ca:=[]) (C.dU _ _) (Gz C.ft hk);unfold sc;exact gg10
theorem ahp (hft:M.FT=FT)(l:List Int)(hl:l.length<1000000000)(K:aa):aV M 242 [.vs (an l) l.length cap] K ⟨.vs (an (l.take (aQ l))) (l.take (aQ l)).length cap,K,[]⟩:=by
 refine mA (by rw[hft];exact Ai) be (by simp[AV.top,fF]) ?_;have loop:∀(r:Nat) (lo:List (Nat×AV)) (a1:AV) {Q:Ex->aq->Prop},r<=l.length->aQ (l.take r)=aQ l->(∀lo,Q (.exit 0) ⟨⟨[.vs (an (l.take (aQ l))) (l.take (aQ l)).length cap,a1],lo,K,[]⟩,[]⟩)->W M (.loop kl) ⟨⟨[.vs (an (l.take r)) (l.take r).length cap,a1],lo,K,[]⟩,[]⟩ Q:=by
  intro r;induction r with
  | zero=>
   intro lo a1 Q hr he hQ;have e0:aQ l=0:=by rw[←he];rfl
   rw[e0]at hQ;have hl0:(l.take 0).length=0:=rfl;refine W.loop ?_;unfold kl;exact gg1
  | succ r ih=>
   intro lo a1 Q hr he hQ;have e:=pI (l:=l) (i:=r) ac;have hlr:(l.take (r+1)).length=r+1:=by rw[gT];omega
   have eg:(l.take (r+1))[(((l.take (r+1)).length:Int)-1).toNat]! = l[r]! := by
    rw[hlr,show (((r+1:Nat):Int)-1).toNat=r by omega,b7,b7,List.getElem?_take_of_lt ac]
   have et:(l.take (r+1)).take ((((l.take (r+1)).length:Nat):Int)-1).toNat=l.take r:=by
    rw[hlr,show (((r+1:Nat):Int)-1).toNat=r by omega,List.take_take,Nat.min_eq_left ac]
   have next:∀lo,W M (.loop kl) ⟨⟨[.vs (an ((l.take (r+1)).take ((((l.take (r+1)).length:Nat):Int)-1).toNat)) ((l.take (r+1)).take ((((l.take (r+1)).length:Nat):Int)-1).toNat).length cap,a1],lo,K,[]⟩,[]⟩ Q\/l[r]! ≠ 0:=fun lo=>by
    by_cases h0:l[r]! = 0
    . rw[if_pos h0]at e;rw[et];exact .inl (ih _ _ ac (e.symm.trans he) hQ)
    . exact .inr h0
   have fin:l[r]! ≠ 0->l.take (aQ l)=l.take (r+1):=fun h0=>by
    rw[if_neg h0]at e;rw[←he,e]
   rw[←eg]at next fin
   refine W.loop ?_;by_cases h0:(l.take (r+1))[(((l.take (r+1)).length:Int)-1).toNat]! = 0
   . have next:=fun lo=>(next lo).resolve_right fun h=>h h0
     generalize l.take (r+1)=L at *
     unfold kl;exact gg12
   . rw[fin h0]at hQ;generalize l.take (r+1)=L at *
     unfold kl;exact gg5
 unfold uL;simp only[enter];repeat' first|refine gc ?_|fail
 have h0:=loop l.length;rw[d7]at h0;refine h0 _ _ (d9 _) rfl (fun lo=>?_);exact gg2
def bP (neg:Bool)(z:Int):Int:=if neg then -z else z
theorem ahq (hft:M.FT=FT)(dU:∀ars h,M.ext 242 ars h=none)(neg:Bool){x:AV}{l:List Int}(hx:cL x l)(ok:okW dB l)(hl:l.length<1000000000):∃v0,bU v0 (bP neg (WV dB l))/\cQ M 196 [.bool neg,x] v0:=by
 obtain⟨g1,g2,g3⟩:=qk ok;rcases hx with rfl|⟨rfl,rfl⟩
 . refine⟨.agg [.bool (neg && decide (0<aQ l)),.vs (an (l.take (aQ l))) (l.take (aQ l)).length none],⟨_,_,_,rfl,.inl rfl,g1,g2,?_,fun h e=>?_⟩,?_⟩
   . rw[g3,bP];cases neg with
     | false=>rfl
     | true=>
      by_cases h0:0<aQ l
      . rw[decide_eq_true h0];rfl
      . rw[decide_eq_false h0];have:WV dB l=0:=by rw[←g3,show aQ l=0 by omega];rfl
        rw[this];rfl
   . rw[i9,decide_eq_true_eq]at h;have:=congrArg j0 e;have hle:=iW (l:=l);rw[gT,List.length_nil]at this;omega
   . have q1:=fun K=>CT.run (fi:=[]) (ca:=[]) (ars:=[.vs (an l) l.length none]) (dU _ _) (ahp (cap:=none) hft l hl K)
     have hT:(l.take (aQ l)).length=aQ l:=by rw[gT];have:=iW (l:=l);omega
     generalize l.take (aQ l)=L at *
     rw[←hT];have fin:∀(b:Bool) hh,dZ (.agg [.bool b,.vs (an L) L.length none]) hh (.agg [.bool b,.vs (an L) L.length none]):=fun b hh=>.same (by simp[AV.top,bc,fF]) (by simp[bL,cG,ql])
     refine cR (by rw[hft];exact Ah) be ?_;unfold uK;simp only[enter];cases neg with
     | false=>
      exact gg1
     | true=>
      by_cases h0:0<L.length
      . rw[decide_eq_true h0];exact gg1
      . rw[decide_eq_false h0];exact gg1
 . refine⟨.agg [.bool false,.ab],⟨false,.ab,[],rfl,.inr ⟨rfl,rfl⟩,jf,kA,by cases neg <;> rfl,fun h=>by cases h⟩,?_⟩;have q1:=fun K=>CT.run (fi:=[]) (ca:=[]) (ars:=[.ab]) (dU _ _) (GY hft K)
   refine cR (by rw[hft];exact Ah) be ?_;unfold uK;simp only[enter];cases neg with
   | false=>
    exact gg1
   | true=>
    exact gg1
variable {N:Nat}
theorem cL.fL {h:aa}{x:AV}{l:List Int}(hx:cL x l):cK h x (.vs (an l) l.length none):=by
 rcases hx with rfl|⟨rfl,rfl⟩
 . exact cK.nK (xC (fun _=>.cons (.atom rfl) .nil) l)
 . exact .nil
theorem bU.abs {v:AV}{z:Int}(h:bU v z)(lz:aj z<dB^N):∃neg x l,v = .agg [.bool neg,x]/\cL x l/\okW dB l/\aN l/\l.length<=N/\z=bP neg (WV dB l)/\WV dB l=aj z/\(neg=true->l≠[]):=by
 obtain⟨neg,x,l,rfl,hx,ok,nr,hz,hn⟩:=h;have h0:=cB (b:=dB) am ok;have e:WV dB l=aj z:=by
  rw[hz];unfold aj;cases neg with
  | false=>simp only[Bool.false_eq_true,↓reduceIte];rw[if_neg ac]
  | true=>simp only[↓reduceIte];split <;> omega
 exact⟨neg,x,l,rfl,hx,ok,nr,gk (b:=dB) am ok nr (by rw[e];exact lz),hz,e,hn⟩
structure AF (M:aw):Prop where
 ft:M.FT=FT
 Qn:∀l m k1 k2,okW dB l->okW dB m->l.length<1000000->m.length<1000000->∃r,okW dB r/\WV dB r=WV dB l+WV dB m/\r.length<=l.length+m.length+1/\∀x y h,cK h x (.vs (an l) l.length k1)->cK h y (.vs (an m) m.length k2)->M.ext 206 [x,y] h=some ⟨.vs (an r) r.length none,h,[]⟩
 Ha:∀l m,okW dB l->okW dB m->aN l->aN m->l.length<1000000->m.length<1000000->WV dB m<=WV dB l->∃r,okW dB r/\aN r/\WV dB r=WV dB l-WV dB m/\∀x y h,cL x l->cL y m->M.ext 219 [x,y] h=some ⟨.vs (an r) r.length none,h,[]⟩
 uT:∀l m x y h,okW dB l->okW dB m->aN l->aN m->l.length<1000000->m.length<1000000->cL x l->cL y m->M.ext 218 [x,y] h=some ⟨.iV (bz (WV dB l-WV dB m)),h,[]⟩
 rX:∀l m,okW dB l->okW dB m->l.length<1000000->m.length<1000000->∃r,okW dB r/\aN r/\WV dB r=WV dB l*WV dB m/\∀x y h,cL x l->cL y m->M.ext 197 [x,y] h=some ⟨.vs (an r) r.length none,h,[]⟩
 ko:∀neg x l,cL x l->okW dB l->l.length<1000000000->∃v0,bU v0 (bP neg (WV dB l))/\∀h,M.ext 196 [.bool neg,x] h=some ⟨v0,h,[]⟩
theorem bU.out {v:AV}{z:Int}{hh:aa}(h:bU v z):dZ (aW [v]) hh v:=by
 obtain⟨neg,x,l,rfl,_,_,ht,hc⟩:=h.shape;refine .same ?_ ?_
 . show max 0 (max x.top 0)=0;rw[ht];rfl
 . show AV.agg [.bool neg,bL x]=_;rw[hc]
theorem Qo (C:AF M){a:AV}{z:Int}(ha:bU a z)(lz:aj z<dB^N)(hN:N<=100000):∃v0,bU v0 (-z)/\cQ M 194 [a] v0:=by
 obtain⟨neg,x,l,rfl,hx,ok,nr,ll,hz,_,_⟩:=ha.abs lz;obtain⟨v0,h0,q⟩:=C.ko (!neg) x l hx ok ac;have e:bP (!neg) (WV dB l) = -z:=by rw[hz];cases neg <;> simp[bP]
 rw[e]at h0;refine⟨v0,h0,cR (by rw[C.ft];exact agZ) be ?_⟩;have out:=fun hh=>h0.out (hh:=hh)
 obtain⟨n0,x0,l0,rfl,hx0,o0,_,_⟩:=h0.shape;unfold Qb;simp only[enter];cases neg;all_goals
 . rcases hx with rfl|⟨rfl,rfl⟩;all_goals
   . repeat' first|refine gd12 ?_|refine gd0 ?_|refine gd2 ?_|refine gc ?_|fail
     all_goals exact cN rfl rfl (out _)
theorem ahr (C:AF M){a b:AV}{za zb:Int}(ha:bU a za)(hb:bU b zb)(la:aj za<dB^N)(lb:aj zb<dB^N)(hN:N<=100000):∃v0,bU v0 (za*zb)/\cQ M 137 [a,b] v0:=by
 obtain⟨na,x,l,rfl,hx,ok,nr,ll,hz,_,_⟩:=ha.abs la;obtain⟨nb,y,m,rfl,hy,ok',nr',lm,hz',_,_⟩:=hb.abs lb;obtain⟨r,okr,nrr,vr,q197⟩:=C.rX l m ok ok' ac ac;have q197a:=fun h=>q197 x y h hx hy
 have hrl:r.length<=2*N:=gk (b:=dB) am okr nrr (by
  have h1:=dg (b:=dB) am ok;have h2:=dg (b:=dB) am ok';have h3:=cB (b:=dB) am ok;have h4:=cB (b:=dB) am ok';have p1:dB^l.length<=dB^N:=gS am ll;have p2:dB^m.length<=dB^N:=gS am lm;rw[vr,show 2*N=N+N by omega,Int.pow_add];have hp:(0:Int)<dB^N:=Int.pow_pos am;have a1:=Int.mul_le_mul_of_nonneg_left (show WV dB m<=dB^N by omega) h3;have a2:=Int.mul_lt_mul_of_pos_right (show WV dB l<dB^N by omega) hp;omega)
 obtain⟨v0,h0,q196⟩:=C.ko (na != nb) _ r (.inl rfl) okr ac;have e:bP (na != nb) (WV dB r)=za*zb:=by
  rw[hz,hz',vr];cases na <;> cases nb <;> simp[bP,Int.neg_mul,Int.mul_neg]
 rw[e]at h0;refine⟨v0,h0,cR (by rw[C.ft];exact aha) be ?_⟩;have out:=fun hh=>h0.out (hh:=hh)
 obtain⟨n0,x0,l0,rfl,hx0,o0,_,_⟩:=h0.shape;unfold Qc;simp only[enter];cases na;all_goals
 . cases nb;all_goals
   . rcases hx with rfl|⟨rfl,rfl⟩;all_goals
     . rcases hy with rfl|⟨rfl,rfl⟩;all_goals
       . repeat' first|(apply ajU;rfl;rfl;(first|(simp only[nca];rfl)|rfl);first|exact q197a _|exact q196 _)|(apply afG;rfl;rfl;rfl;exact⟨rfl,d9 _,mX o0⟩;rfl)|(apply akO;rfl;(first|(focus((repeat' first|exact cC|assumption|apply cE);done))|exact eu be);rfl)|apply afc|apply cV|apply afl|apply afm|apply agR|apply ajJ|apply ajN|(apply ajP;rfl)|(apply akp;rfl;rfl;(first|(simp only[nca];rfl)|rfl))|(apply alX;rfl;(first|(simp only[nca];rfl)|rfl);(first|(simp only[nca];rfl)|rfl))|(apply aiq;rfl;rfl;rfl)|(apply abL;rfl;rfl)
         all_goals exact cN rfl rfl (out _)
theorem ahs {x y:Int}:(y<=x/\0<=bz (x-y))\/(x<y/\bz (x-y) = -1):=by
 unfold bz;by_cases h:x<y
 . exact .inr ⟨h,if_pos ac⟩
 . refine .inl ⟨ac,?_⟩;rw[if_neg ac];split <;> omega
theorem aht (C:AF M){a b:AV}{za zb:Int}(ha:bU a za)(hb:bU b zb)(la:aj za<dB^N)(lb:aj zb<dB^N)(hN:N<=100000):∃v0,bU v0 (za+zb)/\cQ M 170 [a,b] v0:=by
 obtain⟨na,x,l,rfl,hx,ok,nr,ll,hz,_,_⟩:=ha.abs la;obtain⟨nb,y,m,rfl,hy,ok',nr',lm,hz',_,_⟩:=hb.abs lb;have q218:=fun h=>C.uT l m x y h ok ok' nr nr' ac ac hx hy
 have goal:∃v0,bU v0 (za+zb)/\((na=nb/\∃r:List Int,(∀h,M.ext 206 [x,y] h=some ⟨.vs (an r) r.length none,h,[]⟩)/\∀h,M.ext 196 [.bool na,.vs (an r) r.length none] h=some ⟨v0,h,[]⟩)
  \/ (na≠nb/\0<=bz (WV dB l-WV dB m)/\∃r:List Int,(∀h,M.ext 219 [x,y] h=some ⟨.vs (an r) r.length none,h,[]⟩)/\∀h,M.ext 196 [.bool na,.vs (an r) r.length none] h=some ⟨v0,h,[]⟩)
  \/ (na≠nb/\bz (WV dB l-WV dB m) = -1/\∃r:List Int,(∀h,M.ext 219 [y,x] h=some ⟨.vs (an r) r.length none,h,[]⟩)/\∀h,M.ext 196 [.bool nb,.vs (an r) r.length none] h=some ⟨v0,h,[]⟩)):=by
  by_cases hn:na=nb
  . subst hn;obtain⟨r,okr,vr,lr,q206⟩:=C.Qn l m none none ok ok' ac ac;obtain⟨v0,h0,q196⟩:=C.ko na _ r (.inl rfl) okr ac;refine⟨v0,?_,.inl ⟨rfl,r,fun h=>q206 x y h hx.fL hy.fL,q196⟩⟩;have e:bP na (WV dB r)=za+zb:=by rw[hz,hz',vr];cases na <;> simp[bP] <;> omega
    rw[e]at h0;exact h0
  . rcases ahs (x:=WV dB l) (y:=WV dB m) with ⟨h1,h2⟩|⟨h1,h2⟩
    . obtain⟨r,okr,nrr,vr,q219⟩:=C.Ha l m ok ok' nr nr' ac ac h1;have lr:r.length<=N:=gk (b:=dB) am okr nrr (by
       have:=dg (b:=dB) am ok;have:=cB (b:=dB) am ok';have:dB^l.length<=dB^N:=gS am ll;omega)
      obtain⟨v0,h0,q196⟩:=C.ko na _ r (.inl rfl) okr ac;refine⟨v0,?_,.inr (.inl ⟨hn,h2,r,fun h=>q219 x y h hx hy,q196⟩)⟩;have e:bP na (WV dB r)=za+zb:=by rw[hz,hz',vr];cases na <;> cases nb <;> simp[bP]at hn ⊢ <;> omega
      rw[e]at h0;exact h0
    . obtain⟨r,okr,nrr,vr,q219⟩:=C.Ha m l ok' ok nr' nr ac ac ac;have lr:r.length<=N:=gk (b:=dB) am okr nrr (by
       have:=dg (b:=dB) am ok';have:=cB (b:=dB) am ok;have:dB^m.length<=dB^N:=gS am lm;omega)
      obtain⟨v0,h0,q196⟩:=C.ko nb _ r (.inl rfl) okr ac;refine⟨v0,?_,.inr (.inr ⟨hn,h2,r,fun h=>q219 y x h hy hx,q196⟩)⟩;have e:bP nb (WV dB r)=za+zb:=by rw[hz,hz',vr];cases na <;> cases nb <;> simp[bP]at hn ⊢ <;> omega
      rw[e]at h0;exact h0
 obtain⟨v0,h0,goal⟩:=goal;refine⟨v0,h0,cR (by rw[C.ft];exact agY) be ?_⟩;have out:=fun hh=>h0.out (hh:=hh)
 obtain⟨n0,x0,l0,rfl,hx0,o0,_,_⟩:=h0.shape;clear ha hb hz hz' h0;generalize bz (WV dB l-WV dB m)=g at *
 have hxs:x = .vs (an l) l.length none\/x = .ab:=by rcases hx with h|⟨h,_⟩ <;> simp[h]
 have hys:y = .vs (an m) m.length none\/y = .ab:=by rcases hy with h|⟨h,_⟩ <;> simp[h]
 clear hx hy;unfold Qa;simp only[enter];rcases goal with ⟨rfl,r,qa,qb⟩|⟨hn,hg,r,qa,qb⟩|⟨hn,rfl,r,qa,qb⟩
 . cases na;all_goals
   . rcases hxs with rfl|rfl;all_goals
     . rcases hys with rfl|rfl;all_goals
       . repeat' first|refine gd1 ?_|refine gd12 ?_|refine gd2 ?_|refine gc ?_|fail
         all_goals exact cN rfl rfl (out _)
 . cases na;all_goals
   . cases nb;all_goals first|exact absurd rfl hn|skip
     all_goals
     . rcases hxs with rfl|rfl;all_goals
       . rcases hys with rfl|rfl;all_goals
         . repeat' first|refine gd0 ?_|refine gd1 ?_|refine gd12 ?_|refine gd2 ?_|(apply agV;rfl;rfl)|refine gc ?_|(intro _;omega)|intro _
           all_goals try omega
           all_goals exact cN rfl rfl (out _)
 . cases na;all_goals
   . cases nb;all_goals first|exact absurd rfl hn|skip
     all_goals
     . rcases hxs with rfl|rfl;all_goals
       . rcases hys with rfl|rfl;all_goals
         . repeat' first|refine gd0 ?_|refine gd1 ?_|refine gd12 ?_|refine gd2 ?_|(apply agV;rfl;rfl)|refine gc ?_|(intro _;omega)|intro _
           all_goals try omega
           all_goals exact cN rfl rfl (out _)
theorem ahu (k n:Nat):dR (n/10^k%10)::cP k n=cP (k+1) n:=by
 refine MU (by simp[lS]) fun j hj=>?_
 cases j with
 | zero=>rfl
 | succ j=>
  have e:(dR (n/10^k%10)::cP k n)[j+1]! = (cP k n)[j]! := by simp[b7]
  rw[e,Fl ac,show k+1-1-(j+1)=k-1-j by omega]
theorem ahv {d:Nat}(h:d<10):(([48,49,50,51,52,53,54,55,56,57]:ah).drop d).take (d+1-d)=[dR d]:=by
 match d,h with
 | 0,_=>rfl
 | 1,_=>rfl
 | 2,_=>rfl
 | 3,_=>rfl
 | 4,_=>rfl
 | 5,_=>rfl
 | 6,_=>rfl
 | 7,_=>rfl
 | 8,_=>rfl
 | 9,_=>rfl
theorem Hb:(10:Nat)^19=10000000000000000000:=rfl
theorem Qp (hft:M.FT=FT)(n L:Nat)(hn:n<9223372036854775808)(hL:1<=L/\L<=18):∃k,L<=k/\n<10^k/\(k=L\/10^(k-1)<=n)/\aV M 117 [.iV (n:Nat),.iV (L:Nat)] [] ⟨.str (cP k n),[],[]⟩:=by
 obtain⟨v,hh,⟨k,h1,h2,h3,rfl,rfl⟩,hr⟩:=gO (M:=M) (f:=117) (ars:=[.iV (n:Nat),.iV (L:Nat)]) (P:=fun v hh=>∃k,L<=k/\n<10^k/\(k=L\/10^(k-1)<=n)/\v = .str (cP k n)/\hh=[]) (by rw[hft];exact ahc) be (by
  unfold Qf;simp only[enter];repeat' first|refine gc ?_|fail
  refine W.gP (fun m st=>∃j lo wr,st=⟨⟨[.iV (n/10^j:Nat),.iV L,.str [],.str (cP j n)],lo,[],[]⟩,wr⟩/\m=20-j/\j<=20/\(j<=L\/10^(j-1)<=n)) (fun m st ⟨j,lo,wr,hst,hm,hj,hb⟩=>?_) (m:=20) ⟨0,[],[],by rw[Nat.pow_zero,Nat.div_one];rfl,rfl,ac,.inl ac⟩;subst hst;have hl:=lS j n;by_cases hgo:0<n/10^j\/j<L
  . have hj19:j<19:=by
     rcases Nat.lt_or_ge j 19 with h|h
     . exact h
     . exfalso;have p:(10:Nat)^19<=10^j:=fm am h;rw[Hb]at p;have:n/10^j=0:=jq ac;omega
    have hd:n/10^j%10<10:=ac;have ec:=ahv hd;have ef:=ahu j n;have eq:n/10^j/10=n/10^(j+1):=by rw[Nat.div_div_eq_div_mul,Nat.pow_succ]
    have hb':j+1<=L\/10^(j+1-1)<=n:=by
     rcases hgo with h|h
     . right;rw[i3];refine g9 fun h2=>?_
       rw[jq h2]at h;omega
     . omega
    have hq:n/10^j<=n:=hZ _ _;obtain⟨q,hqq⟩:∃q,q=n/10^j:=⟨_,rfl⟩;rw[←hqq]at hd ec ef eq hq hgo;rw[←hqq];generalize cP j n=s at *
    have e1:(((q:Nat):Int)%10).toNat=q%10:=by omega
    have e2:(((q:Nat):Int)%10+1).toNat=q%10+1:=by omega
    have ec':(([48,49,50,51,52,53,54,55,56,57]:ah).drop (((q:Nat):Int)%10).toNat).take ((((q:Nat):Int)%10+1).toNat-(((q:Nat):Int)%10).toNat)=[dR (q%10)]:=by rw[e1,e2];exact ec
    have l1:([dR (q%10)]:ah).length=1:=rfl;have fin:∀lo wr,LI (fun st=>∃m',m'<m/\∃j lo wr,st=⟨⟨[.iV (n/10^j:Nat),.iV L,.str [],.str (cP j n)],lo,[],[]⟩,wr⟩/\m'=20-j/\j<=20/\(j<=L\/10^(j-1)<=n))
     (BQ 0 (SQ M (zR [zm 24 3,zw 2 24] (.ret)) (fun e s=>(e = .normal\/e = .ret)/\s.s.bV=[]/\∃vs,dx s.s [.var (.p 2)]=some vs/\∃k,L<=k/\n<10^k/\(k=L\/10^(k-1)<=n)/\aW vs = .str (cP k n)/\(if (aW vs).top<=0 then [] else s.s.hp)=[])))
     .normal ⟨⟨[.iV (((q:Nat):Int)/10),.iV L,.str [],.str ([dR (q%10)]++s)],lo,[],[]⟩,wr⟩:=fun lo wr=>
     bW ⟨20-(j+1),ac,j+1,lo,wr,by
      grind,rfl,ac,hb'⟩
    unfold GP;exact gg2
  . have h0:n/10^j=0:=bS;rw[h0];have hlt:n<10^j:=by
     refine Nat.lt_of_not_le fun h=>?_
     have:=Nat.div_pos h bS;omega
    have hk:j=L\/10^(j-1)<=n:=by omega
    unfold GP;repeat' first|(apply abd;rfl;rfl)|(apply aev;rfl;rfl)|refine gc ?_|(intro _;omega)|intro _
    all_goals try omega
    all_goals exact⟨.inr rfl,rfl,_,rfl,j,ac,hlt,hk,rfl,rfl⟩)
 grind
theorem ahw (hft:M.FT=FT)(n:Nat)(hn:n<9223372036854775808):aV M 117 [.iV (n:Nat),.iV 1] [] ⟨.str (aS n),[],[]⟩:=by
 obtain⟨k,h1,h2,h3,hr⟩:=Qp hft n 1 ac am;obtain⟨k,rfl⟩:∃j,k=j+1:=⟨k-1,ac⟩;rw[i3]at h3;rw[yS h2 ac];exact hr
theorem ahx (hft:M.FT=FT)(n:Nat)(hn:n<1000000000):aV M 117 [.iV (n:Nat),.iV 9] [] ⟨.str (cP 9 n),[],[]⟩:=by
 obtain⟨k,h1,h2,h3,hr⟩:=Qp hft n 9 ac am;have:k=9:=by
  rcases h3 with h|h
  . exact h
  . refine Nat.le_antisymm (g9 fun h9=>?_) h1;have p:(10:Nat)^9<=10^(k-1):=fm am ac;omega
 grind
structure Qq (M:aw):Prop where
 ft:M.FT=FT
 Qr:∀(n:Nat) h,n<1000000000->M.ext 117 [.iV (n:Nat),.iV 1] h=some ⟨.str (aS n),h,[]⟩
 Qs:∀(n:Nat) h,n<1000000000->M.ext 117 [.iV (n:Nat),.iV 9] h=some ⟨.str (cP 9 n),h,[]⟩
theorem Qt {x:Int}(h:0<=x/\x<1000000000):∃n:Nat,x=(n:Int)/\n<1000000000:=⟨x.toNat,ac,ac⟩
theorem Qu (C:Qq M){a:AV}{z:Int}(ha:bU a z)(lz:aj z<dB^N)(hN:N<=100000):aV M 138 [a] [] ⟨.str (bM z),[],[]⟩:=by
 obtain⟨neg,x,l,rfl,hx,ok,nr,ll,hz,hv,hnn⟩:=ha.abs lz;by_cases h0:l=[]
 . subst h0;have hneg:neg=false:=by
    cases neg with
    | false=>rfl
    | true=>grind
   subst hneg;have z0:z=0:=by rw[hz];rfl
   subst z0;have e0:bM 0=[48]:=by rw[lW am];exact iX am
   rw[e0];refine bH (by rw[C.ft];exact Qg) be ?_;have hl0:([]:List Int).length=0:=rfl;unfold GR;simp only[enter];rcases hx with rfl|⟨rfl,_⟩;all_goals
   . exact gg9
 . obtain rfl:x = .vs (an l) l.length none:=hx.resolve_right fun h=>h0 h.2
   have hl0:0<l.length:=bS;have hzs:bM z=(if neg then 45::aS (WV dB l).toNat else aS (WV dB l).toNat):=by
    have hp:=(jN (b:=dB) am ok nr).2 h0;rw[hz];cases neg with
    | false=>
     have e:bP false (WV dB l)=WV dB l:=rfl;rw[e,lW ac,cH ac];rfl
    | true=>
     have e:bP true (WV dB l) = -WV dB l:=rfl;rw[e,od ac,jR,cH ac];rfl
   have dlen:∀k,k<=l.length->(aS (WV dB (l.drop (l.length-k))).toNat).length<=9*k+1:=fun k hk=>by
    refine pU (k:=9*k+1) ?_ ac;have h1:=dg (b:=dB) am (jM ok (l.length-k));have h2:=cB (b:=dB) am (jM ok (l.length-k));rw[jD,show l.length-(l.length-k)=k by omega,←Pw]at h1;omega
   have hlast:=(tH hl0).1 nr;have gl:=cg ok (i:=l.length-1) ac;have gl:0<=l[l.length-1]! /\ l[l.length-1]! < 1000000000:=gl;obtain⟨n0,hn0,hn0l⟩:=Qt gl;have eIl:(((l.length:Int))-1).toNat=l.length-1:=by omega
   have q1:∀h,M.ext 117 [.iV l[(((l.length:Int))-1).toNat]!,.iV 1] h=some ⟨.str (aS n0),h,[]⟩:=fun h=>by rw[eIl,hn0];exact C.Qr n0 h hn0l
   have ed0:(WV dB (l.drop (l.length-1))).toNat=n0:=by
    rw[f9 ac,show l.length-1+1=l.length by omega,List.drop_length,←getElem!_pos l (l.length-1) ac,hn0];simp[WV]
   refine bH (by rw[C.ft];exact Qg) be ?_;unfold GR;simp only[enter];repeat' first|(apply aeJ;rfl;rfl)|refine gd0 ?_|refine gd2 ?_|refine gc ?_|(intro _;omega)|intro _
   all_goals try omega
   refine W.gP (fun m st=>∃k lo wr,st=⟨⟨[.agg [.bool neg,.vs (an l) l.length none],.ptr 0 0,.str [],.str (aS (WV dB (l.drop (l.length-k))).toNat),.iV ((l.length:Int)-1-(k:Nat))],lo,[some (.cells [.bool neg,.vs (an l) l.length none] 162)],[]⟩,wr⟩/\m=l.length-k/\1<=k/\k<=l.length) (fun m st ⟨k,lo,wr,hst,hm,hk1,hk⟩=>?_) (m:=l.length-1) ⟨1,_,_,by rw[ed0,show (l.length:Int)-1-((1:Nat):Int)=(l.length:Int)-2 by omega];rfl,rfl,ac,ac⟩;subst hst;have dk:=dlen k hk;by_cases hend:k=l.length
   . subst hend;have e0:l.drop (l.length-l.length)=l:=by rw[Nat.sub_self,List.drop_zero]
     rw[e0]at dk ⊢;have l45:([45]:ah).length=1:=rfl;rw[hzs];generalize aS (WV dB l).toNat=s0 at *
     cases neg with
     | true=>
      unfold AB;exact gg0
     | false=>
      unfold AB;exact gg0
   . have gi:=cg ok (i:=l.length-1-k) ac;have gi:0<=l[l.length-1-k]! /\ l[l.length-1-k]! < 1000000000:=gi;obtain⟨ni,hni,hnil⟩:=Qt gi;have eIi:(((l.length:Int))-1-(k:Nat)).toNat=l.length-1-k:=by omega
     have q2:∀h,M.ext 117 [.iV l[(((l.length:Int))-1-(k:Nat)).toNat]!,.iV 9] h=some ⟨.str (cP 9 ni),h,[]⟩:=fun h=>by rw[eIi,hni];exact C.Qs ni h hnil
     have hnext:aS (WV dB (l.drop (l.length-(k+1)))).toNat=aS (WV dB (l.drop (l.length-k))).toNat++cP 9 ni:=by
      have e1:l.drop (l.length-(k+1))=(ni:Int)::l.drop (l.length-k):=by
       rw[f9 ac,←getElem!_pos l (l.length-(k+1)) ac,show l.length-(k+1)=l.length-1-k by omega,hni,show l.length-1-k+1=l.length-k by omega]
      have h0:=cB (b:=dB) am (jM ok (l.length-k));have hp:0<WV dB (l.drop (l.length-k)):=by
       refine(jN (b:=dB) am (jM ok _) ?_).2 (fun e=>?_)
       . refine(tH bS).2 ?_;rw[jD,b7,List.getElem?_drop,show l.length-k+(l.length-(l.length-k)-1)=l.length-1 by omega,←b7];omega
       . have:=congrArg j0 e;grind
      obtain⟨A,hA⟩:∃A:Nat,WV dB (l.drop (l.length-k))=(A:Int):=⟨_,(Int.toNat_of_nonneg h0).symm⟩;have e2:WV dB ((ni:Int)::l.drop (l.length-k))=((A*10^9+ni:Nat):Int):=by
       show (ni:Int)+dB*WV dB (l.drop (l.length-k))=_;rw[hA];show (ni:Int)+1000000000*A=_;omega
      rw[e1,e2,hA,ce,ce];exact Fm ac ac
     have hl9:=lS 9 ni;generalize aS (WV dB (l.drop (l.length-k))).toNat=s0 at *
     generalize cP 9 ni=s9 at *
     have next:∀lo wr Q,LI (fun st=>∃m',m'<m/\∃k lo wr,st=⟨⟨[.agg [.bool neg,.vs (an l) l.length none],.ptr 0 0,.str [],.str (aS (WV dB (l.drop (l.length-k))).toNat),.iV ((l.length:Int)-1-(k:Nat))],lo,[some (.cells [.bool neg,.vs (an l) l.length none] 162)],[]⟩,wr⟩/\m'=l.length-k/\1<=k/\k<=l.length) Q .normal ⟨⟨[.agg [.bool neg,.vs (an l) l.length none],.ptr 0 0,.str [],.str (s0++s9),.iV ((l.length:Int)-1-(k:Nat)-1)],lo,[some (.cells [.bool neg,.vs (an l) l.length none] 162)],[]⟩,wr⟩:=fun lo wr Q=>
      bW ⟨l.length-(k+1),ac,k+1,lo,wr,bS,rfl,ac,ac⟩
     unfold AB;exact gg0
section
variable {t:Nat} {x y:ay} {l:List aX} {pe:List AV} {lo:List (Nat×AV)} {hp:aa} {df wr:List Nat} {v a d:Int} {Q:aq->Prop}
theorem amk (hx:(St.mk pe lo hp df).ae x=some (.iV a))(hy:(St.mk pe lo hp df).ae y=some (.iV d))(ha : -9223372036854775808<=a/\a<9223372036854775808)(hd:0<d)(hv:a.tdiv d=v)
 (h:WO M l ⟨⟨pe,(t,.iV v)::lo,hp,df⟩,wr⟩ Q):WO M (⟨.l t,.bin .quo x y,none⟩::l) ⟨⟨pe,lo,hp,df⟩,wr⟩ Q:=alI hx hy hd ha (by rw[hv];exact h)
theorem amD (hx:(St.mk pe lo hp df).ae x=some (.iV a))(hy:(St.mk pe lo hp df).ae y=some (.iV d))(hd:0<d)(hv:a.tmod d=v)
 (h:WO M l ⟨⟨pe,(t,.iV v)::lo,hp,df⟩,wr⟩ Q):WO M (⟨.l t,.bin .rem x y,none⟩::l) ⟨⟨pe,lo,hp,df⟩,wr⟩ Q:=alJ hx hy ac (by rw[hv];exact h)
end
theorem ahy {neg:Bool}{m:Int}(h:0<=m):(bP neg m).tmod 1000000000=bP neg (m%1000000000):=by
 cases neg with
 | false=>exact f6 h
 | true=>show (-m).tmod _=_;rw[Int.neg_tmod,f6 h];rfl
theorem ahz {neg:Bool}{m:Int}(h:0<=m):(bP neg m).tdiv 1000000000=bP neg (m/1000000000):=by
 cases neg with
 | false=>exact f7 h
 | true=>show (-m).tdiv _=_;rw[Int.neg_tdiv,f7 h];rfl
theorem ahA (hft:M.FT=FT)(dU:∀ars h,M.ext 242 ars h=none)(neg:Bool)(K:aa):aV M 196 [.bool neg,.ab] K ⟨.agg [.bool false,.ab],K,[]⟩:=by
 have q1:=fun K=>CT.run (fi:=[]) (ca:=[]) (ars:=[.ab]) (dU _ _) (GY hft K)
 refine mA (by rw[hft];exact Ah) be (by simp[AV.top,bc]) ?_;unfold uK;simp only[enter];cases neg with
 | false=>
  exact gg1
 | true=>
  exact gg1
structure CWh (M:aw):Prop where
 ft:M.FT=FT
 dU:∀ars h,M.ext 242 ars h=none
 uR:∀ars h,M.ext 196 ars h=none
theorem ahC:(dB:Int)^3=1000000000000000000000000000:=by decide
theorem ahD (C:CWh M)(n:Int)(hn : -9223372036854775808<=n/\n<9223372036854775808):∃v0,bU v0 n/\cQ M 139 [.iV n] v0:=by
 obtain⟨neg,m0,hm0,rfl,hneg⟩:∃(neg:Bool) (m:Int),0<=m/\n=bP neg m/\neg=decide (n<0):=by
  by_cases h:n<0
  . exact⟨true,-n,ac,by show n = - -n;omega,(decide_eq_true h).symm⟩
  . exact⟨false,n,ac,rfl,(decide_eq_false h).symm⟩
 have hmb:m0<=9223372036854775808:=by cases neg <;> simp[bP]at hn <;> omega
 obtain⟨v,hh,⟨v0,h0,ho⟩,hr⟩:=gO (M:=M) (f:=139) (ars:=[.iV (bP neg m0)]) (P:=fun v hh=>∃v0,bU v0 (bP neg m0)/\dZ v hh v0) (by rw[C.ft];exact afQ) be (by
  have start:∀(Q:Ex->aq->Prop),(∀lo wr,W M (.loop rV) ⟨⟨[.iV (bP neg m0),.ptr 0 0,.ab,.bool neg,bD],lo,[some (.cells [.bool false,.ab] 162)],[]⟩,wr⟩ (BQ 0 (SQ M (zR [zm 22 3,
   zm 23 2,
   z2 24 196 22 23,
   zs 2 1 24]
   (.ret)) Q)))->W M Gq ⟨⟨[.iV (bP neg m0),bD,bD,bD,bD],[],[],[]⟩,[]⟩ Q:=fun Q hQ=>by
   unfold Gq;cases neg with
   | true=>
    have h1:bP true m0<0:=bS;generalize bP true m0=z at *
    exact gg0
   | false=>
    have h1:¬bP false m0<0:=bS;generalize bP false m0=z at *
    exact gg0
  simp only[enter];refine start _ fun lo wr=>?_
  refine W.gP (fun k st=>∃m acc o a4 K lo wr,st=⟨⟨[.iV (bP neg m),.ptr 0 0,o,.bool neg,a4],lo,K,[]⟩,wr⟩/\0<=m/\k=m.toNat/\m<=m0/\(acc=[]->o = .ab)/\acc.length<=3/\m<dB^(3-acc.length)/\okW dB acc/\WV dB acc+dB^acc.length*m=m0/\bj iC 1 3 K o acc [0]/\K.at 0=some (.cells [.bool false,.ab] 162))
   (fun k st ⟨m,acc,o,a4,K,lo,wr,hst,hm,hk,hmx,hnil,hla,hlt,oA,hv,ho,hK⟩=>?_) (m:=m0.toNat) ⟨m0,[],.ab,_,_,_,_,rfl,hm0,rfl,Int.le_refl _,fun _=>rfl,be,bS,jf,by simp[WV],.jL,rfl⟩
  subst hst;have hK1:=cJ hK;by_cases hz:m=0
  . subst hz;have e0:bP neg 0=0:=by cases neg <;> rfl
    rw[e0];rw[i8,Int.add_zero]at hv;rcases ho with ⟨rfl,rfl⟩|⟨c,cp,hc0,rfl,hc,hcap⟩
    . have q:=fun K=>CT.run (fi:=[]) (ca:=[]) (ars:=[.bool neg,.ab]) (C.uR _ _) (ahA C.ft C.dU neg K)
      have z0:m0=0:=by rw[←hv];rfl
      subst z0;have out:∃v0,bU v0 (bP neg 0)/\∀hh,dZ (.agg [.bool false,.ab]) hh v0:=⟨_,⟨false,.ab,[],rfl,.inr ⟨rfl,rfl⟩,jf,kA,ac,fun h=>by cases h⟩,fun hh=>.same rfl rfl⟩;obtain⟨v0,k0,out⟩:=out;unfold rV;exact gg16
    . have hpos:0<acc.length\/acc.length=0:=by omega
      rcases hpos with hp|hp
      . obtain rfl:cp=none:=bS;have q196:=CT.run (fi:=[]) (ca:=[]) (ars:=[.bool neg,.sl c 0 acc.length 1 none]) (C.uR _ _) (Pv (cap:=none) C.ft C.dU neg hc hp (d9 _) ac be);have hcn:c≠0:=bS;obtain⟨v0,k0,o0⟩:=Px (K:=K.put 0 (some (.cells [.bool (neg && decide (0<aQ (acc.take acc.length))),bE c (aQ (acc.take acc.length)) none] 162))) (neg:=neg) (pr hcn hc) oA;have k0:=k0.uQ;rw[hv]at k0;have hone:cI (bE c (aQ (acc.take acc.length)) none)=true:=by unfold bE;split <;> rfl
        unfold rV;exact gg11
      grind
  . have hm1:1<=m:=by omega
    have hl2:acc.length<=2:=by
     refine g9 fun h=>?_
     have:acc.length=3:=by omega
     rw[this]at hlt;simp at hlt;omega
    have hmod:=ahy (neg:=neg) hm;have hdiv:=ahz (neg:=neg) hm;obtain⟨r,hr⟩:∃r,r=m%1000000000:=⟨_,rfl⟩;obtain⟨q,hq⟩:∃q,q=m/1000000000:=⟨_,rfl⟩;rw[←hr]at hmod;rw[←hq]at hdiv;have hroom:(acc.length+1)*8<=cz:=by unfold cz;omega
    have hnz:bP neg m≠0:=by cases neg <;> simp[bP] <;> omega
    have hrange : -9223372036854775808<=bP neg m/\bP neg m<9223372036854775808:=by
     cases neg <;> simp[bP]at hn ⊢ <;> omega
    have next:∀(o':AV) H a4 lo wr Q,bj iC 1 3 H o' (acc++[r]) [0]->H.at 0=some (.cells [.bool false,.ab] 162)->LI (fun st=>∃k',k'<k/\∃m acc o a4 K lo wr,st=⟨⟨[.iV (bP neg m),.ptr 0 0,o,.bool neg,a4],lo,K,[]⟩,wr⟩/\0<=m/\k'=m.toNat/\m<=m0/\(acc=[]->o = .ab)/\acc.length<=3/\m<dB^(3-acc.length)/\okW dB acc/\WV dB acc+dB^acc.length*m=m0/\bj iC 1 3 K o acc [0]/\K.at 0=some (.cells [.bool false,.ab] 162)) Q .normal ⟨⟨[.iV (bP neg q),.ptr 0 0,o',.bool neg,a4],lo,H,[]⟩,wr⟩:=fun o' H a4 lo wr Q ho' hH=>
     bW ⟨q.toNat,ac,q,acc++[r],o',a4,H,lo,wr,rfl,ac,rfl,ac,fun h=>by simp at h,bS,by
      have e:dB^(3-acc.length)=dB^(3-(acc++[r]).length)*dB:=by
       rw[←dN,f8,d6];congr 1;omega
      grind,jV oA (fun z hz=>by grind),by
      rw[gh,f8,d6,dN,←hv];have e1:WV dB [r]=r:=by simp[WV]
      grind,ho',hH⟩
    have hr9:0<=r/\r<1000000000:=by omega
    have fin:∀rv,rv=r->∀(o':AV) H a4 lo wr Q,bj iC 1 3 H o' (acc++[rv]) [0]->H.at 0=some (.cells [.bool false,.ab] 162)->LI (fun st=>∃k',k'<k/\∃m acc o a4 K lo wr,st=⟨⟨[.iV (bP neg m),.ptr 0 0,o,.bool neg,a4],lo,K,[]⟩,wr⟩/\0<=m/\k'=m.toNat/\m<=m0/\(acc=[]->o = .ab)/\acc.length<=3/\m<dB^(3-acc.length)/\okW dB acc/\WV dB acc+dB^acc.length*m=m0/\bj iC 1 3 K o acc [0]/\K.at 0=some (.cells [.bool false,.ab] 162)) Q .normal ⟨⟨[.iV (bP neg q),.ptr 0 0,o',.bool neg,a4],lo,H,[]⟩,wr⟩:=bS;clear next
    obtain⟨d,hd⟩:∃d,d=bP neg r:=⟨_,rfl⟩;rw[←hd]at hmod;by_cases hdn:d<0
    . have e:0-d=r:=by cases neg <;> simp[bP]at hd <;> omega
      unfold rV;exact gg18
    . have e:d=r:=by cases neg <;> simp[bP]at hd <;> omega
      unfold rV;repeat' first|(apply amD (v:=d);rfl;rfl;omega;exact hmod)|(apply amk (v:=bP neg q);rfl;rfl;exact hrange;omega;exact hdiv)|(refine bj.app (f:=iC) (m:=[d]) (S:=[0]) (fun _=>rfl) (fun _=>rfl) am (ho.grow [_]) be rfl rfl (Sl.gN (f:=iC) (esz:=1) (l:=[d]) (e:=3) (fun _=>rfl) cC rfl) hroom (fun H w' o' ho' hk hlen=>?_))|(apply abd;rfl;rfl)|(apply acr;rfl;rfl)|refine gc ?_|(intro _;omega)|intro _
      all_goals try omega
      all_goals exact fin _ e _ _ _ _ _ _ ho' (hk 0 _ be (cE hK)))
 exact⟨v0,h0,v,hh,ho,hr⟩
theorem ahE (hft:M.FT=FT)(b:List Int)(q218:∀h,M.ext 218 [.ab,.vs (an b) b.length c2] h=some ⟨.iV (-1),h,[]⟩):aV M 195 [.ab,.vs (an b) b.length c2] [] ⟨.au [.ab,.ab],[],[]⟩:=by
 refine bH (by rw[hft];exact Ph) be ?_;unfold Gs;simp only[enter];exact gg0
structure Qv (M:aw):Prop where
 ft:M.FT=FT
 kV:∀(x:AV) (a b:List Int),cL x a->okW dB a->okW dB b->aN a->aN b->a.length<100000->b.length<100000->b≠[]->∃qv q rv r,cL qv q/\cL rv r/\okW dB q/\aN q/\okW dB r/\aN r/\WV dB q=WV dB a/WV dB b/\WV dB r=WV dB a%WV dB b/\∀h,M.ext 195 [x,.vs (an b) b.length none] h=some ⟨.au [qv,rv],h,[]⟩
theorem ahF (C:Qv M){x y:AV}(a b:List Int)(hx:cL x a)(hy:cL y b)(oa:okW dB a)(ob:okW dB b)(na:aN a)(nb:aN b)(la:a.length<100000)(lb:b.length<100000) :
 ∃gv g,cL gv g/\okW dB g/\aN g/\WV dB g=(b6 (WV dB a) (WV dB b):Nat)/\g.length<100000/\cQ M 155 [x,y] gv:=by
 obtain⟨v,hh,⟨gv,g,ig,og,ng,vg,lg,ho⟩,hr⟩:=gO (M:=M) (f:=155) (ars:=[x,y]) (P:=fun v hh=>∃gv g,cL gv g/\okW dB g/\aN g/\WV dB g=(b6 (WV dB a) (WV dB b):Nat)/\g.length<100000/\dZ v hh gv) (by rw[C.ft];exact Pg) be (by
  unfold Gr;simp only[enter];repeat' first|refine gc ?_|fail
  refine W.gP (fun m st=>∃A B xA y a3 lo wr,st=⟨⟨[xA,y,.ab,a3],lo,[],[]⟩,wr⟩/\cL xA A/\cL y B/\m=(WV dB B).toNat/\okW dB A/\aN A/\A.length<100000/\okW dB B/\aN B/\B.length<100000/\b6 (WV dB A) (WV dB B)=b6 (WV dB a) (WV dB b))
   (fun m st ⟨A,B,xA,y,a3,lo,wr,hst,hxA,hy,hm,oA,nA,lA,oB,nB,lB,hg⟩=>?_) (m:=(WV dB b).toNat) ⟨a,b,x,y,_,_,_,rfl,hx,hy,rfl,oa,na,la,ob,nb,lb,rfl⟩
  subst hst;by_cases hB:B=[]
  . subst hB;have hl0:([]:List Int).length=0:=rfl;obtain⟨_,t1,k1⟩:=uS xA hxA;have fin:dZ (aW [xA]) (if (aW [xA]).top<=0 then [] else []) xA:=.same t1 k1;have hv:WV dB A=(b6 (WV dB a) (WV dB b):Nat):=by
     rw[←hg];have:=cB (b:=dB) am oA;show WV dB A=(b6 (WV dB A) 0:Nat);rw[iy];omega
    rcases hy with rfl|⟨rfl,_⟩;all_goals
    . unfold uM;exact gg1
  . obtain rfl:y = .vs (an B) B.length none:=hy.resolve_right fun h=>hB h.2
    have hBl:0<B.length:=b8.2 hB;have hBp:=(jN (b:=dB) am oB nB).2 hB;have hA0:=cB (b:=dB) am oA;obtain⟨qv,q,rv,r,hq,hr,_,_,or_,nr,vq,vr,q195⟩:=C.kV xA A B hxA oA oB nA nB lA lB hB;have r1:=iz (WV dB A) hBp;have r0:=j1 (WV dB A) (show WV dB B≠0 by omega);have lr:r.length<=B.length:=gk (b:=dB) am or_ nr (Int.lt_trans (by rw[vr];exact r1) (dg am oB));have hg2:b6 (WV dB B) (WV dB r)=b6 (WV dB a) (WV dB b):=by
     rw[←hg,vr,EK]
    unfold uM;repeat' first|(apply aev;rfl;rfl)|refine gd0 ?_|refine gc ?_|(intro _;omega)|intro _
    all_goals try omega
    all_goals exact bW ⟨(WV dB r).toNat,by rw[vr];omega,B,r,_,rv,_,_,_,rfl,.inl rfl,hr,rfl,oB,nB,lB,or_,nr,ac,hg2⟩)
 exact⟨gv,g,ig,og,ng,vg,lg,v,hh,ho,hr⟩
theorem ahG (hft:M.FT=FT)(s:ah)(_hl:s.length<1000000)(hb:km s=false)(q153:∀h,M.ext 153 [.str s] h=some ⟨.iV (cn s),h,[]⟩){v1 v2:AV}{z1 z2:Int}(k1:bU v1 z1)(k2:bU v2 z2)(qa:∀h,M.ext 193 [.str s] h=some ⟨v1,h,[]⟩)(qb:∀h,M.ext 139 [.iV 1] h=some ⟨v2,h,[]⟩):cQ M 135 [.str s] (.au [v1,v2]):=by
 have hk:cn s=s.length:=by
  unfold cn;have hn:(bK 47 s).2=none:=by
   unfold km at hb;cases h:(bK 47 s).2 with
   | none=>rfl
   | some y=>rw[h]at hb;cases hb
  rw[(oh hn).1]
 rw[hk]at q153;obtain⟨n1,x1,l1,rfl,_,o1,t1,b1⟩:=k1.shape;obtain⟨n2,x2,l2,rfl,_,o2,t2,b2⟩:=k2.shape;refine cR (by rw[hft];exact Pd) be ?_;unfold Gp;simp only[enter];refine gg14 ?_;refine cN rfl rfl (.same ?_ ?_)
 . show max (max 0 (max x1.top 0)) (max (max 0 (max x2.top 0)) 0)=0;rw[t1,t2];rfl
 . show AV.au [.agg [.bool n1,bL x1],.agg [.bool n2,bL x2]]=_;rw[b1,b2]
structure uX (M:aw)(N:Nat):Prop where
 ft:M.FT=FT
 uY:∀{a z},bU a z->aj z<dB^N->∃v0,bU v0 (-z)/\∀h,M.ext 194 [a] h=some ⟨v0,h,[]⟩
 qp:∀{x y:AV} (a b:List Int),cL x a->cL y b->okW dB a->okW dB b->aN a->aN b->a.length<100000->b.length<100000->∃gv g,cL gv g/\okW dB g/\aN g/\WV dB g=(b6 (WV dB a) (WV dB b):Nat)/\g.length<100000/\∀h,M.ext 155 [x,y] h=some ⟨gv,h,[]⟩
 kV:∀(x:AV) (a b:List Int),cL x a->okW dB a->okW dB b->aN a->aN b->a.length<100000->b.length<100000->b≠[]->∃qv q rv r,cL qv q/\cL rv r/\okW dB q/\aN q/\okW dB r/\aN r/\WV dB q=WV dB a/WV dB b/\WV dB r=WV dB a%WV dB b/\∀h,M.ext 195 [x,.vs (an b) b.length none] h=some ⟨.au [qv,rv],h,[]⟩
 ko:∀neg x l,cL x l->okW dB l->l.length<1000000000->∃v0,bU v0 (bP neg (WV dB l))/\∀h,M.ext 196 [.bool neg,x] h=some ⟨v0,h,[]⟩
 uZ:∀{a z} h,bU a z->aj z<dB^N->M.ext 138 [a] h=some ⟨.str (bM z),h,[]⟩
def vc (res:List fA)(r:AV)(e:Ex)(s:aq):Prop:=(e = .normal\/e = .ret)/\s.s.bV=[]/\∃vs,dx s.s res=some vs/\aW vs=r/\(if r.top<=0 then [] else s.s.hp)=[]
theorem Hc {neg:Bool}{z:Int}(h:0<=z):aj (bP neg z)=z:=by
 unfold aj bP;omega
theorem Hd {z:Int}(h:0<=z):bM z=aS z.toNat:=if_neg ac
theorem ahH {neg:Bool}{a b:Int}(hb:0<b):(b5 (bP neg a) b).num=bP neg (a/(b6 a b:Nat))/\((b5 (bP neg a) b).den:Int)=b/(b6 a b:Nat):=by
 obtain⟨k1,k2,e1,e2,e3,e4⟩:=yi (n:=bP neg a) hb;have hg:b6 (bP neg a) b=b6 a b:=by cases neg <;> simp[bP]
 rw[hg]at e1 e2;have g0:((b6 a b:Nat):Int)≠0:=by
  have:=c3 a (show b≠0 by omega);omega
 rw[e3,e4];constructor
 . cases neg with
   | false=>
    have e1:a=(b6 a b:Nat)*k1:=e1;show k1=a/_;exact(c7 g0 e1).symm
   | true=>
    have e1 : -a=(b6 a b:Nat)*k1:=e1;show k1 = -(a/_);rw[c7 g0 (show a=(b6 a b:Nat)*(-k1) by rw[Int.mul_neg,←e1];omega)];omega
 . exact(c7 g0 e2).symm
theorem ID (C:uX M N)(hN:N<100000){neg:Bool}{x y:AV}{l m:List Int}(hx:cL x l)(hy:cL y m)(ol:okW dB l)(om:okW dB m)(nl:aN l)(nm:aN m)(ll:l.length<=N)(lm:m.length<=N)(hm:m≠[])(a0 a1 a5 a6 a7 a8:AV)(lo:List (Nat×AV))(wr:List Nat) :
 W M t136 ⟨⟨[a0,a1,.ptr 0 0,.ptr 1 0,.str [],a5,a6,a7,a8],lo,[some (.cells [.bool neg,x] 162),some (.cells [.bool false,y] 162)],[]⟩,wr⟩ (vc [.var (.p 4)] (.str (ao (b5 (bP neg (WV dB l)) (WV dB m))))):=by
 have m0:=(jN (b:=dB) am om nm).2 hm;have l0:=cB (b:=dB) am ol;obtain⟨en,ed⟩:=ahH (neg:=neg) (a:=WV dB l) m0;obtain⟨gv,g,hg,og,ng,vg,lg,q155⟩:=C.qp l m hx hy ol om nl nm ac ac;have g0:0<WV dB g:=by
  rw[vg];have:=c3 (WV dB l) (show WV dB m≠0 by omega);omega
 have hg1:g≠[]:=(jN (b:=dB) am og ng).1 g0;obtain rfl:gv = .vs (an g) g.length none:=hg.resolve_right bS;obtain⟨pv,p,_,_,hp,_,op,np,_,_,vp,_,qa⟩:=C.kV x l g hx ol og nl ng ac lg hg1;obtain⟨qv,q,_,_,hq,_,oq,nq,_,_,vq,_,qb⟩:=C.kV y m g hy om og nm ng ac lg hg1;rw[vg]at vp vq;rw[←vp]at en;rw[←vq]at ed;have lw:∀{r:List Int},r.length<=N->okW dB r->WV dB r<dB^N:=fun h o=>i4 (dg am o) (gS am h)
 have le_div:∀{a b:Int},0<=a->0<b->a/b<=a:=fun h1 h2=>jU _ h1
 have p0:=cB (b:=dB) am op;have q0:=cB (b:=dB) am oq;have lp:WV dB p<dB^N:=bS;have lq:WV dB q<dB^N:=i5 (by rw[vq];exact jU _ ac) (lw lm om);have ln:=gk (b:=dB) am op np lp;have lk:=gk (b:=dB) am oq nq lq;obtain⟨v1,k1,q1⟩:=C.ko neg pv p hp op ac;have t1:=fun h=>C.uZ h k1 (by rw[Hc p0];exact lp)
 obtain⟨v2,k2,q2⟩:=C.ko false qv q hq oq ac;have t2:=fun h=>C.uZ h k2 (by rw[Hc q0];exact lq)
 rw[←en]at t1;rw[show bP false (WV dB q)=((b5 (bP neg (WV dB l)) (WV dB m)).den:Int) from ed.symm,Hd ac,ce]at t2;have hd0:=(b5 (bP neg (WV dB l)) (WV dB m)).den_pos;have hq1:q≠[]:=fun h=>by subst h;simp[WV]at ed;omega
 obtain rfl:qv = .vs (an q) q.length none:=hq.resolve_right bS;have hs:ao (b5 (bP neg (WV dB l)) (WV dB m))=if q=[1] then bM (b5 (bP neg (WV dB l)) (WV dB m)).num else bM (b5 (bP neg (WV dB l)) (WV dB m)).num++47::aS (b5 (bP neg (WV dB l)) (WV dB m)).den:=by
  have:=PK oq nq;rw[←ed]at this;unfold ao;by_cases h:q=[1]
  . grind
  . grind
 rw[hs];have hN1:0<9*N:=by
  have:=b8.2 hm;omega
 have e9:(dB:Int)^N=10^(9*N):=by rw[←Pw];exact(by rfl)
 have lA:=OR hN1 (z:=(b5 (bP neg (WV dB l)) (WV dB m)).num) (by rw[en,Hc p0,←e9];exact lp);generalize bM (b5 (bP neg (WV dB l)) (WV dB m)).num=A at *
 have lB:(aS (b5 (bP neg (WV dB l)) (WV dB m)).den).length<2000000:=by
  have:=zU (k:=9*N) hN1 (z:=WV dB q) (by rw[cH q0,←e9];exact lq);rw[cH q0,←ed,ce]at this;omega
 generalize aS (b5 (bP neg (WV dB l)) (WV dB m)).den=B at *
 clear hs;have ap:A++47::B=A++[47]++B:=by simp
 unfold t136;have hcase:q=[1]\/q.length≠1\/q.length=1/\q[d8 0]! ≠ 1:=by
  match q,hq1 with
  | [x],_=>
   grind
  | x::y::r,_=>simp
 rcases hcase with rfl|hc|⟨hc,hc2⟩
 . rw[if_pos rfl];have e1:([1]:List Int).length=1:=rfl;have e2:([1]:List Int)[d8 0]! = 1:=rfl;exact gg0
 . rw[if_neg bS,ap];exact gg0
 . rw[if_neg bS,ap];exact gg0
theorem Qw (C:uX M N)(hN:N<100000){a b:AV}{za zb:Int}(ha:bU a za)(hb:bU b zb)(la:aj za<dB^N)(lb:aj zb<dB^N)(hz:zb≠0):aV M 136 [a,b] [] ⟨.str (ao (b5 za zb)),[],[]⟩:=by
 have ha':=ha;have hb':=hb;obtain⟨na,x,l,rfl,hx,ol,nl,ll,ea,_,_⟩:=ha.abs la;obtain⟨nb,y,m,rfl,hy,om,nm,lm,eb,_,hn⟩:=hb.abs lb;have hm:m≠[]:=fun h=>by subst h;cases nb <;> simp[bP,WV]at eb <;> omega
 refine bH (by rw[C.ft];exact ahd) be ?_;cases nb with
 | false=>
  rw[ea,show zb=WV dB m from eb];unfold GS;simp only[enter];exact gg7
 | true=>
  obtain⟨v1,k1,q1⟩:=C.uY ha' la;obtain⟨v2,k2,q2⟩:=C.uY hb' lb;obtain⟨n1,x1,l1,rfl,hx1,ol1,nl1,ll1,ea1,_,_⟩:=k1.abs (N:=N) (by rw[jR];exact la);obtain⟨n2,x2,m1,rfl,hy1,om1,nm1,lm1,eb1,_,hn1⟩:=k2.abs (N:=N) (by rw[jR];exact lb);have o1:=(uS x1 hx1).1;have o2:=(uS x2 hy1).1;have m0:=(jN (b:=dB) am om nm).2 hm;have e2:zb = -WV dB m:=eb;have m1p:=cB (b:=dB) am om1;have hm1:m1≠[]:=fun h=>by subst h;cases n2 <;> simp[bP,WV]at eb1 <;> omega
  cases n2 with
  | true=>
   have : -zb = -WV dB m1:=eb1;omega
  | false=>
  rw[←i6,ea1,show -zb=WV dB m1 from eb1];unfold GS;simp only[enter];exact gg7
theorem ahI (hft:M.FT=FT)(a b:Nat)(ha:a<9223372036854775808)(hb:b<9223372036854775808):aV M 158 [.iV a,.iV b] [] ⟨.iV (fT a b:Nat),[],[]⟩:=by
 refine bH (by rw[hft];exact ahb) be ?_;unfold Qe;simp only[enter];repeat' first|refine gc ?_|fail
 refine W.gP (fun m st=>∃(A B:Nat) (lo:List (Nat×AV)) (wr:List Nat),st=⟨⟨[.iV A,.iV B,.iV 0],lo,[],[]⟩,wr⟩/\m=B/\A<9223372036854775808/\B<9223372036854775808/\fT A B=fT a b) (fun m st ⟨A,B,lo,wr,hst,hm,hA,hB,hg⟩=>?_) (m:=b) ⟨a,b,_,_,rfl,rfl,ha,hb,rfl⟩;subst hst;unfold Qd;rcases Nat.eq_zero_or_pos B with rfl|hp
 . rw[Nat.gcd_zero_right]at hg;rw[←hg];exact gg1
 . have hlt:=Nat.mod_lt A hp;have hn:fT B (A%B)=fT a b:=by rw[←hg,Nat.gcd_comm A B,Nat.gcd_rec B A,Nat.gcd_comm]
   have e:((A:Int)%(B:Int))=((A%B:Nat):Int):=rfl;exact gg2
structure He (M:aw)(N:Nat):Prop extends uX M N where
 Qx:∀(a b:Nat) h,a<9223372036854775808->b<9223372036854775808->M.ext 158 [.iV a,.iV b] h=some ⟨.iV (fT a b:Nat),h,[]⟩
 Hf:∀(n:Nat) h,n<9223372036854775808->M.ext 117 [.iV (n:Nat),.iV 1] h=some ⟨.str (aS n),h,[]⟩
 Hg:∀n:Int,-9223372036854775808<=n/\n<9223372036854775808->∃v0,bU v0 n/\∀h,M.ext 139 [.iV n] h=some ⟨v0,h,[]⟩
 qq:∀{a b za zb} h,bU a za->bU b zb->aj za<dB^N->aj zb<dB^N->zb≠0->M.ext 136 [a,b] h=some ⟨.str (ao (b5 za zb)),h,[]⟩
theorem AG (q:Rat):ao q=(if q.num<0 then [45] else [])++aS q.num.natAbs++(if 1<q.den then 47::aS q.den else []):=by
 have:=q.den_pos;have e:bM q.num=(if q.num<0 then [45] else [])++aS q.num.natAbs:=by
  unfold bM;split
  . rw[show (-q.num).toNat=q.num.natAbs by omega];rfl
  . rw[show q.num.toNat=q.num.natAbs by omega];rfl
 unfold ao;by_cases h:q.den=1
 . rw[if_pos h,if_neg (show ¬1<q.den by omega),e,List.append_nil]
 . rw[if_neg h,if_pos (show 1<q.den by omega),e]
theorem Iw (C:He M N){n d:Int}(hd:0<d/\d<=4000000000000000000)(hn : -4000000000000000000<=n/\n<=4000000000000000000)(a3 a4:AV)(lo:List (Nat×AV))(wr:List Nat) :
 W M t78 ⟨⟨[.iV n,.iV d,.str [],a3,a4],lo,[],[]⟩,wr⟩ (vc [.var (.p 2)] (.str (ao (b5 n d)))):=by
 obtain⟨k1,k2,e1,e2,e3,e4⟩:=yi (n:=n) hd.1;have g0:=c3 n (show d≠0 by omega);have eg:fT n.natAbs d.natAbs=b6 n d:=rfl;have q158:=fun h=>C.Qx n.natAbs d.natAbs h ac ac
 rw[show ((d.natAbs:Nat):Int)=d by omega,eg]at q158;have hle:((b6 n d:Nat):Int)<=d:=Int.le_of_dvd hd.1 (Int.gcd_dvd_right _ _);have hv1:n.tdiv (b6 n d:Nat)=(b5 n d).num:=by
  rw[e3];conv=>lhs;arg 1;rw[e1]
  exact gF _ ac
 have hv2:d.tdiv (b6 n d:Nat)=((b5 n d).den:Int):=by
  rw[e4];conv=>lhs;arg 1;rw[e2]
  exact gF _ ac
 have hs:=AG (b5 n d);have b1:(b5 n d).num.natAbs<=n.natAbs:=by
  rw[←hv1,j4];exact hZ _ _
 have b2:(b5 n d).den<=d.natAbs:=by
  have:=j4 d (b6 n d:Nat);rw[hv2,Int.natAbs_natCast]at this;rw[this];exact hZ _ _
 rw[hs];generalize (b5 n d).num=P at *
 generalize (b5 n d).den=D at *
 generalize b6 n d=g at *
 have t1:=fun h=>C.Hf P.natAbs h ac
 have t2:=fun h=>C.Hf D h ac
 have l1:=pU (n:=P.natAbs) (k:=19) (c8 b1 (by rw[Hb];omega)) am;have l2:=pU (n:=D) (k:=19) (c8 b2 (by rw[Hb];omega)) am;generalize aS P.natAbs=A at *
 generalize aS D=B at *
 unfold t78;repeat' first|(apply akJ (m:=(n.natAbs:Int));rfl;rfl;omega)|(apply akJ (m:=(P.natAbs:Int));rfl;rfl;omega)|(apply amk;rfl;rfl;omega;omega;first|exact hv1|exact hv2)|(apply abd;rfl;rfl)|(apply aev;rfl;rfl)|refine gd0 ?_|refine gc ?_|(intro _;omega)|intro _
 all_goals try omega
 all_goals refine⟨.inr rfl,rfl,_,rfl,?_,rfl⟩
 all_goals
  rename_i u1 u2;first|rw[if_pos u1]|rw[if_neg ac]
  first|rw[if_pos ac]|rw[if_neg ac]
  simp[aW]
theorem Qy (hN:3<=N){n:Int}(h : -9223372036854775808<=n/\n<9223372036854775808):aj n<dB^N:=by
 have h1:aj n<dB^3:=by rw[ahC];unfold aj;split <;> omega
 exact i4 h1 (gS am hN)
theorem w78 (C:He M N)(hN:3<=N){n d:Int}(hn : -9223372036854775808<=n/\n<9223372036854775808)(hd : -9223372036854775808<=d/\d<9223372036854775808)(h0:d≠0):aV M 78 [.iV n,.iV d] [] ⟨.str (ao (b5 n d)),[],[]⟩:=by
 obtain⟨v1,k1,q1⟩:=C.Hg n hn;obtain⟨v2,k2,q2⟩:=C.Hg d hd;have q3:=fun h=>C.qq h k1 k2 (Qy hN hn) (Qy hN hd) h0
 refine bH (by rw[C.ft];exact ahe) be ?_;show W M GU _ (vc _ _);unfold GU;simp only[enter];by_cases hs:(-4000000000000000000<=n/\n<=4000000000000000000) /\ -4000000000000000000<=d/\d<=4000000000000000000
 . by_cases hp:0<d
   . exact gg3
   . rw[←i6];have e1:0-n = -n:=by omega
     have e2:0-d = -d:=by omega
     have tl:=fun a3 a4 lo wr=>Iw C (n:=-n) (d:=-d) ⟨ac,ac⟩ ⟨ac,ac⟩ a3 a4 lo wr
     rw[←e1,←e2]at tl;rw[←e1,←e2];exact gg3
 . exact gg3
def Qz:ak:=zR [⟨.p 1,.mv (.c (.str [])),none⟩] (.seq (zR [zm 3 0,z1 4 140 3,zc 5 .lss 4 0] (.cond (.l 5) (zR [zm 6 0,⟨.l 7,.slice .str 1 (.l 6) (some (kI 1)) none none,none⟩,zw 1 7] (.ret)) (.skip))) (zR [zm 8 0,zw 1 8] (.ret)))
theorem ahK:FT 56=some ⟨9,[0,2],[.var (.p 1)],Qz⟩:=by kernel_rfl
def QA:ak:=zR [zi 1 0] (.seq (zR [zm 3 0,z1 4 142 3,z1 5 56 4,zL 6 5,zc 7 .gtr 6 600,zn 8 7,zg (zm 9 0) 8 false,zg (z1 10 143 9) 8 false,zg (zL 11 10) 8 false,zg (zc 12 .gtr 11 600) 8 false,zP 13 8 12] (.cond (.l 13) (zR [zi 1 4] (.ret)) (.skip))) (zR [zi 1 0] (.ret)))
theorem ahL:FT 108=some ⟨14,[0,2],[.var (.p 1)],QA⟩:=by kernel_rfl
def QB:ak:=zR [⟨.p 1,.mv (.c (.str [])),none⟩] (zR [zm 3 0,zm 4 0,z1 5 153 4,⟨.l 6,.slice .str 1 (.l 3) none (some (.l 5)) none,none⟩,zw 1 6] (.ret))
theorem ahM:FT 142=some ⟨7,[0,2],[.var (.p 1)],QB⟩:=by kernel_rfl
def QC:ak:=zR [⟨.p 1,.mv (.c (.str [])),none⟩] (zR [zm 4 0,z1 5 153 4,zw 2 5] (.seq (zR [zm 6 2,zm 7 0,zL 8 7,zb 9 .eql 6 8] (.cond (.l 9) (zR [⟨.p 1,.mv (.c (.str [49])),none⟩] (.ret)) (.skip))) (zR [zm 10 0,zm 11 2,zc 12 .add 11 1,⟨.l 13,.slice .str 1 (.l 10) (some (.l 12)) none none,none⟩,zw 1 13] (.ret))))
theorem ahN:FT 143=some ⟨14,[0,2,3],[.var (.p 1)],QC⟩:=by kernel_rfl
theorem vd (q:Rat):ao q≠[]:=fun h=>by
 have:=AG q;rw[h]at this;have:=congrArg j0 this;have:=b8.2 (rO q.num.natAbs);simp at *
 omega
theorem QD (q:Rat):0<(ao q).length/\(((ao q)[d8 0]!).toNat:Int)=45↔q.num<0:=by
 have h:=(qj q).1;have h0:=vd q;generalize ao q=s at *
 cases s with
 | nil=>exact absurd rfl h0
 | cons c t=>
  rw[preB,List.head?_cons,decide_eq_decide]at h;rw[←h];show 0<t.length+1/\((c.toNat:Int)=45)↔some c=some 45;constructor
  . intro h;rw[show c=45 from j3.1 (by have:=h.2;have e:(45:UInt8).toNat=45:=rfl;omega)]
  . intro h;cases h;exact⟨ac,rfl⟩
theorem Hh {q:Rat}(h:q.num<0):ao q=45::ao (-q):=by
 rw[AG,AG,Rat.neg_num,Rat.neg_den,if_pos h,if_neg (show ¬ -q.num<0 by omega),Int.natAbs_neg];simp
theorem ahO {q:Rat}(h:0<q.num):ao (-q)=45::ao q:=by
 have:=Hh (q:=-q) (by rw[Rat.neg_num];omega);rw[Rat.neg_neg]at this;exact this
theorem ve {q:Rat}:q.num=0↔q=0:=Rat.num_eq_zero
theorem ahP (hft:M.FT=FT)(q:Rat):aV M 140 [.str (ao q)] [] ⟨.iV (bz q.num),[],[]⟩:=by
 refine bH (by rw[hft];exact ahf) be ?_;unfold Qi;simp only[enter];by_cases h0:q.num=0
 . rw[h0,ve.1 h0,Gi];exact gg11
 . have hne:ao q≠[48]:=fun h=>h0 (ve.2 (afj h))
   have hl:=b8.2 (vd q);have hh:=QD q;unfold bz;by_cases hn:q.num<0
   . rw[if_pos hn];obtain⟨_,h45⟩:=hh.2 hn;generalize ao q=s at *
     repeat' first|(apply aev;rfl;rfl)|(apply aeJ;rfl;rfl)|(apply agL;rfl;rfl;all_goals first|(intro h;exact absurd h am)|(intro h;exact absurd rfl h)|(intro h;contradiction)|intro _)|refine gc ?_|(intro _;omega)|intro _
     all_goals try omega
     all_goals exact⟨.inr rfl,rfl,_,rfl,rfl,rfl⟩
   . rw[if_neg hn,if_pos (show 0<q.num by omega)];have h45:¬(((ao q)[d8 0]!).toNat:Int)=45:=fun h=>hn (hh.1 ⟨hl,h⟩)
     generalize ao q=s at *
     repeat' first|(apply aev;rfl;rfl)|(apply aeJ;rfl;rfl)|(apply agL;rfl;rfl;all_goals first|(intro h;exact absurd h am)|(intro h;exact absurd rfl h)|(intro h;contradiction)|intro _)|refine gc ?_|(intro _;omega)|intro _
     all_goals try omega
     all_goals exact⟨.inr rfl,rfl,_,rfl,rfl,rfl⟩
theorem ahQ (hft:M.FT=FT){q:Rat}(hl:(ao q).length<1000000)(q140:∀h,M.ext 140 [.str (ao q)] h=some ⟨.iV (bz q.num),h,[]⟩):aV M 141 [.str (ao q)] [] ⟨.str (ao (-q)),[],[]⟩:=by
 refine bH (by rw[hft];exact ahg) be ?_;have h0:=b8.2 (vd q);unfold Qj;simp only[enter];by_cases hn:q.num<0
 . have e:=Hh hn;have e1:(ao q).drop (d8 1)=ao (-q):=by rw[e];rfl
   have e2:bz q.num = -1:=if_pos hn;rw[e2]at q140;generalize ao (-q)=t at *
   generalize ao q=s at *
   exact gg3
 . by_cases hz:q.num=0
   . have e:=ve.1 hz;subst e;have e2:bz (0:Rat).num=0:=rfl;rw[e2]at q140;rw[show (-0:Rat)=0 by simp];generalize ao 0=s at *
     exact gg0
   . have e:=ahO (show 0<q.num by omega);have e2:bz q.num=1:=by unfold bz;rw[if_neg hn,if_pos ac]
     rw[e2]at q140;rw[e];generalize ao q=s at *
     have l1:([45]:ah).length=1:=rfl;exact gg0
theorem w56 (hft:M.FT=FT){q:Rat}(q140:∀h,M.ext 140 [.str (ao q)] h=some ⟨.iV (bz q.num),h,[]⟩):aV M 56 [.str (ao q)] [] ⟨.str (ao (if q.num<0 then -q else q)),[],[]⟩:=by
 refine bH (by rw[hft];exact ahK) be ?_;have h0:=b8.2 (vd q);unfold Qz;simp only[enter];by_cases hn:q.num<0
 . have e1:(ao q).drop (d8 1)=ao (-q):=by rw[Hh hn];rfl
   have e2:bz q.num = -1:=if_pos hn;rw[e2]at q140;rw[if_pos hn];generalize ao (-q)=t at *
   generalize ao q=s at *
   exact gg3
 . have e2:0<=bz q.num:=by unfold bz;rw[if_neg hn];split <;> omega
   rw[if_neg hn];generalize ao q=s at *
   generalize bz q.num=z at *
   exact gg0
theorem qs (q:Rat):cn (ao q)=(bM q.num).length/\(ao q).take (cn (ao q))=bM q.num/\(cn (ao q)=(ao q).length↔q.den=1)/\(q.den≠1->(ao q).drop (cn (ao q)+1)=aS q.den/\cn (ao q)+1<=(ao q).length)/\km (ao q)=decide (q.den≠1)/\bK 47 (ao q)=(bM q.num,if q.den=1 then none else some (aS q.den)):=by
 have e:bK 47 (ao q)=(bM q.num,if q.den=1 then none else some (aS q.den)):=by
  unfold ao;split
  . exact uA (zB _)
  . exact uB (zB _)
 have e1:cn (ao q)=(bM q.num).length:=by unfold cn;rw[e]
 refine⟨e1,?_,?_,?_,?_,e⟩
 . rw[e1];unfold ao;split <;> simp
 . rw[e1];unfold ao;split <;> simp[*]
 . intro h;rw[e1];unfold ao;rw[if_neg h];constructor
   . rw[show bM q.num++47::aS q.den=(bM q.num++[47])++aS q.den by simp,List.drop_append_of_le_length be];simp
   . simp
 . unfold km;rw[e];by_cases h:q.den=1 <;> simp[h]
theorem sd (z:Int):ao (z:Rat)=bM z:=by
 unfold ao;rw[if_pos (ii z),ip]
theorem ahS (hft:M.FT=FT){q:Rat}(q153:∀h,M.ext 153 [.str (ao q)] h=some ⟨.iV (cn (ao q)),h,[]⟩):aV M 142 [.str (ao q)] [] ⟨.str (bM q.num),[],[]⟩:=by
 refine bH (by rw[hft];exact ahM) be ?_;obtain⟨_,e,_⟩:=qs q;have hk:=uO (ao q);have e':(ao q).take ((cn (ao q):Nat):Int).toNat=bM q.num:=e;generalize bM q.num=t at *
 generalize ao q=s at *
 unfold QB;simp only[enter];exact gg11
theorem ahT:aS 1=[49]:=iX am
theorem ahU (hft:M.FT=FT){q:Rat}(hl:(ao q).length<1000000)(q153:∀h,M.ext 153 [.str (ao q)] h=some ⟨.iV (cn (ao q)),h,[]⟩):aV M 143 [.str (ao q)] [] ⟨.str (aS q.den),[],[]⟩:=by
 refine bH (by rw[hft];exact ahN) be ?_;obtain⟨_,_,hd,hs,_⟩:=qs q;have hk:=uO (ao q);unfold QC;simp only[enter];by_cases h1:q.den=1
 . have e:=hd.2 h1;rw[h1];generalize ao q=s at *
   repeat' first|(apply aeJ;rfl;rfl)|refine gd0 ?_|refine gc ?_|(intro _;omega)|intro _
   all_goals try omega
   all_goals exact⟨.inr rfl,rfl,_,rfl,ahT ▸ rfl,rfl⟩
 . obtain⟨e,e2⟩:=hs h1;have hne:cn (ao q)≠(ao q).length:=fun h=>h1 (hd.1 h)
   have e':(ao q).drop ((cn (ao q):Nat)+1:Int).toNat=aS q.den:=by rw[show ((cn (ao q):Nat)+1:Int).toNat=cn (ao q)+1 by omega];exact e
   generalize aS q.den=t at *
   generalize ao q=s at *
   exact gg5
theorem ahV {q:Rat}{u num:ah}{k dl:Nat}(neg:Bool)(hs:(if neg then -((aj q.num).toNat:Int) else ((aj q.num).toNat:Int))=q.num)
 (hk:k=num.length) (hkl:k<=u.length) (hu:u.length<1000000) (ht:u.take k=num) (h1:k=u.length↔q.den=1) (hd:q.den≠1->u.drop (k+1)=aS q.den/\k+1+(aS q.den).length=u.length) (hdl:dl=u.length-k)
 (q153:∀h,M.ext 153 [.str u] h=some ⟨.iV k,h,[]⟩) (qn:k<=9->∀h,M.ext 192 [.str num] h=some ⟨.iV (aj q.num).toNat,h,[]⟩) (qd:dl<=10->q.den≠1->∀h,M.ext 192 [.str (aS q.den)] h=some ⟨.iV (q.den:Nat),h,[]⟩)
 (bn:k<=9->(aj q.num).toNat<1000000000) (a0 a5 a6 a7:AV) (lo:List (Nat×AV)) (wr:List Nat) :
 W M t134 ⟨⟨[a0,.iV 0,.iV 0,.bool false,.str u,.bool neg,a5,a6,a7],lo,[],[]⟩,wr⟩ (vc [.var (.p 1),.var (.p 2),.var (.p 3)] (if k<=9/\dl<=10 then .au [.iV q.num,.iV q.den,.bool true] else .au [.iV 0,.iV 0,.bool false])):=by
 have ht':u.take ((k:Nat):Int).toNat=num:=ht;by_cases hc:k<=9/\dl<=10
 . rw[if_pos hc];have qn:=qn hc.1;have bn:=bn hc.1;by_cases hd1:q.den=1
   . have hku:=h1.2 hd1;rw[hd1];generalize (aj q.num).toNat=A at *
     generalize q.num=P at *
     unfold t134;cases neg with
     | false=>
      obtain rfl:P=A:=hs.symm;repeat' first|(apply aib (r:=num);rfl;rfl;omega;exact ht')|apply afc|apply cV|apply afl|apply afm|apply agR|apply agH|(apply ahB;rfl)|(apply ajK;rfl)|(apply abd;rfl;rfl)|(apply aev;rfl;rfl)|(apply ahX;rfl;rfl)|(apply aku;rfl;rfl;omega)|(apply acq;rfl;rfl;first|exact q153 _|exact qn _)|(apply abL;rfl;rfl)|(apply afx;rfl;rfl)|(intro _;omega)|intro _
      all_goals try omega
      all_goals exact⟨.inr rfl,rfl,_,rfl,rfl,rfl⟩
     | true=>
      have e:(0:Int)-A=P:=by rw[←hs];simp
      repeat' first|(apply aib (r:=num);rfl;rfl;omega;exact ht')|apply afc|apply cV|apply afl|apply afm|apply agR|apply agH|(apply afH;rfl)|(apply ahB;rfl)|(apply ajK;rfl)|(apply abd;rfl;rfl)|(apply aev;rfl;rfl)|(apply ahX;rfl;rfl)|(apply aku;rfl;rfl;omega)|(apply acq;rfl;rfl;first|exact q153 _|exact qn _)|(apply abL;rfl;rfl)|(apply afx;rfl;rfl)|(intro _;omega)|intro _
      all_goals try omega
      all_goals exact⟨.inr rfl,rfl,_,rfl,by rw[e];rfl,rfl⟩
   . have qd:=qd hc.2 hd1;obtain⟨e1,e2⟩:=hd hd1;have hne:k≠u.length:=ac;have e1':u.drop ((k:Nat)+1:Int).toNat=aS q.den:=by rw[show ((k:Nat)+1:Int).toNat=k+1 by omega];exact e1
     generalize aS q.den=B at *
     generalize q.den=D at *
     generalize (aj q.num).toNat=A at *
     generalize q.num=P at *
     unfold t134;cases neg with
     | false=>
      obtain rfl:P=A:=hs.symm;repeat' first|(apply aib (r:=num);rfl;rfl;omega;exact ht')|(apply aia (r:=B);rfl;rfl;omega;exact e1')|apply afc|apply cV|apply afl|apply afm|apply agR|apply agH|(apply afH;rfl)|(apply ahB;rfl)|(apply ajK;rfl)|(apply abd;rfl;rfl)|(apply aev;rfl;rfl)|(apply ahX;rfl;rfl)|(apply ajM;rfl;rfl;omega)|(apply aku;rfl;rfl;omega)|(apply acq;rfl;rfl;first|exact q153 _|exact qn _|exact qd _)|(apply abL;rfl;rfl)|(apply afx;rfl;rfl)|(intro _;omega)|intro _
      all_goals try omega
      all_goals exact⟨.inr rfl,rfl,_,rfl,rfl,rfl⟩
     | true=>
      have e:(0:Int)-A=P:=by rw[←hs];simp
      repeat' first|(apply aib (r:=num);rfl;rfl;omega;exact ht')|(apply aia (r:=B);rfl;rfl;omega;exact e1')|apply afc|apply cV|apply afl|apply afm|apply agR|apply agH|(apply afH;rfl)|(apply ahB;rfl)|(apply ajK;rfl)|(apply abd;rfl;rfl)|(apply aev;rfl;rfl)|(apply ahX;rfl;rfl)|(apply ajM;rfl;rfl;omega)|(apply aku;rfl;rfl;omega)|(apply acq;rfl;rfl;first|exact q153 _|exact qn _|exact qd _)|(apply abL;rfl;rfl)|(apply afx;rfl;rfl)|(intro _;omega)|intro _
      all_goals try omega
      all_goals exact⟨.inr rfl,rfl,_,rfl,by rw[e];rfl,rfl⟩
 . rw[if_neg hc];unfold t134;exact gg1
structure QE (M:aw):Prop where
 ft:M.FT=FT
 uU:∀(s:ah) h,s.length<1000000->M.ext 153 [.str s] h=some ⟨.iV (cn s),h,[]⟩
 qo:∀(s:ah) h,s.length<=18->s.all bJ=true->M.ext 192 [.str s] h=some ⟨.iV (aP 0 s:Nat),h,[]⟩
theorem dec_lt {n k:Nat}(h:(aS n).length<=k):n<10^k:=by
 have:=nY (aS n) (kP n);rw[mJ]at this;exact Nat.lt_of_lt_of_le this (fm am h)
theorem ahW (C:QE M){q:Rat}(hl:(ao q).length<1000000):∃n d b,(b=true->n=q.num/\d=q.den/\aj q.num<1000000000/\q.den<1000000000)/\aV M 134 [.str (ao q)] [] ⟨.au [.iV n,.iV d,.bool b],[],[]⟩:=by
 by_cases Ec:20<(ao q).length
 . refine⟨0,0,false,nofun,bH (by rw[C.ft];exact Qh) be ?_⟩;generalize ao q=s at *
   unfold AD;simp only[enter];exact gg1
 . obtain⟨hp,hc⟩:=qj q;obtain⟨v,hv⟩:∃u,u=bN 45 (ao q):=⟨_,rfl⟩;have hul:=rS 45 (ao q);have hsp:bK 47 v=(aS (aj q.num).toNat,if q.den=1 then none else some (aS q.den)):=by
    have n47:∀n,(47:UInt8)∉aS n:=fun n h=>by
     have:=List.all_eq_true.1 (kP n) _ h;exact absurd this am
    rw[hv,hc];split
    . exact uA (n47 _)
    . exact uB (n47 _)
   have hk:cn v=(aS (aj q.num).toNat).length:=by unfold cn;rw[hsp]
   have hvt:v=if q.den=1 then aS (aj q.num).toNat else aS (aj q.num).toNat++47::aS q.den:=by rw[hv,hc]
   obtain⟨dl,hdl⟩:∃dl,dl=v.length-cn v:=⟨_,rfl⟩;have hdlen:q.den≠1->v.drop (cn v+1)=aS q.den/\cn v+1+(aS q.den).length=v.length:=fun h=>by
    rw[hk,hvt,if_neg h];constructor
    . simp
    grind
   have hsgn:(if decide (q.num<0) then -((aj q.num).toNat:Int) else ((aj q.num).toNat:Int))=q.num:=by
    unfold aj;by_cases h:q.num<0
    . grind
    . grind
   have tl:=fun a0 a5 a6 a7 lo wr=>ahV (M:=M) (q:=q) (u:=v) (num:=aS (aj q.num).toNat) (k:=cn v) (dl:=dl) (decide (q.num<0)) hsgn hk (uO v) bS bS bS hdlen hdl
     (fun h=>C.uU v h bS) (fun hk9 h=>by
      have:=C.qo (aS (aj q.num).toNat) h ac (kP _);rw[mJ]at this;exact this) (fun Co hd1 h=>by
      have:=C.qo (aS q.den) h ac (kP _);rw[mJ]at this;exact this) (fun hk9=>dec_lt (n:=(aj q.num).toNat) (k:=9) ac) a0 a5 a6 a7 lo wr
   have key:∃n d b,(b=true->n=q.num/\d=q.den/\aj q.num<1000000000/\q.den<1000000000)/\(if cn v<=9/\dl<=10 then AV.au [.iV q.num,.iV q.den,.bool true] else .au [.iV 0,.iV 0,.bool false]) = .au [.iV n,.iV d,.bool b]:=by
    by_cases h:cn v<=9/\dl<=10
    . refine⟨q.num,q.den,true,fun _=>⟨rfl,rfl,?_,?_⟩,if_pos h⟩
      . have:=dec_lt (n:=(aj q.num).toNat) (k:=9) ac;omega
      . by_cases hd1:q.den=1
        . omega
        . exact dec_lt (n:=q.den) (k:=9) ac
    . grind
   obtain⟨n,d,b,h1,h2⟩:=key;rw[h2]at tl;refine⟨n,d,b,h1,bH (by rw[C.ft];exact Qh) be ?_⟩;have hh:=QD q;have h0:=b8.2 (vd q);show W M AD _ (vc _ _);unfold AD;simp only[enter];by_cases hn:q.num<0
   . rw[decide_eq_true hn]at tl hp;have e1:(ao q).drop (d8 1)=v:=by rw[hv];exact(uz hp).1
     obtain⟨_,h45⟩:=hh.2 hn;generalize ao q=s at *
     exact gg12
   . rw[decide_eq_false hn]at tl hp;have e1:ao q=v:=by rw[hv];exact(kR hp).symm
     have h45:¬(((ao q)[d8 0]!).toNat:Int)=45:=ac;rw[e1]at Ec h0 h45 ⊢;exact gg12
structure AH (M:aw)(N:Nat):Prop where
 ft:M.FT=FT
 vh:∀q,(ao q).length<1000000->∃n d b,(b=true->n=q.num/\d=q.den/\aj q.num<1000000000/\q.den<1000000000)/\∀h,M.ext 134 [.str (ao q)] h=some ⟨.au [.iV n,.iV d,.bool b],h,[]⟩
 mN:∀q,(ao q).length<1000000->∃v1 v2,bU v1 q.num/\bU v2 (q.den:Nat)/\∀h,M.ext 135 [.str (ao q)] h=some ⟨.au [v1,v2],h,[]⟩
 se:∀{a b x y},bU a x->bU b y->aj x<dB^N->aj y<dB^N->∃v0,bU v0 (x*y)/\∀h,M.ext 137 [a,b] h=some ⟨v0,h,[]⟩
 QF:∀{a b x y},bU a x->bU b y->aj x<dB^N->aj y<dB^N->∃v0,bU v0 (x+y)/\∀h,M.ext 170 [a,b] h=some ⟨v0,h,[]⟩
 qq:∀{a b x y} h,bU a x->bU b y->aj x<dB^N->aj y<dB^N->y≠0->M.ext 136 [a,b] h=some ⟨.str (ao (b5 x y)),h,[]⟩
 Hi:∀(n d:Int) h,-9223372036854775808<=n/\n<9223372036854775808 -> -9223372036854775808<=d/\d<9223372036854775808->d≠0->M.ext 78 [.iV n,.iV d] h=some ⟨.str (ao (b5 n d)),h,[]⟩
structure Fit (N k:Nat)(q:Rat):Prop where
 dq:Dq k q
 n0:aj q.num<dB^N
 d0:aj (q.den:Int)<dB^N
theorem fit {k:Nat}(hk:(10:Int)^(2*k+1)<=dB^N){q:Rat}(h:Dq k q):Fit N k q:=by
 have h1:=qi (m:=k) (n:=2*k+1) ac;exact⟨h,by have:=h.1;omega,by rw[cH ac];have:=h.2;omega⟩
theorem vi {x y:Int}(hx:aj x<1000000000)(hy:aj y<1000000000) : -1000000000000000000<x*y/\x*y<1000000000000000000:=by
 have h:=kT (m:=9) (n:=9) hx hy;have e:(10:Int)^(9+9)=1000000000000000000:=by decide
 rw[e]at h;unfold aj at h;split at h <;> omega
theorem w90 (C:AH M N){k:Nat}(hk:(10:Int)^(2*k+1)<=dB^N){p q:Rat}(hp:Dq k p)(hq:Dq k q)(lp:(ao p).length<1000000)(lq:(ao q).length<1000000):aV M 90 [.str (ao p),.str (ao q)] [] ⟨.str (ao (p+q)),[],[]⟩:=by
 obtain⟨n,d,b,hb,q1⟩:=C.vh p lp;obtain⟨m,e,b',hb',q2⟩:=C.vh q lq;obtain⟨v1,v2,k1,k2,q3⟩:=C.mN p lp;obtain⟨v3,v4,k3,k4,q4⟩:=C.mN q lq;have fp:=fit hk hp;have fq:=fit hk hq;have dp:=den_pos (q:=p);have dq:=den_pos (q:=q);have b2:aj (p.den:Int)<10^k:=by rw[cH ac];exact hp.2
 have b4:aj (q.den:Int)<10^k:=by rw[cH ac];exact hq.2
 have e2:(10:Int)^(2*k+1)=10^(k+k)*10:=by rw[show 2*k+1=(k+k)+1 by omega];exact dN _ _
 have t0:=qh (k+k);have m1:=kT hp.1 b4;have m2:=kT hq.1 b2;have m3:=kT b2 b4;obtain⟨v5,k5,q5⟩:=C.se k1 k4 fp.n0 fq.d0;obtain⟨v6,k6,q6⟩:=C.se k3 k2 fq.n0 fp.d0;obtain⟨v7,k7,q7⟩:=C.QF k5 k6 ac ac;obtain⟨v8,k8,q8⟩:=C.se k2 k4 fp.d0 fq.d0;have hne:(p.den:Int)*q.den≠0:=Int.ne_of_gt (Int.mul_pos dp dq);have q9:=fun h=>C.qq h k7 k8 (by have:=OQ (x:=p.num*q.den) (y:=q.num*p.den);omega) ac hne
 rw[←tZ]at q9;obtain⟨_,_,_,rfl,_,o1,_⟩:=k1.shape;obtain⟨_,_,_,rfl,_,o2,_⟩:=k2.shape;obtain⟨_,_,_,rfl,_,o3,_⟩:=k3.shape;obtain⟨_,_,_,rfl,_,o4,_⟩:=k4.shape;refine bH (by rw[C.ft];exact ahh) be ?_;by_cases hbb:b=true/\b'=true
 . obtain⟨rfl,rfl⟩:=hbb;obtain⟨rfl,rfl,s1,s2⟩:=hb rfl;obtain⟨rfl,rfl,s3,s4⟩:=hb' rfl;have s2':aj (p.den:Int)<1000000000:=by rw[cH ac];omega
   have s4':aj (q.den:Int)<1000000000:=by rw[cH ac];omega
   have r1:=vi s1 s4';have r2:=vi s3 s2';have r3:=vi s2' s4';have qa:=fun h=>C.Hi (p.num*q.den+q.num*p.den) (p.den*q.den) h ac ac hne
   rw[←tZ]at qa;clear q3 q4 q5 q6 q7 q8 q9;unfold GV;simp only[enter];generalize p.num=P at *
   generalize q.num=Q at *
   generalize (p.den:Int)=D at *
   generalize (q.den:Int)=E at *
   exact gg0
 . have hc:b=false\/b=true/\b'=false:=by cases b <;> cases b' <;> simp at hbb ⊢
   unfold GV;simp only[enter];rcases hc with rfl|⟨rfl,rfl⟩;all_goals
   . exact gg7
theorem w53 (C:AH M N){k:Nat}(hk:(10:Int)^(2*k+1)<=dB^N){p q:Rat}(hp:Dq k p)(hq:Dq k q)(lp:(ao p).length<1000000)(lq:(ao q).length<1000000):aV M 53 [.str (ao p),.str (ao q)] [] ⟨.str (ao (p*q)),[],[]⟩:=by
 obtain⟨n,d,b,hb,q1⟩:=C.vh p lp;obtain⟨m,e,b',hb',q2⟩:=C.vh q lq;obtain⟨v1,v2,k1,k2,q3⟩:=C.mN p lp;obtain⟨v3,v4,k3,k4,q4⟩:=C.mN q lq;have fp:=fit hk hp;have fq:=fit hk hq;have dp:=den_pos (q:=p);have dq:=den_pos (q:=q);have b2:aj (p.den:Int)<10^k:=by rw[cH ac];exact hp.2
 have b4:aj (q.den:Int)<10^k:=by rw[cH ac];exact hq.2
 have e2:(10:Int)^(2*k+1)=10^(k+k)*10:=by rw[show 2*k+1=(k+k)+1 by omega];exact dN _ _
 have t0:=qh (k+k);have m1:=kT hp.1 hq.1;have m3:=kT b2 b4;obtain⟨v5,k5,q5⟩:=C.se k1 k3 fp.n0 fq.n0;obtain⟨v8,k8,q8⟩:=C.se k2 k4 fp.d0 fq.d0;have hne:(p.den:Int)*q.den≠0:=Int.ne_of_gt (Int.mul_pos dp dq);have q9:=fun h=>C.qq h k5 k8 ac ac hne
 rw[←Gh]at q9;obtain⟨_,_,_,rfl,_,o1,_⟩:=k1.shape;obtain⟨_,_,_,rfl,_,o2,_⟩:=k2.shape;obtain⟨_,_,_,rfl,_,o3,_⟩:=k3.shape;obtain⟨_,_,_,rfl,_,o4,_⟩:=k4.shape;refine bH (by rw[C.ft];exact ahj) be ?_;by_cases hbb:b=true/\b'=true
 . obtain⟨rfl,rfl⟩:=hbb;obtain⟨rfl,rfl,s1,s2⟩:=hb rfl;obtain⟨rfl,rfl,s3,s4⟩:=hb' rfl;have s2':aj (p.den:Int)<1000000000:=by rw[cH ac];omega
   have s4':aj (q.den:Int)<1000000000:=by rw[cH ac];omega
   have r1:=vi s1 s3;have r3:=vi s2' s4';have qa:=fun h=>C.Hi (p.num*q.num) (p.den*q.den) h ac ac hne
   rw[←Gh]at qa;clear q3 q4 q5 q8 q9;unfold GW;simp only[enter];generalize p.num=P at *
   generalize q.num=Q at *
   generalize (p.den:Int)=D at *
   generalize (q.den:Int)=E at *
   exact gg0
 . have hc:b=false\/b=true/\b'=false:=by cases b <;> cases b' <;> simp at hbb ⊢
   unfold GW;simp only[enter];rcases hc with rfl|⟨rfl,rfl⟩;all_goals
   . exact gg7
theorem ahZ (C:AH M N){k:Nat}(hk:(10:Int)^(2*k+1)<=dB^N){q:Rat}(hq:Dq k q)(lq:(ao q).length<1000000)(h0:q≠0):aV M 133 [.str (ao q)] [] ⟨.str (ao q⁻¹),[],[]⟩:=by
 obtain⟨v1,v2,k1,k2,q3⟩:=C.mN q lq;have fq:=fit hk hq;have q9:=fun h=>C.qq h k2 k1 fq.d0 fq.n0 (fun h=>h0 (ve.1 h))
 rw[←Rat.inv_def]at q9;obtain⟨_,_,_,rfl,_,o1,_⟩:=k1.shape;obtain⟨_,_,_,rfl,_,o2,_⟩:=k2.shape;refine bH (by rw[C.ft];exact ahk) be ?_;unfold Ql;simp only[enter];exact gg7
theorem w57 (hft:M.FT=FT){p q:Rat}(q141:∀h,M.ext 141 [.str (ao q)] h=some ⟨.str (ao (-q)),h,[]⟩)(q90:∀h,M.ext 90 [.str (ao p),.str (ao (-q))] h=some ⟨.str (ao (p + -q)),h,[]⟩):aV M 57 [.str (ao p),.str (ao q)] [] ⟨.str (ao (p-q)),[],[]⟩:=by
 rw[Rat.sub_eq_add_neg];refine bH (by rw[hft];exact ahi) be ?_;unfold Qk;simp only[enter];exact gg0
theorem w91 (hft:M.FT=FT)(s:ah):aV M 91 [.str s] [] ⟨.bool (decide (s=[48])),[],[]⟩:=by
 refine bH (by rw[hft];exact afU) be ?_;unfold Pn;simp only[enter];by_cases h:s=[48]
 . subst h;exact gg11
 . rw[decide_eq_false h];repeat' first|(apply agL;rfl;rfl;all_goals first|(intro h;exact absurd h am)|(intro h;exact absurd rfl h)|(intro h;contradiction)|intro _)|refine gc ?_|fail
   all_goals exact⟨.inr rfl,rfl,_,rfl,rfl,rfl⟩
theorem ie.zero {b:Nat}{e:TypeId}{hp:aa}(hb:hp.at b=some (.cells (an []) e)):ie (aW [.sl b 0 0 1 cap]) (if (aW [.sl b 0 0 1 cap]).top<=0 then [] else hp) []:=by
 rw[if_neg (by simp[aW,AV.top])];refine⟨.vs [] 0 none,⟨[b],.sl (m:=[]) (i7.2 rfl) hb rfl rfl (fun i x y hx=>by simp at hx) (.inr rfl),rfl,fun c l' e' hc hl'=>?_⟩,rfl,rfl⟩;rw[i7.1 hc,hb]at hl';cases hl';exact kH (fun _=>rfl) []
theorem aic (hft:M.FT=FT)(dU:∀ars h,M.ext 242 ars h=none):Aq M 197 [.vs (an []) ([]:List Int).length c1,.vs (an []) ([]:List Int).length c2] (WV dB []*WV dB []):=by
 refine Gw (by rw[hft];exact Pj) be ?_;have q:=CT.run (fi:=[]) (ca:=[]) (ars:=[.sl 0 0 0 1 (some 0)]) (dU _ _) (Gz hft (b:=0) (L:=[]) (e:=3) (hp:=[some (.cells (an []) 3)]) (cap:=some 0) rfl);have hl:([]:List Int).length=0:=rfl;unfold Gu;simp only[enter];rw[hl];repeat' first|refine gc ?_|fail
 refine W.loop ?_;unfold Ao;exact gg10
theorem cL.top {x:AV}{l:List Int}(h:cL x l):x.top=0:=(uS x h).2.1
theorem bU.top {v:AV}{z:Int}(h:bU v z):v.top=0:=by
 obtain⟨_,x,_,rfl,_,_,ht,_⟩:=h.shape;simp[AV.top,bc,ht]
theorem QG {x y:AV}{l m:List Int}(h:aa)(hx:cL x l)(hy:cL y m)(o1:okW dB l)(o2:okW dB m)(n1:aN l)(n2:aN m)(l1:l.length<1000000)(l2:m.length<1000000):Ax [x,y] h=some ⟨.iV (bz (WV dB l-WV dB m)),h,[]⟩:=
 rl (PA bm l m o1 o2 n1 n2 ac ac) rfl rfl rfl (.cons hx.fL (.cons hy.fL .nil))
theorem AI (x:AV)(a b:List Int)(hx:cL x a)(o1:okW dB a)(o2:okW dB b)(n1:aN a)(n2:aN b)(l1:a.length<100000)(l2:b.length<100000)(hb:b≠[]) :
 ∃qv q rv r,cL qv q/\cL rv r/\okW dB q/\aN q/\okW dB r/\aN r/\WV dB q=WV dB a/WV dB b/\WV dB r=WV dB a%WV dB b/\∀h,rZ [x,.vs (an b) b.length none] h=some ⟨.au [qv,rv],h,[]⟩:=by
 rcases hx with rfl|⟨rfl,rfl⟩
 . obtain⟨q,r,⟨h1,h2,h3⟩,⟨h4,h5,h6⟩,v,hh,⟨v1,x,y,f,t,k,i1,i2⟩,hr⟩:=PI (c1:=none) (c2:=none) PV a b o1 o2 n1 n2 l1 l2 hb;exact⟨x,q,y,r,i1,i2,h1,h2,h4,h5,h3,h6,fun h=>tx ⟨v,hh,v1,hr,f,eK (fF a) (fF b),t,k⟩⟩
 . have bp:=(jN (b:=dB) am o2 n2).2 hb;have e:bz (WV dB []-WV dB b) = -1:=if_pos (by show (0:Int)-WV dB b<0;omega);refine⟨.ab,[],.ab,[],.inr ⟨rfl,rfl⟩,.inr ⟨rfl,rfl⟩,o1,n1,o1,n1,(Int.zero_ediv _).symm,(Int.zero_emod _).symm,fun h=>?_⟩;refine bO (ahE (M:=aZ Tryz.prog FT Ay) (c2:=none) bm b fun h=>?_) (eK rfl (fF b)) rfl rfl h;rw[←e];exact QG h (.inr ⟨rfl,rfl⟩) (.inl rfl) o1 o2 n1 n2 be ac
theorem cCg:Qv (aZ Tryz.prog FT [(195,rZ)]) where
 ft:=bm
 kV:=AI
theorem Hj {x y:AV}(a b:List Int)(hx:cL x a)(hy:cL y b)(oa:okW dB a)(ob:okW dB b)(na:aN a)(nb:aN b)(la:a.length<100000)(lb:b.length<100000):∃gv g,cL gv g/\okW dB g/\aN g/\WV dB g=(b6 (WV dB a) (WV dB b):Nat)/\g.length<100000/\∀h,Az [x,y] h=some ⟨gv,h,[]⟩:=by
 obtain⟨gv,g,h1,h2,h3,h4,h5,hr⟩:=ahF cCg a b hx hy oa ob na nb la lb;exact⟨gv,g,h1,h2,h3,h4,h5,dm hr (eK hx.top hy.top)⟩
noncomputable def QH:Spec:=sL [] 254
theorem aie:aT Tryz.prog gl 254 QH:=jj bA
noncomputable def AJ:List (Nat×Spec):=[(254,QH)]
theorem QI:cD Tryz.prog gl (bk AJ):=aO aie bA
theorem QJ:GZ (aZ Tryz.prog FT AJ) where
 ft:=bm
 AE:=fun a c i _h hi=>rl (ahl (M:=aZ Tryz.prog FT []) (c1:=c) bm a i hi) rfl rfl rfl (.cons (Aw a) (.cons (.atom rfl) .nil))
 dU:=fun _ _=>rfl
noncomputable def QK:Spec:=sL AJ 206
noncomputable def QL:Spec:=sL AJ 219
noncomputable def AK:Spec:=sK [] 196
theorem aif:aT Tryz.prog gl 206 QK:=jj QI
theorem aih:aT Tryz.prog gl 219 QL:=jj QI
theorem QN:aT Tryz.prog gl 196 AK:=bh bA
theorem AL:∀neg x l,cL x l->okW dB l->l.length<1000000000->∃v0,bU v0 (bP neg (WV dB l))/\∀h,AK [.bool neg,x] h=some ⟨v0,h,[]⟩:=fun neg x l hx ok hl=>by
 obtain⟨v0,h1,h2⟩:=ahq (M:=aZ Tryz.prog FT []) bm (fun _ _=>rfl) neg hx ok hl;exact⟨v0,h1,dm h2 (eK rfl hx.top)⟩
noncomputable def vj:List (Nat×Spec):=[(206,QK),(219,QL),(218,Ax),(197,GM),(196,AK)]
theorem Hk:cD Tryz.prog gl (bk vj):=aO aif (aO aih (aO PT (aO PU (aO QN bA))))
theorem AM:AF (aZ Tryz.prog FT vj) where
 ft:=bm
 Qn:=fun l m k1 k2 o1 o2 l1 l2=>by
  obtain⟨r,⟨h1,h2,h3⟩,v,hh,⟨v1,f,t,k⟩,hr⟩:=ahn (c1:=k1) (c2:=k2) QJ l m o1 o2 l1 l2;exact⟨r,h1,h2,h3,fun x y h hx hy=>kL (.cons hx (.cons hy .nil)) ⟨v,hh,v1,hr,f,t,k⟩⟩
 Ha:=fun l m o1 o2 n1 n2 l1 l2 hle=>by
  have hlen:m.length<=l.length:=gk (b:=dB) am o2 n2 (i5 hle (dg am o1));obtain⟨r,⟨h1,h2,h3⟩,v,hh,⟨v1,f,t,k⟩,hr⟩:=aho (c1:=none) (c2:=none) QJ l m o1 o2 l1 hlen hle;exact⟨r,h1,h2,h3,fun x y h hx hy=>kL (.cons hx.fL (.cons hy.fL .nil)) ⟨v,hh,v1,hr,f,t,k⟩⟩
 uT:=fun l m x y h o1 o2 n1 n2 l1 l2 hx hy=>QG h hx hy o1 o2 n1 n2 l1 l2
 rX:=fun l m o1 o2 l1 l2=>by
  by_cases h0:0<l.length+m.length
  . obtain⟨r,⟨h1,h2,h3⟩,v,hh,⟨v1,f,t,k⟩,hr⟩:=PD (M:=aZ Tryz.prog FT []) (c1:=none) (c2:=none) bm (fun _ _=>rfl) l m o1 o2 ac ac h0;exact⟨r,h1,h2,h3,fun x y h hx hy=>kL (.cons hx.fL (.cons hy.fL .nil)) ⟨v,hh,v1,hr,f,t,k⟩⟩
  . obtain⟨rfl,rfl⟩:l=[]/\m=[]:=⟨fG ac,fG ac⟩;obtain⟨r,⟨h1,h2,h3⟩,v,hh,⟨v1,f,t,k⟩,hr⟩:=aic (M:=aZ Tryz.prog FT []) (c1:=none) (c2:=none) bm (fun _ _=>rfl);exact⟨r,h1,h2,h3,fun x y h hx hy=>kL (.cons hx.fL (.cons hy.fL .nil)) ⟨v,hh,v1,hr,f,t,k⟩⟩
 ko:=AL
noncomputable def Hl:Spec:=sK vj 170
noncomputable def Hm:Spec:=sK vj 137
noncomputable def AN:Spec:=sK vj 194
theorem aii:aT Tryz.prog gl 170 Hl:=bh Hk
theorem aij:aT Tryz.prog gl 137 Hm:=bh Hk
theorem aik:aT Tryz.prog gl 194 AN:=bh Hk
theorem QO {a:AV}{z:Int}(ha:bU a z)(l:aj z<dB^100):∃v0,bU v0 (-z)/\∀h,AN [a] h=some ⟨v0,h,[]⟩:=by
 obtain⟨v0,h1,h2⟩:=Qo AM ha l am;exact⟨v0,h1,dm h2 (fH ha.top)⟩
noncomputable def vk:Spec:=sK [] 117
noncomputable def AO:Spec:=sK [] 139
noncomputable def QP:Spec:=sK [] 158
noncomputable def AP:Spec:=sK [(117,vk)] 138
theorem QQ:aT Tryz.prog gl 117 vk:=bh bA
theorem QR:aT Tryz.prog gl 139 AO:=bh bA
theorem ail:aT Tryz.prog gl 158 QP:=bh bA
theorem aim:aT Tryz.prog gl 138 AP:=bh (aO QQ bA)
theorem QS (n:Nat)(h:aa)(hn:n<9223372036854775808):vk [.iV (n:Nat),.iV 1] h=some ⟨.str (aS n),h,[]⟩:=bO (ahw bm n hn) rfl rfl rfl h
theorem QT:Qq (aZ Tryz.prog FT [(117,vk)]) where
 ft:=bm
 Qr:=fun n h hn=>QS n h ac
 Qs:=fun n h hn=>bO (ahx bm n hn) rfl rfl rfl h
theorem QU {a:AV}{z:Int}(h:aa)(ha:bU a z)(l:aj z<dB^100):AP [a] h=some ⟨.str (bM z),h,[]⟩:=bO (Qu QT ha l am) (fH ha.top) rfl rfl h
theorem QV (n:Int)(hn : -9223372036854775808<=n/\n<9223372036854775808):∃v0,bU v0 n/\∀h,AO [.iV n] h=some ⟨v0,h,[]⟩:=by
 obtain⟨v0,h1,h2⟩:=ahD (M:=aZ Tryz.prog FT []) ⟨bm,fun _ _=>rfl,fun _ _=>rfl⟩ n hn;exact⟨v0,h1,dm h2 rfl⟩
noncomputable def vn:List (Nat×Spec):=[(194,AN),(155,Az),(195,rZ),(196,AK),(138,AP)]
theorem QW:cD Tryz.prog gl (bk vn):=aO aik (aO PX (aO PW (aO QN (aO aim bA))))
theorem cFn:uX (aZ Tryz.prog FT vn) 100 where
 ft:=bm
 uY:=QO
 qp:=Hj
 kV:=AI
 ko:=AL
 uZ:=QU
noncomputable def vo:Spec:=sK vn 136
theorem QX:aT Tryz.prog gl 136 vo:=bh QW
theorem aio {a b:AV}{x y:Int}(h:aa)(ha:bU a x)(hb:bU b y)(la:aj x<dB^100)(lb:aj y<dB^100)(h0:y≠0):vo [a,b] h=some ⟨.str (ao (b5 x y)),h,[]⟩:=
 bO (Qw cFn am ha hb la lb h0) (eK ha.top hb.top) rfl rfl h
noncomputable def Hn:List (Nat×Spec):=(158,QP)::(117,vk)::(139,AO)::(136,vo)::vn
theorem aip:cD Tryz.prog gl (bk Hn):=aO ail (aO QQ (aO QR (aO QX QW)))
theorem cOf:He (aZ Tryz.prog FT Hn) 100 where
 ft:=bm
 uY:=QO
 qp:=Hj
 kV:=AI
 ko:=AL
 uZ:=QU
 Qx:=fun a b h ha hb=>bO (ahI bm a b ha hb) rfl rfl rfl h
 Hf:=QS
 Hg:=QV
 qq:=aio
noncomputable def Ho:Spec:=sK Hn 78
theorem air:aT Tryz.prog gl 78 Ho:=bh aip
theorem k78 (n d:Int)(h:aa)(hn : -9223372036854775808<=n/\n<9223372036854775808)(hd : -9223372036854775808<=d/\d<9223372036854775808)(h0:d≠0):Ho [.iV n,.iV d] h=some ⟨.str (ao (b5 n d)),h,[]⟩:=
 bO (w78 cOf am hn hd h0) rfl rfl rfl h
noncomputable def QY:List (Nat×Spec):=[(153,mc),(192,As)]
theorem cQk:QE (aZ Tryz.prog FT QY) where
 ft:=bm
 uU:=fun s h hl=>uW s h hl
 qo:=fun s h hl hd=>PM s h hl hd
noncomputable def QZ:Spec:=sK QY 134
theorem aiu:aT Tryz.prog gl 134 QZ:=bh (aO rY (aO PL bA))
noncomputable def Hp:List (Nat×Spec):=[(153,mc),(193,Au),(139,AO)]
noncomputable def Hq:Spec:=sK Hp 135
theorem aiv:aT Tryz.prog gl 135 Hq:=bh (aO rY (aO PO (aO QR bA)))
theorem aiw (z:Int):preB 45 (bM z)=decide (z<0)/\bN 45 (bM z)=aS (aj z).toNat:=by
 have h:=qj (z:Rat);rw[sd,ip,ii,if_pos rfl]at h;exact h
theorem aix (q:Rat)(hl:(ao q).length<1000000):∃v1 v2,bU v1 q.num/\bU v2 (q.den:Nat)/\∀h,Hq [.str (ao q)] h=some ⟨.au [v1,v2],h,[]⟩:=by
 obtain⟨e1,e2,_,_,e3,e4⟩:=qs q;obtain⟨p1,p2⟩:=aiw q.num;obtain⟨d1,d2⟩:=GL (kP q.den);have hk:=uO (ao q);obtain⟨v1,k1,q1⟩:=Av (bM q.num) ac (by rw[p2];exact kP _);have k1:=k1.uQ;rw[p1,p2,mJ]at k1;have en:(if decide (q.num<0)=true then -((aj q.num).toNat:Int) else ((aj q.num).toNat:Int))=q.num:=by
  unfold aj;by_cases h:q.num<0
  . grind
  . grind
 rw[en]at k1;have q153:=fun h=>uW (ao q) h hl
 by_cases hd:q.den=1
 . obtain⟨v2,k2,q2⟩:=QV 1 am;rw[decide_eq_false (fun h=>h hd)]at e3;have es:ao q=bM q.num:=if_pos hd;refine⟨v1,v2,k1,bS,dm (ahG (M:=aZ Tryz.prog FT Hp) bm (ao q) hl e3 q153 k1 k2 (by rw[es];exact q1) q2) rfl⟩
 . rw[if_neg hd]at e4;obtain⟨v2,k2,q2⟩:=Av (aS q.den) (by
    grind) (by rw[d2];exact kP _)
   have k2:=k2.uQ;rw[d1,d2,mJ,if_neg am]at k2;rw[decide_eq_true hd]at e3;refine⟨v1,v2,k1,k2,dm (Pz (M:=aZ Tryz.prog FT Hp) bm (ao q) hl e3 q153 k1 k2 (by rw[e4];exact q1) (by rw[e4];exact q2)) rfl⟩
noncomputable def vt:List (Nat×Spec):=[(134,QZ),(135,Hq),(137,Hm),(170,Hl),(136,vo),(78,Ho)]
theorem Hr:cD Tryz.prog gl (bk vt):=aO aiu (aO aiv (aO aij (aO aii (aO QX (aO air bA)))))
noncomputable def AQ:Spec:=sK vt 90
noncomputable def Hs:Spec:=sK vt 53
noncomputable def Ht:Spec:=sK vt 133
noncomputable def sf:Spec:=sK [] 140
noncomputable def AR:Spec:=sK [(140,sf)] 141
noncomputable def Hu:Spec:=sK [(141,AR),(90,AQ)] 57
theorem aiy:aT Tryz.prog gl 90 AQ:=bh Hr
theorem aiz:aT Tryz.prog gl 53 Hs:=bh Hr
theorem aiA:aT Tryz.prog gl 133 Ht:=bh Hr
theorem Ra:aT Tryz.prog gl 140 sf:=bh bA
theorem aiB:aT Tryz.prog gl 141 AR:=bh (aO Ra bA)
theorem aiC:aT Tryz.prog gl 57 Hu:=bh (aO aiB (aO aiy bA))
theorem Rb (q:Rat)(h:aa):sf [.str (ao q)] h=some ⟨.iV (bz q.num),h,[]⟩:=bO (ahP bm q) rfl rfl rfl h
noncomputable def Hv:Spec:=sK [(140,sf)] 56
noncomputable def Hw:Spec:=sK [(153,mc)] 142
noncomputable def Hx:Spec:=sK [(153,mc)] 143
noncomputable def AS:Spec:=sK [(142,Hw),(56,Hv),(143,Hx)] 108
noncomputable def Rc:Spec:=sK [] 91
theorem aiD:aT Tryz.prog gl 56 Hv:=bh (aO Ra bA)
theorem aiE:aT Tryz.prog gl 142 Hw:=bh (aO rY bA)
theorem aiF:aT Tryz.prog gl 143 Hx:=bh (aO rY bA)
theorem aiG:aT Tryz.prog gl 108 AS:=bh (aO aiE (aO aiD (aO aiF bA)))
theorem aiH:aT Tryz.prog gl 91 Rc:=bh bA
def Rd (c:Int):Bool:=(decide (97<=c) && decide (c<=122)) || (decide (65<=c) && decide (c<=90))
def aiI (c:Int):Bool:=Rd c || (decide (c=95) || (decide (48<=c) && decide (c<=57)))
def aiJ (i:Nat)(c:Int):Bool:=if i=0 then Rd c else aiI c
def Re:ah->Nat->Bool
 | [],_=>true
 | b::r,i=>aiJ i b.toNat && Re r (i+1)
def isName (s:ah):Bool:=Re s 0 && decide (0<s.length) && decide (s.length<=24)
variable {α:Type} {f:α->List AV} {esz w:Nat} {e eo:TypeId} {K:aa} {b:Nat} {rs:List (Nat×Option Nat)} {C:List (List α)}
theorem gp {β:Type}[Inhabited β]{l:List β}{i j:Nat}{a:β}(h:i<l.length):(l.set i a)[j]! = if i=j then a else l[j]! := by
 by_cases hj:j<l.length
 . rw[getElem!_pos (l.set i a) j (by rw[b9];exact hj),List.getElem_set];by_cases e:i=j
   . simp[e]
   . simp[e,getElem!_pos l j hj]
 . rw[getElem!_neg (l.set i a) j (by rw[b9];exact hj),if_neg ac,getElem!_neg l j hj]
abbrev cw (esz w:Nat)(r:Nat×Option Nat):List AV:=[.sl r.1 0 w esz r.2]
structure bQ (f:α->List AV)(esz w:Nat)(e eo:TypeId)(K:aa)(b:Nat)(rs:List (Nat×Option Nat))(C:List (List α)):Prop where
 out:K.at b=some (.cells (arr (cw esz w) rs) eo)
 len:rs.length=C.length
 row:∀i,i<C.length->K.at rs[i]!.1=some (.cells (arr f C[i]!) e)
 wid:∀i,i<C.length->C[i]!.length=w
 nb:∀i,i<C.length->rs[i]!.1≠b
 inj:∀i j,i<C.length->j<C.length->rs[i]!.1=rs[j]!.1->i=j
theorem bQ.grow (h:bQ f esz w e eo K b rs C)(J:aa):bQ f esz w e eo (K++J) b rs C where
 out:=cE h.out
 len:=h.len
 row:=fun i hi=>cE (h.row i hi)
 wid:=h.wid
 nb:=h.nb
 inj:=h.inj
theorem mO {hp:aa}{bu bv:Nat}{Y:Option ba}(hne:bu≠bv):(hp.put bu Y).at bv=hp.at bv:=by
 simp[aa.at,aa.put,hne]
theorem bQ.set (h:bQ f esz w e eo K b rs C){i:Nat}(hi:i<C.length){c':List α}(hw:c'.length=w):bQ f esz w e eo (K.put rs[i]!.1 (some (.cells (arr f c') e))) b rs (C.set i c') where
 out:=by rw[mO (h.nb i hi)];exact h.out
 len:=by rw[b9];exact h.len
 row:=fun j hj=>by
  rw[b9]at hj;rw[gp hi];by_cases ej:i=j
  . subst ej;rw[if_pos rfl,eu (cJ (h.row i hi))]
  . rw[if_neg ej,mO (fun hh=>ej (h.inj i j hi hj hh))];exact h.row j hj
 wid:=fun j hj=>by
  rw[b9]at hj;rw[gp hi];split
  . exact hw
  . exact h.wid j hj
 nb:=fun j hj=>h.nb j (by rwa [b9]at hj)
 inj:=fun j k hj hk=>h.inj j k (by rwa [b9]at hj) (by rwa [b9]at hk)
def fv {β:Type}[Inhabited β](l:List β)(i j:Nat):List β:=(l.set i l[j]!).set j l[i]!
theorem me {β:Type}[Inhabited β](l:List β)(i j:Nat):(fv l i j).length=l.length:=by simp[fv]
theorem mP {β:Type}[Inhabited β]{l:List β}{i j k:Nat}(hi:i<l.length)(hj:j<l.length):(fv l i j)[k]! = l[if j=k then i else if i=k then j else k]! := by
 unfold fv;rw[gp (by rw[b9];exact hj),gp hi];split
 . rfl
 . split <;> rfl
theorem bQ.swap (h:bQ f esz w e eo K b rs C){i j:Nat}(hi:i<C.length)(hj:j<C.length):bQ f esz w e eo (K.put b (some (.cells (arr (cw esz w) (fv rs i j)) eo))) b (fv rs i j) (fv C i j):=by
 have hl:=h.len;have key:∀k,k<C.length->(if j=k then i else if i=k then j else k)<C.length:=fun k hk=>by
  split
  . exact hi
  . split <;> omega
 refine⟨eu (cJ h.out),by rw[me,me,hl],fun k hk=>?_,fun k hk=>?_,fun k hk=>?_,fun k m hk hm e=>?_⟩
 . rw[me]at hk;rw[mP ac ac,mP hi hj,mO (Ne.symm (h.nb _ (key k hk)))];exact h.row _ (key k hk)
 . rw[me]at hk;rw[mP hi hj];exact h.wid _ (key k hk)
 . rw[me]at hk;rw[mP ac ac];exact h.nb _ (key k hk)
 . rw[me]at hk hm;rw[mP ac ac,mP ac ac]at e;have e:=h.inj _ _ (key k hk) (key m hm) e;split at e <;> split at e <;> (try split at e) <;> (try split at e) <;> omega
theorem bQ.take (h:bQ f esz w e eo K b rs C){n:Nat}(hb:b<n)(hr:∀i,i<C.length->rs[i]!.1<n):bQ f esz w e eo (K.take n) b rs C:=by
 have key:∀c,c<n->aa.at (K.take n) c=K.at c:=fun c hc=>by simp[aa.at,hc]
 exact⟨by rw[key _ hb];exact h.out,h.len,fun i hi=>by rw[key _ (hr i hi)];exact h.row i hi,h.wid,h.nb,h.inj⟩
abbrev QM:=Nat->Nat->Rat
def eh (q:QM)(c:Nat):Nat->Nat->Option Nat
 | 0,_=>none
 | k+1,at_=>if q at_ c=0 then eh q c k (at_+1) else some at_
def fw (q:QM)(i j:Nat):QM:=fun a k=>q (if j=a then i else if i=a then j else a) k
def ir (q:QM)(row c:Nat):QM:=fun a k=>if a=row then q row k*(q row c)⁻¹ else q a k
def fN (q:QM)(row c:Nat):QM:=fun a k=>if a=row then q a k else q a k-q a c*q row k
def kp (q:QM)(c row at_:Nat):QM:=fN (ir (fw q row at_) row c) row c
def eL (n:Nat):Nat->Nat->QM->Option QM
 | 0,_,q=>some q
 | k+1,c,q=>match eh q c (n-c) c with
   | none=>none
   | some a=>eL n k (c+1) (kp q c c a)
def fx (n:Nat):Nat->Nat->QM->List Nat->QM×List Nat
 | 0,_,q,l=>(q,l)
 | k+1,c,q,l=>if l.length<n then (match eh q c (n-l.length) l.length with
     | none=>fx n k (c+1) q l
     | some a=>fx n k (c+1) (kp q c l.length a) (l++[c])) else (q,l)
theorem AT {q:QM}{c:Nat}:∀{k a r:Nat},eh q c k a=some r->a<=r/\r<a+k/\q r c≠0
 | 0,a,r,h=>by cases h
 | k+1,a,r,h=>by
  rw[eh]at h;split at h
  . have:=AT h;exact⟨ac,ac,this.2.2⟩
  . rename_i h0;cases h;exact⟨d9 _,ac,h0⟩
theorem Hy {q q':QM}{c:Nat}(h:∀a,q a c=q' a c):∀(k a:Nat),eh q c k a=eh q' c k a
 | 0,_=>rfl
 | k+1,a=>by rw[eh,eh,h,Hy h k]
def sh (w:Nat)(q q':QM):Prop:=∀a k,k<w->q a k=q' a k
theorem sh.step {w:Nat}{q q':QM}(h:sh w q q'){c row a:Nat}(hc:c<w):sh w (kp q c row a) (kp q' c row a):=fun i k hk=>by
 have e:∀j m,m<w->fw q row a j m=fw q' row a j m:=fun j m hm=>h _ _ hm
 have e2:∀j m,m<w->ir (fw q row a) row c j m=ir (fw q' row a) row c j m:=fun j m hm=>by
  unfold ir;rw[e row m hm,e row c hc,e j m hm]
 unfold kp fN;rw[e2 i k hk,e2 i c hc,e2 row k hk]
theorem Hz (c:Nat):ci c++[c]=ci (c+1):=(List.range_succ).symm
theorem Rf {n:Nat}:∀(k c:Nat) (q q' r:QM),c+k=n->sh n q q'->eL n k c q=some r->∃r',fx n k c q' (ci c)=(r',ci n)/\sh n r r'
 | 0,c,q,q',r,hk,hs,h=>by
  cases h;obtain rfl:c=n:=by omega
  exact⟨q',rfl,hs⟩
 | k+1,c,q,q',r,hk,hs,h=>by
  rw[eL]at h;cases hp:eh q c (n-c) c with
  | none=>rw[hp]at h;cases h
  | some a=>
   rw[hp]at h;have hl:(ci c).length=c:=dY;rw[fx,hl,if_pos ac,←Hy (fun a=>hs a c ac),hp];have:=Rf k (c+1) _ (kp q' c c a) r ac (hs.step ac) h;rw[←Hz]at this;exact this
theorem HA {n:Nat}:∀(k c:Nat) (q:QM) (l:List Nat),c+k<=n->l.length<c->(fx n k c q l).2.length<n
 | 0,c,q,l,hk,hl=>by rw[fx];show l.length<n;omega
 | k+1,c,q,l,hk,hl=>by
  rw[fx];split
  . split
    . exact HA k (c+1) q l ac ac
    . refine HA k (c+1) _ _ ac ?_;rw[f8,d6];omega
  . omega
theorem Rg {n:Nat}:∀(k c:Nat) (q q':QM),c+k=n->sh n q q'->eL n k c q=none->(fx n k c q' (ci c)).2.length<n
 | 0,c,q,q',hk,hs,h=>by cases h
 | k+1,c,q,q',hk,hs,h=>by
  have hl:(ci c).length=c:=dY;rw[eL]at h;rw[fx,hl,if_pos ac,←Hy (fun a=>hs a c ac)];cases hp:eh q c (n-c) c with
  | none=>exact HA k (c+1) q' _ ac (by rw[hl];omega)
  | some a=>
   rw[hp]at h;have:=Rg k (c+1) _ (kp q' c c a) ac (hs.step ac) h;rw[←Hz]at this;exact this
theorem Rh {n:Nat}:∀(k c:Nat) (q r:QM),c+k=n->eL n k c q=some r->fx n (k+1) c q (ci c)=(r,ci n)
 | 0,c,q,r,hk,h=>by
  cases h;obtain rfl:c=n:=by omega
  rw[fx,if_neg (by rw[dY];omega)]
 | k+1,c,q,r,hk,h=>by
  have hl:(ci c).length=c:=dY;rw[eL]at h;cases hp:eh q c (n-c) c with
  | none=>rw[hp]at h;cases h
  | some a=>
   rw[hp]at h;rw[fx,hl,if_pos ac,hp];have:=Rh k (c+1) (kp q c c a) r ac h;rw[←Hz]at this;exact this
def cY (n w K:Nat)(q:QM):Prop:=∀a k,a<n->k<w->Dq K (q a k)
theorem cY.mono {n w K L:Nat}{q:QM}(h:cY n w K q)(hl:K<=L):cY n w L q:=fun a k ha hk=>(h a k ha hk).mono hl
theorem cY.swap {n w K i j:Nat}{q:QM}(h:cY n w K q)(hi:i<n)(hj:j<n):cY n w K (fw q i j):=fun a k ha hk=>by
 unfold fw;refine h _ k ?_ hk;split
 . exact hi
 . split <;> omega
theorem cY.scale {n w K row c:Nat}{q:QM}(h:cY n w K q)(hr:row<n)(hc:c<w)(h0:q row c≠0):cY n w (2*K) (ir q row c):=fun a k ha hk=>by
 unfold ir;split
 . exact((h row k hr hk).mul ((h row c hr hc).inv h0)).mono ac
 . exact(h a k ha hk).mono ac
theorem Ri {q:QM}{row c a k:Nat}(h:a≠row):ir q row c a k=q a k:=if_neg h
theorem cY.step {n w K row c a:Nat}{q:QM}(h:cY n w K q)(hr:row<n)(ha:a<n)(hc:c<w)(h0:q a c≠0):cY n w (4*K+1) (kp q c row a):=fun i k hi hk=>by
 have hs:=h.swap hr ha;have h0':fw q row a row c≠0:=by
  unfold fw;split
  . rename_i e;subst e;exact h0
  . rw[if_pos rfl];exact h0
 have h2:=hs.scale hr hc h0';unfold kp fN;split
 . exact(h2 i k hi hk).mono ac
 . rename_i hne;have d1:Dq K (ir (fw q row a) row c i k):=by rw[Ri hne];exact hs i k hi hk
   have d2:Dq K (ir (fw q row a) row c i c):=by rw[Ri hne];exact hs i c hi hc
   exact(d1.sub (d2.mul (h2 row k hr hk))).mono ac
def iu:Nat->Nat
 | 0=>8
 | c+1=>4*iu c+1
theorem AU {c:Nat}(h:c<=5):iu c<=8533:=by
 match c,h with
 | 0,_=>decide
 | 1,_=>decide
 | 2,_=>decide
 | 3,_=>decide
 | 4,_=>decide
 | 5,_=>decide
theorem aiK {x y:Int}(h:bM x=bM y):x=y:=by
 have h1:=qs (x:Rat);have h2:=qs (y:Rat);have c1:=qj (x:Rat);have c2:=qj (y:Rat);rw[sd,ip,ii,if_pos rfl]at c1 c2;rw[h]at c1;have e1:decide (x<0)=decide (y<0):=c1.1.symm.trans c2.1;have e2:=MW (c1.2.symm.trans c2.2);rw[decide_eq_decide]at e1;unfold aj at e2;split at e2 <;> split at e2 <;> omega
theorem aiL {p q:Rat}(h:ao p=ao q):p=q:=by
 obtain⟨_,_,_,_,_,e1⟩:=qs p;obtain⟨_,_,_,_,_,e2⟩:=qs q;rw[h,e2,Prod.mk.injEq]at e1;obtain⟨h1,h2⟩:=e1;have hn:=aiK h1;have hd:q.den=p.den:=by
  split at h2 <;> split at h2
  . omega
  . cases h2
  . cases h2
  . exact MW (Option.some.inj h2)
 exact Rat.ext hn.symm hd.symm
noncomputable def kX (s:ah):Rat:=Classical.epsilon fun q=>s=ao q
theorem HB (q:Rat):kX (ao q)=q:=
 (aiL (Classical.epsilon_spec (p:=fun p=>ao q=ao p) ⟨q,rfl⟩)).symm
theorem Rj {s:ah}{k:Nat}(h:gU s=0)(hl:s.length<=k):s=ao (kX s)/\Dq k (kX s):=by
 obtain⟨q,rfl,hq⟩:=afi h hl;rw[HB];exact⟨rfl,hq⟩
abbrev IC:=Int×Option (List Int)
def wv:Option (List Int)->AV
 | none=>.ab
 | some l=>.vs (al l) l.length none
abbrev FC:=IC×IC
def cF (c:FC):List AV:=[.iV c.1.1,wv c.1.2,.iV c.2.1,wv c.2.2]
theorem aiM (w:Option (List Int)):cI (wv w)=true:=by cases w <;> rfl
theorem ax.ic {v:AV}{z:Int}(h:ax v z):∃c:IC,v = .agg [.iV c.1,wv c.2]:=by
 cases h with
 | small=>exact⟨(_,none),rfl⟩
 | @fo σ z w=>exact⟨(σ,some w),rfl⟩
theorem br.fc {v:AV}{q:Rat}(h:br v q):∃c:FC,v = .agg (cF c):=by
 obtain⟨s,w,s',w',rfl,h1,h2⟩:=h;obtain⟨c,e1⟩:=h1.ic;obtain⟨d,e2⟩:=h2.ic;cases e1;cases e2;exact⟨(c,d),rfl⟩
end Go.Ab.Ch1
