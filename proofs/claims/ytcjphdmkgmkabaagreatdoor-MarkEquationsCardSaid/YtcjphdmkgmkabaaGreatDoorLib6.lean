import Derived.Test.YtcjphdmkgmkabaaGreatDoorLib5
open Bool renaming and_eq_true→c3,true_and→f6,false_and→ii,not_true→j7,and_true→j8,not_false→m7,and_false→m8,false_or→nJ,true_or→n3
open Int renaming mul_le_mul_of_nonneg_left→b5,mul_le_mul_of_nonneg_right→b6,le_of_lt→b8,pow_succ→ce,mul_lt_mul_of_pos_right→c7,lt_or_le→c9,lt_of_lt_of_le→d9,emod_lt_of_pos→fm,mul_zero→fG,mul_assoc→f8,emod_nonneg→f9,pow_pos→gT,one_mul→g9,add_mul→hZ,mul_nonneg→ip,add_zero→it,mul_ediv_add_emod→iz,le_trans→i5,lt_of_le_of_lt→i7,lt_of_mul_lt_mul_left→i8,mul_add→i9,ediv_lt_of_lt_mul→j2,mul_pos→j3,mul_le_mul→j5,sub_zero→k9,sub_mul→mp,ediv_nonneg→mW
open List renaming length_take→b7,replicate→ci,take_of_length_le→c8,take_length→dN,mem_singleton→dO,length_append→dY,drop_eq_getElem_cons→d6,append_assoc→d8,all_cons→fT,getElem?_eq_getElem→f7,take_append_drop→iy,getElem!_eq_getElem?_getD→i3,length_cons→jD,length_singleton→j1,drop_left→j4,take_add_one→kJ,drop_length→le,length_drop→l9,all_append→mV,length_set→m5,length_nil→m6,drop_zero→m9,drop_drop→ne,all_nil→n4
open Nat renaming le_refl→b9,le_trans→d7,zero_lt_one→i4,eq_zero_or_pos→i6,min_eq_left→j0,zero_le→j6,add_assoc→j9,lt_succ_self→lC
open Option renaming isSome_iff_exists→jq,toList_some→ky
open Rat renaming divInt→gF,num_divInt_den→kw,num_eq_zero→mU
open UInt8 renaming toNat_inj→jU
set_option maxHeartbeats 8000000
set_option maxRecDepth 20000
namespace Go.Ab.Ch1
open Go.Ab.aU
variable {M:aw} {cap:Option Nat} {N N2:Nat}
theorem akJ {t:Nat}{x y:ay}{l:List aX}{pe:List AV}{lo:List (Nat×AV)}{hp:aa}{df wr:List Nat}{k:IntKind}{a b:Int}{Q:aq->Prop}{m:Int}(hx:(St.mk pe lo hp df).ae x=some (.int k a))(hy:(St.mk pe lo hp df).ae y=some (.int k b))(hm:m=a/\b<=a\/m=b/\a<=b)
 (h:WO M l ⟨⟨pe,(t,.int k m)::lo,hp,df⟩,wr⟩ Q):WO M (⟨.l t,.mm true [x,y],none⟩::l) ⟨⟨pe,lo,hp,df⟩,wr⟩ Q:=by
 refine abL (v:=.int k m) ?_ rfl h;simp only[aY,St.cM,hx,hy];have e:(if a<b then b else a)=m:=by split <;> omega
 simp[oG,e]
def cX (s:ah):ah:=(bK 47 (bN 45 s)).1
def dL (s:ah):ah:=(bK 47 (bN 45 s)).2.getD []
def iM (s:ah):Bool:=(bK 47 (bN 45 s)).2.isSome
def kS (s:ah):Bool:=ee (cX s) && !(preB 45 s && decide (cX s=[48])) && (!iM s || (ee (dL s) && decide (dL s≠[48]) && decide (dL s≠[49])))
def gI (a b:Nat):Bool:=!(Nat.gcd a b == 1)
def gU (s:ah):Int:=if kS s=false then 1 else if 600<(cX s).length\/600<(dL s).length then 4 else if iM s=true/\gI (aP 0 (cX s)) (aP 0 (dL s))=true then 1 else 0
structure Gd (M:aw)(N:Nat):Prop extends mM M N where
 OO:∀(s:ah) h,s.length<1000000->M.ext 162 [.str s,.str [45]] h=some ⟨.au [.str (bN 45 s),.bool (preB 45 s)],h,[]⟩
 Ge:∀(s:ah) h,s.length<1000000->M.ext 164 [.str s] h=some ⟨.bool (ee s),h,[]⟩
 tW:∀a b x y,ax a x->ax b y->aj x<wB^N->aj y<wB^N->∃v0,ax v0 (Int.gcd x y:Nat)/\∀h,M.ext 165 [a,b] h=some ⟨v0,h,[]⟩
 lj:∀t (e:Int) h,M.ext 97 [.bool t,.iV e] h=some ⟨.iV (if t then e else 0),h,[]⟩
 iZ:∀v h l,gg h v=some l->l.length<1000->M.ext 96 [v] h=some ⟨.iV (fU l),h,[]⟩
theorem uF {s:ah}(h:ee s=true):s≠[]/\s.all bJ=true:=by
 simp only[ee,c3,decide_eq_true_eq]at h;exact h.1
theorem afb {s:ah}(h:s.all bJ=true):preB 45 s=false:=by
 rw[preB,decide_eq_false_iff_not];intro e;cases s with
 | nil=>simp at e
 | cons c t=>
  simp at e;subst e;simp[fT]at h;exact absurd h.1 am
theorem mM.OP (C:mM M N)(s:ah)(hl:s.length<=N)(h:s.all bJ=true):∃v0,ax v0 (aP 0 s:Nat)/\∀h,M.ext 166 [.str s] h=some ⟨v0,h,[]⟩:=by
 have hp:=afb h;have hc:=kR hp;obtain⟨v0,h0,q⟩:=C.FQ s hl bS;grind
theorem zQ (b:UInt8)(s:ah):(bK b s).1.length<=s.length:=by
 cases h:(bK b s).2 with
 | none=>rw[(oh h).1];simp
 | some y=>have:=uy h;omega
theorem Gf (b:UInt8)(s:ah):((bK b s).2.getD []).length<=s.length:=by
 cases h:(bK b s).2 with
 | none=>simp
 | some y=>have:=uy h;grind
def rT:ak:=
 zR [zm 46 7,
          zu 47 46,
          ⟨(.l 48),.call (kF 97) [(.l 47),(kI 1)],none⟩,
          zm 49 4,
          zL 50 49,
          zm 51 5,
          zL 52 51,
          ⟨(.l 53),.mm true [(.l 50),(.l 52)],none⟩,
          zc 54 .gtr 53 600,
          ⟨(.l 55),.call (kF 97) [(.l 54),(kI 4)],none⟩,
          ⟨(.l 56),.du 25 2 1 [.iV (0)] [(0,1,(.l 48)),(1,1,(.l 55))],none⟩,
          z1 57 96 56,
          zw 8 57]
        (
         zR [zm 58 8,
           zc 59 .neq 58 0,
           zn 60 59,
           zg (zm 61 6) 60 false,
           zg (zu 62 61) 60 false,
           zP 63 60 62]
         (
          .cond (.l 63)
          (
           zR [zm 64 8,
             zw 1 64]
           (.ret))
          (.skip)))
def rU:ak:=
 zR [zm 65 4,
          z1 66 166 65,
          zm 67 5,
          z1 68 166 67,
          z2 69 165 66 68,
          ⟨(.p 9),.alloc 131 [.iV (0),.ab],none⟩,
          zs 2 9 69]
        (
         .seq (.draw [(zt 70 2 9,[]),
           (⟨(.l 71),.call (kF 168) [(kI 1)],none⟩,[0]),
           (z2 72 167 70 71,[]),
           (zc 73 .neq 72 0,[]),
           (⟨(.l 74),.call (kF 97) [(.l 73),(kI 1)],none⟩,[]),
           (zw 1 74,[])])
         (.ret))
def Gg (res:List fA)(r:Int)(e:Ex)(s:aq):Prop:=(e = .normal\/e = .ret)/\s.s.bV=[]/\∃vs,dx s.s res=some vs/\aW vs = .iV r/\(if (AV.iV r).top<=0 then [] else s.s.hp)=[]
theorem jE {res:List fA}{r r':Int}{e:Ex}{s:aq}{vs:List AV}(he:e = .normal\/e = .ret)(hd:s.s.bV=[])(hv:dx s.s res=some vs)(ht:aW vs = .iV r')(hr:r'=r):Gg res r e s:=by
 subst hr;exact⟨he,hd,vs,hv,ht,rfl⟩
theorem kj (C:Gd M N)(hN:600<=N)(F B:Bool)(top bot:ah)(hl:top.length<1000000/\bot.length<1000000)(hd:F=true->top.all bJ=true/\(B=true->bot.all bJ=true))(a0 a1 a2 a3 a8 a9:AV)(lo:List (Nat×AV))(wr:List Nat) :
 W M (.seq rT rU) ⟨⟨[a0,a1,a2,a3,.str top,.str bot,.bool B,.bool F,a8,a9],lo,[],[]⟩,wr⟩ (Gg [.var (.p 1)] (if F=false then 1 else if 600<top.length\/600<bot.length then 4 else if B=true/\gI (aP 0 top) (aP 0 bot)=true then 1 else 0)):=by
 have t1:∀h,M.ext 97 [.bool true,.iV 1] h=some ⟨.iV 1,h,[]⟩:=fun h=>C.lj true 1 h
 have f1:∀h,M.ext 97 [.bool false,.iV 1] h=some ⟨.iV 0,h,[]⟩:=fun h=>C.lj false 1 h
 have t4:∀h,M.ext 97 [.bool true,.iV 4] h=some ⟨.iV 4,h,[]⟩:=fun h=>C.lj true 4 h
 have f4:∀h,M.ext 97 [.bool false,.iV 4] h=some ⟨.iV 0,h,[]⟩:=fun h=>C.lj false 4 h
 have g14:∀v h,gg h v=some [1,4]->M.ext 96 [v] h=some ⟨.iV 1,h,[]⟩:=fun v h e=>C.iZ v h _ e am
 have g10:∀v h,gg h v=some [1,0]->M.ext 96 [v] h=some ⟨.iV 1,h,[]⟩:=fun v h e=>C.iZ v h _ e am
 have g04:∀v h,gg h v=some [0,4]->M.ext 96 [v] h=some ⟨.iV 4,h,[]⟩:=fun v h e=>C.iZ v h _ e am
 have g00:∀v h,gg h v=some [0,0]->M.ext 96 [v] h=some ⟨.iV 0,h,[]⟩:=fun v h e=>C.iZ v h _ e am
 obtain⟨m,hm⟩:∃m:Int,m=top.length/\(bot.length:Int)<=top.length\/m=bot.length/\(top.length:Int)<=bot.length:=by
  grind
 cases F with
 | false=>
  rw[if_pos rfl];unfold rT rU;repeat' first|(apply akJ (m:=m);rfl;rfl;exact hm)|apply afc|apply cV|apply afl|apply afm|apply agR|apply ku|(apply afH;rfl)|(apply alM;rfl)|(apply aev;rfl;rfl)|(apply acr;rfl;rfl)|(apply ahR;rfl;rfl)|(apply acq;rfl;rfl;first|exact t1 _|exact f1 _|exact t4 _|exact f4 _)|(apply acq;rfl;rfl;first|exact g14 _ _ rfl|exact g10 _ _ rfl)|(apply afC;rfl;rfl;rfl)|(apply abL;rfl;rfl)|(apply afx;rfl;rfl)|(intro _;omega)|intro _
  all_goals try omega
  all_goals exact jE (.inr rfl) rfl rfl rfl rfl
 | true=>
  rw[if_neg am];by_cases hb:600<top.length\/600<bot.length
  . rw[if_pos hb];unfold rT rU;repeat' first|(apply akJ (m:=m);rfl;rfl;exact hm)|apply afc|apply cV|apply afl|apply afm|apply agR|apply ku|(apply afH;rfl)|(apply alM;rfl)|(apply aev;rfl;rfl)|(apply acr;rfl;rfl)|(apply ahR;rfl;rfl)|(apply acq;rfl;rfl;first|exact t1 _|exact f1 _|exact t4 _|exact f4 _)|(apply acq;rfl;rfl;first|exact g04 _ _ rfl|exact g00 _ _ rfl)|(apply afC;rfl;rfl;rfl)|(apply abL;rfl;rfl)|(apply afx;rfl;rfl)|(intro _;omega)|intro _
    all_goals try omega
    all_goals exact jE (.inr rfl) rfl rfl rfl rfl
  . rw[if_neg hb];cases B with
    | false=>
     rw[if_neg be];unfold rT rU;repeat' first|(apply akJ (m:=m);rfl;rfl;exact hm)|apply afc|apply cV|apply afl|apply afm|apply agR|apply ku|(apply afH;rfl)|(apply ajK;rfl)|(apply aev;rfl;rfl)|(apply acr;rfl;rfl)|(apply ahX;rfl;rfl)|(apply acq;rfl;rfl;first|exact t1 _|exact f1 _|exact t4 _|exact f4 _)|(apply acq;rfl;rfl;first|exact g04 _ _ rfl|exact g00 _ _ rfl)|(apply afC;rfl;rfl;rfl)|(apply abL;rfl;rfl)|(apply afx;rfl;rfl)|(intro _;omega)|intro _
     all_goals try omega
     all_goals exact jE (.inr rfl) rfl rfl rfl rfl
    | true=>
     obtain⟨hta,hba⟩:=hd rfl;have hba:=hba rfl;obtain⟨va,ka,qa⟩:=C.OP top ac hta;obtain⟨vb,kb,qb⟩:=C.OP bot ac hba;have la:=qf (N:=N) hta ac;have lb:=qf (N:=N) hba ac;obtain⟨vg,kg,qg⟩:=C.tW va vb _ _ ka kb la lb;obtain⟨g,hg⟩:∃g,g=Nat.gcd (aP 0 top) (aP 0 bot):=⟨_,rfl⟩;have kg:ax vg (g:Int):=by rw[hg];exact kg
     have lg:aj (g:Int)<wB^N:=by
      rw[cH ac]at la lb ⊢;rw[hg];rcases i6 (aP 0 top) with h0|h0
      . grind
      . have:=Nat.gcd_le_left (aP 0 bot) h0;omega
     have q168:=C.pP 1;have q167:=C.Mi _ (.agg [.iV 1,.ab]) _ 1 kg (.small am) lg (qf (s:=[49]) am bS);obtain⟨sg,wg,rfl,og,_⟩:=kg.shape;by_cases h1:g=1
     . have hc:gI (aP 0 top) (aP 0 bot)=false:=by rw[gI,←hg,h1];rfl
       rw[if_neg bS];subst h1;rw[show bz (((1:Nat):Int)-1)=0 by rfl]at q167;unfold rT rU;repeat' first|(apply akJ (m:=m);rfl;rfl;exact hm)|(apply acq;rfl;rfl;first|exact q168 _|exact q167 _|exact t1 _|exact f1 _)|(apply ajU;rfl;rfl;(first|(simp only[nca];rfl)|rfl);first|exact q168 _|exact q167 _|exact t1 _|exact f1 _)|(apply afG;rfl;rfl;rfl;exact⟨rfl,b9 _,by simp[gM,og]⟩;rfl)|apply afc|apply cV|apply afl|apply afm|apply agR|apply agH|apply ajJ|apply ajN|(apply ajP;rfl)|(apply akp;rfl;rfl;(first|(simp only[nca];rfl)|rfl))|(apply ahB;rfl)|(apply ajK;rfl)|(apply aev;rfl;rfl)|(apply acr;rfl;rfl)|(apply ahX;rfl;rfl)|(apply acq;rfl;rfl;first|exact t1 _|exact f1 _|exact t4 _|exact f4 _|exact qa _|exact qb _|exact qg _)|(apply acq;rfl;rfl;first|exact g04 _ _ rfl|exact g00 _ _ rfl)|(apply afC;rfl;rfl;rfl)|(apply aiq;rfl;rfl;rfl)|(apply abL;rfl;rfl)|(apply afx;rfl;rfl)|(intro _;omega)|intro _
       all_goals try omega
       all_goals exact jE (.inr rfl) rfl rfl rfl rfl
     . have hc:gI (aP 0 top) (aP 0 bot)=true:=by rw[gI,←hg];simp[h1]
       rw[if_pos ⟨rfl,hc⟩];obtain⟨z,hz⟩:∃z,z=bz ((g:Int)-1):=⟨_,rfl⟩;have z0:z≠0:=by rw[hz];unfold bz;split <;> (first|omega|(split <;> omega))
       rw[←hz]at q167;unfold rT rU;repeat' first|(apply akJ (m:=m);rfl;rfl;exact hm)|(apply acq;rfl;rfl;first|exact q168 _|exact q167 _|exact t1 _|exact f1 _)|(apply ajU;rfl;rfl;(first|(simp only[nca];rfl)|rfl);first|exact q168 _|exact q167 _|exact t1 _|exact f1 _)|(apply afG;rfl;rfl;rfl;exact⟨rfl,b9 _,by simp[gM,og]⟩;rfl)|apply afc|apply cV|apply afl|apply afm|apply agR|apply agH|apply ajJ|apply ajN|(apply ajP;rfl)|(apply akp;rfl;rfl;(first|(simp only[nca];rfl)|rfl))|(apply ahB;rfl)|(apply ajK;rfl)|(apply aev;rfl;rfl)|(apply acr;rfl;rfl)|(apply ahX;rfl;rfl)|(apply acq;rfl;rfl;first|exact t1 _|exact f1 _|exact t4 _|exact f4 _|exact qa _|exact qb _|exact qg _)|(apply acq;rfl;rfl;first|exact g04 _ _ rfl|exact g00 _ _ rfl)|(apply afC;rfl;rfl;rfl)|(apply aiq;rfl;rfl;rfl)|(apply abL;rfl;rfl)|(apply afx;rfl;rfl)|(intro _;omega)|intro _
       all_goals try omega
       all_goals exact jE (.inr rfl) rfl rfl rfl rfl
theorem w84 (C:Gd M N)(hN:600<=N)(s:ah)(hl:s.length<1000000):aV M 84 [.str s] [] ⟨.iV (gU s),[],[]⟩:=by
 have hcl:=rS 45 s;have htl:(cX s).length<=s.length:=d7 (zQ 47 _) hcl;have hbl:(dL s).length<=s.length:=d7 (Gf 47 _) hcl;have q162:=fun h=>C.OO s h hl
 have q163:=fun h=>C.FP (bN 45 s) h ac
 have ecut:js 47 (bN 45 s) = .au [.str (cX s),.str (dL s),.bool (iM s)]:=rfl;rw[ecut]at q163;have q164a:=fun h=>C.Ge (cX s) h ac
 have q164b:=fun h=>C.Ge (dL s) h ac
 have hform:kS s=(ee (cX s) && !(preB 45 s && decide (cX s=[48])) && (!iM s || (ee (dL s) && decide (dL s≠[48]) && decide (dL s≠[49])))):=rfl;have hchk:gU s=if kS s=false then 1 else if 600<(cX s).length\/600<(dL s).length then 4 else if iM s=true/\gI (aP 0 (cX s)) (aP 0 (dL s))=true then 1 else 0:=rfl
 have dA:=fun h=>(uF (s:=cX s) h).2
 have dC:=fun h=>(uF (s:=dL s) h).2
 rw[hchk];clear hchk ecut;refine bH (by rw[C.ft];exact aek) be ?_;generalize cX s=top at *
 generalize dL s=bot at *
 generalize kS s=F at *
 generalize iM s=B at *
 generalize preB 45 s=P at *
 have ll:top.length<1000000/\bot.length<1000000:=⟨ac,ac⟩;unfold Ox;simp only[enter];cases hA:ee top with
 | false=>
  rw[hA]at q164a hform;simp only[ii]at hform;subst hform;cases B;all_goals
  . repeat' first|(exact kj C hN _ _ top bot ll (fun h=>by cases h) _ _ _ _ _ _ _ _)|apply afc|apply cV|apply afl|apply afm|apply agH|(apply afH;rfl)|(apply ahB;rfl)|(apply ait;rfl)|(apply amp;rfl)|(apply ahX;rfl;rfl)|(apply acq;rfl;rfl;first|exact q162 _|exact q163 _|exact q164a _)|(apply abL;rfl;rfl)|(apply afx;rfl;rfl)
 | true=>
  rw[hA]at q164a hform;simp only[f6]at hform;have dA:=dA hA;by_cases hz:P=true/\top=[48]
  . obtain⟨rfl,hz⟩:=hz;rw[decide_eq_true hz]at hform;simp only[Bool.and_self,j7,ii]at hform;subst hform;cases B;all_goals
    . repeat' first|(exact kj C hN _ _ top bot ll (fun h=>by cases h) _ _ _ _ _ _ _ _)|(apply agL;rfl;rfl;all_goals first|(intro h;exact absurd hz h)|intro _)|apply afc|apply cV|apply afl|apply afm|apply agH|(apply afH;rfl)|(apply ahB;rfl)|(apply ahY;rfl)|(apply ait;rfl)|(apply ahR;rfl;rfl)|(apply ahX;rfl;rfl)|(apply acq;rfl;rfl;first|exact q162 _|exact q163 _|exact q164a _)|(apply abL;rfl;rfl)|(apply afx;rfl;rfl)
  . have hpz:(P && decide (top=[48]))=false:=by
     cases P with
     | false=>rfl
     | true=>grind
    rw[hpz]at hform;simp only[m7,f6]at hform;cases B with
    | false=>
     simp only[m7,n3]at hform;subst hform;cases P with
     | false=>
      repeat' first|(exact kj C hN _ _ top bot ll (fun _=>⟨dA,fun h=>by cases h⟩) _ _ _ _ _ _ _ _)|apply afc|apply cV|apply afl|apply afm|apply agH|(apply ahB;rfl)|(apply ahY;rfl)|(apply ait;rfl)|(apply ahR;rfl;rfl)|(apply ahX;rfl;rfl)|(apply acq;rfl;rfl;first|exact q162 _|exact q163 _|exact q164a _)|(apply abL;rfl;rfl)|(apply afx;rfl;rfl)
     | true=>
      have hz:¬top=[48]:=bS;repeat' first|(exact kj C hN _ _ top bot ll (fun _=>⟨dA,fun h=>by cases h⟩) _ _ _ _ _ _ _ _)|(apply agL;rfl;rfl;all_goals first|(intro h;exact absurd h hz)|intro _)|apply afc|apply cV|apply afl|apply afm|apply agH|(apply ahB;rfl)|(apply ahY;rfl)|(apply ahR;rfl;rfl)|(apply acq;rfl;rfl;first|exact q162 _|exact q163 _|exact q164a _)|(apply abL;rfl;rfl)|(apply afx;rfl;rfl)
    | true=>
     simp only[j7,nJ]at hform;cases hC:ee bot with
     | false=>
      rw[hC]at q164b hform;simp only[ii]at hform;subst hform;cases P with
      | false=>
       repeat' first|(exact kj C hN _ _ top bot ll (fun h=>by cases h) _ _ _ _ _ _ _ _)|apply afc|apply cV|apply afl|apply afm|(apply afH;rfl)|(apply ahY;rfl)|(apply ait;rfl)|(apply ahR;rfl;rfl)|(apply ahX;rfl;rfl)|(apply acq;rfl;rfl;first|exact q162 _|exact q163 _|exact q164a _|exact q164b _)|(apply abL;rfl;rfl)|(apply afx;rfl;rfl)
      | true=>
       have hz:¬top=[48]:=bS;repeat' first|(exact kj C hN _ _ top bot ll (fun h=>by cases h) _ _ _ _ _ _ _ _)|(apply agL;rfl;rfl;all_goals first|(intro h;exact absurd h hz)|intro _)|apply afc|apply cV|apply afl|apply afm|(apply afH;rfl)|(apply ahY;rfl)|(apply ait;rfl)|(apply ahR;rfl;rfl)|(apply ahX;rfl;rfl)|(apply acq;rfl;rfl;first|exact q162 _|exact q163 _|exact q164a _|exact q164b _)|(apply abL;rfl;rfl)|(apply afx;rfl;rfl)
     | true=>
      rw[hC]at q164b hform;simp only[f6]at hform;have dC:=dC hC;by_cases h48:bot=[48]
      . rw[decide_eq_false bS]at hform;simp only[ii]at hform;subst hform;cases P with
        | false=>
         repeat' first|(exact kj C hN _ _ top bot ll (fun h=>by cases h) _ _ _ _ _ _ _ _)|(apply ajA;rfl;rfl;all_goals first|(intro h;exact absurd h48 h)|intro _)|apply afc|apply cV|apply afl|apply afm|(apply afH;rfl)|(apply ahY;rfl)|(apply ait;rfl)|(apply ahR;rfl;rfl)|(apply ahX;rfl;rfl)|(apply acq;rfl;rfl;first|exact q162 _|exact q163 _|exact q164a _|exact q164b _)|(apply abL;rfl;rfl)|(apply afx;rfl;rfl)
        | true=>
         have hz:¬top=[48]:=bS;repeat' first|(exact kj C hN _ _ top bot ll (fun h=>by cases h) _ _ _ _ _ _ _ _)|(apply agL;rfl;rfl;all_goals first|(intro h;exact absurd h hz)|intro _)|(apply ajA;rfl;rfl;all_goals first|(intro h;exact absurd h48 h)|intro _)|apply afc|apply cV|apply afl|apply afm|(apply afH;rfl)|(apply ahY;rfl)|(apply ait;rfl)|(apply ahR;rfl;rfl)|(apply ahX;rfl;rfl)|(apply acq;rfl;rfl;first|exact q162 _|exact q163 _|exact q164a _|exact q164b _)|(apply abL;rfl;rfl)|(apply afx;rfl;rfl)
      . rw[decide_eq_true (show bot≠[48] from h48)]at hform;simp only[f6]at hform;by_cases h49:bot=[49]
        . rw[decide_eq_false bS]at hform;subst hform;cases P with
          | false=>
           repeat' first|(exact kj C hN _ _ top bot ll (fun h=>by cases h) _ _ _ _ _ _ _ _)|(apply ajA;rfl;rfl;all_goals first|(intro h;exact absurd h h48)|(intro h;exact absurd h49 h)|intro _)|apply afc|apply cV|apply afl|apply afm|(apply afH;rfl)|(apply ahY;rfl)|(apply ait;rfl)|(apply ahR;rfl;rfl)|(apply ahX;rfl;rfl)|(apply acq;rfl;rfl;first|exact q162 _|exact q163 _|exact q164a _|exact q164b _)|(apply abL;rfl;rfl)|(apply afx;rfl;rfl)
          | true=>
           have hz:¬top=[48]:=bS;repeat' first|(exact kj C hN _ _ top bot ll (fun h=>by cases h) _ _ _ _ _ _ _ _)|(apply agL;rfl;rfl;all_goals first|(intro h;exact absurd h hz)|intro _)|(apply ajA;rfl;rfl;all_goals first|(intro h;exact absurd h h48)|(intro h;exact absurd h49 h)|intro _)|apply afc|apply cV|apply afl|apply afm|(apply afH;rfl)|(apply ahY;rfl)|(apply ahR;rfl;rfl)|(apply acq;rfl;rfl;first|exact q162 _|exact q163 _|exact q164a _|exact q164b _)|(apply abL;rfl;rfl)|(apply afx;rfl;rfl)
        . rw[decide_eq_true (show bot≠[49] from h49)]at hform;subst hform;cases P with
          | false=>
           repeat' first|(exact kj C hN _ _ top bot ll (fun _=>⟨dA,fun _=>dC⟩) _ _ _ _ _ _ _ _)|(apply ajA;rfl;rfl;all_goals first|(intro h;exact absurd h h48)|(intro h;exact absurd h h49)|intro _)|apply afc|apply cV|apply afl|apply afm|(apply afH;rfl)|(apply ahY;rfl)|(apply ait;rfl)|(apply ahR;rfl;rfl)|(apply ahX;rfl;rfl)|(apply acq;rfl;rfl;first|exact q162 _|exact q163 _|exact q164a _|exact q164b _)|(apply abL;rfl;rfl)|(apply afx;rfl;rfl)
          | true=>
           have hz:¬top=[48]:=bS;repeat' first|(exact kj C hN _ _ top bot ll (fun _=>⟨dA,fun _=>dC⟩) _ _ _ _ _ _ _ _)|(apply agL;rfl;rfl;all_goals first|(intro h;exact absurd h hz)|intro _)|(apply ajA;rfl;rfl;all_goals first|(intro h;exact absurd h h48)|(intro h;exact absurd h h49)|intro _)|apply afc|apply cV|apply afl|apply afm|(apply afH;rfl)|(apply ahY;rfl)|(apply ahR;rfl;rfl)|(apply acq;rfl;rfl;first|exact q162 _|exact q163 _|exact q164a _|exact q164b _)|(apply abL;rfl;rfl)|(apply afx;rfl;rfl)
def Dq (k:Nat)(q:Rat):Prop:=aj q.num<10^k/\(q.den:Int)<10^k
theorem qh (k:Nat):(0:Int)<10^k:=gT am
theorem qi {m n:Nat}(h:m<=n):(10:Int)^m<=10^n:=gS am h
theorem Dq.mono {m n:Nat}{q:Rat}(h:Dq m q)(hl:m<=n):Dq n q:=⟨d9 h.1 (qi hl),d9 h.2 (qi hl)⟩
theorem afd {n d:Int}(h:0<d):∃c:Int,0<c/\n=c*(gF n d).num/\d=c*((gF n d).den:Int):=by
 obtain⟨k1,k2,h1,h2,h3,h4⟩:=yi (n:=n) h;refine⟨(Int.gcd n d:Nat),?_,bS,bS⟩;grind
theorem afe {c x:Int}(hc:0<c):aj x<=aj (c*x):=by
 rw[tX,cH (b8 hc)];have:=b6 (show 1<=c by omega) (ju (x:=x));omega
theorem Dq.divInt {k:Nat}{n d:Int}(hd:0<d)(h1:aj n<10^k)(h2:d<10^k):Dq k (gF n d):=by
 obtain⟨c,hc,e1,e2⟩:=afd (n:=n) hd;refine⟨i7 ?_ h1,i7 ?_ h2⟩
 . have:=afe (x:=(gF n d).num) hc;grind
 . have h0:(0:Int)<=((gF n d).den:Int):=by omega
   have:=b6 (show 1<=c by omega) h0;rw[←e2]at this;omega
theorem kT {x y:Int}{m n:Nat}(hx:aj x<10^m)(hy:aj y<10^n):aj (x*y)<10^(m+n):=by
 rw[tX,Int.pow_add];have h1:=b5 (b8 hy) (ju (x:=x));have h2:=c7 hx (qh n);omega
theorem OQ {x y:Int}:aj (x+y)<=aj x+aj y:=by unfold aj;omega
theorem Dq.add {m n:Nat}{p q:Rat}(hp:Dq m p)(hq:Dq n q):Dq (m+n+1) (p+q):=by
 rw[tZ];have dp:=den_pos (q:=p);have dq:=den_pos (q:=q);have a1:=kT hp.1 (show aj (q.den:Int)<10^n by rw[cH ac];exact hq.2);have a2:=kT hq.1 (show aj (p.den:Int)<10^m by rw[cH ac];exact hp.2);have a3:=kT (show aj (p.den:Int)<10^m by rw[cH ac];exact hp.2) (show aj (q.den:Int)<10^n by rw[cH ac];exact hq.2);rw[Nat.add_comm n m]at a2;have a4:=OQ (x:=p.num*q.den) (y:=q.num*p.den);have e:(10:Int)^(m+n+1)=10^(m+n)*10:=(by rfl);have hp0:=qh (m+n);have hd:=j3 dp dq;rw[cH ac]at a3;exact .divInt hd ac ac
theorem Gh (p q:Rat):p*q=gF (p.num*q.num) (p.den*q.den):=by
 have e:=Rat.divInt_mul_divInt p.num q.num (d₁:=p.den) (d₂:=q.den);rw[kw,kw]at e;exact e
theorem Dq.mul {m n:Nat}{p q:Rat}(hp:Dq m p)(hq:Dq n q):Dq (m+n) (p*q):=by
 rw[Gh];have dp:=den_pos (q:=p);have dq:=den_pos (q:=q);have a1:=kT hp.1 hq.1;have a3:=kT (show aj (p.den:Int)<10^m by rw[cH ac];exact hp.2) (show aj (q.den:Int)<10^n by rw[cH ac];exact hq.2);have hd:=j3 dp dq;rw[cH ac]at a3;exact .divInt hd a1 a3
theorem Dq.neg {m:Nat}{p:Rat}(hp:Dq m p):Dq m (-p):=by
 refine⟨?_,?_⟩
 . rw[Rat.neg_num,jR];exact hp.1
 . rw[Rat.neg_den];exact hp.2
theorem Dq.sub {m n:Nat}{p q:Rat}(hp:Dq m p)(hq:Dq n q):Dq (m+n+1) (p-q):=by
 rw[Rat.sub_eq_add_neg];exact hp.add hq.neg
theorem inv_divInt {q:Rat}:q⁻¹=gF q.den q.num:=by
 rw[Rat.inv_def]
theorem Dq.inv {m:Nat}{q:Rat}(hq:Dq m q)(h0:q≠0):Dq m q⁻¹:=by
 have hn:q.num≠0:=fun e=>h0 (mU.1 e)
 have dq:=den_pos (q:=q);rw[inv_divInt];by_cases hs:0<q.num
 . have a:=hq.1;rw[cH ac]at a;exact .divInt hs (by rw[cH ac];exact hq.2) a
 . rw[←Rat.neg_divInt_neg];have a:=hq.1;have e:aj q.num = -q.num:=if_pos ac;rw[e]at a;exact .divInt ac (by rw[jR,cH ac];exact hq.2) a
theorem zU {z:Int}{k:Nat}(hk:0<k)(h:aj z<10^k):(aS (aj z).toNat).length<=k:=by
 refine pU ?_ hk;grind
theorem OR {z:Int}{k:Nat}(hk:0<k)(h:aj z<10^k):(bM z).length<=k+1:=by
 have:=zU hk h;by_cases hz:z<0
 . rw[od hz,jD];omega
 . rw[lW hz];omega
theorem aff {q:Rat}{k:Nat}(hk:0<k)(h:Dq k q):(aS q.den).length<=k:=by
 have:=zU (z:=(q.den:Int)) hk (by rw[cH ac];exact h.2);rw[cH ac]at this;exact this
theorem Dq.lq {q:Rat}{k N:Nat}(hk:0<k)(h:Dq k q)(hN:k+1<=N):Lq N q:=
 ⟨d7 (OR hk h.1) hN,d7 (aff hk h) ac⟩
theorem qj (q:Rat):preB 45 (ao q)=decide (q.num<0)/\bN 45 (ao q)=(if q.den=1 then aS (aj q.num).toNat else aS (aj q.num).toNat++47::aS q.den):=by
 by_cases hn:q.num<0
 . rw[decide_eq_true hn];unfold ao;split
   . rw[od hn];exact⟨rfl,rfl⟩
   . rw[od hn];exact⟨rfl,rfl⟩
 . rw[decide_eq_false hn];unfold ao;rw[lW hn];have hp:=Ou (aj q.num).toNat (c:=45) am;split
   . exact⟨hp,kR hp⟩
   . have hp2:preB 45 (aS (aj q.num).toNat++47::aS q.den)=false:=by
      cases hd:aS (aj q.num).toNat with
      | nil=>rfl
      | cons b t=>rw[hd]at hp;exact hp
     exact⟨hp2,kR hp2⟩
theorem afg (q:Rat):cX (ao q)=aS (aj q.num).toNat/\dL (ao q)=(if q.den=1 then [] else aS q.den)/\iM (ao q)=decide (q.den≠1):=by
 have hn:=Ot (kP (aj q.num).toNat) (c:=47) am;unfold cX dL iM;rw[(qj q).2];by_cases h:q.den=1
 . rw[if_pos h,if_pos h,uA hn,decide_eq_false ac];simp
 . rw[if_neg h,if_neg h,uB hn,decide_eq_true h];simp
theorem afh (z:Int):(aj z).toNat=z.natAbs:=by unfold aj;omega
theorem OS {s:ah}(h:ee s=true):MX s:=by
 obtain⟨h1,h2⟩:=uF h;refine⟨h1,h2,fun h3=>?_⟩;simp only[ee,c3,Bool.or_eq_true,decide_eq_true_eq]at h;cases s with
 | nil=>grind
 | cons b t=>
  grind
theorem OT {s:ah}{k:Nat}(h:s.all bJ=true)(hl:s.length<=k):((aP 0 s:Nat):Int)<10^k:=by
 have h1:=nY s h;have h2:(aP 0 s:Int)<(10:Int)^s.length:=by exact_mod_cast h1
 exact d9 h2 (qi hl)
theorem afi {s:ah}{k:Nat}(h:gU s=0)(hl:s.length<=k):∃q,s=ao q/\Dq k q:=by
 have hform:kS s=true:=by
  cases hf:kS s with
  | true=>rfl
  | false=>unfold gU at h;grind
 have hcop:¬(iM s=true/\gI (aP 0 (cX s)) (aP 0 (dL s))=true):=fun hc=>by
  unfold gU at h;grind
 unfold kS at hform;rw[c3,c3]at hform;obtain⟨⟨f1,f2⟩,f3⟩:=hform;have hcl:=rS 45 s;have htl:(cX s).length<=k:=d7 (d7 (zQ 47 _) hcl) hl;have hbl:(dL s).length<=k:=d7 (d7 (Gf 47 _) hcl) hl;have hT:=OS f1;have eT:=MY hT;have hs:s=if preB 45 s=true then 45::bN 45 s else bN 45 s:=by
  cases hp:preB 45 s with
  | false=>rw[if_neg am,kR hp]
  | true=>
   rw[if_pos rfl];have hh:=of_decide_eq_true hp;unfold bN;rw[if_pos hh];cases s with
   | nil=>simp at hh
   | cons c t=>grind
 obtain⟨z,hz⟩:∃z:Int,z=if preB 45 s=true then -(aP 0 (cX s):Int) else (aP 0 (cX s):Nat):=⟨_,rfl⟩
 have hza:aj z=(aP 0 (cX s):Nat):=by
  rw[hz];unfold aj;cases preB 45 s with
  | false=>rfl
  | true=>omega
 have hzn:preB 45 s=decide (z<0):=by
  cases hp:preB 45 s with
  | false=>
   grind
  | true=>
   rw[hp,if_pos rfl]at hz;rw[hp]at f2;have n0:aP 0 (cX s)≠0:=fun e=>by
    rw[e,iX am]at eT;rw[←eT]at f2;exact absurd f2 am
   grind
 have hzt:bM z=if preB 45 s=true then 45::cX s else cX s:=by
  rw[hzn];by_cases hn:z<0
  . rw[od hn,hza,decide_eq_true hn,if_pos rfl];grind
  . rw[lW hn,hza,decide_eq_false hn,if_neg am];exact eT
 have hzb:aj z<10^k:=by rw[hza];exact OT hT.2.1 htl
 have k1:(1:Int)<10^k:=by
  have h0:0<(cX s).length:=List.length_pos_iff.2 hT.1;have:=qi (show 1<=k by omega);rw[Int.pow_one]at this;omega
 cases hb:iM s with
 | false=>
  have hn:(bK 47 (bN 45 s)).2=none:=by
   unfold iM at hb;cases h:(bK 47 (bN 45 s)).2 with
   | none=>rfl
   | some y=>grind
  have e:cX s=bN 45 s:=(oh hn).1;refine⟨gF z 1,?_,?_⟩
  . unfold ao;rw[nU.1,nU.2,if_pos rfl,hzt,e];exact hs
  . exact⟨by rw[nU.1];exact hzb,by rw[nU.2];exact k1⟩
 | true=>
  rw[hb]at f3 hcop;simp only[j7,nJ,c3,decide_eq_true_eq]at f3;have hB:=OS f3.1.1;have eB:=MY hB;have hd2:aP 0 (dL s)≠0/\aP 0 (dL s)≠1:=by
   refine⟨fun e=>?_,fun e=>?_⟩
   . rw[e,iX am]at eB;exact f3.1.2 eB.symm
   . rw[e,iX am]at eB;exact f3.2 eB.symm
  have hco:z.natAbs.Coprime (aP 0 (dL s)):=by
   have h2:gI (aP 0 (cX s)) (aP 0 (dL s))=false:=by
    cases hc:gI (aP 0 (cX s)) (aP 0 (dL s)) with
    | false=>rfl
    | true=>grind
   have:z.natAbs=aP 0 (cX s):=by rw[←afh,hza];rfl
   rw[this];simpa[gI] using h2
  refine⟨⟨z,aP 0 (dL s),hd2.1,hco⟩,?_,hzb,OT hB.2.1 hbl⟩;unfold iM at hb;obtain⟨y,hy⟩:=jq.1 hb;have e:=(rR hy).1;have eb:dL s=y:=by unfold dL;rw[hy];rfl
  have et:(bK 47 (bN 45 s)).1=cX s:=rfl;rw[et,←eb]at e;unfold ao;grind
theorem Gi:ao 0=[48]:=by
 show (if (1:Nat)=1 then bM 0 else _)=_;rw[if_pos rfl,lW am];exact iX am
theorem afj {q:Rat}(h:ao q=[48]):q=0:=by
 obtain⟨e1,e2,e3⟩:=afg q;rw[h]at e1 e3;have a1:cX [48]=[48]:=rfl;have a3:iM [48]=false:=rfl;rw[a1]at e1;have:=mJ (aj q.num).toNat;rw[←e1]at this;simp[aP]at this;have h0:=ju (x:=q.num);refine mU.1 ?_;unfold aj at this h0;omega
open Go.Proofs
variable {T:List (Nat×Spec)}
noncomputable def zV:List (Nat×Spec):=(183,FV)::(263,FW)::(264,Gc)::(253,rL)::(323,nH .same)::TI
theorem afk:cD Tryz.prog gl (bk zV):=aO aeB (aO aeC (aO aeZ (aO aaE (aO (xk aes) rM))))
theorem eSt:EI zV:=by repeat' first|exact fun _ _=>rfl|constructor
theorem cSt {N:Nat}(hN:N<=500000):zk (aZ Tryz.prog FT zV) N:={ eSt.c hN with
 NA:=fun z h hz=>aeD z h hz
 FE:=fun u h hu=>aeE u h hu
 NB:=fun k h hk=>afa k h hk
 NC:=fun l b c h o n hl hv hb=>aaF l b c h o n hl hv hb
 ND:=fun l b c h o n hl hv hb=>aaG l b c h o n hl hv hb
 FF:=fun _ _=>rfl
 FG:=fun _ _=>rfl
 rP:=fun _ _=>rfl
 qc:=fun _ _=>rfl }
noncomputable def zW:Spec:=sK zV 224
theorem OU:aT Tryz.prog gl 224 zW:=bh afk
theorem Gj {N:Nat}(hN:N<=500000):∀v z,ax v z->aj z<wB^N->∀h,zW [v] h=some ⟨.str (bM z),h,[]⟩:=fun v z hv lz=>bO (ada (cSt hN) hv lz) (fH hv.top) rfl rfl
noncomputable def Gk:List (Nat×Spec):=(240,uc)::TI
theorem afn:EI Gk:=by repeat' first|exact fun _ _=>rfl|constructor
noncomputable def Gl:Spec:=sK Gk 262
theorem afo:aT Tryz.prog gl 262 Gl:=bh (aO EX rM)
noncomputable def OV:List (Nat×Spec):=[(201,ui),(224,zW)]
noncomputable def Gm:Spec:=sK OV 176
theorem afp:aT Tryz.prog gl 176 Gm:=bh (aO ME (aO OU bA))
theorem OW (n:Nat):bM (n:Int)=aS n:=by
 rw[lW ac,cH ac];rfl
theorem Dq.bq {k N:Nat}{q:Rat}(h:Dq k q)(hN:k<=N):Bq N q:=by
 have e:(10:Int)^k<=wB^N:=i5 (qi hN) (by
  clear hN;induction N with
  | zero=>decide
  | succ n ih=>
   rw[ce,ce];have h0:(0:Int)<=10^n:=b8 (qh n);have h1:(0:Int)<=wB^n:=i5 h0 ih;exact i5 (b6 ih am) (b5 am h1))
 exact⟨d9 h.1 e,d9 h.2 e⟩
noncomputable def zX:Spec:=sK TF 215
theorem afq:aT Tryz.prog gl 215 zX:=bh Fg
theorem afr {A:Int}(hA:aj A<=10)(i:Nat):aj (A^i)<=10^i:=by
 induction i with
 | zero=>
  rw[Int.pow_zero,Int.pow_zero];decide
 | succ n ih=>
  rw[ce,ce,tX];exact i5 (b6 ih ju) (b5 hA (b8 (qh n)))
theorem afs:∀v A (K:Nat),ax v A->K<=18->aj A<=10->∃v0,ax v0 (A^K)/\∀h,zX [v,.iV K] h=some ⟨v0,h,[]⟩:=fun v A K hv hK hA=>by
 obtain⟨v0,h1,h2⟩:=aan (eF.c (N:=1) am am) hv (K:=K) ac fun i hi=>by
  have xE:(10:Int)^i<=10^18:=qi ac;have hw:(10:Int)^18<wB^1:=by decide
  exact i7 (i5 (afr hA i) xE) hw
 exact⟨v0,h1,dm h2 (eK hv.top rfl)⟩
noncomputable def zY:List (Nat×Spec):=(212,uD)::(213,uE)::(214,zO)::(215,zX)::TF
theorem OX:cD Tryz.prog gl (bk zY):=aO OJ (aO OK (aO aeS (aO afq Fg)))
structure zZ (T:List (Nat×Spec)):Prop extends EF T where
 aft:∀ar h,bk T 212 ar h=uD ar h
 afu:∀ar h,bk T 213 ar h=uE ar h
 afv:∀ar h,bk T 214 ar h=zO ar h
 afw:∀ar h,bk T 215 ar h=zX ar h
theorem zZ.c (E:zZ T){N:Nat}(h1:1<=N)(hN:N<=500000):zA (aZ Tryz.prog FT T) N:={ E.toEF.c h1 hN with
 Om:=fun s h hl=>(E.aft _ _).trans (zI s 45 h hl)
 FM:=fun s h hl=>(E.afu _ _).trans (OL s 45 h hl)
 On:=fun s h h0 hl hd=>(E.afv _ _).trans (aeW s h h0 hl hd)
 Oo:=fun v A K hv hK _ hA=>by
  obtain⟨v0,k1,k2⟩:=afs v A K hv hK hA;exact⟨v0,k1,fun h=>(E.afw _ _).trans (k2 h)⟩ }
theorem eRd:zZ zY:=by repeat' first|exact fun _ _=>rfl|constructor
noncomputable def Aa:Spec:=sK zY 166
theorem afy:aT Tryz.prog gl 166 Aa:=bh OX
theorem afz {N:Nat}(h1:1<=N)(hN:N<=500000):∀(s:ah),s.length<=N->(bN 45 s).all bJ=true->∃v0,ax v0 (if preB 45 s then -(aP 0 (bN 45 s):Int) else (aP 0 (bN 45 s):Nat))/\∀h,Aa [.str s] h=some ⟨v0,h,[]⟩:=fun s hl hd=>by
 obtain⟨v0,k1,k2⟩:=aef (eRd.c h1 hN) s hl hd;exact⟨v0,k1,dm k2 rfl⟩
noncomputable def Ac:List (Nat×Spec):=(163,zJ)::(166,Aa)::zY
theorem OY:cD Tryz.prog gl (bk Ac):=aO aeK (aO afy OX)
structure Ad (T:List (Nat×Spec)):Prop extends zZ T where
 afA:∀ar h,bk T 163 ar h=zJ ar h
 afB:∀ar h,bk T 166 ar h=Aa ar h
theorem Ad.c (E:Ad T){N:Nat}(h1:1<=N)(hN:N<=500000):mM (aZ Tryz.prog FT T) N:={ E.tozZ.c h1 hN with
 FP:=fun s h hl=>(E.afA _ _).trans (aeL s 47 h hl)
 FQ:=by simp only[E.afB];exact afz h1 hN }
theorem eFm:Ad Ac:=by repeat' first|exact fun _ _=>rfl|constructor
noncomputable def Gn:Spec:=sK Ac 103
theorem afD:aT Tryz.prog gl 103 Gn:=bh OY
theorem afE {N:Nat}(h1:1<=N)(hN:N<=400000):∀q,Lq N q->∃v0,br v0 q/\∀h,Gn [.str (ao q)] h=some ⟨v0,h,[]⟩:=fun q lq=>by
 obtain⟨v0,k1,k2⟩:=aej (eFm.c h1 ac) hN lq;exact⟨v0,k1,dm k2 rfl⟩
noncomputable def Ae:List (Nat×Spec):=(162,FX)::(164,Ga)::(165,ug)::(97,pF)::(96,pG)::Ac
theorem afF:cD Tryz.prog gl (bk Ae):=aO aeH (aO aeR (aO MB (aO KS (aO KT OY))))
theorem eCk:Ad Ae:=by repeat' first|exact fun _ _=>rfl|constructor
theorem OZ {v:AV}{h:aa}{l:List Int}(hl:gg h v=some l)(hn:l.length<1000):pG [v] h=some ⟨.iV (fU l),h,[]⟩:=by
 simp only[pG,hl];rw[if_pos ac]
theorem cCk:Gd (aZ Tryz.prog FT Ae) 600:={ eCk.c am am with
  OO:=fun s h hl=>aeI s 45 h hl
  Ge:=fun s h hl=>aeV s h hl
  tW:=fun a b x y ha hb hx hy=>MC am am a b x y ha hb hx hy
  lj:=fun _ _ _=>rfl
  iZ:=fun v h l hl hn=>OZ hl hn }
noncomputable def Af:Spec:=sK Ae 84
theorem afI:aT Tryz.prog gl 84 Af:=bh afF
theorem k84:∀(s:ah) h,s.length<1000000->Af [.str s] h=some ⟨.iV (gU s),h,[]⟩:=fun s h hl=>bO (w84 cCk (b9 _) s hl) rfl rfl rfl h
set_option maxRecDepth 1000000
def Pa:ak:=zR [zi 1 0] (zR [zm 8 0,zw 2 8] (.seq (zR [zm 9 2,zL 10 9,zc 11 .gtr 10 0,zn 12 11,zg (zm 13 2) 12 true,⟨.l 14,.index (.l 13) (kI 0),some ((.l 12),true)⟩,⟨.l 15,.bin .eql (.l 14) (.c (.int .u8 (45))),some ((.l 12),true)⟩,zp 16 12 15] (.cond (.l 16) (.region [zm 17 2,⟨.l 18,.slice .str 1 (.l 17) (some (kI 1)) none none,none⟩,zw 2 18]) (.skip))) (zR [zm 19 2,z1 20 153 19,zw 3 20] (.seq (zR [zm 21 2,zm 22 3,⟨.l 23,.slice .str 1 (.l 21) none (some (.l 22)) none,none⟩,z1 24 154 23,zu 25 24,zn 26 25,zg (zm 27 0) 26 false,⟨.l 28,.index (.l 27) (kI 0),some ((.l 26),false)⟩,⟨.l 29,.bin .eql (.l 28) (.c (.int .u8 (45))),some ((.l 26),false)⟩,zg (zn 30 29) 26 false,zg (zm 31 2) 30 true,zg (zm 32 3) 30 true,⟨.l 33,.slice .str 1 (.l 31) none (some (.l 32)) none,some ((.l 30),true)⟩,⟨.l 34,.bin .eql (.l 33) (.c (.str [48])),some ((.l 30),true)⟩,zg (zp 35 30 34) 26 false,zP 36 26 35] (.cond (.l 36) (zR [zi 1 1] (.ret)) (.skip))) (.seq (zR [zm 37 3,zm 38 2,zL 39 38,zb 40 .lss 37 39,zn 41 40,zg (zm 42 2) 41 true,zg (zm 43 3) 41 true,zg (zc 44 .add 43 1) 41 true,⟨.l 45,.slice .str 1 (.l 42) (some (.l 44)) none none,some ((.l 41),true)⟩,zg (z1 46 154 45) 41 true,zg (zu 47 46) 41 true,zg (zn 48 47) 41 true,zg (zm 49 2) 48 false,zg (zm 50 3) 48 false,zg (zc 51 .add 50 1) 48 false,⟨.l 52,.slice .str 1 (.l 49) (some (.l 51)) none none,some ((.l 48),false)⟩,⟨.l 53,.bin .eql (.l 52) (.c (.str [48])),some ((.l 48),false)⟩,zg (zP 54 48 53) 41 true,zg (zn 55 54) 41 true,zg (zm 56 2) 55 false,zg (zm 57 3) 55 false,zg (zc 58 .add 57 1) 55 false,⟨.l 59,.slice .str 1 (.l 56) (some (.l 58)) none none,some ((.l 55),false)⟩,⟨.l 60,.bin .eql (.l 59) (.c (.str [49])),some ((.l 55),false)⟩,zg (zP 61 55 60) 41 true,zp 62 41 61] (.cond (.l 62) (zR [zi 1 1] (.ret)) (.skip))) (.seq (zR [zm 63 3,zc 64 .gtr 63 600,zn 65 64,zg (zm 66 2) 65 false,zg (zL 67 66) 65 false,zg (zm 68 3) 65 false,zg (zb 69 .sub 67 68) 65 false,zg (zc 70 .sub 69 1) 65 false,zg (zc 71 .gtr 70 600) 65 false,zP 72 65 71] (.cond (.l 72) (zR [zi 1 4] (.ret)) (.skip))) (.seq (zR [zm 73 3,zm 74 2,zL 75 74,zb 76 .lss 73 75] (.cond (.l 76) (zR [zm 78 2,z1 79 135 78,zn 77 79,ze 80 0 77,ze 81 1 77,⟨.p 4,.alloc 162 [.bool false,.ab],none⟩,⟨.p 5,.alloc 162 [.bool false,.ab],none⟩,zs 2 4 80,zs 2 5 81] (zR [zf 82 1 4,zd 83 1 82,zf 84 1 5,zd 85 1 84,z2 86 155 83 85,zw 6 86] (zR [zm 87 6,zl 88 87,zc 89 .neq 88 1,zn 90 89,zg (zm 91 6) 90 false,⟨.l 92,.dw none 1 (.l 91) (kI 0),some ((.l 90),false)⟩,zg (zd 93 1 92) 90 false,zg (zc 94 .neq 93 1) 90 false,zP 95 90 94] (.cond (.l 95) (zR [zi 1 1] (.ret)) (.skip))))) (.skip))) (zR [zi 1 0] (.ret)))))))))
theorem afK:FT 62=some ⟨96,[0,2,3,4,5,6,7],[.var (.p 1)],Pa⟩:=by kernel_rfl
def uG:ak:=.seq (zR [zm 4 2,zm 5 0,zL 6 5,zb 7 .lss 4 6] (.cond (.l 7) (.skip) (.exit 0))) (.seq (.block 1 (zR [zm 10 0,zm 11 2,⟨.l 12,.index (.l 10) (.l 11),none⟩,⟨.l 13,.bin .eql (.l 12) (.c (.int .u8 (47))),none⟩] (.cond (.l 13) (zR [zm 14 2,zw 1 14] (.ret)) (.skip)))) (.region [zm 8 2,zc 9 .add 8 1,zw 2 9]))
def Pb:ak:=zR [zi 1 0] (.seq (zR [zi 2 0] (.block 0 (.loop uG))) (zR [zm 15 0,zL 16 15,zw 1 16] (.ret)))
theorem afL:FT 153=some ⟨17,[0,2,3],[.var (.p 1)],Pb⟩:=by kernel_rfl
def uH:ak:=zR [⟨.p 1,.mv (.c (.bool false)),none⟩] (.seq (zR [zm 3 0,zL 4 3,zc 5 .eql 4 0,zn 6 5,zg (zm 7 0) 6 false,zg (zL 8 7) 6 false,zg (zc 9 .gtr 8 1) 6 false,zg (zn 10 9) 6 false,zg (zm 11 0) 10 true,⟨.l 12,.index (.l 11) (kI 0),some ((.l 10),true)⟩,⟨.l 13,.bin .eql (.l 12) (.c (.int .u8 (48))),some ((.l 10),true)⟩,zg (zp 14 10 13) 6 false,zP 15 6 14] (.cond (.l 15) (zR [⟨.p 1,.mv (.c (.bool false)),none⟩] (.ret)) (.skip))) (zR [zm 16 0,z1 17 204 16,zw 1 17] (.ret)))
theorem afM:FT 154=some ⟨18,[0,2],[.var (.p 1)],uH⟩:=by kernel_rfl
def uI:ak:=.seq (zR [zm 4 2,zm 5 0,zL 6 5,zb 7 .lss 4 6] (.cond (.l 7) (.skip) (.exit 0))) (.seq (.block 1 (zR [zm 10 0,zm 11 2,⟨.l 12,.index (.l 10) (.l 11),none⟩,⟨.l 13,.bin .lss (.l 12) (.c (.int .u8 (48))),none⟩,zn 14 13,zg (zm 15 0) 14 false,zg (zm 16 2) 14 false,⟨.l 17,.index (.l 15) (.l 16),some ((.l 14),false)⟩,⟨.l 18,.bin .gtr (.l 17) (.c (.int .u8 (57))),some ((.l 14),false)⟩,zP 19 14 18] (.cond (.l 19) (zR [⟨.p 1,.mv (.c (.bool false)),none⟩] (.ret)) (.skip)))) (.region [zm 8 2,zc 9 .add 8 1,zw 2 9]))
def Pc:ak:=zR [⟨.p 1,.mv (.c (.bool false)),none⟩] (.seq (zR [zi 2 0] (.block 0 (.loop uI))) (zR [⟨.p 1,.mv (.c (.bool true)),none⟩] (.ret)))
theorem afN:FT 204=some ⟨20,[0,2,3],[.var (.p 1)],Pc⟩:=by kernel_rfl
def Gp:ak:=zR [⟨.p 1,.alloc 162 [.bool false,.ab],none⟩,⟨.p 2,.alloc 162 [.bool false,.ab],none⟩] (zR [zm 6 0,zw 3 6] (zR [zm 7 3,z1 8 153 7,zw 4 8] (.seq (zR [zm 9 4,zm 10 3,zL 11 10,zb 12 .eql 9 11] (.cond (.l 12) (zR [zm 13 3,z1 14 193 13,⟨.l 15,.call (kF 139) [(kI 1)],none⟩,zs 2 1 14,zs 2 2 15] (.ret)) (.skip))) (.seq (.draw [(zm 16 3,[]),(zm 17 4,[0]),(⟨.l 18,.slice .str 1 (.l 16) none (some (.l 17)) none,none⟩,[]),(z1 19 193 18,[]),(zm 20 3,[0,1,2,3]),(zm 21 4,[0,1,2,3,4]),(zc 22 .add 21 1,[0,1,2,3,4]),(⟨.l 23,.slice .str 1 (.l 20) (some (.l 22)) none none,none⟩,[0,1,2,3]),(z1 24 193 23,[]),(zs 2 1 19,[]),(zs 2 2 24,[])]) (.ret)))))
theorem Pd:FT 135=some ⟨25,[0,2,3,4,5],[.cell 2 true (.p 1),.cell 2 true (.p 2)],Gp⟩:=by kernel_rfl
def uJ:ak:=.seq (zR [zm 16 0,zL 17 16,zc 18 .gtr 17 9] (.cond (.l 18) (.skip) (.exit 0))) (.block 1 (zR [zm 19 3,zm 20 0,zm 21 0,zL 22 21,zc 23 .sub 22 9,⟨.l 24,.slice .str 1 (.l 20) (some (.l 23)) none none,none⟩,z1 25 192 24,⟨.l 26,.du 3 1 1 [.iV (0)] [(0,1,(.l 25))],none⟩,⟨.l 27,.append 3 1 8 (.l 19) (.l 26),none⟩,zw 3 27] (.region [zm 28 0,zm 29 0,zL 30 29,zc 31 .sub 30 9,⟨.l 32,.slice .str 1 (.l 28) none (some (.l 31)) none,none⟩,zw 0 32])))
def Pe:ak:=zR [⟨.p 1,.alloc 162 [.bool false,.ab],none⟩] (zR [zm 5 0,zL 6 5,zc 7 .gtr 6 0,zn 8 7,zg (zm 9 0) 8 true,⟨.l 10,.index (.l 9) (kI 0),some ((.l 8),true)⟩,⟨.l 11,.bin .eql (.l 10) (.c (.int .u8 (45))),some ((.l 8),true)⟩,zp 12 8 11,zw 2 12] (.seq (zR [zm 13 2] (.cond (.l 13) (.region [zm 14 0,⟨.l 15,.slice .str 1 (.l 14) (some (kI 1)) none none,none⟩,zw 0 15]) (.skip))) (zR [⟨.p 3,.mv (.c (.ab)),none⟩] (.seq (.block 0 (.loop uJ)) (zR [zm 33 2,zm 34 3,zm 35 0,z1 36 192 35,⟨.l 37,.du 3 1 1 [.iV (0)] [(0,1,(.l 36))],none⟩,⟨.l 38,.append 3 1 8 (.l 34) (.l 37),none⟩,z2 39 196 33 38,zs 2 1 39] (.ret))))))
theorem afO:FT 193=some ⟨40,[0,2,3,4],[.cell 2 true (.p 1)],Pe⟩:=by kernel_rfl
def Ag:ak:=.seq (zR [zm 5 3,zm 6 0,zL 7 6,zb 8 .lss 5 7] (.cond (.l 8) (.skip) (.exit 0))) (.seq (.block 1 (.region [zm 11 2,⟨.l 12,.bin .mul (kI 10) (.l 11),none⟩,zm 13 0,zm 14 3,⟨.l 15,.index (.l 13) (.l 14),none⟩,⟨.l 16,.dM .i64 (.l 15),none⟩,zb 17 .add 12 16,zc 18 .sub 17 48,zw 2 18])) (.region [zm 9 3,zc 10 .add 9 1,zw 3 10]))
def Pf:ak:=zR [zi 1 0] (zR [zi 2 0] (.seq (zR [zi 3 0] (.block 0 (.loop Ag))) (zR [zm 19 2,zw 1 19] (.ret))))
theorem afP:FT 192=some ⟨20,[0,2,3,4],[.var (.p 1)],Pf⟩:=by kernel_rfl
def rV:ak:=.seq (zR [zm 8 0,zc 9 .neq 8 0] (.cond (.l 9) (.skip) (.exit 0))) (.block 1 (zR [zm 10 0,zc 11 .rem 10 1000000000,zw 4 11] (.seq (zR [zm 12 4,zc 13 .lss 12 0] (.cond (.l 13) (.region [zm 14 4,⟨.l 15,.bin .sub (kI 0) (.l 14),none⟩,zw 4 15]) (.skip))) (zR [zm 16 2,zm 17 4,⟨.l 18,.du 3 1 1 [.iV (0)] [(0,1,(.l 17))],none⟩,⟨.l 19,.append 3 1 8 (.l 16) (.l 18),none⟩,zw 2 19] (.region [zm 20 0,zc 21 .quo 20 1000000000,zw 0 21])))))
def Gq:ak:=zR [⟨.p 1,.alloc 162 [.bool false,.ab],none⟩] (zR [⟨.p 2,.mv (.c (.ab)),none⟩] (zR [zm 6 0,zc 7 .lss 6 0,zw 3 7] (.seq (.block 0 (.loop rV)) (zR [zm 22 3,zm 23 2,z2 24 196 22 23,zs 2 1 24] (.ret)))))
theorem afQ:FT 139=some ⟨25,[0,2,3,4,5],[.cell 2 true (.p 1)],Gq⟩:=by kernel_rfl
def uK:ak:=zR [⟨.p 2,.alloc 162 [.bool false,.ab],none⟩] (zR [zm 5 1,z1 6 242 5,zw 1 6] (zR [zm 7 0,zn 8 7,zg (zm 9 1) 8 true,zg (zl 10 9) 8 true,zg (zc 11 .gtr 10 0) 8 true,zp 12 8 11,zm 13 1,⟨.l 14,.build [.bool false,.ab] [(0,1,(.l 12)),(1,1,(.l 13))],none⟩,zs 2 2 14] (.ret)))
theorem Ah:FT 196=some ⟨15,[0,1,4],[.cell 2 true (.p 2)],uK⟩:=by kernel_rfl
def kl:ak:=.seq (zR [zm 3 0,zl 4 3,zc 5 .gtr 4 0,zn 6 5,zg (zm 7 0) 6 true,zg (zm 8 0) 6 true,zg (zl 9 8) 6 true,zg (zc 10 .sub 9 1) 6 true,zg (za 11 1 7 10) 6 true,zg (zd 12 1 11) 6 true,zg (zc 13 .eql 12 0) 6 true,zp 14 6 13] (.cond (.l 14) (.skip) (.exit 0))) (.block 1 (.region [zm 15 0,zm 16 0,zl 17 16,zc 18 .sub 17 1,⟨.l 19,.slice .sl 1 (.l 15) none (some (.l 18)) none,none⟩,zw 0 19]))
def uL:ak:=zR [⟨.p 1,.mv (.c (.ab)),none⟩] (.seq (.block 0 (.loop kl)) (zR [zm 20 0,zw 1 20] (.ret)))
theorem Ai:FT 242=some ⟨21,[0,2],[.var (.p 1)],uL⟩:=by kernel_rfl
def uM:ak:=.seq (zR [zm 7 1,zl 8 7,zc 9 .gtr 8 0] (.cond (.l 9) (.skip) (.exit 0))) (.block 1 (zR [zm 11 0,zm 12 1,z2 13 195 11 12,zn 10 13,ze 14 0 10,ze 15 1 10,zn 5 14,zw 3 15] (.region [zm 16 1,zm 17 3,zw 0 16,zw 1 17])))
def Gr:ak:=zR [⟨.p 2,.mv (.c (.ab)),none⟩] (.seq (.block 0 (.loop uM)) (zR [zm 18 0,zw 2 18] (.ret)))
theorem Pg:FT 155=some ⟨19,[0,1,4,6],[.var (.p 2)],Gr⟩:=by kernel_rfl
def Aj:ak:=.seq (zR [zm 63 9,zl 64 63,zm 65 0,zl 66 65,zc 67 .add 66 1,zb 68 .lss 64 67] (.cond (.l 68) (.skip) (.exit 0))) (.block 1 (.region [zm 69 9,⟨.l 70,.du 3 1 1 [.iV (0)] [(0,1,(kI 0))],none⟩,⟨.l 71,.append 3 1 8 (.l 69) (.l 70),none⟩,zw 9 71]))
def Ak:ak:=.seq (zR [zm 90 14,zm 91 8,zb 92 .lss 90 91] (.cond (.l 92) (.skip) (.exit 4))) (.seq (.block 5 (zR [zm 95 12,zm 96 7,zm 97 14,za 98 1 96 97,zd 99 1 98,zb 100 .mul 95 99,zm 101 13,zb 102 .add 100 101,zw 15 102] (zR [zm 103 9,zm 104 14,zm 105 11,zb 106 .add 104 105,za 107 1 103 106,zd 108 1 107,zm 109 15,zc 110 .rem 109 1000000000,zb 111 .sub 108 110,zw 16 111] (zR [zm 112 15,zc 113 .quo 112 1000000000,zw 13 113] (.seq (zR [zm 114 16,zc 115 .lss 114 0] (.cond (.l 115) (zR [zm 116 16,zc 117 .add 116 1000000000,zw 16 117] (.region [zm 118 13,zc 119 .add 118 1,zw 13 119])) (.skip))) (.region [zm 120 9,zm 121 14,zm 122 11,zb 123 .add 121 122,zm 124 16,za 125 1 120 123,zS 1 125 124])))))) (.region [zm 93 14,zc 94 .add 93 1,zw 14 94]))
def Al:ak:=.seq (zR [zm 148 18,zm 149 8,zb 150 .lss 148 149] (.cond (.l 150) (.skip) (.exit 6))) (.seq (.block 7 (.seq (.draw [(zm 153 9,[]),(zm 154 18,[0]),(zm 155 11,[0,1]),(zb 156 .add 154 155,[0]),(za 157 1 153 156,[]),(zd 158 1 157,[]),(zm 159 7,[0,1,2,3,4,5]),(zm 160 18,[0,1,2,3,4,5,6]),(za 161 1 159 160,[0,1,2,3,4,5]),(zd 162 1 161,[0,1,2,3,4,5]),(zb 163 .add 158 162,[]),(zm 164 17,[0,1,2,3,4,5,6,7,8,9,10]),(zb 165 .add 163 164,[]),(zw 19 165,[])]) (zR [zm 166 9,zm 167 18,zm 168 11,zb 169 .add 167 168,zm 170 19,zc 171 .rem 170 1000000000,za 172 1 166 169,zS 1 172 171] (.region [zm 173 19,zc 174 .quo 173 1000000000,zw 17 174])))) (.region [zm 151 18,zc 152 .add 151 1,zw 18 152]))
def Am:ak:=.seq (zR [zm 82 11,zc 83 .geq 82 0] (.cond (.l 83) (.skip) (.exit 2))) (.seq (.block 3 (zR [zm 86 9,zm 87 7,zm 88 11,⟨.l 89,.call (kF 243) [(.l 86),(.l 87),(.l 88)],none⟩,zw 12 89] (zR [zi 13 0] (.seq (zR [zi 14 0] (.block 4 (.loop Ak))) (zR [zm 126 9,zm 127 11,zm 128 8,zb 129 .add 127 128,zm 130 9,zm 131 11,zm 132 8,zb 133 .add 131 132,za 134 1 130 133,zd 135 1 134,zm 136 13,zb 137 .sub 135 136,za 138 1 126 129,zS 1 138 137] (.seq (zR [zm 139 9,zm 140 11,zm 141 8,zb 142 .add 140 141,za 143 1 139 142,zd 144 1 143,zc 145 .lss 144 0] (.cond (.l 145) (zR [zm 146 12,zc 147 .sub 146 1,zw 12 147] (zR [zi 17 0] (.seq (zR [zi 18 0] (.block 6 (.loop Al))) (.region [zm 175 9,zm 176 11,zm 177 8,zb 178 .add 176 177,zm 179 9,zm 180 11,zm 181 8,zb 182 .add 180 181,za 183 1 179 182,zd 184 1 183,zm 185 17,zb 186 .add 184 185,za 187 1 175 178,zS 1 187 186])))) (.skip))) (.region [zm 188 10,zm 189 11,zm 190 12,za 191 1 188 189,zS 1 191 190]))))))) (.region [zm 84 11,zc 85 .sub 84 1,zw 11 85]))
def Gs:ak:=zR [⟨.p 2,.mv (.c (.ab)),none⟩,⟨.p 3,.mv (.c (.ab)),none⟩] (.seq (zR [zm 24 0,zm 25 1,z2 26 218 24 25,zc 27 .lss 26 0] (.cond (.l 27) (zR [zm 28 0,⟨.p 2,.mv (.c (.ab)),none⟩,zw 3 28] (.ret)) (.skip))) (.seq (zR [zm 29 1,zl 30 29,zc 31 .eql 30 1] (.cond (.l 31) (zR [zm 33 0,zm 34 1,⟨.l 35,.dw none 1 (.l 34) (kI 0),none⟩,zd 36 1 35,z2 37 241 33 36,zn 32 37,ze 38 0 32,ze 39 1 32,zw 4 38,zw 5 39] (zR [zm 40 4,zm 41 5,⟨.l 42,.du 3 1 1 [.iV (0)] [(0,1,(.l 41))],none⟩,z1 43 242 42,zw 2 40,zw 3 43] (.ret))) (.skip))) (zR [zm 44 1,zm 45 1,zl 46 45,zc 47 .sub 46 1,za 48 1 44 47,zd 49 1 48,zc 50 .add 49 1,⟨.l 51,.bin .quo (kI 1000000000) (.l 50),none⟩,⟨.l 52,.du 3 1 1 [.iV (0)] [(0,1,(.l 51))],none⟩,zw 6 52] (zR [zm 53 1,zm 54 6,z2 55 197 53 54,zw 7 55] (zR [zm 56 7,zl 57 56,zw 8 57] (zR [⟨.l 58,.du 3 0 1 [.iV (0)] [],none⟩,zm 59 0,zm 60 6,z2 61 197 59 60,⟨.l 62,.append 3 1 8 (.l 58) (.l 61),none⟩,zw 9 62] (.seq (.block 0 (.loop Aj)) (zR [zm 72 9,zl 73 72,zm 74 8,zb 75 .sub 73 74,⟨.l 76,.gZ 3 1 8 [.iV (0)] (.l 75) (.l 75),none⟩,zw 10 76] (.seq (zR [zm 77 9,zl 78 77,zm 79 8,zb 80 .sub 78 79,zc 81 .sub 80 1,zw 11 81] (.block 2 (.loop Am))) (.seq (.draw [(zm 193 9,[]),(zm 194 8,[0]),(⟨.l 195,.slice .sl 1 (.l 193) none (some (.l 194)) none,none⟩,[]),(z1 196 242 195,[]),(zm 197 6,[0,1,2,3]),(⟨.l 198,.dw none 1 (.l 197) (kI 0),none⟩,[0,1,2,3]),(zd 199 1 198,[0,1,2,3]),(z2 200 241 196 199,[]),(zn 192 200,[]),(ze 201 0 192,[]),(ze 202 1 192,[9]),(zw 20 201,[10]),(zn 23 202,[])]) (zR [zm 203 10,z1 204 242 203,zm 205 20,zw 2 204,zw 3 205] (.ret))))))))))))
theorem Ph:FT 195=some ⟨206,[0,1,4,5,6,7,8,9,10,11,12,13,14,15,16,17,18,19,20,21,22],[.var (.p 2),.var (.p 3)],Gs⟩:=by kernel_rfl
def rW:ak:=.seq (zR [zm 19 3,zc 20 .geq 19 0] (.cond (.l 20) (.skip) (.exit 0))) (.seq (.block 1 (.seq (.seq (.draw [(zm 23 0,[]),(zm 24 3,[0]),(za 25 1 23 24,[]),(zd 26 1 25,[]),(zm 27 1,[0,1,2,3]),(zm 28 3,[0,1,2,3,4]),(za 29 1 27 28,[0,1,2,3]),(zd 30 1 29,[0,1,2,3]),(zb 31 .lss 26 30,[])]) (.cond (.l 31) (zR [zi 2 (-1)] (.ret)) (.skip))) (.seq (.draw [(zm 32 0,[]),(zm 33 3,[0]),(za 34 1 32 33,[]),(zd 35 1 34,[]),(zm 36 1,[0,1,2,3]),(zm 37 3,[0,1,2,3,4]),(za 38 1 36 37,[0,1,2,3]),(zd 39 1 38,[0,1,2,3]),(zb 40 .gtr 35 39,[])]) (.cond (.l 40) (zR [zi 2 1] (.ret)) (.skip))))) (.region [zm 21 3,zc 22 .sub 21 1,zw 3 22]))
def Gt:ak:=zR [zi 2 0] (.seq (zR [zm 6 0,zl 7 6,zm 8 1,zl 9 8,zb 10 .neq 7 9] (.cond (.l 10) (.seq (zR [zm 11 0,zl 12 11,zm 13 1,zl 14 13,zb 15 .lss 12 14] (.cond (.l 15) (zR [zi 2 (-1)] (.ret)) (.skip))) (zR [zi 2 1] (.ret))) (.skip))) (.seq (zR [zm 16 0,zl 17 16,zc 18 .sub 17 1,zw 3 18] (.block 0 (.loop rW))) (zR [zi 2 0] (.ret))))
theorem afR:FT 218=some ⟨41,[0,1,4,5],[.var (.p 2)],Gt⟩:=by kernel_rfl
def An:ak:=.seq (zR [zm 22 6,zm 23 1,zl 24 23,zb 25 .lss 22 24] (.cond (.l 25) (.skip) (.exit 2))) (.seq (.block 3 (.seq (.draw [(zm 28 3,[]),(zm 29 4,[0]),(zm 30 6,[0,1]),(zb 31 .add 29 30,[0]),(za 32 1 28 31,[]),(zd 33 1 32,[]),(zm 34 0,[0,1,2,3,4,5]),(zm 35 4,[0,1,2,3,4,5,6]),(za 36 1 34 35,[0,1,2,3,4,5]),(zd 37 1 36,[0,1,2,3,4,5]),(zm 38 1,[0,1,2,3,4,5,6,7,8,9]),(zm 39 6,[0,1,2,3,4,5,6,7,8,9,10]),(za 40 1 38 39,[0,1,2,3,4,5,6,7,8,9]),(zd 41 1 40,[0,1,2,3,4,5,6,7,8,9]),(zb 42 .mul 37 41,[0,1,2,3,4,5]),(zb 43 .add 33 42,[]),(zm 44 5,[0,1,2,3,4,5,6,7,8,9,10,11,12,13,14,15]),(zb 45 .add 43 44,[]),(zw 7 45,[])]) (zR [zm 46 3,zm 47 4,zm 48 6,zb 49 .add 47 48,zm 50 7,zc 51 .rem 50 1000000000,za 52 1 46 49,zS 1 52 51] (.region [zm 53 7,zc 54 .quo 53 1000000000,zw 5 54])))) (.region [zm 26 6,zc 27 .add 26 1,zw 6 27]))
def Ao:ak:=.seq (zR [zm 16 4,zm 17 0,zl 18 17,zb 19 .lss 16 18] (.cond (.l 19) (.skip) (.exit 0))) (.seq (.block 1 (zR [zi 5 0] (.seq (zR [zi 6 0] (.block 2 (.loop An))) (.region [zm 55 3,zm 56 4,zm 57 1,zl 58 57,zb 59 .add 56 58,zm 60 3,zm 61 4,zm 62 1,zl 63 62,zb 64 .add 61 63,za 65 1 60 64,zd 66 1 65,zm 67 5,zb 68 .add 66 67,za 69 1 55 59,zS 1 69 68])))) (.region [zm 20 4,zc 21 .add 20 1,zw 4 21]))
def Gu:ak:=zR [⟨.p 2,.mv (.c (.ab)),none⟩] (zR [zm 10 0,zl 11 10,zm 12 1,zl 13 12,zb 14 .add 11 13,⟨.l 15,.gZ 3 1 8 [.iV (0)] (.l 14) (.l 14),none⟩,zw 3 15] (.seq (zR [zi 4 0] (.block 0 (.loop Ao))) (zR [zm 70 3,z1 71 242 70,zw 2 71] (.ret))))
theorem Pj:FT 197=some ⟨72,[0,1,4,5,6,7,8,9],[.var (.p 2)],Gu⟩:=by kernel_rfl
def Ap:ak:=.seq (zR [zm 16 6,zc 17 .geq 16 0] (.cond (.l 17) (.skip) (.exit 0))) (.seq (.block 1 (zR [zm 20 5,zc 21 .mul 20 1000000000,zm 22 0,zm 23 6,za 24 1 22 23,zd 25 1 24,zb 26 .add 21 25,zw 7 26] (zR [zm 27 4,zm 28 6,zm 29 7,zm 30 1,zb 31 .quo 29 30,za 32 1 27 28,zS 1 32 31] (.region [zm 33 7,zm 34 1,zb 35 .rem 33 34,zw 5 35])))) (.region [zm 18 6,zc 19 .sub 18 1,zw 6 19]))
def Pk:ak:=zR [⟨.p 2,.mv (.c (.ab)),none⟩,zi 3 0] (zR [zm 10 0,zl 11 10,⟨.l 12,.gZ 3 1 8 [.iV (0)] (.l 11) (.l 11),none⟩,zw 4 12] (zR [zi 5 0] (.seq (zR [zm 13 0,zl 14 13,zc 15 .sub 14 1,zw 6 15] (.block 0 (.loop Ap))) (zR [zm 36 4,z1 37 242 36,zm 38 5,zw 2 37,zw 3 38] (.ret)))))
theorem afS:FT 241=some ⟨39,[0,1,4,5,6,7,8,9],[.var (.p 2),.var (.p 3)],Pk⟩:=by kernel_rfl
def uN:ak:=.seq (.seq (.draw [(zm 42 6,[]),(zc 43 .geq 42 1000000000,[]),(zn 44 43,[]),(zg (zm 45 6) 44 false,[]),(zg (zm 46 1) 44 false,[3]),(zg (zm 47 4) 44 false,[3,4]),(zg (zc 48 .sub 47 2) 44 false,[3,4]),(zg (za 49 1 46 48) 44 false,[3]),(zg (zd 50 1 49) 44 false,[3]),(zg (zb 51 .mul 45 50) 44 false,[]),(zg (zm 52 7) 44 false,[3,4,5,6,7,8,9]),(zg (zc 53 .mul 52 1000000000) 44 false,[3,4,5,6,7,8,9]),(zg (zm 54 0) 44 false,[3,4,5,6,7,8,9,10,11]),(zg (zm 55 2) 44 false,[3,4,5,6,7,8,9,10,11,12]),(zg (zm 56 4) 44 false,[3,4,5,6,7,8,9,10,11,12,13]),(zg (zb 57 .add 55 56) 44 false,[3,4,5,6,7,8,9,10,11,12]),(zg (zc 58 .sub 57 2) 44 false,[3,4,5,6,7,8,9,10,11,12]),(zg (za 59 1 54 58) 44 false,[3,4,5,6,7,8,9,10,11]),(zg (zd 60 1 59) 44 false,[3,4,5,6,7,8,9,10,11]),(zg (zb 61 .add 53 60) 44 false,[3,4,5,6,7,8,9]),(zg (zb 62 .gtr 51 61) 44 false,[]),(zP 63 44 62,[])]) (.cond (.l 63) (.skip) (.exit 0))) (.block 1 (zR [zm 64 6,zc 65 .sub 64 1,zw 6 65] (zR [zm 66 7,zm 67 1,zm 68 4,zc 69 .sub 68 1,za 70 1 67 69,zd 71 1 70,zb 72 .add 66 71,zw 7 72] (zR [zm 73 7,zc 74 .geq 73 1000000000] (.cond (.l 74) (zR [zm 75 6,zw 3 75] (.ret)) (.skip))))))
def Pm:ak:=zR [zi 3 0] (zR [zm 11 1,zl 12 11,zw 4 12] (.seq (.draw [(zm 13 0,[]),(zm 14 2,[0]),(zm 15 4,[0,1]),(zb 16 .add 14 15,[0]),(za 17 1 13 16,[]),(zd 18 1 17,[]),(zc 19 .mul 18 1000000000,[]),(zm 20 0,[0,1,2,3,4,5,6]),(zm 21 2,[0,1,2,3,4,5,6,7]),(zm 22 4,[0,1,2,3,4,5,6,7,8]),(zb 23 .add 21 22,[0,1,2,3,4,5,6,7]),(zc 24 .sub 23 1,[0,1,2,3,4,5,6,7]),(za 25 1 20 24,[0,1,2,3,4,5,6]),(zd 26 1 25,[0,1,2,3,4,5,6]),(zb 27 .add 19 26,[]),(zw 5 27,[])]) (.seq (.draw [(zm 28 5,[]),(zm 29 1,[0]),(zm 30 4,[0,1]),(zc 31 .sub 30 1,[0,1]),(za 32 1 29 31,[0]),(zd 33 1 32,[0]),(zb 34 .quo 28 33,[]),(zm 35 5,[0,1,2,3,4,5,6]),(zm 36 1,[0,1,2,3,4,5,6,7]),(zm 37 4,[0,1,2,3,4,5,6,7,8]),(zc 38 .sub 37 1,[0,1,2,3,4,5,6,7,8]),(za 39 1 36 38,[0,1,2,3,4,5,6,7]),(zd 40 1 39,[0,1,2,3,4,5,6,7]),(zb 41 .rem 35 40,[0,1,2,3,4,5,6]),(zw 6 34,[7,8,9,10,11,12,13]),(zw 7 41,[])]) (.seq (.block 0 (.loop uN)) (zR [zm 76 6,zw 3 76] (.ret))))))
theorem afT:FT 243=some ⟨77,[0,1,2,6,7,8,9,10],[.var (.p 3)],Pm⟩:=by kernel_rfl
def Pn:ak:=zR [⟨.p 1,.mv (.c (.bool false)),none⟩] (zR [zm 3 0,⟨.l 4,.bin .eql (.l 3) (.c (.str [48])),none⟩,zw 1 4] (.ret))
theorem afU:FT 91=some ⟨5,[0,2],[.var (.p 1)],Pn⟩:=by kernel_rfl
def Po:ak:=zR [zi 2 0] (.seq (zR [zm 5 1,zm 6 0,zl 7 6,zb 8 .lss 5 7] (.cond (.l 8) (zR [zm 9 0,zm 10 1,za 11 1 9 10,zd 12 1 11,zw 2 12] (.ret)) (.skip))) (zR [zi 2 0] (.ret)))
theorem afV:FT 254=some ⟨13,[0,1,4],[.var (.p 2)],Po⟩:=by kernel_rfl
theorem Pp {s:ah}{i:Nat}(h:i<s.length):s.drop i=s[i]! :: s.drop (i+1):=by
 rw[d6 h,getElem!_pos s i h]
def km (s:ah):Bool:=(bK 47 s).2.isSome
def cn (s:ah):Nat:=(bK 47 s).1.length
theorem uO (s:ah):cn s<=s.length:=zQ 47 s
theorem afW (hft:M.FT=FT)(s:ah)(hl:s.length<1000000):aV M 153 [.str s] [] ⟨.iV (cn s),[],[]⟩:=by
 refine bH (by rw[hft];exact afL) be ?_;have loop:∀(r i:Nat) (lo:List (Nat×AV)) (wr:List Nat) {Q:Ex->aq->Prop} (a1:AV),i+r=s.length->i+cn (s.drop i)=cn s ->
  (cn s<s.length->∀lo wr,Q .ret ⟨⟨[.str s,.iV (cn s),.iV (cn s)],lo,[],[]⟩,wr⟩) ->
  (cn s=s.length->∀lo wr,Q (.exit 0) ⟨⟨[.str s,a1,.iV s.length],lo,[],[]⟩,wr⟩) ->
  W M (.loop uG) ⟨⟨[.str s,a1,.iV i],lo,[],[]⟩,wr⟩ Q:=by
  intro r;induction r with
  | zero=>
   intro i lo wr Q a1 hi he h1 h2;obtain rfl:i=s.length:=by omega
   rw[le]at he;have e0:cn ([]:ah)=0:=rfl;refine W.loop ?_;unfold uG;exact gg0
  | succ r ih=>
   intro i lo wr Q a1 hi he h1 h2;have hd:=Pp (s:=s) (i:=i) ac;refine W.loop ?_;by_cases h47:s[i]! = 47
   . have e1:cn (s.drop i)=0:=by rw[hd,h47];simp[cn,bK]
     have e2:cn s=i:=by omega
     have e47:((s[((i:Int)).toNat]!).toNat:Int)=47:=by rw[show s[((i:Int)).toNat]! = s[i]! from rfl,h47];rfl
     rw[e2]at h1;unfold uG;exact gg9
   . have e1:cn (s.drop i)=1+cn (s.drop (i+1)):=by
      rw[hd];simp only[cn,bK,if_neg h47,jD];omega
     have e47:((s[((i:Int)).toNat]!).toNat:Int)≠47:=fun e=>h47 (jU.1 bS)
     unfold uG;exact gg9
 unfold Pb;simp only[enter];repeat' first|refine gc ?_|fail
 refine loop s.length 0 _ _ _ ac be (fun h lo wr=>?_) (fun h lo wr=>?_)
 . exact gg2
 . rw[h];exact gg2
theorem afX (hft:M.FT=FT)(s:ah)(hl:s.length<1000000):aV M 204 [.str s] [] ⟨.bool (s.all bJ),[],[]⟩:=by
 refine bH (by rw[hft];exact afN) be ?_;have loop:∀(r i:Nat) (lo:List (Nat×AV)) (wr:List Nat) {Q:Ex->aq->Prop} (a1:AV),i+r=s.length->s.all bJ=(s.drop i).all bJ ->
  (s.all bJ=false->∀lo wr a2,Q .ret ⟨⟨[.str s,.bool false,a2],lo,[],[]⟩,wr⟩) ->
  (s.all bJ=true->∀lo wr a2,Q (.exit 0) ⟨⟨[.str s,a1,a2],lo,[],[]⟩,wr⟩) ->
  W M (.loop uI) ⟨⟨[.str s,a1,.iV i],lo,[],[]⟩,wr⟩ Q:=by
  intro r;induction r with
  | zero=>
   intro i lo wr Q a1 hi he h1 h2;obtain rfl:i=s.length:=by omega
   rw[le]at he;refine W.loop ?_;unfold uI;exact gg0
  | succ r ih=>
   intro i lo wr Q a1 hi he h1 h2;have hd:=Pp (s:=s) (i:=i) ac;rw[hd,fT]at he;have ei:s[((i:Int)).toNat]! = s[i]! := rfl;refine W.loop ?_;cases hb:bJ s[i]! with
   | false=>
    rw[hb,ii]at he;have hne:¬(48<=(s[i]!).toNat/\(s[i]!).toNat<58):=fun h=>by rw[(lQ _).2 h]at hb;cases hb
    rw[←ei]at hne;unfold uI;exact gg3
   | true=>
    rw[hb,f6]at he;have hne:=(lQ _).1 hb;rw[←ei]at hne;unfold uI;exact gg3
 unfold Pc;simp only[enter];repeat' first|refine gc ?_|fail
 refine loop s.length 0 _ _ _ ac be (fun h lo wr a2=>?_) (fun h lo wr a2=>?_)
 . rw[h];exact gg2
 . rw[h];exact gg2
theorem afY (hft:M.FT=FT)(s:ah)(hl:s.length<1000000)(q204:∀h,M.ext 204 [.str s] h=some ⟨.bool (s.all bJ),h,[]⟩):aV M 154 [.str s] [] ⟨.bool (ee s),[],[]⟩:=by
 refine bH (by rw[hft];exact afM) be ?_;by_cases h0:s=[]
 . subst h0;have hl0:([]:ah).length=0:=rfl;rw[show ee []=false from rfl];unfold uH;simp only[enter];exact gg0
 . have hpos:0<s.length:=bS;have ei:s[(0:Int).toNat]! = s[0]! := rfl;have hdec:ee s=(s.all bJ && (decide (s[0]! ≠ 48) || decide (s=[48]))):=by rw[ee,decide_eq_true h0,f6]
   by_cases h48:s[0]! = 48
   . have e48:((s[(0:Int).toNat]!).toNat:Int)=48:=by rw[ei,h48];rfl
     by_cases hl1:s.length=1
     . have hs:s=[48]:=by
        cases s with
        | nil=>grind
        | cons c t=>
         grind
       rw[hdec,decide_eq_true hs,Bool.or_true,j8];unfold uH;simp only[enter];exact gg5
     . have hs:¬s=[48]:=bS;rw[hdec,decide_eq_false hs,decide_eq_false bS,Bool.or_self,m8];unfold uH;simp only[enter];exact gg5
   . have e48:((s[(0:Int).toNat]!).toNat:Int)≠48:=fun e=>h48 (jU.1 bS)
     rw[hdec,decide_eq_true (show s[0]! ≠ 48 from h48),n3,j8];unfold uH;simp only[enter];exact gg5
theorem afZ {s:ah}(h:s.all bJ=true)(hl:s.length<=18)(i:Nat)(hi:i<=s.length):aP 0 (s.take i)<1000000000000000000:=by
 refine Oq ?_ bS;grind
theorem aga (hft:M.FT=FT)(s:ah)(hl:s.length<=18)(hd:s.all bJ=true):aV M 192 [.str s] [] ⟨.iV (aP 0 s:Nat),[],[]⟩:=by
 refine bH (by rw[hft];exact afP) be ?_;have loop:∀(r i:Nat) (lo:List (Nat×AV)) (wr:List Nat) {Q:Ex->aq->Prop} (a1:AV),i+r=s.length ->
  (∀lo wr,Q (.exit 0) ⟨⟨[.str s,a1,.iV (aP 0 s:Nat),.iV s.length],lo,[],[]⟩,wr⟩) ->
  W M (.loop Ag) ⟨⟨[.str s,a1,.iV (aP 0 (s.take i):Nat),.iV i],lo,[],[]⟩,wr⟩ Q:=by
  intro r;induction r with
  | zero=>
   intro i lo wr Q a1 hi hQ;obtain rfl:i=s.length:=by omega
   rw[dN];refine W.loop ?_;unfold Ag;exact gg0
  | succ r ih=>
   intro i lo wr Q a1 hi hQ;have xE:=afZ hd hl (i+1) ac;have hb:=(lQ _).1 ((List.all_eq_true.1 hd) s[i]! (by rw[getElem!_pos s i ac];exact List.getElem_mem ac));have e1:aP 0 (s.take (i+1))=10*aP 0 (s.take i)+((s[i]!).toNat-48):=by
    rw[kJ,f7 ac,ky,pT,uk,getElem!_pos s i ac]
   have ei:s[((i:Int)).toNat]! = s[i]! := rfl;rw[←ei]at hb e1;have ih':=ih (i+1);generalize aP 0 (s.take (i+1))=m at *
   generalize aP 0 (s.take i)=n at *
   have e2:(m:Int)=10*n+((s[((i:Int)).toNat]!).toNat:Int)-48:=by omega
   rw[e2]at ih';refine W.loop ?_;unfold Ag;exact gg0
 unfold Pf;simp only[enter];repeat' first|refine gc ?_|fail
 refine loop s.length 0 _ _ _ ac (fun lo wr=>?_);exact gg2
variable {c1 c2:Option Nat}
abbrev iC (x:Int):List AV:=[.iV x]
abbrev an (l:List Int):List AV:=arr iC l
abbrev dB:Int:=1000000000
theorem Pq {l:List Int}:(an l).length=l.length:=by
 have:=ke (f:=iC) (esz:=1) (fun _=>rfl) l;simpa using this
theorem agb {l:List Int}{m:Nat}(h:m<l.length):(an l)[m]? = some (.iV l[m]!):=by
 induction l generalizing m with
 | nil=>simp at h
 | cons x l ih=>
  cases m with
  | zero=>rfl
  | succ m=>
   have e:(x::l)[m+1]! = l[m]! := by simp[i3]
   rw[e,←ih (by simpa using h)];rfl
section
variable {t b m:Nat} {x y:ay} {l:List aX} {pe:List AV} {lo:List (Nat×AV)} {hp:aa} {df wr:List Nat} {L:List Int} {e:TypeId} {v:Int} {Q:aq->Prop}
theorem ami (hx:(St.mk pe lo hp df).ae x=some (.ptr b m))(hb:hp.at b=some (.cells (an L) e))(hi:m<L.length)
 (h:WO M l ⟨⟨pe,(t,.iV L[m]!)::lo,hp,df⟩,wr⟩ Q):WO M (⟨.l t,.load 1 false x,none⟩::l) ⟨⟨pe,lo,hp,df⟩,wr⟩ Q:=by
 refine akA (c:=an L) (o:=m) (e:=e) (v:=.iV L[m]!) hx hb ?_ h;have h1:=agb hi;have h2:m<(an L).length:=by rw[Pq];exact hi
 rw[d6 h2];rw[f7 h2]at h1;rw[Option.some.inj h1];rfl
theorem agc {L:List Int}{m:Nat}{v:Int}(h:m<L.length):overwrite (an L) m (iC v)=an (L.set m v):=by
 induction L generalizing m with
 | nil=>simp at h
 | cons x L ih=>
  cases m with
  | zero=>simp[overwrite,arr]
  | succ m=>
   have:=ih (m:=m) (by simpa using h);simp only[List.set_cons_succ];have e1:an (x::L) = .iV x::an L:=rfl;have e2:an (x::L.set m v) = .iV x::an (L.set m v):=rfl;rw[e1,e2,←this];simp[overwrite]
theorem alR (hx:(St.mk pe lo hp df).ae x=some (.ptr b m))(hy:(St.mk pe lo hp df).ae y=some (.iV v))(hb:hp.at b=some (.cells (an L) e))(hi:m<L.length)
 (h:WO M l ⟨⟨pe,lo,hp.put b (some (.cells (an (L.set m v)) e)),df⟩,b::wr⟩ Q):WO M (⟨.no,.store 1 x y,none⟩::l) ⟨⟨pe,lo,hp,df⟩,wr⟩ Q:=
 afG (c:=an L) (new:=iC v) hx (by rw[hy];rfl) hb ⟨rfl,by rw[Pq];omega,rfl⟩ (agc hi) h
end
def cS (hp:aa)(b:Nat)(e:TypeId)(P S X:List Int):aa:=hp.put b (some (.cells (an (P++X++S)) e))
theorem Pr {hp:aa}{b:Nat}{e:TypeId}{P S X:List Int}:(cS hp b e P S X).length=hp.length:=dQ
section
variable {t bu bv m:Nat} {x y:ay} {l:List aX} {pe:List AV} {lo:List (Nat×AV)} {hp:aa} {df wr:List Nat} {P S X V Y:List Int} {e e':TypeId} {v:Int} {Q:aq->Prop}
theorem amv {i:Nat}(hx:(St.mk pe lo (cS hp bu e P S X) df).ae x=some (.ptr bu m))(hl:bu<hp.length)(hi:i<X.length)(hm:m=P.length+i)
 (h:WO M l ⟨⟨pe,(t,.iV X[i]!)::lo,cS hp bu e P S X,df⟩,wr⟩ Q):WO M (⟨.l t,.load 1 false x,none⟩::l) ⟨⟨pe,lo,cS hp bu e P S X,df⟩,wr⟩ Q:=by
 subst hm;refine ami (L:=P++X++S) (e:=e) hx (by unfold cS;exact eu hl) (by simp;omega) ?_;rw[En hi];exact h
theorem amw {i:Nat}(hx:(St.mk pe lo (cS hp bu e P S X) df).ae x=some (.ptr bu m))(hy:(St.mk pe lo (cS hp bu e P S X) df).ae y=some (.iV v))(hl:bu<hp.length)(hi:i<X.length)(hm:m=P.length+i)
 (h:WO M l ⟨⟨pe,lo,cS hp bu e P S (X.set i v),df⟩,bu::wr⟩ Q):WO M (⟨.no,.store 1 x y,none⟩::l) ⟨⟨pe,lo,cS hp bu e P S X,df⟩,wr⟩ Q:=by
 subst hm;refine alR (L:=P++X++S) (e:=e) hx hy (by unfold cS;exact eu hl) (by simp;omega) ?_;rw[Lu hi];have:aa.put (cS hp bu e P S X) bu (some (.cells (an (P++X.set i v++S)) e))=cS hp bu e P S (X.set i v):=by unfold cS;exact tt
 rw[this];exact h
end
def ie (v:AV)(hh:aa)(r:List Int):Prop:=∃v1,fD hh v v1/\v1.top=0/\cf v1 = .vs (an r) r.length none
theorem Gv (l:List Int):dE (an l)=an l:=qZ (fun _=>rfl) l
theorem fF (l:List Int):bc (an l)=0:=jK (fun _=>rfl) l
theorem ie.trim {b:Nat}{L:List Int}{e:TypeId}{hp:aa}{n:Nat}(hb:hp.at b=some (.cells (an L) e))(hn:n<=L.length):ie (bE b (aQ (L.take n)) cap) (if (aW [bE b (aQ (L.take n)) cap]).top<=0 then [] else hp) (L.take (aQ (L.take n))):=by
 have hle:=iW (l:=L.take n);rw[b7]at hle;obtain⟨k,hk⟩:∃k,k=aQ (L.take n):=⟨_,rfl⟩;rw[←hk]at hle ⊢;by_cases h0:0<k
 . have e1:bE b k cap = .sl b 0 k 1 cap:=if_pos h0;rw[e1,if_neg (by simp[aW,AV.top])];have hl:(L.take k).length=k:=by rw[b7];omega
   have hF:Fr hp [b] (.sl b 0 k 1 cap) (.vs (an (L.take k)) k none):=by
    refine .sl (m:=an (L.take k)) be hb ?_ rfl (fun i x y hx hy=>?_) (.inr rfl)
    . have:=ji (f:=iC) (esz:=1) (fun _=>rfl) (l:=L) (i:=0) (n:=k) ac;grind
    . rw[hx]at hy;cases hy;exact .same (cO (fF _) hx)
   unfold ie;rw[hl];refine⟨_,⟨[b],hF,rfl,fun c l' e' hc hl'=>?_⟩,fF _,by rw[cf,Gv]⟩;rw[dO.1 hc,hb]at hl';cases hl';exact kH (fun _=>rfl) _
 . obtain rfl:k=0:=by omega
   exact⟨.vs [] 0 cap,.same rfl rfl,rfl,rfl⟩
def Aq (M:aw)(g:Nat)(ars:List AV)(z:Int):Prop:=∃r:List Int,(okW dB r/\aN r/\WV dB r=z)/\∃v hh,ie v hh r/\aV M g ars [] ⟨v,hh,[]⟩
theorem Gw {f N:Nat}{aR:List Nat}{res:List fA}{body:ak}{ars:List AV}{z:Int}(hft:M.FT f=some ⟨N,aR,res,body⟩)(hN:ars.length<=N)
 (h:W M body ⟨⟨aR.map (fun t=>(ars[t]?).getD bD),[],[],[]⟩,[]⟩ fun e s=>(e = .normal\/e = .ret)/\s.s.bV=[]/\∃vs,dx s.s res=some vs/\∃r:List Int,(okW dB r/\aN r/\WV dB r=z)/\ie (aW vs) (if (aW vs).top<=0 then [] else s.s.hp) r):Aq M f ars z:=by
 obtain⟨v,hh,⟨r,hr,ho⟩,h2⟩:=gO (P:=fun v hh=>∃r:List Int,(okW dB r/\aN r/\WV dB r=z)/\ie v hh r) hft hN h;exact⟨r,hr,v,hh,ho,h2⟩
theorem qk {L:List Int}(ok:okW dB L):okW dB (L.take (aQ L))/\aN (L.take (aQ L))/\WV dB (L.take (aQ L))=WV dB L:=⟨dF ok _,El,xT⟩
def cL (x:AV)(l:List Int):Prop:=x = .vs (an l) l.length none\/(x = .ab/\l=[])
def kn (v:AV)(hh:aa)(q r:List Int):Prop:=∃v1 x y,eH hh v v1/\v1.top=0/\bL v1 = .au [x,y]/\cL x q/\cL y r
theorem ql (l:List Int):cG (an l)=an l:=ra (fun _=>rfl) l
theorem Gx {b:Nat}{L:List Int}{e:TypeId}{hp:aa}{n:Nat}(hb:hp.at b=some (.cells (an L) e))(hn:n<=L.length)(hh:aa)(he:(bE b (aQ (L.take n)) cap).top≠0->hh=hp) :
 ∃v1,eH hh (bE b (aQ (L.take n)) cap) v1/\v1.top=0/\bL v1 = .vs (an (L.take (aQ (L.take n)))) (L.take (aQ (L.take n))).length none:=by
 have hle:=iW (l:=L.take n);rw[b7]at hle;obtain⟨k,hk⟩:∃k,k=aQ (L.take n):=⟨_,rfl⟩;rw[←hk]at hle he ⊢;by_cases h0:0<k
 . have e1:bE b k cap = .sl b 0 k 1 cap:=if_pos h0;rw[e1]at he ⊢;obtain rfl:=he (by simp[AV.top]);have hl:(L.take k).length=k:=by rw[b7];omega
   have hF:eH hh (.sl b 0 k 1 cap) (.vs (an (L.take k)) k none):=by
    refine .sl (m:=an (L.take k)) hb ?_ rfl (fun i x y hx hy=>?_)
    . have:=ji (f:=iC) (esz:=1) (fun _=>rfl) (l:=L) (i:=0) (n:=k) ac;grind
    . rw[hx]at hy;cases hy;exact .same (cO (fF _) hx)
   rw[hl];exact⟨_,hF,fF _,by rw[bL,ql]⟩
 . obtain rfl:k=0:=by omega
   exact⟨.vs [] 0 cap,.same rfl,rfl,rfl⟩
theorem kn.less {hh:aa}{l:List Int}:kn (aW [.ab,.vs (an l) l.length cap]) hh [] l:=by
 have ht:(aW [.ab,.vs (an l) l.length cap]).top=0:=by simp[aW,AV.top,bc,fF l]
 refine⟨aW [.ab,.vs (an l) l.length cap],.ab,.vs (an l) l.length none,.same ht,ht,?_,.inr ⟨rfl,rfl⟩,.inl rfl⟩;simp only[aW,bL,cG,ql l]
def Ps (M:aw)(g:Nat)(ars:List AV)(x y:Int):Prop:=∃q r:List Int,(okW dB q/\aN q/\WV dB q=x/y)/\(okW dB r/\aN r/\WV dB r=x%y)/\∃v hh,kn v hh q r/\aV M g ars [] ⟨v,hh,[]⟩
theorem agd {f N:Nat}{aR:List Nat}{res:List fA}{body:ak}{ars:List AV}{x y:Int}(hft:M.FT f=some ⟨N,aR,res,body⟩)(hN:ars.length<=N)
 (h:W M body ⟨⟨aR.map (fun t=>(ars[t]?).getD bD),[],[],[]⟩,[]⟩ fun e s=>(e = .normal\/e = .ret)/\s.s.bV=[]/\∃vs,dx s.s res=some vs/\∃q r:List Int,(okW dB q/\aN q/\WV dB q=x/y)/\(okW dB r/\aN r/\WV dB r=x%y)/\kn (aW vs) (if (aW vs).top<=0 then [] else s.s.hp) q r):Ps M f ars x y:=by
 obtain⟨v,hh,⟨q,r,hq,hr,ho⟩,h2⟩:=gO (P:=fun v hh=>∃q r:List Int,(okW dB q/\aN q/\WV dB q=x/y)/\(okW dB r/\aN r/\WV dB r=x%y)/\kn v hh q r) hft hN h;exact⟨q,r,hq,hr,v,hh,ho,h2⟩
theorem uP {b:Nat}:bE b 0 cap = .vs [] 0 cap:=(by rfl)
theorem Pt {b r:Nat}:bE b (r+1) cap = .sl b 0 (r+1) 1 cap:=(by rfl)
theorem age (hft:M.FT=FT){b n:Nat}{L:List Int}{e:TypeId}{hp:aa}(hb:hp.at b=some (.cells (an L) e))(hn:n<=L.length)(hl:n<1000000000)(hc:∀c,cap=some c->n<=c) :
 aV M 242 [bE b n cap] hp ⟨bE b (aQ (L.take n)) cap,hp,[]⟩:=by
 have hbl:=cJ hb;refine mA (by rw[hft];exact Ai) be (by unfold bE;split <;> simp[AV.top,bc];omega) ?_;have loop:∀(r:Nat) (lo:List (Nat×AV)) (a1:AV) {Q:Ex->aq->Prop},r<=n->aQ (L.take r)=aQ (L.take n)->(∀lo,Q (.exit 0) ⟨⟨[bE b (aQ (L.take n)) cap,a1],lo,hp,[]⟩,[]⟩)->W M (.loop kl) ⟨⟨[bE b r cap,a1],lo,hp,[]⟩,[]⟩ Q:=by
  intro r;induction r with
  | zero=>
   intro lo a1 Q hr he hQ;have e0:aQ (L.take n)=0:=by rw[←he];rfl
   rw[e0,uP]at hQ;rw[uP];refine W.loop ?_;unfold kl;exact gg1
  | succ r ih=>
   intro lo a1 Q hr he hQ;have e:=pI (l:=L) (i:=r) ac;have ei:0+((((r+1:Nat):Int)-1).toNat)*1=r:=by omega
   have er:((r+1:Nat):Int)-1=r:=by omega
   rw[Pt];refine W.loop ?_;by_cases h0:L[r]! = 0
   . rw[if_pos h0]at e;unfold kl;exact gg12
   . rw[if_neg h0]at e;have e2:aQ (L.take n)=r+1:=by rw[←he,e]
     rw[e2,Pt]at hQ;unfold kl;exact gg12
 unfold uL;simp only[enter];repeat' first|refine gc ?_|fail
 refine loop n _ _ (b9 _) rfl (fun lo=>?_);exact gg2
theorem qm (hft:M.FT=FT)(dU:∀ars h,M.ext 242 ars h=none){b n:Nat}{L:List Int}{e:TypeId}{hp:aa}(hb:hp.at b=some (.cells (an L) e))(h0:0<n)(hn:n<=L.length)(hl:n<1000000000)(hc:∀c,cap=some c->n<=c) :
 CT M (iY 242) [.sl b 0 n 1 cap] hp ⟨bE b (aQ (L.take n)) cap,hp,[]⟩:=by
 have h:=age (cap:=cap) hft hb hn hl hc;rw[show bE b n cap = .sl b 0 n 1 cap from if_pos h0]at h;exact CT.run (fi:=[]) (ca:=[]) (dU _ _) h
theorem Pu {b n:Nat}:bE b n cap = .sl b 0 n 1 cap\/bE b n cap = .vs [] 0 cap/\n=0:=by
 rcases i6 n with rfl|h
 . exact .inr ⟨uP,rfl⟩
 . exact .inl (if_pos h)
theorem vP {st:St}{i b:Nat}{x y:AV}{e:TypeId}(h1:st.pe[i]? = some (.ptr b 0))(h2:st.hp.at b=some (.cells [x,y] e)):dx st [.cell 2 true (.p i)]=some [.agg [x,y]]:=by
 simp only[dx,St.ae,h1,Option.bind_some,fP,h2,List.drop];rfl
theorem Pv (hft:M.FT=FT)(dU:∀ars h,M.ext 242 ars h=none){b n:Nat}{L:List Int}{e:TypeId}{hp:aa}(neg:Bool)(hb:hp.at b=some (.cells (an L) e))(h0:0<n)(hn:n<=L.length)(hl:n<1000000000)(hc:∀c,cap=some c->n<=c) :
 aV M 196 [.bool neg,.sl b 0 n 1 cap] hp ⟨.agg [.bool (neg && decide (0<aQ (L.take n))),bE b (aQ (L.take n)) cap],hp,[]⟩:=by
 have hbl:=cJ hb;have q:=qm (cap:=cap) hft dU (hp:=hp++[some (.cells [.bool false,.ab] 162)]) (cE hb) h0 hn hl hc;have ht:aQ (L.take n)<=n:=by have:=iW (l:=L.take n);rw[b7]at this;omega
 obtain⟨k,hk⟩:∃k,k=aQ (L.take n):=⟨_,rfl⟩;rw[←hk]at q ht ⊢;refine mA (by rw[hft];exact Ah) be (by rcases Pu (cap:=cap) (b:=b) (n:=k) with h|⟨h,_⟩ <;> rw[h] <;> simp[AV.top,bc] <;> omega) ?_;unfold uK;simp only[enter];rcases Pu (cap:=cap) (b:=b) (n:=k) with h|⟨h,h1⟩
 . rw[h]at q ⊢;by_cases hk0:0<k
   . rw[decide_eq_true hk0,j8];cases neg;all_goals
     . exact gg1
   . exfalso;have:k=0:=by omega
     rw[this,uP]at h;cases h
 . rw[h]at q ⊢;subst h1;rw[decide_eq_false ac,m8];cases neg;all_goals
   . exact gg1
def bU (v:AV)(z:Int):Prop:=∃neg x l,v = .agg [.bool neg,x]/\cL x l/\okW dB l/\aN l/\z=(if neg then -WV dB l else WV dB l)/\(neg=true->l≠[])
def jS (v:AV)(z:Int):Prop:=∃neg l,v = .agg [.bool neg,.vs (an l) l.length none]/\okW dB l/\aN l/\z=(if neg then -WV dB l else WV dB l)/\(neg=true->l≠[])
theorem jS.uQ {v:AV}{z:Int}(h:jS v z):bU v z:=by
 obtain⟨neg,l,h1,h2,h3,h4,h5⟩:=h;exact⟨neg,_,l,h1,.inl rfl,h2,h3,h4,h5⟩
theorem Pw (n:Nat):((10^(9*n):Nat):Int)=dB^n:=by
 rw[Nat.pow_mul];rfl
theorem agf {t x:ah}(hx:x.length=9):aP 0 (t++x)=aP 0 t*1000000000+aP 0 x:=by
 rw[pT,yT,hx]
structure Gy (M:aw):Prop where
 ft:M.FT=FT
 dU:∀ars h,M.ext 242 ars h=none
 uR:∀ars h,M.ext 196 ars h=none
 qo:∀(s:ah) h,s.length<=18->s.all bJ=true->M.ext 192 [.str s] h=some ⟨.iV (aP 0 s:Nat),h,[]⟩
theorem Px {K:aa}{c:Nat}{L:List Int}{neg:Bool}(hc:K.at c=some (.cells (an L) 3))(oL:okW dB L) :
 ∃v0,jS v0 (if neg then -WV dB L else WV dB L)/\dZ (.agg [.bool (neg && decide (0<aQ (L.take L.length))),bE c (aQ (L.take L.length)) none]) (if (AV.agg [.bool (neg && decide (0<aQ (L.take L.length))),bE c (aQ (L.take L.length)) none]).top<=0 then [] else K) v0:=by
 obtain⟨v1,f1,t1,k1⟩:=Gx (cap:=none) hc (b9 L.length) (if (AV.agg [.bool (neg && decide (0<aQ (L.take L.length))),bE c (aQ (L.take L.length)) none]).top<=0 then [] else K) (fun h=>by
  rw[if_neg];intro h2;apply h;have:(AV.agg [.bool (neg && decide (0<aQ (L.take L.length))),bE c (aQ (L.take L.length)) none]).top=max 0 (max (bE c (aQ (L.take L.length)) none).top 0):=rfl;omega)
 obtain⟨g1,g2,g3⟩:=qk oL;rw[dN]at k1 f1 ⊢;refine⟨.agg [.bool (neg && decide (0<aQ L)),.vs (an (L.take (aQ L))) (L.take (aQ L)).length none],⟨_,_,rfl,g1,g2,?_,?_⟩,.agg [.bool (neg && decide (0<aQ L)),v1],.agg rfl (fun i a b ha hb=>?_),?_,?_⟩
 . rw[g3];cases neg with
   | false=>rfl
   | true=>
    by_cases h0:0<aQ L
    . grind
    . rw[decide_eq_false h0];have:WV dB L=0:=by rw[←g3,show aQ L=0 by omega];rfl
      omega
 . intro h e;rw[c3,decide_eq_true_eq]at h;have:=congrArg List.length e;have hle:=iW (l:=L);grind
 . match i with
   | 0=>cases ha;cases hb;exact .same rfl
   | 1=>grind
   | i+2=>cases ha
 . simp[AV.top,bc,t1]
 . simp only[bL,cG,k1]
theorem agh (C:Gy M){Q:Ex->aq->Prop}(full:ah)(hD:full.all bJ=true)(hl:full.length<1000000)(a2:AV)
 (hQ:∀t acc o K lo wr,t.length<=9->t.all bJ=true->okW dB acc->acc.length<1000000->(aP 0 full:Int)=aP 0 t*dB^acc.length+WV dB acc->bj iC 1 3 K o acc [0]->K.at 0=some (.cells [.bool false,.ab] 162)->Q (.exit 0) ⟨⟨[.str t,.ptr 0 0,a2,o],lo,K,[]⟩,wr⟩)
 (lo:List (Nat×AV)) (wr:List Nat) (K:aa) (hK:K.at 0=some (.cells [.bool false,.ab] 162)) :
 W M (.loop uJ) ⟨⟨[.str full,.ptr 0 0,a2,.ab],lo,K,[]⟩,wr⟩ Q:=by
 refine W.gP (fun m st=>∃t acc o K lo wr,st=⟨⟨[.str t,.ptr 0 0,a2,o],lo,K,[]⟩,wr⟩/\t.length=m/\t.all bJ=true/\okW dB acc/\acc.length*9+t.length<=full.length/\(aP 0 full:Int)=aP 0 t*dB^acc.length+WV dB acc/\bj iC 1 3 K o acc [0]/\K.at 0=some (.cells [.bool false,.ab] 162))
  (fun m st ⟨t,acc,o,K,lo,wr,hst,hm,hDt,oA,hln,hv,ho,hK⟩=>?_) (m:=full.length) ⟨full,[],.ab,K,lo,wr,rfl,rfl,hD,jf,be,by simp[WV],.jL,hK⟩
 subst hst;by_cases h9:t.length<=9
 . unfold uJ;exact gg1
 . obtain⟨x,y,hxy,hxl⟩:∃x y,t=x++y/\y.length=9:=⟨t.take (t.length-9),t.drop (t.length-9),(iy _ t).symm,bS⟩;have htl:t.length=x.length+9:=by rw[hxy,dY,hxl]
   have hDx:x.all bJ=true:=by rw[hxy,mV,c3]at hDt;exact hDt.1
   have hDy:y.all bJ=true:=by rw[hxy,mV,c3]at hDt;exact hDt.2
   have q192:=fun h=>C.qo y h ac hDy
   have hylt:aP 0 y<1000000000:=by have:=nY y hDy;rw[hxl]at this;exact this
   have edr:t.drop ((t.length:Int)-9).toNat=y:=by rw[show ((t.length:Int)-9).toNat=x.length by omega,hxy,j4]
   have etk:t.take ((t.length:Int)-9).toNat=x:=by rw[show ((t.length:Int)-9).toNat=x.length by omega,hxy,List.take_left]
   have hroom:(acc.length+1)*8<=cz:=by unfold cz;omega
   have hK1:=cJ hK;unfold uJ;repeat' first|(apply aia (s:=t) (r:=y);rfl;rfl;omega;exact edr)|(apply aib (s:=t) (r:=x);rfl;rfl;omega;exact etk)|(refine bj.app (f:=iC) (m:=[(aP 0 y:Int)]) (S:=[0]) (fun _=>rfl) (fun _=>rfl) am (ho.grow [_]) be rfl rfl (Sl.gN (f:=iC) (esz:=1) (l:=[(aP 0 y:Int)]) (e:=3) (fun _=>rfl) cC rfl) hroom (fun H w' o' ho' hk hlen=>?_))|(apply aev;rfl;rfl)|refine gd0 ?_|refine gc ?_|(intro _;omega)|intro _
   all_goals try omega
   all_goals exact bW ⟨x.length,ac,x,acc++[(aP 0 y:Int)],o',H,_,_,rfl,rfl,hDx,jV oA (fun z hz=>by grind),bS,by
    rw[hv,hxy,agf hxl,dY,j1,ce,gh];rw[Int.natCast_add,Int.natCast_mul];have:WV dB [(aP 0 y:Int)]=aP 0 y:=by simp[WV]
    grind,ho',hk 0 _ be (cE hK)⟩
theorem agi (C:Gy M)(s:ah)(hl:s.length<1000000)(hD:(bN 45 s).all bJ=true):∃v0,jS v0 (if preB 45 s then -(aP 0 (bN 45 s):Int) else (aP 0 (bN 45 s):Nat))/\cQ M 193 [.str s] v0:=by
 have hcl:=rS 45 s;obtain⟨v',hh,⟨v0,h0,ho⟩,hr⟩:=gO (M:=M) (f:=193) (ars:=[.str s]) (P:=fun v hh=>∃v0,jS v0 (if preB 45 s then -(aP 0 (bN 45 s):Int) else (aP 0 (bN 45 s):Nat))/\dZ v hh v0) (by rw[C.ft];exact afO) be (by
  have main:∀(neg:Bool) (lo:List (Nat×AV)) (wr:List Nat) {Q:Ex->aq->Prop},(∀e st,((e = .normal\/e = .ret)/\st.s.bV=[]/\∃vs,dx st.s [.cell 2 true (.p 1)]=some vs/\∃v0,jS v0 (if neg then -(aP 0 (bN 45 s):Int) else (aP 0 (bN 45 s):Nat))/\dZ (aW vs) (if (aW vs).top<=0 then [] else st.s.hp) v0)->Q e st) ->
   W M (.loop uJ) ⟨⟨[.str (bN 45 s),.ptr 0 0,.bool neg,.ab],lo,[some (.cells [.bool false,.ab] 162)],[]⟩,wr⟩ (BQ 0 (SQ M (zR [zm 33 2,
    zm 34 3,
    zm 35 0,
    z1 36 192 35,
    ⟨(.l 37),.du 3 1 1 [.iV (0)] [(0,1,(.l 36))],none⟩,
    ⟨(.l 38),.append 3 1 8 (.l 34) (.l 37),none⟩,
    z2 39 196 33 38,
    zs 2 1 39]
     (.ret)) Q)):=by
   intro neg lo wr Q hQ;refine agh C (bN 45 s) hD ac _ (fun t acc o K lo wr ht hDt oA hacc hv ho hK=>?_) _ _ _ rfl;have q192:=fun h=>C.qo t h ac hDt
   have htlt:aP 0 t<1000000000:=by
    have h1:=nY t hDt;exact Nat.lt_of_lt_of_le h1 (d7 (Nat.pow_le_pow_right am ht) am)
   have hroom:(acc.length+1)*8<=cz:=by unfold cz;omega
   have hK1:=cJ hK;repeat' first|(refine bj.app (f:=iC) (m:=[(aP 0 t:Int)]) (S:=[0]) (fun _=>rfl) (fun _=>rfl) am (ho.grow [_]) be rfl rfl (Sl.gN (f:=iC) (esz:=1) (l:=[(aP 0 t:Int)]) (e:=3) (fun _=>rfl) cC rfl) hroom (fun H w' o' ho' hk hlen=>?_))|refine gd0 ?_|refine gc ?_|fail
   rcases ho' with ⟨h1,_⟩|⟨c,cp,hc0,rfl,hc,hcap⟩
   . simp at h1
   obtain rfl:cp=none:=hcap.resolve_right be;have oL:okW dB (acc++[(aP 0 t:Int)]):=jV oA (fun z hz=>by grind);have vL:WV dB (acc++[(aP 0 t:Int)])=(aP 0 (bN 45 s):Int):=by
    rw[hv,gh];have:WV dB [(aP 0 t:Int)]=aP 0 t:=by simp[WV]
    rw[this];grind
   have h0':H.at 0=some (.cells [.bool false,.ab] 162):=hk 0 _ be (cE hK);have hcn:c≠0:=bS;obtain⟨L,hL⟩:∃L,L=acc++[(aP 0 t:Int)]:=⟨_,rfl⟩;rw[←hL]at oL vL hc;have hLl:(acc++[(aP 0 t:Int)]).length=L.length:=by rw[hL]
   rw[hLl];have hLn:0<L.length/\L.length<1000001:=by rw[hL,dY,j1];omega
   have q196:=CT.run (fi:=[]) (ca:=[]) (ars:=[.bool neg,.sl c 0 L.length 1 none]) (C.uR _ _) (Pv (cap:=none) C.ft C.dU neg hc hLn.1 (b9 _) ac be);obtain⟨v0,k0,o0⟩:=Px (K:=H.put 0 (some (.cells [.bool (neg && decide (0<aQ (L.take L.length))),bE c (aQ (L.take L.length)) none] 162))) (neg:=neg) (pr hcn hc) oL;rw[vL]at k0;have hone:cI (bE c (aQ (L.take L.length)) none)=true:=by unfold bE;split <;> rfl
   repeat' first|(apply afG;rfl;rfl;exact h0';exact⟨rfl,b9 _,by rw[fT,fT,n4,hone];rfl⟩;rfl)|(apply afJ;rfl;rfl;first|exact q196)|refine gc ?_|fail
   refine hQ _ _ ⟨.inr rfl,rfl,_,vP rfl (eu (cJ h0')),v0,k0,o0⟩
  unfold Pe;simp only[enter];cases hp:preB 45 s with
  | true=>
   obtain⟨h1,h2⟩:=uz hp;have h1:s.drop (1:Int).toNat=bN 45 s:=h1;have e0:s[0]! = 45:=by
    have h:=of_decide_eq_true hp;cases s with
    | nil=>simp at h
    | cons c t=>grind
   have e45:((s[(0:Int).toNat]!).toNat:Int)=45:=by rw[show s[(0:Int).toNat]! = s[0]! from rfl,e0];rfl
   exact gg12
  | false=>
   have e1:=kR hp;rw[e1]at main;by_cases h0:s.length=0
   . exact gg1
   . have e45:((s[(0:Int).toNat]!).toNat:Int)≠45:=fun e=>by
      have h:=of_decide_eq_false hp;cases s with
      | nil=>grind
      | cons c t=>
       refine h (congrArg some (jU.1 ?_));grind
     repeat' first|(apply aev;rfl;rfl)|(apply aeJ;rfl;rfl)|refine gc ?_|(intro _;omega)|intro _
     all_goals try omega
     all_goals exact main false _ _ bS)
 exact⟨v0,h0,v',hh,ho,hr⟩
theorem uS (x:AV){l:List Int}(h:cL x l):cI x=true/\x.top=0/\bL x=x:=by
 rcases h with rfl|⟨rfl,rfl⟩
 . exact⟨rfl,fF l,by rw[bL,ql]⟩
 . exact⟨rfl,rfl,rfl⟩
theorem bU.shape {v:AV}{z:Int}(h:bU v z):∃neg x l,v = .agg [.bool neg,x]/\cL x l/\cI x=true/\x.top=0/\bL x=x:=by
 obtain⟨neg,x,l,rfl,hx,_⟩:=h;obtain⟨h1,h2,h3⟩:=uS x hx;grind
theorem mX {n:Bool}{x:AV}(h:cI x=true):[AV.bool n,x].all cI=true:=by rw[fT,fT,n4,h];rfl
theorem Py {s:ah}(h:km s=true):s.take (cn s)=(bK 47 s).1/\s.drop (cn s+1)=(bK 47 s).2.getD []/\cn s+1<=s.length:=by
 unfold km at h;obtain⟨y,hy⟩:=jq.1 h;have h1:=FL hy;have h2:=Oa hy;have h3:=uy hy;refine⟨h1,?_,by unfold cn;omega⟩;rw[hy];exact h2
theorem Pz (hft:M.FT=FT)(s:ah)(hl:s.length<1000000)(hb:km s=true)(q153:∀h,M.ext 153 [.str s] h=some ⟨.iV (cn s),h,[]⟩){v1 v2:AV}{z1 z2:Int}(k1:bU v1 z1)(k2:bU v2 z2)(qa:∀h,M.ext 193 [.str (bK 47 s).1] h=some ⟨v1,h,[]⟩)(qb:∀h,M.ext 193 [.str ((bK 47 s).2.getD [])] h=some ⟨v2,h,[]⟩):cQ M 135 [.str s] (.au [v1,v2]):=by
 obtain⟨e1,e2,hk⟩:=Py hb;obtain⟨n1,x1,l1,rfl,_,o1,t1,b1⟩:=k1.shape;obtain⟨n2,x2,l2,rfl,_,o2,t2,b2⟩:=k2.shape;have e1':s.take ((cn s:Nat):Int).toNat=(bK 47 s).1:=e1;have e2':s.drop ((cn s:Int)+1).toNat=(bK 47 s).2.getD []:=by rw[show ((cn s:Int)+1).toNat=cn s+1 by omega];exact e2
 generalize (bK 47 s).1=X at *
 generalize (bK 47 s).2.getD []=Y at *
 refine cR (by rw[hft];exact Pd) be ?_;unfold Gp;simp only[enter];refine gg14 ?_;refine cN rfl rfl (.same ?_ ?_)
 . show max (max 0 (max x1.top 0)) (max (max 0 (max x2.top 0)) 0)=0;omega
 . show AV.au [.agg [.bool n1,bL x1],.agg [.bool n2,bL x2]]=_;grind
theorem PA (hft:M.FT=FT)(a b:List Int)(ha:okW dB a)(hb:okW dB b)(na:aN a)(nb:aN b)(la:a.length<1000000000)(_lb:b.length<1000000000) :
 aV M 218 [.vs (an a) a.length c1,.vs (an b) b.length c2] [] ⟨.iV (bz (WV dB a-WV dB b)),[],[]⟩:=by
 have hB:(1:Int)<dB:=by decide
 refine bH (by rw[hft];exact afR) be ?_;by_cases hl:a.length=b.length
 . have loop:∀(r:Nat) lo a2 wr {Q:Ex->aq->Prop},r<=a.length->a.drop r=b.drop r ->
    (∀lo wr z,z=bz (WV dB a-WV dB b)->∀a3,Q .ret ⟨⟨[.vs (an a) a.length c1,.vs (an b) b.length c2,.iV z,a3],lo,[],[]⟩,wr⟩) ->
    (bz (WV dB a-WV dB b)=0->∀lo wr,Q (.exit 0) ⟨⟨[.vs (an a) a.length c1,.vs (an b) b.length c2,a2,.iV (-1)],lo,[],[]⟩,wr⟩) ->
    W M (.loop rW) ⟨⟨[.vs (an a) a.length c1,.vs (an b) b.length c2,a2,.iV ((r:Int)-1)],lo,[],[]⟩,wr⟩ Q:=by
    intro r;induction r with
    | zero=>
     intro lo a2 wr Q hr hd h1 h2;rw[m9,m9]at hd;refine W.loop ?_;unfold rW;exact gg0
    | succ r ih=>
     intro lo a2 wr Q hr hd h1 h2;have er:((r+1:Nat):Int)-1=r:=by omega
     rw[er];have hai:a[((r:Int)).toNat]! = a[r]! := rfl;have hbi:b[((r:Int)).toNat]! = b[r]! := rfl;refine W.loop ?_;by_cases hlt:a[r]! < b[r]!
     . have:=xU hB ha hb (i:=r) ac ac hd hlt;rw[←hai,←hbi]at hlt;unfold rW;exact gg0
     . by_cases hgt:b[r]! < a[r]!
       . have:=xU hB hb ha (i:=r) ac ac hd.symm hgt;rw[←hai,←hbi]at hlt hgt;unfold rW;exact gg0
       . have hd2:a.drop r=b.drop r:=by
          rw[d6 ac,d6 (show r<b.length by omega),hd,←getElem!_pos a r,←getElem!_pos b r];exact bS
         rw[←hai,←hbi]at hlt hgt;unfold rW;exact gg0
   unfold Gt;simp only[enter];refine gg8 ?_;refine loop a.length _ _ _ (b9 _) bS (fun lo wr z hz a3=>?_) (fun hz lo wr=>?_)
   . subst hz;exact gg2
   . rw[hz];exact gg2
 . unfold Gt;simp only[enter];by_cases hlt:a.length<b.length
   . have:=pJ hB ha hb nb hlt;rw[show bz (WV dB a-WV dB b) = -1 by rw[bz,if_pos ac]];repeat' first|(apply abd;rfl;rfl)|(apply acr;rfl;rfl)|refine gc ?_|(intro _;omega)|intro _
     all_goals first|contradiction|(omega)|skip
     all_goals exact⟨.inr rfl,rfl,_,rfl,rfl,rfl⟩
   . have:=pJ hB hb ha na ac;rw[show bz (WV dB a-WV dB b)=1 by rw[bz,if_neg ac,if_pos ac]];repeat' first|(apply abd;rfl;rfl)|(apply acr;rfl;rfl)|refine gc ?_|(intro _;omega)|intro _
     all_goals first|contradiction|(omega)|skip
     all_goals exact⟨.inr rfl,rfl,_,rfl,rfl,rfl⟩
theorem agj (a:List Int)(oa:okW dB a)(la:a.length<10000000)(d:Int)(hd:0<d/\d<=1000000000){Q:Ex->aq->Prop}(a2 a3:AV)
 (hQ:∀L (re:Int) a7 lo wr,L.length=a.length->okW dB L->(0<=re/\re<d)->WV dB a=d*WV dB L+re ->
   Q (.exit 0) ⟨⟨[.vs (an a) a.length c1,.iV d,a2,a3,.sl 0 0 a.length 1 (some a.length),.iV re,.iV (-1),a7],lo,[some (.cells (an L) 3)],[]⟩,wr⟩) (a7:AV) (lo:List (Nat×AV)) :
 W M (.loop Ap) ⟨⟨[.vs (an a) a.length c1,.iV d,a2,a3,.sl 0 0 a.length 1 (some a.length),.iV 0,.iV ((a.length:Int)-1),a7],lo,[some (.cells (an (ci a.length 0)) 3)],[]⟩,[]⟩ Q:=by
 refine W.gP (fun t s=>∃L re iv a7 lo wr,s=⟨⟨[.vs (an a) a.length c1,.iV d,a2,a3,.sl 0 0 a.length 1 (some a.length),.iV re,.iV iv,a7],lo,[some (.cells (an L) 3)],[]⟩,wr⟩ /\
  iv=(t:Int)-1/\t<=a.length/\L.length=a.length/\okW dB L/\(0<=re/\re<d)/\(∀k,k<t->L[k]! = 0)/\WV dB a=d*WV dB L+dB^t*re+WV dB (a.take t)) (fun t s ⟨L,re,iv,a7,lo,wr,hs,hiv,ht,hL,oL,hre,hz,hv⟩=>?_) (m:=a.length)
  ⟨_,_,_,_,_,_,rfl,rfl,b9 _,be,lI am,⟨am,hd.1⟩,fun k _=>mE,by rw[lJ,dN];simp⟩
 subst hs;cases t with
 | zero=>
  obtain rfl:iv = -1:=by omega
  unfold Ap;exact gg0
 | succ i=>
  obtain rfl:iv=(i:Int):=by omega
  have gx:=cg oa (i:=i) ac;obtain⟨x,hx⟩:∃x,x=a[((i:Int)).toNat]! := ⟨_,rfl⟩;rw[show a[i]! = x from hx.symm]at gx;have gx:0<=x/\x<1000000000:=gx;have e1:=iz (re*1000000000+x) d;have r0:=f9 (re*1000000000+x) (show d≠0 by omega);have r1:=fm (re*1000000000+x) hd.1;have d0:0<=(re*1000000000+x)/d:=mW ac ac;have d1:(re*1000000000+x)/d<1000000000:=j2 hd.1 ac;have eI:0+((i:Int)).toNat*1=i:=by omega
  obtain⟨q,hq⟩:∃q,q=(re*1000000000+x)/d:=⟨_,rfl⟩;obtain⟨r,hr⟩:∃r,r=(re*1000000000+x)%d:=⟨_,rfl⟩;have next:∀a7 lo wr,LI (fun s=>∃m',m'<i+1/\∃L re iv a7 lo wr,s=⟨⟨[.vs (an a) a.length c1,.iV d,a2,a3,.sl 0 0 a.length 1 (some a.length),.iV re,.iV iv,a7],lo,[some (.cells (an L) 3)],[]⟩,wr⟩ /\
   iv=(m':Int)-1/\m'<=a.length/\L.length=a.length/\okW dB L/\(0<=re/\re<d)/\(∀k,k<m'->L[k]! = 0)/\WV dB a=d*WV dB L+dB^m'*re+WV dB (a.take m')) Q .normal ⟨⟨[.vs (an a) a.length c1,.iV d,a2,a3,.sl 0 0 a.length 1 (some a.length),.iV r,.iV ((i:Int)-1),a7],lo,[some (.cells (an (L.set i q)) 3)],[]⟩,wr⟩:=fun a7 lo wr=>
   bW ⟨i,lC i,_,_,_,a7,lo,wr,rfl,rfl,ac,bS,gQ oL ⟨ac,bS⟩,ac,fun k hk=>by rw[jt ac];grind,by
    rw[hv,gR ac,hz i ac,fE ac,show a[i]! = x from hx.symm,ce,k9];grind⟩
  rw[hq,hr,hx]at next
  rw[hx]at gx;have hre2:re<1000000000:=by omega
  unfold Ap;exact gg2
section
variable {t b m:Nat} {x y:ay} {l:List aX} {pe:List AV} {lo:List (Nat×AV)} {hp:aa} {df wr:List Nat} {L:List Int} {e:TypeId} {v a d:Int} {Q:aq->Prop}
theorem alS (hx:(St.mk pe lo hp df).ae x=some (.iV a))(hy:(St.mk pe lo hp df).ae y=some (.iV d))(ha:0<=a/\a<9223372036854775808)(hd:0<d)
 (h:WO M l ⟨⟨pe,(t,.iV (a/d))::lo,hp,df⟩,wr⟩ Q):WO M (⟨.l t,.bin .quo x y,none⟩::l) ⟨⟨pe,lo,hp,df⟩,wr⟩ Q:=by
 refine alI hx hy hd ac ?_;rw[Int.tdiv_eq_ediv_of_nonneg ha.1];exact h
theorem amb (hx:(St.mk pe lo hp df).ae x=some (.iV a))(hy:(St.mk pe lo hp df).ae y=some (.iV d))(ha:0<=a)(hd:0<d)
 (h:WO M l ⟨⟨pe,(t,.iV (a%d))::lo,hp,df⟩,wr⟩ Q):WO M (⟨.l t,.bin .rem x y,none⟩::l) ⟨⟨pe,lo,hp,df⟩,wr⟩ Q:=by
 refine alJ hx hy ac ?_;rw[Int.tmod_eq_emod_of_nonneg ha];exact h
theorem ama (hx:(St.mk pe lo hp df).ae x=some (.ptr b m))(hb:hp.at b=some (.cells (an L) e))(hi:m<L.length)(hv:L[m]! = v)
 (h:WO M l ⟨⟨pe,(t,.iV v)::lo,hp,df⟩,wr⟩ Q):WO M (⟨.l t,.load 1 false x,none⟩::l) ⟨⟨pe,lo,hp,df⟩,wr⟩ Q:=by
 subst hv;exact ami hx hb hi h
end
def lZ (v:AV)(hh:aa)(r:List Int)(z:Int):Prop:=∃v1,fD hh v v1/\v1.top=0/\cf v1 = .au [.vs (an r) r.length none,.iV z]
theorem lZ.trim {b:Nat}{L:List Int}{e:TypeId}{hp:aa}{n:Nat}{z:Int}(hb:hp.at b=some (.cells (an L) e))(hn:n<=L.length):lZ (aW [bE b (aQ (L.take n)) cap,.iV z]) (if (aW [bE b (aQ (L.take n)) cap,.iV z]).top<=0 then [] else hp) (L.take (aQ (L.take n))) z:=by
 have hle:=iW (l:=L.take n);rw[b7]at hle;obtain⟨k,hk⟩:∃k,k=aQ (L.take n):=⟨_,rfl⟩;rw[←hk]at hle ⊢;by_cases h0:0<k
 . have e1:bE b k cap = .sl b 0 k 1 cap:=if_pos h0;rw[e1,if_neg (by simp[aW,AV.top,bc])];have hl:(L.take k).length=k:=by rw[b7];omega
   have hF:Fr hp [b] (.sl b 0 k 1 cap) (.vs (an (L.take k)) k none):=by
    refine .sl (m:=an (L.take k)) (dO.2 rfl) hb ?_ rfl (fun i x y hx hy=>?_) (.inr rfl)
    . have:=ji (f:=iC) (esz:=1) (fun _=>rfl) (l:=L) (i:=0) (n:=k) ac;simpa using this
    . rw[hx]at hy;cases hy;exact .same (cO (fF _) hx)
   unfold lZ;rw[hl];refine⟨.au [.vs (an (L.take k)) k none,.iV z],⟨[b],.au rfl (fun i x y hx hy=>?_),rfl,fun c l' e' hc hl'=>?_⟩,by simp[AV.top,bc,fF],by simp only[cf,dE,Gv]⟩
   . match i with
     | 0=>cases hx;cases hy;exact hF
     | 1=>cases hx;cases hy;exact .same rfl
     | i+2=>cases hx
   . rw[dO.1 hc,hb]at hl';cases hl';exact kH (fun _=>rfl) _
 . obtain rfl:k=0:=by omega
   exact⟨.au [.vs [] 0 cap,.iV z],.same rfl rfl,rfl,rfl⟩
theorem lZ.zero {b:Nat}{e:TypeId}{hp:aa}{z:Int}(hb:hp.at b=some (.cells (an []) e)):lZ (aW [.sl b 0 0 1 cap,.iV z]) (if (aW [.sl b 0 0 1 cap,.iV z]).top<=0 then [] else hp) [] z:=by
 rw[if_neg (by simp[aW,AV.top,bc])];refine⟨.au [.vs [] 0 none,.iV z],⟨[b],.au rfl (fun i x y hx hy=>?_),rfl,fun c l' e' hc hl'=>?_⟩,rfl,rfl⟩
 . match i with
   | 0=>cases hx;cases hy;exact .sl (m:=[]) (dO.2 rfl) hb rfl rfl (fun i x y hx=>by simp at hx) (.inr rfl)
   | 1=>cases hx;cases hy;exact .same rfl
   | i+2=>cases hx
 . rw[dO.1 hc,hb]at hl';cases hl';rfl
theorem Gz (hft:M.FT=FT){b:Nat}{L:List Int}{e:TypeId}{hp:aa}(hb:hp.at b=some (.cells (an L) e)):aV M 242 [.sl b 0 0 1 cap] hp ⟨.sl b 0 0 1 cap,hp,[]⟩:=by
 have hbl:=cJ hb;refine mA (by rw[hft];exact Ai) be (by simp[AV.top];omega) ?_;unfold uL;simp only[enter];repeat' first|refine gc ?_|fail
 refine W.loop ?_;unfold kl;exact gg1
def PB (M:aw)(g:Nat)(ars:List AV)(x y:Int):Prop:=∃q:List Int,(okW dB q/\aN q/\WV dB q=x/y)/\∃v hh,lZ v hh q (x%y)/\aV M g ars [] ⟨v,hh,[]⟩
theorem agk {f N:Nat}{aR:List Nat}{res:List fA}{body:ak}{ars:List AV}{x y:Int}(hft:M.FT f=some ⟨N,aR,res,body⟩)(hN:ars.length<=N)
 (h:W M body ⟨⟨aR.map (fun t=>(ars[t]?).getD bD),[],[],[]⟩,[]⟩ fun e s=>(e = .normal\/e = .ret)/\s.s.bV=[]/\∃vs,dx s.s res=some vs/\∃q:List Int,(okW dB q/\aN q/\WV dB q=x/y)/\lZ (aW vs) (if (aW vs).top<=0 then [] else s.s.hp) q (x%y)):PB M f ars x y:=by
 obtain⟨v,hh,⟨q,hq,ho⟩,h2⟩:=gO (P:=fun v hh=>∃q:List Int,(okW dB q/\aN q/\WV dB q=x/y)/\lZ v hh q (x%y)) hft hN h;exact⟨q,hq,v,hh,ho,h2⟩
theorem agl (hft:M.FT=FT)(dU:∀ars h,M.ext 242 ars h=none)(a:List Int)(oa:okW dB a)(la:a.length<10000000)(d:Int)(hd:0<d/\d<=1000000000):PB M 241 [.vs (an a) a.length c1,.iV d] (WV dB a) d:=by
 refine agk (by rw[hft];exact afS) be ?_;unfold Pk;simp only[enter];repeat' first|refine gc ?_|fail
 rw[show ((a.length:Int)).toNat=a.length from rfl];refine agj a oa la d hd _ _ (fun L re a7 lo wr hL oL hre hv=>?_) _ _;obtain⟨d1,d2⟩:=nS hv hre.1 hre.2;obtain⟨g1,g2,g3⟩:=qk oL;by_cases h0:a.length=0
 . have hL0:L=[]:=List.eq_nil_of_length_eq_zero ac;subst hL0;have hl0:a.length=0:=h0;have q0:CT M (iY 242) [.sl 0 0 a.length 1 (some a.length)] [some (.cells (an []) 3)] ⟨.sl 0 0 a.length 1 (some a.length),[some (.cells (an []) 3)],[]⟩:=by
    rw[hl0];exact CT.run (fi:=[]) (ca:=[]) (dU _ _) (Gz hft rfl)
   repeat' first|(apply afJ;rfl;rfl;first|exact q0)|refine gc ?_|fail
   have hout:=lZ.zero (cap:=some a.length) (e:=3) (hp:=[some (.cells (an []) 3)]) (b:=0) (z:=re) rfl;refine⟨.inr rfl,rfl,_,rfl,[],⟨jf,kA,d1⟩,?_⟩;rw[←d2,hl0];rw[hl0]at hout;exact hout
 . have q1:CT M (iY 242) [.sl 0 0 a.length 1 (some a.length)] [some (.cells (an L) 3)] ⟨bE 0 (aQ (L.take a.length)) (some a.length),[some (.cells (an L) 3)],[]⟩:=qm (cap:=some a.length) hft dU rfl ac ac ac (fun c hc=>by cases hc;exact b9 _);repeat' first|(apply afJ;rfl;rfl;first|exact q1)|refine gc ?_|fail
   have hout:=lZ.trim (cap:=some a.length) (b:=0) (L:=L) (e:=3) (hp:=[some (.cells (an L) 3)]) (n:=a.length) (z:=re) rfl ac;refine⟨.inr rfl,rfl,_,rfl,L.take (aQ (L.take a.length)),?_,?_⟩
   . rw[c8 (show L.length<=a.length by omega)];exact⟨g1,g2,by rw[g3,d1]⟩
   . rw[←d2];exact hout
theorem PC {x y:Int}(hx:0<=x/\x<1000000000)(hy:0<=y/\y<1000000000):0<=x*y/\x*y<=999999998000000001:=by
 refine⟨ip hx.1 hy.1,?_⟩;have:=j5 (a:=x) (b:=y) (c:=999999999) (d:=999999999) ac ac hy.1 ac;omega
theorem agm (a b:List Int)(hb:okW dB b)(la:a.length<10000000)(lb:b.length<10000000)(i:Nat)(hi:i<a.length)(x P:Int)(hx:0<=x/\x<1000000000)(hax:a[((i:Int)).toNat]! = x){Q:Ex->aq->Prop}(a2 a7:AV)(lo:List (Nat×AV))(wr:List Nat)(L:List Int)(hl:L.length=a.length+b.length)(bT:okW dB L)(hz:∀k,i+b.length<=k->L[k]! = 0)(hP:WV dB L=P)
 (hQ:∀L (c:Int) a7 lo wr,L.length=a.length+b.length->okW dB L->(0<=c/\c<1000000000)->(∀k,i+b.length<=k->L[k]! = 0)->WV dB L+dB^(i+b.length)*c=P+dB^i*x*WV dB b ->
   Q (.exit 2) ⟨⟨[.vs (an a) a.length c1,.vs (an b) b.length c2,a2,.sl 0 0 (a.length+b.length) 1 (some (a.length+b.length)),.iV i,.iV c,.iV b.length,a7],lo,[some (.cells (an L) 3)],[]⟩,wr⟩) :
 W M (.loop An) ⟨⟨[.vs (an a) a.length c1,.vs (an b) b.length c2,a2,.sl 0 0 (a.length+b.length) 1 (some (a.length+b.length)),.iV i,.iV 0,.iV 0,a7],lo,[some (.cells (an L) 3)],[]⟩,wr⟩ Q:=by
 subst hax;refine W.di b.length (fun j s=>∃L c a7 lo wr,s=⟨⟨[.vs (an a) a.length c1,.vs (an b) b.length c2,a2,.sl 0 0 (a.length+b.length) 1 (some (a.length+b.length)),.iV i,.iV c,.iV j,a7],lo,[some (.cells (an L) 3)],[]⟩,wr⟩ /\
  L.length=a.length+b.length/\okW dB L/\(0<=c/\c<1000000000)/\(∀k,i+b.length<=k->L[k]! = 0)/\WV dB L+dB^(i+j)*c=P+dB^i*a[((i:Int)).toNat]! * WV dB (b.take j)) (fun j s hj ⟨L,c,a7,lo,wr,hs,hl,bT,hc,hz,hv⟩=>?_) (fun s ⟨L,c,a7,lo,wr,hs,hl,bT,hc,hz,hv⟩=>?_) (j6 _)
  ⟨_,_,_,_,_,rfl,hl,bT,⟨am,am⟩,hz,by rw[hP];simp[WV]⟩
 . subst hs;have gy:=cg hb hj;rw[show b[j]! = b[((j:Int)).toNat]! from rfl]at gy;obtain⟨y,hy⟩:∃y,y=b[((j:Int)).toNat]! := ⟨_,rfl⟩;rw[←hy]at gy;have gy:0<=y/\y<1000000000:=gy;have hm:=PC hx gy;obtain⟨m,hmm⟩:∃m,m=a[((i:Int)).toNat]! * y:=⟨_,rfl⟩;rw[←hmm]at hm;have gL:=cg bT (i:=i+j) ac;obtain⟨w,hw⟩:∃w,w=L[i+j]! := ⟨_,rfl⟩;rw[←hw]at gL;have gL:0<=w/\w<1000000000:=gL;obtain⟨R,hR⟩:∃R,R=(w+m+c)%1000000000:=⟨_,rfl⟩;obtain⟨D,hD⟩:∃D,D=(w+m+c)/1000000000:=⟨_,rfl⟩;have hD2:(0<=D/\D<1000000000)/\w+m+c=R+1000000000*D/\(0<=R/\R<1000000000):=by omega
   have eI:0+(((i:Int)+(j:Int))).toNat*1=i+j:=by omega
   have next:∀a7 lo wr,LI (fun s=>∃L c a7 lo wr,s=⟨⟨[.vs (an a) a.length c1,.vs (an b) b.length c2,a2,.sl 0 0 (a.length+b.length) 1 (some (a.length+b.length)),.iV i,.iV c,.iV ((j+1:Nat):Int),a7],lo,[some (.cells (an L) 3)],[]⟩,wr⟩ /\
    L.length=a.length+b.length/\okW dB L/\(0<=c/\c<1000000000)/\(∀k,i+b.length<=k->L[k]! = 0)/\WV dB L+dB^(i+(j+1))*c=P+dB^i*a[((i:Int)).toNat]! * WV dB (b.take (j+1))) Q .normal ⟨⟨[.vs (an a) a.length c1,.vs (an b) b.length c2,a2,.sl 0 0 (a.length+b.length) 1 (some (a.length+b.length)),.iV i,.iV D,.iV ((j:Int)+1),a7],lo,[some (.cells (an (L.set (i+j) R)) 3)],[]⟩,wr⟩:=fun a7 lo wr=>
    bW ⟨_,_,a7,lo,wr,rfl,bS,gQ bT hD2.2.2,hD2.1,fun k hk=>by grind,by
     rw[gR ac,←hw,fE hj,show i+(j+1)=(i+j)+1 from rfl,ce,show b[j]! = y from hy.symm];grind⟩
   rw[hD,hR,hmm]at next
   rw[hmm]at hm;rw[hy]at next hm gy
   unfold An;exact gg2
 . subst hs;rw[dN]at hv;unfold An;exact gg0
theorem PD (hft:M.FT=FT)(dU:∀ars h,M.ext 242 ars h=none)(a b:List Int)(ha:okW dB a)(hb:okW dB b)(la:a.length<10000000)(lb:b.length<10000000)(h0:0<a.length+b.length):Aq M 197 [.vs (an a) a.length c1,.vs (an b) b.length c2] (WV dB a*WV dB b):=by
 refine Gw (by rw[hft];exact Pj) be ?_;unfold Gu;simp only[enter];repeat' first|refine gc ?_|fail
 have e0:((a.length:Int)+(b.length:Int)).toNat=a.length+b.length:=by omega
 rw[e0];refine W.di a.length (fun i s=>∃L a5 a6 a7 lo wr,s=⟨⟨[.vs (an a) a.length c1,.vs (an b) b.length c2,.ab,.sl 0 0 (a.length+b.length) 1 (some (a.length+b.length)),.iV i,a5,a6,a7],lo,[some (.cells (an L) 3)],[]⟩,wr⟩ /\
  L.length=a.length+b.length/\okW dB L/\(∀k,i+b.length<=k->L[k]! = 0)/\WV dB L=WV dB (a.take i)*WV dB b) (fun i s hi ⟨L,a5,a6,a7,lo,wr,hs,hl,bT,hz,hv⟩=>?_) (fun s ⟨L,a5,a6,a7,lo,wr,hs,hl,bT,hz,hv⟩=>?_) (j6 _)
  ⟨ci (a.length+b.length) 0,_,_,_,_,_,rfl,be,lI am,fun k _=>mE,by rw[lJ];simp[WV]⟩
 . subst hs;have gx:=cg ha hi;rw[show a[i]! = a[((i:Int)).toNat]! from rfl]at gx;have eI:0+(((i:Int)+(b.length:Int))).toNat*1=i+b.length:=by omega
   unfold Ao;refine gg4 ?_;refine agm (c1:=c1) (c2:=c2) a b hb la lb i hi a[((i:Int)).toNat]! _ gx rfl _ _ _ _ L hl bT hz hv (fun L2 c a7 lo wr h1 h2 h3 h4 h5=>?_);have h4':=h4 _ (b9 _);have g0:=cg h2 (i:=i+b.length) ac;repeat' first|(apply ama (v:=0);exact congrArg (fun z=>some (AV.ptr 0 z)) eI;rfl;omega;exact h4')|(apply alR;exact congrArg (fun z=>some (AV.ptr 0 z)) eI;rfl;rfl;omega)|refine gc ?_|fail
   all_goals try omega
   refine bW ⟨L2.set (i+b.length) (0+c),_,_,_,_,_,rfl,bS,gQ h2 bS,fun k hk=>by rw[jt ac];grind,?_⟩;rw[gR ac,h4',k9,Int.zero_add,h5,fE hi];grind
 . subst hs;rw[dN]at hv;have q:=qm (cap:=some (a.length+b.length)) (b:=0) (n:=a.length+b.length) (L:=L) (e:=3) (hp:=[some (.cells (an L) 3)]) hft dU rfl ac ac ac be;rw[c8 ac]at q;unfold Ao;refine gg4 ?_;refine⟨.inr rfl,rfl,_,rfl,L.take (aQ L),?_,?_⟩
   . obtain⟨g1,g2,g3⟩:=qk bT;grind
   . have:=ie.trim (cap:=some (a.length+b.length)) (b:=0) (L:=L) (e:=3) (hp:=[some (.cells (an L) 3)]) (n:=a.length+b.length) rfl ac;rw[c8 ac]at this;exact this
end Go.Ab.Ch1

/-
  Own work: Knuth's division to the base 10^9: the guess of a digit is at most one too great.
-/
namespace Go.Ab.aU
structure ja (t2 t1 t0 v1 v0 T V p:Int):Prop where
 h2:0<=t2
 h1:0<=t1/\t1<1000000000
 h0:0<=t0/\t0<1000000000
 w1:500000000<=v1/\v1<1000000000
 w0:0<=v0/\v0<1000000000
 hp:1<=p
 lo:((t2*1000000000+t1)*1000000000+t0)*p<=T
 hi:T<((t2*1000000000+t1)*1000000000+t0+1)*p
 rz:(v1*1000000000+v0)*p<=V
 tK:V<(v1*1000000000+v0+1)*p
 hT:T<1000000000*V
structure jk (t2 t1 v1 T V q r:Int):Prop where
 q0:0<=q/\q<=1000000001
 r0:0<=r
 e:q*v1+r=t2*1000000000+t1
 ge:T<(q+1)*V
variable {t2 t1 t0 v1 v0 T V p q r:Int}
theorem ja.top (C:ja t2 t1 t0 v1 v0 T V p):t2<=v1:=by
 have h1:=C.h1;have h0:=C.h0;have w0:=C.w0;have a1:((t2*1000000000+t1)*1000000000+t0)*p<(1000000000*(v1*1000000000+v0+1))*p:=by
  have:=C.lo;have:=C.hT;have:=C.tK;rw[f8 1000000000];omega
 have a2:=Int.lt_of_mul_lt_mul_right a1 (by have:=C.hp;omega);omega
theorem ja.geq (C:ja t2 t1 t0 v1 v0 T V p)(h0:0<=q)(h:(t2*1000000000+t1)*1000000000+t0+1<=q*(v1*1000000000+v0)):T<q*V:=by
 have hp:=C.hp;have a1:=b6 h (show 0<=p by omega);have a2:=b5 C.rz h0;rw[←f8]at a2;have:=C.hi;omega
theorem jk.qD (I:jk t2 t1 v1 T V q r):q*(v1*1000000000+v0)=(t2*1000000000+t1-r)*1000000000+q*v0:=by
 have e:=I.e;have:t2*1000000000+t1-r=q*v1:=by omega
 rw[this,i9,f8]
theorem jk.init (C:ja t2 t1 t0 v1 v0 T V p):jk t2 t1 v1 T V ((t2*1000000000+t1)/v1) ((t2*1000000000+t1)%v1):=by
 have h2:=C.h2;have h1:=C.h1;have w1:=C.w1;have h0:=C.h0;have w0:=C.w0;have ht:=C.top;have q0:0<=(t2*1000000000+t1)/v1:=mW ac ac;have q1:(t2*1000000000+t1)/v1<1000000002:=j2 ac ac;have e:=iz (t2*1000000000+t1) v1;have r0:=f9 (t2*1000000000+t1) (show v1≠0 by omega);have r1:=fm (t2*1000000000+t1) (show 0<v1 by omega);rw[Int.mul_comm]at e;refine⟨⟨q0,ac⟩,r0,e,C.geq ac ?_⟩;generalize (t2*1000000000+t1)/v1=q at *
 generalize (t2*1000000000+t1)%v1=r at *
 have a1:(q+1)*(v1*1000000000+v0)=(q*v1+v1)*1000000000+(q+1)*v0:=by grind
 have a2:0<=(q+1)*v0:=ip ac w0.1;rw[a1];generalize q*v1=z at *
 generalize (q+1)*v0=y at *
 omega
theorem ja.V0 (C:ja t2 t1 t0 v1 v0 T V p):0<V:=by
 have:=C.w1;have:=C.w0;have:=C.rz;have:=j3 (show 0<v1*1000000000+v0 by omega) (show 0<p by have:=C.hp;omega);omega
theorem jk.dec (C:ja t2 t1 t0 v1 v0 T V p)(I:jk t2 t1 v1 T V q r)(h:1000000000<=q\/r*1000000000+t0<q*v0):jk t2 t1 v1 T V (q-1) (r+v1):=by
 have w1:=C.w1;have q0:=I.q0;have r0:=I.r0;have h0:=C.h0;have q1:0<q:=by
  rcases c9 0 q with h'|h'
  . exact h'
  . obtain rfl:q=0:=by omega
    omega
 refine⟨ac,ac,by have:=I.e;rw[mp];omega,?_⟩;rw[Int.sub_add_cancel];rcases h with h|h
 . have hT:=C.hT;have:=b6 h (b8 C.V0);omega
 . refine C.geq ac ?_;rw[I.qD];omega
theorem jk.exit (C:ja t2 t1 t0 v1 v0 T V p)(I:jk t2 t1 v1 T V q r)(hq:q<1000000000)(h:q*v0<=r*1000000000+t0):(q-1)*V<=T:=by
 have w1:=C.w1;have q0:=I.q0;have r0:=I.r0;have w0:=C.w0;have hp:=C.hp;have a1:q*(v1*1000000000+v0)<=(t2*1000000000+t1)*1000000000+t0:=by rw[I.qD];omega
 have a2:=b6 a1 (show 0<=p by omega);have a3:=b5 (b8 C.tK) q0.1;have a4:q*((v1*1000000000+v0+1)*p)=q*(v1*1000000000+v0)*p+q*p:=by grind
 have a5:=b6 (show q<=1000000000 by omega) (show 0<=p by omega);have a6:=b6 (show 1000000000<=v1*1000000000+v0 by omega) (show 0<=p by omega);have a7:=C.rz;have a8:=C.lo;rw[mp,g9];omega
theorem jk.nP (C:ja t2 t1 t0 v1 v0 T V p)(I:jk t2 t1 v1 T V q r)(h:1000000000<=r):q<1000000000/\(q-1)*V<=T:=by
 have q0:=I.q0;have w0:=C.w0;have h0:=C.h0;have w1:=C.w1;have h1:=C.h1;have ht:=C.top;have hq:q<1000000000:=by
  rcases c9 q 1000000000 with h'|h'
  . exact h'
  . have a:=b6 h' (show 0<=v1 by omega);have e:=I.e;omega
 refine⟨hq,I.exit C hq ?_⟩;have h3:=j5 (a:=q) (b:=v0) (c:=999999999) (d:=999999999) ac ac w0.1 ac;omega
theorem ja.of {X V:List Int}{n:Nat}(hX:X.length=n+3)(hV:V.length=n+2)(oX:okW 1000000000 X)(oV:okW 1000000000 V)(hv:500000000<=V[n+1]!)(hT:WV 1000000000 X<1000000000*WV 1000000000 V) :
 ja X[n+2]! X[n+1]! X[n]! V[n+1]! V[n]! (WV 1000000000 X) (WV 1000000000 V) (1000000000^n):=by
 have x2:=cg oX (i:=n+2) ac;have x1:=cg oX (i:=n+1) ac;have x0:=cg oX (i:=n) ac;have v1:=cg oV (i:=n+1) ac;have v0:=cg oV (i:=n) ac;have eX:WV 1000000000 X=WV 1000000000 (X.take n)+((X[n+2]! * 1000000000+X[n+1]!)*1000000000+X[n]!)*1000000000^n:=by
  rw[jQ (n:=n+2) ac,fE ac,fE ac,ce,ce];grind
 have eV:WV 1000000000 V=WV 1000000000 (V.take n)+(V[n+1]! * 1000000000+V[n]!)*1000000000^n:=by
  rw[jQ (n:=n+1) ac,fE ac,ce];grind
 have lX:=dg (b:=1000000000) am (dF oX n);have lV:=dg (b:=1000000000) am (dF oV n);have pX:=cB (b:=1000000000) am (dF oX n);have pV:=cB (b:=1000000000) am (dF oV n);rw[b7,j0 ac]at lX lV;have hp:(0:Int)<1000000000^n:=gT am;refine⟨x2.1,x1,x0,⟨hv,v1.2⟩,v0,ac,ac,?_,ac,?_,hT⟩
 . rw[hZ _ 1,g9];omega
 . rw[hZ _ 1,g9];omega
end Go.Ab.aU

/-
  Own work: the reference's integers: the guess of a digit.
-/
namespace Go.Ab.Ch1
open Go.Ab.aU
variable {M:aw} {cap c1 c2:Option Nat}
theorem aid {t m m':Nat}{x:ay}{l:List aX}{pe:List AV}{lo:List (Nat×AV)}{hp:aa}{df wr:List Nat}{L:List Int}{v:Int}{Q:aq->Prop}(hx:(St.mk pe lo hp df).ae x=some (.vp ((an L).drop (m'*1))))(hm:m'=m)(hi:m<L.length)(hv:L[m]! = v)
 (h:WO M l ⟨⟨pe,(t,.iV v)::lo,hp,df⟩,wr⟩ Q):WO M (⟨.l t,.load 1 false x,none⟩::l) ⟨⟨pe,lo,hp,df⟩,wr⟩ Q:=by
 subst hm;subst hv;exact agT (f:=iC) (esz:=1) (c:=L) (i:=m') hx (fun _=>rfl) hi am rfl h
variable {k j:Nat} {U V:List Int}
theorem agn (hV:V.length=k+2)(hU:j+k+2<U.length)(lU:U.length<100000000){t2 t1 t0 v1 v0 T D p:Int}(K:ja t2 t1 t0 v1 v0 T D p)(ht0:U[j+k]! = t0)(hv1:V[k+1]! = v1)(hv0:V[k]! = v0){Q:Ex->aq->Prop}(a3 a5:AV)
 (hR:∀(q r:Int) lo wr,(0<=q/\q<1000000000)->T<(q+1)*D->(q-1)*D<=T->Q .ret ⟨⟨[.vs (an U) U.length c1,.vs (an V) V.length c2,.iV j,.iV q,.iV V.length,a5,.iV q,.iV r],lo,[],[]⟩,wr⟩)
 (hQ:∀(q r:Int) lo wr,(0<=q/\q<1000000000)->T<(q+1)*D->(q-1)*D<=T->Q (.exit 0) ⟨⟨[.vs (an U) U.length c1,.vs (an V) V.length c2,.iV j,a3,.iV V.length,a5,.iV q,.iV r],lo,[],[]⟩,wr⟩)
 (q r:Int) (lo:List (Nat×AV)) (wr:List Nat) (I:jk t2 t1 v1 T D q r) (hr:r<1000000000) :
 W M (.loop uN) ⟨⟨[.vs (an U) U.length c1,.vs (an V) V.length c2,.iV j,a3,.iV V.length,a5,.iV q,.iV r],lo,[],[]⟩,wr⟩ Q:=by
 refine W.gP (fun m s=>∃q r lo wr,s=⟨⟨[.vs (an U) U.length c1,.vs (an V) V.length c2,.iV j,a3,.iV V.length,a5,.iV q,.iV r],lo,[],[]⟩,wr⟩/\m=q.toNat/\jk t2 t1 v1 T D q r/\r<1000000000) (fun m s ⟨q,r,lo,wr,hs,hm,I,hr⟩=>?_) (m:=q.toNat) ⟨q,r,lo,wr,rfl,rfl,I,hr⟩;subst hs;subst hm;have q0:=I.q0;have r0:=I.r0;have w0:=K.w0;have w1:=K.w1;have h0:=K.h0;have step:(1000000000<=q\/r*1000000000+t0<q*v0)->0<q/\∀lo wr,(r+v1<1000000000->LI (fun s=>∃m',m'<q.toNat/\∃q r lo wr,s=⟨⟨[.vs (an U) U.length c1,.vs (an V) V.length c2,.iV j,a3,.iV V.length,a5,.iV q,.iV r],lo,[],[]⟩,wr⟩/\m'=q.toNat/\jk t2 t1 v1 T D q r/\r<1000000000) Q .normal ⟨⟨[.vs (an U) U.length c1,.vs (an V) V.length c2,.iV j,a3,.iV V.length,a5,.iV (q-1),.iV (r+v1)],lo,[],[]⟩,wr⟩) /\
  (1000000000<=r+v1->Q .ret ⟨⟨[.vs (an U) U.length c1,.vs (an V) V.length c2,.iV j,.iV (q-1),.iV V.length,a5,.iV (q-1),.iV (r+v1)],lo,[],[]⟩,wr⟩):=fun h=>by
  have I2:=I.dec K h;have i0:=I2.q0;refine⟨ac,fun lo wr=>⟨fun h1=>bW ⟨(q-1).toNat,ac,_,_,_,_,rfl,rfl,I2,h1⟩,fun h1=>?_⟩⟩;obtain⟨b1,b2⟩:=I2.nP K h1;exact hR _ _ _ _ ⟨i0.1,b1⟩ I2.ge b2
 obtain⟨m,hm⟩:∃m,m=q*v0:=⟨_,rfl⟩;have hmb:0<=m/\m<=1000000001000000001:=by
  rw[hm];refine⟨ip q0.1 w0.1,?_⟩;have:=j5 (a:=q) (b:=v0) (c:=1000000001) (d:=1000000000) ac ac w0.1 ac;omega
 by_cases hB:1000000000<=q
 . obtain⟨hq,st⟩:=step (.inl hB);unfold uN;repeat' first|(apply aid (m:=k+1) (v:=v1);rfl;omega;omega;exact hv1)|(apply agV;rfl;rfl)|refine gc ?_|(intro _;omega)|intro _
   all_goals try omega
   all_goals first|exact(st _ _).1 ac|exact(st _ _).2 ac
 . by_cases ht:r*1000000000+t0<q*v0
   . obtain⟨hq,st⟩:=step (.inr ht);rw[←hm]at ht;rw[hm]at ht hmb;unfold uN;repeat' first|(apply aid (L:=V) (m:=k+1) (v:=v1);rfl;omega;omega;exact hv1)|(apply aid (L:=V) (m:=k) (v:=v0);rfl;omega;omega;exact hv0)|(apply aid (L:=U) (m:=j+k) (v:=t0);rfl;omega;omega;exact ht0)|(apply aev;rfl;rfl)|(apply agV;rfl;rfl)|refine gc ?_|(intro _;omega)|intro _
     all_goals try omega
     all_goals first|exact(st _ _).1 ac|exact(st _ _).2 ac
   . have fin:=I.exit K ac ac;rw[hm]at hmb;unfold uN;exact gg13
theorem ago (hft:M.FT=FT)(hV:V.length=k+2)(hU:j+k+2<U.length)(lU:U.length<100000000){t2 t1 t0 v1 v0 T D p:Int}(K:ja t2 t1 t0 v1 v0 T D p)(ht2:U[j+k+2]! = t2)(ht1:U[j+k+1]! = t1)(ht0:U[j+k]! = t0)(hv1:V[k+1]! = v1)(hv0:V[k]! = v0) :
 ∃q:Int,(0<=q/\q<1000000000)/\T<(q+1)*D/\(q-1)*D<=T/\aV M 243 [.vs (an U) U.length c1,.vs (an V) V.length c2,.iV j] [] ⟨.iV q,[],[]⟩:=by
 have h2:=K.h2;have h1:=K.h1;have w1:=K.w1;have h0:=K.h0;have w0:=K.w0;have htop:=K.top;have I:=jk.init K;have r1:=fm (t2*1000000000+t1) (show 0<v1 by omega);obtain⟨v,hh,⟨q,rfl,rfl,g1,g2,g3⟩,hr⟩:=gO (M:=M) (f:=243) (ars:=[.vs (an U) U.length c1,.vs (an V) V.length c2,.iV j]) (P:=fun v hh=>∃q:Int,v = .iV q/\hh=[]/\(0<=q/\q<1000000000)/\T<(q+1)*D/\(q-1)*D<=T) (by rw[hft];exact afT) be (by
  unfold Pm;simp only[enter];repeat' first|(apply aid (L:=U) (m:=j+k+2) (v:=t2);rfl;omega;omega;exact ht2)|(apply aid (L:=U) (m:=j+k+1) (v:=t1);rfl;omega;omega;exact ht1)|(apply aid (L:=V) (m:=k+1) (v:=v1);rfl;omega;omega;exact hv1)|(apply alS;rfl;rfl;omega;omega)|(apply amb;rfl;rfl;omega;omega)|refine gc ?_|fail
  all_goals try omega
  refine agn hV hU lU K ht0 hv1 hv0 _ _ (fun q r lo wr g1 g2 g3=>?_) (fun q r lo wr g1 g2 g3=>?_) _ _ _ _ I ac
  . exact gg2
  . repeat' first|refine gc ?_|fail
    all_goals exact⟨.inr rfl,rfl,_,rfl,q,rfl,rfl,g1,g2,g3⟩)
 exact⟨q,g1,g2,g3,hr⟩
variable {cu:Option Nat}
variable {bu N:Nat} {e:TypeId} {hp:aa} {P S Y:List Int}
theorem agp (hl:bu<hp.length)(lN:N<100000000)(hN:P.length+V.length<N)(hY:Y.length=V.length)(oY:okW dB Y)(oV:okW dB V)(q:Int)(q0:0<=q/\q<1000000000){Q:Ex->aq->Prop}(a0 a1 a2 a3 a4 a5 a6 aA aF aG aH aI aJ aK:AV)(lo:List (Nat×AV))(wr:List Nat)
 (hQ:∀L (bo:Int) aF aG lo wr,L.length=V.length->okW dB L->(0<=bo/\bo<1000000000)->WV dB L=WV dB Y-q*WV dB V+dB^V.length*bo ->
   Q (.exit 4) ⟨⟨[a0,a1,a2,a3,a4,a5,a6,.vs (an V) V.length c2,.iV V.length,.sl bu 0 N 1 cu,aA,.iV P.length,.iV q,.iV bo,.iV V.length,aF,aG,aH,aI,aJ,aK],lo,cS hp bu e P S L,[]⟩,wr⟩) :
 W M (.loop Ak) ⟨⟨[a0,a1,a2,a3,a4,a5,a6,.vs (an V) V.length c2,.iV V.length,.sl bu 0 N 1 cu,aA,.iV P.length,.iV q,.iV 0,.iV 0,aF,aG,aH,aI,aJ,aK],lo,cS hp bu e P S Y,[]⟩,wr⟩ Q:=by
 refine W.di V.length (fun i s=>∃L bo aF aG lo wr,s=⟨⟨[a0,a1,a2,a3,a4,a5,a6,.vs (an V) V.length c2,.iV V.length,.sl bu 0 N 1 cu,aA,.iV P.length,.iV q,.iV bo,.iV i,aF,aG,aH,aI,aJ,aK],lo,cS hp bu e P S L,[]⟩,wr⟩ /\
  L.length=V.length/\okW dB L/\(0<=bo/\bo<1000000000)/\WV dB L=WV dB Y-q*WV dB (V.take i)+dB^i*bo) (fun i s hi ⟨L,bo,aF,aG,lo,wr,hs,hL,oL,hbo,hv⟩=>?_) (fun s ⟨L,bo,aF,aG,lo,wr,hs,hL,oL,hbo,hv⟩=>?_) (j6 _)
  ⟨_,_,_,_,_,_,rfl,hY,oY,⟨am,am⟩,by simp[WV]⟩
 . subst hs;have gy:=cg oV (i:=i) ac;obtain⟨y,hy⟩:∃y,y=V[i]! := ⟨_,rfl⟩;rw[←hy]at gy;have gy:0<=y/\y<1000000000:=gy;have gL:=cg oL (i:=i) ac;obtain⟨u,hu⟩:∃u,u=L[i]! := ⟨_,rfl⟩;rw[←hu]at gL;have gL:0<=u/\u<1000000000:=gL;have hm:=PC q0 gy;obtain⟨m,hmm⟩:∃m,m=q*y:=⟨_,rfl⟩;rw[←hmm]at hm;have next:∀(D d:Int) aF aG lo,(0<=D/\D<1000000000)->(0<=d/\d<1000000000)->u-m-bo=d-1000000000*D->LI (fun s=>∃L bo aF aG lo wr,s=⟨⟨[a0,a1,a2,a3,a4,a5,a6,.vs (an V) V.length c2,.iV V.length,.sl bu 0 N 1 cu,aA,.iV P.length,.iV q,.iV bo,.iV ((i+1:Nat):Int),aF,aG,aH,aI,aJ,aK],lo,cS hp bu e P S L,[]⟩,wr⟩ /\
    L.length=V.length/\okW dB L/\(0<=bo/\bo<1000000000)/\WV dB L=WV dB Y-q*WV dB (V.take (i+1))+dB^(i+1)*bo) Q .normal ⟨⟨[a0,a1,a2,a3,a4,a5,a6,.vs (an V) V.length c2,.iV V.length,.sl bu 0 N 1 cu,aA,.iV P.length,.iV q,.iV D,.iV ((i:Int)+1),aF,aG,aH,aI,aJ,aK],lo,cS hp bu e P S (L.set i d),[]⟩,bu::wr⟩:=fun D d aF aG lo hD hd he=>
    bW ⟨_,_,aF,aG,lo,_,rfl,by rw[m5];exact hL,gQ oL hd,hD,by
     rw[gR ac,←hu,fE ac,←hy,hv,ce];have e1:d-u=1000000000*D-q*y-bo:=by rw[←hmm];omega
     rw[e1];show _+dB^i*(1000000000*D-q*y-bo)=_-_+dB^i*1000000000*D;grind⟩
   have hV':V[((i:Int)).toNat]! = y:=hy.symm;rw[hmm]at hm next
   rw[hu]at gL next
   unfold Ak;exact gg2
 . subst hs;rw[dN]at hv;unfold Ak;exact gg0
theorem agq (hl:bu<hp.length)(lN:N<100000000)(hN:P.length+V.length<N)(hY:Y.length=V.length)(oY:okW dB Y)(oV:okW dB V){Q:Ex->aq->Prop}(a0 a1 a2 a3 a4 a5 a6 aA aC aD aE aF aG aJ aK:AV)(lo:List (Nat×AV))(wr:List Nat)
 (hQ:∀L (ca:Int) aJ lo wr,L.length=V.length->okW dB L->(0<=ca/\ca<=1)->WV dB L+dB^V.length*ca=WV dB Y+WV dB V ->
   Q (.exit 6) ⟨⟨[a0,a1,a2,a3,a4,a5,a6,.vs (an V) V.length c2,.iV V.length,.sl bu 0 N 1 cu,aA,.iV P.length,aC,aD,aE,aF,aG,.iV ca,.iV V.length,aJ,aK],lo,cS hp bu e P S L,[]⟩,wr⟩) :
 W M (.loop Al) ⟨⟨[a0,a1,a2,a3,a4,a5,a6,.vs (an V) V.length c2,.iV V.length,.sl bu 0 N 1 cu,aA,.iV P.length,aC,aD,aE,aF,aG,.iV 0,.iV 0,aJ,aK],lo,cS hp bu e P S Y,[]⟩,wr⟩ Q:=by
 refine W.di V.length (fun i s=>∃L ca aJ lo wr,s=⟨⟨[a0,a1,a2,a3,a4,a5,a6,.vs (an V) V.length c2,.iV V.length,.sl bu 0 N 1 cu,aA,.iV P.length,aC,aD,aE,aF,aG,.iV ca,.iV i,aJ,aK],lo,cS hp bu e P S L,[]⟩,wr⟩ /\
  L.length=V.length/\okW dB L/\(0<=ca/\ca<=1)/\WV dB L+dB^i*ca=WV dB Y+WV dB (V.take i)) (fun i s hi ⟨L,ca,aJ,lo,wr,hs,hL,oL,hca,hv⟩=>?_) (fun s ⟨L,ca,aJ,lo,wr,hs,hL,oL,hca,hv⟩=>?_) (j6 _)
  ⟨_,_,_,_,_,rfl,hY,oY,⟨am,am⟩,by simp[WV]⟩
 . subst hs;have gy:=cg oV (i:=i) ac;obtain⟨y,hy⟩:∃y,y=V[i]! := ⟨_,rfl⟩;rw[←hy]at gy;have gy:0<=y/\y<1000000000:=gy;have gL:=cg oL (i:=i) ac;obtain⟨u,hu⟩:∃u,u=L[i]! := ⟨_,rfl⟩;rw[←hu]at gL;have gL:0<=u/\u<1000000000:=gL;have next:∀(D d:Int) aJ lo wr,(0<=D/\D<=1)->(0<=d/\d<1000000000)->u+y+ca=d+1000000000*D->LI (fun s=>∃L ca aJ lo wr,s=⟨⟨[a0,a1,a2,a3,a4,a5,a6,.vs (an V) V.length c2,.iV V.length,.sl bu 0 N 1 cu,aA,.iV P.length,aC,aD,aE,aF,aG,.iV ca,.iV ((i+1:Nat):Int),aJ,aK],lo,cS hp bu e P S L,[]⟩,wr⟩ /\
    L.length=V.length/\okW dB L/\(0<=ca/\ca<=1)/\WV dB L+dB^(i+1)*ca=WV dB Y+WV dB (V.take (i+1))) Q .normal ⟨⟨[a0,a1,a2,a3,a4,a5,a6,.vs (an V) V.length c2,.iV V.length,.sl bu 0 N 1 cu,aA,.iV P.length,aC,aD,aE,aF,aG,.iV D,.iV ((i:Int)+1),aJ,aK],lo,cS hp bu e P S (L.set i d),[]⟩,wr⟩:=fun D d aJ lo wr hD hd he=>
    bW ⟨_,_,aJ,lo,_,rfl,by rw[m5];exact hL,gQ oL hd,hD,by
     rw[gR ac,←hu,fE ac,←hy,ce];have e1:d-u=y+ca-1000000000*D:=by omega
     rw[e1];show WV dB L+dB^i*(y+ca-1000000000*D)+dB^i*1000000000*D=_;grind⟩
   rw[hu]at gL next
   unfold Al;exact gg2
 . subst hs;rw[dN]at hv;unfold Al;exact gg0
variable {cq:Option Nat}
theorem agr {U V:List Int}{i k:Nat}(hj:i+(k+3)<=U.length)(oU:okW dB U)(hV:V.length=k+2)(oV:okW dB V)(hup:WV dB (U.drop (i+1))<WV dB V) :
 ∃P Y S,U=P++(Y++[U[i+k+2]!])++S/\P.length=i/\Y.length=k+2/\okW dB P/\okW dB Y/\okW dB S/\(0<=U[i+k+2]! /\ U[i+k+2]! < 1000000000)/\WV dB S=0/\WV dB (Y++[U[i+k+2]!])=WV dB (U.drop i)/\WV dB (Y++[U[i+k+2]!])<1000000000*WV dB V:=by
 obtain⟨P,hP⟩:∃P,P=U.take i:=⟨_,rfl⟩;obtain⟨X,hX⟩:∃X,X=(U.drop i).take (k+3):=⟨_,rfl⟩;obtain⟨S,hS⟩:∃S,S=U.drop (i+(k+3)):=⟨_,rfl⟩;have eU:U=P++X++S:=by
  rw[hP,hX,hS,d8,←ne,iy,iy]
 have lP:P.length=i:=by rw[hP,b7];omega
 have lX:X.length=k+3:=by rw[hX,b7,l9];omega
 have oX:okW dB X:=by rw[hX];exact dF (jM oU _) _
 have oS:okW dB S:=by rw[hS];exact jM oU _
 have oP:okW dB P:=by rw[hP];exact dF oU _
 have eD:U.drop i=X++S:=by rw[eU,←lP,d8,j4]
 have gj:=cg oU (i:=i) ac;have d1:=pH (b:=dB) (l:=U) (i:=i) ac;have lt:=dg (b:=dB) am oV;rw[hV]at lt;have hpow:(0:Int)<dB^(k+2):=gT am;have hS0:WV dB S=0:=by
  have h1:WV dB (U.drop (i+1))=WV dB ((U.drop (i+1)).take (k+2))+dB^(k+2)*WV dB S:=by
   have:=mC (b:=dB) (l:=U.drop (i+1)) (i:=k+2) (by rw[l9];omega);rwa [ne,show i+1+(k+2)=i+(k+3) by omega,←hS]at this
  have h2:=cB (b:=dB) am (dF (jM oU (i+1)) (k+2));have h3:=cB (b:=dB) am oS;rcases c9 0 (WV dB S) with h|h
  . have:=b5 (show 1<=WV dB S by omega) (b8 hpow);omega
  . omega
 have hXD:WV dB X=WV dB (U.drop i):=by rw[eD,gh,hS0,fG,it]
 have hT:WV dB X<1000000000*WV dB V:=by
  rw[hXD,d1];have gj:0<=U[i]! /\ U[i]! < 1000000000:=gj;show _+1000000000*_<1000000000*_;omega
 have hXt:X[k+2]! = U[i+k+2]! := by
  rw[hX];simp only[i3];rw[List.getElem?_take_of_lt ac,List.getElem?_drop,j9]
 have gt:=cg oX (i:=k+2) ac;have eX:X=X.take (k+2)++[X[k+2]!]:=by
  have h1:X.take (k+2+1)=X:=bS;conv=>lhs;rw[←h1]
  rw[kJ,f7 ac,getElem!_pos X (k+2) ac,ky]
 rw[hXt]at eX gt;refine⟨P,X.take (k+2),S,bS,lP,bS,oP,dF oX _,oS,gt,hS0,bS,bS⟩
theorem ags {L V:List Int}{T q d n:Int}{m:Nat}(hn:n=dB^m)(oL:okW dB L)(_hL:L.length=m)(oV:okW dB V)(hV:V.length=m)(h:WV dB L+n*d=T-q*WV dB V)(hge:T<(q+1)*WV dB V)(hd:¬d<0):d=0/\WV dB L=T-q*WV dB V/\WV dB L<WV dB V:=by
 subst hn;have lV:=dg (b:=dB) am oV;have l0:=cB (b:=dB) am oL;have hp:0<dB^m:=bS;rw[hV]at lV;rw[hZ,g9]at hge;have d0:d=0:=by
  rcases c9 0 d with h'|h'
  . have:=b5 (show 1<=d by omega) (b8 hp);omega
  . omega
 grind
theorem agt {L L2 V:List Int}{T q d n ca:Int}{m:Nat}(hn:n=dB^m)(oL:okW dB L)(hL:L.length=m)(oL2:okW dB L2)(hL2:L2.length=m)(oV:okW dB V)(hV:V.length=m)(h:WV dB L+n*d=T-q*WV dB V)(hle:(q-1)*WV dB V<=T)(hT0:0<=T)(hd:d<0)(q0:0<=q)(h2:WV dB L2+n*ca=WV dB L+WV dB V):1<=q/\d+ca=0/\WV dB L2=T-(q-1)*WV dB V/\WV dB L2<WV dB V:=by
 subst hn;have lL:=dg (b:=dB) am oL;have lL2:=dg (b:=dB) am oL2;have lV:=dg (b:=dB) am oV;have l0:=cB (b:=dB) am oL2;have hp:0<dB^m:=gT am;rw[hV]at lV;rw[hL]at lL;rw[hL2]at lL2;have hneg:T-q*WV dB V<0:=by
  have:=b5 (show d <= -1 by omega) (b8 hp);omega
 have q1:1<=q:=by
  rcases c9 0 q with h'|h'
  . omega
  . obtain rfl:q=0:=by omega
    rw[Int.zero_mul]at hneg;omega
 rw[mp,g9]at hle ⊢;have hs:WV dB L2+dB^m*(d+ca)=T-q*WV dB V+WV dB V:=by rw[i9];omega
 have d0:d+ca=0:=by
  rcases c9 0 (d+ca) with h'|h'
  . have:=b5 (show 1<=d+ca by omega) (b8 hp);omega
  . rcases c9 (d+ca) 0 with h''|h''
    . have:=b5 (show d+ca <= -1 by omega) (b8 hp);omega
    . omega
 rw[d0,fG,it]at hs;exact⟨q1,d0,ac,ac⟩
structure PE (M:aw):Prop where
 ft:M.FT=FT
 dU:∀ars h,M.ext 242 ars h=none
 PF:∀(U V:List Int) (bu i k:Nat) cu c2 e h (T D p:Int),h.at bu=some (.cells (an U) e)->V.length=k+2->i+k+2<U.length->U.length<100000000->ja U[i+k+2]! U[i+k+1]! U[i+k]! V[k+1]! V[k]! T D p->∃q:Int,(0<=q/\q<1000000000)/\T<(q+1)*D/\(q-1)*D<=T/\M.ext 243 [.sl bu 0 U.length 1 cu,.vs (an V) V.length c2,.iV i] h=some ⟨.iV q,h,[]⟩
theorem agu {hp:aa}{b:Nat}{e:TypeId}{P S X U:List Int}(hU:hp.at b=some (.cells (an U) e))(h:U=P++X++S):cS hp b e P S X=hp:=by
 unfold cS;rw[←h];exact Ki hU
theorem agv {hp:aa}{b:Nat}{e:TypeId}{P S X:List Int}(hl:b<hp.length):(cS hp b e P S X).at b=some (.cells (an (P++X++S)) e):=eu hl
theorem GA {hp:aa}{b c:Nat}{e:TypeId}{P S X:List Int}(h:b≠c):(cS hp b e P S X).at c=hp.at c:=yc h
theorem GB {hp:aa}{b:Nat}{e:TypeId}{P S X:List Int}{t:Int}:cS hp b e P (t::S) X=cS hp b e (P++X) S [t]:=by
 unfold cS;simp
section
variable {t m:Nat} {x y:ay} {l:List aX} {pe:List AV} {lo:List (Nat×AV)} {df wr:List Nat} {v d:Int} {Q:aq->Prop}
theorem amx (hx:(St.mk pe lo (cS hp bu e P S [v]) df).ae x=some (.ptr bu m))(hl:bu<hp.length)(hm:m=P.length)
 (h:WO M l ⟨⟨pe,(t,.iV v)::lo,cS hp bu e P S [v],df⟩,wr⟩ Q):WO M (⟨.l t,.load 1 false x,none⟩::l) ⟨⟨pe,lo,cS hp bu e P S [v],df⟩,wr⟩ Q:=
 amv (i:=0) hx hl i4 hm h
theorem amy (hx:(St.mk pe lo (cS hp bu e P S [v]) df).ae x=some (.ptr bu m))(hy:(St.mk pe lo (cS hp bu e P S [v]) df).ae y=some (.iV d))(hl:bu<hp.length)(hm:m=P.length)
 (h:WO M l ⟨⟨pe,lo,cS hp bu e P S [d],df⟩,bu::wr⟩ Q):WO M (⟨.no,.store 1 x y,none⟩::l) ⟨⟨pe,lo,cS hp bu e P S [v],df⟩,wr⟩ Q:=
 amw (i:=0) hx hy hl i4 hm h
end
theorem agw (C:PE M){k N bu bq bf:Nat}{V U0:List Int}{fb:ba}(hbq:bu≠bq)(hbf:bu≠bf/\bq≠bf)(lN:N<100000000)(hN:k+3<=N)(hV:V.length=k+2)(oV:okW dB V)(hv:500000000<=V[k+1]!)(hU0:U0.length=N)(oU0:okW dB U0)(hup:WV dB (U0.drop (N-(k+2)))<WV dB V){Q:Ex->aq->Prop}(a0 a1 a2 a3 a4 a5 a6:AV)
 (hQ:∀U L K aC aD aE aF aG aH aI aJ aK lo wr,U.length=N->okW dB U->L.length=N-(k+2)->okW dB L->WV dB U0=WV dB V*WV dB L+WV dB U->WV dB U<WV dB V->aa.at K bu=some (.cells (an U) 3)->aa.at K bq=some (.cells (an L) 3)->aa.at K bf=some fb ->
   Q (.exit 2) ⟨⟨[a0,a1,a2,a3,a4,a5,a6,.vs (an V) V.length c2,.iV V.length,.sl bu 0 N 1 cu,.sl bq 0 (N-(k+2)) 1 cq,.iV (-1),aC,aD,aE,aF,aG,aH,aI,aJ,aK],lo,K,[]⟩,wr⟩)
 (aC aD aE aF aG aH aI aJ aK:AV) (K:aa) (lo:List (Nat×AV)) (wr:List Nat) (hKu:K.at bu=some (.cells (an U0) 3)) (hKq:K.at bq=some (.cells (an (ci (N-(k+2)) 0)) 3)) (hKf:K.at bf=some fb) (j:Int) (hj:j=(N:Int)-(k+3)) :
 W M (.loop Am) ⟨⟨[a0,a1,a2,a3,a4,a5,a6,.vs (an V) V.length c2,.iV V.length,.sl bu 0 N 1 cu,.sl bq 0 (N-(k+2)) 1 cq,.iV j,aC,aD,aE,aF,aG,aH,aI,aJ,aK],lo,K,[]⟩,wr⟩ Q:=by
 refine W.gP (fun t s=>∃U L K iv aC aD aE aF aG aH aI aJ aK lo wr,s=⟨⟨[a0,a1,a2,a3,a4,a5,a6,.vs (an V) V.length c2,.iV V.length,.sl bu 0 N 1 cu,.sl bq 0 (N-(k+2)) 1 cq,.iV iv,aC,aD,aE,aF,aG,aH,aI,aJ,aK],lo,K,[]⟩,wr⟩ /\
  iv=(t:Int)-1/\t<=N-(k+2)/\U.length=N/\okW dB U/\L.length=N-(k+2)/\okW dB L/\(∀k,k<t->L[k]! = 0)/\WV dB U0=WV dB V*WV dB L+WV dB U/\WV dB (U.drop t)<WV dB V/\aa.at K bu=some (.cells (an U) 3)/\aa.at K bq=some (.cells (an L) 3)/\aa.at K bf=some fb) (fun t s ⟨U,L,K,iv,aC,aD,aE,aF,aG,aH,aI,aJ,aK,lo,wr,hs,hiv,ht,hU,oU,hL,oL,hz,hv1,hv2,hKu,hKq,hKf⟩=>?_) (m:=N-(k+2))
  ⟨_,_,_,_,_,_,_,_,_,_,_,_,_,_,_,rfl,ac,b9 _,hU0,oU0,be,lI am,fun k _=>mE,by rw[lJ,fG,Int.zero_add],hup,hKu,hKq,hKf⟩
 subst hs;cases t with
 | zero=>
  obtain rfl:iv = -1:=by omega
  unfold Am;exact gg0
 | succ i=>
  obtain rfl:iv=(i:Int):=by omega
  obtain⟨P,Y,S,eU,lP,lY,oP,oY,oS,gt,hS0,hXD,hT⟩:=agr (i:=i) ac oU hV oV hv2;obtain⟨t2,ht2⟩:∃t2,t2=U[i+k+2]! := ⟨_,rfl⟩;rw[←ht2]at eU gt hXD hT;have oX:okW dB (Y++[t2]):=jV oY (fun x hx=>by grind);have lX:(Y++[t2]).length=k+3:=by simp[lY]
  have K3:=ja.of lX hV oX oV hv hT;have gX:∀m,m<k+3->(Y++[t2])[m]! = U[i+m]! := fun m hm=>by
   have:=En (P:=P) (X:=Y++[t2]) (S:=S) (i:=m) ac;rw[←eU,lP]at this;omega
  rw[gX _ ac,gX _ ac,gX _ ac,←j9,←j9]at K3;obtain⟨q,q0,hge,hle,q243⟩:=C.PF U V bu i k cu c2 3 K _ _ _ hKu hV ac ac K3;rw[hU]at q243;have hT0:0<=WV dB (Y++[t2]):=cB am oX;have hkl:=cJ hKu;have hkq:=cJ hKq;have hself:cS K bu 3 P (t2::S) Y=K:=agu hKu bS;have vX:WV dB (Y++[t2])=WV dB Y+dB^V.length*t2:=by rw[gh,lY,hV];simp[WV]
  have lYV:Y.length=V.length:=by omega
  have hPN:P.length+V.length<N:=by omega
  have eI:0+((i:Int)).toNat*1=i:=by omega
  have hiP:(i:Int)=(P.length:Int):=by omega
  have fin:∀(q' d:Int) L2 K' aC aD aE aF aG aH aI aJ aK lo wr,(0<=q'/\q'<1000000000)->L2.length=V.length->okW dB L2->d=0->WV dB L2=WV dB (Y++[t2])-q'*WV dB V->WV dB L2<WV dB V->K'=(cS K bu 3 (P++L2) S [d]).put bq (some (.cells (an (L.set i q')) 3)) ->
   LI (fun s=>∃m',m'<i+1/\∃U L K iv aC aD aE aF aG aH aI aJ aK lo wr,s=⟨⟨[a0,a1,a2,a3,a4,a5,a6,.vs (an V) V.length c2,.iV V.length,.sl bu 0 N 1 cu,.sl bq 0 (N-(k+2)) 1 cq,.iV iv,aC,aD,aE,aF,aG,aH,aI,aJ,aK],lo,K,[]⟩,wr⟩ /\
    iv=(m':Int)-1/\m'<=N-(k+2)/\U.length=N/\okW dB U/\L.length=N-(k+2)/\okW dB L/\(∀k,k<m'->L[k]! = 0)/\WV dB U0=WV dB V*WV dB L+WV dB U/\WV dB (U.drop m')<WV dB V/\aa.at K bu=some (.cells (an U) 3)/\aa.at K bq=some (.cells (an L) 3)/\aa.at K bf=some fb) Q .normal ⟨⟨[a0,a1,a2,a3,a4,a5,a6,.vs (an V) V.length c2,.iV V.length,.sl bu 0 N 1 cu,.sl bq 0 (N-(k+2)) 1 cq,.iV ((P.length:Int)-1),aC,aD,aE,aF,aG,aH,aI,aJ,aK],lo,K',[]⟩,wr⟩:=fun q' d L2 K' aC aD aE aF aG aH aI aJ aK lo wr hq' hL2 oL2 hd vL2 hlt hK'=>by
   subst hd;subst hK';have hl1:bu<(cS K bu 3 (P++L2) S [0]).length:=by rw[Pr];exact hkl
   have hl2:bq<(cS K bu 3 (P++L2) S [0]).length:=by rw[Pr];exact hkq
   have e0:WV dB ([0]++S)=0:=by rw[List.singleton_append,WV,hS0];rfl
   have vU':WV dB (P++L2++[0]++S)=WV dB P+dB^i*WV dB L2:=by
    rw[d8,gh,e0,fG,it,gh,lP]
   have vU:WV dB U=WV dB P+dB^i*WV dB (Y++[t2]):=by
    rw[eU,gh,hS0,fG,it,gh,lP]
   have lU':(P++L2++[0]++S).length=N:=by
    have h1:=congrArg List.length eU;simp only[dY,jD,m6]at h1 ⊢;omega
   refine bW ⟨i,lC i,P++L2++[0]++S,L.set i q',_,_,aC,aD,aE,aF,aG,aH,aI,aJ,aK,lo,wr,rfl,ac,ac,lU',jV (jV (jV oP oL2) (fun x hx=>by grind)) oS,bS,gQ oL hq',fun k hk=>by rw[jt ac];grind,?_,?_,?_,?_,?_⟩
   . rw[gR ac,hz i ac,k9,vU',hv1,vU,vL2,i9,Int.mul_sub];grind
   . rw[←lP,d8,d8,j4,gh,e0,fG,it];exact hlt
   . rw[yc (Ne.symm hbq)];rw[agv hkl]
   . exact eu hl2
   . rw[yc hbf.2,GA hbf.1];exact hKf
  rw[hiP]at q243;have hQK:=hself;unfold Am;rw[hiP];repeat' first|(apply agV;rfl;rfl)|(apply acq;rfl;rfl;first|exact q243)|refine gc ?_|(intro _;omega)|intro _
  all_goals try omega
  rw[←hself];refine agp (c2:=c2) (cu:=cu) hkl lN hPN lYV oY oV q q0 _ _ _ _ _ _ _ _ _ _ _ _ _ _ _ _ (fun L1 bo aF aG lo wr hL1 oL1 hbo hv3=>?_);have hmv:=GB (hp:=K) (b:=bu) (e:=3) (P:=P) (S:=S) (X:=L1) (t:=t2);rw[hmv];have eq1:WV dB L1+dB^V.length*(t2-bo)=WV dB (Y++[t2])-q*WV dB V:=by
   rw[hv3,vX,Int.mul_sub];omega
  have lPL:(P++L1).length=P.length+V.length:=by rw[dY,hL1]
  by_cases hd:t2-bo<0
  . refine gg4 ?_;have hmv2:=GB (hp:=K) (b:=bu) (e:=3) (P:=P) (S:=S) (X:=L1) (t:=t2-bo);rw[←hmv2];refine agq (c2:=c2) (cu:=cu) hkl lN hPN hL1 oL1 oV _ _ _ _ _ _ _ _ _ _ _ _ _ _ _ _ _ (fun L2 ca aJ lo wr hL2 oL2 hca hv4=>?_);have hmv3:=GB (hp:=K) (b:=bu) (e:=3) (P:=P) (S:=S) (X:=L2) (t:=t2-bo);rw[hmv3];have lPL2:(P++L2).length=P.length+V.length:=by rw[dY,hL2]
    obtain⟨q1,hz0,vL2,hlt⟩:=agt rfl oL1 hL1 oL2 hL2 oV rfl eq1 hle hT0 hd q0.1 hv4;have hq2:(cS K bu 3 (P++L2) S [t2-bo+ca]).at bq=some (.cells (an L) 3):=by rw[GA hbq];exact hKq
    have eP:0+((P.length:Int)).toNat*1=i:=by omega
    exact gg10
  . obtain⟨hz0,vL1,hlt⟩:=ags rfl oL1 hL1 oV rfl eq1 hge hd;have hq2:(cS K bu 3 (P++L1) S [t2-bo]).at bq=some (.cells (an L) 3):=by rw[GA hbq];exact hKq
    have eP:0+((P.length:Int)).toNat*1=i:=by omega
    exact gg10
theorem GC {h:aa}(l:List Int):tv h (an l):=xC (fun _=>.cons (.atom rfl) .nil) l
theorem Ar {h:aa}{l:List Int}{n:Nat}:cK h (.vs (an l) n cap) (.vs (an l) n cap):=cK.nK (GC l)
theorem GD {h:aa}{b n:Nat}{L:List Int}{e:TypeId}(hb:h.at b=some (.cells (an L) e))(hn:n<=L.length):cK h (.sl b 0 n 1 cap) (.vs (an (L.take n)) (L.take n).length none):=by
 have hl:(L.take n).length=n:=by rw[b7];omega
 rw[hl];refine .sl (m:=an (L.take n)) hb ?_ rfl fun i x y hx hy=>?_
 . have:=ji (f:=iC) (esz:=1) (fun _=>rfl) (l:=L) (i:=0) (n:=n) ac;simpa using this
 . rw[hx]at hy;cases hy;obtain⟨z,hz⟩:∃z,x = .iV z:=by
    have hm:=List.mem_of_getElem? hx;have:∀l:List Int,∀x∈an l,∃z,x = .iV z:=by
     intro l;induction l with
     | nil=>intro x hx;cases hx
     | cons a l ih=>
      intro x hx;have:an (a::l) = .iV a::an l:=rfl;rw[this]at hx;rcases List.mem_cons.1 hx with rfl|hx
      . exact⟨a,rfl⟩
      . exact ih x hx
    exact this _ _ hm
   subst hz;exact .atom rfl
structure PG (M:aw):Prop extends PE M where
 uT:∀(a b:List Int) c1 c2 h,okW dB a->okW dB b->aN a->aN b->a.length<1000000000->b.length<1000000000->M.ext 218 [.vs (an a) a.length c1,.vs (an b) b.length c2] h=some ⟨.iV (bz (WV dB a-WV dB b)),h,[]⟩
 rX:∀(x y:AV) (a b:List Int) c1 c2 h,cK h x (.vs (an a) a.length c1)->cK h y (.vs (an b) b.length c2)->okW dB a->okW dB b->a.length<10000000->b.length<10000000->0<a.length+b.length->∃r,okW dB r/\aN r/\WV dB r=WV dB a*WV dB b/\M.ext 197 [x,y] h=some ⟨.vs (an r) r.length none,h,[]⟩
 GF:∀(x:AV) (a:List Int) c h (d:Int),cK h x (.vs (an a) a.length c)->okW dB a->a.length<10000000->(0<d/\d<=1000000000)->∃q,okW dB q/\aN q/\WV dB q=WV dB a/d/\M.ext 241 [x,.iV d] h=some ⟨.au [.vs (an q) q.length none,.iV (WV dB a%d)],h,[]⟩
theorem agx {t f r:Int}(ht:1<=t/\t<1000000000)(hf:(t+1)*f+r=1000000000)(hr:0<=r/\r<t+1):1<=f/\f<=500000000/\500000000<=t*f:=by
 have e:(t+1)*f=t*f+f:=by rw[hZ,g9]
 have f0:1<=f:=by
  rcases c9 f 1 with h|h
  . have:=b5 (show f<=0 by omega) (show 0<=t+1 by omega);rw[fG]at this;omega
  . exact h
 have h2:2*f<=(t+1)*f:=b6 ac ac;refine⟨f0,ac,?_⟩;by_cases hbig:500000000<=t
 . have:=b5 f0 (show 0<=t by omega);omega
 . have f2:2<=f:=by
    rcases c9 f 2 with h|h
    . obtain rfl:f=1:=by omega
      omega
    . exact h
   have h3:=ip (show 0<=t-1 by omega) (show 0<=f-2 by omega);have e3:(t-1)*(f-2)=t*f-2*t-f+2:=by grind
   rw[e3]at h3;by_cases r2:2<=r
   . omega
   . by_cases r0:r=0
     . subst r0;omega
     . have r1:r=1:=by omega
       subst r1;by_cases t1:t=1
       . subst t1;omega
       . have h4:3*f<=(t+1)*f:=b6 ac ac;omega
theorem agy {b V:List Int}{k:Nat}{f:Int}(hb:b.length=k+2)(ob:okW dB b)(hf:1<=f)(hth:500000000<=b[k+1]! * f)(htf:(b[k+1]! + 1)*f<=1000000000)(oV:okW dB V)(nV:aN V)(vV:WV dB V=WV dB b*f):V.length=k+2/\500000000<=V[k+1]! := by
 have e0:=jQ (b:=dB) (l:=b) (n:=k+1) ac;have l0:=cB (b:=dB) am (dF ob (k+1));have l1:=dg (b:=dB) am (dF ob (k+1));rw[b7,j0 ac]at l1;have hP:0<dB^(k+1):=gT am;obtain⟨t,ht⟩:∃t,t=b[k+1]! := ⟨_,rfl⟩;rw[←ht]at e0 hth htf;have m1:dB^(k+1)*500000000<=WV dB V:=by
  have h1:=b5 hth (b8 hP);have h2:=ip l0 (show 0<=f by omega);rw[vV,e0,hZ,f8];omega
 have m2:WV dB V<dB^(k+1)*1000000000:=by
  have h1:=b5 htf (b8 hP);have h2:=c7 l1 (show 0<f by omega);rw[hZ,g9,i9]at h1;rw[vV,e0,hZ,f8];omega
 have hPs:dB^(k+2)=dB^(k+1)*1000000000:=ce _ _;have hlen:V.length<=k+2:=gk (b:=dB) am oV nV (by rw[hPs];exact m2);have hlen2:k+2<=V.length:=by
  rcases Nat.lt_or_ge V.length (k+2) with h|h
  . have h1:=dg (b:=dB) am oV;have h2:=gS (b:=dB) am (show V.length<=k+1 by omega);omega
  . exact h
 have hl:V.length=k+2:=by omega
 refine⟨hl,?_⟩;have e1:=jQ (b:=dB) (l:=V) (n:=k+1) ac;have g1:=dg (b:=dB) am (dF oV (k+1));rw[b7,j0 ac]at g1;have:dB^(k+1)*500000000<dB^(k+1)*(V[k+1]! + 1):=by rw[i9,Int.mul_one];omega
 have:=i8 this (b8 hP);omega
theorem agz {a b U:List Int}{k:Nat}{f:Int}(hf:0<f)(ha:k+2<=a.length)(oa:okW dB a)(hb:b.length=k+2)(ob:okW dB b)(nb:aN b)(hU:U.length=a.length+1)(oU:okW dB U)(vU:WV dB U=WV dB a*f) :
 WV dB (U.drop (a.length+1-(k+2)))<WV dB b*f:=by
 have e1:=mC (b:=dB) (l:=U) (i:=a.length+1-(k+2)) ac;have l0:=cB (b:=dB) am (dF oU (a.length+1-(k+2)));have l1:=dg (b:=dB) am oa;have hg:=ru (b:=dB) am ob nb ac;rw[hb,show k+2-1=k+1 by omega]at hg;have hP:0<dB^(a.length+1-(k+2)):=gT am;have ep:dB^a.length=dB^(a.length+1-(k+2))*dB^(k+1):=by rw[←Int.pow_add,show a.length+1-(k+2)+(k+1)=a.length by omega]
 have m1:=c7 l1 hf;have m2:=b6 hg (b8 hf);rw[ep,f8]at m1;have:dB^(a.length+1-(k+2))*WV dB (U.drop (a.length+1-(k+2)))<dB^(a.length+1-(k+2))*(dB^(k+1)*f):=by omega
 have:=i8 this (b8 hP);omega
theorem agA {a A:List Int}{f:Int}(hf:1<=f/\f<=500000000)(oa:okW dB a)(na:aN a)(ha:a≠[])(oA:okW dB A)(nA:aN A)(vA:WV dB A=WV dB a*f):A≠[]/\A.length<=a.length+1:=by
 have p:=(jN (b:=dB) am oa na).2 ha;have hp:0<WV dB a*f:=j3 p ac;refine⟨fun e=>by rw[e]at vA;simp[WV]at vA;omega,gk (b:=dB) am oA nA ?_⟩;have l1:=dg (b:=dB) am oa;have h1:=c7 l1 (show 0<f by omega);have h2:=b5 (show f<=1000000000 by omega) (b8 (gT (n:=dB) (m:=a.length) am));have h3:dB^(a.length+1)=dB^a.length*1000000000:=ce _ _;omega
theorem agB {a A:List Int}(la:a.length<1000000)(hA:A.length<=a.length+1){Q:Ex->aq->Prop}{fb:ba}(a1 a2 a3 a4 a5 a6 a7 a8 aA aB aC aD aE aF aG aH aI aJ aK:AV)
 (hQ:∀o K lo wr,bj iC 1 3 K o (A++ci (a.length+1-A.length) 0) [0]->aa.at K 0=some fb->Q (.exit 0) ⟨⟨[.vs (an a) a.length c1,a1,a2,a3,a4,a5,a6,a7,a8,o,aA,aB,aC,aD,aE,aF,aG,aH,aI,aJ,aK],lo,K,[]⟩,wr⟩)
 (o:AV) (K:aa) (lo:List (Nat×AV)) (wr:List Nat) (ho:bj iC 1 3 K o A [0]) (hK:K.at 0=some fb) :
 W M (.loop Aj) ⟨⟨[.vs (an a) a.length c1,a1,a2,a3,a4,a5,a6,a7,a8,o,aA,aB,aC,aD,aE,aF,aG,aH,aI,aJ,aK],lo,K,[]⟩,wr⟩ Q:=by
 refine W.gP (fun m st=>∃d o K lo wr,st=⟨⟨[.vs (an a) a.length c1,a1,a2,a3,a4,a5,a6,a7,a8,o,aA,aB,aC,aD,aE,aF,aG,aH,aI,aJ,aK],lo,K,[]⟩,wr⟩/\A.length+d+m=a.length+1/\bj iC 1 3 K o (A++ci d 0) [0]/\aa.at K 0=some fb)
  (fun m st ⟨d,o,K,lo,wr,hst,hm,ho,hK⟩=>?_) (m:=a.length+1-A.length) ⟨0,o,K,lo,wr,rfl,ac,bS,hK⟩
 subst hst;have hlen:(A++ci d (0:Int)).length=A.length+d:=by simp
 have hsl:∃b cp,o = .ab/\A.length+d=0\/o = .sl b 0 (A++ci d (0:Int)).length 1 cp:=by
  rcases ho with ⟨h1,h2⟩|⟨c,cp,_,h2,_,_⟩
  . exact⟨0,none,.inl ⟨h2,bS⟩⟩
  . grind
 have hroom:((A++ci d (0:Int)).length+1)*8<=cz:=by rw[hlen];unfold cz;omega
 have hK1:=cJ hK;have next:∀H o' lo w',bj iC 1 3 H o' (A++ci d 0++[0]) [0]->aa.at H 0=some fb->0<m->LI (fun st=>∃m',m'<m/\∃d o K lo wr,st=⟨⟨[.vs (an a) a.length c1,a1,a2,a3,a4,a5,a6,a7,a8,o,aA,aB,aC,aD,aE,aF,aG,aH,aI,aJ,aK],lo,K,[]⟩,wr⟩/\A.length+d+m'=a.length+1/\bj iC 1 3 K o (A++ci d 0) [0]/\aa.at K 0=some fb) Q .normal ⟨⟨[.vs (an a) a.length c1,a1,a2,a3,a4,a5,a6,a7,a8,o',aA,aB,aC,aD,aE,aF,aG,aH,aI,aJ,aK],lo,H,[]⟩,w'⟩:=fun H o' lo w' h1 h2 h3=>
  bW ⟨m-1,ac,d+1,o',H,lo,w',rfl,ac,by rw[d8,←List.replicate_succ']at h1;exact h1,h2⟩
 have stop:∀lo wr,m=0->Q (.exit 0) ⟨⟨[.vs (an a) a.length c1,a1,a2,a3,a4,a5,a6,a7,a8,o,aA,aB,aC,aD,aE,aF,aG,aH,aI,aJ,aK],lo,K,[]⟩,wr⟩:=bS;obtain⟨b,cp,⟨rfl,hz⟩|rfl⟩:=hsl
 . unfold Aj;exact gg18
 . unfold Aj;repeat' first|(refine bj.app (f:=iC) (m:=[(0:Int)]) (S:=[0]) (fun _=>rfl) (fun _=>rfl) am (ho.grow [_]) be rfl rfl (Sl.gN (f:=iC) (esz:=1) (l:=[(0:Int)]) (e:=3) (fun _=>rfl) cC rfl) hroom (fun H w' o' ho' hk hlen=>?_))|(apply abd;rfl;rfl)|refine gc ?_|(intro _;omega)|intro _
   all_goals try omega
   all_goals first|exact next _ _ _ _ ho' (hk 0 _ be (cE hK)) ac|grind
theorem agC {h:aa}{b m:Nat}{U:List Int}{e:TypeId}(hb:h.at b=some (.cells (an U) e))(hm:m<=U.length):cK h (bE b m none) (.vs (an (U.take m)) (U.take m).length none):=by
 rcases i6 m with rfl|h0
 . rw[uP];exact Ar (l:=[]) (n:=0)
 . rw[show bE b m none = .sl b 0 m 1 none from if_pos h0];exact GD hb hm
theorem kn.mix {d1:Option Nat}{b1:Nat}{L1 R:List Int}{e1:TypeId}{hp:aa}{n1:Nat}(h1:hp.at b1=some (.cells (an L1) e1))(hn1:n1<=L1.length) :
 kn (aW [bE b1 (aQ (L1.take n1)) d1,.vs (an R) R.length none]) (if (aW [bE b1 (aQ (L1.take n1)) d1,.vs (an R) R.length none]).top<=0 then [] else hp) (L1.take (aQ (L1.take n1))) R:=by
 obtain⟨x,hx⟩:∃x,x=bE b1 (aQ (L1.take n1)) d1:=⟨_,rfl⟩;obtain⟨hh,hhh⟩:∃hh,hh=(if (aW [x,.vs (an R) R.length none]).top<=0 then [] else hp):=⟨_,rfl⟩;have et:(aW [x,.vs (an R) R.length none]).top=max x.top (max (bc (an R)) 0):=rfl;rw[fF]at et;obtain⟨v1,f1,t1,k1⟩:=Gx (cap:=d1) h1 hn1 hh bS;rw[←hx,←hhh];rw[←hx]at f1;refine⟨.au [v1,.vs (an R) R.length none],_,_,.au rfl (fun i a b ha hb=>?_),?_,?_,.inl rfl,.inl rfl⟩
 . match i with
   | 0=>grind
   | 1=>cases ha;cases hb;exact .same (fF R)
   | i+2=>cases ha
 . show max v1.top (max (bc (an R)) 0)=0;rw[t1,fF];rfl
 . simp only[bL,cG,k1,ql]
theorem kn.agD {d1:Option Nat}{b1:Nat}{L1 R:List Int}{e1:TypeId}{hp:aa}{n1:Nat}(h1:hp.at b1=some (.cells (an L1) e1))(hn1:n1<=L1.length) :
 kn (aW [.vs (an R) R.length none,bE b1 (aQ (L1.take n1)) d1]) (if (aW [.vs (an R) R.length none,bE b1 (aQ (L1.take n1)) d1]).top<=0 then [] else hp) R (L1.take (aQ (L1.take n1))):=by
 obtain⟨x,hx⟩:∃x,x=bE b1 (aQ (L1.take n1)) d1:=⟨_,rfl⟩;obtain⟨hh,hhh⟩:∃hh,hh=(if (aW [.vs (an R) R.length none,x]).top<=0 then [] else hp):=⟨_,rfl⟩;have et:(aW [.vs (an R) R.length none,x]).top=max (bc (an R)) (max x.top 0):=rfl;rw[fF]at et;obtain⟨v1,f1,t1,k1⟩:=Gx (cap:=d1) h1 hn1 hh bS;rw[←hx,←hhh];rw[←hx]at f1;refine⟨.au [.vs (an R) R.length none,v1],_,_,.au rfl (fun i a b ha hb=>?_),?_,?_,.inl rfl,.inl rfl⟩
 . match i with
   | 0=>cases ha;cases hb;exact .same (fF R)
   | 1=>grind
   | i+2=>cases ha
 . show max (bc (an R)) (max v1.top 0)=0;rw[t1,fF];rfl
 . simp only[bL,cG,k1,ql]
theorem PH {L:List Int}{n:Nat}:L.take (aQ (L.take n))=(L.take n).take (aQ (L.take n)):=by
 have h:=iW (l:=L.take n);grind
theorem anx {t:Nat}{x y:ay}{l:List aX}{pe:List AV}{lo:List (Nat×AV)}{hp:aa}{df wr:List Nat}{a d v:Int}{Q:aq->Prop}(hx:(St.mk pe lo hp df).ae x=some (.iV a))(hy:(St.mk pe lo hp df).ae y=some (.iV d))(ha:0<=a/\a<9223372036854775808)(hd:0<d)(hv:a/d=v)
 (h:WO M l ⟨⟨pe,(t,.iV v)::lo,hp,df⟩,wr⟩ Q):WO M (⟨.l t,.bin .quo x y,none⟩::l) ⟨⟨pe,lo,hp,df⟩,wr⟩ Q:=by
 subst hv;exact alS hx hy ha hd h
theorem PI (C:PG M)(a b:List Int)(oa:okW dB a)(ob:okW dB b)(na:aN a)(nb:aN b)(la:a.length<100000)(lb:b.length<100000)(hb:b≠[]):Ps M 195 [.vs (an a) a.length c1,.vs (an b) b.length c2] (WV dB a) (WV dB b):=by
 have a0:=cB (b:=dB) am oa;have b0:=(jN (b:=dB) am ob nb).2 hb;have q218:=fun h=>C.uT a b c1 c2 h oa ob na nb ac ac
 refine agd (by rw[C.ft];exact Ph) be ?_;unfold Gs;simp only[enter];by_cases hlt:WV dB a<WV dB b
 . have e:bz (WV dB a-WV dB b) = -1:=if_pos ac;rw[e]at q218;repeat' first|(apply abd;rfl;rfl)|refine gd0 ?_|refine gc ?_|(intro _;omega)|intro _
   all_goals try omega
   exact⟨.inr rfl,rfl,_,rfl,[],a,⟨jf,kA,(Int.ediv_eq_zero_of_lt a0 hlt).symm⟩,⟨oa,na,(Int.emod_eq_of_lt a0 hlt).symm⟩,kn.less⟩
 obtain⟨g,hg⟩:∃g,g=bz (WV dB a-WV dB b):=⟨_,rfl⟩;have g0:0<=g:=by
  rw[hg];unfold bz;split
  . omega
  . omega
 rw[←hg]at q218;have lb0:b.length≠0:=bS;by_cases hl1:b.length=1
 . have t0:=mD nb ac;rw[hl1,show 1-1=0 by omega]at t0;have gb:=cg ob (i:=0) ac;have vb:WV dB b=b[0]! := by
    have:=jQ (b:=dB) (l:=b) (n:=0) ac;simpa[WV] using this
   have gb2:0<b[0]! /\ b[0]! < 1000000000:=⟨ac,gb.2⟩;obtain⟨Q,oQ,nQ,vQ,q241⟩:=C.GF (.vs (an a) a.length c1) a c1 [] b[0]! Ar oa ac ⟨gb2.1,ac⟩;have r0:=f9 (WV dB a) ac;have r1:=fm (WV dB a) gb2.1;obtain⟨re,hre⟩:∃re,re=WV dB a%b[0]! := ⟨_,rfl⟩;rw[←hre]at q241 r0 r1;have e0:b[(0:Int).toNat]! = b[0]! := rfl;have q2:CT M (iY 242) [.sl 0 0 1 1 (some 1)] [some (.cells (an [re]) 3)] ⟨bE 0 (aQ ([re].take 1)) (some 1),[some (.cells (an [re]) 3)],[]⟩:=qm (cap:=some 1) C.ft C.dU rfl i4 (b9 _) am be;repeat' first|(apply abd;rfl;rfl)|(apply aeJ;rfl;rfl)|(apply acq;rfl;rfl;first|exact q218 _|exact q241)|(apply afJ;rfl;rfl;first|exact q2)|refine gc ?_|(intro _;omega)|intro _
   all_goals try omega
   have hout:=kn.agD (d1:=some 1) (b1:=0) (L1:=[re]) (R:=Q) (e1:=3) (hp:=[some (.cells (an [re]) 3)]) (n1:=1) rfl (b9 _);refine⟨.inr rfl,rfl,_,rfl,Q,_,⟨oQ,nQ,bS⟩,?_,hout⟩;rw[c8 (show [re].length<=1 from b9 _)];obtain⟨h1,h2,h3⟩:=qk (L:=[re]) (fun x hx=>by grind);exact⟨h1,h2,by rw[h3,vb,←hre];simp[WV]⟩
 obtain⟨k,hk⟩:∃k,b.length=k+2:=⟨b.length-2,ac⟩;have ha:k+2<=a.length:=by
  rcases Nat.lt_or_ge a.length (k+2) with h|h
  . exact absurd (pJ (b:=dB) am oa ob nb ac) hlt
  . exact h
 have ane:a≠[]:=bS;have t0:=mD nb ac;rw[show b.length-1=k+1 by omega]at t0;have gt:=cg ob (i:=k+1) ac;obtain⟨t,ht⟩:∃t,t=b[k+1]! := ⟨_,rfl⟩;rw[←ht]at t0 gt;have gt:0<=t/\t<1000000000:=gt;have htb:b[((b.length:Int)-1).toNat]! = t:=by rw[show ((b.length:Int)-1).toNat=k+1 by omega];exact ht.symm
 obtain⟨f,hf⟩:∃f,f=1000000000/(t+1):=⟨_,rfl⟩;have hfe:=iz 1000000000 (t+1);rw[←hf]at hfe;obtain⟨f1,f2,f3⟩:=agx (t:=t) (f:=f) ⟨ac,gt.2⟩ hfe ⟨f9 _ ac,fm _ ac⟩;have f4:(t+1)*f<=1000000000:=by
  have:=f9 1000000000 (show t+1≠0 by omega);omega
 have of:okW dB [f]:=fun x hx=>by rw[dO.1 hx];grind
 have vf:WV dB [f]=f:=by simp[WV]
 obtain⟨V,oV,nV,vV,q197b⟩:=C.rX (.vs (an b) b.length c2) (.sl 0 0 1 1 (some 1)) b [f] c2 none [some (.cells (an [f]) 3)] Ar (GD (L:=[f]) (n:=1) (e:=3) rfl (b9 _)) ob of ac be ac;rw[vf]at vV;rw[ht]at f3 f4;obtain⟨lV,hvt⟩:=agy hk ob f1 f3 f4 oV nV vV;obtain⟨A,oA,nA,vA,q197a⟩:=C.rX (.vs (an a) a.length c1) (.sl 0 0 1 1 (some 1)) a [f] c1 none [some (.cells (an [f]) 3),some (.cells (an []) 3)] Ar (GD (L:=[f]) (n:=1) (e:=3) rfl (b9 _)) oa of ac be ac;rw[vf]at vA;obtain⟨Ane,lA⟩:=agA ⟨f1,f2⟩ oa na ane oA nA vA;rw[←ht]at f3 f4;have hroom:(([]:List Int).length+A.length)*8<=cz:=by rw[m6];unfold cz;omega
 have hfq:1000000000/(b[((b.length:Int)-1).toNat]! + 1)=f:=by rw[htb,hf]
 repeat' first|(apply anx (a:=1000000000) (v:=f);rfl;rfl;decide;(rw[htb];omega);exact hfq)|(refine bj.app (f:=iC) (m:=A) (acc:=[]) (S:=[0]) (hp:=[some (.cells (an [f]) 3),some (.cells (an []) 3)]) (fun _=>rfl) (fun _=>rfl) am (.inr ⟨1,some 0,be,rfl,rfl,.inr ⟨rfl,rfl⟩⟩) be rfl rfl (.inr (.inl ⟨_,rfl⟩)) hroom (fun H w' o' ho' hk' hlen=>?_))|(apply abd;rfl;rfl)|(apply aeJ;rfl;rfl)|(apply acq;rfl;rfl;first|exact q218 _|exact q197b|exact q197a)|refine gc ?_|(intro _;omega)|intro _
 all_goals try omega
 rw[List.nil_append]at ho';refine agB (c1:=c1) (fb:=.cells (an [f]) 3) ac lA _ _ _ _ _ _ _ _ _ _ _ _ _ _ _ _ _ _ _ (fun o K lo wr hoK hK0=>?_) _ _ _ _ ho' (hk' 0 _ be rfl);obtain⟨U0,hU0⟩:∃U0,U0=A++ci (a.length+1-A.length) 0:=⟨_,rfl⟩;rw[←hU0]at hoK;have lU0:U0.length=a.length+1:=by rw[hU0];simp;omega
 have oU0:okW dB U0:=by rw[hU0];exact jV oA (lI am)
 have vU0:WV dB U0=WV dB a*f:=by rw[hU0,gh,lJ,fG,it,vA]
 rcases hoK with ⟨h1,_⟩|⟨bu,cp,hb0,rfl,hbu,hcap⟩
 . grind
 obtain rfl:cp=none:=bS;have hb0:bu≠0:=fun e=>hb0 (by simp[e])
 have hbl:=cJ hbu;have hK0l:=cJ hK0;rw[lU0];repeat' first|refine gc ?_|fail
 all_goals try omega
 rw[show (((a.length+1:Nat):Int)-(V.length:Int)).toNat=a.length+1-(k+2) by omega];have hup:=agz (f:=f) ac ha oa hk ob nb lU0 oU0 vU0;rw[←vV]at hup;refine agw (c2:=none) (cu:=none) (cq:=some (a.length+1-(k+2))) (k:=k) (N:=a.length+1) (bu:=bu) (bq:=K.length) (bf:=0) (V:=V) (U0:=U0) (fb:=.cells (an [f]) 3) C.toPE ac ⟨hb0,ac⟩ ac ac lV oV hvt lU0 oU0 hup _ _ _ _ _ _ _ (fun U L K2 aC aD aE aF aG aH aI aJ aK lo wr lU oU lL oL hv hlU hK2u hK2q hK2f=>?_) _ _ _ _ _ _ _ _ _ _ _ _ (cE hbu) cC (cE hK0) _ ac;have lt:=dg (b:=dB) am oV;have hU0n:=cB (b:=dB) am oU;rw[vU0,vV]at hv;rw[vV]at hlU;obtain⟨d1,d2⟩:=LA (p:=f) ac hv hU0n hlU;have q1:CT M (iY 242) [.sl bu 0 V.length 1 none] K2 ⟨bE bu (aQ (U.take V.length)) none,K2,[]⟩:=qm (cap:=none) C.ft C.dU hK2u ac ac ac be;have q2:CT M (iY 242) [.sl K.length 0 (a.length+1-(k+2)) 1 (some (a.length+1-(k+2)))] K2 ⟨bE K.length (aQ (L.take (a.length+1-(k+2)))) (some (a.length+1-(k+2))),K2,[]⟩:=qm (cap:=some (a.length+1-(k+2))) C.ft C.dU hK2q ac ac ac bS;have hm:=iW (l:=U.take V.length);rw[b7]at hm;have hfrc:=agC hK2u (m:=aQ (U.take V.length)) ac;have vT:WV dB (U.take (aQ (U.take V.length)))=WV dB U:=by
  rw[PH,xT];have e1:=mC (b:=dB) (l:=U) (i:=V.length) ac;have l0:=cB (b:=dB) am (dF oU V.length);have l1:=cB (b:=dB) am (jM oU V.length);have hP:0<dB^V.length:=ac;rcases c9 0 (WV dB (U.drop V.length)) with h|h
  . have:=b5 (show 1<=WV dB (U.drop V.length) by omega) (b8 hP);rw[←vV]at hlU;omega
  . grind
 obtain⟨R,oR,nR,vR,q241⟩:=C.GF (bE bu (aQ (U.take V.length)) none) (U.take (aQ (U.take V.length))) none K2 f hfrc (dF oU _) (by rw[b7];omega) ⟨ac,ac⟩;have vR:WV dB R=WV dB a%WV dB b:=by rw[vR,vT,d2,Int.mul_ediv_cancel_left _ ac]
 repeat' first|(apply amQ (r:=V.length) (k:=.i64);rfl;rfl;omega;omega;(intro c hc;cases hc))|(apply amK;rfl;rfl;rfl;exact q1)|(apply afJ;rfl;rfl;first|exact q1|exact q2)|(apply ama (L:=[f]) (v:=f);rfl;exact hK2f;exact i4;rfl)|(apply ajU;rfl;rfl;(first|(simp only[nca];rfl)|rfl);first|exact q241)|refine gc ?_|fail
 all_goals try omega
 have hout:=kn.mix (d1:=some (a.length+1-(k+2))) (b1:=K.length) (L1:=L) (R:=R) (e1:=3) (hp:=K2) (n1:=a.length+1-(k+2)) hK2q ac;refine⟨.inr rfl,rfl,_,rfl,_,_,?_,⟨oR,nR,vR⟩,hout⟩;rw[PH,c8 (show L.length<=a.length+1-(k+2) by omega)];obtain⟨h1,h2,h3⟩:=qk oL;exact⟨h1,h2,by rw[h3,d1]⟩
end Go.Ab.Ch1
