/-
  Own work: decimal texts of machine integers: eight digits at once.
-/
import Derived.Test.YtcjphdmkgmkabaaGreatDoorLib8
import Derived.Test.YtcjphdmkgmkabaaGreatDoorCh1Base
import Derived.Test.YtcjphdmkgmkabaaGreatDoorLib4
import Derived.Test.YtcjphdmkgmkabaaGreatDoorLib5
import Derived.Test.YtcjphdmkgmkabaaGreatDoorLib3
import Derived.Lib.Bytealg
set_option maxHeartbeats 8000000
set_option maxRecDepth 20000
namespace Go.Ab.Ch1
open Go.Ab.aW
variable {M:aw} {cap:Option Nat} {e:TypeId}
theorem oZ {u n j:Nat}(hj:j+2<=n):u/10^(n-j)=u/10^(n-(j+2))/100:=by
 rw[Nat.div_div_eq_div_mul,show (100:Nat)=10^2 by rfl,←Nat.pow_add,show n-(j+2)+2=n-j by omega]
theorem fD.mX {L:ah}{off n i u U:Nat}{a b:Nat}{x y:Int}(h:fD L off n (i+2) u)(hn:off+n<=24)(hi:i+2<=n)(hU:U=u/10^(n-(i+2)))(ha:a=off+i+1)(hb:b=off+i)(hx:x=(U%100:Nat)*2+1)(hy:y=(U%100:Nat)*2):fD ((L.set a iT[x.toNat]!).set b iT[y.toNat]!) off n i u:=by
 subst hx;subst hy;refine h.two hn hi ha hb ?_ ?_
 . rw[aao (by omega),←hU];congr 1;omega
 . rw[aan (by omega),←hU];congr 1;omega
set_option maxRecDepth 100000 in
theorem aas (off n u0:Nat)(hn:off+n<=24)(hu:u0<18446744073709551616){Q:Ex->aq->Prop}(a10 a11 a12 a13 a14:AV)
 (hQ:∀L i a3 a4 a5 a6 a7 a8 a9 lo wr,i<=n->i<8->fD L off n i u0->gS 0 wr->Q (.exit 0) ⟨⟨[.sl 0 off n 1 cap,.uV ((u0/10^(n-i):Nat):Int),.iV (i:Nat),a3,a4,a5,a6,a7,a8,a9,a10,a11,a12,a13,a14],lo,[some (.cells (br L) e)],[]⟩,wr⟩)
 (L:ah) (i:Nat) (a3 a4 a5 a6 a7 a8 a9:AV) (lo:List (Nat×AV)) (wr:List Nat) (hi:i<=n) (hL:fD L off n i u0) (hw:gS 0 wr) :
 W M (.loop xR) ⟨⟨[.sl 0 off n 1 cap,.uV ((u0/10^(n-i):Nat):Int),.iV (i:Nat),a3,a4,a5,a6,a7,a8,a9,a10,a11,a12,a13,a14],lo,[some (.cells (br L) e)],[]⟩,wr⟩ Q:=by
 refine W.fV (fun m s=>∃L U iv a3 a4 a5 a6 a7 a8 a9 lo wr,s=⟨⟨[.sl 0 off n 1 cap,.uV U,.iV iv,a3,a4,a5,a6,a7,a8,a9,a10,a11,a12,a13,a14],lo,[some (.cells (br L) e)],[]⟩,wr⟩/\U=((u0/10^(n-m):Nat):Int)/\iv=(m:Int)/\m<=n/\fD L off n m u0/\gS 0 wr)
  (fun m s ⟨L,U,iv,a3,a4,a5,a6,a7,a8,a9,lo,wr,hs,hU,hiv,hm,hL,hw⟩=>?_) (m:=i) ⟨L,_,_,a3,a4,a5,a6,a7,a8,a9,lo,wr,rfl,rfl,rfl,hi,hL,hw⟩
 subst hs;subst hU;subst hiv;have hl:=hL.1;have sl:=xW;have hUle:u0/10^(n-m)<=u0:=Nat.div_le_self _ _;by_cases h8:m<8
 . unfold xR;exact gg8
 . obtain⟨j,rfl⟩:∃j,m=j+8:=⟨m-8,by omega⟩;have s1:=oZ (u:=u0) (n:=n) (j:=j+6) (by omega);have s2:=oZ (u:=u0) (n:=n) (j:=j+4) (by omega);have s3:=oZ (u:=u0) (n:=n) (j:=j+2) (by omega);have s4:=oZ (u:=u0) (n:=n) (j:=j) (by omega);obtain⟨U,hU⟩:∃U,U=u0/10^(n-(j+8)):=⟨_,rfl⟩;rw[show j+6+2=j+8 by omega,←hU]at s1;rw[show j+4+2=j+6 by omega,s1]at s2;rw[show j+2+2=j+4 by omega,s2]at s3;rw[s3]at s4;rw[←hU]at hUle ⊢;unfold xR;repeat' first|(apply aiu;rfl;rfl;(first|omega|(simp only[List.length_set];omega)))|(apply ajr;rfl;rfl;omega;omega)|(apply aiH;rfl;rfl;omega;omega)|(apply ajE;rfl;omega)|(apply aje;rfl;rfl;omega;omega)|(apply ajf;rfl;rfl;omega;omega)|(apply ajd;rfl;rfl;omega)|(apply aiK;rfl;rfl;omega)|(apply air (s:=iT);rfl;rfl;omega)|(apply afd;rfl;rfl)|refine gc ?_|(intro _;omega)|intro _
   all_goals try omega
   refine cN ⟨j,by omega,_,_,_,_,_,_,_,_,_,_,_,_,rfl,?_,?_,by omega,?_,?_⟩
   . rw[s4];omega
   . omega
   . have g1:=fD.mX (L:=L) (i:=j+6) (U:=U) (a:=off+(((j+8:Nat):Int)-1).toNat*1) (b:=off+(((j+8:Nat):Int)-2).toNat*1) hL hn (by omega) hU (by omega) (by omega) rfl rfl;refine fD.mX (U:=U/100/100/100) (fD.mX (i:=j+2) (U:=U/100/100) (fD.mX (i:=j+4) (U:=U/100) (fD.mX (i:=j+6) (U:=U) hL hn (by omega) hU ?_ ?_ ?_ ?_) hn (by omega) s1.symm ?_ ?_ ?_ ?_) hn (by omega) s2.symm ?_ ?_ ?_ ?_) hn (by omega) s3.symm ?_ ?_ ?_ ?_;all_goals omega
   . exact .cons (.cons (.cons (.cons (.cons (.cons (.cons (.cons hw)))))))
set_option maxRecDepth 100000
def tp:an:=
 .seq (
       .region [zm 160 2,
         zc 161 .gtr 160 0])
       (
        .cond (.l 161)
        (.region [zm 162 0,
          zm 163 10,
          ⟨(.l 164),.bin .add (kW 48) (.l 163),none⟩,
          ⟨(.l 165),.dE .u8 (.l 164),none⟩,
          ⟨(.l 166),.du none 1 (.l 162) (kI 0),none⟩,
          zS 1 166 165])
        (.skip))
def xX:an:=
 .seq (
       .region [zm 138 2,
         zc 139 .geq 138 2])
       (
        .cond (.l 139)
        (
         zR [zm 140 10,
           ⟨(.l 141),.bin .rem (.l 140) (kW 100),none⟩,
           ⟨(.l 142),.bin .mul (.l 141) (kW 2),none⟩,
           zw 14 142]
         (
          zR [zm 143 10,
            ⟨(.l 144),.bin .quo (.l 143) (kW 100),none⟩,
            zw 10 144]
          (
           .seq (.draw [(zm 145 0,[]),
             (zm 146 2,[0]),
             (zc 147 .sub 146 1,[0]),
             (zm 148 0,[0,1,2]),
             (zm 149 2,[0,1,2,3]),
             (zc 150 .sub 149 2,[0,1,2,3]),
             (zm 151 14,[0,1,2,3,4,5]),
             (⟨(.l 152),.bin .add (.l 151) (kW 1),none⟩,[0,1,2,3,4,5]),
             (⟨(.l 153),.index (.c (.str zD1)) (.l 152),none⟩,[0,1,2,3,4,5]),
             (zm 154 14,[0,1,2,3,4,5,6,7,8]),
             (⟨(.l 155),.index (.c (.str zD1)) (.l 154),none⟩,[0,1,2,3,4,5,6,7,8]),
             (za 156 1 145 147,[3,4,5,9,10]),
             (zS 1 156 153,[3,4,5,9,10]),
             (za 157 1 148 150,[]),
             (zS 1 157 155,[])])
           (.region [zm 158 2,
             zc 159 .sub 158 2,
             zw 2 159]))))
        (.skip))
def Ed:an:=
 zR [zm 98 2,
        zc 99 .geq 98 4]
      (
       .cond (.l 99)
       (
        zR [zm 100 10,
          ⟨(.l 101),.bin .rem (.l 100) (kW 10000),none⟩,
          zw 11 101]
        (
         zR [zm 102 10,
           ⟨(.l 103),.bin .quo (.l 102) (kW 10000),none⟩,
           zw 10 103]
         (
          zR [zm 104 11,
            ⟨(.l 105),.bin .quo (.l 104) (kW 100),none⟩,
            ⟨(.l 106),.bin .mul (.l 105) (kW 2),none⟩,
            zm 107 11,
            ⟨(.l 108),.bin .rem (.l 107) (kW 100),none⟩,
            ⟨(.l 109),.bin .mul (.l 108) (kW 2),none⟩,
            zw 12 106,
            zw 13 109]
          (
           .seq (.draw [(zm 110 0,[]),
             (zm 111 2,[0]),
             (zc 112 .sub 111 1,[0]),
             (zm 113 0,[0,1,2]),
             (zm 114 2,[0,1,2,3]),
             (zc 115 .sub 114 2,[0,1,2,3]),
             (zm 116 13,[0,1,2,3,4,5]),
             (⟨(.l 117),.bin .add (.l 116) (kW 1),none⟩,[0,1,2,3,4,5]),
             (⟨(.l 118),.index (.c (.str zD1)) (.l 117),none⟩,[0,1,2,3,4,5]),
             (zm 119 13,[0,1,2,3,4,5,6,7,8]),
             (⟨(.l 120),.index (.c (.str zD1)) (.l 119),none⟩,[0,1,2,3,4,5,6,7,8]),
             (za 121 1 110 112,[3,4,5,9,10]),
             (zS 1 121 118,[3,4,5,9,10]),
             (za 122 1 113 115,[]),
             (zS 1 122 120,[])])
           (
            .seq (.draw [(zm 123 0,[]),
              (zm 124 2,[0]),
              (zc 125 .sub 124 3,[0]),
              (zm 126 0,[0,1,2]),
              (zm 127 2,[0,1,2,3]),
              (zc 128 .sub 127 4,[0,1,2,3]),
              (zm 129 12,[0,1,2,3,4,5]),
              (⟨(.l 130),.bin .add (.l 129) (kW 1),none⟩,[0,1,2,3,4,5]),
              (⟨(.l 131),.index (.c (.str zD1)) (.l 130),none⟩,[0,1,2,3,4,5]),
              (zm 132 12,[0,1,2,3,4,5,6,7,8]),
              (⟨(.l 133),.index (.c (.str zD1)) (.l 132),none⟩,[0,1,2,3,4,5,6,7,8]),
              (za 134 1 123 125,[3,4,5,9,10]),
              (zS 1 134 131,[3,4,5,9,10]),
              (za 135 1 126 128,[]),
              (zS 1 135 133,[])])
            (.region [zm 136 2,
              zc 137 .sub 136 4,
              zw 2 137]))))))
       (.skip))
theorem aat {g N:Nat}{aO:List Nat}{body:an}{ars:List AV}{L:ah}{P:ah->Prop}(hft:M.FT g=some ⟨N,aO,[],body⟩)(hN:ars.length<=N)
 (hW:W M body ⟨⟨aO.map (fun t=>(ars[t]?).getD cm),[],[some (.cells (br L) e)],[]⟩,[]⟩ fun x s=>(x = .normal\/x = .ret)/\s.s.bO=[]/\∃L',s.s.hp=[some (.cells (br L') e)]/\gS 0 s.wr/\P L') :
 ∃L' wr,gS 0 wr/\P L'/\aS M g ars [some (.cells (br L) e)] ⟨.au [],[some (.cells (br L') e)],wr⟩:=by
 obtain⟨⟨n,x,s,h1,h2,h3,L',h4,h5,h6⟩⟩:=hW;have hb:0<([some (.cells (br L) e)]:ab).length:=Nat.zero_lt_one;have hh:s.s.hp=ab.put [some (.cells (br L) e)] 0 (some (.cells (br L') e)):=h4;obtain⟨wr,hw,hr⟩:=Un (c0:=br L) hb hh h5 (Lz L');exact⟨L',wr,hw,h6,sh hft hN ⟨⟨n,x,s,h1,h2,h3,[],rfl,hr⟩⟩⟩
def Ee (e:TypeId)(off n u0:Nat)(x:Ex)(s:aq):Prop:=(x = .normal\/x = .ret)/\s.s.bO=[]/\∃L',s.s.hp=[some (.cells (br L') e)]/\gS 0 s.wr/\fD L' off n 0 u0
theorem xY {u n i:Nat}(h:u<10^n)(hi:i<=n):u/10^(n-i)<10^i:=by
 refine Nat.div_lt_of_lt_mul ?_;rw[←Nat.pow_add,show n-i+i=n by omega];exact h
def Ef (L:ah)(off n u0:Nat)(k:Nat)(iv U:Int)(wr:List Nat):Prop:=∃i:Nat,i<k/\i<=n/\iv=(i:Int)/\U=((u0/10^(n-i):Nat):Int)/\fD L off n i u0/\gS 0 wr
theorem LG {off n u0:Nat}(hn:off+n<=24)(hlt:u0<10^n){L:ah}{iv U:Int}{a1 a3 a4 a5 a6 a7 a8 a9 a11 a12 a13 a14:AV}{lo:List (Nat×AV)}{wr:List Nat}(h:Ef L off n u0 2 iv U wr) :
 W M tp ⟨⟨[.sl 0 off n 1 cap,a1,.iV iv,a3,a4,a5,a6,a7,a8,a9,.int .u32 U,a11,a12,a13,a14],lo,[some (.cells (br L) e)],[]⟩,wr⟩ (Ee e off n u0):=by
 obtain⟨i,hi,hin,rfl,hU,hL,hw⟩:=h;have hl:=hL.1;have hr:=xY hlt hin;obtain⟨V,hV⟩:∃V,V=u0/10^(n-i):=⟨_,rfl⟩;rw[←hV]at hU hr;subst hU;by_cases h1:i=1
 . subst h1;have hV10:V<10:=by simpa using hr
   have hd:(dJ V).toNat=48+V:=qL hV10;unfold tp;refine gg20 ?_;refine⟨.inl rfl,rfl,_,rfl,.cons hw,by simp[hl],fun j h1 h2=>?_⟩;rw[Ec (by omega)];by_cases hj:j=0
   . subst hj;rw[if_pos (by omega),show n-1-0=n-1 by omega,←hV,Nat.mod_eq_of_lt hV10]
   . rw[if_neg (by omega)];exact hL.2 j (by omega) h2
 . obtain rfl:i=0:=by omega
   unfold tp;exact gg3
theorem Hg {off n u0:Nat}(hn:off+n<=24)(hlt:u0<10^n){L:ah}{iv U:Int}{a1 a3 a4 a5 a6 a7 a8 a9 a11 a12 a13 a14:AV}{lo:List (Nat×AV)}{wr:List Nat}(h:Ef L off n u0 4 iv U wr) :
 W M (.seq xX tp) ⟨⟨[.sl 0 off n 1 cap,a1,.iV iv,a3,a4,a5,a6,a7,a8,a9,.int .u32 U,a11,a12,a13,a14],lo,[some (.cells (br L) e)],[]⟩,wr⟩ (Ee e off n u0):=by
 obtain⟨i,hi,hin,rfl,hU,hL,hw⟩:=h;have hl:=hL.1;have sl:=xW;have hr:=xY hlt hin;by_cases h1:2<=i
 . obtain⟨j,rfl⟩:∃j,i=j+2:=⟨i-2,by omega⟩;have s1:=oZ (u:=u0) (n:=n) (j:=j) hin;obtain⟨V,hV⟩:∃V,V=u0/10^(n-(j+2)):=⟨_,rfl⟩;rw[←hV]at hU hr s1;have hV4:V<10000:=Nat.lt_of_lt_of_le hr (Nat.le_trans (Nat.pow_le_pow_right (by decide) (show j+2<=4 by omega)) (by decide));subst hU;unfold xX;repeat' first|(apply LG hn hlt)|(apply aiu;rfl;rfl;(first|omega|(simp only[List.length_set];omega)))|(apply aje;rfl;rfl;omega;omega)|(apply ajf;rfl;rfl;omega;omega)|(apply ajd;rfl;rfl;omega)|(apply aiK;rfl;rfl;omega)|(apply air (s:=iT);rfl;rfl;omega)|apply ads|apply dw|apply adt|apply adP|apply agJ|apply agV|(apply agW;rfl)|(apply aiz;rfl;(first|(simp only[nca];rfl)|rfl);(first|(simp only[nca];rfl)|rfl))|(apply aff;rfl)|(apply afd;rfl;rfl)|(apply ahc;rfl;rfl;omega)|(apply ajl;rfl;rfl;omega)|(apply aak;rfl;rfl)|(apply adU;rfl;rfl)|(intro _;omega)|intro _
   all_goals try omega
   refine⟨j,by omega,by omega,by omega,by rw[s1];omega,?_,.cons (.cons hw)⟩;refine fD.mX (U:=V) hL hn (by omega) hV ?_ ?_ ?_ ?_;all_goals omega
 . unfold xX;repeat' first|(apply LG hn hlt)|(apply afd;rfl;rfl)|refine gc ?_|(intro _;omega)|intro _
   all_goals try omega
   exact⟨i,by omega,hin,rfl,hU,hL,hw⟩
theorem aau {off n u0:Nat}(hn:off+n<=24)(hlt:u0<10^n){L:ah}{iv U:Int}{a1 a3 a4 a5 a6 a7 a8 a9 a11 a12 a13 a14:AV}{lo:List (Nat×AV)}{wr:List Nat}(h:Ef L off n u0 8 iv U wr) :
 W M (.seq Ed (.seq xX tp)) ⟨⟨[.sl 0 off n 1 cap,a1,.iV iv,a3,a4,a5,a6,a7,a8,a9,.int .u32 U,a11,a12,a13,a14],lo,[some (.cells (br L) e)],[]⟩,wr⟩ (Ee e off n u0):=by
 obtain⟨i,hi,hin,rfl,hU,hL,hw⟩:=h;have hl:=hL.1;have sl:=xW;have hr:=xY hlt hin;by_cases h1:4<=i
 . obtain⟨j,rfl⟩:∃j,i=j+4:=⟨i-4,by omega⟩;have s1:=oZ (u:=u0) (n:=n) (j:=j+2) (by omega);have s2:=oZ (u:=u0) (n:=n) (j:=j) (by omega);obtain⟨V,hV⟩:∃V,V=u0/10^(n-(j+4)):=⟨_,rfl⟩;rw[show j+2+2=j+4 by omega,←hV]at s1;rw[s1]at s2;rw[←hV]at hU hr;have hV8:V<100000000:=Nat.lt_of_lt_of_le hr (Nat.le_trans (Nat.pow_le_pow_right (by decide) (show j+4<=8 by omega)) (by decide));subst hU;unfold Ed;repeat' first|(apply Hg hn hlt)|(apply aiu;rfl;rfl;(first|omega|(simp only[List.length_set];omega)))|(apply aje;rfl;rfl;omega;omega)|(apply ajf;rfl;rfl;omega;omega)|(apply ajd;rfl;rfl;omega)|(apply aiK;rfl;rfl;omega)|(apply air (s:=iT);rfl;rfl;omega)|(apply afd;rfl;rfl)|refine gc ?_|(intro _;omega)|intro _
   all_goals try omega
   refine⟨j,by omega,by omega,by omega,by rw[s2];omega,?_,.cons (.cons (.cons (.cons hw)))⟩;refine fD.mX (U:=V/100) (fD.mX (i:=j+2) (U:=V) hL hn (by omega) hV ?_ ?_ ?_ ?_) hn (by omega) s1.symm ?_ ?_ ?_ ?_;all_goals omega
 . unfold Ed;exact gg8
theorem aav (hft:M.FT=FT)(off n u0:Nat)(hn:off+n<=24)(hlt:u0<10^n)(hu:u0<18446744073709551616)(L:ah)(hL:L.length=24) :
 ∃L' wr,gS 0 wr/\fD L' off n 0 u0/\aS M 306 [.sl 0 off n 1 cap,.uV (u0:Nat)] [some (.cells (br L) e)] ⟨.au [],[some (.cells (br L') e)],wr⟩:=by
 refine aat (P:=fun L'=>fD L' off n 0 u0) (by rw[hft];exact ZX) (by simp) ?_;have lp:=fun Q a10 a11 a12 a13 a14 hQ a3 a4 a5 a6 a7 a8 a9 lo wr=>aas (M:=M) (cap:=cap) (e:=e) off n u0 hn hu (Q:=Q) a10 a11 a12 a13 a14 hQ L n a3 a4 a5 a6 a7 a8 a9 lo wr (Nat.le_refl _) ⟨hL,fun j h1 h2=>by omega⟩
 simp only[Nat.sub_self,Nat.pow_zero,Nat.div_one]at lp;unfold Lm;simp only[enter];repeat' first|refine gc ?_|fail
 refine lp _ _ _ _ _ _ (fun L i a3 a4 a5 a6 a7 a8 a9 lo wr hi h8 hL hw=>?_) _ _ _ _ _ _ _ _ _ gS.nil;have hr:=xY hlt hi;have hV:u0/10^(n-i)<4294967296:=Nat.lt_of_lt_of_le hr (Nat.le_trans (Nat.pow_le_pow_right (by decide) (show i<=8 by omega)) (by decide));obtain⟨V,hVe⟩:∃V,V=u0/10^(n-i):=⟨_,rfl⟩;rw[←hVe]at hr hV ⊢;repeat' first|(apply aau hn hlt)|(apply ajE;rfl;omega)|refine gc ?_|fail
 exact⟨i,h8,hi,rfl,by rw[hVe],hL,hw⟩
section
variable {t:Nat} {x y:aN} {l:List aT} {pe:List AV} {lo:List (Nat×AV)} {df wr:List Nat} {k:IntKind} {a:Int} {Q:aq->Prop} {L:ah} {n:Nat}
theorem aiW (hx:(St.mk pe lo [some (.cells (br L) e)] df).ae x=some (.ptr 0 0))(hl:L.length=24)(hy:(St.mk pe lo [some (.cells (br L) e)] df).ae y=some (.int k a))(ha:a=(n:Int))(hn:n<=24)
 (h:WO M l ⟨⟨pe,(t,.sl 0 0 n 1 (some 24))::lo,[some (.cells (br L) e)],df⟩,wr⟩ Q):WO M (⟨.l t,.iG 24 1 x none (some y),none⟩::l) ⟨⟨pe,lo,[some (.cells (br L) e)],df⟩,wr⟩ Q:=by
 subst ha;refine WO.LA (i:=0) (j:=n) hx hl rfl ?_ (by decide) h;simp only[St.cT,hy,Option.map_some,Option.bind_some,bK];rw[if_pos (by omega)];rfl
theorem aiV (hx:(St.mk pe lo [some (.cells (br L) e)] df).ae x=some (.ptr 0 0))(hl:L.length=24)(hy:(St.mk pe lo [some (.cells (br L) e)] df).ae y=some (.int k a))(ha:a=1+(n:Int))(hn:n<24)
 (h:WO M l ⟨⟨pe,(t,.sl 0 1 n 1 (some 23))::lo,[some (.cells (br L) e)],df⟩,wr⟩ Q):WO M (⟨.l t,.iG 24 1 x (some (.c (.iV 1))) (some y),none⟩::l) ⟨⟨pe,lo,[some (.cells (br L) e)],df⟩,wr⟩ Q:=by
 subst ha;refine WO.LA (i:=1) (j:=n+1) hx hl ?_ ?_ (by decide) h
 . have e1:(St.mk pe lo [some (.cells (br L) e)] df).ae (.c (.iV 1))=some (.iV 1):=rfl;simp only[St.cT,e1,Option.map_some,Option.bind_some,bK];rw[if_pos (by omega)];rfl
 . simp only[St.cT,hy,Option.map_some,Option.bind_some,bK];rw[if_pos (by omega)];congr 1;omega
theorem ajU {hp:ab}{v:Int}(hx:(St.mk pe lo hp df).ae x=some (.uV a))(hv:(0-a)%18446744073709551616=v)
 (h:WO M l ⟨⟨pe,(t,.uV v)::lo,hp,df⟩,wr⟩ Q):WO M (⟨.l t,.un .neg x,none⟩::l) ⟨⟨pe,lo,hp,df⟩,wr⟩ Q:=
 aak (v:=.uV v) (by simp only[aV,hx,Option.bind_some,rB,ou,hv]) rfl h
end
def nI:ah:=List.replicate 24 0
def bM (z:Int):ah:=if z<0 then 45::aQ (-z).toNat else aQ z.toNat
structure tq (M:aw):Prop where
 ft:M.FT=FT
 LH:∀ars h,M.ext 306 ars h=none
 Eg:∀(n:Nat) h,n<100->M.ext 304 [.iV n] h=some ⟨.str (aQ n),h,[]⟩
 xZ:∀(d:Int) h,(0<d/\d<18446744073709551616)->M.ext 305 [.uV d] h=some ⟨.iV (fH d),h,[]⟩
theorem tq.Eh (C:tq M){e:TypeId}{off:Nat}(u:Nat)(hu:0<u/\u<18446744073709551616)(ho:off<=4) :
 ∃L' wr,gS 0 wr/\L'.length=24/\(L'.drop off).take (fH u)=aQ u/\CT M (ir 306) [.sl 0 off (fH u) 1 cap,.uV u] [some (.cells (br nI) e)] ⟨.au [],[some (.cells (br L') e)],wr⟩:=by
 obtain⟨k1,k2,k3,k4⟩:=xV hu;obtain⟨L',wr,hw,hD,hr⟩:=aav (cap:=cap) (e:=e) C.ft off (fH u) u (by omega) k3 hu.2 nI rfl;obtain⟨m,hm⟩:∃m,fH u=m+1:=⟨fH u-1,by omega⟩;refine⟨L',wr,hw,hD.1,?_,CT.run (fi:=[]) (ca:=[]) (C.LH _ _) hr⟩;rw[hD.fin (by omega)];rw[hm]at k3 k4 ⊢;exact(xT k3 (by
  rcases k4 with k4|k4
  . exact .inl (by omega)
  . exact .inr (by simpa using k4))).symm
set_option maxRecDepth 100000 in
theorem aaw (C:tq M)(u:Nat)(hu:u<18446744073709551616):aS M 299 [.uV u,.iV 10] [] ⟨.str (aQ u),[],[]⟩:=by
 refine bC (by rw[C.ft];exact ZZ) (by simp) ?_;unfold Lo;simp only[enter];by_cases h:u<100
 . have q304:=fun hh=>C.Eg u hh h
   exact gg10
 . have q305:=fun hh=>C.xZ u hh (by omega)
   obtain⟨k1,k2,k3,k4⟩:=xV (d:=u) (by omega);obtain⟨L',wr,hw,hl,hd,q306⟩:=C.Eh (cap:=some 24) (e:=301) (off:=0) u (by omega) (by decide);have hz:nI.length=24:=rfl;refine gg16 ?_;rw[hd];exact⟨.inr rfl,rfl,_,rfl,rfl,rfl⟩
set_option maxRecDepth 100000 in
theorem aax (C:tq M)(z:Int)(hz : -9223372036854775808<=z/\z<9223372036854775808):aS M 267 [.iV z,.iV 10] [] ⟨.str (bM z),[],[]⟩:=by
 have hz24:nI.length=24:=rfl;refine bC (by rw[C.ft];exact ZV) (by simp) ?_;unfold Lk;simp only[enter];by_cases h:z<0
 . obtain⟨u,hu⟩:∃u:Nat,z = -(u:Int):=⟨(-z).toNat,by omega⟩;have q305:=fun hh=>C.xZ u hh (by omega)
   obtain⟨k1,k2,k3,k4⟩:=xV (d:=u) (by omega);obtain⟨L',wr,hw,hl,hd,q306⟩:=C.Eh (cap:=some 23) (e:=301) (off:=1) u (by omega) (by decide);have e0:bM z=45::aQ u:=by unfold bM;rw[if_pos h];congr 2;omega
   have e1:((L'.set (0+0*1) 45).drop 0).take (1+fH u)=45::aQ u:=by
    cases L' with
    | nil=>simp at hl
    | cons c L'=>
     rw[←hd,Nat.add_comm 1];rfl
   rw[e0];refine gg12 ?_;rw[e1];exact⟨.inr rfl,rfl,_,rfl,rfl,rfl⟩
 . obtain⟨u,hu⟩:∃u:Nat,z=(u:Int):=⟨z.toNat,by omega⟩;have e0:bM z=aQ u:=by unfold bM;rw[if_neg h];congr 1;omega
   rw[e0];subst hu;by_cases h1:u<100
   . have q304:=fun hh=>C.Eg u hh h1
     exact gg10
   . have q305:=fun hh=>C.xZ u hh (by omega)
     obtain⟨k1,k2,k3,k4⟩:=xV (d:=u) (by omega);obtain⟨L',wr,hw,hl,hd,q306⟩:=C.Eh (cap:=some 23) (e:=301) (off:=1) u (by omega) (by decide);repeat' first|(apply aiV (L:=nI) (n:=fH u);rfl;exact hz24;rfl;rfl;omega)|(apply aiV (L:=L') (n:=fH u);rfl;exact hl;rfl;rfl;omega)|(apply aiX (L:=L');rfl;omega)|(apply abt;rfl;rfl)|(apply agM;rfl;rfl)|(apply acJ;rfl;rfl)|refine gd0 ?_|(apply aeT;rfl;rfl;first|exact q306)|refine gc ?_|(intro _;omega)|intro _
     all_goals try omega
     rw[hd];exact⟨.inr rfl,rfl,_,rfl,rfl,rfl⟩
theorem aay (hft:M.FT=FT)(z:Int)(q:∀h,M.ext 267 [.iV z,.iV 10] h=some ⟨.str (bM z),h,[]⟩):aS M 226 [.iV z] [] ⟨.str (bM z),[],[]⟩:=by
 refine bC (by rw[hft];exact ZT) (by simp) ?_;unfold Li;simp only[enter];exact gg1
theorem aaz (hft:M.FT=FT)(z:Int)(q:∀h,M.ext 226 [.iV z] h=some ⟨.str (bM z),h,[]⟩):aS M 183 [.iV z] [] ⟨.str (bM z),[],[]⟩:=by
 refine bC (by rw[hft];exact ZS) (by simp) ?_;unfold Lh;simp only[enter];exact gg1
theorem aaA (hft:M.FT=FT)(u:Nat)(q:∀h,M.ext 299 [.uV u,.iV 10] h=some ⟨.str (aQ u),h,[]⟩):aS M 263 [.uV u,.iV 10] [] ⟨.str (aQ u),[],[]⟩:=by
 refine bC (by rw[hft];exact ZY) (by simp) ?_;unfold Ln;simp only[enter];exact gg1
set_option maxRecDepth 1000000
def aaB:an:=.seq (zR [⟨.l 111,.call (kF 302) [(.p 7)],none⟩,zm 112 5,zb 113 .lss 111 112] (.cond (.l 113) (.skip) (.exit 3))) (.block 4 (zR [zm 114 5,⟨.l 115,.call (kF 302) [(.p 7)],none⟩,zb 116 .sub 114 115,⟨.l 117,.call (kF 302) [(.p 7)],none⟩,zm 118 6,⟨.l 119,.mm false [(.l 116),(.l 117),(.l 118)],none⟩,zw 8 119] (.region [⟨.l 120,.call (kF 266) [(.p 7)],none⟩,zm 121 8,⟨.l 122,.slice .str 1 (.l 120) none (some (.l 121)) none,none⟩,⟨.l 123,.call (kF 265) [(.p 7),(.l 122)],none⟩])))
def LJ:an:=zR [⟨.p 2,.mv (.c (.str [])),none⟩] (.seq (zR [⟨.p 9,.mv (.p 1),none⟩] (.block 0 (zR [zq 13 .eql 9 0,zn 12 13] (.cond (.l 12) (zR [⟨.p 2,.mv (.c (.str [])),none⟩] (.ret)) (zR [zq 15 .eql 9 1,zn 14 15] (.cond (.l 14) (zR [zm 16 0,zw 2 16] (.ret)) (.skip))))))) (.seq (zR [zm 17 1,zc 18 .lss 17 0] (.cond (.l 18) (.bad) (.skip))) (zR [zm 21 0,zL 22 21,⟨.l 23,.dE .u64 (.l 22),none⟩,zm 24 1,⟨.l 25,.dE .u64 (.l 24),none⟩,z2 26 300 23 25,zn 20 26,ze 27 0 20,ze 28 1 20,zw 3 27,zw 4 28] (.seq (zR [zm 29 3,⟨.l 30,.bin .gtr (.l 29) (kU 0),none⟩,zn 31 30,zg (zm 32 4) 31 false,⟨.l 33,.bin .gtr (.l 32) (kU 9223372036854775807),some ((.l 31),false)⟩,zP 34 31 33] (.cond (.l 34) (.bad) (.skip))) (zR [zm 36 4,⟨.l 37,.dE .i64 (.l 36),none⟩,zw 5 37] (.seq (zR [zm 38 0,zL 39 38,zc 40 .eql 39 0] (.cond (.l 40) (zR [⟨.p 2,.mv (.c (.str [])),none⟩] (.ret)) (.skip))) (.seq (zR [zm 41 0,⟨.p 10,.index (.l 41) (kI 0),none⟩] (.block 1 (.seq (zR [⟨.l 44,.bin .eql (.p 10) (.c (.int .u8 (32))),none⟩,zw 11 44] (.cond (.p 11) (.skip) (zR [⟨.l 45,.bin .eql (.p 10) (.c (.int .u8 (45))),none⟩,zw 11 45] (.cond (.p 11) (.skip) (zR [⟨.l 46,.bin .eql (.p 10) (.c (.int .u8 (48))),none⟩,zw 11 46] (.cond (.p 11) (.skip) (zR [⟨.l 47,.bin .eql (.p 10) (.c (.int .u8 (61))),none⟩,zw 11 47] (.cond (.p 11) (.skip) (.region [⟨.l 48,.bin .eql (.p 10) (.c (.int .u8 (9))),none⟩,zw 11 48]))))))))) (.cond (.p 11) (.block 2 (zR [zm 50 5,zc 51 .leq 50 128,zn 52 51,zg (zm 53 0) 52 true,⟨.l 54,.call (kF 212) [(.c (.str zD5)),(.l 53)],some ((.l 52),true)⟩,zp 55 52 54,zn 49 55] (.cond (.l 49) (zR [zm 56 5,⟨.l 57,.slice .str 1 (.c (.str zD5)) none (some (.l 56)) none,none⟩,zw 2 57] (.ret)) (zR [zm 59 5,zc 60 .leq 59 128,zn 61 60,zg (zm 62 0) 61 true,⟨.l 63,.call (kF 212) [(.c (.str zD4)),(.l 62)],some ((.l 61),true)⟩,zp 64 61 63,zn 58 64] (.cond (.l 58) (zR [zm 65 5,⟨.l 66,.slice .str 1 (.c (.str zD4)) none (some (.l 65)) none,none⟩,zw 2 66] (.ret)) (zR [zm 68 5,zc 69 .leq 68 64,zn 70 69,zg (zm 71 0) 70 true,⟨.l 72,.call (kF 212) [(.c (.str zD3)),(.l 71)],some ((.l 70),true)⟩,zp 73 70 72,zn 67 73] (.cond (.l 67) (zR [zm 74 5,⟨.l 75,.slice .str 1 (.c (.str zD3)) none (some (.l 74)) none,none⟩,zw 2 75] (.ret)) (zR [zm 77 5,zc 78 .leq 77 128,zn 79 78,zg (zm 80 0) 79 true,⟨.l 81,.call (kF 212) [(.c (.str zD7)),(.l 80)],some ((.l 79),true)⟩,zp 82 79 81,zn 76 82] (.cond (.l 76) (zR [zm 83 5,⟨.l 84,.slice .str 1 (.c (.str zD7)) none (some (.l 83)) none,none⟩,zw 2 84] (.ret)) (zR [zm 86 5,zc 87 .leq 86 64,zn 88 87,zg (zm 89 0) 88 true,⟨.l 90,.call (kF 212) [(.c (.str zD6)),(.l 89)],some ((.l 88),true)⟩,zp 91 88 90,zn 85 91] (.cond (.l 85) (zR [zm 92 5,⟨.l 93,.slice .str 1 (.c (.str zD6)) none (some (.l 92)) none,none⟩,zw 2 93] (.ret)) (.skip)))))))))))) (.skip))))) (zR [zm 94 5,zw 6 94] (.seq (zR [zm 95 5,zc 96 .gtr 95 8192] (.cond (.l 96) (zR [zm 97 0,zL 98 97,⟨.l 99,.bin .quo (kI 8192) (.l 98),none⟩,zm 100 0,zL 101 100,zb 102 .mul 99 101,zw 6 102] (zR [zm 103 6,zc 104 .eql 103 0] (.cond (.l 104) (.region [zm 105 0,zL 106 105,zw 6 106]) (.skip)))) (.skip))) (zR [⟨.p 7,.alloc 269 [.dj,.aa],none⟩] (zR [zm 107 5,⟨.l 108,.call (kF 301) [(.p 7),(.l 107)],none⟩] (zR [zm 109 0,⟨.l 110,.call (kF 265) [(.p 7),(.l 109)],none⟩] (.seq (.block 3 (.loop aaB)) (zR [⟨.l 124,.call (kF 266) [(.p 7)],none⟩,zw 2 124] (.ret)))))))))))))))
theorem aaC:FT 264=some ⟨125,[0,1,4,5,6,7,8,9,10,11,42,43],[.var (.p 2)],LJ⟩:=by kernel_rfl
def Ei:an:=zR [zi 2 0,⟨.p 3,.mv (.c (.cS)),none⟩] (zR [zm 6 0,z1 7 303 6] (zR [zm 8 0,zm 9 0,⟨.l 10,.jJ (.l 9),none⟩,⟨.l 11,.dH 1 (.l 10),none⟩,zd 12 1 11,zm 13 1,⟨.l 14,.append 5 1 1 (.l 12) (.l 13),none⟩,⟨.l 15,.jJ (.l 8),none⟩,⟨.l 16,.dH 1 (.l 15),none⟩,zS 1 16 14] (zR [zm 17 1,zL 18 17,zw 2 18,⟨.p 3,.mv (.c (.cS)),none⟩] (.ret))))
theorem LK:FT 265=some ⟨19,[0,1,4,5],[.var (.p 2),.var (.p 3)],Ei⟩:=by kernel_rfl
def LL:an:=zR [⟨.p 1,.mv (.c (.str [])),none⟩] (.seq (.draw [(zm 3 0,[]),(⟨.l 4,.jJ (.l 3),none⟩,[]),(⟨.l 5,.dH 1 (.l 4),none⟩,[]),(zd 6 1 5,[]),(⟨.l 7,.rn (.l 6),none⟩,[]),(zm 8 0,[0,1,2,3,4]),(⟨.l 9,.jJ (.l 8),none⟩,[0,1,2,3,4]),(⟨.l 10,.dH 1 (.l 9),none⟩,[0,1,2,3,4]),(zd 11 1 10,[0,1,2,3,4]),(zl 12 11,[0,1,2,3,4]),(⟨.l 13,.jI 5 (.l 7) (.l 12),none⟩,[]),(zw 1 13,[])]) (.ret))
theorem aaD:FT 266=some ⟨14,[0,2],[.var (.p 1)],LL⟩:=by kernel_rfl
def Ej:an:=zR [zm 2 0,⟨.l 3,.jJ (.l 2),none⟩,⟨.l 4,.dH 0 (.l 3),none⟩,zd 5 1 4,⟨.l 6,.eq false (.ref .ptr) (.l 5) (.c (.dj)),none⟩] (.cond (.l 6) (.region [zm 7 0,zm 8 0,⟨.l 9,.ki none (.l 8),none⟩,z1 10 323 9,⟨.l 11,.ki (some (269,2)) (.l 10),none⟩,⟨.l 12,.jJ (.l 7),none⟩,⟨.l 13,.dH 0 (.l 12),none⟩,zS 1 13 11]) (zR [zm 14 0,⟨.l 15,.jJ (.l 14),none⟩,⟨.l 16,.dH 0 (.l 15),none⟩,zd 17 1 16,zm 18 0,⟨.l 19,.nw true (.l 17) (.l 18),none⟩] (.cond (.l 19) (.bad) (.skip))))
theorem LM:FT 303=some ⟨20,[0],[],Ej⟩:=by kernel_rfl
def LN:an:=zR [⟨.p 2,.mv (kU 0),none⟩,⟨.p 3,.mv (kU 0),none⟩] (.seq (.cond (.c (.bool false)) (zR [zm 11 0,⟨.l 12,.dE .u32 (.l 11),none⟩,zm 13 1,⟨.l 14,.dE .u32 (.l 13),none⟩,z2 15 321 12 14,zn 10 15,ze 16 0 10,ze 17 1 10,zw 4 16,zw 5 17] (zR [zm 18 4,⟨.l 19,.dE .u64 (.l 18),none⟩,zm 20 5,⟨.l 21,.dE .u64 (.l 20),none⟩,zw 2 19,zw 3 21] (.ret))) (.skip)) (zR [zm 23 0,zm 24 1,z2 25 244 23 24,zn 22 25,ze 26 0 22,ze 27 1 22,zw 6 26,zw 7 27] (zR [zm 28 6,zm 29 7,zw 2 28,zw 3 29] (.ret))))
theorem aaE:FT 300=some ⟨30,[0,1,4,5,6,7,8,9],[.var (.p 2),.var (.p 3)],LN⟩:=by kernel_rfl
def pa (N:Nat)(hp:ab)(b:Nat)(acc:ah):Prop:=(acc=[]/\hp.at b=some (.cells [.dj,.aa] 269))\/(acc≠[]/\∃c,N<=c/\hp.at b=some (.cells [.ptr b 0,.sl c 0 acc.length 1 none] 269)/\hp.at c=some (.cells (br acc) 5))
theorem Ek {h:ab}{b:Nat}{x:Option bw}{n:Nat}(hn:h.length=n):(h.put b x).take n=h.put b x:=List.take_of_length_le (by rw[eH];omega)
theorem aaF {v:AV}{n b:Nat}{s:aq}{h:ab}{c:List AV}{e:TypeId}(hv:v.top=0)(hb:b<h.length)(hn:h.length=n)(hh:s.s.hp=h.put b (some (.cells c e)))(hw:∀x∈s.wr,x=b)(hc:bh c<=n):dU v n s=⟨v,h.put b (some (.cells c e)),s.wr.filter (· < n)⟩:=by
 have ht:tight s.s.hp n s.wr=true:=by
  simp only[tight,List.all_eq_true];intro x hx;rw[hw x hx,hh,fx hb];simp[bw.top,hc]
 rw[Cb (by omega) ht,hh,Ek hn]
theorem aaG (hft:M.FT=FT)(pb:∀b h,M.ext 323 [.ptr b 0] h=some ⟨.ptr b 0,h,[]⟩)(b:Nat)(hp:ab)(hb:hp.at b=some (.cells [.dj,.aa] 269)):aS M 303 [.ptr b 0] hp ⟨.au [],hp.put b (some (.cells [.ptr b 0,.aa] 269)),[b]⟩:=by
 have hlt:=eM hb;have q:=pb b hp;refine sh (by rw[hft];exact LM) (by simp) ?_;unfold Ej;simp only[enter];repeat' first|(apply ahZ;rfl;exact hb;rfl)|(apply akd;rfl;exact hb;decide)|(apply ake;rfl;exact hb;decide)|(apply adX (c':=[.ptr b 0,.aa]);rfl;rfl;exact hb;exact⟨rfl,by decide,rfl⟩;rfl)|(apply aal;rfl;rfl;first|exact q)|refine gc ?_|fail
 refine⟨.inl rfl,rfl,[],rfl,?_⟩;refine(aaF (v:=.au []) rfl hlt rfl rfl (by simp) ?_).trans ?_
 . show max (b+1) (max 0 0)<=_;omega
 . simp[hlt]
theorem aaH (hft:M.FT=FT)(b:Nat)(hp:ab)(v:AV)(hb:hp.at b=some (.cells [.ptr b 0,v] 269)):aS M 303 [.ptr b 0] hp ⟨.au [],hp,[]⟩:=by
 refine mI (by rw[hft];exact LM) (by simp) ?_;unfold Ej;simp only[enter];exact gg3
structure Kept (N b:Nat)(hp H:ab)(wr:List Nat):Prop where
 len:hp.length<=H.length
 at':∀a,a<N->a≠b->H[a]? = hp[a]?
 wr:∀x∈wr,x=b\/N<=x
theorem LO {h h':ab}{a:Nat}(e:h'[a]? = h[a]?):h'.at a=h.at a:=by simp only[ab.at,e]
theorem tr {h:ab}{a b:Nat}{x:Option bw}(hn:a≠b):(h.put b x)[a]? = h[a]? := by
 simp only[ab.put,List.getElem?_set,if_neg (fun e:b=a=>hn e.symm)]
theorem LP {h l:ab}{a:Nat}(hn:a<h.length):(h++l)[a]? = h[a]? := List.getElem?_append_left hn
theorem LR (hft:M.FT=FT)(qM:∀ars h,M.ext 303 ars h=none)(pb:∀b h,M.ext 323 [.ptr b 0] h=some ⟨.ptr b 0,h,[]⟩)(N b:Nat)(hp:ab)(acc s:ah)(hN:b<N/\N<=hp.length)(hs:s≠[])(hl:acc.length+s.length<1000000000)(hB:pa N hp b acc) :
 iB M 265 [.ptr b 0,.str s] hp fun r=>r.v = .au [.iV s.length,.cS]/\pa N r.h b (acc++s)/\Kept N b hp r.h r.wr/\b∈r.wr/\r.h.at b=some (.cells [.ptr b 0,.sl hp.length 0 (acc++s).length 1 none] 269):=by
 have h0:0<s.length:=List.length_pos_iff.2 hs;have hne:acc++s≠[]:=by simp[hs]
 rcases hB with ⟨rfl,hb⟩|⟨ha,c,hc,hb,hcb⟩
 . have hlt:=eM hb;have q:=CT.run (fi:=[]) (ca:=[]) (ars:=[.ptr b 0]) (qM _ _) (aaG hft pb b hp hb);have hb1:(hp.put b (some (.cells [.ptr b 0,.aa] 269))).at b=some (.cells [.ptr b 0,.aa] 269):=fx hlt;have hb2:=dL (l:=[some (.cells (br s) 5)]) hb1;have hsc:ek (hp.put b (some (.cells [.ptr b 0,.aa] 269))) (.str s)=some (br s,s.length):=rfl;refine iB.si (by rw[hft];exact LK) (by simp) ?_;unfold Ei;simp only[enter];repeat' first|(apply ahZ;rfl;exact hb1;rfl)|(apply aka;rfl;rfl;exact hsc;exact⟨(lQ s).trans (Nat.mul_one _).symm,by decide,Ly s⟩;exact⟨h0,by simp only[dv];omega⟩)|(apply adX (c':=[.ptr b 0,.sl (hp.put b (some (.cells [.ptr b 0,.aa] 269))).length 0 s.length 1 none]);rfl;rfl;exact hb2;exact⟨rfl,Nat.le_refl _,rfl⟩;rfl)|refine gd4 ?_|refine gc ?_|fail
   refine⟨.inr rfl,_,rfl,[.iV s.length,.cS],rfl,?_⟩;rw[IS (n:=hp.length) rfl rfl ?_]
   . have hL:(hp.put b (some (bw.cells [.ptr b 0,.aa] 269))++[some (bw.cells (br s) 5)]).length=hp.length+1:=by simp[eH]
     refine⟨rfl,.inr ⟨hne,hp.length,hN.2,?_,?_⟩,⟨?_,fun a h1 h2=>?_,?_⟩,by simp[hlt],?_⟩
     . simp only[fx (show b<_ by rw[hL];omega),eH,List.nil_append]
     . rw[List.nil_append];refine qe (by omega) ?_;have:=cU (h:=hp.put b (some (bw.cells [.ptr b 0,.aa] 269))) (x:=some (bw.cells (br s) 5));rw[eH]at this;exact this
     . rw[eH,hL];omega
     . rw[tr h2,LP (by rw[eH];omega),tr h2]
     . simp
     . simp only[fx (show b<_ by rw[hL];omega),eH,List.nil_append]
   . simp only[tight,List.all_eq_false];refine⟨b,by simp,?_⟩;rw[fx (by simp[eH];omega)];simp[bw.top,bh,AV.top,eH];omega
 . have hlt:=eM hb;have q:=CT.run (fi:=[]) (ca:=[]) (ars:=[.ptr b 0]) (qM _ _) (aaH hft b hp _ hb);have hsc:ek hp (.str s)=some (br s,s.length):=rfl;have hcl:=eM hcb;have hbc:b≠c:=by omega
   have hb2:ab.at (hp.put c none++[some (.cells (br acc++br s) 5)]) b=some (.cells [.ptr b 0,.sl c 0 acc.length 1 none] 269):=dL (qe hbc hb);refine iB.si (by rw[hft];exact LK) (by simp) ?_;unfold Ei;simp only[enter];repeat' first|(apply ahZ;rfl;exact hb;rfl)|(apply akb;rfl;rfl;exact hsc;exact⟨(lQ s).trans (Nat.mul_one _).symm,by decide,Ly s⟩;exact⟨h0,by simp only[dv];omega⟩;exact hcb;exact((lQ acc).trans (Nat.mul_one _).symm).trans (Nat.zero_add _).symm)|(apply adX (c':=[.ptr b 0,.sl hp.length 0 (acc.length+s.length) 1 none]);rfl;rfl;exact hb2;exact⟨rfl,Nat.le_refl _,rfl⟩;rfl)|refine gd4 ?_|refine gc ?_|fail
   refine⟨.inr rfl,_,rfl,[.iV s.length,.cS],rfl,?_⟩;rw[IS (n:=hp.length) rfl rfl ?_]
   . have hL:(hp.put c none++[some (bw.cells (List.drop 0 (br acc)++br s) 5)]).length=hp.length+1:=by simp[eH]
     refine⟨rfl,.inr ⟨hne,hp.length,hN.2,?_,?_⟩,⟨?_,fun a h1 h2=>?_,?_⟩,by simp[hlt],?_⟩
     . simp only[fx (show b<_ by rw[hL];omega),List.length_append]
     . refine qe (by omega) ?_;have:=cU (h:=hp.put c none) (x:=some (bw.cells (List.drop 0 (br acc)++br s) 5));rw[eH]at this;rw[this,List.drop_zero,aae]
     . rw[eH,hL];omega
     . rw[tr h2,LP (by rw[eH];omega),tr (by omega)]
     . intro x hx;simp at hx;omega
     . simp only[fx (show b<_ by rw[hL];omega),List.length_append]
   . simp only[tight,List.all_eq_false];refine⟨b,by simp,?_⟩;rw[fx (by simp[eH];omega)];simp[bw.top,bh,AV.top];omega
theorem LS (hft:M.FT=FT)(N b:Nat)(hp:ab)(acc:ah)(hB:pa N hp b acc)(hne:acc≠[])(hl:acc.length<1000000000)(_hN:b<N/\N<=hp.length):iB M 266 [.ptr b 0] hp fun r=>r.v = .str acc/\Kept N b hp r.h r.wr:=by
 have h0:0<acc.length:=List.length_pos_iff.2 hne;rcases hB with ⟨rfl,hb⟩|⟨ha,c,hc,hb,hcb⟩
 . exact absurd rfl hne
 have hcl:=eM hcb;refine iB.si (by rw[hft];exact aaD) (by simp) ?_;unfold LL;simp only[enter];have hcut:cut (br acc) 0 ((acc.length:Int)).toNat=some (br acc):=by
  rw[Int.toNat_natCast];simp[cut,lQ];exact List.take_of_length_le (by rw[lQ];exact Nat.le_refl _)
 repeat' first|(apply ahZ;rfl;exact hb;rfl)|(apply akf;rfl;exact h0)|(apply akg;rfl;rfl;exact hcb;omega;exact hcut;exact DX acc;intro _)|refine gc ?_|fail
 refine⟨.inr rfl,_,rfl,[.str acc],rfl,?_⟩;rw[UB (n:=hp.length) rfl rfl (Nat.zero_le _) ?_]
 . refine⟨rfl,?_,fun a h1 h2=>?_,?_⟩
   . simp only[Ek rfl,eH];exact Nat.le_refl _
   . simp only[Ek rfl];exact tr (by omega)
   . intro x hx;simp at hx;omega
 . have:ab.at (hp.put c none) c=none:=fx hcl;simp[tight,this]
end Go.Ab.Ch1

/-
  Own work: decimal texts in parts of 18 digits.
-/
namespace Go.Ab.aW
theorem yc:∀k,cC k 0=List.replicate k 48
 | 0=>rfl
 | k+1=>by rw[cC,yc k,List.replicate_succ'];rfl
theorem LU:∀{k n:Nat},n<10^(k+1)->cC (k+1) n=List.replicate (k+1-(aQ n).length) 48++aQ n
 | 0,n,h=>by
  have h:n<10:=by simpa using h
  rw[iq h];simp[cC,Nat.mod_eq_of_lt h]
 | k+1,n,h=>by
  rw[cC];by_cases h1:n<10
  . rw[iq h1,Nat.div_eq_of_lt h1,yc,Nat.mod_eq_of_lt h1];rfl
  . rw[Nat.pow_succ]at h;have hl:(aQ n).length=(aQ (n/10)).length+1:=by rw[kK h1];simp
    rw[LU (k:=k) (n:=n/10) (by omega),kK h1,List.append_assoc];rw[show k+1+1-(aQ (n/10)++[dJ (n%10)]).length=k+1-(aQ (n/10)).length by rw[←kK h1,hl];omega]
def iM (n:Nat):List ah:=if n=0 then [] else if n<1000000000000000000 then [aQ n] else cC 18 (n%1000000000000000000)::iM (n/1000000000000000000)
termination_by n
decreasing_by omega
theorem qN:iM 0=[]:=by rw[iM,if_pos rfl]
theorem tt {n:Nat}(h0:n≠0)(h:n<1000000000000000000):iM n=[aQ n]:=by rw[iM,if_neg h0,if_pos h]
theorem tu {n:Nat}(h:¬n<1000000000000000000):iM n=cC 18 (n%1000000000000000000)::iM (n/1000000000000000000):=by
 rw[iM,if_neg (by omega),if_neg h]
theorem aaI {n:Nat}(h:n≠0):(iM n).reverse.flatten=aQ n:=by
 induction n using Nat.strongRecOn with
 | _ n ih=>
  by_cases h1:n<1000000000000000000
  . rw[tt h h1];simp
  . rw[tu h1,List.reverse_cons,List.flatten_append,ih _ (by omega) (by omega)];have e:=DW (k:=18) (a:=n/1000000000000000000) (b:=n%1000000000000000000) (by omega) (by rw[show (10:Nat)^18=1000000000000000000 by rfl];omega);rw[show (10:Nat)^18=1000000000000000000 by rfl,show n/1000000000000000000*1000000000000000000+n%1000000000000000000=n by omega]at e;rw[e];simp
theorem aaJ {n:Nat}:∀x∈iM n,x≠[]:=by
 induction n using Nat.strongRecOn with
 | _ n ih=>
  by_cases h0:n=0
  . subst h0;rw[qN];simp
  . by_cases h1:n<1000000000000000000
    . rw[tt h0 h1];intro x hx;rw[List.mem_singleton.1 hx];exact oO _
    . rw[tu h1];intro x hx;rcases List.mem_cons.1 hx with h3|hx
      . rw[h3];exact fun e=>absurd (congrArg List.length e) (by rw[kJ,List.length_nil];exact Nat.succ_ne_zero 17)
      . exact ih (n/1000000000000000000) (Nat.div_lt_self (Nat.pos_of_ne_zero h0) (by decide)) x hx
theorem aaK {n:Nat}:∀x∈iM n,x.length<=18:=by
 induction n using Nat.strongRecOn with
 | _ n ih=>
  by_cases h0:n=0
  . subst h0;rw[qN];simp
  . by_cases h1:n<1000000000000000000
    . rw[tt h0 h1];intro x hx;rw[List.mem_singleton.1 hx];exact oT (k:=18) h1 (by decide)
    . rw[tu h1];intro x hx;rcases List.mem_cons.1 hx with h3|hx
      . rw[h3,kJ];exact Nat.le_refl _
      . exact ih (n/1000000000000000000) (Nat.div_lt_self (Nat.pos_of_ne_zero h0) (by decide)) x hx
theorem LV:∀{k n:Nat},n<1000000000000000000^k->(iM n).length<=k
 | 0,n,h=>by
  obtain rfl:n=0:=by simpa using h
  rw[qN];exact Nat.le_refl _
 | k+1,n,h=>by
  by_cases h0:n=0
  . subst h0;rw[qN];exact Nat.zero_le _
  . by_cases h1:n<1000000000000000000
    . rw[tt h0 h1];exact Nat.succ_le_succ (Nat.zero_le _)
    . rw[tu h1,List.length_cons];rw[Nat.pow_succ]at h;have:=LV (k:=k) (n:=n/1000000000000000000) (Nat.div_lt_of_lt_mul (by rw[Nat.mul_comm];exact h));omega
end Go.Ab.aW

/-
  Own work: the code of texts of integers and fractions.
-/
namespace Go.Ab.Ch1
set_option maxRecDepth 1000000
def mY:an:=.seq (zR [zm 24 4,zl 25 24,zc 26 .gtr 25 0] (.cond (.l 26) (.skip) (.exit 0))) (.block 1 (zR [zm 28 4,zm 29 5,z2 30 253 28 29,zn 27 30,ze 31 0 27,ze 32 1 27,zw 7 31,zw 8 32] (zR [⟨.p 9,.mv (.c (.str [48])),none⟩] (.seq (zR [zm 33 8,zl 34 33,zc 35 .gtr 34 0] (.cond (.l 35) (.region [zm 36 8,⟨.l 37,.du none 1 (.l 36) (kI 0),none⟩,zd 38 1 37,⟨.l 39,.call (kF 263) [(.l 38),(kI 10)],none⟩,zw 9 39]) (.skip))) (.seq (zR [zm 40 7,zl 41 40,zc 42 .gtr 41 0] (.cond (.l 42) (.region [zm 43 9,zL 44 43,⟨.l 45,.bin .sub (kI 18) (.l 44),none⟩,⟨.l 46,.call (kF 264) [(.c (.str [48])),(.l 45)],none⟩,zm 47 9,zb 48 .add 46 47,zw 9 48]) (.skip))) (zR [zm 49 6,zm 50 9,⟨.l 51,.dQ 9 1 1 [.str []] [(0,1,(.l 50))],none⟩,⟨.l 52,.append 9 1 16 (.l 49) (.l 51),none⟩,zw 6 52] (.region [zm 53 7,zw 4 53])))))))
def yd:an:=.seq (zR [zm 59 11,zc 60 .geq 59 0] (.cond (.l 60) (.skip) (.exit 2))) (.seq (.block 3 (.region [zm 63 6,zm 64 11,za 65 1 63 64,zd 66 1 65,⟨.l 67,.call (kF 265) [(.p 10),(.l 66)],none⟩])) (.region [zm 61 11,zc 62 .sub 61 1,zw 11 62]))
def El:an:=zR [zx 1 131 2 0,⟨.p 2,.mv (.c (.str [])),none⟩] (.seq (zR [zf 12 1 1,zd 13 1 12,⟨.l 14,.eq false (.ref .slice) (.l 13) (.c (.aa)),none⟩] (.cond (.l 14) (zR [zf 15 0 1,zd 16 1 15,z1 17 183 16,zw 2 17] (.ret)) (.skip))) (zR [zt 19 2 1,z1 20 246 19,zn 18 20,ze 21 0 18,ze 22 1 18,zw 3 21,zw 4 22] (zR [⟨.l 23,.dQ 246 1 1 [.uV (0)] [(0,1,(kU 1000000000000000000))],none⟩,zw 5 23] (zR [⟨.p 6,.mv (.c (.aa)),none⟩] (.seq (.block 0 (.loop mY)) (zR [⟨.p 10,.alloc 269 [.dj,.aa],none⟩] (.seq (zR [zm 54 3] (.cond (.l 54) (.region [⟨.l 55,.call (kF 265) [(.p 10),(.c (.str [45]))],none⟩]) (.skip))) (.seq (zR [zm 56 6,zl 57 56,zc 58 .sub 57 1,zw 11 58] (.block 2 (.loop yd))) (zR [⟨.l 68,.call (kF 266) [(.p 10)],none⟩,zw 2 68] (.ret))))))))))
theorem LW:FT 224=some ⟨69,[0,1,2,3,4,5,6,7,8,9,10,11],[.var (.p 2)],El⟩:=by kernel_rfl
def LX:an:=zR [zx 1 131 2 0,⟨.p 2,.mv (.c (.bool false)),none⟩] (zR [zt 3 2 1,z1 4 262 3,zc 5 .gtr 4 1800,zn 6 5,zg (zt 7 2 1) 6 true,zg (z1 8 224 7) 6 true,⟨.l 9,.call (kF 213) [(.l 8),(.c (.str [45]))],some ((.l 6),true)⟩,zg (zL 10 9) 6 true,zg (zc 11 .gtr 10 600) 6 true,zp 12 6 11,zw 2 12] (.ret))
theorem aaL:FT 223=some ⟨13,[0,1,2],[.var (.p 2)],LX⟩:=by kernel_rfl
def ye:an:=.seq (zR [zm 13 0,zL 14 13,zc 15 .gtr 14 0] (.cond (.l 15) (.skip) (.exit 0))) (.block 1 (zR [zm 16 0,zL 17 16,⟨.l 18,.mm false [(kI 18),(.l 17)],none⟩,zw 4 18] (zR [zm 20 0,zm 21 4,⟨.l 22,.slice .str 1 (.l 20) none (some (.l 21)) none,none⟩,z1 23 214 22,zn 19 23,ze 24 0 19,ze 25 1 19,zw 5 24,zn 7 25] (.seq (.draw [(zt 26 2 3,[]),(⟨.l 27,.call (kF 168) [(kI 10)],none⟩,[0]),(zm 28 4,[0,1]),(z2 29 215 27 28,[0]),(z2 30 198 26 29,[]),(zm 31 5,[0,1,2,3,4]),(z1 32 168 31,[]),(z2 33 202 30 32,[]),(zs 2 3 33,[])]) (.region [zm 34 0,zm 35 4,⟨.l 36,.slice .str 1 (.l 34) (some (.l 35)) none none,none⟩,zw 0 36])))))
def LY:an:=zR [⟨.p 1,.alloc 131 [.iV (0),.aa],none⟩] (zR [zm 8 0,⟨.l 9,.call (kF 212) [(.l 8),(.c (.str [45]))],none⟩,zw 2 9] (zR [zm 10 0,⟨.l 11,.call (kF 213) [(.l 10),(.c (.str [45]))],none⟩,zw 0 11] (zR [⟨.l 12,.build [.iV (0),.aa] [],none⟩,⟨.p 3,.alloc 131 [.iV (0),.aa],none⟩,zs 2 3 12] (.seq (.block 0 (.loop ye)) (.seq (zR [zm 37 2] (.cond (.l 37) (zR [zt 38 2 3,z1 39 216 38,zs 2 1 39] (.ret)) (.skip))) (zR [zt 40 2 3,zs 2 1 40] (.ret)))))))
theorem aaM:FT 166=some ⟨41,[0,2,3,4,5,6],[.cell 2 true (.p 1)],LY⟩:=by kernel_rfl
def LZ:an:=zR [zx 1 133 4 0,⟨.p 2,.mv (.c (.bool false)),none⟩] (zR [zf 3 0 1,zT 4 2 3,z1 5 223 4,zn 6 5,zg (zf 7 2 1) 6 false,zg (zT 8 2 7) 6 false,zg (z1 9 223 8) 6 false,zP 10 6 9,zw 2 10] (.ret))
theorem aaN:FT 175=some ⟨11,[0,1,2],[.var (.p 2)],LZ⟩:=by kernel_rfl
def Ma:an:=zR [zx 1 133 4 0,⟨.p 2,.mv (.c (.str [])),none⟩] (.seq (zR [zt 3 4 1,z1 4 201 3] (.cond (.l 4) (zR [zf 5 0 1,zT 6 2 5,z1 7 224 6,zw 2 7] (.ret)) (.skip))) (.seq (.draw [(zf 8 0 1,[]),(zT 9 2 8,[]),(z1 10 224 9,[]),(⟨.l 11,.bin .add (.l 10) (.c (.str [47])),none⟩,[]),(zf 12 2 1,[0,1,2,3]),(zT 13 2 12,[0,1,2,3]),(z1 14 224 13,[3]),(zb 15 .add 11 14,[]),(zw 2 15,[])]) (.ret)))
theorem aaO:FT 176=some ⟨16,[0,1,2],[.var (.p 2)],Ma⟩:=by kernel_rfl
def Em:an:=zR [⟨.p 1,.alloc 133 [.iV (0),.aa,.iV (0),.aa],none⟩] (zR [zm 7 0,⟨.l 8,.call (kF 163) [(.l 7),(.c (.str [47]))],none⟩,zn 6 8,ze 9 0 6,ze 10 1 6,ze 11 2 6,zw 2 9,zw 3 10,zw 4 11] (.seq (zR [zm 12 4,zu 13 12] (.cond (.l 13) (zR [zm 14 2,z1 15 166 14,z1 16 159 15,zs 4 1 16] (.ret)) (.skip))) (zR [zm 17 2,z1 18 166 17,zm 19 3,z1 20 166 19,⟨.l 21,.build [.iV (0),.aa,.iV (0),.aa] [(0,2,(.l 18)),(2,2,(.l 20))],none⟩,zs 4 1 21] (.ret))))
theorem Mb:FT 103=some ⟨22,[0,2,3,4,5],[.cell 4 true (.p 1)],Em⟩:=by kernel_rfl
open Go.Ab.aW
variable {M:aw} {cap:Option Nat} {N:Nat}
abbrev jr (s:ah):List AV:=[.str s]
structure yf (M:aw)(N:Nat):Prop extends CI M N where
 Mc:∀z h,(-9223372036854775808<=z/\z<9223372036854775808)->M.ext 183 [.iV z] h=some ⟨.str (bM z),h,[]⟩
 En:∀(u:Nat) h,u<18446744073709551616->M.ext 263 [.uV u,.iV 10] h=some ⟨.str (aQ u),h,[]⟩
 Md:∀(k:Nat) h,k<=64->M.ext 264 [.str [48],.iV k] h=some ⟨.str (List.replicate k 48),h,[]⟩
 Me:∀(l:List Int) (b:Nat) c h,okW wB l->aM l->l.length<=500000->WV wB l<1000000000000000000->h.at b=some (.cells (ak [1000000000000000000]) 246)->M.ext 253 [.vs (ak l) l.length none,.sl b 0 1 1 c] h=some ⟨.au [.aa,.vs (ak l) l.length none],h,[]⟩
 Mf:∀(l:List Int) (b:Nat) c h,okW wB l->aM l->l.length<=500000->¬WV wB l<1000000000000000000->h.at b=some (.cells (ak [1000000000000000000]) 246)->∃q r,okW wB q/\aM q/\okW wB r/\aM r/\WV wB q=WV wB l/1000000000000000000/\WV wB r=WV wB l%1000000000000000000/\M.ext 253 [.vs (ak l) l.length none,.sl b 0 1 1 c] h=some ⟨.au [.vs (ak q) q.length none,.vs (ak r) r.length none],h,[]⟩
 Eo:∀ars h,M.ext 265 ars h=none
 Ep:∀ars h,M.ext 266 ars h=none
 qM:∀ars h,M.ext 303 ars h=none
 pb:∀b h,M.ext 323 [.ptr b 0] h=some ⟨.ptr b 0,h,[]⟩
theorem Er {l:List Int}(ok:okW wB l)(nr:aM l)(h:WV wB l<wB):l=[]\/∃x,l=[x]/\x=WV wB l/\0<x:=by
 have h1:=fL (b:=wB) (by decide) ok nr (n:=1) (by rw[Int.pow_one];exact h);match l,h1 with
 | [],_=>exact .inl rfl
 | [x],_=>
  refine .inr ⟨x,rfl,by simp[WV],?_⟩;have h2:=(ok x (by simp)).1;have h3:=(sE (l:=[x]) (by simp)).1 nr;have h4:x≠0:=by simpa using h3
  omega
set_option maxRecDepth 100000 in
theorem aaP (C:yf M N){Q:Ex->aq->Prop}(a0 a2 a3 a10 a11:AV)(c5:Option Nat):∀(k:Nat) (l:List Int) (acc:List ah) (o:AV) (K:ab) (a7 a8 a9:AV) (lo:List (Nat×AV)) (wr:List Nat),okW wB l->aM l->l.length<=500000->WV wB l<1000000000000000000^k->acc.length+k<=10000000->bS jr 1 9 K o acc [1]->K.at 1=some (.cells (ak [1000000000000000000]) 246) ->
 (∀p4 o' K' a7 a8 a9 lo wr,bS jr 1 9 K' o' (acc++iM (WV wB l).toNat) [1]->Q (.exit 0) ⟨⟨[a0,.ptr 0 0,a2,a3,p4,.sl 1 0 1 1 c5,o',a7,a8,a9,a10,a11],lo,K',[]⟩,wr⟩) ->
 W M (.loop mY) ⟨⟨[a0,.ptr 0 0,a2,a3,.vs (ak l) l.length none,.sl 1 0 1 1 c5,o,a7,a8,a9,a10,a11],lo,K,[]⟩,wr⟩ Q:=by
 intro k;induction k with
 | zero=>
  intro l acc o K a7 a8 a9 lo wr ok nr hl hv hk ho hK hQ;have h0:=cg (b:=wB) (by decide) ok;rw[Int.pow_zero]at hv;have hz:WV wB l=0:=by omega
  have hln:l=[]:=by
   rcases Er ok nr (by rw[hz];decide) with h|⟨x,_,h1,h2⟩
   . exact h
   . omega
  subst hln;have e0:(WV wB ([]:List Int)).toNat=0:=rfl;rw[e0,qN,List.append_nil]at hQ;have hl0:([]:List Int).length=0:=rfl;refine W.loop ?_;unfold mY;exact gg3
 | succ k ih=>
  intro l acc o K a7 a8 a9 lo wr ok nr hl hv hk ho hK hQ;have h0:=cg (b:=wB) (by decide) ok;obtain⟨v,hvv⟩:∃v:Nat,WV wB l=(v:Int):=⟨(WV wB l).toNat,by omega⟩;have et:(WV wB l).toNat=v:=by omega
  rw[et]at hQ;have hroom:(acc.length+1)*16<=dv:=by unfold dv;omega
  have hK1:=eM hK;refine W.loop ?_;by_cases h1:WV wB l<1000000000000000000
  . rcases Er ok nr (Int.lt_trans h1 (by decide)) with rfl|⟨x,rfl,hx,hx0⟩
    . have hv0:v=0:=by simp[WV]at hvv;omega
      subst hv0;rw[qN,List.append_nil]at hQ;have hl0:([]:List Int).length=0:=rfl;unfold mY;exact gg3
    . have q253:=C.Me [x] 1 c5 K ok nr hl h1 hK;have hxv:x=(v:Int):=by omega
      have q263:=fun h=>C.En v h (by omega)
      rw[←hxv]at q263;have el:(([x]:List Int)[(0:Int).toNat]!)=x:=rfl;rw[tt (by omega) (by omega)]at hQ;have hl1:([x]:List Int).length=1:=rfl;unfold mY;repeat' first|(refine bS.app (f:=jr) (m:=[aQ v]) (S:=[1]) (fun _=>rfl) (fun _=>rfl) (by decide) (ho.grow [_]) (by simp;omega) rfl rfl (Sl.iJ (f:=jr) (esz:=1) (l:=[aQ v]) (e:=9) (fun _=>rfl) cU rfl) hroom (fun H w' o' ho' hk hlen=>?_))|(apply acs;rfl;rfl)|(apply aal;rfl;rfl;first|exact q253|exact q263 _)|refine gc ?_|(intro _;omega)|intro _
      all_goals try omega
      refine fQ (W.loop ?_);exact gg3
  . obtain⟨q,r,okq,nrq,okr,nrr,vq,vr,q253⟩:=C.Mf l 1 c5 K ok nr hl h1 hK;have hq0:0<WV wB q:=by rw[vq];omega
    have hqne:0<q.length:=List.length_pos_iff.2 (fun e=>by rw[e]at hq0;simp[WV]at hq0);have hlne:0<l.length:=List.length_pos_iff.2 (fun e=>by rw[e]at h1;exact h1 (by simp[WV]));have hql:q.length<=500000:=by
     refine Nat.le_trans (fL (b:=wB) (by decide) okq nrq (n:=l.length) ?_) hl;have:=cR (b:=wB) (by decide) ok;rw[vq];omega
    have hqv:WV wB q<1000000000000000000^k:=by
     rw[vq];rw[Int.pow_succ]at hv;exact Int.ediv_lt_of_lt_mul (by decide) hv
    obtain⟨R,hR⟩:∃R:Nat,WV wB r=(R:Int):=⟨(WV wB r).toNat,by omega⟩;have hRv:R=v%1000000000000000000:=by omega
    have hqn:(WV wB q).toNat=v/1000000000000000000:=by omega
    rw[tu (by omega),←hRv,←hqn]at hQ;have hpad:=LU (k:=17) (n:=R) (by rw[hRv,show (10:Nat)^(17+1)=1000000000000000000 by rfl];omega);have hdl:(aQ R).length<=18:=oT (k:=18) (by rw[hRv,show (10:Nat)^18=1000000000000000000 by rfl];omega) (by decide);have hdl0:0<(aQ R).length:=List.length_pos_iff.2 (oO R);have q264:=fun h=>C.Md (18-(aQ R).length) h (by omega)
    have sv:((18-(aQ R).length:Nat):Int)=18-((aQ R).length:Int):=by omega
    rw[sv]at q264;have hrl:(List.replicate (18-(aQ R).length) (48:UInt8)).length=18-(aQ R).length:=by simp
    rw[show 17+1-(aQ R).length=18-(aQ R).length by omega]at hpad;rw[show 17+1=18 by rfl]at hpad;obtain⟨zs,hzs⟩:∃zs,zs=List.replicate (18-(aQ R).length) (48:UInt8):=⟨_,rfl⟩;rw[←hzs]at hpad q264 hrl;rw[hpad]at hQ;have fin:∀H w' o' a7 a8 a9 lo,bS jr 1 9 H o' (acc++[zs++aQ R]) [1]->H.at 1=some (.cells (ak [1000000000000000000]) 246)->LQ M mY Q .normal ⟨⟨[a0,.ptr 0 0,a2,a3,.vs (ak q) q.length none,.sl 1 0 1 1 c5,o',a7,a8,a9,a10,a11],lo,H,[]⟩,w'⟩:=fun H w' o' a7 a8 a9 lo ho' hH=>
     fQ (ih q _ _ _ _ _ _ _ _ okq nrq hql hqv (by simp;omega) ho' hH (fun p4 o2 K2 a7 a8 a9 lo wr ho2=>hQ _ _ _ _ _ _ _ _ (by rw[List.append_assoc]at ho2;exact ho2)))
    rcases Er okr nrr (by
                                rw[vr];have:(1000000000000000000:Int)<wB:=by decide
                                omega) with rfl|⟨x,rfl,hx,hx0⟩
    . have hR0:R=0:=by simp[WV]at hR;omega
      subst hR0;have hd0:aQ 0=[48]:=iq (by decide);rw[hd0]at fin hrl hdl q264 hdl0;have hr0:([]:List Int).length=0:=rfl;have h48:([48]:ah).length=1:=rfl;unfold mY;exact gg9
    . have hxv:x=(R:Int):=by omega
      have q263:=fun h=>C.En R h (by omega)
      rw[←hxv]at q263;have el:(([x]:List Int)[(0:Int).toNat]!)=x:=rfl;have hl1:([x]:List Int).length=1:=rfl;unfold mY;exact gg3
def jA (l:List ah)(i:Nat):ah:=(l.drop i).reverse.flatten
theorem aaQ {l:List ah}:jA l 0=l.reverse.flatten:=rfl
theorem Mg {l:List ah}:jA l l.length=[]:=by rw[jA,List.drop_length];rfl
theorem aaR {l:List ah}{i:Nat}(h:i<l.length):jA l i=jA l (i+1)++l[i]! := by
 rw[jA,jA,List.drop_eq_getElem_cons h,List.reverse_cons,List.flatten_append,getElem!_pos l i h];simp
theorem iB.ctx {g:Nat}{ars:List AV}{h:ab}{P:HR->Prop}(hn:M.ext g ars h=none)(hr:iB M g ars h P):∃v H wr,P ⟨v,H,wr⟩/\CT M (ir g) ars h ⟨v,H,wr⟩:=by
 obtain⟨⟨⟨v,H,wr⟩,h1,h2⟩⟩:=hr;exact⟨v,H,wr,h2,CT.run (fi:=[]) (ca:=[]) (by simpa using hn) (by simpa using h1)⟩
set_option maxRecDepth 100000 in
theorem Mh (C:yf M N){Q:Ex->aq->Prop}(parts:List ah)(hp0:∀x∈parts,x≠[])(hp18:∀x∈parts,x.length<=18)(hlen:parts.length<20000000)(c B:Nat)(hcB:c<B)(pre:ah)(hpre:pre.length<=1)(a0 a1 a2 a3 a4 a5 a7 a8 a9:AV)
 (hQ:∀K lo wr,pa (B+1) K B (pre++parts.reverse.flatten)->B+1<=K.length->Q (.exit 2) ⟨⟨[a0,a1,a2,a3,a4,a5,.sl c 0 parts.length 1 none,a7,a8,a9,.ptr B 0,.iV (-1)],lo,K,[]⟩,wr⟩) :
 ∀(i:Nat) (K:ab) (lo:List (Nat×AV)) (wr:List Nat),i<=parts.length->K.at c=some (.cells (arr jr parts) 9)->pa (B+1) K B (pre++jA parts i)->B+1<=K.length ->
 W M (.loop yd) ⟨⟨[a0,a1,a2,a3,a4,a5,.sl c 0 parts.length 1 none,a7,a8,a9,.ptr B 0,.iV ((i:Int)-1)],lo,K,[]⟩,wr⟩ Q:=by
 have tl:∀i,(jA parts i).length<=18*parts.length:=fun i=>by
  rw[jA,List.length_flatten];have:∀l:List ah,(∀x∈l,x.length<=18)->(l.map List.length).sum<=18*l.length:=by
   intro l;induction l with
   | nil=>intro _;simp
   | cons x l ih=>
    intro h;have h1:=h x (by simp);have h2:=ih fun y hy=>h y (by simp[hy])
    simp only[List.map_cons,List.sum_cons,List.length_cons];omega
  refine Nat.le_trans (this _ fun x hx=>hp18 x (List.mem_of_mem_drop (List.mem_reverse.1 hx))) ?_;simp;omega
 intro i;induction i with
 | zero=>
  intro K lo wr hi hc hB hK;rw[aaQ]at hB;refine W.loop ?_;unfold yd;exact gg8
 | succ i ih=>
  intro K lo wr hi hc hB hK;have iz:i<parts.length:=by omega
  have e0:(((i+1:Nat):Int)-1)=(i:Int):=by omega
  rw[e0];have hx0:=hp0 parts[i]! (by rw[getElem!_pos parts i iz];exact List.getElem_mem iz);have hx18:=hp18 parts[i]! (by rw[getElem!_pos parts i iz];exact List.getElem_mem iz);have hal:(pre++jA parts (i+1)).length<900000000:=by
   have:=tl (i+1);rw[List.length_append];omega
  obtain⟨v,H,wr',⟨hv,hB',hk,hw,_⟩,q265⟩:=iB.ctx (C.Eo _ _) (LR C.ft C.qM C.pb (B+1) B K (pre++jA parts (i+1)) parts[i]! ⟨by omega,hK⟩ hx0 (by omega) hB);simp only at hv hB' hk hw;subst hv;have hc':H.at c=some (.cells (arr jr parts) 9):=(LO (hk.at' c (by omega) (by omega))).trans hc;have hH:=hk.len;rw[List.append_assoc,←aaR iz]at hB';rw[show parts[i]! = parts[((i:Int)).toNat]! from rfl]at q265;refine W.loop ?_;unfold yd;exact gg8
theorem mZ {z:Int}(h:z<0):bM z=45::aQ (aj z).toNat:=by
 rw[bM,if_pos h];unfold aj;rw[if_pos h]
theorem kL {z:Int}(h:¬z<0):bM z=aQ (aj z).toNat:=by
 rw[bM,if_neg h];unfold aj;rw[if_neg h]
set_option maxRecDepth 100000 in
theorem aaS (C:yf M N){v:AV}{z:Int}(hv:ay v z)(lz:aj z<wB^N):aS M 224 [v] [] ⟨.str (bM z),[],[]⟩:=by
 cases hv with
 | small h=>
  have q183:=fun hh=>C.Mc z hh h
  refine bC (by rw[C.ft];exact LW) (by simp) ?_;unfold El;simp only[enter];exact gg1
 | @eO σ z w hs ok nr hw hz=>
  have hv:ay (.agg [.iV σ,.vs (ak w) w.length none]) z:=.eO hs ok nr hw hz;obtain⟨x,l,hx,ol,nl,hl,q246⟩:=C.kG _ z hv;have len:=C.len ol nl hl lz;have habs:aj z≠0:=by
   unfold aj;split <;> rcases hs with rfl|rfl <;> omega
  have hl0:l≠[]:=fun e=>by rw[e]at hl;exact habs (by simpa[WV] using hl.symm)
  have hxl:x = .vs (ak l) l.length none:=by
   rcases hx with h|⟨_,h⟩
   . exact h
   . exact absurd h hl0
  subst hxl;have hn0:(aj z).toNat≠0:=by have:=iD (x:=z);omega
  have hcat:=aaI hn0;have hlt:WV wB l<1000000000000000000^(2*N):=by
   rw[hl,Int.pow_mul];refine Int.lt_of_lt_of_le lz ?_;have:∀n:Nat,wB^n<=((1000000000000000000:Int)^2)^n:=by
    intro n;induction n with
    | zero=>decide
    | succ n ih=>
     rw[Int.pow_succ,Int.pow_succ];exact Int.mul_le_mul ih (by decide) (by decide) (Int.pow_nonneg (by decide))
   exact this N
  have hlN:=C.lN;cases w with
  | nil=>simp[WV]at hw
  | cons y w=>
  have pne:=aaJ (n:=(aj z).toNat);have p18:=aaK (n:=(aj z).toNat);obtain⟨parts,hparts⟩:∃parts,parts=iM (aj z).toNat:=⟨_,rfl⟩;rw[←hparts]at hcat pne p18;have hltN:(aj z).toNat<1000000000000000000^(2*N):=by
   have h1:=hlt;rw[hl,←Int.toNat_of_nonneg (iD (x:=z))]at h1;obtain⟨n,hn⟩:∃n,n=(aj z).toNat:=⟨_,rfl⟩;obtain⟨m,hm⟩:∃m,m=2*N:=⟨_,rfl⟩;rw[←hn,←hm]at h1 ⊢;have h2:(1000000000000000000:Int)^m=((1000000000000000000^m:Nat):Int):=(Int.natCast_pow 1000000000000000000 m).symm;rw[h2]at h1;exact Int.ofNat_lt.1 h1
  have iY:parts.length<20000000:=by
   have:=LV (n:=(aj z).toNat) (k:=2*N) hltN;rw[←hparts]at this;omega
  have dlen:(aQ (aj z).toNat).length<500000000:=by
   have:=oT (n:=(aj z).toNat) (k:=18*(2*N)+1) (by
    have h2:=hltN;rw[show (1000000000000000000:Nat)=10^18 by rfl,←Nat.pow_mul]at h2;exact Nat.lt_of_lt_of_le h2 (Nat.pow_le_pow_right (by decide) (by omega))) (by omega)
   omega
  have hpne:parts≠[]:=fun e=>by rw[e]at hcat;exact oO _ hcat.symm
  have lp:=fun (Q:Ex->aq->Prop) a0 a2 a3 a10 a11 c5 K hK a7 a8 a9 lo wr hQ=>aaP C (Q:=Q) a0 a2 a3 a10 a11 c5 (2*N) l [] .aa K a7 a8 a9 lo wr ol nl len hlt (by simp;omega) .mJ hK hQ
  rw[hl,←hparts]at lp;refine bC (by rw[C.ft];exact LW) (by simp) ?_;unfold El;simp only[enter];by_cases hn:z<0
  . rw[decide_eq_true hn]at q246;rw[mZ hn];repeat' first|refine gd0 ?_|refine gc ?_|fail
    all_goals try omega
    refine lp _ _ _ _ _ _ _ _ rfl _ _ _ _ _ (fun p4 o K a7 a8 a9 lo wr ho=>?_);rw[List.nil_append]at ho;rcases ho with ⟨h1,_⟩|⟨c,cp,hc1,rfl,hc,hcap⟩
    . exact absurd h1 hpne
    obtain rfl:cp=none:=hcap.resolve_right fun h=>hpne h.1
    have hcl:=eM hc;have hB0:pa (K.length+1) (K++[some (.cells [.dj,.aa] 269)]) K.length []:=.inl ⟨rfl,cU⟩;obtain⟨v,H,wr',⟨hv',hB',hk,hw',_⟩,q265⟩:=iB.ctx (C.Eo _ _) (LR C.ft C.qM C.pb (K.length+1) K.length _ [] [45] ⟨by omega,by rw[List.length_append];exact Nat.le_refl _⟩ (by decide) (by decide) hB0);simp only at hv' hB' hk hw';subst hv';have hc':H.at c=some (.cells (arr jr parts) 9):=(LO (hk.at' c (by omega) (by omega))).trans (dL hc);have hH:=hk.len;simp only[List.length_append,List.length_cons,List.length_nil]at hH;repeat' first|(apply aeT;rfl;rfl;first|exact q265)|refine gc ?_|fail
    refine Mh C parts pne p18 iY c K.length hcl [45] (by decide) _ _ _ _ _ _ _ _ _ (fun K2 lo wr hB2 hK2=>?_) parts.length H _ _ (Nat.le_refl _) hc' (by rw[Mg];exact hB') (by omega);rw[hcat]at hB2;obtain⟨v2,H2,wr2,⟨hv2,_⟩,q266⟩:=iB.ctx (C.Ep _ _) (LS C.ft (K.length+1) K.length K2 _ hB2 (by simp) (by simp only[List.length_append,List.length_cons,List.length_nil];omega) ⟨by omega,hK2⟩);simp only at hv2;subst hv2;exact gg17
  . rw[decide_eq_false hn]at q246;rw[kL hn];repeat' first|refine gd0 ?_|refine gc ?_|fail
    all_goals try omega
    refine lp _ _ _ _ _ _ _ _ rfl _ _ _ _ _ (fun p4 o K a7 a8 a9 lo wr ho=>?_);rw[List.nil_append]at ho;rcases ho with ⟨h1,_⟩|⟨c,cp,hc1,rfl,hc,hcap⟩
    . exact absurd h1 hpne
    obtain rfl:cp=none:=hcap.resolve_right fun h=>hpne h.1
    have hcl:=eM hc;have hB0:pa (K.length+1) (K++[some (.cells [.dj,.aa] 269)]) K.length []:=.inl ⟨rfl,cU⟩;repeat' first|refine gc ?_|fail
    refine Mh C parts pne p18 iY c K.length hcl [] (by decide) _ _ _ _ _ _ _ _ _ (fun K2 lo wr hB2 hK2=>?_) parts.length _ _ _ (Nat.le_refl _) (dL hc) (by rw[Mg];exact hB0) (by rw[List.length_append];exact Nat.le_refl _);rw[hcat]at hB2;obtain⟨v2,H2,wr2,⟨hv2,_⟩,q266⟩:=iB.ctx (C.Ep _ _) (LS C.ft (K.length+1) K.length K2 _ hB2 (by simp[oO]) (by simp only[List.length_append,List.length_nil];omega) ⟨by omega,hK2⟩);simp only at hv2;subst hv2;exact gg17
variable {N2:Nat}
def ao (q:Rat):ah:=if q.den=1 then bM q.num else bM q.num++47::aQ q.den
theorem aaT (hft:M.FT=FT){v:AV}{z:Int}(hv:ay v z)(lz:aj z<2^1800)(c262:∀h,M.ext 262 [v] h=some ⟨.iV (bY (aj z)),h,[]⟩):aS M 223 [v] [] ⟨.bool false,[],[]⟩:=by
 have hb:=oF (x:=aj z) (n:=1800) lz iD;obtain⟨s,w,rfl,o,_⟩:=hv.shape;obtain⟨k,hk⟩:∃k,k=bY (aj z):=⟨_,rfl⟩;rw[←hk]at hb c262;refine bC (by rw[hft];exact aaL) (by simp) ?_;unfold LX;simp only[enter];exact gg9
theorem aaU (hft:M.FT=FT){v:AV}{q:Rat}(hv:aZ v q)(l1:aj q.num<2^1800)(l2:(q.den:Int)<2^1800)(c223:∀v z h,ay v z->aj z<2^1800->M.ext 223 [v] h=some ⟨.bool false,h,[]⟩):aS M 175 [v] [] ⟨.bool false,[],[]⟩:=by
 obtain⟨s1,w1,s2,w2,rfl,h1,h2⟩:=hv;have dq:=den_pos (q:=q);have qa:=fun h=>c223 _ _ h h1 l1
 have qb:=fun h=>c223 _ _ h h2 (by rw[ck (by omega)];exact l2)
 refine bC (by rw[hft];exact aaN) (by simp) ?_;unfold LZ;simp only[enter];repeat' first|apply ads|apply dw|apply adt|apply adP|apply afP|(apply ahb;rfl)|(apply ago;rfl;rfl)|(apply aal;rfl;rfl;first|exact qa _|exact qb _)|(apply ade;rfl;rfl;rfl)|(apply agt;rfl;rfl;rfl)|(apply aak;rfl;rfl)|(apply adU;rfl;rfl)
 all_goals exact⟨.inr rfl,rfl,_,rfl,rfl,rfl⟩
theorem aaV (n:Nat):bM (n:Int)=aQ n:=by
 rw[bM,if_neg (by omega)];rfl
theorem aaW (hft:M.FT=FT){v:AV}{q:Rat}(hv:aZ v q)(hb:(bM q.num).length<1000000000/\(aQ q.den).length<1000000000)(mU:∀h,M.ext 201 [v] h=some ⟨.bool (decide (q.den=1)),h,[]⟩)(ca:∀v h,ay v q.num->M.ext 224 [v] h=some ⟨.str (bM q.num),h,[]⟩)(cb:∀v h,ay v q.den->M.ext 224 [v] h=some ⟨.str (aQ q.den),h,[]⟩):aS M 176 [v] [] ⟨.str (ao q),[],[]⟩:=by
 obtain⟨s1,w1,s2,w2,rfl,h1,h2⟩:=hv;have qa:=fun h=>ca _ h h1
 have qb:=fun h=>cb _ h h2
 have h47:([47]:ah).length=1:=rfl;refine bC (by rw[hft];exact aaO) (by simp) ?_;unfold Ma;simp only[enter];by_cases hd:q.den=1
 . rw[decide_eq_true hd]at mU;rw[ao,if_pos hd];repeat' first|(apply aal;rfl;rfl;first|exact qa _|exact qb _)|apply ads|apply dw|apply adt|apply adP|apply afP|apply mf|(apply aff;rfl)|(apply aal;rfl;rfl;first|exact mU _|exact qa _)|(apply ade;rfl;rfl;rfl)|(apply agt;rfl;rfl;rfl)|(apply aak;rfl;rfl)|(apply adU;rfl;rfl)
   all_goals exact⟨.inr rfl,rfl,_,rfl,rfl,rfl⟩
 . rw[decide_eq_false hd]at mU;rw[ao,if_neg hd];obtain⟨x,hx⟩:∃x,x=bM q.num:=⟨_,rfl⟩;obtain⟨y,hy⟩:∃y,y=aQ q.den:=⟨_,rfl⟩;rw[←hx]at qa hb ⊢;rw[←hy]at qb hb ⊢;have hxl:(x++[47]:ah).length=x.length+1:=by simp
   repeat' first|(apply ahy;rfl;rfl;(first|(simp only[nca];rfl)|rfl);first|exact qa _|exact qb _)|apply ads|apply dw|apply adt|apply adP|apply afP|apply afX|apply agJ|apply agV|(apply agW;rfl)|(apply ahC;rfl;rfl;(first|(simp only[nca];rfl)|rfl))|(apply agf;rfl)|(apply ajk;rfl;rfl;first|omega|(simp only[List.length_append,List.length_cons,List.length_nil];omega)|(simp;omega))|(apply aal;rfl;rfl;first|exact mU _)|(apply ade;rfl;rfl;rfl)|(apply agt;rfl;rfl;rfl)|(apply aak;rfl;rfl)|(apply adU;rfl;rfl)
   all_goals exact⟨.inr rfl,rfl,_,rfl,by simp[aU],rfl⟩
def yg:List AV:=List.replicate 256 (.bool false)
def Mi:an:=zR [⟨.p 2,.mv (.c (.bool false)),none⟩] (zR [zm 5 0,zm 6 1,z2 7 255 5 6,zw 2 7] (.ret))
theorem aaX:FT 212=some ⟨8,[0,1,4],[.var (.p 2)],Mi⟩:=by kernel_rfl
def Es:an:=zR [⟨.p 2,.mv (.c (.bool false)),none⟩] (zR [zm 5 0,zL 6 5,zm 7 1,zL 8 7,zb 9 .geq 6 8,zn 10 9,zg (zm 11 0) 10 true,zg (zm 12 1) 10 true,zg (zL 13 12) 10 true,⟨.l 14,.slice .str 1 (.l 11) none (some (.l 13)) none,some ((.l 10),true)⟩,zg (zm 15 1) 10 true,zg (zb 16 .eql 14 15) 10 true,zp 17 10 16,zw 2 17] (.ret))
theorem aaY:FT 255=some ⟨18,[0,1,4],[.var (.p 2)],Es⟩:=by kernel_rfl
def Mj:an:=zR [⟨.p 2,.mv (.c (.str [])),none⟩] (zR [zm 5 0,zm 6 1,z2 7 258 5 6,zw 2 7] (.ret))
theorem aaZ:FT 213=some ⟨8,[0,1,4],[.var (.p 2)],Mj⟩:=by kernel_rfl
def Mk:an:=zR [⟨.p 2,.mv (.c (.str [])),none⟩] (.seq (zR [zm 5 0,zm 6 1,z2 7 255 5 6] (.cond (.l 7) (zR [zm 8 0,zm 9 1,zL 10 9,⟨.l 11,.slice .str 1 (.l 8) (some (.l 10)) none none,none⟩,zw 2 11] (.ret)) (.skip))) (zR [zm 12 0,zw 2 12] (.ret)))
theorem aba:FT 258=some ⟨13,[0,1,4],[.var (.p 2)],Mk⟩:=by kernel_rfl
def Ml:an:=zR [zi 1 0,⟨.p 2,.mv (.c (.cS)),none⟩] (zR [zm 7 0,z1 8 259 7,zn 6 8,ze 9 0 6,ze 10 1 6,zw 3 9,zw 4 10] (.seq (zR [zm 11 4,⟨.l 12,.eq true (.iface false) (.l 11) (.c (.cS)),none⟩] (.cond (.l 12) (zR [zm 13 3,zm 14 0,zm 15 4,⟨.l 16,.call (kF 260) [(.c (.str zD8)),(.l 14),(kI 0),(kI 0),(.l 15)],none⟩,zw 1 13,zw 2 16] (.ret)) (.skip))) (zR [zm 17 3,zw 1 17,⟨.p 2,.mv (.c (.cS)),none⟩] (.ret))))
theorem abb:FT 214=some ⟨18,[0,2,3,4,5],[.var (.p 1),.var (.p 2)],Ml⟩:=by kernel_rfl
def yh:an:=zR [zr 50 .lss 11 10] (.seq (.cond (.l 50) (.skip) (.exit 0)) (.seq (.block 1 (zR [⟨.l 51,.du none 1 (.p 9) (.p 11),none⟩,zd 52 1 51,zw 6 52] (zR [zm 53 6,⟨.l 54,.bin .sub (.l 53) (.c (.int .u8 (48))),none⟩,zw 6 54] (.seq (zR [zm 55 6,⟨.l 56,.bin .gtr (.l 55) (.c (.int .u8 (9))),none⟩] (.cond (.l 56) (zR [⟨.l 57,.rq 291 (kI 2),none⟩,zi 1 0,zw 2 57] (.ret)) (.skip))) (.region [zm 58 5,zc 59 .mul 58 10,zm 60 6,⟨.l 61,.dE .i64 (.l 60),none⟩,zb 62 .add 59 61,zw 5 62]))))) (.region [zq 63 .add 11 1,zw 11 63])))
def Mm:an:=zR [zi 1 0,⟨.p 2,.mv (.c (.cS)),none⟩] (zR [zm 11 0,zL 12 11,zw 3 12] (.seq (zR [⟨.l 13,.mv (.c (.bool false)),none⟩,zg (zm 14 3) 13 true,⟨.l 15,.bin .lss (kI 0) (.l 14),some ((.l 13),true)⟩,zg (zn 16 15) 13 true,zg (zm 17 3) 16 true,zg (zc 18 .lss 17 10) 16 true,zg (zp 19 16 18) 13 true,zp 20 13 19,zn 21 20,⟨.l 22,.mv (.c (.bool true)),some ((.l 21),false)⟩,zg (zm 23 3) 22 true,⟨.l 24,.bin .lss (kI 0) (.l 23),some ((.l 22),true)⟩,zg (zn 25 24) 22 true,zg (zm 26 3) 25 true,zg (zc 27 .lss 26 19) 25 true,zg (zp 28 25 27) 22 true,zg (zp 29 22 28) 21 false,zP 30 21 29] (.cond (.l 30) (zR [zm 31 0,zw 4 31] (.seq (zR [zm 32 0,⟨.l 33,.index (.l 32) (kI 0),none⟩,⟨.l 34,.bin .eql (.l 33) (.c (.int .u8 (45))),none⟩,zn 35 34,zg (zm 36 0) 35 false,⟨.l 37,.index (.l 36) (kI 0),some ((.l 35),false)⟩,⟨.l 38,.bin .eql (.l 37) (.c (.int .u8 (43))),some ((.l 35),false)⟩,zP 39 35 38] (.cond (.l 39) (zR [zm 40 0,⟨.l 41,.slice .str 1 (.l 40) (some (kI 1)) none none,none⟩,zw 0 41] (zR [zm 42 0,zL 43 42,zc 44 .lss 43 1] (.cond (.l 44) (zR [⟨.l 45,.rq 291 (kI 2),none⟩,zi 1 0,zw 2 45] (.ret)) (.skip)))) (.skip))) (zR [zi 5 0] (.seq (zR [zm 46 0,⟨.p 9,.pA 5 (.l 46),none⟩,⟨.p 10,.len .sl (.p 9),none⟩,zi 11 0] (.block 0 (.loop yh))) (.seq (zR [zm 64 4,⟨.l 65,.index (.l 64) (kI 0),none⟩,⟨.l 66,.bin .eql (.l 65) (.c (.int .u8 (45))),none⟩] (.cond (.l 66) (.region [zm 67 5,⟨.l 68,.un .neg (.l 67),none⟩,zw 5 68]) (.skip))) (zR [zm 69 5,zw 1 69,⟨.p 2,.mv (.c (.cS)),none⟩] (.ret))))))) (.skip))) (zR [zm 71 0,⟨.l 72,.call (kF 293) [(.l 71),(kI 10),(kI 0)],none⟩,zn 70 72,ze 73 0 70,ze 74 1 70,zw 7 73,zw 8 74] (zR [zm 75 7,zm 76 8,zw 1 75,zw 2 76] (.ret)))))
theorem abc:FT 259=some ⟨77,[0,2,3,4,5,6,8,9,10,47,48,49],[.var (.p 1),.var (.p 2)],Mm⟩:=by kernel_rfl
def Mn:an:=zR [⟨.p 2,.mv (.c (.str [])),none⟩,⟨.p 3,.mv (.c (.str [])),none⟩,⟨.p 4,.mv (.c (.bool false)),none⟩] (zR [zm 7 0,zm 8 1,z2 9 208 7 8,ze 10 0 9,ze 11 1 9,ze 12 2 9,zw 2 10,zw 3 11,zw 4 12] (.ret))
theorem abd:FT 163=some ⟨13,[0,1,4,5,6],[.var (.p 2),.var (.p 3),.var (.p 4)],Mn⟩:=by kernel_rfl
def Et:an:=zR [⟨.p 2,.mv (.c (.str [])),none⟩,⟨.p 3,.mv (.c (.str [])),none⟩,⟨.p 4,.mv (.c (.bool false)),none⟩] (.seq (zR [zm 8 0,zm 9 1,z2 10 256 8 9,zw 5 10] (zR [zm 11 5,zc 12 .geq 11 0] (.cond (.l 12) (.seq (.draw [(zm 13 0,[]),(zm 14 5,[0]),(⟨.l 15,.slice .str 1 (.l 13) none (some (.l 14)) none,none⟩,[]),(zm 16 0,[0,1,2]),(zm 17 5,[0,1,2,3]),(zm 18 1,[0,1,2,3,4]),(zL 19 18,[0,1,2,3,4]),(zb 20 .add 17 19,[0,1,2,3]),(⟨.l 21,.slice .str 1 (.l 16) (some (.l 20)) none none,none⟩,[0,1,2]),(zw 2 15,[3,4,5,6,7,8]),(zw 3 21,[]),(⟨.p 4,.mv (.c (.bool true)),none⟩,[])]) (.ret)) (.skip)))) (zR [zm 22 0,zw 2 22,⟨.p 3,.mv (.c (.str [])),none⟩,⟨.p 4,.mv (.c (.bool false)),none⟩] (.ret)))
theorem abe:FT 208=some ⟨23,[0,1,4,5,6,7],[.var (.p 2),.var (.p 3),.var (.p 4)],Et⟩:=by kernel_rfl
def abf:an:=.seq (zR [zm 57 6,zm 58 7,zb 59 .lss 57 58] (.cond (.l 59) (.skip) (.exit 1))) (.block 2 (.seq (zR [zm 60 0,zm 61 6,⟨.l 62,.index (.l 60) (.l 61),none⟩,zm 63 4,zb 64 .neq 62 63] (.cond (.l 64) (zR [zm 65 0,zm 66 6,zc 67 .add 66 1,zm 68 7,⟨.l 69,.slice .str 1 (.l 65) (some (.l 67)) (some (.l 68)) none,none⟩,zm 70 4,z2 71 282 69 70,zw 9 71] (.seq (zR [zm 72 9,zc 73 .lss 72 0] (.cond (.l 73) (zR [zi 2 (-1)] (.ret)) (.skip))) (.region [zm 74 6,zm 75 9,zc 76 .add 75 1,zb 77 .add 74 76,zw 6 77]))) (.skip))) (.seq (zR [zm 78 0,zm 79 6,zc 80 .add 79 1,⟨.l 81,.index (.l 78) (.l 80),none⟩,zm 82 5,zb 83 .eql 81 82,zn 84 83,zg (zm 85 0) 84 true,zg (zm 86 6) 84 true,zg (zm 87 6) 84 true,zg (zm 88 3) 84 true,zg (zb 89 .add 87 88) 84 true,⟨.l 90,.slice .str 1 (.l 85) (some (.l 86)) (some (.l 89)) none,some ((.l 84),true)⟩,zg (zm 91 1) 84 true,zg (zb 92 .eql 90 91) 84 true,zp 93 84 92] (.cond (.l 93) (zR [zm 94 6,zw 2 94] (.ret)) (.skip))) (zR [zm 95 6,zc 96 .add 95 1,zw 6 96] (zR [zm 97 8,zc 98 .add 97 1,zw 8 98] (.seq (.bad) (.cond (.l 107) (zR [zm 108 0,zm 109 6,⟨.l 110,.slice .str 1 (.l 108) (some (.l 109)) none none,none⟩,zm 111 1,z2 112 283 110 111,zw 10 112] (.seq (zR [zm 113 10,zc 114 .geq 113 0] (.cond (.l 114) (zR [zm 115 10,zm 116 6,zb 117 .add 115 116,zw 2 117] (.ret)) (.skip))) (zR [zi 2 (-1)] (.ret)))) (.seq (.bad) (.cond (.l 132) (zR [zm 133 0,zm 134 6,⟨.l 135,.slice .str 1 (.l 133) (some (.l 134)) none none,none⟩,zm 136 1,z2 137 285 135 136,zw 11 137] (.seq (zR [zm 138 11,zc 139 .lss 138 0] (.cond (.l 139) (zR [zi 2 (-1)] (.ret)) (.skip))) (zR [zm 140 6,zm 141 11,zb 142 .add 140 141,zw 2 142] (.ret)))) (.skip))))))))))
def Mo:an:=zR [zi 2 0] (zR [zm 14 1,zL 15 14,zw 3 15] (.seq (.block 0 (zR [zm 17 3,zc 18 .eql 17 0,zn 19 18,zg (zm 20 1) 19 false,zg (zm 21 0) 19 false,zg (zb 22 .eql 20 21) 19 false,zP 23 19 22,zn 16 23] (.cond (.l 16) (zR [zi 2 0] (.ret)) (zR [zm 25 3,zc 26 .eql 25 1,zn 24 26] (.cond (.l 24) (zR [zm 27 0,zm 28 1,⟨.l 29,.index (.l 28) (kI 0),none⟩,z2 30 282 27 29,zw 2 30] (.ret)) (zR [zm 32 3,zm 33 0,zL 34 33,zb 35 .geq 32 34,zn 31 35] (.cond (.l 31) (zR [zi 2 (-1)] (.ret)) (.seq (.bad) (.cond (.l 36) (zR [zm 45 0,zm 46 1,z2 47 283 45 46,zw 2 47] (.ret)) (.skip)))))))))) (zR [zm 48 1,⟨.l 49,.index (.l 48) (kI 0),none⟩,zw 4 49] (zR [zm 50 1,⟨.l 51,.index (.l 50) (kI 1),none⟩,zw 5 51] (zR [zi 6 0] (zR [zm 52 0,zL 53 52,zm 54 3,zb 55 .sub 53 54,zc 56 .add 55 1,zw 7 56] (zR [zi 8 0] (.seq (.block 1 (.loop abf)) (zR [zi 2 (-1)] (.ret))))))))))
theorem abg:FT 256=some ⟨143,[0,1,4,5,6,7,8,9,10,11,12,13],[.var (.p 2)],Mo⟩:=by kernel_rfl
def Mp:an:=zR [zi 2 0] (zR [zm 5 0,zm 6 1,z2 7 312 5 6,zw 2 7] (.ret))
theorem abh:FT 282=some ⟨8,[0,1,4],[.var (.p 2)],Mp⟩:=by kernel_rfl
def Mq:an:=zR [⟨.p 2,.mv (.c (.str [])),none⟩,⟨.p 3,.mv (.c (.bool false)),none⟩] (zR [zm 6 0,zm 7 1,z2 8 207 6 7,ze 9 0 8,ze 10 1 8,zw 2 9,zw 3 10] (.ret))
theorem abi:FT 162=some ⟨11,[0,1,4,5],[.var (.p 2),.var (.p 3)],Mq⟩:=by kernel_rfl
def Mr:an:=zR [⟨.p 2,.mv (.c (.str [])),none⟩,⟨.p 3,.mv (.c (.bool false)),none⟩] (.seq (zR [zm 6 0,zm 7 1,z2 8 255 6 7,zu 9 8] (.cond (.l 9) (zR [zm 10 0,zw 2 10,⟨.p 3,.mv (.c (.bool false)),none⟩] (.ret)) (.skip))) (zR [zm 11 0,zm 12 1,zL 13 12,⟨.l 14,.slice .str 1 (.l 11) (some (.l 13)) none none,none⟩,zw 2 14,⟨.p 3,.mv (.c (.bool true)),none⟩] (.ret)))
theorem abj:FT 207=some ⟨15,[0,1,4,5],[.var (.p 2),.var (.p 3)],Mr⟩:=by kernel_rfl
def Ms:an:=zR [⟨.p 1,.mv (.c (.bool false)),none⟩] (zR [zm 3 0,⟨.l 4,.bin .neq (.l 3) (.c (.str [])),none⟩,zn 5 4,zg (zm 6 0) 5 true,⟨.l 7,.call (kF 257) [(.l 6),(.c (.str zD9))],some ((.l 5),true)⟩,⟨.l 8,.bin .eql (.l 7) (.c (.str [])),some ((.l 5),true)⟩,zp 9 5 8,zw 1 9] (.ret))
theorem abk:FT 209=some ⟨10,[0,2],[.var (.p 1)],Ms⟩:=by kernel_rfl
def Mt:an:=zR [⟨.p 2,.mv (.c (.str [])),none⟩] (.seq (zR [zm 7 0,⟨.l 8,.bin .eql (.l 7) (.c (.str [])),none⟩,zn 9 8,zg (zm 10 1) 9 false,⟨.l 11,.bin .eql (.l 10) (.c (.str [])),some ((.l 9),false)⟩,zP 12 9 11] (.cond (.l 12) (zR [zm 13 0,zw 2 13] (.ret)) (.skip))) (.seq (zR [zm 14 1,zL 15 14,zc 16 .eql 15 1,zn 17 16,zg (zm 18 1) 17 true,⟨.l 19,.index (.l 18) (kI 0),some ((.l 17),true)⟩,⟨.l 20,.bin .lss (.l 19) (.c (.int .u8 (128))),some ((.l 17),true)⟩,zp 21 17 20] (.cond (.l 21) (.seq (.draw [(zm 22 0,[]),(zm 23 1,[0]),(⟨.l 24,.index (.l 23) (kI 0),none⟩,[0]),(z2 25 287 22 24,[]),(zm 26 1,[0,1,2,3]),(⟨.l 27,.index (.l 26) (kI 0),none⟩,[0,1,2,3]),(z2 28 286 25 27,[]),(zw 2 28,[])]) (.ret)) (.skip))) (.seq (zR [zm 30 1,z1 31 288 30,zn 29 31,ze 32 0 29,ze 33 1 29,⟨.p 3,.alloc 286 yg,none⟩,zs 256 3 32,zw 4 33] (zR [zm 34 4] (.cond (.l 34) (zR [zm 35 0,⟨.l 36,.call (kF 290) [(.l 35),(.p 3)],none⟩,⟨.l 37,.call (kF 289) [(.l 36),(.p 3)],none⟩,zw 2 37] (.ret)) (.skip)))) (zR [zm 38 0,zm 39 1,z2 40 292 38 39,zm 41 1,z2 42 291 40 41,zw 2 42] (.ret)))))
theorem abl:FT 257=some ⟨43,[0,1,4,5,6],[.var (.p 2)],Mt⟩:=by kernel_rfl
def abm:an:=.seq (zR [zm 6 3,zm 7 0,zL 8 7,zb 9 .lss 6 8] (.cond (.l 9) (.skip) (.exit 0))) (.seq (.block 1 (zR [zm 12 0,zm 13 3,⟨.l 14,.index (.l 12) (.l 13),none⟩,zw 4 14] (.seq (zR [zm 15 4,⟨.l 16,.bin .geq (.l 15) (.c (.int .u8 (128))),none⟩] (.cond (.l 16) (zR [zt 17 256 1,zs 256 1 17,⟨.p 2,.mv (.c (.bool false)),none⟩] (.ret)) (.skip))) (.region [zm 18 4,⟨.l 19,.du (some 256) 1 (.p 1) (.l 18),none⟩,⟨.no,.store 1 (.l 19) (.c (.bool true)),none⟩])))) (.region [zm 10 3,zc 11 .add 10 1,zw 3 11]))
def Eu:an:=zR [⟨.p 1,.alloc 286 yg,none⟩,⟨.p 2,.mv (.c (.bool false)),none⟩] (.seq (zR [zi 3 0] (.block 0 (.loop abm))) (zR [zt 20 256 1,zs 256 1 20,⟨.p 2,.mv (.c (.bool true)),none⟩] (.ret)))
theorem abn:FT 288=some ⟨21,[0,2,3,4,5],[.cell 256 true (.p 1),.var (.p 2)],Eu⟩:=by kernel_rfl
def tv:an:=.seq (zR [zm 5 0,zL 6 5,zc 7 .gtr 6 0] (.cond (.l 7) (.skip) (.exit 0))) (.block 1 (.seq (zR [zm 8 1,zm 9 0,⟨.l 10,.index (.l 9) (kI 0),none⟩,z2 11 314 8 10,zu 12 11] (.cond (.l 12) (.exit 0) (.skip))) (.region [zm 13 0,⟨.l 14,.slice .str 1 (.l 13) (some (kI 1)) none none,none⟩,zw 0 14])))
def Mu:an:=zR [⟨.p 2,.mv (.c (.str [])),none⟩] (.seq (.block 0 (.loop tv)) (zR [zm 15 0,zw 2 15] (.ret)))
theorem abo:FT 289=some ⟨16,[0,1,4],[.var (.p 2)],Mu⟩:=by kernel_rfl
def tw:an:=.seq (zR [zm 5 0,zL 6 5,zc 7 .gtr 6 0] (.cond (.l 7) (.skip) (.exit 0))) (.block 1 (.seq (zR [zm 8 1,zm 9 0,zm 10 0,zL 11 10,zc 12 .sub 11 1,⟨.l 13,.index (.l 9) (.l 12),none⟩,z2 14 314 8 13,zu 15 14] (.cond (.l 15) (.exit 0) (.skip))) (.region [zm 16 0,zm 17 0,zL 18 17,zc 19 .sub 18 1,⟨.l 20,.slice .str 1 (.l 16) none (some (.l 19)) none,none⟩,zw 0 20])))
def Mv:an:=zR [⟨.p 2,.mv (.c (.str [])),none⟩] (.seq (.block 0 (.loop tw)) (zR [zm 21 0,zw 2 21] (.ret)))
theorem abp:FT 290=some ⟨22,[0,1,4],[.var (.p 2)],Mv⟩:=by kernel_rfl
def Mw:an:=zR [⟨.p 2,.mv (.c (.bool false)),none⟩] (zR [zm 5 0,zm 6 1,⟨.l 7,.jJ (.l 5),none⟩,⟨.l 8,.du (some 256) 1 (.l 7) (.l 6),none⟩,zd 9 1 8,zw 2 9] (.ret))
theorem abq:FT 314=some ⟨10,[0,1,4],[.var (.p 2)],Mw⟩:=by kernel_rfl
def Mx:an:=zR [⟨.p 1,.mv (.c (.bool false)),none⟩] (zR [zm 3 0,z1 4 209 3,zn 5 4,zg (zm 6 0) 5 true,⟨.l 7,.index (.l 6) (kI 0),some ((.l 5),true)⟩,⟨.l 8,.bin .neq (.l 7) (.c (.int .u8 (48))),some ((.l 5),true)⟩,zg (zn 9 8) 5 true,zg (zm 10 0) 9 false,⟨.l 11,.bin .eql (.l 10) (.c (.str [48])),some ((.l 9),false)⟩,zg (zP 12 9 11) 5 true,zp 13 5 12,zw 1 13] (.ret))
theorem abr:FT 164=some ⟨14,[0,2],[.var (.p 1)],Mx⟩:=by kernel_rfl
theorem akk {t esz n0:Nat}{x i:aN}{l:List aT}{pe:List AV}{lo:List (Nat×AV)}{hp:ab}{df wr:List Nat}{b o:Nat}{k:IntKind}{n:Int}{Q:aq->Prop}(hx:(St.mk pe lo hp df).ae x=some (.ptr b o))(hy:(St.mk pe lo hp df).ae i=some (.int k n))(hb:0<=n/\n<n0)
 (h:WO M l ⟨⟨pe,(t,.ptr b (o+n.toNat*esz))::lo,hp,df⟩,wr⟩ Q):WO M (⟨.l t,.du (some n0) esz x i,none⟩::l) ⟨⟨pe,lo,hp,df⟩,wr⟩ Q:=
 aak (v:=.ptr b (o+n.toNat*esz)) (by simp[aV,hx,hy,nz,hb]) rfl h
theorem ajQ {t:Nat}{x y:aN}{l:List aT}{pe:List AV}{lo:List (Nat×AV)}{hp:ab}{df wr:List Nat}{a b:Int}{Q:aq->Prop}(hx:(St.mk pe lo hp df).ae x=some (.int .u8 a))(hy:(St.mk pe lo hp df).ae y=some (.int .u8 b))(hr:0<=a-b/\a-b<256)
 (h:WO M l ⟨⟨pe,(t,.int .u8 (a-b))::lo,hp,df⟩,wr⟩ Q):WO M (⟨.l t,.bin .sub x y,none⟩::l) ⟨⟨pe,lo,hp,df⟩,wr⟩ Q:=
 aak (v:=.int .u8 (a-b)) (by
  have:IntKind.u8.wrap (a-b)=a-b:=by simp only[IntKind.wrap,IntKind.bits,IntKind.signed];simp;omega
  simp only[aV,hx,hy,cK,if_true,this]) rfl h
def hasB (c:Int)(s:ah):Bool:=s.any (fun b=>decide ((b.toNat:Int)=c))
theorem abu (s:ah)(b:UInt8):decide (0<=firstIdx ⟨s.toArray⟩ b)=hasB b.toNat s:=by
 unfold firstIdx hasB;have hsz:(ByteArray.mk s.toArray).size=s.length:=by simp[ByteArray.size]
 have hg:∀i,i<s.length->(ByteArray.mk s.toArray)[i]! = s[i]! := fun i hi=>by
  have h1:i<(ByteArray.mk s.toArray).size:=by rw[hsz];exact hi
  rw[getElem!_pos (ByteArray.mk s.toArray) i h1,getElem!_pos s i hi];rfl
 cases hf:(List.range (ByteArray.mk s.toArray).size).find? fun i=>(ByteArray.mk s.toArray)[i]! == b with
 | some i=>
  have h1:=List.find?_some hf;have h2:=List.mem_of_find?_eq_some hf;rw[List.mem_range,hsz]at h2;rw[hg i h2]at h1;symm
  simp only[decide_eq_true (show (0:Int)<=(i:Int) by omega)];rw[List.any_eq_true];refine⟨s[i],List.getElem_mem h2,?_⟩;rw[getElem!_pos s i h2]at h1;simp at h1;simp[h1]
 | none=>
  rw[List.find?_eq_none]at hf;symm
  rw[show decide ((0:Int) <= -1)=false from rfl];rw[List.any_eq_false];intro x hx;obtain⟨i,hi,rfl⟩:=List.mem_iff_getElem.1 hx;have:=hf i (by rw[List.mem_range,hsz];exact hi);rw[hg i hi,getElem!_pos s i hi]at this;simp at this;simp only[decide_eq_true_eq];intro e;exact this (UInt8.toNat_inj.1 (by omega))
structure tx (M:aw):Prop where
 ft:M.FT=FT
 My:∀ars h,M.ext 256 ars h=none
 Mz:∀ars h,M.ext 282 ars h=none
 MA:∀(s:ah) (c:Int) h,M.ext 312 [.str s,.int .u8 c] h=some ⟨.iV (firstIdx ⟨s.toArray⟩ c.toNat.toUInt8),h,[]⟩
theorem abv (b:UInt8):((b.toNat:Int)).toNat.toUInt8=b:=by simp
theorem abw (C:tx M)(s:ah)(b:UInt8)(H:ab):CT M (ir 282) [.str s,.int .u8 b.toNat] H ⟨.iV (firstIdx ⟨s.toArray⟩ b),H,[]⟩:=by
 have hc:=C.MA s b.toNat H;rw[abv]at hc;refine CT.run (C.Mz _ _) (mI (by rw[C.ft];exact abh) (by simp) ?_);simp only[List.nil_append,List.append_nil];unfold Mp;simp only[enter];repeat' first|(apply aal;rfl;rfl;first|exact hc)|refine gc ?_|fail
 exact⟨.inr rfl,rfl,rfl,rfl,_,rfl,rfl⟩
theorem abx (C:tx M)(s:ah)(b:UInt8)(H:ab):CT M (ir 256) [.str s,.str [b]] H ⟨.iV (firstIdx ⟨s.toArray⟩ b),H,[]⟩:=by
 have hc:=abw C s b H;have hn0:¬(([b]:ah).length:Int)=0:=by simp
 have hn:(([b]:ah).length:Int)=1:=rfl;refine CT.run (C.My _ _) (mI (by rw[C.ft];exact abg) (by simp) ?_);simp only[List.nil_append,List.append_nil];unfold Mo;simp only[enter];by_cases hs:([b]:ah)=s
 . subst hs;have e:firstIdx ⟨([b]:ah).toArray⟩ b=0:=by
    have h1:=abu [b] b;have h2:hasB b.toNat [b]=true:=by simp[hasB]
    rw[h2,decide_eq_true_eq]at h1;unfold firstIdx at h1 ⊢;rw[show (ByteArray.mk ([b]:ah).toArray).size=1 from rfl]at h1 ⊢;rw[show List.range 1=[0] from rfl]at h1 ⊢;have h3:((ByteArray.mk ([b]:ah).toArray)[0]! == b)=true:=by
     cases hq:((ByteArray.mk ([b]:ah).toArray)[0]! == b) with
     | true=>rfl
     | false=>simp[hq]at h1
    simp only[List.find?_cons,h3];rfl
   rw[e];exact gg6
 . repeat' first|(apply aeX;rfl;rfl;all_goals first|(intro h;exact absurd h hs)|intro _)|(apply acJ;rfl;rfl)|refine gd9 ?_|refine gc ?_|(intro _;omega)|intro _
   all_goals exact⟨.inr rfl,rfl,rfl,rfl,_,rfl,rfl⟩
def bD (b:UInt8):ah->ah×Option ah
 | []=>([],none)
 | c::s=>if c=b then ([],some s) else (c::(bD b s).1,(bD b s).2)
def nc (b:UInt8):ah->List ah
 | []=>[[]]
 | c::s=>if c=b then []::nc b s else match nc b s with
   | []=>[[c]]
   | x::l=>(c::x)::l
def lS (b:UInt8):ah->Nat
 | []=>0
 | c::s=>(if c=b then 1 else 0)+lS b s
theorem nd {b:UInt8}:∀{s:ah},(bD b s).2=none->(bD b s).1=s/\nc b s=[s]/\lS b s=0
 | [],_=>⟨rfl,rfl,rfl⟩
 | c::s,h=>by
  rw[bD]at h ⊢;by_cases hc:c=b
  . rw[if_pos hc]at h;cases h
  . rw[if_neg hc]at h ⊢;obtain⟨h1,h2,h3⟩:=nd (s:=s) h;refine⟨by simp only;rw[h1],?_,?_⟩
    . rw[nc,if_neg hc,h2]
    . rw[lS,if_neg hc,h3]
theorem qO {b:UInt8}:∀{s y:ah},(bD b s).2=some y->s=(bD b s).1++b::y/\nc b s=(bD b s).1::nc b y/\lS b s=lS b y+1/\b∉(bD b s).1
 | [],y,h=>by cases h
 | c::s,y,h=>by
  rw[bD]at h ⊢;by_cases hc:c=b
  . rw[if_pos hc]at h ⊢;obtain rfl:s=y:=Option.some.inj h;subst hc;refine⟨rfl,?_,?_,by simp⟩
    . rw[nc,if_pos rfl]
    . rw[lS,if_pos rfl];omega
  . rw[if_neg hc]at h ⊢;obtain⟨h1,h2,h3,h4⟩:=qO (s:=s) h;refine⟨by simp only[List.cons_append];rw[←h1],?_,?_,?_⟩
    . rw[nc,if_neg hc,h2]
    . rw[lS,if_neg hc,h3];omega
    . simp only[List.mem_cons,not_or];exact⟨fun e=>hc e.symm,h4⟩
theorem aby (s:ah)(b:UInt8):firstIdx ⟨s.toArray⟩ b=if (bD b s).2=none then -1 else ((bD b s).1.length:Int):=by
 have hsz:(ByteArray.mk s.toArray).size=s.length:=by simp[ByteArray.size]
 have hg:∀i,i<s.length->(ByteArray.mk s.toArray)[i]! = s[i]! := fun i hi=>by
  have h1:i<(ByteArray.mk s.toArray).size:=by rw[hsz];exact hi
  rw[getElem!_pos (ByteArray.mk s.toArray) i h1,getElem!_pos s i hi];rfl
 unfold firstIdx;cases hy:(bD b s).2 with
 | none=>
  rw[if_pos rfl];cases hf:(List.range (ByteArray.mk s.toArray).size).find? fun i=>(ByteArray.mk s.toArray)[i]! == b with
  | none=>rfl
  | some i=>
   exfalso;have h1:=List.find?_some hf;have h2:=List.mem_of_find?_eq_some hf;rw[List.mem_range,hsz]at h2;rw[hg i h2,getElem!_pos s i h2]at h1;have hm:b∈s:=by
    have:s[i]=b:=by simpa using h1
    rw[←this];exact List.getElem_mem h2
   have h0:=(nd hy).2.2;have:∀s:ah,b∈s->0<lS b s:=fun s=>by
    induction s with
    | nil=>intro h;cases h
    | cons c s ih=>
     intro h;rw[lS];rcases List.mem_cons.1 h with rfl|h
     . rw[if_pos rfl];omega
     . have:=ih h;omega
   have:=this s hm;omega
 | some y=>
  rw[if_neg (by simp)];obtain⟨h1,_,_,h4⟩:=qO hy;generalize (bD b s).1=x at h1 h4 ⊢;have hl:x.length<s.length:=by rw[h1];simp
  have hf:((List.range (ByteArray.mk s.toArray).size).find? fun i=>(ByteArray.mk s.toArray)[i]! == b)=some x.length:=by
   rw[hsz,List.find?_range_eq_some];refine⟨?_,by simpa using hl,fun j hj=>?_⟩
   . rw[hg _ hl,getElem!_pos s _ hl];have:s[x.length]? = some b:=by rw[h1];simp
     rw[List.getElem?_eq_getElem hl]at this;simp[Option.some.inj this]
   . rw[hg j (by omega),getElem!_pos s j (by omega)];have:s[j]? = x[j]? := by rw[h1,List.getElem?_append_left hj]
     rw[List.getElem?_eq_getElem (by omega:j<s.length),List.getElem?_eq_getElem hj]at this;rw[Option.some.inj this];have hne:x[j]≠b:=fun e=>h4 (by rw[←e];exact List.getElem_mem hj)
     simp[hne]
  rw[hf]
def iK (b:UInt8)(s:ah):AV:=.au [.str (bD b s).1,.str ((bD b s).2.getD []),.bool (bD b s).2.isSome]
theorem tz {b:UInt8}{s y:ah}(h:(bD b s).2=some y):s.length=(bD b s).1.length+1+y.length:=by
 have:=congrArg List.length (qO h).1;simp only[List.length_append,List.length_cons]at this;omega
theorem Ev {b:UInt8}{s y:ah}(h:(bD b s).2=some y):s.take (bD b s).1.length=(bD b s).1:=by
 have e:=(qO h).1;generalize (bD b s).1=x at e ⊢;rw[e];simp
theorem MB {b:UInt8}{s y:ah}(h:(bD b s).2=some y):s.drop ((bD b s).1.length+1)=y:=by
 have e:=(qO h).1;generalize (bD b s).1=x at e ⊢;rw[e];simp
theorem abz (n208:∀ars h,M.ext 208 ars h=none)(C:tx M)(s:ah)(b:UInt8)(hl:s.length<1000000)(H:ab):CT M (ir 208) [.str s,.str [b]] H ⟨iK b s,H,[]⟩:=by
 have hc:=abx C s b H;have hn1:([b]:ah).length=1:=rfl;rw[aby]at hc;refine CT.run (n208 _ _) (mI (by rw[C.ft];exact abe) (by simp) ?_);simp only[List.nil_append,List.append_nil];cases hy:(bD b s).2 with
 | none=>
  rw[if_pos hy]at hc;have h1:=(nd hy).1;unfold Et;simp only[enter];refine gg11 ?_;refine⟨.inr rfl,rfl,rfl,rfl,_,rfl,?_⟩;simp only[iK,hy,h1];rfl
 | some y=>
  rw[if_neg (by rw[hy];simp)]at hc;have h1:=tz hy;have h2:=Ev hy;have h3:=MB hy;generalize hx:(bD b s).1=x at h1 h2 h3 hc;unfold Et;simp only[enter];refine gg11 ?_;refine⟨.inr rfl,rfl,rfl,rfl,_,rfl,?_⟩;simp only[iK,hy,hx];rfl
theorem abA (n208:∀ars h,M.ext 208 ars h=none)(C:tx M)(s:ah)(b:UInt8)(hl:s.length<1000000):aS M 163 [.str s,.str [b]] [] ⟨iK b s,[],[]⟩:=by
 have hc:=abz n208 C s b hl [];unfold iK at hc ⊢;refine bC (by rw[C.ft];exact abd) (by simp) ?_;unfold Mn;simp only[enter];exact gg9
@[irreducible] def ff:List AV:=(List.range 256).map fun i=>.bool (xS i)
def nf:ah:=[48,49,50,51,52,53,54,55,56,57]
set_option maxRecDepth 1000000 in
theorem abB (M:aw):gD (bj M.ext M.inv M.FT 100) (fun _=>some ⟨21,[0,2,3,4,5],[.cell 256 true (.p 1),.var (.p 2)],Eu⟩) 288 [.str nf] []=some ⟨.au [.agg ff,.bool true],[],[]⟩:=by
 kernel_rfl
theorem abC {run:an->aq->Option (Ex×aq)}{F G:FuncId->Option cW}{f:FuncId}(h:F f=G f)(ars:List AV)(hp:ab):gD run F f ars hp=gD run G f ars hp:=by
 simp only[gD,h]
theorem abD (hft:M.FT=FT):aS M 288 [.str nf] [] ⟨.au [.agg ff,.bool true],[],[]⟩:=by
 have h2:M.FT 288=(fun _=>some ⟨21,[0,2,3,4,5],[.cell 256 true (.p 1),.var (.p 2)],Eu⟩:FuncId->Option cW) 288:=by rw[hft];exact abn
 exact⟨100,(abC h2 _ _).trans (abB M)⟩
structure pc (M:aw):Prop where
 ft:M.FT=FT
 MC:∀ars h,M.ext 314 ars h=none
 MD:∀ars h,M.ext 289 ars h=none
 ME:∀ars h,M.ext 290 ars h=none
 yi:∀h,M.ext 288 [.str nf] h=some ⟨.au [.agg ff,.bool true],h,[]⟩
theorem abE {c:Nat}(h:c<256):ff[c]? = some (.bool (xS c)):=by
 simp[ff,h]
theorem abF {c:UInt8}:partOf (ff.drop (0+((c.toNat:Int)).toNat*1)) 0 1 false=some (.bool (bF c)):=by
 have hc:c.toNat<256:=c.toNat_lt;rw[BT,Int.toNat_natCast,Nat.zero_add,Nat.mul_one];simp only[partOf,Bool.false_eq_true,if_false];exact abE hc
theorem MF (C:pc M)(c:UInt8){H:ab}{b:Nat}(hb:H.at b=some (.cells ff 286)):CT M (ir 314) [.ptr b 0,.int .u8 c.toNat] H ⟨.bool (bF c),H,[]⟩:=by
 have hc:c.toNat<256:=c.toNat_lt;refine CT.run (C.MC _ _) (mI (by rw[C.ft];exact abq) (by simp) ?_);simp only[List.nil_append,List.append_nil];unfold Mw;simp only[enter];repeat' first|(apply akk;rfl;rfl;omega)|(apply aiD;rfl;exact hb;exact abF)|refine gc ?_|fail
 exact⟨.inr rfl,rfl,rfl,rfl,_,rfl,rfl⟩
def jY (s:ah):ah:=s.dropWhile bF
def iN (s:ah):ah:=(s.reverse.dropWhile bF).reverse
theorem MG (s:ah)(c:UInt8):iN (s++[c])=if bF c then iN s else s++[c]:=by
 unfold iN;rw[List.reverse_append,List.reverse_singleton,List.singleton_append,List.dropWhile_cons];split
 . rfl
 . simp
theorem abG (C:pc M){H:ab}{b:Nat}(hb:H.at b=some (.cells ff 286)){Q:Ex->aq->Prop}:∀(n:Nat) (s:ah) (lo:List (Nat×AV)) (wr:List Nat) (_:wr=[]),s.length=n->n<1000000 ->
 (∀lo,Q (.exit 0) ⟨⟨[.str (iN s),.ptr b 0,.str []],lo,H,[]⟩,[]⟩)->W M (.loop tw) ⟨⟨[.str s,.ptr b 0,.str []],lo,H,[]⟩,wr⟩ Q:=by
 intro n;induction n with
 | zero=>
  intro s lo wr hw hs hn hQ;subst hw;obtain rfl:s=[]:=List.length_eq_zero_iff.1 hs;have h0:([]:ah).length=0:=rfl;refine W.loop ?_;unfold tw;exact gg3
 | succ n ih=>
  intro s lo wr hw hs hn hQ;subst hw;rcases List.eq_nil_or_concat s with rfl|⟨t,c,e⟩
  . cases hs
  . rw[List.concat_eq_append]at e;subst e;have hl:(t++[c]).length=t.length+1:=by simp
    have hg:(t++[c])[(((t++[c]).length:Int)-1).toNat]! = c:=by
     rw[show (((t++[c]).length:Int)-1).toNat=t.length by omega,getElem!_pos _ _ (by simp)];simp
    have hc:=MF C c hb;rw[MG]at hQ;cases hd:bF c with
    | true=>
     rw[hd]at hc;rw[if_pos hd]at hQ;refine W.loop ?_;unfold tw;refine gg11 ?_;refine fQ ?_;exact ih t _ _ rfl (by omega) (by omega) hQ
    | false=>
     rw[hd]at hc;rw[if_neg (by rw[hd];simp)]at hQ;refine W.loop ?_;unfold tw;exact gg9
theorem abH (C:pc M){H:ab}{b:Nat}(hb:H.at b=some (.cells ff 286))(s:ah)(hl:s.length<1000000):CT M (ir 290) [.str s,.ptr b 0] H ⟨.str (iN s),H,[]⟩:=by
 refine CT.run (C.ME _ _) (mI (by rw[C.ft];exact abp) (by simp) ?_);simp only[List.nil_append,List.append_nil];unfold Mv;simp only[enter];repeat' first|refine gc ?_|fail
 refine abG C hb s.length s _ _ rfl rfl hl fun lo=>?_
 repeat' first|refine gc ?_|fail
 exact⟨.inr rfl,rfl,rfl,rfl,_,rfl,rfl⟩
theorem MH (C:pc M){H:ab}{b:Nat}(hb:H.at b=some (.cells ff 286)){Q:Ex->aq->Prop}:∀(s:ah) (lo:List (Nat×AV)) (wr:List Nat) (_:wr=[]),s.length<1000000 ->
 (∀lo,Q (.exit 0) ⟨⟨[.str (jY s),.ptr b 0,.str []],lo,H,[]⟩,[]⟩)->W M (.loop tv) ⟨⟨[.str s,.ptr b 0,.str []],lo,H,[]⟩,wr⟩ Q
 | [],lo,wr,hw,hn,hQ=>by
  subst hw;have h0:([]:ah).length=0:=rfl;refine W.loop ?_;unfold tv;exact gg3
 | c::s,lo,wr,hw,hn,hQ=>by
  subst hw;have hl:(c::s).length=s.length+1:=rfl;have hc:=MF C c hb;have e:jY (c::s)=if bF c then jY s else c::s:=List.dropWhile_cons ..
  rw[e]at hQ;cases hd:bF c with
  | true=>
   rw[hd]at hc;rw[if_pos hd]at hQ;refine W.loop ?_;unfold tv;refine gg11 ?_;refine fQ ?_;exact MH C hb s _ _ rfl (by omega) hQ
  | false=>
   rw[hd]at hc;rw[if_neg (by rw[hd];simp)]at hQ;refine W.loop ?_;unfold tv;exact gg9
theorem abI (C:pc M){H:ab}{b:Nat}(hb:H.at b=some (.cells ff 286))(s:ah)(hl:s.length<1000000):CT M (ir 289) [.str s,.ptr b 0] H ⟨.str (jY s),H,[]⟩:=by
 refine CT.run (C.MD _ _) (mI (by rw[C.ft];exact abo) (by simp) ?_);simp only[List.nil_append,List.append_nil];unfold Mu;simp only[enter];repeat' first|refine gc ?_|fail
 refine MH C hb s _ _ rfl hl fun lo=>?_
 repeat' first|refine gc ?_|fail
 exact⟨.inr rfl,rfl,rfl,rfl,_,rfl,rfl⟩
theorem MI {p:UInt8->Bool}:∀s:ah,(s.dropWhile p).length<=s.length
 | []=>Nat.le_refl _
 | c::s=>by
  rw[List.dropWhile_cons];have:=MI (p:=p) s;split
  . rw[List.length_cons];omega
  . exact Nat.le_refl _
theorem abJ (s:ah):(iN s).length<=s.length:=by
 unfold iN;have:=MI (p:=bF) s.reverse;simpa using this
theorem MJ:ff.length=256:=by simp[ff]
theorem abK:ff.all cG=true:=by
 simp only[ff,List.all_map,List.all_eq_true];intro x _;rfl
theorem abL {a b:List AV}(h:a.length=b.length):overwrite a 0 b=b:=by
 unfold overwrite;rw[List.take_zero,List.nil_append,List.drop_of_length_le (by omega),List.append_nil]
theorem MK:yg.length=256:=by kernel_rfl
theorem abM:overwrite yg 0 ff=ff:=abL (by rw[MJ,MK])
theorem abN (C:pc M)(s:ah)(hl:s.length<1000000):aS M 257 [.str s,.str nf] [] ⟨.str (jY (iN s)),[],[]⟩:=by
 have hD:nf.length=10:=rfl;have hT:=abJ s;have yi:=C.yi [];have hb:ab.at [some (.cells ff 286)] 0=some (.cells ff 286):=rfl;have q1:=abH C hb s hl;have q2:=abI C hb (iN s) (by omega);refine bC (by rw[C.ft];exact abl) (by simp) ?_;unfold Mt;simp only[enter];by_cases h0:s=[]
 . subst h0;exact gg8
 . repeat' first|(apply aeX;rfl;rfl;(intro h;first|exact absurd h h0|exact absurd h (by decide));intro _)|(apply acJ;rfl;rfl)|(apply aal;rfl;rfl;first|exact yi)|(apply adX (c':=ff);rfl;rfl;rfl;exact⟨MJ,Nat.le_of_eq ((Nat.zero_add _).trans MK.symm),abK⟩;exact abM)|(apply aeT;rfl;rfl;first|exact q1|exact q2)|refine gc ?_|(intro _;omega)|intro _
   exact⟨.inr rfl,rfl,_,rfl,rfl,rfl⟩
structure ML (M:aw):Prop where
 ft:M.FT=FT
 abO:∀ars h,M.ext 259 ars h=none
theorem abP {s:ah}{i:Nat}(h:i<s.length):(br s)[i]? = some (.int .u8 (s[i]!).toNat):=by
 rw[br,List.getElem?_map,List.getElem?_eq_getElem h,getElem!_pos s i h];rfl
theorem abQ {H:ab}{c:Nat}(s:ah)(hb:H.at c=some (.cells (br s) 5))(hs:s.length<=18)(hd:s.all bF=true)(cp:Option Nat)(a1 a2 a3 a4 a7 a8:AV){Q:Ex->aq->Prop}:∀(r i n:Nat) (a6:AV) (lo:List (Nat×AV)) (wr:List Nat),i+r=s.length->n<10^i ->
 (∀a6 lo,Q (.exit 0) ⟨⟨[.str s,a1,a2,a3,a4,.iV (az n (s.drop i)),a6,a7,a8,.sl c 0 s.length 1 cp,.iV s.length,.iV s.length],lo,H,[]⟩,wr⟩) ->
 W M (.loop yh) ⟨⟨[.str s,a1,a2,a3,a4,.iV n,a6,a7,a8,.sl c 0 s.length 1 cp,.iV s.length,.iV i],lo,H,[]⟩,wr⟩ Q:=by
 intro r;induction r with
 | zero=>
  intro i n a6 lo wr hi hn hQ;obtain rfl:i=s.length:=by omega
  rw[List.drop_length]at hQ;refine W.loop ?_;unfold yh;exact gg0
 | succ r ih=>
  intro i n a6 lo wr hi hn hQ;have hil:i<s.length:=by omega
  have hp:10^i<=10^17:=Nat.pow_le_pow_right (by decide) (by omega);have hg:s[i]! = s[i]:=getElem!_pos s i hil;have hm:=List.all_eq_true.1 hd (s[i]!) (by rw[hg];exact List.getElem_mem hil);have hx:=(kH _).1 hm;rw[List.drop_eq_getElem_cons hil,tk,←hg]at hQ;have hpart:partOf ((br s).drop (0+((i:Int)).toNat*1)) 0 1 false=some (.int .u8 (s[i]!).toNat):=by
   rw[BT,Int.toNat_natCast,Nat.zero_add,Nat.mul_one];simp only[partOf,Bool.false_eq_true,if_false];exact abP hil
  refine W.loop ?_;unfold yh;refine gg7 ?_;refine fQ ?_;have hpow:10^(i+1)=10*10^i:=by rw[Nat.pow_succ,Nat.mul_comm]
  have e:=ih (i+1) (10*n+((s[i]!).toNat-48));rw[show (((10*n+((s[i]!).toNat-48):Nat):Int))=(n:Int)*10+(((s[i]!).toNat:Int)-48) by omega,show (((i+1:Nat):Int))=(i:Int)+1 by omega]at e;exact e _ _ _ (by omega) (by omega) hQ
theorem abR (C:ML M)(s:ah)(h0:s≠[])(hl:s.length<=18)(hd:s.all bF=true)(H:ab):aS M 259 [.str s] H ⟨.au [.iV (az 0 s),.cS],H,[]⟩:=by
 have hpos:0<s.length:=List.length_pos_iff.2 h0;have hg:s[0]! = s[0]:=getElem!_pos s 0 hpos;have hx:48<=(s[Int.toNat 0]!).toNat/\(s[Int.toNat 0]!).toNat<58:=(kH _).1 (List.all_eq_true.1 hd (s[0]!) (by rw[hg];exact List.getElem_mem hpos));refine lF (by rw[C.ft];exact abc) (by simp) (Nat.zero_le _) ?_;unfold Mm;simp only[enter];refine gg16 ?_;refine abQ (H:=H++[some (.cells (br s) 5)]) (c:=H.length) s cU hl hd none _ _ _ _ _ _ s.length 0 0 _ _ _ (by omega) (by simp) (fun a6 lo=>?_);rw[List.drop_zero];repeat' first|(apply acJ;rfl;rfl)|refine gc ?_|(intro _;omega)|intro _
 exact⟨.inr rfl,rfl,⟨_,rfl⟩,fun x h=>by simp at h,_,rfl,rfl⟩
theorem abS (C:ML M)(s:ah)(h0:s≠[])(hl:s.length<=18)(hd:s.all bF=true):aS M 214 [.str s] [] ⟨.au [.iV (az 0 s),.cS],[],[]⟩:=by
 have hc:=CT.run (fi:=[]) (ca:=[]) (ars:=[.str s]) (C.abO _ _) (abR C s h0 hl hd []);refine bC (by rw[C.ft];exact abb) (by simp) ?_;unfold Ml;simp only[enter];exact gg9
theorem dropWhile_nil {p:UInt8->Bool}:∀l:ah,l.dropWhile p=[]↔∀x∈l,p x=true
 | []=>by simp
 | c::l=>by
  rw[List.dropWhile_cons];split
  . rename_i h;rw[dropWhile_nil l];simp[h]
  . rename_i h;simp[h]
theorem MM (s:ah):jY (iN s)=[]↔s.all bF=true:=by
 rcases List.eq_nil_or_concat s with rfl|⟨t,c,e⟩
 . simp[jY,iN]
 . rw[List.concat_eq_append]at e;subst e;have hlen:t.length<(t++[c]).length:=by simp
   rw[MG];split
   . rename_i h;rw[MM t];simp only[List.all_append,List.all_cons,List.all_nil,h,Bool.and_true]
   . rename_i h;unfold jY;rw[dropWhile_nil,List.all_eq_true]
termination_by s.length
decreasing_by subst_vars;simp
def preB (b:UInt8)(s:ah):Bool:=decide (s.head? = some b)
def bH (b:UInt8)(s:ah):ah:=if s.head? = some b then s.tail else s
theorem qP (b:UInt8)(s:ah):(bH b s).length<=s.length:=by unfold bH;split <;> simp
theorem abT (hft:M.FT=FT)(s:ah)(b:UInt8)(hl:s.length<1000000):aS M 255 [.str s,.str [b]] [] ⟨.bool (preB b s),[],[]⟩:=by
 have hn1:([b]:ah).length=1:=rfl;refine bC (by rw[hft];exact aaY) (by simp) ?_;cases s with
 | nil=>
  have h0:([]:ah).length=0:=rfl;unfold Es;simp only[enter];exact gg8
 | cons c t=>
  have hcl:(c::t).length=t.length+1:=rfl;have hd:(c::t).take (([b]:ah).length:Int).toNat=[c]:=rfl;have he:preB b (c::t)=decide (c=b):=by simp[preB]
  rw[he];unfold Es;simp only[enter];by_cases hc:c=b
  . subst hc;rw[decide_eq_true rfl];exact gg8
  . rw[decide_eq_false hc];exact gg8
theorem abU (hft:M.FT=FT)(s:ah)(b:UInt8)(q:∀h,M.ext 255 [.str s,.str [b]] h=some ⟨.bool (preB b s),h,[]⟩):aS M 212 [.str s,.str [b]] [] ⟨.bool (preB b s),[],[]⟩:=by
 refine bC (by rw[hft];exact aaX) (by simp) ?_;unfold Mi;simp only[enter];exact gg1
theorem tA {b:UInt8}{s:ah}(h:preB b s=true):s.drop (([b]:ah).length:Int).toNat=bH b s/\1<=s.length:=by
 have h:=of_decide_eq_true h;unfold bH;rw[if_pos h];cases s with
 | nil=>simp at h
 | cons c t=>exact⟨rfl,by simp⟩
theorem jZ {b:UInt8}{s:ah}(h:preB b s=false):bH b s=s:=if_neg (of_decide_eq_false h)
theorem abV (hft:M.FT=FT)(s:ah)(b:UInt8)(hl:s.length<1000000)(q:∀h,M.ext 255 [.str s,.str [b]] h=some ⟨.bool (preB b s),h,[]⟩):aS M 258 [.str s,.str [b]] [] ⟨.str (bH b s),[],[]⟩:=by
 have hn1:([b]:ah).length=1:=rfl;refine bC (by rw[hft];exact aba) (by simp) ?_;unfold Mk;simp only[enter];cases hp:preB b s with
 | true=>
  rw[hp]at q;obtain⟨h1,h2⟩:=tA hp;exact gg6
 | false=>
  rw[hp]at q;rw[jZ hp];exact gg1
theorem abW (hft:M.FT=FT)(s:ah)(b:UInt8)(q:∀h,M.ext 258 [.str s,.str [b]] h=some ⟨.str (bH b s),h,[]⟩):aS M 213 [.str s,.str [b]] [] ⟨.str (bH b s),[],[]⟩:=by
 refine bC (by rw[hft];exact aaZ) (by simp) ?_;unfold Mj;simp only[enter];exact gg1
theorem abX (hft:M.FT=FT)(s:ah)(b:UInt8)(hl:s.length<1000000)(q:∀h,M.ext 255 [.str s,.str [b]] h=some ⟨.bool (preB b s),h,[]⟩):aS M 207 [.str s,.str [b]] [] ⟨.au [.str (bH b s),.bool (preB b s)],[],[]⟩:=by
 have hn1:([b]:ah).length=1:=rfl;refine bC (by rw[hft];exact abj) (by simp) ?_;unfold Mr;simp only[enter];cases hp:preB b s with
 | true=>
  rw[hp]at q;obtain⟨h1,h2⟩:=tA hp;exact gg6
 | false=>
  rw[hp]at q;rw[jZ hp];exact gg1
theorem abY (hft:M.FT=FT)(s:ah)(b:UInt8)(q:∀h,M.ext 207 [.str s,.str [b]] h=some ⟨.au [.str (bH b s),.bool (preB b s)],h,[]⟩):aS M 162 [.str s,.str [b]] [] ⟨.au [.str (bH b s),.bool (preB b s)],[],[]⟩:=by
 refine bC (by rw[hft];exact abi) (by simp) ?_;unfold Mq;simp only[enter];exact gg1
structure yj (M:aw)(N:Nat):Prop extends CF M N where
 MN:∀(s:ah) h,s.length<1000000->M.ext 212 [.str s,.str [45]] h=some ⟨.bool (preB 45 s),h,[]⟩
 MO:∀(s:ah) h,s.length<1000000->M.ext 213 [.str s,.str [45]] h=some ⟨.str (bH 45 s),h,[]⟩
 MP:∀(s:ah) h,s≠[]->s.length<=18->s.all bF=true->M.ext 214 [.str s] h=some ⟨.au [.iV (az 0 s),.cS],h,[]⟩
 MQ:∀v A (K:Nat),ay v A->K<=18->K<=N->aj A<=10->∃v0,ay v0 (A^K)/\∀h,M.ext 215 [v,.iV K] h=some ⟨v0,h,[]⟩
theorem yk (n:Nat):(10:Int)^n<=wB^n:=by
 induction n with
 | zero=>decide
 | succ n ih=>
  rw[Int.pow_succ,Int.pow_succ];exact Int.mul_le_mul ih (by decide) (by decide) (Int.pow_nonneg (by decide))
theorem pd {s:ah}(h:s.all bF=true)(hl:s.length<=N):aj (az 0 s:Nat)<wB^N:=by
 have h1:=mW s h;rw[ck (by omega)];have h2:(az 0 s:Int)<(10:Int)^s.length:=by exact_mod_cast h1
 exact Int.lt_of_lt_of_le h2 (Int.le_trans (yk _) (fR (by decide) hl))
theorem MR {s:ah}(h:s.all bF=true)(hl:s.length<=18):az 0 s<1000000000000000000:=
 Nat.lt_of_lt_of_le (mW s h) (Nat.le_trans (Nat.pow_le_pow_right (by decide) hl) (by decide))
def Ew (so:Int)(wo:AV):ab:=[some (.cells [.iV 0,.aa] 131),some (.cells [.iV so,wo] 131)]
theorem abZ (C:yj M N){Q:Ex->aq->Prop}(full:ah)(hD:full.all bF=true)(hl:full.length<=N)(a2:AV)
 (hQ:∀so wo a4 a5 lo wr,ay (.agg [.iV so,wo]) (az 0 full:Nat)->Q (.exit 0) ⟨⟨[.str [],.ptr 0 0,a2,.ptr 1 0,a4,a5],lo,Ew so wo,[]⟩,wr⟩)
 (a4 a5:AV) (lo:List (Nat×AV)) (wr:List Nat) :
 W M (.loop ye) ⟨⟨[.str full,.ptr 0 0,a2,.ptr 1 0,a4,a5],lo,Ew 0 .aa,[]⟩,wr⟩ Q:=by
 have hlN:=C.lN;refine W.fV (fun m st=>∃t dn so wo a4 a5 lo wr,st=⟨⟨[.str t,.ptr 0 0,a2,.ptr 1 0,a4,a5],lo,Ew so wo,[]⟩,wr⟩/\t.length=m/\full=dn++t/\ay (.agg [.iV so,wo]) (az 0 dn:Nat))
  (fun m st ⟨t,dn,so,wo,a4,a5,lo,wr,hst,hm,hf,hv⟩=>?_) (m:=full.length) ⟨full,[],0,.aa,a4,a5,lo,wr,rfl,rfl,rfl,.small (by decide)⟩
 subst hst;cases t with
 | nil=>
  rw[List.append_nil]at hf;subst hf;have h0:([]:ah).length=0:=rfl;unfold ye;exact gg3
 | cons c t=>
  obtain⟨t',ht'⟩:∃t',t'=c::t:=⟨_,rfl⟩;rw[←ht']at hm hf ⊢;have hpos:0<t'.length:=by rw[ht'];simp
  have hDt:t'.all bF=true:=by rw[hf,List.all_append,Bool.and_eq_true]at hD;exact hD.2
  have hDd:dn.all bF=true:=by rw[hf,List.all_append,Bool.and_eq_true]at hD;exact hD.1
  have hfl:full.length=dn.length+t'.length:=by rw[hf,List.length_append]
  obtain⟨n,hn,hn1⟩:∃n:Nat,((n:Int)=18/\(18:Int)<=t'.length\/(n:Int)=t'.length/\(t'.length:Int)<=18)/\0<n/\n<=18/\n<=t'.length:=by
   by_cases h:t'.length<=18
   . exact⟨t'.length,.inr ⟨rfl,by omega⟩,by omega,by omega,by omega⟩
   . exact⟨18,.inl ⟨rfl,by omega⟩,by omega,by omega,by omega⟩
  obtain⟨x,y,hxy,hxl⟩:∃x y,t'=x++y/\x.length=n:=⟨t'.take n,t'.drop n,(List.take_append_drop n t').symm,by rw[List.length_take];omega⟩;have hx0:x≠[]:=fun e=>by rw[e]at hxl;simp at hxl;omega
  have hDx:x.all bF=true:=by rw[hxy,List.all_append,Bool.and_eq_true]at hDt;exact hDt.1
  have htk:t'.take (n:Int).toNat=x:=by rw[hxy,Int.toNat_natCast,←hxl,List.take_left]
  have hdr:t'.drop (n:Int).toNat=y:=by rw[hxy,Int.toNat_natCast,←hxl,List.drop_left]
  have hyl:t'.length=n+y.length:=by rw[hxy,List.length_append,hxl]
  have q214:=fun h=>C.MP x h hx0 (by omega) hDx
  have q168:=C.oH 10;obtain⟨v1,k1,q215⟩:=C.MQ (.agg [.iV 10,.aa]) 10 n (.small (by decide)) hn1.2.1 (by omega) (by decide);have b1:=pd (N:=N) hDd (by omega);have b2:aj ((10:Int)^n)<wB^N:=by
   rw[ck (Int.pow_nonneg (by decide))];have h1:=fR (b:=wB) (by decide) (m:=n) (n:=N) (by omega);have h2:=yk n;have h3:(10:Int)^n<wB^n:=by
    obtain⟨k,rfl⟩:∃k,n=k+1:=⟨n-1,by omega⟩;have:=yk k;have p0:(0:Int)<10^k:=Int.pow_pos (by decide);rw[Int.pow_succ,Int.pow_succ];have:(10:Int)^k*10<10^k*wB:=Int.mul_lt_mul_of_pos_left (by decide) p0;have h5:(10:Int)^k*wB<=wB^k*wB:=Int.mul_le_mul_of_nonneg_right (yk k) (by decide);omega
   omega
  obtain⟨v2,k2,q198⟩:=C.jW _ _ _ _ hv k1 b1 b2;have e2:(az 0 dn:Int)*10^n=((az 0 (dn++List.replicate n 48):Nat):Int):=by
   have:az (az 0 dn) (List.replicate n 48)=az 0 dn*10^n:=by rw[←yc,Lu];simp
   rw[oM,this];push_cast;rfl
  have k2:ay v2 ((az 0 dn:Int)*10^n):=k2;have b3:aj ((az 0 dn:Int)*10^n)<wB^N:=by
   rw[e2];exact pd (by rw[List.all_append,hDd,←yc,Ls];rfl) (by rw[List.length_append,List.length_replicate];omega)
  have hxs:=MR hDx (by omega);have q168b:=C.oH (az 0 x:Nat);obtain⟨v3,k3,q202⟩:=C.qE v2 (.agg [.iV (az 0 x:Nat),.aa]) _ _ k2 (.small (by omega)) b3 (pd hDx (by omega));have e3:(az 0 dn:Int)*10^n+(az 0 x:Nat)=((az 0 (dn++x):Nat):Int):=by
   rw[oM,xU x (az 0 dn),hxl];push_cast;rfl
  have k3:ay v3 ((az 0 (dn++x):Nat):Int):=by rw[←e3];exact k3
  obtain⟨s3,w3,rfl,o3,_⟩:=k3.shape;unfold ye;repeat' first|(apply akh (m:=(n:Int));rfl;rfl;exact hn)|(apply agv (s:=t') (r:=x);rfl;rfl;omega;exact htk)|(apply agq (s:=t') (r:=y);rfl;rfl;omega;exact hdr)|refine gd0 ?_|refine gd1 ?_|(apply adX;rfl;rfl;rfl;exact⟨rfl,Nat.le_refl _,by simp[fO,o3]⟩;rfl)|(apply acs;rfl;rfl)|refine gc ?_|(intro _;omega)|intro _
  all_goals try omega
  all_goals exact cN ⟨y.length,by omega,y,dn++x,s3,w3,_,_,_,_,rfl,rfl,by rw[hf,hxy,List.append_assoc],k3⟩
theorem aca (C:yj M N)(s:ah)(hl:s.length<=N)(hD:(bH 45 s).all bF=true):∃v0,ay v0 (if preB 45 s then -(az 0 (bH 45 s):Int) else (az 0 (bH 45 s):Nat))/\cD M 166 [.str s] v0:=by
 have hlN:=C.lN;have q212:=fun h=>C.MN s h (by omega)
 have q213:=fun h=>C.MO s h (by omega)
 have hcl:(bH 45 s).length<=N:=Nat.le_trans (qP 45 s) hl;have hb:=pd (N:=N) hD hcl;obtain⟨v',hh,⟨v0,h0,ho⟩,hr⟩:=gH (M:=M) (f:=166) (ars:=[.str s]) (P:=fun v hh=>∃v0,ay v0 (if preB 45 s then -(az 0 (bH 45 s):Int) else (az 0 (bH 45 s):Nat))/\ew v hh v0) (by rw[C.ft];exact aaM) (by simp) (by
  unfold LY;simp only[enter];repeat' first|refine gd0 ?_|refine gc ?_|fail
  refine abZ C (bH 45 s) hD hcl _ (fun so wo a4 a5 lo wr hv=>?_) _ _ _ _;cases hp:preB 45 s with
  | true=>
   rw[if_pos rfl];obtain⟨v1,k1,q216⟩:=C.lM _ _ hv hb;have k1:ay v1 (-(az 0 (bH 45 s):Int)):=k1;obtain⟨s1,w1,rfl,o1,_⟩:=k1.shape;repeat' first|refine gd21 ?_|refine gd0 ?_|refine gc ?_|fail
   exact⟨.inr rfl,rfl,_,rfl,_,k1,k1.out⟩
  | false=>
   rw[if_neg (by decide)];obtain⟨o1,_⟩:=hv.one;repeat' first|refine gd21 ?_|refine gc ?_|fail
   exact⟨.inr rfl,rfl,_,rfl,_,hv,hv.out⟩)
 exact⟨v0,h0,v',hh,ho,hr⟩
theorem MS {s:ah}(h:s.all bF=true){c:UInt8}(hc:¬bF c=true):c∉s:=fun hm=>hc ((List.all_eq_true.1 h) c hm)
theorem MT (n:Nat){c:UInt8}(hc:¬bF c=true):preB c (aQ n)=false:=by
 rw[preB,decide_eq_false_iff_not];intro h;cases hd:aQ n with
 | nil=>exact oO n hd
 | cons b t=>
  rw[hd]at h;have hb:b∈aQ n:=by rw[hd];simp
  simp at h;exact hc (h ▸ (List.all_eq_true.1 (jX n)) b hb)
theorem acb (z:Int):preB 45 (bM z)=decide (z<0)/\bH 45 (bM z)=aQ (aj z).toNat:=by
 by_cases h:z<0
 . rw[mZ h,decide_eq_true h];exact⟨rfl,rfl⟩
 . rw[kL h,decide_eq_false h];have:=MT (aj z).toNat (c:=45) (by decide);exact⟨this,jZ this⟩
theorem tB {b:UInt8}:∀{x:ah},b∉x->bD b x=(x,none)
 | [],_=>rfl
 | c::x,h=>by
  have h1:¬c=b:=fun e=>h (by rw[e];simp)
  have h2:b∉x:=fun e=>h (by simp[e])
  rw[bD,if_neg h1,tB h2]
theorem tC {b:UInt8}{y:ah}:∀{x:ah},b∉x->bD b (x++b::y)=(x,some y)
 | [],_=>by rw[List.nil_append,bD,if_pos rfl]
 | c::x,h=>by
  have h1:¬c=b:=fun e=>h (by rw[e];simp)
  have h2:b∉x:=fun e=>h (by simp[e])
  rw[List.cons_append,bD,if_neg h1,tC h2]
theorem yl (z:Int):(47:UInt8)∉bM z:=by
 have h:=MS (jX (aj z).toNat) (c:=47) (by decide);by_cases hz:z<0
 . rw[mZ hz];simp[h]
 . rw[kL hz];exact h
theorem acd (q:Rat):iK 47 (ao q)=if q.den=1 then .au [.str (bM q.num),.str [],.bool false] else .au [.str (bM q.num),.str (aQ q.den),.bool true]:=by
 unfold iK ao;by_cases h:q.den=1
 . rw[if_pos h,if_pos h,tB (yl _)];rfl
 . rw[if_neg h,if_neg h,tC (yl _)];rfl
def Lq (N:Nat)(q:Rat):Prop:=(bM q.num).length<=N/\(aQ q.den).length<=N
structure lT (M:aw)(N:Nat):Prop extends yj M N where
 Ey:∀(s:ah) h,s.length<1000000->M.ext 163 [.str s,.str [47]] h=some ⟨iK 47 s,h,[]⟩
 Ez:∀(s:ah),s.length<=N->(bH 45 s).all bF=true->∃v0,ay v0 (if preB 45 s then -(az 0 (bH 45 s):Int) else (az 0 (bH 45 s):Nat))/\∀h,M.ext 166 [.str s] h=some ⟨v0,h,[]⟩
theorem lT.MU (C:lT M N)(z:Int)(hl:(bM z).length<=N):∃v0,ay v0 z/\∀h,M.ext 166 [.str (bM z)] h=some ⟨v0,h,[]⟩:=by
 obtain⟨h1,h2⟩:=acb z;obtain⟨v0,h0,q⟩:=C.Ez (bM z) hl (by rw[h2];exact jX _);refine⟨v0,?_,q⟩;rw[h1,h2,lO]at h0;have ha:=iD (x:=z);have e:((aj z).toNat:Int)=aj z:=Int.toNat_of_nonneg ha;by_cases hz:z<0
 . rw[decide_eq_true hz,if_pos rfl,e]at h0;have e2:aj z = -z:=if_pos hz;rw[e2,Int.neg_neg]at h0;exact h0
 . rw[decide_eq_false hz,if_neg (by decide),e]at h0;have e2:aj z=z:=if_neg hz;rw[e2]at h0;exact h0
theorem lT.ace (C:lT M N)(n:Nat)(hl:(aQ n).length<=N):∃v0,ay v0 (n:Int)/\∀h,M.ext 166 [.str (aQ n)] h=some ⟨v0,h,[]⟩:=by
 rw[←aaV]at hl ⊢;exact C.MU n hl
theorem MV {q:Rat}(h:Lq N q):(ao q).length<=2*N+1:=by
 unfold ao;split
 . have:=h.1;omega
 . have h1:=h.1;have h2:=h.2;simp;omega
theorem acf (C:lT M N)(hN:N<=400000){q:Rat}(lq:Lq N q):∃v0,aZ v0 q/\cD M 103 [.str (ao q)] v0:=by
 have sl:=MV lq;have q163:=fun h=>C.Ey (ao q) h (by omega)
 have cs:=acd q;rw[cs]at q163;obtain⟨va,ka,qa⟩:=C.MU q.num lq.1;by_cases hd:q.den=1
 . rw[if_pos hd]at q163;obtain⟨v0,k0,q159⟩:=C.Dx _ _ ka;have k0:aZ v0 q:=by
    have:=k0;unfold aZ;rw[hd];exact this
   refine⟨v0,k0,cH (by rw[C.ft];exact Mb) (by simp) ?_⟩;have out:=fun hh=>k0.out (hh:=hh)
   obtain⟨s5,w5,s6,w6,rfl,h5,h6⟩:=k0;obtain⟨o5,_⟩:=h5.one;obtain⟨o6,_⟩:=h6.one;unfold Em;simp only[enter];repeat' first|refine gd7 ?_|refine gd0 ?_|refine gc ?_|fail
   all_goals exact cn rfl rfl (out _)
 . rw[if_neg hd]at q163;obtain⟨vb,kb,qb⟩:=C.ace q.den lq.2;obtain⟨s5,w5,rfl,o5,_⟩:=ka.shape;obtain⟨s6,w6,rfl,o6,_⟩:=kb.shape;have k0:aZ (.agg [.iV s5,w5,.iV s6,w6]) q:=⟨_,_,_,_,rfl,ka,kb⟩;refine⟨_,k0,cH (by rw[C.ft];exact Mb) (by simp) ?_⟩;have out:=fun hh=>k0.out (hh:=hh)
   unfold Em;simp only[enter];repeat' first|refine gd7 ?_|refine gd0 ?_|refine gc ?_|fail
   all_goals exact cn rfl rfl (out _)
def MW:an:=zR [zi 1 0] (zR [zm 12 0,⟨.l 13,.call (kF 162) [(.l 12),(.c (.str [45]))],none⟩,zn 11 13,ze 14 0 11,ze 15 1 11,zw 2 14,zw 3 15] (zR [zm 17 2,⟨.l 18,.call (kF 163) [(.l 17),(.c (.str [47]))],none⟩,zn 16 18,ze 19 0 16,ze 20 1 16,ze 21 2 16,zw 4 19,zw 5 20,zw 6 21] (zR [zm 22 4,z1 23 164 22,zn 24 23,zg (zm 25 3) 24 true,zg (zn 26 25) 24 true,zg (zm 27 4) 26 true,⟨.l 28,.bin .eql (.l 27) (.c (.str [48])),some ((.l 26),true)⟩,zg (zp 29 26 28) 24 true,zg (zu 30 29) 24 true,zp 31 24 30,zw 7 31] (.seq (zR [zm 32 6] (.cond (.l 32) (.region [zm 33 7,zn 34 33,zg (zm 35 5) 34 true,zg (z1 36 164 35) 34 true,zp 37 34 36,zn 38 37,zg (zm 39 5) 38 true,⟨.l 40,.bin .neq (.l 39) (.c (.str [48])),some ((.l 38),true)⟩,zp 41 38 40,zn 42 41,zg (zm 43 5) 42 true,⟨.l 44,.bin .neq (.l 43) (.c (.str [49])),some ((.l 42),true)⟩,zp 45 42 44,zw 7 45]) (.skip))) (.seq (zR [zm 46 7,zu 47 46,⟨.l 48,.call (kF 97) [(.l 47),(kI 1)],none⟩,zm 49 4,zL 50 49,zm 51 5,zL 52 51,⟨.l 53,.mm true [(.l 50),(.l 52)],none⟩,zc 54 .gtr 53 600,⟨.l 55,.call (kF 97) [(.l 54),(kI 4)],none⟩,⟨.l 56,.dQ 25 2 1 [.iV (0)] [(0,1,(.l 48)),(1,1,(.l 55))],none⟩,z1 57 96 56,zw 8 57] (zR [zm 58 8,zc 59 .neq 58 0,zn 60 59,zg (zm 61 6) 60 false,zg (zu 62 61) 60 false,zP 63 60 62] (.cond (.l 63) (zR [zm 64 8,zw 1 64] (.ret)) (.skip)))) (zR [zm 65 4,z1 66 166 65,zm 67 5,z1 68 166 67,z2 69 165 66 68,⟨.p 9,.alloc 131 [.iV (0),.aa],none⟩,zs 2 9 69] (.seq (.draw [(zt 70 2 9,[]),(⟨.l 71,.call (kF 168) [(kI 1)],none⟩,[0]),(z2 72 167 70 71,[]),(zc 73 .neq 72 0,[]),(⟨.l 74,.call (kF 97) [(.l 73),(kI 1)],none⟩,[]),(zw 1 74,[])]) (.ret))))))))
theorem acg:FT 84=some ⟨75,[0,2,3,4,5,6,7,8,9,10],[.var (.p 1)],MW⟩:=by kernel_rfl
def yn:an:=zR [zr 9 .lss 6 5] (.seq (.cond (.l 9) (.skip) (.exit 0)) (.seq (.block 1 (zR [⟨.l 10,.du none 1 (.p 4) (.p 6),none⟩,zd 11 1 10,zw 2 11] (zR [zm 12 2,z1 13 84 12,zw 3 13] (zR [zm 14 3,zc 15 .neq 14 0] (.cond (.l 15) (zR [zm 16 3,zw 1 16] (.ret)) (.skip)))))) (.region [zq 17 .add 6 1,zw 6 17])))
def MX:an:=zR [zi 1 0] (.seq (zR [⟨.p 4,.mv (.p 0),none⟩,⟨.p 5,.len .sl (.p 4),none⟩,zi 6 0] (.block 0 (.loop yn))) (zR [zi 1 0] (.ret)))
theorem ach:FT 101=some ⟨18,[0,2,4,5,6,7,8],[.var (.p 1)],MX⟩:=by kernel_rfl
def MY:an:=zR [zx 1 133 4 0,⟨.p 2,.mv (.c (.str [])),none⟩,zi 3 0] (.seq (zR [zt 4 4 1,z1 5 175 4] (.cond (.l 5) (zR [⟨.p 2,.mv (.c (.str [])),none⟩,zi 3 4] (.ret)) (.skip))) (zR [zt 6 4 1,z1 7 176 6,zw 2 7,zi 3 0] (.ret)))
theorem aci:FT 105=some ⟨8,[0,1,2,3],[.var (.p 2),.var (.p 3)],MY⟩:=by kernel_rfl
def dW (s:ah):Bool:=decide (s≠[]) && s.all bF && (decide (s[0]! ≠ 48) || decide (s=[48]))
theorem acj (hft:M.FT=FT)(s:ah)(q257:∀h,M.ext 257 [.str s,.str nf] h=some ⟨.str (jY (iN s)),h,[]⟩):aS M 209 [.str s] [] ⟨.bool (decide (s≠[]) && s.all bF),[],[]⟩:=by
 refine bC (by rw[hft];exact abk) (by simp) ?_;unfold Ms;simp only[enter];by_cases h0:s=[]
 . rw[decide_eq_false (by simpa using h0),Bool.false_and];repeat' first|(apply ahz;rfl;rfl;all_goals first|(intro h;exact absurd h0 h)|intro _)|refine gc ?_|fail
   all_goals exact⟨.inr rfl,rfl,_,rfl,rfl,rfl⟩
 . rw[decide_eq_true h0,Bool.true_and];have ht:=MM s;cases hd:s.all bF with
   | true=>
    rw[ht.2 hd]at q257;exact gg4
   | false=>
    have hne:jY (iN s)≠[]:=fun e=>by rw[ht.1 e]at hd;cases hd
    repeat' first|(apply ahz;rfl;rfl;all_goals first|(intro h;exact absurd h h0)|intro _)|(apply aeX;rfl;rfl;all_goals first|(intro h;exact absurd h hne)|intro _)|refine gd0 ?_|refine gc ?_|fail
    all_goals exact⟨.inr rfl,rfl,_,rfl,rfl,rfl⟩
theorem ack (hft:M.FT=FT)(s:ah)(q209:∀h,M.ext 209 [.str s] h=some ⟨.bool (decide (s≠[]) && s.all bF),h,[]⟩):aS M 164 [.str s] [] ⟨.bool (dW s),[],[]⟩:=by
 refine bC (by rw[hft];exact abr) (by simp) ?_;unfold dW;unfold Mx;simp only[enter];cases hb:(decide (s≠[]) && s.all bF) with
 | false=>
  rw[hb]at q209;rw[Bool.false_and];exact gg1
 | true=>
  rw[hb]at q209;rw[Bool.true_and];have hne:s≠[]:=by
   rw[Bool.and_eq_true]at hb;exact of_decide_eq_true hb.1
  have hpos:0<s.length:=List.length_pos_iff.2 hne;by_cases h48:s[0]! = 48
  . rw[decide_eq_false (by simpa using h48),Bool.false_or];have e48:((s[(0:Int).toNat]!).toNat:Int)=48:=by rw[show s[(0:Int).toNat]! = s[0]! from rfl,h48];rfl
    by_cases hs:s=[48]
    . rw[decide_eq_true hs];exact gg17
    . rw[decide_eq_false hs];repeat' first|(apply aeX;rfl;rfl;all_goals first|(intro h;exact absurd h hs)|intro _)|(apply adW;rfl;rfl)|refine gd0 ?_|refine gc ?_|(intro _;omega)|intro _
      all_goals try omega
      all_goals exact⟨.inr rfl,rfl,_,rfl,rfl,rfl⟩
  . rw[decide_eq_true (show s[0]! ≠ 48 from h48),Bool.true_or];have e48:((s[(0:Int).toNat]!).toNat:Int)≠48:=fun e=>h48 (UInt8.toNat_inj.1 (by rw[show s[(0:Int).toNat]! = s[0]! from rfl]at e;have:(48:UInt8).toNat=48:=rfl;omega))
    exact gg4
end Go.Ab.Ch1
