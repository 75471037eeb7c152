/-
  Own work: texts of marks, by the reference: digits, splits, marks printed.
-/
import Derived.Test.YtcjphdmkgmkabaaGreatDoorLib7
import Derived.Test.YtcjphdmkgmkabaaGreatDoorLib4
import Derived.Test.YtcjphdmkgmkabaaGreatDoorLib6
import Derived.Test.YtcjphdmkgmkabaaGreatDoorLib5
import Derived.Test.YtcjphdmkgmkabaaGreatDoorCh1Base
set_option maxHeartbeats 8000000
set_option maxRecDepth 20000
namespace Go.Ab.Ch1
open Go.Ab.aI
variable {M:ay} {cap:Option Nat}
section
variable {t:Nat} {x y:aq} {l:List az} {pe:List AV} {lo:List (Nat×AV)} {hp:ae} {df wr:List Nat} {a d:Int} {Q:ak->Prop}
theorem NI (hx:(St.mk pe lo hp df).aa x=some (.iV a))(hy:(St.mk pe lo hp df).aa y=some (.iV d))(ha:0<=a/\a<9223372036854775808)(hd:0<d)
 (h:WO M l ⟨⟨pe,(t,.iV (a/d))::lo,hp,df⟩,wr⟩ Q):WO M (⟨.l t,.bin .quo x y,none⟩::l) ⟨⟨pe,lo,hp,df⟩,wr⟩ Q:=by
 refine WO.quo hx hy hd (by omega) ?_;rw[Int.tdiv_eq_ediv_of_nonneg ha.1];exact h
theorem NJ (hx:(St.mk pe lo hp df).aa x=some (.iV a))(hy:(St.mk pe lo hp df).aa y=some (.iV d))(ha:0<=a)(hd:0<d)
 (h:WO M l ⟨⟨pe,(t,.iV (a%d))::lo,hp,df⟩,wr⟩ Q):WO M (⟨.l t,.bin .rem x y,none⟩::l) ⟨⟨pe,lo,hp,df⟩,wr⟩ Q:=by
 refine WO.rem hx hy (by omega) ?_;rw[Int.tmod_eq_emod_of_nonneg ha];exact h
end
theorem IJ (k n:Nat):cz (n/10^k%10)::bz k n=bz (k+1) n:=by
 refine vL (by simp[gh]) fun j hj=>?_
 cases j with
 | zero=>rfl
 | succ j=>
  have e:(cz (n/10^k%10)::bz k n)[j+1]! = (bz k n)[j]! := by simp[List.getElem!_eq_getElem?_getD]
  rw[e,rj (by omega),show k+1-1-(j+1)=k-1-j by omega]
theorem IK {d:Nat}(h:d<10):(([48,49,50,51,52,53,54,55,56,57]:ah).drop d).take (d+1-d)=[cz d]:=by
 match d,h with
 | 0,_=>rfl
 | 1,_=>rfl
 | 2,_=>rfl
 | 3,_=>rfl
 | 4,_=>rfl
 | 5,_=>rfl
 | 6,_=>rfl
 | 7,_=>rfl
 | 8,_=>rfl
 | 9,_=>rfl
theorem IL:(10:Nat)^19=10000000000000000000:=rfl
theorem xU (hft:M.FT=FT)(n L:Nat)(hn:n<9223372036854775808)(hL:1<=L/\L<=18):∃k,L<=k/\n<10^k/\(k=L\/10^(k-1)<=n)/\aG M 117 [.iV (n:Nat),.iV (L:Nat)] [] ⟨.str (bz k n),[],[]⟩:=by
 obtain⟨v,hh,⟨k,h1,h2,h3,rfl,rfl⟩,hr⟩:=uN (M:=M) (f:=117) (ars:=[.iV (n:Nat),.iV (L:Nat)]) (P:=fun v hh=>∃k,L<=k/\n<10^k/\(k=L\/10^(k-1)<=n)/\v = .str (bz k n)/\hh=[]) (by rw[hft];exact IG) (by simp) (by
  unfold xT;simp only[enter];repeat' first|apply LL|apply aj|apply LM|apply LN|apply LW|(apply LO;rfl;rfl)
  refine W.nu (fun m st=>∃j lo wr,st=⟨⟨[.iV (n/10^j:Nat),.iV L,.str [],.str (bz j n)],lo,[],[]⟩,wr⟩/\m=20-j/\j<=20/\(j<=L\/10^(j-1)<=n)) (fun m st ⟨j,lo,wr,hst,hm,hj,hb⟩=>?_) (m:=20) ⟨0,[],[],by rw[Nat.pow_zero,Nat.div_one];rfl,rfl,by omega,.inl (by omega)⟩;subst hst;have hl:=gh j n;by_cases hgo:0<n/10^j\/j<L
  . have hj19:j<19:=by
     rcases Nat.lt_or_ge j 19 with h|h
     . exact h
     . exfalso;have p:(10:Nat)^19<=10^j:=Nat.pow_le_pow_right (by decide) h;rw[IL]at p;have:n/10^j=0:=Nat.div_eq_of_lt (by omega);omega
    have hd:n/10^j%10<10:=Nat.mod_lt _ (by decide);have ec:=IK hd;have ef:=IJ j n;have eq:n/10^j/10=n/10^(j+1):=by rw[Nat.div_div_eq_div_mul,Nat.pow_succ]
    have hb':j+1<=L\/10^(j+1-1)<=n:=by
     rcases hgo with h|h
     . right;rw[Nat.add_sub_cancel];refine Nat.le_of_not_lt fun h2=>?_
       rw[Nat.div_eq_of_lt h2]at h;omega
     . exact .inl h
    have hq:n/10^j<=n:=Nat.div_le_self _ _;obtain⟨q,hqq⟩:∃q,q=n/10^j:=⟨_,rfl⟩;rw[←hqq]at hd ec ef eq hq hgo;rw[←hqq];generalize bz j n=s at *
    have e1:(((q:Nat):Int)%10).toNat=q%10:=by omega
    have e2:(((q:Nat):Int)%10+1).toNat=q%10+1:=by omega
    have ec':(([48,49,50,51,52,53,54,55,56,57]:ah).drop (((q:Nat):Int)%10).toNat).take ((((q:Nat):Int)%10+1).toNat-(((q:Nat):Int)%10).toNat)=[cz (q%10)]:=by rw[e1,e2];exact ec
    have l1:([cz (q%10)]:ah).length=1:=rfl;have fin:∀lo wr,LI (fun st=>∃m',m'<m/\∃j lo wr,st=⟨⟨[.iV (n/10^j:Nat),.iV L,.str [],.str (bz j n)],lo,[],[]⟩,wr⟩/\m'=20-j/\j<=20/\(j<=L\/10^(j-1)<=n))
     (BQ 0 (SQ M (zR [zm 24 3,zw 2 24] (.ret)) (fun e s=>(e = .normal\/e = .ret)/\s.s.bI=[]/\∃vs,dJ s.s [.var (.p 2)]=some vs/\∃k,L<=k/\n<10^k/\(k=L\/10^(k-1)<=n)/\cd vs = .str (bz k n)/\(if (cd vs).top<=0 then [] else s.s.hp)=[])))
     .normal ⟨⟨[.iV (((q:Nat):Int)/10),.iV L,.str [],.str ([cz (q%10)]++s)],lo,[],[]⟩,wr⟩:=fun lo wr=>
     gY ⟨20-(j+1),by omega,j+1,lo,wr,by
      rw[←ef,←eq];rfl,rfl,by omega,hb'⟩
    unfold sd;repeat' first|(apply Nf (r:=[cz (q%10)]);rfl;rfl;rfl;(simp only[List.length_cons,List.length_nil];omega);exact ec')|(apply NI;rfl;rfl;omega;omega)|(apply NJ;rfl;rfl;omega;omega)|apply LL|apply aj|apply LM|apply LN|apply LW|apply LU|apply aZ|(apply LS;rfl)|(apply Mf;rfl)|(apply Mm;rfl)|(apply Md;rfl;rfl)|(apply LZ;rfl;rfl)|(apply Mb;rfl;rfl)|(apply Ma;rfl;rfl)|(apply Mk;rfl;rfl;omega)|(apply MU;rfl;rfl;first|omega|(simp only[List.length_append,List.length_cons,List.length_nil];omega)|(simp;omega))|(apply LK;rfl;rfl)|(apply LO;rfl;rfl)|(intro _;omega)|intro _
    all_goals try omega
    all_goals exact fin _ _
  . have h0:n/10^j=0:=(Nat.eq_zero_or_pos _).resolve_right fun h=>hgo (.inl h)
    rw[h0];have hlt:n<10^j:=by
     refine Nat.lt_of_not_le fun h=>?_
     have:=Nat.div_pos h (Nat.pow_pos (by decide));omega
    have hk:j=L\/10^(j-1)<=n:=by omega
    unfold sd;repeat' first|apply LL|apply aj|apply LM|apply LN|apply LP|apply Mi|apply bO|apply bR|apply cw|(apply LR;rfl)|(apply Mf;rfl)|(apply Md;rfl;rfl)|(apply LZ;rfl;rfl)|(apply Ma;rfl;rfl)|(apply LK;rfl;rfl)|(apply LO;rfl;rfl)|(intro _;omega)|intro _
    all_goals try omega
    all_goals exact⟨.inr rfl,rfl,_,rfl,j,by omega,hlt,hk,rfl,rfl⟩)
 exact⟨k,h1,h2,h3,hr⟩
theorem IM (hft:M.FT=FT)(n L:Nat)(hL:1<=L/\L<=4)(hn:n<10^L):aG M 117 [.iV (n:Nat),.iV (L:Nat)] [] ⟨.str (bz L n),[],[]⟩:=by
 have h4:(10:Nat)^L<=10^4:=Nat.pow_le_pow_right (by decide) hL.2;have e4:(10:Nat)^4=10000:=rfl;obtain⟨k,h1,h2,h3,hr⟩:=xU hft n L (by omega) ⟨hL.1,by omega⟩;have:k=L:=by
  rcases h3 with h3|h3
  . exact h3
  . refine Nat.le_antisymm ?_ h1;refine Nat.le_of_not_lt fun h=>?_
    have:(10:Nat)^L<=10^(k-1):=Nat.pow_le_pow_right (by decide) (by omega);omega
 subst this;exact hr
theorem IN (hft:M.FT=FT)(n:Nat)(hn:n<9223372036854775808):aG M 117 [.iV (n:Nat),.iV 1] [] ⟨.str (bo n),[],[]⟩:=by
 obtain⟨k,h1,h2,h3,hr⟩:=xU hft n 1 (by omega) (by decide);obtain⟨k,rfl⟩:∃j,k=j+1:=⟨k-1,by omega⟩;rw[Nat.add_sub_cancel]at h3;rw[rk h2 (by omega)];exact hr
theorem IP (hft:M.FT=FT)(n L:Nat)(q:∀h,M.ext 117 [.iV n,.iV L] h=some ⟨.str (bz L n),h,[]⟩):aG M 119 [.iV n,.iV L] [] ⟨.str (bz L n),[],[]⟩:=by
 refine ba (by rw[hft];exact Ix) (by simp) ?_;unfold xL;simp only[enter];repeat' first|apply LL|apply aj|apply LM|apply LN|apply LP|(apply LV;rfl;rfl;first|exact q _)|(apply LK;rfl;rfl)|(apply LO;rfl;rfl)
 all_goals exact⟨.inr rfl,rfl,_,rfl,rfl,rfl⟩
theorem IQ (hft:M.FT=FT)(n:Nat)(q:∀h,M.ext 119 [.iV n,.iV 2] h=some ⟨.str (bz 2 n),h,[]⟩):aG M 118 [.iV n] [] ⟨.str (bz 2 n),[],[]⟩:=by
 refine ba (by rw[hft];exact Iw) (by simp) ?_;unfold xK;simp only[enter];repeat' first|apply LL|apply aj|apply LM|apply LN|apply LP|(apply LV;rfl;rfl;first|exact q _)|(apply LK;rfl;rfl)|(apply LO;rfl;rfl)
 all_goals exact⟨.inr rfl,rfl,_,rfl,rfl,rfl⟩
theorem IS (hft:M.FT=FT)(s:ah)(hl:s.length<1000000):aG M 129 [.str s] [] ⟨.iV (bj s),[],[]⟩:=by
 refine ba (by rw[hft];exact IC) (by simp) ?_;unfold xQ;simp only[enter];by_cases h9:s.length=0\/9<s.length
 . have e:bj s = -1:=if_neg (fun h=>by
    rcases h9 with h0|h0
    . exact h.1 (List.length_eq_zero_iff.1 h0)
    . omega)
   rw[e];repeat' first|apply LL|apply aj|apply LM|apply LN|apply LP|apply aF|(apply LS;rfl)|(apply Mf;rfl)|(apply Mm;rfl)|(apply LZ;rfl;rfl)|(apply Mc;rfl;rfl)|(apply Mb;rfl;rfl)|(apply Ma;rfl;rfl)|(apply LK;rfl;rfl)|(apply LO;rfl;rfl)|(intro _;omega)|intro _
   all_goals try omega
   all_goals exact⟨.inr rfl,rfl,_,rfl,rfl,rfl⟩
 . have hne:s≠[]:=fun h=>h9 (.inl (by rw[h];rfl))
   have h9':s.length<=9:=by omega
   repeat' first|apply LL|apply aj|apply LM|apply LN|apply LW|apply LU|(apply LR;rfl)|(apply Mf;rfl)|(apply LZ;rfl;rfl)|(apply Mc;rfl;rfl)|(apply Ma;rfl;rfl)|(apply LK;rfl;rfl)|(apply LO;rfl;rfl)|(intro _;omega)|intro _
   all_goals try omega
   refine W.nw s.length (fun i st=>∃lo' wr,st=⟨⟨[.str s,.iV 0,.iV (bK 0 (s.take i):Nat),.iV i],lo',[],[]⟩,wr⟩/\(s.take i).all bL=true) (fun i st hi' ⟨lo',wr,hst,hd⟩=>?_) (fun st ⟨lo',wr,hst,hd⟩=>?_) (Nat.zero_le _) ⟨_,_,rfl,rfl⟩
   . subst hst;have ht:s.take (i+1)=s.take i++[s[i]!]:=by rw[List.take_add_one,List.getElem?_eq_getElem (by omega),Option.toList_some,getElem!_pos s i (by omega)]
     have e1:bK 0 (s.take (i+1))=10*bK 0 (s.take i)+((s[i]!).toNat-48):=by rw[ht,nK,nL]
     have hlt:=nM _ hd;rw[List.length_take,Nat.min_eq_left (by omega)]at hlt;have hp:(10:Nat)^i<=10^9:=Nat.pow_le_pow_right (by decide) (by omega);have e9:(10:Nat)^9=1000000000:=rfl;have ei:s[((i:Int)).toNat]! = s[i]! := rfl;have hb:=(s[i]!).toNat_lt;have hsz:(s[i]!).toNat<256:=hb;by_cases hD:bL s[i]! = true
     . have hD':=(iJ _).1 hD;have hall:(s.take (i+1)).all bL=true:=by rw[ht,List.all_append,hd,List.all_cons,hD];rfl
       rw[←ei]at hD' e1 hsz;generalize bK 0 (s.take (i+1))=m at *
       generalize bK 0 (s.take i)=n at *
       have e2:(m:Int)=10*n+(((s[((i:Int)).toNat]!).toNat:Int)-48):=by omega
       unfold oy;repeat' first|(apply Nr;rfl;rfl;omega)|(apply Na;rfl;omega)|apply LL|apply aj|apply LM|apply LN|apply LW|apply LU|apply aZ|(apply LS;rfl)|(apply LR;rfl)|(apply Mf;rfl)|(apply Md;rfl;rfl)|(apply LZ;rfl;rfl)|(apply Ma;rfl;rfl)|(apply Mk;rfl;rfl;omega)|(apply MF;rfl;rfl;omega)|(apply Mn;rfl;rfl;omega)|(apply LK;rfl;rfl)|(apply LO;rfl;rfl)|(intro _;omega)|intro _
       all_goals try omega
       all_goals exact gY ⟨_,_,by rw[e2];rfl,hall⟩
     . have hD':¬(48<=(s[i]!).toNat/\(s[i]!).toNat<58):=fun h=>hD ((iJ _).2 h)
       have e:bj s = -1:=if_neg (fun h=>hD ((List.all_eq_true.1 h.2.2) _ (by rw[getElem!_pos s i hi'];exact List.getElem_mem hi')));rw[e];rw[←ei]at hD' hsz;unfold oy;repeat' first|apply LL|apply aj|apply LM|apply LN|apply LW|apply LP|apply LU|apply aF|apply bX|apply de|(apply LS;rfl)|(apply Mf;rfl)|(apply Mm;rfl)|(apply Md;rfl;rfl)|(apply LZ;rfl;rfl)|(apply Mb;rfl;rfl)|(apply Ma;rfl;rfl)|(apply Mn;rfl;rfl;omega)|(apply LK;rfl;rfl)|(apply LO;rfl;rfl)|(intro _;omega)|intro _
       all_goals try omega
       all_goals exact⟨.inr rfl,rfl,_,rfl,rfl,rfl⟩
   . subst hst;rw[List.take_length]at hd;have e:bj s=(bK 0 s:Nat):=if_pos ⟨hne,h9',hd⟩;rw[e,List.take_length];unfold oy;repeat' first|apply LL|apply aj|apply LM|apply LN|apply LP|apply Mi|apply bO|apply bR|apply cw|(apply LR;rfl)|(apply Md;rfl;rfl)|(apply LK;rfl;rfl)|(apply LO;rfl;rfl)|(intro _;omega)|intro _
     all_goals try omega
     all_goals exact⟨.inr rfl,rfl,_,rfl,rfl,rfl⟩
theorem IT (hft:M.FT=FT)(s:ah)(hl:s.length<1000000)(q129:∀h,M.ext 129 [.str s] h=some ⟨.iV (bj s),h,[]⟩):aG M 125 [.str s] [] ⟨.iV (bA s),[],[]⟩:=by
 refine ba (by rw[hft];exact Iy) (by simp) ?_;unfold xM;simp only[enter];have ei:s[((0:Int)).toNat]! = s[0]! := rfl;by_cases h:1<s.length/\s[0]! = 48
 . have e:bA s = -1:=if_pos h;have e48:((s[((0:Int)).toNat]!).toNat:Int)=48:=by rw[ei,h.2];rfl
   have h1:=h.1;rw[e];repeat' first|apply LL|apply aj|apply LM|apply LN|apply LP|apply aF|(apply LS;rfl)|(apply Mj;rfl)|(apply LZ;rfl;rfl)|(apply Mc;rfl;rfl)|(apply Mb;rfl;rfl)|(apply Mn;rfl;rfl;omega)|(apply LK;rfl;rfl)|(apply LO;rfl;rfl)|(intro _;omega)|intro _
   all_goals try omega
   all_goals exact⟨.inr rfl,rfl,_,rfl,rfl,rfl⟩
 . have e:bA s=bj s:=if_neg h;have h48:1<s.length->((s[((0:Int)).toNat]!).toNat:Int)≠48:=fun h1 e48=>h ⟨h1,UInt8.toNat_inj.1 (by rw[ei]at e48;have:(48:UInt8).toNat=48:=rfl;omega)⟩
   rw[e];repeat' first|apply LL|apply aj|apply LM|apply LN|apply LP|apply LU|(apply LR;rfl)|(apply Mj;rfl)|(apply Ml;rfl)|(apply LZ;rfl;rfl)|(apply Mc;rfl;rfl)|(apply Mb;rfl;rfl)|(apply Ma;rfl;rfl)|(apply LV;rfl;rfl;first|exact q129 _)|(apply Mn;rfl;rfl;omega)|(apply LK;rfl;rfl)|(apply LO;rfl;rfl)|(intro _;omega)|intro _
   all_goals try omega
   all_goals exact⟨.inr rfl,rfl,_,rfl,rfl,rfl⟩
theorem xV (c:UInt8):∀(x t:ah),c∉x->aK c (x++c::t)=x::aK c t
 | [],t,_=>by rw[List.nil_append,aK,if_pos rfl]
 | a::x,t,h=>by
  rw[List.mem_cons,not_or]at h;rw[List.cons_append,aK,if_neg (fun e=>h.1 e.symm),xV c x t h.2]
theorem xW (c:UInt8):∀(x:ah),c∉x->aK c x=[x]
 | [],_=>rfl
 | a::x,h=>by
  rw[List.mem_cons,not_or]at h;rw[aK,if_neg (fun e=>h.1 e.symm),xW c x h.2]
abbrev sF (s:ah):List AV:=[.str s]
theorem IU {A:List ah}{K:ae}{o:AV}(hO:dX sF 1 9 K o A [])(hA:0<A.length):rh (cd [o]) (if (cd [o]).top<=0 then [] else K) (.vs (strs A) A.length none):=by
 rcases hO with ⟨h,_⟩|⟨d,cp,_,rfl,hd,_⟩
 . rw[h]at hA;exact absurd hA (Nat.lt_irrefl 0)
 . rw[if_neg (by simp[cd,AV.top])];have hc:=qo (f:=sF) (esz:=1) (fun _=>rfl) (l:=A) (i:=0) (n:=A.length) (by omega);rw[List.drop_zero,List.take_length]at hc;refine⟨.vs (arr sF A) A.length none,.sl hd (by simpa using hc) rfl (fun i x y hx hy=>?_),?_,?_⟩
   . rw[hx]at hy;cases hy;exact .same (by
      have:=dR (n:=0) (by have:=iB (f:=sF) (fun _=>rfl) A;omega) i x hx;omega)
   . simp only[AV.top];exact iB (f:=sF) (fun _=>rfl) A
   . simp only[bE];rw[nA (f:=sF) (fun _=>rfl) A];rfl
theorem IV (hft:M.FT=FT)(s:ah)(c:UInt8)(hl:s.length<100000):kg M 127 [.str s,.int .u8 c.toNat] (.vs (strs (aK c s)) (aK c s).length none):=by
 obtain⟨v',hh,ho,hr⟩:=uN (M:=M) (f:=127) (ars:=[.str s,.int .u8 c.toNat]) (P:=fun v hh=>rh v hh (.vs (strs (aK c s)) (aK c s).length none)) (by rw[hft];exact IA) (by simp) (by
  unfold xO;simp only[enter];repeat' first|apply LL|apply aj|apply LM|apply LN|apply LW|(apply LO;rfl;rfl)
  refine W.nu (fun m st=>∃acc o K a4 i lo wr,st=⟨⟨[.str s,.int .u8 c.toNat,.al,o,.iV a4,.iV i],lo,K,[]⟩,wr⟩/\dX sF 1 9 K o acc []/\((m=0/\i=(s.length:Int)+1/\acc=aK c s)\/∃p x t,m=t.length+1/\s=p++x++t/\a4=(p.length:Int)/\i=(p.length:Int)+x.length/\c∉x/\acc.length<=p.length/\acc++aK c (x++t)=aK c s))
   (fun m st ⟨acc,o,K,a4,i,lo,wr,hst,ho,hI⟩=>?_) (m:=s.length+1) ⟨[],.al,[],0,0,_,_,rfl,.qz,.inr ⟨[],[],s,rfl,rfl,rfl,rfl,by simp,Nat.le_refl _,rfl⟩⟩
  subst hst;rcases hI with ⟨rfl,rfl,rfl⟩|⟨p,x,t,rfl,hs,rfl,rfl,hx,hacc,he⟩
  . unfold lP;repeat' first|apply LL|apply aj|apply LM|apply LN|apply LP|apply Mi|apply bO|apply bR|apply cw|(apply LR;rfl)|(apply MH;rfl;rfl)|(apply LK;rfl;rfl)|(apply LO;rfl;rfl)|(intro _;omega)|intro _
    all_goals try omega
    all_goals exact⟨.inr rfl,rfl,_,rfl,IU ho (by rw[kj];omega)⟩
  . have hsl:s.length=p.length+x.length+t.length:=by rw[hs];simp;omega
    have hcut:(s.drop ((p.length:Int)).toNat).take ((((p.length:Int)+x.length)).toNat-((p.length:Int)).toNat)=x:=by
     rw[hs,Int.toNat_natCast,show ((p.length:Int)+x.length).toNat=p.length+x.length by omega,List.append_assoc,List.drop_left,Nat.add_sub_cancel_left,List.take_left]
    have hroom:(acc.length+[x].length)*16<=eM:=by rw[List.length_singleton];unfold eM;omega
    cases t with
    | nil=>
     have hsl:(s.length:Int)=(p.length:Int)+x.length:=by rw[hsl];simp
     have e:acc++[x]=aK c s:=by rw[←he,List.append_nil,xW c x hx]
     unfold lP;repeat' first|(apply Nf (s:=s) (r:=x);rfl;rfl;rfl;omega;exact hcut)|(refine dX.app (f:=sF) (m:=[x]) (S:=[]) (fun _=>rfl) (fun _=>rfl) (by decide) (ho.grow [_]) (by simp) rfl rfl (Sl.qA (f:=sF) (esz:=1) (l:=[x]) (e:=9) (fun _=>rfl) cS rfl) hroom (fun H w' o' ho' hk hlen=>?_))|apply LL|apply aj|apply LM|apply LN|apply LW|apply LU|apply aZ|(apply LS;rfl)|(apply Mm;rfl)|(apply MH;rfl;rfl)|(apply Mc;rfl;rfl)|(apply Mb;rfl;rfl)|(apply Mk;rfl;rfl;omega)|(apply LY;rfl;rfl;rfl)|(apply LK;rfl;rfl)|(apply LO;rfl;rfl)|(intro _;omega)|intro _
     all_goals try omega
     all_goals exact gY ⟨0,Nat.zero_lt_succ _,acc++[x],_,_,_,_,_,_,rfl,ho',.inl ⟨rfl,by omega,e⟩⟩
    | cons b t=>
     have hb:(s[((p.length:Int)+x.length).toNat]!)=b:=by
      rw[show ((p.length:Int)+x.length).toNat=(p++x).length by simp;omega,hs,getElem!_pos _ _ (by simp)];simp
     rw[List.length_cons]at hsl;by_cases hc:b=c
     . subst hc;have e48:((s[((p.length:Int)+x.length).toNat]!).toNat:Int)=b.toNat:=by rw[hb]
       rw[xV b x t hx]at he;unfold lP;repeat' first|(apply Nf (s:=s) (r:=x);rfl;rfl;rfl;omega;exact hcut)|(refine dX.app (f:=sF) (m:=[x]) (S:=[]) (fun _=>rfl) (fun _=>rfl) (by decide) (ho.grow [_]) (by simp) rfl rfl (Sl.qA (f:=sF) (esz:=1) (l:=[x]) (e:=9) (fun _=>rfl) cS rfl) hroom (fun H w' o' ho' hk hlen=>?_))|apply LL|apply aj|apply LM|apply LN|apply LW|apply LU|apply aZ|(apply LS;rfl)|(apply Mf;rfl)|(apply MH;rfl;rfl)|(apply Mc;rfl;rfl)|(apply Ma;rfl;rfl)|(apply Mk;rfl;rfl;omega)|(apply Mn;rfl;rfl;omega)|(apply LY;rfl;rfl;rfl)|(apply LK;rfl;rfl)|(apply LO;rfl;rfl)|(intro _;omega)|intro _
       all_goals try omega
       all_goals exact gY ⟨t.length+1,by simp,acc++[x],_,_,_,_,_,_,rfl,ho',.inr ⟨p++x++[b],[],t,rfl,by rw[hs];simp,by simp;omega,by simp;omega,by simp,by simp;omega,by rw[List.nil_append,List.append_assoc];exact he⟩⟩
     . have e48:((s[((p.length:Int)+x.length).toNat]!).toNat:Int)≠c.toNat:=by
        rw[hb];exact fun e=>hc (UInt8.toNat_inj.1 (by omega))
       unfold lP;repeat' first|apply LL|apply aj|apply LM|apply LN|apply LW|apply LU|apply aZ|(apply LS;rfl)|(apply LR;rfl)|(apply Mf;rfl)|(apply MH;rfl;rfl)|(apply Mc;rfl;rfl)|(apply Ma;rfl;rfl)|(apply Mk;rfl;rfl;omega)|(apply Mn;rfl;rfl;omega)|(apply LK;rfl;rfl)|(apply LO;rfl;rfl)|(intro _;omega)|intro _
       all_goals try omega
       all_goals exact gY ⟨t.length+1,by simp,acc,o,K,_,_,_,_,rfl,ho,.inr ⟨p,x++[b],t,rfl,by rw[hs];simp,rfl,by simp;omega,by simp[hx];exact fun e=>hc e.symm,hacc,by rw[←he];simp⟩⟩)
 exact⟨v',hh,ho,hr⟩
set_option maxRecDepth 1000000
def xX:ao:=zR [⟨.p 2,.mv (.c (.str [])),none⟩,⟨.p 3,.mv (.c (.bool false)),none⟩] (zR [zm 6 0,zm 7 1,z2 8 186 6 7,ze 9 0 8,ze 10 1 8,zw 2 9,zw 3 10] (.ret))
theorem IW:FT 120=some ⟨11,[0,1,4,5],[.var (.p 2),.var (.p 3)],xX⟩:=by kernel_rfl
def se:ao:=zR [⟨.p 2,.mv (.c (.str [])),none⟩,⟨.p 3,.mv (.c (.bool false)),none⟩] (.seq (zR [zm 6 0,zm 7 1,z2 8 227 6 7,zu 9 8] (.cond (.l 9) (zR [zm 10 0,zw 2 10,⟨.p 3,.mv (.c (.bool false)),none⟩] (.ret)) (.skip))) (zR [zm 11 0,zm 12 0,zL 13 12,zm 14 1,zL 15 14,zb 16 .sub 13 15,⟨.l 17,.slice .str 1 (.l 11) none (some (.l 16)) none,none⟩,zw 2 17,⟨.p 3,.mv (.c (.bool true)),none⟩] (.ret)))
theorem IX:FT 186=some ⟨18,[0,1,4,5],[.var (.p 2),.var (.p 3)],se⟩:=by kernel_rfl
def sf:ao:=zR [⟨.p 2,.mv (.c (.bool false)),none⟩] (zR [zm 5 0,zL 6 5,zm 7 1,zL 8 7,zb 9 .geq 6 8,zn 10 9,zg (zm 11 0) 10 true,zg (zm 12 0) 10 true,zg (zL 13 12) 10 true,zg (zm 14 1) 10 true,zg (zL 15 14) 10 true,zg (zb 16 .sub 13 15) 10 true,⟨.l 17,.slice .str 1 (.l 11) (some (.l 16)) none none,some ((.l 10),true)⟩,zg (zm 18 1) 10 true,zg (zb 19 .eql 17 18) 10 true,zp 20 10 19,zw 2 20] (.ret))
theorem IY:FT 227=some ⟨21,[0,1,4],[.var (.p 2)],sf⟩:=by kernel_rfl
def xY:ao:=zR [zi 1 0,⟨.p 2,.mv (.c (.bool false)),none⟩] (zR [zm 7 0,z1 8 187 7,zn 6 8,ze 9 0 6,ze 10 1 6,zw 3 9,zw 4 10] (zR [zm 11 3,zm 12 4,zn 13 12,zg (zm 14 0) 13 true,zg (z1 15 164 14) 13 true,zp 16 13 15,zw 1 11,zw 2 16] (.ret)))
theorem IZ:FT 121=some ⟨17,[0,2,3,4,5],[.var (.p 1),.var (.p 2)],xY⟩:=by kernel_rfl
def xZ:ao:=zR [zx 1 49 3 0,⟨.p 2,.alloc 49 [.str [],.iV (0),.str []],none⟩,zi 3 0] (.seq (zR [zt 5 3 1,z1 6 36 5,zw 4 6] (zR [zm 7 4,zc 8 .neq 7 0] (.cond (.l 8) (zR [⟨.l 9,.build [.str [],.iV (0),.str []] [],none⟩,zm 10 4,zs 3 2 9,zw 3 10] (.ret)) (.skip)))) (zR [zt 11 3 1,zs 3 2 11,zi 3 0] (.ret)))
theorem Ja:FT 122=some ⟨12,[0,1,2,3,4],[.cell 3 true (.p 2),.var (.p 3)],xZ⟩:=by kernel_rfl
def yb:ao:=zR [⟨.p 1,.alloc 49 [.str [],.iV (0),.str []],none⟩,zi 2 0] (zR [zm 12 0,⟨.l 13,.call (kF 163) [(.l 12),(.c (.str [46]))],none⟩,zn 11 13,ze 14 0 11,ze 15 1 11,ze 16 2 11,zw 3 14,zw 4 15,zw 5 16] (zR [zm 18 3,z1 19 121 18,zn 17 19,ze 20 0 17,ze 21 1 17,zw 6 20,zw 7 21] (zR [zm 23 4,⟨.l 24,.call (kF 188) [(.l 23),(kI 2),(kI 3)],none⟩,zn 22 24,ze 25 0 22,ze 26 1 22,zw 8 25,zw 9 26] (.seq (zR [zm 27 5,zu 28 27,zn 29 28,zg (zm 30 7) 29 false,zg (zu 31 30) 29 false,zP 32 29 31,zn 33 32,zg (zm 34 9) 33 false,zg (zu 35 34) 33 false,zP 36 33 35] (.cond (.l 36) (zR [⟨.l 37,.build [.str [],.iV (0),.str []] [],none⟩,zs 3 1 37,zi 2 25] (.ret)) (.skip))) (zR [zm 38 6,⟨.l 39,.bin .mul (kI 1000) (.l 38),none⟩,zm 40 8,zb 41 .add 39 40,⟨.l 42,.build [.str [],.iV (0),.str []] [(0,1,(.c (.str zD17))),(1,1,(.l 41))],none⟩,z1 43 122 42,ze 44 0 43,ze 45 1 43,zs 3 1 44,zw 2 45] (.ret))))))
theorem Jb:FT 123=some ⟨46,[0,2,3,4,5,6,7,8,9,10],[.cell 3 true (.p 1),.var (.p 2)],yb⟩:=by kernel_rfl
def yc:ao:=zR [zi 1 0,⟨.p 2,.mv (.c (.bool false)),none⟩] (.seq (zR [zm 6 0,z1 7 209 6,zu 8 7,zn 9 8,zg (zm 10 0) 9 false,zg (zL 11 10) 9 false,zg (zc 12 .gtr 11 9) 9 false,zP 13 9 12] (.cond (.l 13) (zR [zi 1 0,⟨.p 2,.mv (.c (.bool false)),none⟩] (.ret)) (.skip))) (zR [zm 15 0,z1 16 214 15,zn 14 16,ze 17 0 14,ze 18 1 14,zw 3 17,zw 4 18] (.seq (.draw [(zm 19 3,[]),(zm 20 4,[0]),(⟨.l 21,.eq false (.iface false) (.l 20) (.c (.cg)),none⟩,[0]),(zw 1 19,[1,2]),(zw 2 21,[])]) (.ret))))
theorem Jc:FT 187=some ⟨22,[0,2,3,4,5],[.var (.p 1),.var (.p 2)],yc⟩:=by kernel_rfl
def sg:ao:=zR [zr 20 .lss 8 7] (.seq (.cond (.l 20) (.skip) (.exit 0)) (.seq (.block 1 (.region [zm 21 5,zc 22 .mul 21 10,zw 5 22])) (.region [zq 23 .add 8 1,zw 8 23])))
def yd:ao:=zR [zi 3 0,⟨.p 4,.mv (.c (.bool false)),none⟩] (zR [zm 11 0,z1 12 187 11,zn 10 12,ze 13 0 10,ze 14 1 10,zw 5 13,zw 6 14] (.seq (zR [zm 15 2,zm 16 0,zL 17 16,⟨.p 7,.bin .sub (.l 15) (.l 17),none⟩,zi 8 0] (.block 0 (.loop sg))) (zR [zm 24 5,zm 25 6,zn 26 25,zg (zm 27 0) 26 true,zg (zL 28 27) 26 true,zg (zm 29 1) 26 true,zg (zm 30 2) 26 true,⟨.l 31,.call (kF 95) [(.l 28),(.l 29),(.l 30)],some ((.l 26),true)⟩,zg (zu 32 31) 26 true,zp 33 26 32,zw 3 24,zw 4 33] (.ret))))
theorem Jd:FT 188=some ⟨34,[0,1,2,6,7,8,9,18,19],[.var (.p 3),.var (.p 4)],yd⟩:=by kernel_rfl
def ye:ao:=zR [⟨.p 2,.mv (.c (.str [])),none⟩] (zR [zm 6 0,z1 7 183 6,zw 3 7] (zR [zm 8 1,zm 9 3,zL 10 9,zb 11 .sub 8 10,⟨.l 12,.mm true [(kI 0),(.l 11)],none⟩,⟨.l 13,.call (kF 264) [(.c (.str [48])),(.l 12)],none⟩,zm 14 3,zb 15 .add 13 14,zw 2 15] (.ret)))
theorem Je:FT 225=some ⟨16,[0,1,4,5],[.var (.p 2)],ye⟩:=by kernel_rfl
def yf:ao:=zR [⟨.p 1,.mv (.c (.str [])),none⟩] (zR [zm 8 0,zc 9 .quo 8 10000,zm 10 0,zc 11 .rem 10 10000,zw 2 9,zw 3 11] (zR [zm 12 2,zc 13 .quo 12 60,zm 14 2,zc 15 .quo 14 3600,zw 4 13,zw 5 15] (zR [⟨.p 6,.mv (.c (.str [])),none⟩] (.seq (.block 0 (zR [zm 19 5,zc 20 .gtr 19 0,zn 18 20] (.cond (.l 18) (.region [zm 21 5,z1 22 183 21,⟨.l 23,.bin .add (.l 22) (.c (.str [58])),none⟩,zm 24 4,zc 25 .rem 24 60,⟨.l 26,.call (kF 225) [(.l 25),(kI 2)],none⟩,zb 27 .add 23 26,⟨.l 28,.bin .add (.l 27) (.c (.str [58])),none⟩,zm 29 2,zc 30 .rem 29 60,⟨.l 31,.call (kF 225) [(.l 30),(kI 2)],none⟩,zb 32 .add 28 31,zw 6 32]) (zR [zm 34 4,zc 35 .gtr 34 0,zn 33 35] (.cond (.l 33) (.region [zm 36 4,z1 37 183 36,⟨.l 38,.bin .add (.l 37) (.c (.str [58])),none⟩,zm 39 2,zc 40 .rem 39 60,⟨.l 41,.call (kF 225) [(.l 40),(kI 2)],none⟩,zb 42 .add 38 41,zw 6 42]) (.region [zm 16 2,z1 17 183 16,zw 6 17])))))) (.seq (zR [zm 43 3,zc 44 .rem 43 100,zc 45 .eql 44 0] (.cond (.l 45) (zR [zm 46 6,⟨.l 47,.bin .add (.l 46) (.c (.str [46])),none⟩,zm 48 3,zc 49 .quo 48 100,⟨.l 50,.call (kF 225) [(.l 49),(kI 2)],none⟩,zb 51 .add 47 50,zw 1 51] (.ret)) (.skip))) (zR [zm 52 6,⟨.l 53,.bin .add (.l 52) (.c (.str [46])),none⟩,zm 54 3,⟨.l 55,.call (kF 225) [(.l 54),(kI 4)],none⟩,zb 56 .add 53 55,zw 1 56] (.ret)))))))
theorem Jf:FT 180=some ⟨57,[0,2,3,4,5,6,7],[.var (.p 1)],yf⟩:=by kernel_rfl
def yg:ao:=zR [⟨.p 1,.mv (.c (.str [])),none⟩] (zR [zm 5 0,zc 6 .quo 5 1000,z1 7 183 6,⟨.l 8,.bin .add (.l 7) (.c (.str [46])),none⟩,zm 9 0,zc 10 .rem 9 1000,zw 2 8,zw 3 10] (.seq (zR [zm 11 3,zc 12 .rem 11 10,zc 13 .eql 12 0] (.cond (.l 13) (zR [zm 14 2,zm 15 3,zc 16 .quo 15 10,⟨.l 17,.call (kF 225) [(.l 16),(kI 2)],none⟩,zb 18 .add 14 17,⟨.l 19,.bin .add (.l 18) (.c (.str [109])),none⟩,zw 1 19] (.ret)) (.skip))) (zR [zm 20 2,zm 21 3,⟨.l 22,.call (kF 225) [(.l 21),(kI 3)],none⟩,zb 23 .add 20 22,⟨.l 24,.bin .add (.l 23) (.c (.str [109])),none⟩,zw 1 24] (.ret))))
theorem Jg:FT 181=some ⟨25,[0,2,3,4],[.var (.p 1)],yg⟩:=by kernel_rfl
def yh:ao:=zR [⟨.p 1,.mv (.c (.str [])),none⟩] (zR [zm 3 0,z1 4 183 3,⟨.l 5,.bin .add (.l 4) (.c (.str [112])),none⟩,zw 1 5] (.ret))
theorem Jh:FT 182=some ⟨6,[0,2],[.var (.p 1)],yh⟩:=by kernel_rfl
def yi:ao:=zR [zx 1 49 3 0,⟨.p 2,.mv (.c (.str [])),none⟩,zi 3 0] (.seq (zR [zt 5 3 1,z1 6 36 5,zw 4 6] (zR [zm 7 4,zc 8 .neq 7 0] (.cond (.l 8) (zR [zm 9 4,⟨.p 2,.mv (.c (.str [])),none⟩,zw 3 9] (.ret)) (.skip)))) (.seq (zR [zf 10 0 1,zd 11 1 10,⟨.l 12,.bin .eql (.l 11) (.c (.str zD11)),none⟩] (.cond (.l 12) (zR [zf 13 2 1,zd 14 1 13,zw 2 14,zi 3 0] (.ret)) (.skip))) (.seq (.draw [(⟨.l 15,.call (kF 113) [],none⟩,[]),(zf 16 0 1,[0]),(zd 17 1 16,[0]),(⟨.l 18,.lookup .str (.agg [.iV (0),.iV (0),.bool false,.cf,.cN]) (.l 15) (.l 17) false,none⟩,[]),(⟨.l 19,.field 4 1 false (.l 18),none⟩,[]),(zf 20 1 1,[0,1,2,3,4]),(zd 21 1 20,[0,1,2,3,4]),(⟨.l 22,.call (.l 19) [(.l 21)],none⟩,[]),(zw 2 22,[]),(zi 3 0,[])]) (.ret))))
theorem Ji:FT 44=some ⟨23,[0,1,2,3,4],[.var (.p 2),.var (.p 3)],yi⟩:=by kernel_rfl
def yj:ao:=zR [⟨.p 1,.alloc 49 [.str [],.iV (0),.str []],none⟩,zi 2 0] (.seq (zR [zm 10 0,zL 11 10,zc 12 .gtr 11 24] (.cond (.l 12) (zR [⟨.l 13,.build [.str [],.iV (0),.str []] [],none⟩,zs 3 1 13,zi 2 26] (.ret)) (.skip))) (.seq (zR [zm 14 0,z1 15 112 14] (.cond (.l 15) (zR [zm 16 0,⟨.l 17,.build [.str [],.iV (0),.str []] [(0,1,(.c (.str zD11))),(2,1,(.l 16))],none⟩,zs 3 1 17,zi 2 0] (.ret)) (.skip))) (.seq (zR [zm 19 0,⟨.l 20,.call (kF 120) [(.l 19),(.c (.str [112]))],none⟩,zn 18 20,ze 21 0 18,ze 22 1 18,zw 3 21,zw 4 22] (zR [zm 23 4] (.cond (.l 23) (zR [zm 25 3,z1 26 121 25,zn 24 26,ze 27 0 24,ze 28 1 24,zw 5 27,zw 6 28] (.seq (zR [zm 29 6,zu 30 29] (.cond (.l 30) (zR [⟨.l 31,.build [.str [],.iV (0),.str []] [],none⟩,zs 3 1 31,zi 2 25] (.ret)) (.skip))) (zR [zm 32 5,⟨.l 33,.build [.str [],.iV (0),.str []] [(0,1,(.c (.str zD14))),(1,1,(.l 32))],none⟩,z1 34 122 33,ze 35 0 34,ze 36 1 34,zs 3 1 35,zw 2 36] (.ret)))) (.skip)))) (.seq (zR [zm 38 0,⟨.l 39,.call (kF 120) [(.l 38),(.c (.str [109]))],none⟩,zn 37 39,ze 40 0 37,ze 41 1 37,zw 7 40,zw 8 41] (zR [zm 42 8] (.cond (.l 42) (zR [zm 43 7,z1 44 123 43,ze 45 0 44,ze 46 1 44,zs 3 1 45,zw 2 46] (.ret)) (.skip)))) (zR [zm 47 0,z1 48 124 47,ze 49 0 48,ze 50 1 48,zs 3 1 49,zw 2 50] (.ret))))))
theorem Jj:FT 46=some ⟨51,[0,2,3,4,5,6,7,8,9],[.cell 3 true (.p 1),.var (.p 2)],yj⟩:=by kernel_rfl
theorem Jk (hft:M.FT=FT)(s:ah)(b:UInt8)(hl:s.length<1000000):aG M 227 [.str s,.str [b]] [] ⟨.bool (dq b s),[],[]⟩:=by
 have hn1:([b]:ah).length=1:=rfl;refine ba (by rw[hft];exact IY) (by simp) ?_;rcases List.eq_nil_or_concat s with rfl|⟨t,c,e⟩
 . have h0:([]:ah).length=0:=rfl;unfold sf;simp only[enter];repeat' first|apply LL|apply aj|apply LM|apply LN|apply LP|(apply Ml;rfl)|(apply Mx;rfl;rfl)|(apply Ma;rfl;rfl)|(apply LK;rfl;rfl)|(apply LO;rfl;rfl)|(intro _;omega)|intro _
   all_goals try omega
   all_goals exact⟨.inr rfl,rfl,_,rfl,rfl,rfl⟩
 . rw[List.concat_eq_append]at e;subst e;have hcl:(t++[c]).length=t.length+1:=by simp
   have hd:(t++[c]).drop ((((t++[c]).length:Int)-(([b]:ah).length:Int)).toNat)=[c]:=by
    rw[show ((((t++[c]).length:Int)-(([b]:ah).length:Int)).toNat)=t.length by omega];simp
   have he:dq b (t++[c])=decide (c=b):=by simp[dq]
   rw[he];unfold sf;simp only[enter];by_cases hc:c=b
   . subst hc;rw[decide_eq_true rfl];repeat' first|(apply MW;rfl;rfl;omega;exact hd)|(apply Mg;rfl;rfl;intro _;rotate_left;(intro h;exact absurd rfl h))|apply LL|apply aj|apply LM|apply LN|apply LP|(apply Mj;rfl)|(apply Mx;rfl;rfl)|(apply Mb;rfl;rfl)|(apply Mw;rfl;rfl;omega)|(apply LK;rfl;rfl)|(apply LO;rfl;rfl)|(intro _;omega)|intro _
     all_goals try omega
     all_goals exact⟨.inr rfl,rfl,_,rfl,rfl,rfl⟩
   . rw[decide_eq_false hc];repeat' first|(apply MW;rfl;rfl;omega;exact hd)|(apply Mg;rfl;rfl;(intro h;exact absurd (List.cons.inj h).1 hc);intro _)|apply LL|apply aj|apply LM|apply LN|apply LP|(apply Mj;rfl)|(apply Mx;rfl;rfl)|(apply Mb;rfl;rfl)|(apply Mw;rfl;rfl;omega)|(apply LK;rfl;rfl)|(apply LO;rfl;rfl)|(intro _;omega)|intro _
     all_goals try omega
     all_goals exact⟨.inr rfl,rfl,_,rfl,rfl,rfl⟩
theorem Jl (hft:M.FT=FT)(s:ah)(b:UInt8)(hl:s.length<1000000)(q:∀h,M.ext 227 [.str s,.str [b]] h=some ⟨.bool (dq b s),h,[]⟩):aG M 186 [.str s,.str [b]] [] ⟨.ar [.str (if dq b s then s.dropLast else s),.bool (dq b s)],[],[]⟩:=by
 have hn1:([b]:ah).length=1:=rfl;refine ba (by rw[hft];exact IX) (by simp) ?_;cases he:dq b s with
 | true=>
  rw[he]at q;have hne:s≠[]:=by rintro rfl;simp[dq]at he
  have hpos:0<s.length:=List.length_pos_iff.2 hne;have hd:s.take (((s.length:Int)-(([b]:ah).length:Int)).toNat)=s.dropLast:=by
   rw[show ((s.length:Int)-(([b]:ah).length:Int)).toNat=s.length-1 by omega,List.dropLast_eq_take]
  unfold se;simp only[enter];repeat' first|(apply MK;rfl;rfl;omega;exact hd)|apply LL|apply aj|apply LM|apply LN|apply LP|apply LU|(apply LR;rfl)|(apply Mw;rfl;rfl;omega)|(apply LV;rfl;rfl;first|exact q _)|(apply LK;rfl;rfl)|(apply LO;rfl;rfl)
  all_goals exact⟨.inr rfl,rfl,_,rfl,rfl,rfl⟩
 | false=>
  rw[he]at q;unfold se;simp only[enter];repeat' first|apply LL|apply aj|apply LM|apply LN|apply LP|apply aF|(apply LS;rfl)|(apply LV;rfl;rfl;first|exact q _)|(apply LK;rfl;rfl)|(apply LO;rfl;rfl)
  all_goals exact⟨.inr rfl,rfl,_,rfl,rfl,rfl⟩
theorem Jm (hft:M.FT=FT)(s:ah)(b:UInt8)(q:∀h,M.ext 186 [.str s,.str [b]] h=some ⟨.ar [.str (if dq b s then s.dropLast else s),.bool (dq b s)],h,[]⟩):aG M 120 [.str s,.str [b]] [] ⟨.ar [.str (if dq b s then s.dropLast else s),.bool (dq b s)],[],[]⟩:=by
 refine ba (by rw[hft];exact IW) (by simp) ?_;unfold xX;simp only[enter];repeat' first|apply LL|apply aj|apply LM|apply LN|apply LP|(apply LV;rfl;rfl;first|exact q _)|(apply LK;rfl;rfl)|(apply LO;rfl;rfl)
 all_goals exact⟨.inr rfl,rfl,_,rfl,rfl,rfl⟩
theorem Jn (hft:M.FT=FT)(s:ah)(hl:s.length<1000000)(q209:∀h,M.ext 209 [.str s] h=some ⟨.bool (decide (s≠[]) && s.all bL),h,[]⟩)
 (q214:∀h,s≠[]->s.length<=18->s.all bL=true->M.ext 214 [.str s] h=some ⟨.ar [.iV (bK 0 s),.cg],h,[]⟩):aG M 187 [.str s] [] ⟨.ar [.iV (bB s),.bool (decide (0<=bj s))],[],[]⟩:=by
 refine ba (by rw[hft];exact Jc) (by simp) ?_;unfold yc;simp only[enter];by_cases hE:s≠[]/\s.length<=9/\s.all bL=true
 . have e:bj s=(bK 0 s:Nat):=if_pos hE;have h0:(0:Int)<=(bK 0 s:Nat):=by omega
   have q214:=fun h=>q214 h hE.1 (by omega) hE.2.2
   have hl9:=hE.2.1;rw[decide_eq_true hE.1,hE.2.2]at q209;rw[bB,e,if_pos h0,decide_eq_true h0];repeat' first|apply LL|apply aj|apply LM|apply LN|apply LP|apply LU|(apply MI;rfl)|(apply LR;rfl)|(apply Mf;rfl)|(apply LZ;rfl;rfl)|(apply Ma;rfl;rfl)|(apply LV;rfl;rfl;first|exact q209 _|exact q214 _)|(apply LK;rfl;rfl)|(apply LO;rfl;rfl)|(intro _;omega)|intro _
   all_goals try omega
   all_goals exact⟨.inr rfl,rfl,_,rfl,rfl,rfl⟩
 . have e:bj s = -1:=if_neg hE;rw[bB,e,if_neg (by decide),decide_eq_false (by decide)];cases hb:(decide (s≠[]) && s.all bL) with
   | false=>
    rw[hb]at q209;repeat' first|apply LL|apply aj|apply LM|apply LN|apply LP|apply aF|(apply LS;rfl)|(apply Mm;rfl)|(apply Mb;rfl;rfl)|(apply LV;rfl;rfl;first|exact q209 _)|(apply LK;rfl;rfl)|(apply LO;rfl;rfl)
    all_goals try omega
    all_goals exact⟨.inr rfl,rfl,_,rfl,rfl,rfl⟩
   | true=>
    rw[hb]at q209;rw[Bool.and_eq_true]at hb;have h9:9<s.length:=by
     have:=of_decide_eq_true hb.1;apply Nat.lt_of_not_le;exact fun h=>hE ⟨this,h,hb.2⟩
    repeat' first|apply LL|apply aj|apply LM|apply LN|apply LP|apply aF|(apply LS;rfl)|(apply Mf;rfl)|(apply LZ;rfl;rfl)|(apply Ma;rfl;rfl)|(apply LV;rfl;rfl;first|exact q209 _)|(apply LK;rfl;rfl)|(apply LO;rfl;rfl)|(intro _;omega)|intro _
    all_goals try omega
    all_goals exact⟨.inr rfl,rfl,_,rfl,rfl,rfl⟩
theorem Jo (hft:M.FT=FT)(s:ah)(q187:∀h,M.ext 187 [.str s] h=some ⟨.ar [.iV (bB s),.bool (decide (0<=bj s))],h,[]⟩)
 (q164:∀h,M.ext 164 [.str s] h=some ⟨.bool (hG s),h,[]⟩):aG M 121 [.str s] [] ⟨.ar [.iV (bB s),.bool (decide (0<=bA s))],[],[]⟩:=by
 refine ba (by rw[hft];exact IZ) (by simp) ?_;unfold xY;simp only[enter];rw[Iu];cases hb:decide (0<=bj s) with
 | false=>
  rw[hb]at q187;repeat' first|apply LL|apply aj|apply LM|apply LN|apply LP|(apply Ml;rfl)|(apply Ma;rfl;rfl)|(apply LV;rfl;rfl;first|exact q187 _)|(apply LK;rfl;rfl)|(apply LO;rfl;rfl)
  all_goals exact⟨.inr rfl,rfl,_,rfl,rfl,rfl⟩
 | true=>
  rw[hb]at q187;rw[Bool.true_and];repeat' first|apply LL|apply aj|apply LM|apply LN|apply LP|(apply Mj;rfl)|(apply Mb;rfl;rfl)|(apply LV;rfl;rfl;first|exact q187 _|exact q164 _)|(apply LK;rfl;rfl)|(apply LO;rfl;rfl)
  all_goals exact⟨.inr rfl,rfl,_,rfl,rfl,rfl⟩
theorem Jp (hft:M.FT=FT)(s:ah)(hl:s.length<1000000)(lo hi:Nat)(hh:lo<=4/\hi<=4)(q187:∀h,M.ext 187 [.str s] h=some ⟨.ar [.iV (bB s),.bool (decide (0<=bj s))],h,[]⟩)
 (q95:∀h,M.ext 95 [.iV s.length,.iV lo,.iV hi] h=some ⟨.bool (decide ((s.length:Int)<lo) || decide ((hi:Int)<s.length)),h,[]⟩) :
 aG M 188 [.str s,.iV lo,.iV hi] [] ⟨.ar [.iV (eK s hi),.bool (decide (0<=bF s lo hi))],[],[]⟩:=by
 refine ba (by rw[hft];exact Jd) (by simp) ?_;unfold yd;simp only[enter];have hN:=rZ s;have e1:(decide ((s.length:Int)<lo) || decide ((hi:Int)<s.length))=(decide (s.length<lo) || decide (hi<s.length)):=by
  simp only[Int.ofNat_lt]
 rw[e1]at q95;rw[sb];obtain⟨D,hD⟩:∃D,D=decide (0<=bj s):=⟨_,rfl⟩;obtain⟨B,hB⟩:∃B,B=(decide (s.length<lo) || decide (hi<s.length)):=⟨_,rfl⟩;rw[←hD]at q187 ⊢;rw[←hB]at q95 ⊢;repeat' first|apply LL|apply aj|apply LM|apply LN|apply LW|(apply LV;rfl;rfl;first|exact q187 _)|(apply LK;rfl;rfl)|(apply LO;rfl;rfl)
 rw[show IntKind.i64.wrap ((hi:Int)-(s.length:Int))=(hi:Int)-(s.length:Int) from jh (by omega)];refine W.nw (hi-s.length) (fun i st=>∃lo' wr,st=⟨⟨[.str s,.iV lo,.iV hi,.iV 0,.bool false,.iV (bB s*10^i),.bool D,.iV ((hi:Int)-(s.length:Int)),.iV i],lo',[],[]⟩,wr⟩) (fun i st hi' ⟨lo',wr,hst⟩=>?_) (fun st ⟨lo',wr,hst⟩=>?_) (Nat.zero_le _) ⟨_,_,by rw[Int.pow_zero,Int.mul_one];rfl⟩
 . subst hst;have h1:(10:Int)^i<=10^4:=kf (by decide) (by omega);have h2:(0:Int)<=10^i:=Int.pow_nonneg (by decide);have e4:(10:Int)^4=10000:=rfl;have h3:0<=bB s*10^i:=Int.mul_nonneg hN.1 h2;have h4:bB s*10^i<=bB s*10^4:=Int.mul_le_mul_of_nonneg_left h1 hN.1;have h5:bB s*10^i*10=bB s*10^(i+1):=by rw[Int.pow_succ,Int.mul_assoc]
   have b5 : -9223372036854775808<=bB s*10^i*10/\bB s*10^i*10<9223372036854775808:=by omega
   unfold sg;repeat' first|(apply MF;rfl;rfl;exact b5)|apply LL|apply aj|apply LM|apply LN|apply LW|apply LU|apply aZ|(apply LS;rfl)|(apply Md;rfl;rfl)|(apply Mk;rfl;rfl;omega)|(apply LK;rfl;rfl)|(apply LO;rfl;rfl)|(intro _;omega)|intro _
   all_goals try omega
   refine gY ?_;rw[h5];exact⟨_,_,rfl⟩
 . subst hst;have e:bB s*10^(hi-s.length)=eK s hi:=rfl;rw[e];unfold sg;cases D with
   | false=>
    repeat' first|apply LL|apply aj|apply LM|apply LN|apply LP|apply Mi|apply bO|apply bR|apply cw|(apply LR;rfl)|(apply Ml;rfl)|(apply Md;rfl;rfl)|(apply Ma;rfl;rfl)|(apply LK;rfl;rfl)|(apply LO;rfl;rfl)|(intro _;omega)|intro _
    all_goals try omega
    all_goals exact⟨.inr rfl,rfl,_,rfl,rfl,rfl⟩
   | true=>
    cases B with
    | false=>
     repeat' first|apply LL|apply aj|apply LM|apply LN|apply LP|apply Mi|apply bO|apply bR|apply cw|(apply LR;rfl)|(apply Mj;rfl)|(apply Md;rfl;rfl)|(apply Mb;rfl;rfl)|(apply LV;rfl;rfl;first|exact q95 _)|(apply LK;rfl;rfl)|(apply LO;rfl;rfl)|(intro _;omega)|intro _
     all_goals try omega
     all_goals exact⟨.inr rfl,rfl,_,rfl,rfl,rfl⟩
    | true=>
     repeat' first|apply LL|apply aj|apply LM|apply LN|apply LP|apply Mi|apply bO|apply bR|apply cw|(apply LR;rfl)|(apply Mj;rfl)|(apply Md;rfl;rfl)|(apply Mb;rfl;rfl)|(apply LV;rfl;rfl;first|exact q95 _)|(apply LK;rfl;rfl)|(apply LO;rfl;rfl)|(intro _;omega)|intro _
     all_goals try omega
     all_goals exact⟨.inr rfl,rfl,_,rfl,rfl,rfl⟩
theorem Jq (hft:M.FT=FT)(k:ah)(v:Int)(r:ah)(q36:∀h,M.ext 36 [cW k v r] h=some ⟨.iV (bM k v r),h,[]⟩):aG M 122 [cW k v r] [] ⟨(dp k v r).av,[],[]⟩:=by
 refine ba (by rw[hft];exact Ja) (by simp) ?_;unfold xZ;simp only[enter];by_cases he:bM k v r=0
 . rw[he]at q36;have e:dp k v r=⟨k,v,r,0⟩:=if_neg (fun h=>h he);rw[e];repeat' first|apply LL|apply aj|apply LM|apply LN|apply LP|apply LU|(apply LR;rfl)|(apply Mh;rfl;rfl)|(apply LV;rfl;rfl;first|exact q36 _)|(apply LY;rfl;rfl;rfl)|(apply LX;rfl;rfl;rfl)|(apply Me;rfl;rfl;rfl)|(apply LK;rfl;rfl)|(apply LO;rfl;rfl)|(intro _;omega)|intro _
   all_goals try omega
   all_goals exact⟨.inr rfl,rfl,_,rfl,rfl,rfl⟩
 . have e:dp k v r=cK (bM k v r):=if_pos he;rw[e];repeat' first|apply LL|apply aj|apply LM|apply LN|apply LP|apply aF|(apply LS;rfl)|(apply Mh;rfl;rfl)|(apply LV;rfl;rfl;first|exact q36 _)|(apply LY;rfl;rfl;rfl)|(apply LX;rfl;rfl;rfl)|(apply Me;rfl;rfl;rfl)|(apply LK;rfl;rfl)|(apply LO;rfl;rfl)|(intro _;omega)|intro _
   all_goals first|(omega)|contradiction|skip
   all_goals exact⟨.inr rfl,rfl,_,rfl,rfl,rfl⟩
theorem yk {b:UInt8}(s:ah):(aT b s).1.length<=s.length/\((aT b s).2.getD []).length<=s.length:=by
 cases h:(aT b s).2 with
 | none=>rw[(iL h).1];exact⟨Nat.le_refl _,Nat.zero_le _⟩
 | some y=>
  have:=nW h;show _/\y.length<=_;omega
structure CL (M:ay):Prop where
 ft:M.FT=FT
 jx:∀k v r h,M.ext 36 [cW k v r] h=some ⟨.iV (bM k v r),h,[]⟩
 lQ:∀(s:ah) b h,s.length<1000000->M.ext 163 [.str s,.str [b]] h=some ⟨fk b s,h,[]⟩
 iO:∀(s:ah) h,s.length<1000000->M.ext 121 [.str s] h=some ⟨.ar [.iV (bB s),.bool (decide (0<=bA s))],h,[]⟩
 lR:∀(s:ah) (lo hi:Nat) h,s.length<1000000->lo<=4->hi<=4->M.ext 188 [.str s,.iV lo,.iV hi] h=some ⟨.ar [.iV (eK s hi),.bool (decide (0<=bF s lo hi))],h,[]⟩
 lS:∀k v r h,M.ext 122 [cW k v r] h=some ⟨(dp k v r).av,h,[]⟩
theorem Jr (C:CL M)(s:ah)(hl:s.length<1000000):aG M 123 [.str s] [] ⟨(gI s).av,[],[]⟩:=by
 refine ba (by rw[C.ft];exact Jb) (by simp) ?_;have hs:=yk (b:=46) s;have q163:=fun h=>C.lQ s 46 h hl
 unfold fk at q163;have q121:=fun h=>C.iO (aT 46 s).1 h (by omega)
 have q188:=fun h=>C.lR ((aT 46 s).2.getD []) 2 3 h (by omega) (by decide) (by decide)
 rw[show ((2:Nat):Int)=2 from rfl,show ((3:Nat):Int)=3 from rfl]at q188;unfold gI;unfold yb;simp only[enter];cases hy:(aT 46 s).2 with
 | none=>
  rw[hy]at q163 q188;show W _ _ _ (fun x s=>_/\_/\∃vs,_/\cd vs=(cK 25).av/\_);have q188:∀h,M.ext 188 [.str [],.iV 2,.iV 3] h=some ⟨.ar [.iV (eK [] 3),.bool (decide (0<=bF [] 2 3))],h,[]⟩:=q188;cases hD:decide (0<=bA (aT 46 s).1) with
  | false=>
   rw[hD]at q121;repeat' first|apply LL|apply aj|apply LM|apply LN|apply LP|apply aF|(apply LS;rfl)|(apply Mm;rfl)|(apply Mb;rfl;rfl)|(apply LV;rfl;rfl;first|exact q163 _|exact q121 _|exact q188 _)|(apply LX;rfl;rfl;rfl)|(apply Me;rfl;rfl;rfl)|(apply LK;rfl;rfl)|(apply LO;rfl;rfl)
   all_goals exact⟨.inr rfl,rfl,_,rfl,rfl,rfl⟩
  | true=>
   rw[hD]at q121;repeat' first|apply LL|apply aj|apply LM|apply LN|apply LP|apply aF|(apply LS;rfl)|(apply Mm;rfl)|(apply Mb;rfl;rfl)|(apply LV;rfl;rfl;first|exact q163 _|exact q121 _|exact q188 _)|(apply LX;rfl;rfl;rfl)|(apply Me;rfl;rfl;rfl)|(apply LK;rfl;rfl)|(apply LO;rfl;rfl)
   all_goals exact⟨.inr rfl,rfl,_,rfl,rfl,rfl⟩
 | some b=>
  rw[hy]at q163 q188;show W _ _ _ (fun x s'=>_/\_/\∃vs,_/\cd vs=(if bA (aT 46 s).1<0\/bF b 2 3<0 then cK 25 else dp fA (1000*bA (aT 46 s).1+bF b 2 3) []).av/\_);have q188:∀h,M.ext 188 [.str b,.iV 2,.iV 3] h=some ⟨.ar [.iV (eK b 3),.bool (decide (0<=bF b 2 3))],h,[]⟩:=q188;by_cases h1:0<=bA (aT 46 s).1
  . rw[decide_eq_true h1,sa h1]at q121;by_cases h2:0<=bF b 2 3
    . rw[decide_eq_true h2,←lN h2]at q188;rw[if_neg (by omega)];have l1:=rY (aT 46 s).1;have l2:=ov b (hi:=3) (by decide);rw[←lN h2]at l2;have q122:=C.lS fA (1000*bA (aT 46 s).1+bF b 2 3) [];unfold PR.av at q122 ⊢;generalize bA (aT 46 s).1=x at *
      generalize bF b 2 3=y at *
      repeat' first|apply LL|apply aj|apply LM|apply LN|apply LP|apply LU|(apply LR;rfl)|(apply Mf;rfl)|(apply Ma;rfl;rfl)|(apply Mk;rfl;rfl;omega)|(apply MF;rfl;rfl;omega)|(apply LV;rfl;rfl;first|exact q163 _|exact q121 _|exact q188 _|exact q122 _)|(apply LX;rfl;rfl;rfl)|(apply Me;rfl;rfl;rfl)|(apply LK;rfl;rfl)|(apply LO;rfl;rfl)
      all_goals try omega
      all_goals exact⟨.inr rfl,rfl,_,rfl,rfl,rfl⟩
    . rw[decide_eq_false h2]at q188;rw[if_pos (by omega)];repeat' first|apply LL|apply aj|apply LM|apply LN|apply LP|apply aF|(apply LS;rfl)|(apply Mf;rfl)|(apply Ma;rfl;rfl)|(apply LV;rfl;rfl;first|exact q163 _|exact q121 _|exact q188 _)|(apply LX;rfl;rfl;rfl)|(apply Me;rfl;rfl;rfl)|(apply LK;rfl;rfl)|(apply LO;rfl;rfl)
      all_goals exact⟨.inr rfl,rfl,_,rfl,rfl,rfl⟩
  . rw[decide_eq_false h1]at q121;rw[if_pos (by omega)];cases hD:decide (0<=bF b 2 3) with
    | false=>
     rw[hD]at q188;repeat' first|apply LL|apply aj|apply LM|apply LN|apply LP|apply aF|(apply LS;rfl)|(apply Mf;rfl)|(apply Mm;rfl)|(apply Mb;rfl;rfl)|(apply Ma;rfl;rfl)|(apply LV;rfl;rfl;first|exact q163 _|exact q121 _|exact q188 _)|(apply LX;rfl;rfl;rfl)|(apply Me;rfl;rfl;rfl)|(apply LK;rfl;rfl)|(apply LO;rfl;rfl)
     all_goals exact⟨.inr rfl,rfl,_,rfl,rfl,rfl⟩
    | true=>
     rw[hD]at q188;repeat' first|apply LL|apply aj|apply LM|apply LN|apply LP|apply aF|(apply LS;rfl)|(apply Mf;rfl)|(apply Mm;rfl)|(apply Mb;rfl;rfl)|(apply Ma;rfl;rfl)|(apply LV;rfl;rfl;first|exact q163 _|exact q121 _|exact q188 _)|(apply LX;rfl;rfl;rfl)|(apply Me;rfl;rfl;rfl)|(apply LK;rfl;rfl)|(apply LO;rfl;rfl)
     all_goals exact⟨.inr rfl,rfl,_,rfl,rfl,rfl⟩
theorem NK {t:Nat}{x y:aq}{l:List az}{pe:List AV}{lo:List (Nat×AV)}{hp:ae}{df wr:List Nat}{k:IntKind}{a b:Int}{Q:ak->Prop}{m:Int}(hx:(St.mk pe lo hp df).aa x=some (.int k a))(hy:(St.mk pe lo hp df).aa y=some (.int k b))(hm:m=a/\b<=a\/m=b/\a<=b)
 (h:WO M l ⟨⟨pe,(t,.int k m)::lo,hp,df⟩,wr⟩ Q):WO M (⟨.l t,.mm true [x,y],none⟩::l) ⟨⟨pe,lo,hp,df⟩,wr⟩ Q:=by
 refine LK (v:=.int k m) ?_ rfl h;simp only[aE,St.br,hx,hy];have e:(if a<b then b else a)=m:=by split <;> omega
 simp[iS,e]
theorem Jt (hft:M.FT=FT)(n L:Nat)(hL:0<L/\L<=4)(hn:n<10^L)(q183:∀h,M.ext 183 [.iV n] h=some ⟨.str (bo n),h,[]⟩)
 (q264:∀k h,k<=64->M.ext 264 [.str [48],.iV (k:Nat)] h=some ⟨.str (List.replicate k 48),h,[]⟩):aG M 225 [.iV n,.iV L] [] ⟨.str (bz L n),[],[]⟩:=by
 refine ba (by rw[hft];exact Je) (by simp) ?_;have hlen:=fP hn hL.1;have e:=Iv hn hL.1;have q264:=fun h=>q264 (L-(bo n).length) h (by omega)
 have hm:(((L-(bo n).length:Nat):Int)=(0:Int)/\(L:Int)-((bo n).length:Int)<=(0:Int))\/(((L-(bo n).length:Nat):Int)=(L:Int)-((bo n).length:Int)/\(0:Int)<=(L:Int)-((bo n).length:Int)):=by omega
 rw[←e];have hr:(List.replicate (L-(bo n).length) (48:UInt8)).length=L-(bo n).length:=List.length_replicate;unfold ye;simp only[enter];repeat' first|(apply NK (m:=((L-(bo n).length:Nat):Int));rfl;rfl;exact hm)|apply LL|apply aj|apply LM|apply LN|apply LP|(apply Mw;rfl;rfl;omega)|(apply MU;rfl;rfl;first|omega|(simp only[List.length_append,List.length_cons,List.length_nil];omega)|(simp;omega))|(apply LV;rfl;rfl;first|exact q183 _|exact q264 _)|(apply LK;rfl;rfl)|(apply LO;rfl;rfl)
 all_goals exact⟨.inr rfl,rfl,_,rfl,rfl,rfl⟩
theorem Ju (hft:M.FT=FT)(n:Nat)(hn:n<1000000000)(q183:∀h,M.ext 183 [.iV n] h=some ⟨.str (bo n),h,[]⟩):aG M 182 [.iV n] [] ⟨.str (lO n),[],[]⟩:=by
 refine ba (by rw[hft];exact Jh) (by simp) ?_;have hlen:=fP (k:=9) hn (by decide);unfold yh lO;simp only[enter];repeat' first|apply LL|apply aj|apply LM|apply LN|apply LP|(apply MU;rfl;rfl;first|omega|(simp only[List.length_append,List.length_cons,List.length_nil];omega)|(simp;omega))|(apply LV;rfl;rfl;first|exact q183 _)|(apply LK;rfl;rfl)|(apply LO;rfl;rfl)
 all_goals exact⟨.inr rfl,rfl,_,rfl,rfl,rfl⟩
structure sh (M:ay):Prop where
 ft:M.FT=FT
 lT:∀(m:Nat) h,m<1000000000->M.ext 183 [.iV m] h=some ⟨.str (bo m),h,[]⟩
 jy:∀(m L:Nat) h,0<L/\L<=4->m<10^L->M.ext 225 [.iV m,.iV L] h=some ⟨.str (bz L m),h,[]⟩
theorem Jv (C:sh M)(n:Nat)(hn:n<=863999999):aG M 180 [.iV n] [] ⟨.str (kn n),[],[]⟩:=by
 refine ba (by rw[C.ft];exact Jf) (by simp) ?_;have a1:=fun h=>C.lT (n/10000/3600) h (by omega)
 have a2:=fun h=>C.lT (n/10000/60) h (by omega)
 have a3:=fun h=>C.lT (n/10000) h (by omega)
 have p1:=fun h=>C.jy (n/10000/60%60) 2 h (by decide) (by omega)
 have p2:=fun h=>C.jy (n/10000%60) 2 h (by decide) (by omega)
 have p3:=fun h=>C.jy (n%10000/100) 2 h (by decide) (by omega)
 have p4:=fun h=>C.jy (n%10000) 4 h (by decide) (by omega)
 have l1:=fP (n:=n/10000/3600) (k:=9) (by omega) (by decide);have l2:=fP (n:=n/10000/60) (k:=9) (by omega) (by decide);have l3:=fP (n:=n/10000) (k:=9) (by omega) (by decide);unfold yf;simp only[enter];repeat' first|(apply MU;rfl;rfl;(simp only[List.length_append,List.length_cons,List.length_nil,gh];omega))|apply LL|apply aj|apply LM|apply LN|apply LW|apply LP|apply LU|apply aF|apply aZ|(apply LS;rfl)|(apply LR;rfl)|(apply LZ;rfl;rfl)|(apply Mc;rfl;rfl)|(apply MZ;rfl;rfl;omega;intro _ _)|(apply MY;rfl;rfl;omega;omega;intro _ _)|(apply LV;rfl;rfl;first|exact a1 _|exact a2 _|exact a3 _|exact p1 _|exact p2 _|exact p3 _|exact p4 _)|(apply LK;rfl;rfl)|(apply LO;rfl;rfl)|(intro _;omega)|intro _
 all_goals try omega
 all_goals refine⟨.inr rfl,rfl,_,rfl,congrArg AV.str ?_,rfl⟩
 all_goals unfold kn
 all_goals first|rw[if_pos (show 3600<=n/10000 by omega)]|rw[if_neg (show ¬3600<=n/10000 by omega)]
 all_goals first|rw[if_pos (show 60<=n/10000 by omega)]|rw[if_neg (show ¬60<=n/10000 by omega)]|skip
 all_goals first|rw[if_pos (show n%100=0 by omega)]|rw[if_neg (show ¬n%100=0 by omega)]
theorem Jw (C:sh M)(n:Nat)(hn:n<=999999):aG M 181 [.iV n] [] ⟨.str (ko n),[],[]⟩:=by
 refine ba (by rw[C.ft];exact Jg) (by simp) ?_;have a1:=fun h=>C.lT (n/1000) h (by omega)
 have p1:=fun h=>C.jy (n%1000/10) 2 h (by decide) (by omega)
 have p2:=fun h=>C.jy (n%1000) 3 h (by decide) (by omega)
 have l1:=fP (n:=n/1000) (k:=9) (by omega) (by decide);unfold yg;simp only[enter];repeat' first|(apply MU;rfl;rfl;(simp only[List.length_append,List.length_cons,List.length_nil,gh];omega))|apply LL|apply aj|apply LM|apply LN|apply LP|apply LU|apply aF|(apply LS;rfl)|(apply LR;rfl)|(apply Mc;rfl;rfl)|(apply MZ;rfl;rfl;omega;intro _ _)|(apply MY;rfl;rfl;omega;omega;intro _ _)|(apply LV;rfl;rfl;first|exact a1 _|exact p1 _|exact p2 _)|(apply LK;rfl;rfl)|(apply LO;rfl;rfl)|(intro _;omega)|intro _
 all_goals try omega
 all_goals refine⟨.inr rfl,rfl,_,rfl,congrArg AV.str ?_,rfl⟩
 all_goals unfold ko
 all_goals first|rw[if_pos (show n%10=0 by omega)]|rw[if_neg (show ¬n%10=0 by omega)]
structure yl (M:ay):Prop where
 ft:M.FT=FT
 jx:∀k v r h,M.ext 36 [cW k v r] h=some ⟨.iV (bM k v r),h,[]⟩
 yn:∀h:ae,M.ext 113 [] h=some ⟨.map h.length,h++(rT h.length).map some,[]⟩
 yp:∀(n:Nat) h,n<=863999999->M.ext 180 [.iV n] h=some ⟨.str (kn n),h,[]⟩
 yq:∀(n:Nat) h,n<=999999->M.ext 181 [.iV n] h=some ⟨.str (ko n),h,[]⟩
 yr:∀(n:Nat) h,n<1000000000->M.ext 182 [.iV n] h=some ⟨.str (lO n),h,[]⟩
def fS (k:ah)(v:Int)(r:ah):AV:=if bM k v r≠0 then .ar [.str [],.iV (bM k v r)] else .ar [.str (ox k v r),.iV 0]
theorem Jx (C:yl M)(k:ah)(v:Int)(r:ah):aG M 44 [cW k v r] [] ⟨fS k v r,[],[]⟩:=by
 refine ba (by rw[C.ft];exact Ji) (by simp) ?_;have q36:=fun h=>C.jx k v r h
 have q113:=C.yn;unfold yi;simp only[enter];by_cases he:bM k v r=0
 . rw[he]at q36;rw[fS,if_neg (fun h=>h he)];rcases xC he with ⟨rfl,hr,rfl⟩|⟨hk,hk2,rfl,hl,hm⟩
   . repeat' first|apply LL|apply aj|apply LM|apply LN|apply LP|apply LU|apply aF|(apply LS;rfl)|(apply LR;rfl)|(apply Mh;rfl;rfl)|(apply LV;rfl;rfl;first|exact q36 _)|(apply Mg;rfl;rfl;all_goals first|(intro h;exact absurd h (by decide))|(intro h;exact absurd rfl h)|(intro h;contradiction)|intro _)|(apply LY;rfl;rfl;rfl)|(apply LX;rfl;rfl;rfl)|(apply LK;rfl;rfl)|(apply LO;rfl;rfl)|(intro _;omega)|intro _
     all_goals try omega
     all_goals exact⟨.inr rfl,rfl,_,rfl,rfl,rfl⟩
   . rcases hk2 with rfl|rfl|rfl;all_goals simp only[fm,fo]at hl hm
     all_goals simp(decide:=true) at hl hm
     all_goals obtain⟨n,rfl⟩:∃n:Nat,v=(n:Int):=⟨v.toNat,by omega⟩
     . have q:=fun h=>C.yp n h (by omega)
       repeat' first|(apply MG;rfl;rfl;(first|(simp only[nca];rfl)|rfl);exact q113 _)|(apply Mu;rfl;rfl;(first|(simp only[nca];rfl)|rfl);first|exact q _)|apply LL|apply aj|apply LM|apply LN|apply LP|apply LU|apply Mo|apply Mp|(apply Mq;rfl)|(apply Mt;rfl;rfl;(first|(simp only[nca];rfl)|rfl))|(apply MT;rfl;rfl)|(apply LR;rfl)|(apply Mh;rfl;rfl)|(apply LV;rfl;rfl;first|exact q36 _)|(apply Mg;rfl;rfl;all_goals first|(intro h;exact absurd h (by decide))|(intro h;exact absurd rfl h)|(intro h;contradiction)|intro _)|(apply LY;rfl;rfl;rfl)|(apply LX;rfl;rfl;rfl)|(apply LK;rfl;rfl)|(apply LO;rfl;rfl)|(intro _;omega)|intro _
       all_goals try omega
       all_goals exact⟨.inr rfl,rfl,_,rfl,rfl,rfl⟩
     . have q:=fun h=>C.yq n h (by omega)
       repeat' first|(apply MG;rfl;rfl;(first|(simp only[nca];rfl)|rfl);exact q113 _)|(apply Mu;rfl;rfl;(first|(simp only[nca];rfl)|rfl);first|exact q _)|apply LL|apply aj|apply LM|apply LN|apply LP|apply LU|apply Mo|apply Mp|(apply Mq;rfl)|(apply Mt;rfl;rfl;(first|(simp only[nca];rfl)|rfl))|(apply MT;rfl;rfl)|(apply LR;rfl)|(apply Mh;rfl;rfl)|(apply LV;rfl;rfl;first|exact q36 _)|(apply Mg;rfl;rfl;all_goals first|(intro h;exact absurd h (by decide))|(intro h;exact absurd rfl h)|(intro h;contradiction)|intro _)|(apply LY;rfl;rfl;rfl)|(apply LX;rfl;rfl;rfl)|(apply LK;rfl;rfl)|(apply LO;rfl;rfl)|(intro _;omega)|intro _
       all_goals try omega
       all_goals exact⟨.inr rfl,rfl,_,rfl,rfl,rfl⟩
     . have q:=fun h=>C.yr n h (by omega)
       repeat' first|(apply MG;rfl;rfl;(first|(simp only[nca];rfl)|rfl);exact q113 _)|(apply Mu;rfl;rfl;(first|(simp only[nca];rfl)|rfl);first|exact q _)|apply LL|apply aj|apply LM|apply LN|apply LP|apply LU|apply Mo|apply Mp|(apply Mq;rfl)|(apply Mt;rfl;rfl;(first|(simp only[nca];rfl)|rfl))|(apply MT;rfl;rfl)|(apply LR;rfl)|(apply Mh;rfl;rfl)|(apply LV;rfl;rfl;first|exact q36 _)|(apply Mg;rfl;rfl;all_goals first|(intro h;exact absurd h (by decide))|(intro h;exact absurd rfl h)|(intro h;contradiction)|intro _)|(apply LY;rfl;rfl;rfl)|(apply LX;rfl;rfl;rfl)|(apply LK;rfl;rfl)|(apply LO;rfl;rfl)|(intro _;omega)|intro _
       all_goals try omega
       all_goals exact⟨.inr rfl,rfl,_,rfl,rfl,rfl⟩
 . rw[fS,if_pos he];repeat' first|apply LL|apply aj|apply LM|apply LN|apply LP|apply aF|(apply LS;rfl)|(apply Mh;rfl;rfl)|(apply LV;rfl;rfl;first|exact q36 _)|(apply LY;rfl;rfl;rfl)|(apply LX;rfl;rfl;rfl)|(apply LK;rfl;rfl)|(apply LO;rfl;rfl)|(intro _;omega)|intro _
   all_goals first|(omega)|contradiction|skip
   all_goals exact⟨.inr rfl,rfl,_,rfl,rfl,rfl⟩
theorem Jy (hft:M.FT=FT)(s:ah)(hl:s.length<1000000)(lo hi:Nat)(hh:lo<=4/\hi<=4)(q129:∀h,M.ext 129 [.str s] h=some ⟨.iV (bj s),h,[]⟩) :
 aG M 128 [.str s,.iV lo,.iV hi] [] ⟨.iV (bF s lo hi),[],[]⟩:=by
 refine ba (by rw[hft];exact IB) (by simp) ?_;have hd:=ou s;unfold xP;simp only[enter];by_cases hE:bj s<0\/s.length<lo\/hi<s.length
 . have e:bF s lo hi = -1:=if_pos hE;rw[e];repeat' first|apply LL|apply aj|apply LM|apply LN|apply LP|apply aF|(apply LS;rfl)|(apply Mf;rfl)|(apply Mm;rfl)|(apply Md;rfl;rfl)|(apply LZ;rfl;rfl)|(apply Mb;rfl;rfl)|(apply Ma;rfl;rfl)|(apply LV;rfl;rfl;first|exact q129 _)|(apply LK;rfl;rfl)|(apply LO;rfl;rfl)|(intro _;omega)|intro _
   all_goals try omega
   all_goals exact⟨.inr rfl,rfl,_,rfl,rfl,rfl⟩
 . have e:bF s lo hi=bj s*10^(hi-s.length):=if_neg hE;rw[e];repeat' first|apply LL|apply aj|apply LM|apply LN|apply LW|apply LU|(apply LR;rfl)|(apply Mf;rfl)|(apply Md;rfl;rfl)|(apply LZ;rfl;rfl)|(apply Ma;rfl;rfl)|(apply LV;rfl;rfl;first|exact q129 _)|(apply LK;rfl;rfl)|(apply LO;rfl;rfl)|(intro _;omega)|intro _
   all_goals try omega
   refine W.nw (hi-s.length) (fun i st=>∃k lo' wr,st=⟨⟨[.str s,.iV lo,.iV hi,.iV 0,.iV (bj s*10^i),.iV k],lo',[],[]⟩,wr⟩/\k=(s.length:Int)+i) (fun i st hi' ⟨k,lo',wr,hst,hk⟩=>?_) (fun st ⟨k,lo',wr,hst,hk⟩=>?_) (Nat.zero_le _) ⟨_,_,_,by rw[Int.pow_zero,Int.mul_one];rfl,by omega⟩
   . subst hst;have h1:(10:Int)^i<=10^4:=kf (by decide) (by omega);have h2:(0:Int)<=10^i:=Int.pow_nonneg (by decide);have e4:(10:Int)^4=10000:=rfl;have h3:0<=bj s*10^i:=Int.mul_nonneg (by omega) h2;have h4:bj s*10^i<=bj s*10^4:=Int.mul_le_mul_of_nonneg_left h1 (by omega);have h5:10*(bj s*10^i)=bj s*10^(i+1):=by rw[Int.pow_succ,Int.mul_comm,Int.mul_assoc]
     have b5 : -9223372036854775808<=10*(bj s*10^i)/\10*(bj s*10^i)<9223372036854775808:=by omega
     unfold sc;repeat' first|(apply MF;rfl;rfl;exact b5)|apply LL|apply aj|apply LM|apply LN|apply LW|apply LU|apply aZ|(apply LS;rfl)|(apply Md;rfl;rfl)|(apply Mk;rfl;rfl;omega)|(apply LK;rfl;rfl)|(apply LO;rfl;rfl)|(intro _;omega)|intro _
     all_goals try omega
     refine gY ?_;rw[h5];exact⟨_,_,_,rfl,by omega⟩
   . subst hst;have hk':(hi:Int)<=k:=by omega
     unfold sc;repeat' first|apply LL|apply aj|apply LM|apply LN|apply LP|apply Mi|apply bO|apply bR|apply cw|(apply LR;rfl)|(apply Md;rfl;rfl)|(apply LK;rfl;rfl)|(apply LO;rfl;rfl)|(intro _;omega)|intro _
     all_goals try omega
     all_goals exact⟨.inr rfl,rfl,_,rfl,rfl,rfl⟩
theorem Jz (hft:M.FT=FT)(k:ah)(v:Int)(r:ah)(q35:∀h,M.ext 35 [cW k v r] h=some ⟨.iV (bM k v r),h,[]⟩):aG M 126 [cW k v r] [] ⟨(dp k v r).av,[],[]⟩:=by
 refine ba (by rw[hft];exact Iz) (by simp) ?_;unfold xN;simp only[enter];by_cases he:bM k v r=0
 . rw[he]at q35;have e:dp k v r=⟨k,v,r,0⟩:=if_neg (fun h=>h he);rw[e];repeat' first|apply LL|apply aj|apply LM|apply LN|apply LP|apply LU|(apply LR;rfl)|(apply Mh;rfl;rfl)|(apply LV;rfl;rfl;first|exact q35 _)|(apply LY;rfl;rfl;rfl)|(apply LX;rfl;rfl;rfl)|(apply Me;rfl;rfl;rfl)|(apply LK;rfl;rfl)|(apply LO;rfl;rfl)|(intro _;omega)|intro _
   all_goals try omega
   all_goals exact⟨.inr rfl,rfl,_,rfl,rfl,rfl⟩
 . have e:dp k v r=cK (bM k v r):=if_pos he;rw[e];repeat' first|apply LL|apply aj|apply LM|apply LN|apply LP|apply aF|(apply LS;rfl)|(apply Mh;rfl;rfl)|(apply LV;rfl;rfl;first|exact q35 _)|(apply LY;rfl;rfl;rfl)|(apply LX;rfl;rfl;rfl)|(apply Me;rfl;rfl;rfl)|(apply LK;rfl;rfl)|(apply LO;rfl;rfl)|(intro _;omega)|intro _
   all_goals first|(omega)|contradiction|skip
   all_goals exact⟨.inr rfl,rfl,_,rfl,rfl,rfl⟩
structure yt (M:ay):Prop where
 ft:M.FT=FT
 kp:∀(n:Nat) h,n<1000000000->M.ext 117 [.iV n,.iV 1] h=some ⟨.str (bo n),h,[]⟩
 lU:∀(n:Nat) h,n<100->M.ext 118 [.iV n] h=some ⟨.str (bz 2 n),h,[]⟩
 si:∀(n L:Nat) h,0<L/\L<=4->n<10^L->M.ext 119 [.iV n,.iV L] h=some ⟨.str (bz L n),h,[]⟩
theorem JA (C:yt M)(k:ah)(v:Int)(r:ah)(he:bM k v r=0):aG M 45 [cW k v r] [] ⟨.str (ox k v r),[],[]⟩:=by
 refine ba (by rw[C.ft];exact ID) (by simp) ?_;unfold xR;simp only[enter];rcases xC he with ⟨rfl,hr,rfl⟩|⟨hk,hk2,rfl,hl,hm⟩
 . repeat' first|apply LL|apply aj|apply LM|apply LN|apply LW|apply LP|apply aF|apply bX|(apply LS;rfl)|(apply Mg;rfl;rfl;all_goals first|(intro h;exact absurd h (by decide))|(intro h;exact absurd rfl h)|(intro h;contradiction)|intro _)|(apply LY;rfl;rfl;rfl)|(apply LX;rfl;rfl;rfl)|(apply LK;rfl;rfl)|(apply LO;rfl;rfl)
   all_goals try omega
   all_goals exact⟨.inr rfl,rfl,_,rfl,rfl,rfl⟩
 . rcases hk2 with rfl|rfl|rfl;all_goals simp only[fm,fo]at hl hm
   all_goals simp(decide:=true) at hl hm
   all_goals obtain⟨n,rfl⟩:∃n:Nat,v=(n:Int):=⟨v.toNat,by omega⟩
   . show W _ _ _ (fun x s'=>_/\_/\∃vs,_/\cd vs = .str (kn n)/\_);have a1:=fun h=>C.kp (n/10000/3600) h (by omega)
     have a2:=fun h=>C.kp (n/10000/60) h (by omega)
     have a3:=fun h=>C.kp (n/10000) h (by omega)
     have p1:=fun h=>C.lU (n/10000/60%60) h (by omega)
     have p2:=fun h=>C.lU (n/10000%60) h (by omega)
     have p3:=fun h=>C.lU (n%10000/100) h (by omega)
     have p4:=fun h=>C.si (n%10000) 4 h (by decide) (by omega)
     have l1:=fP (n:=n/10000/3600) (k:=9) (by omega) (by decide);have l2:=fP (n:=n/10000/60) (k:=9) (by omega) (by decide);have l3:=fP (n:=n/10000) (k:=9) (by omega) (by decide);repeat' first|(apply MU;rfl;rfl;(simp only[List.length_append,List.length_cons,List.length_nil,gh];omega))|apply LL|apply aj|apply LM|apply LN|apply LW|apply LP|apply LU|apply aF|apply aZ|(apply LS;rfl)|(apply LR;rfl)|(apply Md;rfl;rfl)|(apply Mc;rfl;rfl)|(apply MZ;rfl;rfl;omega;intro _ _)|(apply MY;rfl;rfl;omega;omega;intro _ _)|(apply LV;rfl;rfl;first|exact a1 _|exact a2 _|exact a3 _|exact p1 _|exact p2 _|exact p3 _|exact p4 _)|(apply Mg;rfl;rfl;all_goals first|(intro h;exact absurd h (by decide))|(intro h;exact absurd rfl h)|(intro h;contradiction)|intro _)|(apply LY;rfl;rfl;rfl)|(apply LX;rfl;rfl;rfl)|(apply LK;rfl;rfl)|(apply LO;rfl;rfl)|(intro _;omega)|intro _
     all_goals try omega
     all_goals refine⟨.inr rfl,rfl,_,rfl,congrArg AV.str ?_,rfl⟩
     all_goals unfold kn
     all_goals first|rw[if_pos (show 3600<=n/10000 by omega)]|rw[if_neg (show ¬3600<=n/10000 by omega)]
     all_goals first|rw[if_pos (show 60<=n/10000 by omega)]|rw[if_neg (show ¬60<=n/10000 by omega)]|skip
     all_goals first|rw[if_pos (show n%100=0 by omega)]|rw[if_neg (show ¬n%100=0 by omega)]
     all_goals simp only[List.append_assoc]
   . show W _ _ _ (fun x s'=>_/\_/\∃vs,_/\cd vs = .str (ko n)/\_);have a1:=fun h=>C.kp (n/1000) h (by omega)
     have p1:=fun h=>C.lU (n%1000/10) h (by omega)
     have p2:=fun h=>C.si (n%1000) 3 h (by decide) (by omega)
     have l1:=fP (n:=n/1000) (k:=9) (by omega) (by decide);repeat' first|(apply MU;rfl;rfl;(simp only[List.length_append,List.length_cons,List.length_nil,gh];omega))|apply LL|apply aj|apply LM|apply LN|apply LW|apply LP|apply LU|apply aF|apply bX|(apply LS;rfl)|(apply LR;rfl)|(apply Mc;rfl;rfl)|(apply MZ;rfl;rfl;omega;intro _ _)|(apply MY;rfl;rfl;omega;omega;intro _ _)|(apply LV;rfl;rfl;first|exact a1 _|exact p1 _|exact p2 _)|(apply Mg;rfl;rfl;all_goals first|(intro h;exact absurd h (by decide))|(intro h;exact absurd rfl h)|(intro h;contradiction)|intro _)|(apply LY;rfl;rfl;rfl)|(apply LX;rfl;rfl;rfl)|(apply LK;rfl;rfl)|(apply LO;rfl;rfl)|(intro _;omega)|intro _
     all_goals try omega
     all_goals refine⟨.inr rfl,rfl,_,rfl,congrArg AV.str ?_,rfl⟩
     all_goals unfold ko
     all_goals first|rw[if_pos (show n%10=0 by omega)]|rw[if_neg (show ¬n%10=0 by omega)]
   . show W _ _ _ (fun x s'=>_/\_/\∃vs,_/\cd vs = .str (lO n)/\_);have a1:=fun h=>C.kp n h (by omega)
     have l1:=fP (n:=n) (k:=9) (by omega) (by decide);repeat' first|apply LL|apply aj|apply LM|apply LN|apply LW|apply LP|apply aF|apply bX|(apply LS;rfl)|(apply LR;rfl)|(apply MU;rfl;rfl;first|omega|(simp only[List.length_append,List.length_cons,List.length_nil];omega)|(simp;omega))|(apply LV;rfl;rfl;first|exact a1 _)|(apply Mg;rfl;rfl;all_goals first|(intro h;exact absurd h (by decide))|(intro h;exact absurd rfl h)|(intro h;contradiction)|intro _)|(apply LY;rfl;rfl;rfl)|(apply LX;rfl;rfl;rfl)|(apply LK;rfl;rfl)|(apply LO;rfl;rfl)
     all_goals try omega
     all_goals exact⟨.inr rfl,rfl,_,rfl,rfl,rfl⟩
theorem sm:∀(j:Nat) (l m:List ah),bG j (l++m)=bG j l++bG (j+l.length) m
 | j,[],m=>by rw[List.nil_append,bG,List.nil_append,List.length_nil,Nat.add_zero]
 | j,s::l,m=>by rw[List.cons_append,bG,sm (j+1) l m,bG,List.cons_append,List.length_cons,show j+1+l.length=j+(l.length+1) by omega]
theorem yu (n:Nat):∀(j:Nat) (l m:List Int),eC n j (l++m)=(eC n j l || eC n (j+l.length) m)
 | j,[],m=>by rw[List.nil_append,eC,Bool.false_or,List.length_nil,Nat.add_zero]
 | j,x::l,m=>by rw[List.cons_append,eC,yu n (j+1) l m,eC,List.length_cons,show j+1+l.length=j+(l.length+1) by omega,Bool.or_assoc]
theorem yw:∀(j:Nat) (l:List ah),(bG j l).length=l.length
 | _,[]=>rfl
 | j,s::l=>by rw[bG,List.length_cons,yw,List.length_cons]
theorem JB {l:List ah}{i:Nat}(h:i<l.length):l.take (i+1)=l.take i++[l[i]!]:=by
 rw[List.take_add_one,List.getElem?_eq_getElem h,getElem!_pos l i h];rfl
theorem oz {l:List ah}{i:Nat}(h:i<l.length):bG 0 (l.take (i+1))=bG 0 (l.take i)++[bx i l[i]!]:=by
 rw[JB h,sm,List.length_take,Nat.min_eq_left (by omega),Nat.zero_add];rfl
theorem JC {l:List ah}{i:Nat}(n:Nat)(h:i<l.length):eC n 0 (bG 0 (l.take (i+1)))=(eC n 0 (bG 0 (l.take i)) || decide (59<bx i l[i]! /\ (0<i\/n<3))):=by
 rw[oz h,yu,yw,List.length_take,Nat.min_eq_left (by omega),Nat.zero_add,eC,eC,Bool.or_false]
theorem JD {l:List ah}{i:Nat}(h:i<l.length):eh (bG 0 (l.take (i+1)))=60*eh (bG 0 (l.take i))+bx i l[i]! := by
 rw[oz h,eh,List.foldl_append];rfl
theorem JE {l:List ah}{i:Nat}(h:i<l.length)(hb:bx i l[i]! < 0):(bG 0 l).any (fun x=>decide (x<0))=true:=by
 have e:=oz h;rw[←List.take_append_drop (i+1) l,sm,e,List.any_append,List.any_append,List.any_cons,decide_eq_true hb,Bool.true_or,Bool.or_true,Bool.true_or]
theorem JF {l:List ah}{i:Nat}(h:i<l.length)(hb:0<=bx i l[i]!):(bG 0 (l.take (i+1))).any (fun x=>decide (x<0))=(bG 0 (l.take i)).any (fun x=>decide (x<0)):=by
 rw[oz h,List.any_append,List.any_cons,decide_eq_false (by omega),List.any_nil,Bool.or_false,Bool.or_false]
theorem JG {s:ah}(h:¬s.all bL=true):bj s = -1:=if_neg (fun h'=>h h'.2.2)
theorem JH {s:ah}(h:s.all bL=true):cV 46 s=0:=by
 induction s with
 | nil=>rfl
 | cons a s ih=>
  rw[List.all_cons,Bool.and_eq_true]at h;rw[cV,ih h.2,if_neg (fun e=>by rw[e]at h;exact absurd h.1 (by decide))]
theorem JI (fs:List ah)(r:Int)(h:r<0):fa fs r=cK 25:=by rw[fa,if_pos (.inr h)]
theorem yx {s:ah}(h:bj s = -1)(lo hi:Nat):bF s lo hi = -1:=by rw[bF,if_pos (.inl (by omega))]
theorem yy {s:ah}(h:(aK 46 s).length≠2):gI s=cK 25/\gj s=cK 25:=by
 unfold gI gj;cases hy:(aT 46 s).2 with
 | none=>exact⟨rfl,rfl⟩
 | some b=>
  have h1:=iM hy;rw[kj,h1.2.2.1]at h;have hb:bj b = -1:=JG fun hd=>by rw[JH hd]at h;omega
  exact⟨if_pos (.inr (by rw[yx hb];decide)),JI _ _ (by rw[yx hb];decide)⟩
theorem yz {s:ah}(h:(aK 46 s).length=2):∃a b,aK 46 s=[a,b]/\a.length<=s.length/\b.length<=s.length/\gI s=(if bA a<0\/bF b 2 3<0 then cK 25 else dp fA (1000*bA a+bF b 2 3) [])/\gj s=fa (aK 58 a) (bF b 1 4):=by
 unfold gI gj;cases hy:(aT 46 s).2 with
 | none=>
  rw[(iL hy).2.1]at h;exact absurd h (by simp)
 | some b=>
  have h1:=iM hy;have h2:=h1.2.1;rw[h2,List.length_cons,kj]at h;have h3:=(iL (rK (b:=46) (s:=b) (by omega))).2.1;have hl:=nW hy;exact⟨(aT 46 s).1,b,by rw[h2,h3],by omega,by omega,rfl,rfl⟩
theorem JJ:cL []=cK 25:=rfl
theorem yA {s:ah}(h:0<s.length)(b:UInt8):dq b s=decide (s[s.length-1]! = b):=by
 unfold dq;rw[List.getLast?_eq_getElem?,getElem!_pos s (s.length-1) (by omega),List.getElem?_eq_getElem (by omega)];simp
structure dI where
 n:Int
 cM:Bool
 dv:Bool
 unit:Int
 count:Int
def stepT (t:dI)(x:Int)(right:Bool):dI:=
 ⟨IntKind.i64.wrap (t.n+IntKind.i64.wrap (min x 99*t.unit)),t.cM && right,t.dv || (if t.count<2 then decide (59<x) else if t.count=2 then decide (99<x) else false),IntKind.i64.wrap (t.unit*60),t.count+1⟩
def bY (L i:Nat)(w:ah):Bool:=decide (0<=bx i w) && decide (L<=3)
def fT (l:List ah):Nat->dI->dI
 | 0,t=>t
 | j+1,t=>fT l j (stepT t (bB l[j]!) (bY l.length j l[j]!))
def fb (found:Bool)(t:dI):PR:=
 if cU [if !found || !t.cM then 25 else 0,if t.dv then 3 else 0,bM cJ t.n []]≠0 then cK (cU [if !found || !t.cM then 25 else 0,if t.dv then 3 else 0,bM cJ t.n []]) else ⟨cJ,t.n,[],0⟩
def kq (back:ah):dI:=⟨eK back 4,decide (0<=bF back 1 4),false,10000,0⟩
def oA (s:ah):PR:=fb (aT 46 s).2.isSome (fT (aK 58 (aT 46 s).1) (aK 58 (aT 46 s).1).length (kq ((aT 46 s).2.getD [])))
theorem sn (l:List ah):∀(j:Nat) (t:dI),t.cM=false->(fT l j t).cM=false
 | 0,_,h=>h
 | j+1,t,h=>sn l j _ (by show (t.cM && _)=false;rw[h];rfl)
theorem kr {found:Bool}{t:dI}(h:found=false\/t.cM=false):fb found t=cK 25:=by
 have:(!found || !t.cM)=true:=by
  rcases h with h|h <;> rw[h] <;> simp
 unfold fb;rw[this];rfl
theorem fc {x:Int}(h : -9223372036854775808<=x/\x<9223372036854775808):IntKind.i64.wrap x=x:=jh h
theorem JK {w:ah}(h:w.length=2):bj w<100:=by
 rcases ot w with e|⟨e,_,_,_,hd⟩
 . omega
 . have:=nM w hd;rw[h]at this;rw[e];omega
theorem jz {i:Nat}{w:ah}(h:0<=bx i w):bB w=bx i w/\bx i w<1000000000/\(0<i->bx i w<100):=by
 unfold bx at *
 by_cases h0:i=0
 . rw[if_pos h0]at *
   exact⟨sa h,(rY w).2,fun h=>by omega⟩
 . rw[if_neg h0]at *
   by_cases h2:w.length=2
   . rw[if_pos h2]at *
     exact⟨by rw[bB,if_pos h],(ou w).2,fun _=>JK h2⟩
   . rw[if_neg h2]at h;omega
theorem yB (v:Int):bM cJ v []=if v<1\/863999999<v then 3 else 0:=rfl
theorem so {t:dI}(h:t.cM=true):fb true t=if t.dv then cK 3 else dp cJ t.n []:=by
 unfold fb dp;rw[h];cases t.dv with
 | true=>rfl
 | false=>
  rw[yB];by_cases hv:t.n<1\/863999999<t.n
  . simp[cU,hv]
  . simp[cU,hv]
theorem JL {v:Int}(h:863999999<v):dp cJ v []=cK 3:=by
 have:bM cJ v []=3:=by rw[yB,if_pos (.inr h)]
 unfold dp;rw[this];rfl
theorem ku {x:Int}(h:x<=99):min x 99=x:=by omega
theorem JM (l:List ah)(hl:l≠[])(back:ah):fb true (fT l l.length (kq back))=fa l (bF back 1 4):=by
 by_cases hs:0<=bF back 1 4
 . by_cases h3:l.length<=3
   . have hn:=ov back (hi:=4) (by decide);have e:=lN hs;rw[fa,if_neg (by omega)];have es:kq back=⟨bF back 1 4,true,false,10000,0⟩:=by unfold kq;rw[←e,decide_eq_true hs]
     have hlt:bF back 1 4<10000:=by
      rcases ot back with e1|⟨e1,_,_,_,hd⟩
      . unfold bF at hs;rw[e1]at hs;simp at hs
      . have h1:=sb back 1 4;rw[decide_eq_true hs,eq_comm,Bool.and_eq_true]at h1;have h2:back.length<=4:=by
         have:=h1.2;simp at this;omega
        have h3:=nM back hd;rw[e];unfold eK bB;rw[e1,if_pos (by omega)];have h4:(bK 0 back:Int)<10^back.length:=by exact_mod_cast h3
        have h5:(0:Int)<10^(4-back.length):=Int.pow_pos (by decide);have h6:(bK 0 back:Int)*10^(4-back.length)<10^back.length*10^(4-back.length):=Int.mul_lt_mul_of_pos_right h4 h5;rw[←Int.pow_add,show back.length+(4-back.length)=4 by omega]at h6;exact h6
     rw[es];generalize bF back 1 4=r at *
     match l,hl,h3 with
     | [a],_,_=>
      show fb true (stepT ⟨r,true,false,10000,0⟩ (bB a) (bY 1 0 a))=_;have hR:bY 1 0 a=decide (0<=bx 0 a):=by unfold bY;simp
      rw[show bG 0 [a]=[bx 0 a] from rfl];by_cases h0:0<=bx 0 a
      . obtain⟨i0,b0,_⟩:=jz h0;rw[i0,hR,decide_eq_true h0];rw[if_neg (by simp;omega)];rw[so (by rfl)];generalize bx 0 a=x at *
        show (if (false || decide (59<x))=true then _ else _)=if (decide (59<x/\(0<0\/1<3)) || false)=true then _ else _
        by_cases h59:59<x
        . simp[h59]
        . simp[h59];have e1:IntKind.i64.wrap (r+IntKind.i64.wrap (min x 99*10000))=10000*eh [x]+r:=by
           rw[ku (by omega),fc (x:=x*10000) (by omega),fc (by omega)];show r+x*10000=10000*(60*0+x)+r;omega
          show dp cJ (IntKind.i64.wrap (r+IntKind.i64.wrap (min x 99*10000))) []=_;rw[e1]
      . rw[hR,decide_eq_false h0,kr (.inr rfl),if_pos (by simp;omega)]
     | [a,b],_,_=>
      show fb true (stepT (stepT ⟨r,true,false,10000,0⟩ (bB b) (bY 2 1 b)) (bB a) (bY 2 0 a))=_;have hR:bY 2 0 a=decide (0<=bx 0 a):=by unfold bY;simp
      have hR1:bY 2 1 b=decide (0<=bx 1 b):=by unfold bY;simp
      rw[show bG 0 [a,b]=[bx 0 a,bx 1 b] from rfl];by_cases h0:0<=bx 0 a/\0<=bx 1 b
      . obtain⟨i0,b0,_⟩:=jz h0.1;obtain⟨i1,_,b1⟩:=jz h0.2;have b1:=b1 (by decide);rw[i0,i1,hR,hR1,decide_eq_true h0.1,decide_eq_true h0.2];rw[if_neg (by simp;omega)];rw[so (by rfl)];generalize bx 0 a=x at *
        generalize bx 1 b=y at *
        show (if ((false || decide (59<y)) || decide (59<x))=true then _ else _)=if (decide (59<x/\(0<0\/2<3)) || (decide (59<y/\(0<1\/2<3)) || false))=true then _ else _
        by_cases h59:59<x\/59<y
        . rcases h59 with h59|h59 <;> simp[h59]
        . have n1:¬59<x:=by omega
          have n2:¬59<y:=by omega
          simp[n1,n2];have e1:IntKind.i64.wrap (IntKind.i64.wrap (r+IntKind.i64.wrap (min y 99*10000))+IntKind.i64.wrap (min x 99*IntKind.i64.wrap (10000*60)))=10000*eh [x,y]+r:=by
           rw[ku (show x<=99 by omega),ku (show y<=99 by omega),fc (x:=10000*60) (by omega),fc (x:=y*10000) (by omega),fc (x:=r+y*10000) (by omega),fc (x:=x*(10000*60)) (by omega),fc (by omega)];show r+y*10000+x*(10000*60)=10000*(60*(60*0+x)+y)+r;omega
          show dp cJ (IntKind.i64.wrap (IntKind.i64.wrap (r+IntKind.i64.wrap (min y 99*10000))+IntKind.i64.wrap (min x 99*IntKind.i64.wrap (10000*60)))) []=_;rw[e1]
      . have hb:(stepT (stepT ⟨r,true,false,10000,0⟩ (bB b) (bY 2 1 b)) (bB a) (bY 2 0 a)).cM=false:=by
         show (true && bY 2 1 b && bY 2 0 a)=false;rw[hR,hR1];simp;intro h1;omega
        rw[kr (.inr hb),if_pos (by simp;omega)]
     | [a,b,c],_,_=>
      show fb true (stepT (stepT (stepT ⟨r,true,false,10000,0⟩ (bB c) (bY 3 2 c)) (bB b) (bY 3 1 b)) (bB a) (bY 3 0 a))=_;have hR:bY 3 0 a=decide (0<=bx 0 a):=by unfold bY;simp
      have hR1:bY 3 1 b=decide (0<=bx 1 b):=by unfold bY;simp
      have hR2:bY 3 2 c=decide (0<=bx 2 c):=by unfold bY;simp
      rw[show bG 0 [a,b,c]=[bx 0 a,bx 1 b,bx 2 c] from rfl];by_cases h0:0<=bx 0 a/\0<=bx 1 b/\0<=bx 2 c
      . obtain⟨i0,b0,_⟩:=jz h0.1;obtain⟨i1,_,b1⟩:=jz h0.2.1;obtain⟨i2,_,b2⟩:=jz h0.2.2;have b1:=b1 (by decide);have b2:=b2 (by decide);rw[i0,i1,i2,hR,hR1,hR2,decide_eq_true h0.1,decide_eq_true h0.2.1,decide_eq_true h0.2.2];rw[if_neg (by simp;omega)];rw[so (by rfl)];generalize bx 0 a=x at *
        generalize bx 1 b=y at *
        generalize bx 2 c=z at *
        show (if ((((false || decide (59<z)) || decide (59<y))) || decide (99<x))=true then _ else _)=if (decide (59<x/\(0<0\/3<3)) || (decide (59<y/\(0<1\/3<3)) || (decide (59<z/\(0<2\/3<3)) || false)))=true then _ else _
        by_cases h59:59<y\/59<z
        . rcases h59 with h59|h59 <;> simp[h59]
        . have n1:¬59<y:=by omega
          have n2:¬59<z:=by omega
          simp[n1,n2];by_cases h99:99<x
          . simp[h99];rw[JL];show 863999999<10000*(60*(60*(60*0+x)+y)+z)+r;omega
          . simp[h99];have e1:IntKind.i64.wrap (IntKind.i64.wrap (IntKind.i64.wrap (r+IntKind.i64.wrap (min z 99*10000))+IntKind.i64.wrap (min y 99*IntKind.i64.wrap (10000*60)))+IntKind.i64.wrap (min x 99*IntKind.i64.wrap (IntKind.i64.wrap (10000*60)*60)))=10000*eh [x,y,z]+r:=by
             rw[ku (show x<=99 by omega),ku (show y<=99 by omega),ku (show z<=99 by omega),fc (x:=10000*60) (by omega),fc (x:=10000*60*60) (by omega),fc (x:=z*10000) (by omega),fc (x:=r+z*10000) (by omega),fc (x:=y*(10000*60)) (by omega),fc (x:=r+z*10000+y*(10000*60)) (by omega),fc (x:=x*(10000*60*60)) (by omega),fc (by omega)];show r+z*10000+y*(10000*60)+x*(10000*60*60)=10000*(60*(60*(60*0+x)+y)+z)+r;omega
            show dp cJ (IntKind.i64.wrap (IntKind.i64.wrap (IntKind.i64.wrap (r+IntKind.i64.wrap (min z 99*10000))+IntKind.i64.wrap (min y 99*IntKind.i64.wrap (10000*60)))+IntKind.i64.wrap (min x 99*IntKind.i64.wrap (IntKind.i64.wrap (10000*60)*60)))) []=_;rw[e1]
      . have hb:(stepT (stepT (stepT ⟨r,true,false,10000,0⟩ (bB c) (bY 3 2 c)) (bB b) (bY 3 1 b)) (bB a) (bY 3 0 a)).cM=false:=by
         show (true && bY 3 2 c && bY 3 1 b && bY 3 0 a)=false;rw[hR,hR1,hR2];simp;intro h1;omega
        rw[kr (.inr hb),if_pos (by simp;omega)]
   . rw[fa,if_pos (.inl (by omega))];refine kr (.inr ?_);obtain⟨m,hm⟩:∃m,l.length=m+1:=⟨l.length-1,by have:=List.length_pos_iff.2 hl;omega⟩;rw[hm];refine sn l m _ ?_;show (_ && bY _ _ _)=false;unfold bY;rw[decide_eq_false h3,Bool.and_false,Bool.and_false]
 . rw[fa,if_pos (.inr (by omega))];exact kr (.inr (sn l _ _ (decide_eq_false hs)))
theorem JN (s:ah):oA s=gj s:=by
 unfold oA gj;cases hy:(aT 46 s).2 with
 | none=>exact kr (.inl rfl)
 | some b=>exact JM _ (rI 58 _) b
structure sq (M:ay):Prop where
 ft:M.FT=FT
 yC:∀(s:ah) h,M.ext 109 [.str s] h=some ⟨.bool (decide (s∈gi)),h,[]⟩
 oB:∀(s:ah) h,s.length<1000000->M.ext 125 [.str s] h=some ⟨.iV (bA s),h,[]⟩
 oC:∀k v r h,M.ext 126 [cW k v r] h=some ⟨(dp k v r).av,h,[]⟩
 oD:∀(s:ah) (c:UInt8) h,s.length<100000->M.ext 127 [.str s,.int .u8 c.toNat] h=some ⟨.vs (strs (aK c s)) (aK c s).length none,h,[]⟩
 sr:∀(s:ah) (lo hi:Nat) h,s.length<1000000->lo<=4->hi<=4->M.ext 128 [.str s,.iV lo,.iV hi] h=some ⟨.iV (bF s lo hi),h,[]⟩
 yD:∀(s:ah) h,s.length<1000000->M.ext 129 [.str s] h=some ⟨.iV (bj s),h,[]⟩
theorem yE {l:List ah}{n i:Nat}(h:∀s∈l,s.length<n)(hi:i<l.length):(l[i]!).length<n:=by
 rw[getElem!_pos l i hi];exact h _ (List.getElem_mem hi)
theorem oE (c:UInt8):∀(s:ah),∀w∈aK c s,w.length<=s.length
 | [],w,h=>by
  rw[aK,List.mem_singleton]at h;subst h;exact Nat.le_refl _
 | a::s,w,h=>by
  rw[aK]at h;split at h
  . rcases List.mem_cons.1 h with rfl|h
    . exact Nat.zero_le _
    . have:=oE c s w h;simp;omega
  . split at h
    . rw[List.mem_singleton]at h;subst h;simp
    . rename_i x l hx;rcases List.mem_cons.1 h with rfl|h
      . have:=oE c s x (by rw[hx];simp);simp;omega
      . have:=oE c s w (by rw[hx];simp[h]);simp;omega
theorem JO {K:ae}{pe:List AV}{lo:List (Nat×AV)}{df:List Nat}{k r:ah}{v e:Int}{ty:TypeId}(h:K.at 0=some (.cells [.str k,.iV v,.str r] ty))(h1:pe[1]? = some (.ptr 0 0))(h2:pe[2]? = some (.iV e)) :
 dJ ⟨pe,lo,K,df⟩ [.cell 3 true (.p 1),.var (.p 2)]=some [cW k v r,.iV e]:=by
 have e1:(St.mk pe lo K df).aa (.p 1)=some (.ptr 0 0):=h1;have e2:(St.mk pe lo K df).aa (.p 2)=some (.iV e):=h2;simp only[dJ,e1,e2,Option.bind_some,dO,h];rfl
abbrev lV:ae:=[some (.cells [.str [],.iV 0,.str []] 49),some (.cells [.str [],.iV 0,.str []] 49),some (.cells [.str cJ,.iV 0,.str []] 49)]
theorem JP (C:sq M)(L:List ah)(hL:L.length<=3)(h0:0<L.length)(hw:∀w∈L,w.length<1000000)(a0 a5 a6 a7 a8 aA a14:AV)(lo:List (Nat×AV))(wr:List Nat){Q:Ex->ak->Prop}
 (hbad:(bG 0 L).any (fun x=>decide (x<0))=true->∀p lo H wr,p[1]? = some (.ptr 0 0)->p[2]? = some (.iV 25)->ae.at H 0=some (.cells [.str [],.iV 0,.str []] 49)->Q .ret ⟨⟨p,lo,H,[]⟩,wr⟩)
 (bJ:(bG 0 L).any (fun x=>decide (x<0))=false->0<=eh (bG 0 L)->eh (bG 0 L)<300000000000000->∀x13 x14 lo wr,Q (.exit 0) ⟨⟨[a0,.ptr 0 0,.iV 0,.ptr 1 0,.ptr 2 0,a5,a6,a7,a8,.vs (strs L) L.length none,aA,.iV (eh (bG 0 L)),.bool (eC L.length 0 (bG 0 L)),x13,x14],lo,lV,[]⟩,wr⟩) :
 W M (.loop gJ) ⟨⟨[a0,.ptr 0 0,.iV 0,.ptr 1 0,.ptr 2 0,a5,a6,a7,a8,.vs (strs L) L.length none,aA,.iV 0,.bool false,.iV 0,a14],lo,lV,[]⟩,wr⟩ Q:=by
 refine W.nw L.length (fun i st=>∃x14 lo wr,st=⟨⟨[a0,.ptr 0 0,.iV 0,.ptr 1 0,.ptr 2 0,a5,a6,a7,a8,.vs (strs L) L.length none,aA,.iV (eh (bG 0 (L.take i))),.bool (eC L.length 0 (bG 0 (L.take i))),.iV i,x14],lo,lV,[]⟩,wr⟩/\(bG 0 (L.take i)).any (fun x=>decide (x<0))=false/\0<=eh (bG 0 (L.take i))/\eh (bG 0 (L.take i))<1000000000*61^i) (fun i st hi ⟨x14,lo,wr,hst,hB,h1,h2⟩=>?_) (fun st ⟨x14,lo,wr,hst,hB,h1,h2⟩=>?_) (Nat.zero_le _) ⟨_,_,_,rfl,rfl,Int.le_refl _,by show (0:Int)<1000000000*61^0;decide⟩
 . subst hst;have hw0:=yE hw (i:=0) h0;have hwi:=yE hw hi;have q125:=fun h=>C.oB L[((0:Int)).toNat]! h hw0
   have q129:=fun h=>C.yD L[((i:Nat):Int).toNat]! h hwi
   have hP:(61:Int)^(i+1)=61^i*61:=Int.pow_succ _ _;have hP1:(1:Int)<=61^i:=Int.pow_pos (by decide);have hP3:(61:Int)^i<=61^3:=kf (by decide) (by omega);have e3:(61:Int)^3=226981:=rfl;have eS:=JD hi;have eW:=JC L.length hi;have eA:=fun h=>JF hi h
   have eB:=fun h=>JE hi h
   have hlt:bx i L[i]! < 1000000000:=by
    by_cases h:0<=bx i L[i]!
    . exact(jz h).2.1
    . omega
   have bad:=fun h=>hbad (eB h)
   rw[hP];rw[show L[((i:Nat):Int).toNat]! = L[i]! from rfl]at q129;have hlen:=fun (h:0<i) (h2:¬(L[i]!).length=2)=>show bx i L[i]! = -1 by rw[bx,if_neg (by omega),if_neg h2]
   have hone:=fun (h:0<i) (h2:(L[i]!).length=2)=>show bx i L[i]! = bj L[i]! by rw[bx,if_neg (by omega),if_pos h2]
   generalize eh (bG 0 (L.take (i+1)))=S' at *
   generalize eh (bG 0 (L.take i))=S at *
   generalize eC L.length 0 (bG 0 (L.take (i+1)))=W' at *
   generalize eC L.length 0 (bG 0 (L.take i))=W0 at *
   have next:0<=bx i L[i]! -> ∀b,W'=b->∀x14 lo wr,LI (fun st=>∃x14 lo wr,st=⟨⟨[a0,.ptr 0 0,.iV 0,.ptr 1 0,.ptr 2 0,a5,a6,a7,a8,.vs (strs L) L.length none,aA,.iV S',.bool W',.iV ((i+1:Nat):Int),x14],lo,lV,[]⟩,wr⟩/\(bG 0 (L.take (i+1))).any (fun x=>decide (x<0))=false/\0<=S'/\S'<1000000000*(61^i*61)) Q .normal ⟨⟨[a0,.ptr 0 0,.iV 0,.ptr 1 0,.ptr 2 0,a5,a6,a7,a8,.vs (strs L) L.length none,aA,.iV (60*S+bx i L[i]!),.bool b,.iV ((i:Int)+1),x14],lo,lV,[]⟩,wr⟩:=fun hb b e x14 lo wr=>
    gY ⟨x14,lo,wr,by rw[e,eS];rfl,by rw[eA hb];exact hB,by omega,by omega⟩
   by_cases hi0:i=0
   . have e0:bx i L[i]! = bA L[((0:Int)).toNat]! := by subst hi0;rfl
     rw[←e0]at q125;clear q129;subst hi0;generalize bx 0 L[0]! = x at *
     by_cases hx:0<=x
     . cases W0 with
       | true=>
        unfold gJ;repeat' first|(apply MF;rfl;rfl;omega)|apply LL|apply aj|apply LM|apply LN|apply LW|apply LU|apply aZ|(apply LS;rfl)|(apply LR;rfl)|(apply Mm;rfl)|(apply MA;rfl)|(apply Md;rfl;rfl)|(apply LZ;rfl;rfl)|(apply Mb;rfl;rfl)|(apply Mk;rfl;rfl;omega)|(apply LV;rfl;rfl;first|exact q125 _|exact q129 _)|(apply MB;rfl;rfl;omega)|(apply ML;rfl;exact fun _=>rfl;(first|omega|(simp only[List.length_set];omega)|(simp;omega));decide;rfl;case ia=>infer_instance)|(apply LK;rfl;rfl)|(apply LO;rfl;rfl)|(intro _;omega)|intro _
        all_goals try omega
        all_goals exact next hx _ (by rw[eW];rfl) _ _ _
       | false=>
        unfold gJ;repeat' first|(apply MF;rfl;rfl;omega)|apply LL|apply aj|apply LM|apply LN|apply LW|apply LU|apply aZ|(apply LS;rfl)|(apply LR;rfl)|(apply Mj;rfl)|(apply Mf;rfl)|(apply Ml;rfl)|(apply MA;rfl)|(apply Md;rfl;rfl)|(apply LZ;rfl;rfl)|(apply Mb;rfl;rfl)|(apply Ma;rfl;rfl)|(apply Mk;rfl;rfl;omega)|(apply LV;rfl;rfl;first|exact q125 _|exact q129 _)|(apply MB;rfl;rfl;omega)|(apply ML;rfl;exact fun _=>rfl;(first|omega|(simp only[List.length_set];omega)|(simp;omega));decide;rfl;case ia=>infer_instance)|(apply LK;rfl;rfl)|(apply LO;rfl;rfl)|(intro _;omega)|intro _
        all_goals try omega
        all_goals exact next hx _ (by rw[eW,Bool.false_or];first|exact decide_eq_true (by omega)|exact decide_eq_false (by omega)) _ _ _
     . unfold gJ;repeat' first|(apply Mv;rfl;rfl;rfl;exact⟨rfl,by decide,rfl⟩;rfl)|apply LL|apply aj|apply LM|apply LN|apply LW|apply LP|apply LU|apply aF|apply bX|apply de|(apply LS;rfl)|(apply LR;rfl)|(apply Md;rfl;rfl)|(apply LZ;rfl;rfl)|(apply LV;rfl;rfl;first|exact q125 _|exact q129 _)|(apply MB;rfl;rfl;omega)|(apply ML;rfl;exact fun _=>rfl;(first|omega|(simp only[List.length_set];omega)|(simp;omega));decide;rfl;case ia=>infer_instance)|(apply LY;rfl;rfl;rfl)|(apply LK;rfl;rfl)|(apply LO;rfl;rfl)|(intro _;omega)|intro _
       all_goals try omega
       all_goals exact bad (by omega) _ _ _ _ rfl rfl rfl
   . by_cases hl2:(L[i]!).length=2
     . have e1:=hone (by omega) hl2;have hl3:(L[((i:Nat):Int).toNat]!).length=2:=hl2;rw[←e1]at q129;clear hlen hone e1;generalize bx i L[i]! = x at *
       by_cases hx:0<=x
       . cases W0 with
         | true=>
          unfold gJ;repeat' first|(apply MF;rfl;rfl;omega)|apply LL|apply aj|apply LM|apply LN|apply LW|apply LU|apply aZ|(apply LS;rfl)|(apply LR;rfl)|(apply Mm;rfl)|(apply MA;rfl)|(apply Md;rfl;rfl)|(apply LZ;rfl;rfl)|(apply Mh;rfl;rfl)|(apply Mb;rfl;rfl)|(apply Mk;rfl;rfl;omega)|(apply LV;rfl;rfl;first|exact q125 _|exact q129 _)|(apply MB;rfl;rfl;omega)|(apply ML;rfl;exact fun _=>rfl;(first|omega|(simp only[List.length_set];omega)|(simp;omega));decide;rfl;case ia=>infer_instance)|(apply LK;rfl;rfl)|(apply LO;rfl;rfl)|(intro _;omega)|intro _
          all_goals try omega
          all_goals exact next hx _ (by rw[eW];rfl) _ _ _
         | false=>
          unfold gJ;repeat' first|(apply MF;rfl;rfl;omega)|apply LL|apply aj|apply LM|apply LN|apply LW|apply LU|apply aZ|(apply LS;rfl)|(apply LR;rfl)|(apply Mj;rfl)|(apply Mf;rfl)|(apply Ml;rfl)|(apply Mm;rfl)|(apply MA;rfl)|(apply Md;rfl;rfl)|(apply LZ;rfl;rfl)|(apply Mh;rfl;rfl)|(apply Mb;rfl;rfl)|(apply Ma;rfl;rfl)|(apply Mk;rfl;rfl;omega)|(apply LV;rfl;rfl;first|exact q125 _|exact q129 _)|(apply MB;rfl;rfl;omega)|(apply ML;rfl;exact fun _=>rfl;(first|omega|(simp only[List.length_set];omega)|(simp;omega));decide;rfl;case ia=>infer_instance)|(apply LK;rfl;rfl)|(apply LO;rfl;rfl)|(intro _;omega)|intro _
          all_goals try omega
          all_goals exact next hx _ (by rw[eW,Bool.false_or];first|exact decide_eq_true (by omega)|exact decide_eq_false (by omega)) _ _ _
       . unfold gJ;repeat' first|(apply Mv;rfl;rfl;rfl;exact⟨rfl,by decide,rfl⟩;rfl)|apply LL|apply aj|apply LM|apply LN|apply LW|apply LP|apply LU|apply aF|apply bX|apply de|(apply LS;rfl)|(apply LR;rfl)|(apply Md;rfl;rfl)|(apply LZ;rfl;rfl)|(apply Mh;rfl;rfl)|(apply LV;rfl;rfl;first|exact q125 _|exact q129 _)|(apply MB;rfl;rfl;omega)|(apply ML;rfl;exact fun _=>rfl;(first|omega|(simp only[List.length_set];omega)|(simp;omega));decide;rfl;case ia=>infer_instance)|(apply LY;rfl;rfl;rfl)|(apply LK;rfl;rfl)|(apply LO;rfl;rfl)|(intro _;omega)|intro _
         all_goals try omega
         all_goals exact bad (by omega) _ _ _ _ rfl rfl rfl
     . have e1:=hlen (by omega) hl2;have hl3:¬(L[((i:Nat):Int).toNat]!).length=2:=hl2;have bd:=bad (by omega);unfold gJ;repeat' first|(apply Mv;rfl;rfl;rfl;exact⟨rfl,by decide,rfl⟩;rfl)|apply LL|apply aj|apply LM|apply LN|apply LW|apply LP|apply LU|apply aF|apply bX|apply de|(apply LS;rfl)|(apply Md;rfl;rfl)|(apply LZ;rfl;rfl)|(apply Mh;rfl;rfl)|(apply LV;rfl;rfl;first|exact q125 _|exact q129 _)|(apply MB;rfl;rfl;omega)|(apply ML;rfl;exact fun _=>rfl;(first|omega|(simp only[List.length_set];omega)|(simp;omega));decide;rfl;case ia=>infer_instance)|(apply LY;rfl;rfl;rfl)|(apply LK;rfl;rfl)|(apply LO;rfl;rfl)|(intro _;omega)|intro _
       all_goals try omega
       all_goals exact bd _ _ _ _ rfl rfl rfl
 . subst hst;rw[List.take_length]at *
   unfold gJ;repeat' first|apply LL|apply aj|apply LM|apply LN|apply Mi|apply bO|apply cw|(apply LR;rfl)|(apply Md;rfl;rfl)|(apply LK;rfl;rfl)|(intro _;omega)|intro _
   have h61:(61:Int)^L.length<=61^3:=kf (by decide) hL;have e3:(61:Int)^3=226981:=rfl;exact bJ hB h1 (by omega) _ _ _ _
theorem JQ (C:sq M)(s:ah)(hl:s.length<100000):aG M 47 [.str s] [] ⟨(cL s).av,[],[]⟩:=by
 refine ba (by rw[C.ft];exact IE) (by simp) ?_;have hdl:s.dropLast.length<=s.length:=by rw[List.length_dropLast];omega
 have q109:=fun h=>C.yC s h
 unfold xS;simp only[enter];by_cases h24:24<s.length
 . have e:cL s=cK 26:=if_pos h24;rw[e];repeat' first|apply LL|apply aj|apply LM|apply LN|apply LP|apply aF|(apply LS;rfl)|(apply LZ;rfl;rfl)|(apply LY;rfl;rfl;rfl)|(apply LX;rfl;rfl;rfl)|(apply Me;rfl;rfl;rfl)|(apply LK;rfl;rfl)|(apply LO;rfl;rfl)|(intro _;omega)|intro _
   all_goals try omega
   all_goals exact⟨.inr rfl,rfl,_,rfl,rfl,rfl⟩
 . by_cases hr:s∈gi
   . have e:cL s=⟨gG,0,s,0⟩:=by rw[cL,if_neg h24,if_pos hr]
     rw[e];rw[decide_eq_true hr]at q109;repeat' first|apply LL|apply aj|apply LM|apply LN|apply LP|apply LU|apply aF|(apply LS;rfl)|(apply LR;rfl)|(apply LZ;rfl;rfl)|(apply LV;rfl;rfl;first|exact q109 _)|(apply LX;rfl;rfl;rfl)|(apply Me;rfl;rfl;rfl)|(apply LK;rfl;rfl)|(apply LO;rfl;rfl)|(intro _;omega)|intro _
     all_goals try omega
     all_goals exact⟨.inr rfl,rfl,_,rfl,rfl,rfl⟩
   . rw[decide_eq_false hr]at q109;by_cases h0:s=[]
     . subst h0;have hn:([]:ah).length=0:=rfl;rw[JJ];repeat' first|apply LL|apply aj|apply LM|apply LN|apply LP|apply LU|apply aF|(apply LS;rfl)|(apply LR;rfl)|(apply LZ;rfl;rfl)|(apply Mc;rfl;rfl)|(apply LV;rfl;rfl;first|exact q109 _)|(apply LY;rfl;rfl;rfl)|(apply LX;rfl;rfl;rfl)|(apply Me;rfl;rfl;rfl)|(apply LK;rfl;rfl)|(apply LO;rfl;rfl)|(intro _;omega)|intro _
       all_goals try omega
       all_goals exact⟨.inr rfl,rfl,_,rfl,rfl,rfl⟩
     . have hpos:0<s.length:=List.length_pos_iff.2 h0;have eL:(s[((s.length:Int)-1).toNat]!)=s[s.length-1]! := by rw[show ((s.length:Int)-1).toNat=s.length-1 by omega]
       have hd:s.take ((s.length:Int)-1).toNat=s.dropLast:=by rw[show ((s.length:Int)-1).toNat=s.length-1 by omega,List.dropLast_eq_take]
       have hp:=yA hpos 112;have hm:=yA hpos 109;have q125:=fun h=>C.oB s.dropLast h (by omega)
       by_cases ep:s[s.length-1]! = 112
       . have e1:((s[((s.length:Int)-1).toNat]!).toNat:Int)=112:=by rw[eL,ep];rfl
         rw[decide_eq_true ep]at hp;by_cases hf:bA s.dropLast<0
         . have e:cL s=cK 25:=by rw[cL,if_neg h24,if_neg hr,if_pos hp,if_pos hf]
           rw[e];repeat' first|(apply MK;rfl;rfl;omega;exact hd)|apply LL|apply aj|apply LM|apply LN|apply LP|apply LU|apply aF|(apply LS;rfl)|(apply LR;rfl)|(apply Md;rfl;rfl)|(apply LZ;rfl;rfl)|(apply Mc;rfl;rfl)|(apply Mw;rfl;rfl;omega)|(apply LV;rfl;rfl;first|exact q109 _|exact q125 _)|(apply Mn;rfl;rfl;omega)|(apply LY;rfl;rfl;rfl)|(apply LX;rfl;rfl;rfl)|(apply Me;rfl;rfl;rfl)|(apply LK;rfl;rfl)|(apply LO;rfl;rfl)|(intro _;omega)|intro _
           all_goals try omega
           all_goals exact⟨.inr rfl,rfl,_,rfl,rfl,rfl⟩
         . have e:cL s=dp gH (bA s.dropLast) []:=by rw[cL,if_neg h24,if_neg hr,if_pos hp,if_neg hf]
           rw[e];have q126:=C.oC gH (bA s.dropLast) [];unfold PR.av at q126 ⊢;repeat' first|(apply MK;rfl;rfl;omega;exact hd)|apply LL|apply aj|apply LM|apply LN|apply LP|apply LU|apply aF|(apply LS;rfl)|(apply LR;rfl)|(apply Md;rfl;rfl)|(apply LZ;rfl;rfl)|(apply Mc;rfl;rfl)|(apply Mw;rfl;rfl;omega)|(apply LV;rfl;rfl;first|exact q109 _|exact q125 _|exact q126 _)|(apply Mn;rfl;rfl;omega)|(apply LY;rfl;rfl;rfl)|(apply LX;rfl;rfl;rfl)|(apply Me;rfl;rfl;rfl)|(apply LK;rfl;rfl)|(apply LO;rfl;rfl)|(intro _;omega)|intro _
           all_goals try omega
           all_goals exact⟨.inr rfl,rfl,_,rfl,rfl,rfl⟩
       . have e1:((s[((s.length:Int)-1).toNat]!).toNat:Int)≠112:=by
          rw[eL];exact fun e=>ep (UInt8.toNat_inj.1 (by have:(112:UInt8).toNat=112:=rfl;omega))
         rw[decide_eq_false ep]at hp;by_cases em:s[s.length-1]! = 109
         . have e2:((s[((s.length:Int)-1).toNat]!).toNat:Int)=109:=by rw[eL,em];rfl
           rw[decide_eq_true em]at hm;have e:cL s=gI s.dropLast:=by rw[cL,if_neg h24,if_neg hr,hp,if_neg (by decide),if_pos hm]
           rw[e];have q127:=fun h=>C.oD s.dropLast 46 h (by omega)
           rw[show (((46:UInt8).toNat:Nat):Int)=46 from rfl]at q127;by_cases h2:(aK 46 s.dropLast).length=2
           . obtain⟨a,b,ab,la,lb,eP,_⟩:=yz h2;rw[ab]at q127;rw[eP];have q127:∀h,M.ext 127 [.str s.dropLast,.int .u8 46] h=some ⟨.vs [.str a,.str b] 2 none,h,[]⟩:=q127;have qa:=fun h=>C.oB a h (by omega)
             have qb:=fun h=>C.sr b 2 3 h (by omega) (by decide) (by decide)
             rw[show ((2:Nat):Int)=2 from rfl,show ((3:Nat):Int)=3 from rfl]at qb;have l1:=rY a;by_cases hf:bA a<0\/bF b 2 3<0
             . rw[if_pos hf];generalize bA a=x at *
               generalize bF b 2 3=y at *
               repeat' first|(apply MK;rfl;rfl;omega;exact hd)|(apply Mu;rfl;rfl;(first|(simp only[nca];rfl)|rfl);first|exact qa _|exact qb _)|(apply Mv;rfl;rfl;rfl;exact⟨rfl,by decide,rfl⟩;rfl)|apply LL|apply aj|apply LM|apply LN|apply LP|apply LU|apply aF|apply Mo|apply Mp|(apply Mq;rfl)|(apply Mt;rfl;rfl;(first|(simp only[nca];rfl)|rfl))|(apply LS;rfl)|(apply LR;rfl)|(apply Mf;rfl)|(apply Mm;rfl)|(apply Md;rfl;rfl)|(apply LZ;rfl;rfl)|(apply Mc;rfl;rfl)|(apply Mh;rfl;rfl)|(apply Mb;rfl;rfl)|(apply Ma;rfl;rfl)|(apply Mw;rfl;rfl;omega)|(apply LV;rfl;rfl;first|exact q109 _|exact q127 _)|(apply MB;rfl;rfl;omega)|(apply Mn;rfl;rfl;omega)|(apply Mg;rfl;rfl;all_goals first|(intro h;exact absurd h (by decide))|(intro h;exact absurd rfl h)|(intro h;contradiction)|intro _)|(apply LY;rfl;rfl;rfl)|(apply LX;rfl;rfl;rfl)|(apply LK;rfl;rfl)|(apply LO;rfl;rfl)|(intro _;omega)|intro _
               all_goals try omega
               all_goals exact⟨.inr rfl,rfl,_,rfl,rfl,rfl⟩
             . rw[if_neg hf];have l2:=ov b (hi:=3) (by decide);rw[←lN (lo:=2) (by omega)]at l2;have q126:=C.oC fA (1000*bA a+bF b 2 3) [];unfold PR.av at q126 ⊢;generalize bA a=x at *
               generalize bF b 2 3=y at *
               repeat' first|(apply MK;rfl;rfl;omega;exact hd)|(apply LV;rfl;rfl;first|exact qa _|exact qb _|exact q126 _)|(apply Mu;rfl;rfl;(first|(simp only[nca];rfl)|rfl);first|exact qa _|exact qb _|exact q126 _)|(apply Mv;rfl;rfl;rfl;exact⟨rfl,by decide,rfl⟩;rfl)|apply LL|apply aj|apply LM|apply LN|apply LP|apply LU|apply aF|apply Mo|apply Mp|(apply Mq;rfl)|(apply Mt;rfl;rfl;(first|(simp only[nca];rfl)|rfl))|(apply LS;rfl)|(apply LR;rfl)|(apply Mf;rfl)|(apply Md;rfl;rfl)|(apply LZ;rfl;rfl)|(apply Mc;rfl;rfl)|(apply Mh;rfl;rfl)|(apply Ma;rfl;rfl)|(apply Mk;rfl;rfl;omega)|(apply Mw;rfl;rfl;omega)|(apply MF;rfl;rfl;omega)|(apply LV;rfl;rfl;first|exact q109 _|exact q127 _)|(apply MB;rfl;rfl;omega)|(apply Mn;rfl;rfl;omega)|(apply Mg;rfl;rfl;all_goals first|(intro h;exact absurd h (by decide))|(intro h;exact absurd rfl h)|(intro h;contradiction)|intro _)|(apply LY;rfl;rfl;rfl)|(apply LX;rfl;rfl;rfl)|(apply LK;rfl;rfl)|(apply LO;rfl;rfl)|(intro _;omega)|intro _
               all_goals try omega
               all_goals exact⟨.inr rfl,rfl,_,rfl,rfl,rfl⟩
           . rw[(yy h2).1];repeat' first|(apply MK;rfl;rfl;omega;exact hd)|(apply Mv;rfl;rfl;rfl;exact⟨rfl,by decide,rfl⟩;rfl)|apply LL|apply aj|apply LM|apply LN|apply LP|apply LU|apply aF|(apply LS;rfl)|(apply LR;rfl)|(apply LZ;rfl;rfl)|(apply Mc;rfl;rfl)|(apply Mh;rfl;rfl)|(apply Mw;rfl;rfl;omega)|(apply LV;rfl;rfl;first|exact q109 _|exact q127 _)|(apply Mn;rfl;rfl;omega)|(apply LY;rfl;rfl;rfl)|(apply LX;rfl;rfl;rfl)|(apply LK;rfl;rfl)|(apply LO;rfl;rfl)|(intro _;omega)|intro _
             all_goals try omega
             all_goals exact⟨.inr rfl,rfl,_,rfl,rfl,rfl⟩
         . have e2:((s[((s.length:Int)-1).toNat]!).toNat:Int)≠109:=by
            rw[eL];exact fun e=>em (UInt8.toNat_inj.1 (by have:(109:UInt8).toNat=109:=rfl;omega))
           rw[decide_eq_false em]at hm;have e:cL s=gj s:=by rw[cL,if_neg h24,if_neg hr,hp,if_neg (by decide),hm,if_neg (by decide)]
           rw[e];have q127:=fun h=>C.oD s 46 h (by omega)
           rw[show (((46:UInt8).toNat:Nat):Int)=46 from rfl]at q127;by_cases h2:(aK 46 s).length=2
           . obtain⟨a,b,ab,la,lb,_,eP⟩:=yz h2;rw[ab]at q127;rw[eP];have q127:∀h,M.ext 127 [.str s,.int .u8 46] h=some ⟨.vs [.str a,.str b] 2 none,h,[]⟩:=q127;have qc:=fun h=>C.oD a 58 h (by omega)
             rw[show (((58:UInt8).toNat:Nat):Int)=58 from rfl]at qc;have qb:=fun h=>C.sr b 1 4 h (by omega) (by decide) (by decide)
             rw[show ((1:Nat):Int)=1 from rfl,show ((4:Nat):Int)=4 from rfl]at qb;have hmem:=oE 58 a;have hL0:0<(aK 58 a).length:=List.length_pos_iff.2 (rI 58 a);have l2:0<=bF b 1 4->bF b 1 4<10000000000000:=fun h=>by
              rw[lN h];exact(ov b (hi:=4) (by decide)).2
             generalize aK 58 a=L at *
             generalize bF b 1 4=r at *
             by_cases hb:3<L.length\/r<0
             . rw[fa,if_pos hb];repeat' first|(apply Mv;rfl;rfl;rfl;exact⟨rfl,by decide,rfl⟩;rfl)|apply LL|apply aj|apply LM|apply LN|apply LP|apply LU|apply aF|(apply LS;rfl)|(apply LR;rfl)|(apply Mf;rfl)|(apply Mm;rfl)|(apply Md;rfl;rfl)|(apply LZ;rfl;rfl)|(apply Mc;rfl;rfl)|(apply Mh;rfl;rfl)|(apply Mb;rfl;rfl)|(apply Ma;rfl;rfl)|(apply Mw;rfl;rfl;omega)|(apply LV;rfl;rfl;first|exact q109 _|exact q127 _|exact qb _|exact qc _)|(apply MB;rfl;rfl;omega)|(apply Mn;rfl;rfl;omega)|(apply Mg;rfl;rfl;all_goals first|(intro h;exact absurd h (by decide))|(intro h;exact absurd rfl h)|(intro h;contradiction)|intro _)|(apply LY;rfl;rfl;rfl)|(apply LX;rfl;rfl;rfl)|(apply LK;rfl;rfl)|(apply LO;rfl;rfl)|(intro _;omega)|intro _
               all_goals try omega
               all_goals exact⟨.inr rfl,rfl,_,rfl,rfl,rfl⟩
             . have l2:=l2 (by omega);repeat' first|(apply Mv;rfl;rfl;rfl;exact⟨rfl,by decide,rfl⟩;rfl)|apply LL|apply aj|apply LM|apply LN|apply LW|apply LU|(apply LR;rfl)|(apply Mf;rfl)|(apply Md;rfl;rfl)|(apply LZ;rfl;rfl)|(apply Mc;rfl;rfl)|(apply Mh;rfl;rfl)|(apply Ma;rfl;rfl)|(apply Mw;rfl;rfl;omega)|(apply LV;rfl;rfl;first|exact q109 _|exact q127 _|exact qb _|exact qc _)|(apply MB;rfl;rfl;omega)|(apply Mn;rfl;rfl;omega)|(apply Mg;rfl;rfl;all_goals first|(intro h;exact absurd h (by decide))|(intro h;exact absurd rfl h)|(intro h;contradiction)|intro _)|(apply LY;rfl;rfl;rfl)|(apply LX;rfl;rfl;rfl)|(apply LK;rfl;rfl)|(apply LO;rfl;rfl)|(intro _;omega)|intro _
               all_goals try omega
               refine JP C L (by omega) hL0 (fun w hw=>by have:=hmem w hw;omega) _ _ _ _ _ _ _ _ _ (fun hB p lo H wr h1 h2 h3=>?_) (fun hB s0 s1 x13 x14 lo wr=>?_)
               . have eT:fa L r=cK 25:=by rw[fa,if_neg hb,if_pos hB]
                 rw[eT];refine⟨.inr rfl,rfl,_,JO h3 h1 h2,rfl,rfl⟩
               . cases hW:eC L.length 0 (bG 0 L) with
                 | true=>
                  have eT:fa L r=cK 3:=by rw[fa,if_neg hb,hB,if_neg (by decide),if_pos hW]
                  rw[eT];repeat' first|(apply Mv;rfl;rfl;rfl;exact⟨rfl,by decide,rfl⟩;rfl)|apply LL|apply aj|apply LM|apply LN|apply LP|apply aF|apply bR|(apply LS;rfl)|(apply LY;rfl;rfl;rfl)|(apply LK;rfl;rfl)|(apply LO;rfl;rfl)
                  all_goals exact⟨.inr rfl,rfl,_,rfl,rfl,rfl⟩
                 | false=>
                  have eT:fa L r=dp cJ (10000*eh (bG 0 L)+r) []:=by rw[fa,if_neg hb,hB,if_neg (by decide),hW,if_neg (by decide)]
                  rw[eT];have q126:=C.oC cJ (10000*eh (bG 0 L)+r) [];unfold PR.av at q126 ⊢;generalize eh (bG 0 L)=S at *
                  repeat' first|(apply Mv;rfl;rfl;rfl;exact⟨rfl,by decide,rfl⟩;rfl)|apply LL|apply aj|apply LM|apply LN|apply LP|apply LU|apply bR|(apply LR;rfl)|(apply Mk;rfl;rfl;omega)|(apply MF;rfl;rfl;omega)|(apply LV;rfl;rfl;first|exact q126 _)|(apply LY;rfl;rfl;rfl)|(apply LK;rfl;rfl)|(apply LO;rfl;rfl)
                  all_goals try omega
                  all_goals exact⟨.inr rfl,rfl,_,rfl,rfl,rfl⟩
           . rw[(yy h2).2];repeat' first|(apply Mv;rfl;rfl;rfl;exact⟨rfl,by decide,rfl⟩;rfl)|apply LL|apply aj|apply LM|apply LN|apply LP|apply LU|apply aF|(apply LS;rfl)|(apply LR;rfl)|(apply LZ;rfl;rfl)|(apply Mc;rfl;rfl)|(apply Mh;rfl;rfl)|(apply Mw;rfl;rfl;omega)|(apply LV;rfl;rfl;first|exact q109 _|exact q127 _)|(apply Mn;rfl;rfl;omega)|(apply LY;rfl;rfl;rfl)|(apply LX;rfl;rfl;rfl)|(apply LK;rfl;rfl)|(apply LO;rfl;rfl)|(intro _;omega)|intro _
             all_goals try omega
             all_goals exact⟨.inr rfl,rfl,_,rfl,rfl,rfl⟩
structure yF (M:ay):Prop where
 ft:M.FT=FT
 yG:∀(s:ah) h,M.ext 112 [.str s] h=some ⟨.bool (decide (s∈gi)),h,[]⟩
 ss:∀(s:ah) b h,s.length<1000000->M.ext 120 [.str s,.str [b]] h=some ⟨.ar [.str (if dq b s then s.dropLast else s),.bool (dq b s)],h,[]⟩
 iO:∀(s:ah) h,s.length<1000000->M.ext 121 [.str s] h=some ⟨.ar [.iV (bB s),.bool (decide (0<=bA s))],h,[]⟩
 lS:∀k v r h,M.ext 122 [cW k v r] h=some ⟨(dp k v r).av,h,[]⟩
 yH:∀(s:ah) h,s.length<1000000->M.ext 123 [.str s] h=some ⟨(gI s).av,h,[]⟩
 yI:∀(s:ah) h,s.length<=24->M.ext 124 [.str s] h=some ⟨(gj s).av,h,[]⟩
theorem JR (C:yF M)(s:ah)(hl:s.length<1000000):aG M 46 [.str s] [] ⟨(cL s).av,[],[]⟩:=by
 refine ba (by rw[C.ft];exact Jj) (by simp) ?_;have hdl:s.dropLast.length<=s.length:=by rw[List.length_dropLast];omega
 have q112:=fun h=>C.yG s h
 have qp:=fun h=>C.ss s 112 h hl
 have qm:=fun h=>C.ss s 109 h hl
 have q121:=fun h=>C.iO s.dropLast h (by omega)
 have q123:=fun h=>C.yH s.dropLast h (by omega)
 unfold yj;simp only[enter];by_cases h24:24<s.length
 . have e:cL s=cK 26:=if_pos h24;rw[e];repeat' first|apply LL|apply aj|apply LM|apply LN|apply LP|apply aF|(apply LS;rfl)|(apply LZ;rfl;rfl)|(apply LX;rfl;rfl;rfl)|(apply Me;rfl;rfl;rfl)|(apply LK;rfl;rfl)|(apply LO;rfl;rfl)|(intro _;omega)|intro _
   all_goals try omega
   all_goals exact⟨.inr rfl,rfl,_,rfl,rfl,rfl⟩
 . have q124:=fun h=>C.yI s h (by omega)
   by_cases hr:s∈gi
   . have e:cL s=⟨gG,0,s,0⟩:=by rw[cL,if_neg h24,if_pos hr]
     rw[e];rw[decide_eq_true hr]at q112;repeat' first|apply LL|apply aj|apply LM|apply LN|apply LP|apply LU|apply aF|(apply LS;rfl)|(apply LR;rfl)|(apply LZ;rfl;rfl)|(apply LV;rfl;rfl;first|exact q112 _)|(apply LX;rfl;rfl;rfl)|(apply Me;rfl;rfl;rfl)|(apply LK;rfl;rfl)|(apply LO;rfl;rfl)|(intro _;omega)|intro _
     all_goals try omega
     all_goals exact⟨.inr rfl,rfl,_,rfl,rfl,rfl⟩
   . rw[decide_eq_false hr]at q112;cases hp:dq 112 s with
     | true=>
      rw[hp,if_pos rfl]at qp;by_cases hf:bA s.dropLast<0
      . have e:cL s=cK 25:=by rw[cL,if_neg h24,if_neg hr,if_pos hp,if_pos hf]
        rw[e];rw[decide_eq_false (show ¬0<=bA s.dropLast by omega)]at q121;repeat' first|apply LL|apply aj|apply LM|apply LN|apply LP|apply LU|apply aF|(apply LS;rfl)|(apply LR;rfl)|(apply LZ;rfl;rfl)|(apply LV;rfl;rfl;first|exact q112 _|exact qp _|exact q121 _)|(apply LX;rfl;rfl;rfl)|(apply Me;rfl;rfl;rfl)|(apply LK;rfl;rfl)|(apply LO;rfl;rfl)|(intro _;omega)|intro _
        all_goals try omega
        all_goals exact⟨.inr rfl,rfl,_,rfl,rfl,rfl⟩
      . have e:cL s=dp gH (bA s.dropLast) []:=by rw[cL,if_neg h24,if_neg hr,if_pos hp,if_neg hf]
        rw[e];have q122:=C.lS gH (bA s.dropLast) [];rw[decide_eq_true (show 0<=bA s.dropLast by omega),sa (by omega)]at q121;unfold PR.av at q122 ⊢;repeat' first|apply LL|apply aj|apply LM|apply LN|apply LP|apply LU|apply aF|(apply LS;rfl)|(apply LR;rfl)|(apply LZ;rfl;rfl)|(apply LV;rfl;rfl;first|exact q112 _|exact qp _|exact q121 _|exact q122 _)|(apply LX;rfl;rfl;rfl)|(apply Me;rfl;rfl;rfl)|(apply LK;rfl;rfl)|(apply LO;rfl;rfl)|(intro _;omega)|intro _
        all_goals try omega
        all_goals exact⟨.inr rfl,rfl,_,rfl,rfl,rfl⟩
     | false=>
      rw[hp,if_neg (by decide)]at qp;cases hm:dq 109 s with
      | true=>
       have e:cL s=gI s.dropLast:=by rw[cL,if_neg h24,if_neg hr,hp,if_neg (by decide),if_pos hm]
       rw[hm,if_pos rfl]at qm;rw[e];unfold PR.av at q123 ⊢;repeat' first|apply LL|apply aj|apply LM|apply LN|apply LP|apply LU|apply aF|(apply LS;rfl)|(apply LR;rfl)|(apply LZ;rfl;rfl)|(apply LV;rfl;rfl;first|exact q112 _|exact qp _|exact qm _|exact q123 _)|(apply LX;rfl;rfl;rfl)|(apply Me;rfl;rfl;rfl)|(apply LK;rfl;rfl)|(apply LO;rfl;rfl)|(intro _;omega)|intro _
       all_goals try omega
       all_goals exact⟨.inr rfl,rfl,_,rfl,rfl,rfl⟩
      | false=>
       have e:cL s=gj s:=by rw[cL,if_neg h24,if_neg hr,hp,if_neg (by decide),hm,if_neg (by decide)]
       rw[hm,if_neg (by decide)]at qm;rw[e];unfold PR.av at q124 ⊢;repeat' first|apply LL|apply aj|apply LM|apply LN|apply LP|apply LU|(apply LR;rfl)|(apply LZ;rfl;rfl)|(apply LV;rfl;rfl;first|exact q112 _|exact qp _|exact qm _|exact q124 _)|(apply LX;rfl;rfl;rfl)|(apply Me;rfl;rfl;rfl)|(apply LK;rfl;rfl)|(apply LO;rfl;rfl)|(intro _;omega)|intro _
       all_goals try omega
       all_goals exact⟨.inr rfl,rfl,_,rfl,rfl,rfl⟩
def yJ:ao:=zR [⟨.p 2,.mv (.c (.al)),none⟩] (zR [zm 5 0,zm 6 1,⟨.l 7,.call (kF 268) [(.l 5),(.l 6),(kI 0),(kI (-1))],none⟩,zw 2 7] (.ret))
theorem JS:FT 229=some ⟨8,[0,1,4],[.var (.p 2)],yJ⟩:=by kernel_rfl
def oF:ao:=.seq (zR [zm 34 6,zm 35 3,zb 36 .lss 34 35] (.cond (.l 36) (.skip) (.exit 0))) (.block 1 (zR [zm 37 0,zm 38 1,z2 39 310 37 38,zw 7 39] (.seq (zR [zm 40 7,zc 41 .lss 40 0] (.cond (.l 41) (.exit 0) (.skip))) (zR [zm 42 5,zm 43 6,zm 44 0,zm 45 7,zm 46 2,zb 47 .add 45 46,⟨.l 48,.slice .str 1 (.l 44) none (some (.l 47)) none,none⟩,za 49 1 42 43,zS 1 49 48] (zR [zm 50 0,zm 51 7,zm 52 1,zL 53 52,zb 54 .add 51 53,⟨.l 55,.slice .str 1 (.l 50) (some (.l 54)) none none,none⟩,zw 0 55] (.region [zm 56 6,zc 57 .add 56 1,zw 6 57]))))))
def yK:ao:=zR [⟨.p 4,.mv (.c (.al)),none⟩] (.seq (zR [zm 12 3,zc 13 .eql 12 0] (.cond (.l 13) (zR [⟨.p 4,.mv (.c (.al)),none⟩] (.ret)) (.skip))) (.seq (zR [zm 14 1,⟨.l 15,.bin .eql (.l 14) (.c (.str [])),none⟩] (.cond (.l 15) (zR [zm 16 0,zm 17 3,z2 18 308 16 17,zw 4 18] (.ret)) (.skip))) (.seq (zR [zm 19 3,zc 20 .lss 19 0] (.cond (.l 20) (.region [zm 21 0,zm 22 1,z2 23 309 21 22,zc 24 .add 23 1,zw 3 24]) (.skip))) (zR [zm 25 3,zm 26 0,zL 27 26,zc 28 .add 27 1,⟨.l 29,.mm false [(.l 25),(.l 28)],none⟩,zw 3 29] (zR [zm 30 3,⟨.l 31,.gk 9 1 16 [.str []] (.l 30) (.l 30),none⟩,zw 5 31] (zR [zm 32 3,zc 33 .sub 32 1,zw 3 33] (zR [zi 6 0] (.seq (.block 0 (.loop oF)) (zR [zm 58 5,zm 59 6,zm 60 0,za 61 1 58 59,zS 1 61 60] (zR [zm 62 5,zm 63 6,zc 64 .add 63 1,⟨.l 65,.slice .sl 1 (.l 62) none (some (.l 64)) none,none⟩,zw 4 65] (.ret)))))))))))
theorem JT:FT 268=some ⟨66,[0,1,2,3,8,9,10,11],[.var (.p 4)],yK⟩:=by kernel_rfl
def JU:ao:=.block 1 (zR [zm 20 0,zm 21 1,z2 22 310 20 21,zw 4 22] (.seq (zR [zm 23 4,zc 24 .eql 23 (-1)] (.cond (.l 24) (zR [zm 25 3,zw 2 25] (.ret)) (.skip))) (zR [zm 26 3,zc 27 .add 26 1,zw 3 27] (.region [zm 28 0,zm 29 4,zm 30 1,zL 31 30,zb 32 .add 29 31,⟨.l 33,.slice .str 1 (.l 28) (some (.l 32)) none none,none⟩,zw 0 33]))))
def yL:ao:=zR [zi 2 0] (.seq (zR [zm 7 1,zL 8 7,zc 9 .eql 8 0] (.cond (.l 9) (zR [zm 10 0,z1 11 328 10,zc 12 .add 11 1,zw 2 12] (.ret)) (.skip))) (.seq (zR [zm 13 1,zL 14 13,zc 15 .eql 14 1] (.cond (.l 15) (zR [zm 16 0,zm 17 1,⟨.l 18,.index (.l 17) (kI 0),none⟩,z2 19 329 16 18,zw 2 19] (.ret)) (.skip))) (zR [zi 3 0] (.block 0 (.loop JU)))))
theorem JV:FT 309=some ⟨34,[0,1,4,5,6],[.var (.p 2)],yL⟩:=by kernel_rfl
def yM:ao:=zR [zi 2 0] (zR [zm 5 0,zm 6 1,z2 7 256 5 6,zw 2 7] (.ret))
theorem JW:FT 310=some ⟨8,[0,1,4],[.var (.p 2)],yM⟩:=by kernel_rfl
def yN:ao:=zR [zx 1 146 1 0,⟨.p 2,.mv (.c (.cN)),none⟩] (zR [⟨.l 3,.jF (.func 269) [] [(.p 1)],none⟩,zw 2 3] (.ret))
theorem JX:FT 230=some ⟨4,[0,1,2],[.var (.p 2)],yN⟩:=by kernel_rfl
def oG:ao:=.seq (zR [zm 7 2,zc 8 .geq 7 0] (.cond (.l 8) (.skip) (.exit 0))) (.seq (.block 1 (zR [zm 11 0,zm 12 2,⟨.l 13,.load 1 false (.p 1),none⟩,zm 14 2,za 15 1 13 14,zd 16 1 15,⟨.l 17,.call (.l 11) [(.l 12),(.l 16)],none⟩,zu 18 17] (.cond (.l 18) (.ret) (.skip)))) (.region [zm 9 2,zc 10 .sub 9 1,zw 2 10]))
def yO:ao:=zR [⟨.l 4,.load 1 false (.p 1),none⟩,zl 5 4,zc 6 .sub 5 1,zw 2 6] (.block 0 (.loop oG))
theorem JY:FT 269=some ⟨19,[0,1,3],[],yO⟩:=by kernel_rfl
def yP:ao:=zR [zx 1 9 1 0,⟨.p 2,.mv (.c (.cN)),none⟩] (zR [⟨.l 3,.jF (.func 228) [] [(.p 1)],none⟩,zw 2 3] (.ret))
theorem JZ:FT 189=some ⟨4,[0,1,2],[.var (.p 2)],yP⟩:=by kernel_rfl
def yQ:ao:=zR [zx 2 231 1 0] (zR [⟨.l 8,.load 1 false (.p 1),none⟩,⟨.l 9,.call (kF 229) [(.l 8),(.c (.str [58]))],none⟩,⟨.p 3,.alloc 146 [.al],none⟩,zs 1 3 9] (zR [⟨.l 10,.load 1 false (.p 3),none⟩,z1 11 230 10] (.block 0 (.rangeFunc false (.l 11) [(.p 8),(.p 9)] (zR [⟨.p 4,.mv (.p 8),none⟩] (.region [⟨.p 5,.mv (.p 9),none⟩])) (.block 1 (zR [zm 15 5,z1 16 121 15,zn 14 16,ze 17 0 14,ze 18 1 14,zw 6 17,zw 7 18] (.seq (zR [zm 19 4,zc 20 .gtr 19 0] (.cond (.l 20) (zR [zm 22 5,z1 23 187 22,zn 21 23,ze 24 0 21,ze 25 1 21,zw 6 24,zw 7 25] (.region [zm 26 7,zn 27 26,zg (zm 28 5) 27 true,zg (zL 29 28) 27 true,zg (zc 30 .eql 29 2) 27 true,zp 31 27 30,zw 7 31])) (.skip))) (zR [⟨.l 32,.load 1 false (.p 2),none⟩,zm 33 6,zm 34 7,zn 35 34,⟨.l 36,.load 1 false (.p 3),some ((.l 35),true)⟩,zg (zl 37 36) 35 true,zg (zc 38 .leq 37 3) 35 true,zp 39 35 38,⟨.l 40,.call (.l 32) [(.l 33),(.l 39)],none⟩,zu 41 40] (.cond (.l 41) (.ret) (.skip))))))))))
theorem Ka:FT 228=some ⟨42,[0,1,2,3,4,5,6,7,12,13],[],yQ⟩:=by kernel_rfl
def t124:ao:=zR [⟨.l 63,.load 1 false (.p 6),none⟩,⟨.l 64,.build [.str [],.iV (0),.str []] [(0,1,(.c (.str zD10))),(1,1,(.l 63))],none⟩,⟨.p 13,.alloc 49 [.str [],.iV (0),.str []],none⟩,zs 3 13 64] (.seq (.seq (.draw [(zm 65 5,[]),(zu 66 65,[]),(zn 67 66,[]),(⟨.l 68,.load 1 false (.p 7),some ((.l 67),false)⟩,[]),(zg (zu 69 68) 67 false,[]),(zP 70 67 69,[]),(⟨.l 71,.call (kF 97) [(.l 70),(kI 25)],none⟩,[]),(⟨.l 72,.load 1 false (.p 8),none⟩,[0,1,2,3,4,5,6]),(⟨.l 73,.call (kF 97) [(.l 72),(kI 3)],none⟩,[]),(zt 74 3 13,[0,1,2,3,4,5,6,7,8]),(z1 75 36 74,[]),(⟨.l 76,.fp 25 3 1 [.iV (0)] [(0,1,(.l 71)),(1,1,(.l 73)),(2,1,(.l 75))],none⟩,[]),(z1 77 96 76,[]),(zw 14 77,[])]) (zR [zm 78 14,zc 79 .neq 78 0] (.cond (.l 79) (zR [⟨.l 80,.build [.str [],.iV (0),.str []] [],none⟩,zm 81 14,zs 3 1 80,zw 2 81] (.ret)) (.skip)))) (zR [zt 82 3 13,zs 3 1 82,zi 2 0] (.ret)))
def yR:ao:=zR [⟨.p 1,.alloc 49 [.str [],.iV (0),.str []],none⟩,zi 2 0] (zR [zm 17 0,⟨.l 18,.call (kF 163) [(.l 17),(.c (.str [46]))],none⟩,zn 16 18,ze 19 0 16,ze 20 1 16,ze 21 2 16,zw 3 19,zw 4 20,zw 5 21] (zR [zm 23 4,⟨.l 24,.call (kF 188) [(.l 23),(kI 1),(kI 4)],none⟩,zn 22 24,ze 25 0 22,ze 26 1 22,⟨.p 6,.alloc 3 [.iV (0)],none⟩,⟨.p 7,.alloc 4 [.bool false],none⟩,zs 1 6 25,zs 1 7 26] (zR [⟨.p 8,.alloc 4 [.bool false],none⟩,⟨.p 9,.alloc 3 [.iV (0)],none⟩,⟨.p 10,.alloc 3 [.iV (0)],none⟩,⟨.no,.store 1 (.p 8) (.c (.bool false)),none⟩,⟨.no,.store 1 (.p 9) (kI 10000),none⟩,⟨.no,.store 1 (.p 10) (kI 0),none⟩] (.seq (zR [zm 27 3,z1 28 189 27] (.block 0 (.rangeFunc false (.l 28) [(.p 15),(.p 16)] (zR [⟨.p 11,.mv (.p 15),none⟩] (.region [⟨.p 12,.mv (.p 16),none⟩])) (.block 1 (zR [⟨.l 31,.load 1 false (.p 7),none⟩,zn 32 31,zg (zm 33 12) 32 true,zp 34 32 33,zs 1 7 34] (zR [⟨.l 35,.load 1 false (.p 8),none⟩,zn 36 35,⟨.l 37,.load 1 false (.p 10),some ((.l 36),false)⟩,zg (zc 38 .lss 37 2) 36 false,zg (zn 39 38) 36 false,zg (zm 40 11) 39 true,zg (zc 41 .gtr 40 59) 39 true,zg (zp 42 39 41) 36 false,zP 43 36 42,zs 1 8 43] (.seq (zR [⟨.l 44,.load 1 false (.p 10),none⟩,zc 45 .eql 44 2] (.cond (.l 45) (zR [⟨.l 46,.load 1 false (.p 8),none⟩,zn 47 46,zg (zm 48 11) 47 false,zg (zc 49 .gtr 48 99) 47 false,zP 50 47 49,zs 1 8 50] (.region [zm 51 11,⟨.l 52,.mm false [(.l 51),(kI 99)],none⟩,zw 11 52])) (.skip))) (zR [⟨.l 53,.load 1 false (.p 6),none⟩,zm 54 11,⟨.l 55,.mm false [(.l 54),(kI 99)],none⟩,⟨.l 56,.load 1 false (.p 9),none⟩,zb 57 .mul 55 56,zb 58 .add 53 57,zs 1 6 58] (zR [⟨.l 59,.load 1 false (.p 9),none⟩,zc 60 .mul 59 60,zs 1 9 60] (.region [⟨.l 61,.load 1 false (.p 10),none⟩,zc 62 .add 61 1,zs 1 10 62]))))))))))
      t124))))
theorem Kb:FT 124=some ⟨83,[0,2,3,4,5,6,7,8,9,10,11,12,13,14,15,29,30],[.cell 3 true (.p 1),.var (.p 2)],yR⟩:=by kernel_rfl
end Go.Ab.Ch1
