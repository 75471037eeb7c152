/-
  Own work: words of integers: a digit of a quotient (Knuth's step): the loops.
-/
import Derived.Test.YtcjphdmkgmkabaaGreatDoorLib6
import Derived.Test.YtcjphdmkgmkabaaGreatDoorLib5
import Derived.Test.YtcjphdmkgmkabaaGreatDoorCh1Base
set_option maxHeartbeats 8000000
set_option maxRecDepth 20000
namespace Go.Ab.Ch1
open Go.Ab.aR
variable {M:ao} {cu cv:Option Nat}
def cC (hp:ab)(b:Nat)(e:TypeId)(P S X:List Int):ab:=hp.put b (some (.cells (ak (P++X++S)) e))
theorem GH {hp:ab}{b:Nat}{e:TypeId}{P S X:List Int}:(cC hp b e P S X).length=hp.length:=gG
theorem zY {P X S:List Int}{i:Nat}(hi:i<X.length):(P++X++S)[P.length+i]! = X[i]! := by
 simp only[List.getElem!_eq_getElem?_getD];rw[List.append_assoc,List.getElem?_append_right (by omega),show P.length+i-P.length=i by omega,List.getElem?_append_left hi]
theorem GI {P X S:List Int}{i:Nat}{v:Int}(hi:i<X.length):(P++X++S).set (P.length+i) v=P++X.set i v++S:=by
 rw[List.append_assoc,List.set_append_right _ _ (by omega),show P.length+i-P.length=i by omega,List.set_append_left _ _ hi,List.append_assoc]
section
variable {t bu bv m:Nat} {x y:ax} {l:List aO} {pe:List AV} {lo:List (Nat×AV)} {hp:ab} {df wr:List Nat} {P S X V Y:List Int} {e e':TypeId} {v:Int} {Q:al->Prop}
theorem abo {i:Nat}(hx:(St.mk pe lo (cC hp bu e P S X) df).aa x=some (.ptr bu m))(hl:bu<hp.length)(hi:i<X.length)(hm:m=P.length+i)
 (h:WO M l ⟨⟨pe,(t,.uV X[i]!)::lo,cC hp bu e P S X,df⟩,wr⟩ Q):WO M (⟨.l t,.load 1 false x,none⟩::l) ⟨⟨pe,lo,cC hp bu e P S X,df⟩,wr⟩ Q:=by
 subst hm;refine aaW (L:=P++X++S) (e:=e) hx (by unfold cC;exact gg hl) (by simp;omega) ?_;rw[zY hi];exact h
theorem uq {Y:Option bc}(hne:bu≠bv):(hp.put bu Y).at bv=hp.at bv:=by
 unfold ab.at ab.put;rw[List.getElem?_set_ne hne]
theorem abp {i:Nat}(hx:(St.mk pe lo (cC hp bu e P S X) df).aa x=some (.ptr bv m))(hb:hp.at bv=some (.cells (ak (V++Y)) e'))(hne:bu≠bv)(hi:i<V.length)(hm:m=i)
 (h:WO M l ⟨⟨pe,(t,.uV V[i]!)::lo,cC hp bu e P S X,df⟩,wr⟩ Q):WO M (⟨.l t,.load 1 false x,none⟩::l) ⟨⟨pe,lo,cC hp bu e P S X,df⟩,wr⟩ Q:=by
 subst hm;refine aaW (L:=V++Y) (e:=e') hx (by unfold cC;rw[uq hne];exact hb) (by rw[List.length_append];omega) ?_;have:(V++Y)[m]! = V[m]! := by
  simp only[List.getElem!_eq_getElem?_getD];rw[List.getElem?_append_left hi]
 rw[this];exact h
theorem abr {i:Nat}(hx:(St.mk pe lo (cC hp bu e P S X) df).aa x=some (.ptr bu m))(hy:(St.mk pe lo (cC hp bu e P S X) df).aa y=some (.uV v))(hl:bu<hp.length)(hi:i<X.length)(hm:m=P.length+i)
 (h:WO M l ⟨⟨pe,lo,cC hp bu e P S (X.set i v),df⟩,bu::wr⟩ Q):WO M (⟨.no,.store 1 x y,none⟩::l) ⟨⟨pe,lo,cC hp bu e P S X,df⟩,wr⟩ Q:=by
 subst hm;refine aaT (L:=P++X++S) (e:=e) hx hy (by unfold cC;exact gg hl) (by simp;omega) ?_;rw[GI hi];have:ab.put (cC hp bu e P S X) bu (some (.cells (ak (P++X.set i v++S)) e))=cC hp bu e P S (X.set i v):=by unfold cC;exact jt
 rw[this];exact h
end
variable {bu bv k:Nat} {e e':TypeId} {hp:ab} {P S X V Y:List Int}
theorem GJ (C:kN M)(hl:bu<hp.length)(hne:bu≠bv)(hb:hp.at bv=some (.cells (ak (V++Y)) e'))(lk:k<10000000)(hX:X.length=k+3)(hV:V.length=k+2)
 {t2 t1 T D p:Int} (K:hZ t2 t1 X[k]! V[k+1]! V[k]! T D p) {Q:Ex->al->Prop} (a2 a9 aA aB aC aD aE aF aG aH aI aJ aK:AV) (wr:List Nat)
 (hQ:∀(q rh ov:Int) a7 a8 lo,(0<=q/\q<18446744073709551616)->T<(q+1)*D->(q-1)*D<=T ->
   Q (.exit 0) ⟨⟨[.sl bu P.length (k+3) 1 cu,.sl bv 0 (k+2) 1 cv,a2,.iV ((k+2:Nat):Int),.uV q,.uV rh,.uV ov,a7,a8,a9,aA,aB,aC,aD,aE,aF,aG,aH,aI,aJ,aK],lo,cC hp bu e P S X,[]⟩,wr⟩)
 (q rh ov:Int) (a7 a8:AV) (lo:List (Nat×AV)) (I:fY t2 t1 V[k+1]! T D q (rh+18446744073709551616*ov)) (hrh:0<=rh/\rh<18446744073709551616) (hov:0<=ov/\ov<=1) :
 W M (.loop zO) ⟨⟨[.sl bu P.length (k+3) 1 cu,.sl bv 0 (k+2) 1 cv,a2,.iV ((k+2:Nat):Int),.uV q,.uV rh,.uV ov,a7,a8,a9,aA,aB,aC,aD,aE,aF,aG,aH,aI,aJ,aK],lo,cC hp bu e P S X,[]⟩,wr⟩ Q:=by
 refine W.fH (fun m s=>∃q rh ov a7 a8 lo,s=⟨⟨[.sl bu P.length (k+3) 1 cu,.sl bv 0 (k+2) 1 cv,a2,.iV ((k+2:Nat):Int),.uV q,.uV rh,.uV ov,a7,a8,a9,aA,aB,aC,aD,aE,aF,aG,aH,aI,aJ,aK],lo,cC hp bu e P S X,[]⟩,wr⟩ /\
  m=q.toNat/\fY t2 t1 V[k+1]! T D q (rh+18446744073709551616*ov)/\(0<=rh/\rh<18446744073709551616)/\(0<=ov/\ov<=1)) (fun m s ⟨q,rh,ov,a7,a8,lo,hs,hm,I,hrh,hov⟩=>?_) (m:=q.toNat) ⟨q,rh,ov,a7,a8,lo,rfl,rfl,I,hrh,hov⟩
 subst hs;subst hm;have q0:=I.q0;have w0:=K.w0;have w1:=K.w1;have t0:=K.h0;unfold zO;by_cases ho:ov=0
 . subst ho;rw[Int.mul_zero,Int.add_zero]at I;have q244:=fun h=>C.mr q V[k]! h q0 w0
   obtain⟨m,hm⟩:∃m,m=q*V[k]! := ⟨_,rfl⟩;have hmb:=ui q0 w0;rw[←hm]at q244 hmb;by_cases ht:m<=rh*18446744073709551616+X[k]!
   . have hfin:=I.exit K (by rw[←hm];exact ht);exact gg3
   . have I2:=I.dec K (by rw[←hm];omega);have q275:=fun h=>C.kL rh V[k+1]! 0 h (by omega) (by omega) (by decide) (by decide)
     have e1:(rh+V[k+1]! + 0)%18446744073709551616+18446744073709551616*((rh+V[k+1]! + 0)/18446744073709551616)=rh+V[k+1]! := by omega
     have i0:=I2.q0;exact gg3
 . have h1:ov=1:=by omega
   subst h1;have hfin:=I.kO K (by omega);exact gg6
theorem RQ (C:kN M)(hl:bu<hp.length)(hne:bu≠bv)(hb:hp.at bv=some (.cells (ak (V++Y)) e'))(lk:k<10000000)(hX:X.length=k+3)(oX:okW wB X)(hV:V.length=k+2)(oV:okW wB V)
 (q:Int) (q0:0<=q/\q<18446744073709551616) {Q:Ex->al->Prop} (a2 a5 a6 a7 a8 aB aC aD aE aF aG aJ aK:AV) (lo:List (Nat×AV))
 (hQ:∀L (bo ca:Int) aB aC aD aE lo wr,L.length=k+3->okW wB L->L[k+2]! = X[k+2]! -> (0<=bo/\bo<=1)->(0<=ca/\ca<18446744073709551616)->(∀z∈wr,z=bu)->WV wB L=WV wB X-q*WV wB V+wB^(k+2)*(ca+bo) ->
   Q (.exit 2) ⟨⟨[.sl bu P.length (k+3) 1 cu,.sl bv 0 (k+2) 1 cv,a2,.iV ((k+2:Nat):Int),.uV q,a5,a6,a7,a8,.uV bo,.uV ca,aB,aC,aD,aE,aF,aG,.iV ((k+2:Nat):Int),.iV ((k+2:Nat):Int),aJ,aK],lo,cC hp bu e P S L,[]⟩,wr⟩) :
 W M (.loop qo) ⟨⟨[.sl bu P.length (k+3) 1 cu,.sl bv 0 (k+2) 1 cv,a2,.iV ((k+2:Nat):Int),.uV q,a5,a6,a7,a8,.uV 0,.uV 0,aB,aC,aD,aE,aF,aG,.iV ((k+2:Nat):Int),.iV 0,aJ,aK],lo,cC hp bu e P S X,[]⟩,[]⟩ Q:=by
 refine W.gB (k+2) (fun i s=>∃L bo ca aB aC aD aE lo wr,s=⟨⟨[.sl bu P.length (k+3) 1 cu,.sl bv 0 (k+2) 1 cv,a2,.iV ((k+2:Nat):Int),.uV q,a5,a6,a7,a8,.uV bo,.uV ca,aB,aC,aD,aE,aF,aG,.iV ((k+2:Nat):Int),.iV i,aJ,aK],lo,cC hp bu e P S L,[]⟩,wr⟩ /\
  L.length=k+3/\okW wB L/\L[k+2]! = X[k+2]! /\ (0<=bo/\bo<=1)/\(0<=ca/\ca<18446744073709551616)/\(∀z∈wr,z=bu)/\WV wB L=WV wB X-q*WV wB (V.take i)+wB^i*(ca+bo)) (fun i s hi ⟨L,bo,ca,aB,aC,aD,aE,lo,wr,hs,hL,oL,ht,hbo,hca,hw,hv⟩=>?_) (fun s ⟨L,bo,ca,aB,aC,aD,aE,lo,wr,hs,hL,oL,ht,hbo,hca,hw,hv⟩=>?_) (Nat.zero_le _)
  ⟨_,_,_,_,_,_,_,_,_,rfl,hX,oX,rfl,⟨by decide,by decide⟩,⟨by decide,by decide⟩,by simp,by simp[WV]⟩
 . subst hs;have gy:=bL oV (i:=i) (by omega);obtain⟨y,hy⟩:∃y,y=V[i]! := ⟨_,rfl⟩;rw[←hy]at gy;have gy:0<=y/\y<18446744073709551616:=gy;have gL:=bL oL (i:=i) (by omega);obtain⟨u,hu⟩:∃u,u=L[i]! := ⟨_,rfl⟩;rw[←hu]at gL;have gL:0<=u/\u<18446744073709551616:=gL;have q244:=fun h=>C.mr q y h q0 gy
   have hm:=ui q0 gy;obtain⟨m,hmm⟩:∃m,m=q*y:=⟨_,rfl⟩;rw[←hmm]at q244 hm;have q275:=fun h=>C.kL (m%18446744073709551616) ca 0 h (by omega) hca.1 (by decide) (by decide)
   obtain⟨S1,hS1⟩:∃S1,S1=(m%18446744073709551616+ca+0)%18446744073709551616:=⟨_,rfl⟩;obtain⟨S2,hS2⟩:∃S2,S2=(m%18446744073709551616+ca+0)/18446744073709551616:=⟨_,rfl⟩;rw[←hS1,←hS2]at q275;obtain⟨D,hD⟩:∃D:Int,D=if u<S1+bo then 1 else 0:=⟨_,rfl⟩
   have q277:=fun h=>C.uh u S1 bo h gL.1 gL.2 (by omega) (by omega) hbo.1 hbo.2
   obtain⟨d,hd⟩:∃d,d=(u-S1-bo)%18446744073709551616:=⟨_,rfl⟩;rw[←hD,←hd]at q277;have hD2:0<=D/\D<=1/\u-S1-bo=d-18446744073709551616*D/\0<=d/\d<18446744073709551616:=by
    rw[hD];split <;> omega
   have hC2:(0<=m/18446744073709551616+S2/\m/18446744073709551616+S2<18446744073709551616)/\m+ca=S1+18446744073709551616*(m/18446744073709551616+S2):=by omega
   obtain⟨c2,hc2⟩:∃c2,c2=m/18446744073709551616+S2:=⟨_,rfl⟩;have next:∀aB aC aD aE lo,LI (fun s=>∃L bo ca aB aC aD aE lo wr,s=⟨⟨[.sl bu P.length (k+3) 1 cu,.sl bv 0 (k+2) 1 cv,a2,.iV ((k+2:Nat):Int),.uV q,a5,a6,a7,a8,.uV bo,.uV ca,aB,aC,aD,aE,aF,aG,.iV ((k+2:Nat):Int),.iV ((i+1:Nat):Int),aJ,aK],lo,cC hp bu e P S L,[]⟩,wr⟩ /\
    L.length=k+3/\okW wB L/\L[k+2]! = X[k+2]! /\ (0<=bo/\bo<=1)/\(0<=ca/\ca<18446744073709551616)/\(∀z∈wr,z=bu)/\WV wB L=WV wB X-q*WV wB (V.take (i+1))+wB^(i+1)*(ca+bo)) Q .normal ⟨⟨[.sl bu P.length (k+3) 1 cu,.sl bv 0 (k+2) 1 cv,a2,.iV ((k+2:Nat):Int),.uV q,a5,a6,a7,a8,.uV D,.uV (m/18446744073709551616+S2),aB,aC,aD,aE,aF,aG,.iV ((k+2:Nat):Int),.iV ((i:Int)+1),aJ,aK],lo,cC hp bu e P S (L.set i d),[]⟩,bu::wr⟩:=fun aB aC aD aE lo=>
    cL ⟨_,_,_,aB,aC,aD,aE,lo,_,rfl,by rw[List.length_set];exact hL,fx oL hD2.2.2.2,by rw[fR (by omega)];exact ht,⟨hD2.1,hD2.2.1⟩,hC2.1,by simpa using hw,by
     rw[fy (by omega),←hu,eu (by omega),←hy,hv,Int.pow_succ];have e1:d-u=18446744073709551616*D+18446744073709551616*(m/18446744073709551616+S2)-q*y-ca-bo:=by rw[←hmm];omega
     rw[e1,←hc2];show _+wB^i*(18446744073709551616*D+18446744073709551616*c2-q*y-ca-bo)=_-_+wB^i*18446744073709551616*(c2+D);grind⟩
   rw[hy]at q244;rw[hu]at q277;unfold qo;exact gg14
 . subst hs;rw[List.take_of_length_le (by omega)]at hv;unfold qo;exact gg1
theorem RR (C:kN M)(hl:bu<hp.length)(hne:bu≠bv)(hb:hp.at bv=some (.cells (ak (V++Y)) e'))(lk:k<10000000)(hX:X.length=k+3)(oX:okW wB X)(hV:V.length=k+2)(oV:okW wB V)
 {Q:Ex->al->Prop} (a2 a4 a5 a6 a7 a8 a9 aA aB aC aD aE aG aH aI:AV) (lo:List (Nat×AV)) (wr:List Nat) (hwr:∀z∈wr,z=bu)
 (hQ:∀L (ca:Int) aG lo wr,L.length=k+3->okW wB L->L[k+2]! = X[k+2]! -> (0<=ca/\ca<=1)->(∀z∈wr,z=bu)->WV wB L+wB^(k+2)*ca=WV wB X+WV wB V ->
   Q (.exit 4) ⟨⟨[.sl bu P.length (k+3) 1 cu,.sl bv 0 (k+2) 1 cv,a2,.iV ((k+2:Nat):Int),a4,a5,a6,a7,a8,a9,aA,aB,aC,aD,aE,.uV ca,aG,aH,aI,.iV ((k+2:Nat):Int),.iV ((k+2:Nat):Int)],lo,cC hp bu e P S L,[]⟩,wr⟩) :
 W M (.loop qp) ⟨⟨[.sl bu P.length (k+3) 1 cu,.sl bv 0 (k+2) 1 cv,a2,.iV ((k+2:Nat):Int),a4,a5,a6,a7,a8,a9,aA,aB,aC,aD,aE,.uV 0,aG,aH,aI,.iV ((k+2:Nat):Int),.iV 0],lo,cC hp bu e P S X,[]⟩,wr⟩ Q:=by
 refine W.gB (k+2) (fun i s=>∃L ca aG lo wr,s=⟨⟨[.sl bu P.length (k+3) 1 cu,.sl bv 0 (k+2) 1 cv,a2,.iV ((k+2:Nat):Int),a4,a5,a6,a7,a8,a9,aA,aB,aC,aD,aE,.uV ca,aG,aH,aI,.iV ((k+2:Nat):Int),.iV i],lo,cC hp bu e P S L,[]⟩,wr⟩ /\
  L.length=k+3/\okW wB L/\L[k+2]! = X[k+2]! /\ (0<=ca/\ca<=1)/\(∀z∈wr,z=bu)/\WV wB L+wB^i*ca=WV wB X+WV wB (V.take i)) (fun i s hi ⟨L,ca,aG,lo,wr,hs,hL,oL,ht,hca,hw,hv⟩=>?_) (fun s ⟨L,ca,aG,lo,wr,hs,hL,oL,ht,hca,hw,hv⟩=>?_) (Nat.zero_le _)
  ⟨_,_,_,_,_,rfl,hX,oX,rfl,⟨by decide,by decide⟩,hwr,by simp[WV]⟩
 . subst hs;have gy:=bL oV (i:=i) (by omega);obtain⟨y,hy⟩:∃y,y=V[i]! := ⟨_,rfl⟩;rw[←hy]at gy;have gy:0<=y/\y<18446744073709551616:=gy;have gL:=bL oL (i:=i) (by omega);obtain⟨u,hu⟩:∃u,u=L[i]! := ⟨_,rfl⟩;rw[←hu]at gL;have gL:0<=u/\u<18446744073709551616:=gL;have q275:=fun h=>C.kL u y ca h gL.1 gy.1 hca.1 hca.2
   obtain⟨d,hd⟩:∃d,d=(u+y+ca)%18446744073709551616:=⟨_,rfl⟩;obtain⟨D,hD⟩:∃D,D=(u+y+ca)/18446744073709551616:=⟨_,rfl⟩;rw[←hD,←hd]at q275;have hD2:(0<=D/\D<=1)/\u+y+ca=d+18446744073709551616*D/\0<=d/\d<18446744073709551616:=by omega
   have next:∀aG lo,LI (fun s=>∃L ca aG lo wr,s=⟨⟨[.sl bu P.length (k+3) 1 cu,.sl bv 0 (k+2) 1 cv,a2,.iV ((k+2:Nat):Int),a4,a5,a6,a7,a8,a9,aA,aB,aC,aD,aE,.uV ca,aG,aH,aI,.iV ((k+2:Nat):Int),.iV ((i+1:Nat):Int)],lo,cC hp bu e P S L,[]⟩,wr⟩ /\
    L.length=k+3/\okW wB L/\L[k+2]! = X[k+2]! /\ (0<=ca/\ca<=1)/\(∀z∈wr,z=bu)/\WV wB L+wB^(i+1)*ca=WV wB X+WV wB (V.take (i+1))) Q .normal ⟨⟨[.sl bu P.length (k+3) 1 cu,.sl bv 0 (k+2) 1 cv,a2,.iV ((k+2:Nat):Int),a4,a5,a6,a7,a8,a9,aA,aB,aC,aD,aE,.uV D,aG,aH,aI,.iV ((k+2:Nat):Int),.iV ((i:Int)+1)],lo,cC hp bu e P S (L.set i d),[]⟩,bu::wr⟩:=fun aG lo=>
    cL ⟨_,_,aG,lo,_,rfl,by rw[List.length_set];exact hL,fx oL hD2.2.2,by rw[fR (by omega)];exact ht,hD2.1,by simpa using hw,by
     rw[fy (by omega),←hu,eu (by omega),←hy,Int.pow_succ];have e1:d-u=y+ca-18446744073709551616*D:=by omega
     rw[e1];show WV wB L+wB^i*(y+ca-18446744073709551616*D)+wB^i*18446744073709551616*D=_;grind⟩
   rw[hy,hu]at q275;unfold qp;exact gg14
 . subst hs;rw[List.take_of_length_le (by omega)]at hv;unfold qp;exact gg1
structure zZ (M:ao):Prop extends kN M where
 Aa:∀(hi lo y:Int) h,(0<y/\y<18446744073709551616)->(0<=hi/\hi<y)->(0<=lo/\lo<18446744073709551616)->M.ext 278 [.uV hi,.uV lo,.uV y] h=some ⟨.aq [.uV ((hi*18446744073709551616+lo)/y),.uV ((hi*18446744073709551616+lo)%y)],h,[]⟩
def t281:an:=
 zR [⟨(.p 9),.mv (kU 0),none⟩,
          ⟨(.p 10),.mv (kU 0),none⟩]
        (
         .seq (zR [⟨(.p 17),.mv (.p 3),none⟩,
            zi 18 0]
          (
           .block 2
           (.loop qo)))
         (
          zR [zm 141 0,
            zm 142 3,
            zm 143 0,
            zm 144 3,
            za 145 1 143 144,
            zd 146 1 145,
            zm 147 10,
            zm 148 9,
            ⟨(.l 149),.call (kF 277) [(.l 146),(.l 147),(.l 148)],none⟩,
            zn 140 149,
            ze 150 0 140,
            ze 151 1 140,
            za 152 1 141 142,
            zS 1 152 150,
            zw 9 151]
          (
           .seq (zR [zm 153 9,
              ⟨(.l 154),.bin .eql (.l 153) (kU 0),none⟩]
            (
             .cond (.l 154)
             (
              zR [zm 155 4,
                zw 2 155]
              (.ret))
             (.skip)))
           (
            zR [⟨(.p 15),.mv (kU 0),none⟩]
            (
             .seq (zR [⟨(.p 19),.mv (.p 3),none⟩,
                zi 20 0]
              (
               .block 4
               (.loop qp)))
             (
              zR [zm 177 0,
                zm 178 3,
                za 179 1 177 178,
                zd 180 1 179,
                zm 181 15,
                zb 182 .add 180 181,
                za 183 1 177 178,
                zS 1 183 182]
              (
               zR [zm 184 4,
                 ⟨(.l 185),.bin .sub (.l 184) (kU 1),none⟩,
                 zw 2 185]
               (.ret))))))))
def nX (X V:List Int)(q:Int)(R:List Int):Prop:=(0<=q/\q<18446744073709551616)/\R.length=X.length/\okW wB R/\WV wB R=WV wB X-q*WV wB V/\WV wB R<WV wB V
theorem RS {X V L:List Int}{q ca bo d b:Int}{n:Nat}(hL:L.length=n+1)(oL:okW wB L)(hv:WV wB L=WV wB X-q*WV wB V+wB^n*(ca+bo))(hd:L[n]! - ca-bo=d-18446744073709551616*b)(hd2:0<=d/\d<18446744073709551616) :
 okW wB (L.set n d)/\WV wB (L.set n d)=WV wB X-q*WV wB V+wB^(n+1)*b:=by
 refine⟨fx oL hd2,?_⟩;rw[fy (by omega),hv,Int.pow_succ];have e:d-L[n]! = 18446744073709551616*b-ca-bo:=by omega
 rw[e];show _+wB^n*(18446744073709551616*b-ca-bo)=_-_+wB^n*18446744073709551616*b;grind
theorem RT {X V R:List Int}{q:Int}(hR:R.length=X.length)(oR:okW wB R)(hq:0<=q/\q<18446744073709551616)(hv:WV wB R=WV wB X-q*WV wB V)(hge:WV wB X<(q+1)*WV wB V):nX X V q R:=by
 refine⟨hq,hR,oR,hv,?_⟩;rw[Int.add_mul,Int.one_mul]at hge;omega
theorem RU {X V R L:List Int}{q ca d:Int}{n:Nat}(oV:okW wB V)(hV:V.length=n)(hX:X.length=n+1)(oR:okW wB R)(hR:R.length=n+1)(hv:WV wB R=WV wB X-q*WV wB V+wB^(n+1))(h0:0<=WV wB X)(hle:(q-1)*WV wB V<=WV wB X)(hq:0<=q/\q<18446744073709551616)
 (hL:L.length=n+1) (oL:okW wB L) (ht:L[n]! = d) (hl:WV wB L+wB^n*ca=WV wB R+WV wB V) (hca:0<=ca/\ca<=1) :
 1<=q/\nX X V (q-1) (L.set n ((d+ca)%18446744073709551616)):=by
 have lR:=cR (b:=wB) (by decide) oR;rw[hR]at lR;have lV:=cR (b:=wB) (by decide) oV;rw[hV]at lV;have hp:wB^(n+1)=wB^n*18446744073709551616:=Int.pow_succ _ _;have hp0:0<wB^n:=Int.pow_pos (by decide);have q1:1<=q:=by
  rcases Int.lt_or_le 0 q with h|h
  . omega
  . obtain rfl:q=0:=by omega
    rw[Int.zero_mul]at hv;omega
 have gd:=bL oL (i:=n) (by omega);rw[ht]at gd;have gd:0<=d/\d<18446744073709551616:=gd;obtain⟨f,hf⟩:∃f,f=(d+ca)/18446744073709551616:=⟨_,rfl⟩;have hf2:(d+ca)%18446744073709551616-d=ca-18446744073709551616*f/\0<=f/\f<=1:=by omega
 have oN:okW wB (L.set n ((d+ca)%18446744073709551616)):=fx oL ⟨by omega,by show _<(18446744073709551616:Int);omega⟩;have eN:WV wB (L.set n ((d+ca)%18446744073709551616))=WV wB X-(q-1)*WV wB V+wB^(n+1)*(1-f):=by
  rw[fy (by omega),ht,hf2.1,hp];rw[hp]at hv;have e1:wB^n*(ca-18446744073709551616*f)=wB^n*ca-wB^n*18446744073709551616*f:=by rw[Int.mul_sub,Int.mul_assoc]
  have e2:wB^n*18446744073709551616*(1-f)=wB^n*18446744073709551616-wB^n*18446744073709551616*f:=by rw[Int.mul_sub,Int.mul_one]
  rw[e1,e2,Int.sub_mul,Int.one_mul];generalize wB^n*ca=z1 at *
  generalize wB^n*18446744073709551616*f=z2 at *
  generalize wB^n*18446744073709551616=z3 at *
  omega
 have lN:=cR (b:=wB) (by decide) oN;rw[List.length_set,hL]at lN;have f1:f=1:=by
  rcases Int.lt_or_le 0 f with h|h
  . omega
  . obtain rfl:f=0:=by omega
    rw[Int.sub_zero,Int.mul_one]at eN;omega
 subst f1;rw[Int.sub_self,Int.mul_zero,Int.add_zero]at eN;refine⟨q1,by omega,by rw[List.length_set];omega,oN,eN,?_⟩;rw[eN,Int.sub_mul,Int.one_mul];omega
theorem MC (C:kN M)(hl:bu<hp.length)(hne:bu≠bv)(hb:hp.at bv=some (.cells (ak (V++Y)) e'))(lk:k<10000000)(hX:X.length=k+3)(oX:okW wB X)(hV:V.length=k+2)(oV:okW wB V)
 (q:Int) (q0:0<=q/\q<18446744073709551616) (hge:WV wB X<(q+1)*WV wB V) (hle:(q-1)*WV wB V<=WV wB X) (a2 a5 a6 a7 a8 a9 aA aB aC aD aE aF aG aH aI aJ aK:AV) (lo:List (Nat×AV)) :
 W M t281 ⟨⟨[.sl bu P.length (k+3) 1 cu,.sl bv 0 (k+2) 1 cv,a2,.iV ((k+2:Nat):Int),.uV q,a5,a6,a7,a8,a9,aA,aB,aC,aD,aE,aF,aG,aH,aI,aJ,aK],lo,cC hp bu e P S X,[]⟩,[]⟩
  (fun x s=>(x = .normal\/x = .ret)/\s.s.bA=[]/\∃vs,cU s.s [.var (.p 2)]=some vs/\∃q R,nX X V q R/\s.s.hp=cC hp bu e P S R/\(∀z∈s.wr,z=bu)/\aQ vs = .uV q):=by
 have hX0:=bT (b:=wB) (by decide) oX;unfold t281;repeat' first|refine gc ?_|fail
 refine RQ C hl hne hb lk hX oX hV oV q q0 _ _ _ _ _ _ _ _ _ _ _ _ _ _ (fun L bo ca aB aC aD aE lo wr hL oL ht hbo hca hw hv=>?_);have gt:=bL oL (i:=k+2) (by omega);obtain⟨t,htt⟩:∃t,t=L[k+2]! := ⟨_,rfl⟩;rw[←htt]at gt;have gt:0<=t/\t<18446744073709551616:=gt;obtain⟨b,hbb⟩:∃b:Int,b=if t<ca+bo then 1 else 0:=⟨_,rfl⟩
 obtain⟨d,hd⟩:∃d,d=(t-ca-bo)%18446744073709551616:=⟨_,rfl⟩;have q277:=fun h=>C.uh t ca bo h gt.1 gt.2 hca.1 hca.2 hbo.1 hbo.2
 rw[←hbb,←hd]at q277;have hb2:(b=0\/b=1)/\t-ca-bo=d-18446744073709551616*b/\0<=d/\d<18446744073709551616:=by
  rw[hbb];split <;> omega
 obtain⟨oR,vR⟩:=RS hL oL hv (by rw[←htt];exact hb2.2.1) hb2.2.2;obtain⟨R,hR⟩:∃R,R=L.set (k+2) d:=⟨_,rfl⟩;have lR:R.length=k+3:=by rw[hR,List.length_set];exact hL
 have tR:R[k+2]! = d:=by rw[hR];exact uf (by omega)
 rw[←hR]at oR vR;have hw2:∀z∈bu::wr,z=bu:=by simpa using hw
 rw[htt]at q277;rcases hb2.1 with rfl|rfl
 . rw[Int.mul_zero,Int.add_zero]at vR;have fin:=RT (X:=X) (V:=V) (by omega) oR q0 vR hge;rw[hR]at fin;exact gg8
 . rw[Int.mul_one]at vR;have back:=fun (L':List Int) (ca:Int) h1 h2 h3 h4 h5=>RU (X:=X) (V:=V) (R:=R) (L:=L') (q:=q) (ca:=ca) (d:=d) (n:=k+2) oV hV hX oR lR vR hX0 hle q0 h1 h2 h3 h4 h5
   rw[hR]at lR oR tR back;refine gg19 ?_;refine RR C hl hne hb lk lR oR hV oV _ _ _ _ _ _ _ _ _ _ _ _ _ _ _ _ _ hw2 (fun L' c2 aG lo wr hL' oL' ht' hc2 hw' hv'=>?_);rw[tR]at ht';obtain⟨q1,fin⟩:=back L' c2 hL' oL' ht' hv' hc2;rw[←ht']at fin;have hw3:∀z∈bu::wr,z=bu:=by simpa using hw'
   repeat' first|refine gd17 ?_|(apply abr (i:=k+2);rfl;rfl;exact hl;omega;omega)|(apply abA (a:=q);rfl;rfl;omega)|(apply abO;rfl;rfl)|refine gc ?_|fail
   all_goals try omega
   exact⟨.inr rfl,rfl,_,rfl,q-1,_,fin,rfl,hw3,rfl⟩
theorem RV {n:Nat}{v:AV}{s:al}(hh:s.s.hp.length=n):eB v n s=⟨v,s.s.hp,s.wr.filter (· < n)⟩:=by
 unfold eB;split
 . rw[List.take_of_length_le (by omega)]
 . rfl
theorem RW (C:zZ M)(hl:bu<hp.length)(hne:bu≠bv)(hb:hp.at bv=some (.cells (ak (V++Y)) e'))(lk:k<10000000)(hX:X.length=k+3)(oX:okW wB X)(hV:V.length=k+2)(oV:okW wB V)(hv:9223372036854775808<=V[k+1]!)(hT:WV wB X<wB*WV wB V) :
 ∃q R,nX X V q R/\∃wr,(∀z∈wr,z=bu)/\aU M 281 [.sl bu P.length (k+3) 1 cu,.sl bv 0 (k+2) 1 cv] (cC hp bu e P S X) ⟨.uV q,cC hp bu e P S R,wr⟩:=by
 have K:=hZ.of hX hV oX oV hv hT;have h1:=K.h1;have w1:=K.w1;have h2:=K.h2;have key:=tG.FG (M:=M) (f:=281) (ars:=[.sl bu P.length (k+3) 1 cu,.sl bv 0 (k+2) 1 cv]) (h:=cC hp bu e P S X) (K:=fun hr=>∃q R,nX X V q R/\∃wr,(∀z∈wr,z=bu)/\hr=⟨.uV q,cC hp bu e P S R,wr⟩) (by rw[C.ft];exact Rh) (by simp) (by
  refine W.mono (Q:=fun x s=>(x = .normal\/x = .ret)/\s.s.bA=[]/\∃vs,cU s.s [.var (.p 2)]=some vs/\∃q R,nX X V q R/\s.s.hp=cC hp bu e P S R/\(∀z∈s.wr,z=bu)/\aQ vs = .uV q) ?_ (fun x s ⟨g1,g2,vs,g3,q,R,g4,g5,g6,g7⟩=>⟨g1,s,by rw[g2];rfl,vs,g3,q,R,g4,s.wr.filter (· < (cC hp bu e P S X).length),fun z hz=>g6 z (List.mem_filter.1 hz).1,by rw[RV (by rw[g5,GH,GH]),g5,g7]⟩);unfold Gp;simp only[enter];by_cases h:V[k+1]! <= X[k+2]!
  . have I:=fY.RO K h;have q275:=fun h=>C.kL X[k+1]! V[k+1]! 0 h h1.1 (by omega) (by decide) (by decide)
    have e1:(X[k+1]! + V[k+1]! + 0)%18446744073709551616+18446744073709551616*((X[k+1]! + V[k+1]! + 0)/18446744073709551616)=X[k+1]! + V[k+1]! := by omega
    rw[←e1]at I;refine gg19 ?_;refine GJ C.tokN hl hne hb lk hX hV K _ _ _ _ _ _ _ _ _ _ _ _ _ _ (fun q rh ov a7 a8 lo g1 g2 g3=>?_) _ _ _ _ _ _ I (by omega) (by omega);exact gg17
  . have I:=fY.RP K (by omega);have q278:=fun h=>C.Aa X[k+2]! X[k+1]! V[k+1]! h (by omega) (by omega) h1
    have r0:=Int.emod_nonneg (X[k+2]! * 18446744073709551616+X[k+1]!) (show V[k+1]! ≠ 0 by omega);have r1:=Int.emod_lt_of_pos (X[k+2]! * 18446744073709551616+X[k+1]!) (show 0<V[k+1]! by omega);rw[←Int.add_zero ((X[k+2]! * 18446744073709551616+X[k+1]!)%V[k+1]!),←Int.mul_zero 18446744073709551616]at I;refine gg19 ?_;refine GJ C.tokN hl hne hb lk hX hV K _ _ _ _ _ _ _ _ _ _ _ _ _ _ (fun q rh ov a7 a8 lo g1 g2 g3=>?_) _ _ _ _ _ _ I ⟨r0,by omega⟩ (by decide);exact gg17
  )
 obtain⟨r,h1,q,R,h2,wr,h3,rfl⟩:=key;exact⟨q,R,h2,wr,h3,h1⟩
theorem acI {t n b:Nat}{k k':IntKind}{x y z:ax}{l:List aO}{pe:List AV}{lo:List (Nat×AV)}{hp:ab}{df wr:List Nat}{i j:Int}{Q:al->Prop}(i' r:Nat)(hx:(St.mk pe lo hp df).aa x=some (.sl b 0 n 1 (some n)))(hy:(St.mk pe lo hp df).aa y=some (.int k i))(hz:(St.mk pe lo hp df).aa z=some (.int k' j))
 (hi:i=i') (hj:j=i'+r) (hr:0<r) (hn:i'+r<=n)
 (h:WO M l ⟨⟨pe,(t,.sl b i' r 1 (some (n-i')))::lo,hp,df⟩,wr⟩ Q):WO M (⟨.l t,.slice .sl 1 x (some y) (some z) none,none⟩::l) ⟨⟨pe,lo,hp,df⟩,wr⟩ Q:=by
 subst hi;have ej:j=((i'+r:Nat):Int):=by omega
 subst ej;refine aac (v:=.sl b i' r 1 (some (n-i'))) ?_ rfl h;have h1:(0:Int)<=((i'+r:Nat):Int)/\((i'+r:Nat):Int)<=(n:Int):=by omega
 have h2:(0:Int)<=(i':Int)/\(i':Int)<=((i'+r:Nat):Int):=by omega
 simp only[aP,hx,St.cE,hy,hz,Option.map_some,gP,br,Option.isNone_none,Option.isSome_some,Bool.true_or,if_true,Option.getD_some,if_pos h1,Int.toNat_natCast,if_pos h2,Nat.mul_one,Nat.zero_add];rw[if_pos (by omega),show i'+r-i'=r by omega]
structure Ac (M:ao):Prop extends zZ M where
 qw:∀ars h,M.ext 280 ars h=none
 ur:∀ars h,M.ext 281 ars h=none
variable {j:Nat} {U:List Int}
theorem RX (C:Ac M)(hU:hp.at bu=some (.cells (ak U) e))(hne:bu≠bv)(hb:hp.at bv=some (.cells (ak (V++Y)) e'))(lk:k<10000000)(hj:j+(k+3)<=U.length)(oU:okW wB U)(hV:V.length=k+2)(oV:okW wB V)(hv:9223372036854775808<=V[k+1]!)(hup:WV wB (U.drop (j+1))<WV wB V) :
 ∃q U',(0<=q/\q<18446744073709551616)/\U'.length=U.length/\okW wB U'/\WV wB U'=WV wB U-wB^j*(q*WV wB V)/\WV wB (U'.drop j)<WV wB V/\∃wr,(∀z∈wr,z=bu)/\CT M (.fn (.func 281) [] []) [.sl bu j (k+3) 1 cu,.sl bv 0 (k+2) 1 cv] hp ⟨.uV q,hp.put bu (some (.cells (ak U') e)),wr⟩:=by
 obtain⟨P,hP⟩:∃P,P=U.take j:=⟨_,rfl⟩;obtain⟨X,hX⟩:∃X,X=(U.drop j).take (k+3):=⟨_,rfl⟩;obtain⟨S,hS⟩:∃S,S=U.drop (j+(k+3)):=⟨_,rfl⟩;have eU:U=P++X++S:=by
  rw[hP,hX,hS,List.append_assoc,←List.drop_drop,List.take_append_drop,List.take_append_drop]
 have lP:P.length=j:=by rw[hP,List.length_take];omega
 have lX:X.length=k+3:=by rw[hX,List.length_take,List.length_drop];omega
 have oX:okW wB X:=by rw[hX];exact cY (hC oU _) _
 have oS:okW wB S:=by rw[hS];exact hC oU _
 have oP:okW wB P:=by rw[hP];exact cY oU _
 have eD:U.drop j=X++S:=by rw[eU,←lP,List.append_assoc,List.drop_left]
 have hl:bu<hp.length:=dQ hU;have gj:=bL oU (i:=j) (by omega);have d1:=mj (b:=wB) (l:=U) (i:=j) (by omega);have lt:=cR (b:=wB) (by decide) oV;rw[hV]at lt;have hpow:(0:Int)<wB^(k+2):=Int.pow_pos (by decide);have hS0:WV wB S=0:=by
  have h1:WV wB (U.drop (j+1))=WV wB ((U.drop (j+1)).take (k+2))+wB^(k+2)*WV wB S:=by
   have:=jU (b:=wB) (l:=U.drop (j+1)) (i:=k+2) (by rw[List.length_drop];omega);rwa [List.drop_drop,show j+1+(k+2)=j+(k+3) by omega,←hS]at this
  have h2:=bT (b:=wB) (by decide) (cY (hC oU (j+1)) (k+2));have h3:=bT (b:=wB) (by decide) oS;rcases Int.lt_or_le 0 (WV wB S) with h|h
  . have:=Int.mul_le_mul_of_nonneg_left (show 1<=WV wB S by omega) (Int.le_of_lt hpow);omega
  . omega
 have hXD:WV wB X=WV wB (U.drop j):=by rw[eD,fh,hS0,Int.mul_zero,Int.add_zero]
 have hT:WV wB X<wB*WV wB V:=by
  rw[hXD,d1];have gj:0<=U[j]! /\ U[j]! < 18446744073709551616:=gj;show _+18446744073709551616*_<18446744073709551616*_;omega
 obtain⟨q,R,⟨hq,lR,oR,vR,tR⟩,wr,hw,hrun⟩:=RW (cu:=cu) (cv:=cv) (P:=P) (S:=S) (e:=e) C.tozZ hl hne hb lk lX oX hV oV hv hT;refine⟨q,P++R++S,hq,?_,iu (iu oP oR) oS,?_,?_,wr,hw,?_⟩
 . rw[eU];simp[lR]
 . rw[eU,List.append_assoc,fh,fh,List.append_assoc,fh,fh,vR,lR,lP,Int.mul_add,Int.mul_add,Int.mul_sub];omega
 . rw[←lP,List.append_assoc,List.drop_left,fh,hS0,Int.mul_zero,Int.add_zero];exact tR
 . rw[lP]at hrun;have e1:cC hp bu e P S X=hp:=by unfold cC;rw[←eU];exact yH hU
   rw[e1]at hrun;exact CT.run (fi:=[]) (ca:=[]) (C.ur _ _) hrun
variable {cap c1 c2:Option Nat}
def cG (x:AV)(l:List Int):Prop:=x = .vs (ak l) l.length none\/(x = .ae/\l=[])
def jg (v:AV)(hh:ab)(q r:List Int):Prop:=∃v1 x y,eh hh v v1/\v1.top=0/\bx v1 = .aq [x,y]/\cG x q/\cG y r
theorem kd (l:List Int):cB (ak l)=ak l:=yM (fun _=>rfl) l
theorem GK {b:Nat}{L:List Int}{e:TypeId}{hp:ab}{n:Nat}(hb:hp.at b=some (.cells (ak L) e))(hn:n<=L.length)(hh:ab)(he:(bl b (aL (L.take n)) cap).top≠0->hh=hp) :
 ∃v1,eh hh (bl b (aL (L.take n)) cap) v1/\v1.top=0/\bx v1 = .vs (ak (L.take (aL (L.take n)))) (L.take (aL (L.take n))).length none:=by
 have hle:=gK (l:=L.take n);rw[List.length_take]at hle;obtain⟨k,hk⟩:∃k,k=aL (L.take n):=⟨_,rfl⟩;rw[←hk]at hle he ⊢;by_cases h0:0<k
 . have e1:bl b k cap = .sl b 0 k 1 cap:=if_pos h0;rw[e1]at he ⊢;obtain rfl:=he (by simp[AV.top]);have hl:(L.take k).length=k:=by rw[List.length_take];omega
   have hF:eh hh (.sl b 0 k 1 cap) (.vs (ak (L.take k)) k none):=by
    refine .sl (m:=ak (L.take k)) hb ?_ rfl (fun i x y hx hy=>?_)
    . have:=jQ (f:=uC) (esz:=1) (fun _=>rfl) (l:=L) (i:=0) (n:=k) (by omega);simpa using this
    . rw[hx]at hy;cases hy;exact .same (bZ (gh _) hx)
   rw[hl];exact⟨_,hF,gh _,by rw[bx,kd]⟩
 . obtain rfl:k=0:=by omega
   exact⟨.vs [] 0 cap,.same rfl,rfl,rfl⟩
theorem jg.trim {d1 d2:Option Nat}{b1 b2:Nat}{L1 L2:List Int}{e1 e2:TypeId}{hp:ab}{n1 n2:Nat}(h1:hp.at b1=some (.cells (ak L1) e1))(hn1:n1<=L1.length)(h2:hp.at b2=some (.cells (ak L2) e2))(hn2:n2<=L2.length) :
 jg (aQ [bl b1 (aL (L1.take n1)) d1,bl b2 (aL (L2.take n2)) d2]) (if (aQ [bl b1 (aL (L1.take n1)) d1,bl b2 (aL (L2.take n2)) d2]).top<=0 then [] else hp) (L1.take (aL (L1.take n1))) (L2.take (aL (L2.take n2))):=by
 obtain⟨x,hx⟩:∃x,x=bl b1 (aL (L1.take n1)) d1:=⟨_,rfl⟩;obtain⟨y,hy⟩:∃y,y=bl b2 (aL (L2.take n2)) d2:=⟨_,rfl⟩;obtain⟨hh,hhh⟩:∃hh,hh=(if (aQ [x,y]).top<=0 then [] else hp):=⟨_,rfl⟩;have et:(aQ [x,y]).top=max x.top (max y.top 0):=rfl;obtain⟨v1,f1,t1,k1⟩:=GK (cap:=d1) h1 hn1 hh (fun h=>by rw[hhh,if_neg];rw[←hx]at h;omega);obtain⟨v2,f2,t2,k2⟩:=GK (cap:=d2) h2 hn2 hh (fun h=>by rw[hhh,if_neg];rw[←hy]at h;omega);rw[←hx,←hy,←hhh];rw[←hx]at f1;rw[←hy]at f2;refine⟨.aq [v1,v2],_,_,.aq rfl (fun i a b ha hb=>?_),?_,?_,.inl rfl,.inl rfl⟩
 . match i with
   | 0=>cases ha;cases hb;exact f1
   | 1=>cases ha;cases hb;exact f2
   | i+2=>cases ha
 . simp[AV.top,aY,t1,t2]
 . simp only[bx,cB,k1,k2]
theorem jg.less {hh:ab}{l:List Int}:jg (aQ [.ae,.vs (ak l) l.length cap]) hh [] l:=by
 have ht:(aQ [.ae,.vs (ak l) l.length cap]).top=0:=by simp[aQ,AV.top,aY,gh l]
 refine⟨aQ [.ae,.vs (ak l) l.length cap],.ae,.vs (ak l) l.length none,.same ht,ht,?_,.inr ⟨rfl,rfl⟩,.inl rfl⟩;simp only[aQ,bx,cB,kd l]
def qx (M:ao)(g:Nat)(ars:List AV)(x y:Int):Prop:=∃q r:List Int,(okW wB q/\aN q/\WV wB q=x/y)/\(okW wB r/\aN r/\WV wB r=x%y)/\∃v hh,jg v hh q r/\aU M g ars [] ⟨v,hh,[]⟩
theorem GL {f N:Nat}{az:List Nat}{res:List fc}{body:an}{ars:List AV}{x y:Int}(hft:M.FT f=some ⟨N,az,res,body⟩)(hN:ars.length<=N)
 (h:W M body ⟨⟨az.map (fun t=>(ars[t]?).getD bJ),[],[],[]⟩,[]⟩ fun e s=>(e = .normal\/e = .ret)/\s.s.bA=[]/\∃vs,cU s.s res=some vs/\∃q r:List Int,(okW wB q/\aN q/\WV wB q=x/y)/\(okW wB r/\aN r/\WV wB r=x%y)/\jg (aQ vs) (if (aQ vs).top<=0 then [] else s.s.hp) q r):qx M f ars x y:=by
 obtain⟨v,hh,⟨q,r,hq,hr,ho⟩,h2⟩:=gA (P:=fun v hh=>∃q r:List Int,(okW wB q/\aN q/\WV wB q=x/y)/\(okW wB r/\aN r/\WV wB r=x%y)/\jg v hh q r) hft hN h;exact⟨q,r,hq,hr,v,hh,ho,h2⟩
structure GM (M:ao):Prop extends Ac M where
 qy:∀(a b:List Int) c1 c2 h,okW wB a->okW wB b->aN a->aN b->a.length<1000000000->b.length<1000000000->M.ext 250 [.vs (ak a) a.length c1,.vs (ak b) b.length c2] h=some ⟨.iV (aW (WV wB a-WV wB b)),h,[]⟩
 uo:∀(y:Int) h,(0<=y/\y<18446744073709551616)->M.ext 279 [.uV y] h=some ⟨.iV (64-db y:Nat),h,[]⟩
theorem mu {x y q r:Int}(h:x=y*q+r)(h0:0<=r)(h1:r<y):q=x/y/\r=x%y:=by
 subst h;refine⟨?_,?_⟩
 . rw[Int.add_comm,Int.add_mul_ediv_left _ _ (by omega),Int.ediv_eq_zero_of_lt h0 h1,Int.zero_add]
 . rw[Int.add_comm,Int.add_mul_emod_self_left,Int.emod_eq_of_lt h0 h1]
theorem RY (C:zZ M)(a b:List Int)(oa:okW wB a)(ob:okW wB b)(la:a.length<10000000)(lb:b.length=1)(hb0:0<b[0]!){Q:Ex->al->Prop}(a2 a3 a7 a8 a9 aA aB aC aD aE aF:AV)(lo:List (Nat×AV))
 (hQ:∀L (re:Int) lo wr,L.length=a.length->okW wB L->(0<=re/\re<b[0]!)->WV wB a=b[0]! * WV wB L+re ->
   Q (.exit 0) ⟨⟨[.vs (ak a) a.length c1,.vs (ak b) b.length c2,a2,a3,.sl 0 0 a.length 1 (some a.length),.uV re,.iV (-1),a7,a8,a9,aA,aB,aC,aD,aE,aF],lo,[some (.cells (ak L) 246)],[]⟩,wr⟩) :
 W M (.loop tT) ⟨⟨[.vs (ak a) a.length c1,.vs (ak b) b.length c2,a2,a3,.sl 0 0 a.length 1 (some a.length),.uV 0,.iV ((a.length:Int)-1),a7,a8,a9,aA,aB,aC,aD,aE,aF],lo,[some (.cells (ak (List.replicate a.length 0)) 246)],[]⟩,[]⟩ Q:=by
 refine W.fH (fun t s=>∃L re iv lo wr,s=⟨⟨[.vs (ak a) a.length c1,.vs (ak b) b.length c2,a2,a3,.sl 0 0 a.length 1 (some a.length),.uV re,.iV iv,a7,a8,a9,aA,aB,aC,aD,aE,aF],lo,[some (.cells (ak L) 246)],[]⟩,wr⟩ /\
  iv=(t:Int)-1/\t<=a.length/\L.length=a.length/\okW wB L/\(0<=re/\re<b[0]!)/\(∀k,k<t->L[k]! = 0)/\WV wB a=b[0]! * WV wB L+wB^t*re+WV wB (a.take t)) (fun t s ⟨L,re,iv,lo,wr,hs,hiv,ht,hL,oL,hre,hz,hv⟩=>?_) (m:=a.length)
  ⟨_,_,_,_,_,rfl,rfl,Nat.le_refl _,by simp,jv (by decide),⟨by decide,hb0⟩,fun k _=>jz,by rw[jx,List.take_length];simp⟩
 subst hs;cases t with
 | zero=>
  obtain rfl:iv = -1:=by omega
  unfold tT;exact gg0
 | succ i=>
  obtain rfl:iv=(i:Int):=by omega
  have gx:=bL oa (i:=i) (by omega);obtain⟨x,hx⟩:∃x,x=a[((i:Int)).toNat]! := ⟨_,rfl⟩;rw[show a[i]! = x from hx.symm]at gx;have gx:0<=x/\x<18446744073709551616:=gx;have gy:=bL ob (i:=0) (by omega);obtain⟨y,hy⟩:∃y,y=b[(0:Int).toNat]! := ⟨_,rfl⟩;rw[show b[0]! = y from hy.symm]at gy hre hb0 hv hQ;have gy:0<=y/\y<18446744073709551616:=gy;have q278:=fun h=>C.Aa re x y h ⟨hb0,gy.2⟩ hre gx
  have e1:=Int.mul_ediv_add_emod (re*18446744073709551616+x) y;have r0:=Int.emod_nonneg (re*18446744073709551616+x) (show y≠0 by omega);have r1:=Int.emod_lt_of_pos (re*18446744073709551616+x) hb0;have d0:0<=(re*18446744073709551616+x)/y:=Int.ediv_nonneg (by omega) (by omega);have d1:(re*18446744073709551616+x)/y<18446744073709551616:=Int.ediv_lt_of_lt_mul (by omega) (by omega);obtain⟨d,hd⟩:∃d,d=(re*18446744073709551616+x)/y:=⟨_,rfl⟩;obtain⟨r,hr⟩:∃r,r=(re*18446744073709551616+x)%y:=⟨_,rfl⟩;rw[←hd,←hr]at q278 e1;rw[←hd]at d0 d1;rw[←hr]at r0 r1;have eI:0+((i:Int)).toNat*1=i:=by omega
  have next:∀lo wr,LI (fun s=>∃m',m'<i+1/\∃L re iv lo wr,s=⟨⟨[.vs (ak a) a.length c1,.vs (ak b) b.length c2,a2,a3,.sl 0 0 a.length 1 (some a.length),.uV re,.iV iv,a7,a8,a9,aA,aB,aC,aD,aE,aF],lo,[some (.cells (ak L) 246)],[]⟩,wr⟩ /\
   iv=(m':Int)-1/\m'<=a.length/\L.length=a.length/\okW wB L/\(0<=re/\re<b[0]!)/\(∀k,k<m'->L[k]! = 0)/\WV wB a=b[0]! * WV wB L+wB^m'*re+WV wB (a.take m')) Q .normal ⟨⟨[.vs (ak a) a.length c1,.vs (ak b) b.length c2,a2,a3,.sl 0 0 a.length 1 (some a.length),.uV r,.iV ((i:Int)-1),a7,a8,a9,aA,aB,aC,aD,aE,aF],lo,[some (.cells (ak (L.set i d)) 246)],[]⟩,wr⟩:=fun lo wr=>
   cL ⟨i,Nat.lt_succ_self i,_,_,_,lo,wr,rfl,rfl,by omega,by rw[List.length_set];exact hL,fx oL ⟨d0,d1⟩,⟨r0,by rw[show b[0]! = y from hy.symm];exact r1⟩,fun k hk=>by rw[fR (by omega)];exact hz k (by omega),by
    rw[show b[0]! = y from hy.symm,hv,fy (by omega),hz i (by omega),eu (by omega),show a[i]! = x from hx.symm,Int.pow_succ,Int.sub_zero];have e2:wB^i*wB*re+wB^i*x=wB^i*(y*d+r):=by rw[e1];show wB^i*18446744073709551616*re+_=_;grind
    rw[Int.mul_add]at e2 ⊢;have e3:y*(wB^i*d)=wB^i*(y*d):=by grind
    rw[e3];omega⟩
  rw[hx,hy]at q278;unfold tT;exact gg0
theorem aaV {t b m:Nat}{x:ax}{l:List aO}{pe:List AV}{lo:List (Nat×AV)}{hp:ab}{df wr:List Nat}{L:List Int}{e:TypeId}{v:Int}{Q:al->Prop}(hx:(St.mk pe lo hp df).aa x=some (.ptr b m))(hb:hp.at b=some (.cells (ak L) e))(hi:m<L.length)(hv:L[m]! = v)
 (h:WO M l ⟨⟨pe,(t,.uV v)::lo,hp,df⟩,wr⟩ Q):WO M (⟨.l t,.load 1 false x,none⟩::l) ⟨⟨pe,lo,hp,df⟩,wr⟩ Q:=by
 subst hv;exact aaW hx hb hi h
theorem RZ (C:Ac M){k N:Nat}{V Y U0:List Int}(lN:N<10000000)(hN:k+3<=N)(hV:V.length=k+2)(oV:okW wB V)(hv:9223372036854775808<=V[k+1]!)(hU0:U0.length=N)(oU0:okW wB U0)(hup:WV wB (U0.drop (N-(k+2)))<WV wB V){Q:Ex->al->Prop}(a0 a1 a2 a3 a4 a5 a6 a7 aD aE aF:AV)(lo:List (Nat×AV))(wr:List Nat)
 (hQ:∀U L lo wr,U.length=N->okW wB U->L.length=N-(k+2)->okW wB L->WV wB U0=WV wB V*WV wB L+WV wB U->WV wB U<WV wB V ->
   Q (.exit 2) ⟨⟨[a0,a1,a2,a3,a4,a5,a6,a7,.sl 0 0 (k+2) 1 cv,.sl 1 0 N 1 (some N),.iV ((k+2:Nat):Int),.sl 2 0 (N-(k+2)) 1 cap,.iV (-1),aD,aE,aF],lo,[some (.cells (ak (V++Y)) 246),some (.cells (ak U) 246),some (.cells (ak L) 246)],[]⟩,wr⟩)
 (j:Int) (hj:j=(N:Int)-(k+3)) :
 W M (.loop tW) ⟨⟨[a0,a1,a2,a3,a4,a5,a6,a7,.sl 0 0 (k+2) 1 cv,.sl 1 0 N 1 (some N),.iV ((k+2:Nat):Int),.sl 2 0 (N-(k+2)) 1 cap,.iV j,aD,aE,aF],lo,[some (.cells (ak (V++Y)) 246),some (.cells (ak U0) 246),some (.cells (ak (List.replicate (N-(k+2)) 0)) 246)],[]⟩,wr⟩ Q:=by
 refine W.fH (fun t s=>∃U L iv lo wr,s=⟨⟨[a0,a1,a2,a3,a4,a5,a6,a7,.sl 0 0 (k+2) 1 cv,.sl 1 0 N 1 (some N),.iV ((k+2:Nat):Int),.sl 2 0 (N-(k+2)) 1 cap,.iV iv,aD,aE,aF],lo,[some (.cells (ak (V++Y)) 246),some (.cells (ak U) 246),some (.cells (ak L) 246)],[]⟩,wr⟩ /\
  iv=(t:Int)-1/\t<=N-(k+2)/\U.length=N/\okW wB U/\L.length=N-(k+2)/\okW wB L/\(∀k,k<t->L[k]! = 0)/\WV wB U0=WV wB V*WV wB L+WV wB U/\WV wB (U.drop t)<WV wB V) (fun t s ⟨U,L,iv,lo,wr,hs,hiv,ht,hU,oU,hL,oL,hz,hv1,hv2⟩=>?_) (m:=N-(k+2))
  ⟨_,_,_,_,_,rfl,by omega,Nat.le_refl _,hU0,oU0,by simp,jv (by decide),fun k _=>jz,by rw[jx,Int.mul_zero,Int.zero_add],hup⟩
 subst hs;cases t with
 | zero=>
  obtain rfl:iv = -1:=by omega
  unfold tW;exact gg0
 | succ i=>
  obtain rfl:iv=(i:Int):=by omega
  obtain⟨q,U',hq,lU,oU',vU,tU,w,hw,hct⟩:=RX (cu:=some (N-i)) (cv:=cv) (bu:=1) (bv:=0) (e:=246) (e':=246) (hp:=[some (.cells (ak (V++Y)) 246),some (.cells (ak U) 246),some (.cells (ak L) 246)]) (U:=U) (V:=V) (Y:=Y) (j:=i) C rfl (by decide) rfl (show k<10000000 by omega) (by omega) oU hV oV hv hv2;have hct:CT M (.fn (.func 281) [] []) [.sl 1 i (k+3) 1 (some (N-i)),.sl 0 0 (k+2) 1 cv] [some (.cells (ak (V++Y)) 246),some (.cells (ak U) 246),some (.cells (ak L) 246)] ⟨.uV q,[some (.cells (ak (V++Y)) 246),some (.cells (ak U') 246),some (.cells (ak L) 246)],w⟩:=hct;have eI:0+((i:Int)).toNat*1=i:=by omega
  have next:∀lo wr,LI (fun s=>∃m',m'<i+1/\∃U L iv lo wr,s=⟨⟨[a0,a1,a2,a3,a4,a5,a6,a7,.sl 0 0 (k+2) 1 cv,.sl 1 0 N 1 (some N),.iV ((k+2:Nat):Int),.sl 2 0 (N-(k+2)) 1 cap,.iV iv,aD,aE,aF],lo,[some (.cells (ak (V++Y)) 246),some (.cells (ak U) 246),some (.cells (ak L) 246)],[]⟩,wr⟩ /\
   iv=(m':Int)-1/\m'<=N-(k+2)/\U.length=N/\okW wB U/\L.length=N-(k+2)/\okW wB L/\(∀k,k<m'->L[k]! = 0)/\WV wB U0=WV wB V*WV wB L+WV wB U/\WV wB (U.drop m')<WV wB V) Q .normal ⟨⟨[a0,a1,a2,a3,a4,a5,a6,a7,.sl 0 0 (k+2) 1 cv,.sl 1 0 N 1 (some N),.iV ((k+2:Nat):Int),.sl 2 0 (N-(k+2)) 1 cap,.iV ((i:Int)-1),aD,aE,aF],lo,[some (.cells (ak (V++Y)) 246),some (.cells (ak U') 246),some (.cells (ak (L.set i q)) 246)],[]⟩,wr⟩:=fun lo wr=>
   cL ⟨i,Nat.lt_succ_self i,_,_,_,lo,wr,rfl,rfl,by omega,by omega,oU',by rw[List.length_set];exact hL,fx oL hq,fun k hk=>by rw[fR (by omega)];exact hz k (by omega),by
    rw[fy (by omega),hz i (by omega),Int.sub_zero,vU,hv1,Int.mul_add];have e3:WV wB V*(wB^i*q)=wB^i*(q*WV wB V):=by rw[←Int.mul_assoc,Int.mul_comm (WV wB V),Int.mul_assoc,Int.mul_comm (WV wB V)]
    rw[e3];omega,tU⟩
  unfold tW;exact gg0
theorem Sa {x z:Int}{s:Nat}(hx:0<=x/\x<18446744073709551616)(hs:s<=63) :
 (0<=x/2^s/\x/2^s<2^(64-s))/\(0<=z*2^(64-s)%18446744073709551616/\z*2^(64-s)%18446744073709551616<18446744073709551616)/\z*2^(64-s)%18446744073709551616%2^(64-s)=0 /\
   (0<=x/2^s+z*2^(64-s)%18446744073709551616/\x/2^s+z*2^(64-s)%18446744073709551616<18446744073709551616) /\
   2^s*(x/2^s+z*2^(64-s)%18446744073709551616)=x-x%2^s+18446744073709551616*(z%2^s):=by
 have hp2:=Int.pow_pos (n:=2) (m:=s) (by decide);have hps:=um (s:=s) (by omega);have hp3:=Int.pow_pos (n:=2) (m:=64-s) (by decide);have e1:z*2^(64-s)%18446744073709551616=z%2^s*2^(64-s):=by
  rw[←hps,Int.mul_comm z,Int.mul_comm (2^s),Int.mul_emod_mul_of_pos _ _ hp3,Int.mul_comm]
 have h1:0<=x/2^s:=Int.ediv_nonneg hx.1 (by omega);have h2:x/2^s<2^(64-s):=Int.ediv_lt_of_lt_mul hp2 (by rw[Int.mul_comm,hps];exact hx.2);have h3:=Int.emod_nonneg z (show (2:Int)^s≠0 by omega);have h4:=Int.emod_lt_of_pos z hp2;have h5:=Int.mul_ediv_add_emod x (2^s);have h6:2^s*(z%2^s*2^(64-s))=18446744073709551616*(z%2^s):=by
  rw[Int.mul_comm (z%2^s),←Int.mul_assoc,hps]
 have h7:0<=z%2^s*2^(64-s):=Int.mul_nonneg h3 (by omega);have h8:(z%2^s+1)*2^(64-s)<=18446744073709551616:=by
  rw[←hps];exact Int.mul_le_mul_of_nonneg_right (by omega) (by omega)
 rw[Int.add_mul,Int.one_mul]at h8;have hm:0<=z*2^(64-s)%18446744073709551616/\z*2^(64-s)%18446744073709551616<18446744073709551616:=by omega
 refine⟨⟨h1,h2⟩,hm,by rw[e1];exact Int.mul_emod_left _ _,?_,?_⟩
 . rw[e1];omega
 . rw[e1,Int.mul_add,h6];omega
theorem Sb {k N s:Nat}{U:List Int}{B0 B2:Option bc}(hs:s<=63)(lN:N<10000000)(hN:k+3<=N)(hU:U.length=N)(oU:okW wB U){Q:Ex->al->Prop}(a0 a1 a2 a3 a4 a5 a6 a8 aB aC aD:AV)(lo:List (Nat×AV))(wr:List Nat)
 (hQ:∀D aD lo wr,D.length=N->okW wB D->(2:Int)^s*WV wB (D.take (k+2))=WV wB (U.take (k+2))-U[0]! % 2^s+wB^(k+2)*(U[k+2]! % 2^s) ->
   Q (.exit 4) ⟨⟨[a0,a1,a2,a3,a4,a5,a6,.iV s,a8,.sl 1 0 N 1 (some N),.iV ((k+2:Nat):Int),aB,aC,aD,.iV ((k+2:Nat):Int),.iV ((k+2:Nat):Int)],lo,[B0,some (.cells (ak D) 246),B2],[]⟩,wr⟩) :
 W M (.loop tX) ⟨⟨[a0,a1,a2,a3,a4,a5,a6,.iV s,a8,.sl 1 0 N 1 (some N),.iV ((k+2:Nat):Int),aB,aC,aD,.iV ((k+2:Nat):Int),.iV 0],lo,[B0,some (.cells (ak U) 246),B2],[]⟩,wr⟩ Q:=by
 refine W.gB (k+2) (fun i s'=>∃D aD lo wr,s'=⟨⟨[a0,a1,a2,a3,a4,a5,a6,.iV s,a8,.sl 1 0 N 1 (some N),.iV ((k+2:Nat):Int),aB,aC,aD,.iV ((k+2:Nat):Int),.iV i],lo,[B0,some (.cells (ak D) 246),B2],[]⟩,wr⟩ /\
  D.length=N/\okW wB D/\(∀k,i<=k->D[k]! = U[k]!)/\(2:Int)^s*WV wB (D.take i)=WV wB (U.take i)-U[0]! % 2^s+wB^i*(U[i]! % 2^s)) (fun i s' hi ⟨D,aD,lo,wr,hs',hD,oD,hk,hv⟩=>?_) (fun s' ⟨D,aD,lo,wr,hs',hD,oD,hk,hv⟩=>?_) (Nat.zero_le _)
  ⟨_,_,_,_,rfl,hU,oU,fun k _=>rfl,by simp[WV];omega⟩
 . subst hs';have gx:=bL oU (i:=i) (by omega);obtain⟨x,hx⟩:∃x,x=U[i]! := ⟨_,rfl⟩;rw[←hx]at gx;have gx:0<=x/\x<18446744073709551616:=gx;have gz:=bL oU (i:=i+1) (by omega);obtain⟨z,hz⟩:∃z,z=U[i+1]! := ⟨_,rfl⟩;rw[←hz]at gz;have gz:0<=z/\z<18446744073709551616:=gz;obtain⟨w1,w2,w3,w4,w5⟩:=Sa (z:=z) gx hs;have f0:D[i]! = x:=by rw[hk i (Nat.le_refl _),hx]
   have f1:(D.set i (x/2^s))[i]! = x/2^s:=uf (by omega);have f2:(D.set i (x/2^s))[i+1]! = z:=by rw[fR (by omega),hk (i+1) (by omega),hz]
   have eI:0+((i:Int)).toNat*1=i:=by omega
   have eJ:0+((i:Int)+1).toNat*1=i+1:=by omega
   have fin:∀D' d,D'=D.set i d->d=x/2^s+z*2^(64-s)%18446744073709551616->D'.length=N/\okW wB D'/\(∀k,i+1<=k->D'[k]! = U[k]!)/\(2:Int)^s*WV wB (D'.take (i+1))=WV wB (U.take (i+1))-U[0]! % 2^s+wB^(i+1)*(U[i+1]! % 2^s):=fun D' d e ed=>by
    subst e;refine⟨by rw[List.length_set];exact hD,fx oD (by rw[ed];exact w4),fun k hk'=>by rw[fR (by omega)];exact hk k (by omega),?_⟩;rw[eu (by rw[List.length_set];omega),uf (by omega),List.take_set_of_le (Nat.le_refl i),Int.mul_add,hv,eu (by omega),←hx,←hz,Int.pow_succ];have e1:(2:Int)^s*(wB^i*d)=wB^i*(x-x%2^s+18446744073709551616*(z%2^s)):=by rw[←w5,←ed,←Int.mul_assoc,Int.mul_comm (2^s),Int.mul_assoc]
    rw[e1,Int.mul_add,Int.mul_sub,←Int.mul_assoc (wB^i) 18446744073709551616];show _=_+wB^i*18446744073709551616*_;omega
   unfold tX;by_cases h0:(0:Int)<s
   . refine gg16 ?_;obtain⟨f1,f2,f3,f4⟩:=fin _ _ (List.set_set _) rfl;exact cL ⟨_,_,_,_,rfl,f1,f2,f3,f4⟩
   . have e0:x/2^s=x/2^s+z*2^(64-s)%18446744073709551616:=by
      have:s=0:=by omega
      subst this;have:z*2^(64-0)%18446744073709551616=0:=by
       show z*18446744073709551616%18446744073709551616=0;omega
      omega
     refine gg16 ?_;obtain⟨f1,f2,f3,f4⟩:=fin _ _ rfl e0;exact cL ⟨_,_,_,_,rfl,f1,f2,f3,f4⟩
 . subst hs';unfold tX;exact gg1
theorem acg {t n b r:Nat}{k:IntKind}{x y:ax}{l:List aO}{pe:List AV}{lo:List (Nat×AV)}{hp:ab}{df wr:List Nat}{Q:al->Prop}(hx:(St.mk pe lo hp df).aa x=some (.sl b 0 n 1 cap))(hy:(St.mk pe lo hp df).aa y=some (.int k r))(h0:0<r)(hr:r<=n)(hc:∀c,cap=some c->n<=c)
 (h:WO M l ⟨⟨pe,(t,.sl b 0 r 1 cap)::lo,hp,df⟩,wr⟩ Q):WO M (⟨.l t,.slice .sl 1 x none (some y) none,none⟩::l) ⟨⟨pe,lo,hp,df⟩,wr⟩ Q:=
 abE hx hy hr hc (by rw[show bl b r cap = .sl b 0 r 1 cap from if_pos h0];exact h)
theorem uu {L:List Int}{n:Nat}:L.take (aL (L.take n))=(L.take n).take (aL (L.take n)):=by
 have:=gK (l:=L.take n);rw[List.length_take]at this;rw[List.take_take,Nat.min_eq_left (by omega)]
theorem Sc {b rb:List Int}{k s:Nat}(hb:b.length=k+2)(ob:okW wB b)(nb:aN b)(hs:s=64-db b[k+1]!)(lr:rb.length=k+3)(oR:okW wB rb)(vr:WV wB rb=WV wB b*2^s) :
 s<=63/\aL (rb.take (k+3))=k+2/\∃V Y,rb=V++Y/\V.length=k+2/\okW wB V/\WV wB V=WV wB b*2^s/\9223372036854775808<=V[k+1]! := by
 have t0:=mn nb (by omega);rw[hb,show k+2-1=k+1 by omega]at t0;have gt:=bL ob (i:=k+1) (by omega);have gt:0<=b[k+1]! /\ b[k+1]! < 18446744073709551616:=gt;obtain⟨s1,s2,s3⟩:=uj (x:=b[k+1]!) (by omega);have s4:=zX (x:=b[k+1]!) (n:=64) (by have:=gt.2;exact this) gt.1;have hs63:s<=63:=by omega
 have e0:=iT (b:=wB) (l:=b) (n:=k+1) (by omega);obtain⟨t,ht⟩:∃t,t=b[k+1]! := ⟨_,rfl⟩;rw[←ht]at t0 gt s1 s2 s3 s4 e0 hs;obtain⟨n,hn⟩:∃n,db t=n+1:=⟨db t-1,by omega⟩;rw[hn]at s2 s3 hs;rw[show n+1-1=n by omega]at s2;have p1:(2:Int)^n*2^s=9223372036854775808:=by rw[←Int.pow_add,show n+s=63 by omega];decide
 have p2:(2:Int)^(n+1)*2^s=18446744073709551616:=by rw[←Int.pow_add,show n+1+s=64 by omega];decide
 have hp2:=Int.pow_pos (n:=2) (m:=s) (by decide);have m1:=Int.mul_le_mul_of_nonneg_right s2 (Int.le_of_lt hp2);have m2:=Int.mul_le_mul_of_nonneg_right (show t+1<=2^(n+1) by omega) (Int.le_of_lt hp2);rw[p1]at m1;rw[p2,Int.add_mul,Int.one_mul]at m2;have hP:0<wB^(k+1):=Int.pow_pos (by decide);have l0:=bT (b:=wB) (by decide) (cY ob (k+1));have l1:=cR (b:=wB) (by decide) (cY ob (k+1));rw[List.length_take,Nat.min_eq_left (by omega)]at l1;have m3:wB^(k+1)*9223372036854775808<=WV wB rb:=by
  have h1:=Int.mul_le_mul_of_nonneg_left m1 (Int.le_of_lt hP);have h2:=Int.mul_nonneg l0 (Int.le_of_lt hp2);rw[vr,e0,Int.add_mul,Int.mul_assoc];omega
 have m4:WV wB rb<wB^(k+1)*18446744073709551616:=by
  have h1:=Int.mul_le_mul_of_nonneg_left m2 (Int.le_of_lt hP);have h2:=Int.mul_lt_mul_of_pos_right l1 hp2;rw[Int.mul_add]at h1;rw[vr,e0,Int.add_mul,Int.mul_assoc];omega
 have e1:=iT (b:=wB) (l:=rb) (n:=k+2) (by omega);have e2:WV wB (rb.take (k+2))=WV wB (rb.take (k+1))+wB^(k+1)*rb[k+1]! := eu (by omega);have g2:=bL oR (i:=k+2) (by omega);have g1:=bL oR (i:=k+1) (by omega);have n2:=bT (b:=wB) (by decide) (cY oR (k+2));have n1:=cR (b:=wB) (by decide) (cY oR (k+1));rw[List.length_take,Nat.min_eq_left (by omega)]at n1;have hPs:wB^(k+2)=wB^(k+1)*18446744073709551616:=Int.pow_succ _ _;have z2:rb[k+2]! = 0:=by
  rcases Int.lt_or_le 0 rb[k+2]! with h|h
  . have:=Int.mul_le_mul_of_nonneg_left (show 1<=rb[k+2]! by omega) (show 0<=wB^(k+2) by rw[hPs];omega);rw[hPs]at this e1;omega
  . have:=g2.1;omega
 rw[z2,Int.mul_zero,Int.add_zero]at e1;have z1:9223372036854775808<=rb[k+1]! := by
  have:wB^(k+1)*9223372036854775808<wB^(k+1)*(rb[k+1]! + 1):=by rw[Int.mul_add,Int.mul_one];omega
  have:=Int.lt_of_mul_lt_mul_left this (Int.le_of_lt hP);omega
 refine⟨hs63,?_,rb.take (k+2),rb.drop (k+2),(List.take_append_drop _ _).symm,by rw[List.length_take];omega,cY oR _,by rw[←e1,vr],?_⟩
 . rw[ml (by omega),if_pos z2,ml (by omega),if_neg (by omega)]
 . have:(rb.take (k+2))[k+1]! = rb[k+1]! := by
    simp only[List.getElem!_eq_getElem?_getD];rw[List.getElem?_take_of_lt (by omega)]
   rw[this];exact z1
theorem Se {a b U:List Int}{k s:Nat}(ha:k+2<=a.length)(oa:okW wB a)(hb:b.length=k+2)(ob:okW wB b)(nb:aN b)(hU:U.length=a.length+1)(oU:okW wB U)(vU:WV wB U=WV wB a*2^s) :
 WV wB (U.drop (a.length+1-(k+2)))<WV wB b*2^s:=by
 have hp2:=Int.pow_pos (n:=2) (m:=s) (by decide);have e1:=jU (b:=wB) (l:=U) (i:=a.length+1-(k+2)) (by omega);have l0:=bT (b:=wB) (by decide) (cY oU (a.length+1-(k+2)));have l1:=cR (b:=wB) (by decide) oa;have hg:=nT (b:=wB) (by decide) ob nb (by omega);rw[hb,show k+2-1=k+1 by omega]at hg;have hP:0<wB^(a.length+1-(k+2)):=Int.pow_pos (by decide);have ep:wB^a.length=wB^(a.length+1-(k+2))*wB^(k+1):=by rw[←Int.pow_add,show a.length+1-(k+2)+(k+1)=a.length by omega]
 have m1:=Int.mul_lt_mul_of_pos_right l1 hp2;have m2:=Int.mul_le_mul_of_nonneg_right hg (Int.le_of_lt hp2);rw[ep,Int.mul_assoc]at m1;have:wB^(a.length+1-(k+2))*WV wB (U.drop (a.length+1-(k+2)))<wB^(a.length+1-(k+2))*(wB^(k+1)*2^s):=by omega
 have:=Int.lt_of_mul_lt_mul_left this (Int.le_of_lt hP);omega
theorem Sf {U D:List Int}{k s:Nat}{r:Int}(hU:k+3<=U.length)(oU:okW wB U)(hlt:WV wB U<wB^(k+2))(hr:WV wB U=(2:Int)^s*r)(hs:s<=63)
 (h:(2:Int)^s*WV wB (D.take (k+2))=WV wB (U.take (k+2))-U[0]! % 2^s+wB^(k+2)*(U[k+2]! % 2^s)):WV wB (D.take (k+2))=r:=by
 have hp2:=Int.pow_pos (n:=2) (m:=s) (by decide);have hps:=um (s:=s) (by omega);have e1:=jU (b:=wB) (l:=U) (i:=k+2) (by omega);have l0:=bT (b:=wB) (by decide) (cY oU (k+2));have l1:=bT (b:=wB) (by decide) (hC oU (k+2));have hP:0<wB^(k+2):=Int.pow_pos (by decide);have z:WV wB (U.drop (k+2))=0:=by
  rcases Int.lt_or_le 0 (WV wB (U.drop (k+2))) with h|h
  . have:=Int.mul_le_mul_of_nonneg_left (show 1<=WV wB (U.drop (k+2)) by omega) (Int.le_of_lt hP);omega
  . omega
 rw[z,Int.mul_zero,Int.add_zero]at e1;have z2:U[k+2]! = 0:=by
  have d:=mj (b:=wB) (l:=U) (i:=k+2) (by omega);have g:=bL oU (i:=k+2) (by omega);have l2:=bT (b:=wB) (by decide) (hC oU (k+2+1));have g:=g.1;rw[z]at d;have d:0=U[k+2]! + 18446744073709551616*WV wB (U.drop (k+2+1)):=d;omega
 have z0:U[0]! % 2^s=0:=by
  have d:=mj (b:=wB) (l:=U) (i:=0) (by omega);rw[List.drop_zero,hr]at d;refine Int.emod_eq_zero_of_dvd ⟨r-2^(64-s)*WV wB (U.drop (0+1)),?_⟩;rw[Int.mul_sub,←Int.mul_assoc,hps];have d:(2:Int)^s*r=U[0]! + 18446744073709551616*WV wB (U.drop (0+1)):=d;omega
 rw[z0,z2,Int.zero_emod,Int.mul_zero,Int.add_zero,Int.sub_zero,←e1,hr]at h;exact Int.eq_of_mul_eq_mul_left (by omega) h
theorem GN {x y q u p:Int}(hp:0<p)(h:x*p=y*p*q+u)(h0:0<=u)(h1:u<y*p):q=x/y/\u=p*(x%y):=by
 have e:u=p*(x-y*q):=by
  rw[Int.mul_sub,←Int.mul_assoc,Int.mul_comm p x,Int.mul_comm p y];omega
 have r0:0<=x-y*q:=by
  rcases Int.lt_or_le (x-y*q) 0 with h'|h'
  . have:=Int.mul_lt_mul_of_pos_left h' hp;rw[Int.mul_zero]at this;omega
  . exact h'
 have r1:x-y*q<y:=by
  have h2:p*(x-y*q)<p*y:=by rw[←e,Int.mul_comm p y];exact h1
  exact Int.lt_of_mul_lt_mul_left h2 (Int.le_of_lt hp)
 obtain⟨g1,g2⟩:=mu (x:=x) (y:=y) (q:=q) (r:=x-y*q) (by omega) r0 r1;exact⟨g1,by rw[e,g2]⟩
theorem Sg (C:GM M)(a b:List Int)(oa:okW wB a)(ob:okW wB b)(na:aN a)(nb:aN b)(la:a.length<1000000)(lb:b.length<1000000)(hb:b≠[]):qx M 253 [.vs (ak a) a.length c1,.vs (ak b) b.length c2] (WV wB a) (WV wB b):=by
 have a0:=bT (b:=wB) (by decide) oa;have b0:=(iS (b:=wB) (by decide) ob nb).2 hb;have q250:=fun h=>C.qy a b c1 c2 h oa ob na nb (by omega) (by omega)
 refine GL (by rw[C.ft];exact Gn) (by simp) ?_;unfold zN;simp only[enter];by_cases hlt:WV wB a<WV wB b
 . have e:aW (WV wB a-WV wB b) = -1:=if_pos (by omega);rw[e]at q250;exact gg14
 have hg:∃g,g=aW (WV wB a-WV wB b):=⟨_,rfl⟩;obtain⟨g,hg⟩:=hg;have g0:0<=g:=by
  rw[hg];unfold aW;split
  . omega
  . split <;> omega
 rw[←hg]at q250;have lb0:b.length≠0:=fun h=>hb (List.eq_nil_of_length_eq_zero h)
 by_cases hl1:b.length=1
 . have t0:=mn nb (by omega);rw[hl1,show 1-1=0 by omega]at t0;have gb:=bL ob (i:=0) (by omega);have vb:WV wB b=b[0]! := by
    have:=iT (b:=wB) (l:=b) (n:=0) (by omega);simpa[WV] using this
   refine gg12 ?_;refine RY (c1:=c1) (c2:=c2) C.tozZ a b oa ob (by omega) hl1 (by omega) _ _ _ _ _ _ _ _ _ _ _ _ (fun L re lo wr hL oL hre hv=>?_);have q1:CT M (.fn (.func 276) [] []) [.sl 0 0 a.length 1 (some a.length)] [some (.cells (ak L) 246)] ⟨bl 0 (aL (L.take a.length)) (some a.length),[some (.cells (ak L) 246)],[]⟩:=C.jV (cap:=some a.length) rfl (by omega) (by omega) (fun c hc=>by cases hc;exact Nat.le_refl _);have q2:CT M (.fn (.func 276) [] []) [.sl 1 0 1 1 (some 1)] [some (.cells (ak L) 246),some (.cells (ak [re]) 246)] ⟨bl 1 (aL ([re].take 1)) (some 1),[some (.cells (ak L) 246),some (.cells (ak [re]) 246)],[]⟩:=C.jV (cap:=some 1) rfl (by simp) (by omega) (fun c hc=>by cases hc;exact Nat.le_refl _);repeat' first|(apply aaC;rfl;rfl;first|exact q1|exact q2)|refine gc ?_|fail
   have hout:=jg.trim (d1:=some a.length) (d2:=some 1) (b1:=0) (b2:=1) (L1:=L) (L2:=[re]) (e1:=246) (e2:=246) (hp:=[some (.cells (ak L) 246),some (.cells (ak [re]) 246)]) (n1:=a.length) (n2:=1) rfl (by omega) rfl (by simp);have vb':WV wB a=WV wB b*WV wB L+re:=by rw[vb];exact hv
   obtain⟨d1,d2⟩:=mu vb' hre.1 (by rw[vb];exact hre.2);refine⟨.inr rfl,rfl,_,rfl,_,_,?_,?_,hout⟩
   . rw[uu,List.take_of_length_le (show L.length<=a.length by omega)];obtain⟨h1,h2,h3⟩:=kM oL;exact⟨h1,h2,by rw[h3,d1]⟩
   . rw[uu,List.take_of_length_le (show [re].length<=1 by simp)];have gy:b[0]! < 18446744073709551616:=gb.2;obtain⟨h1,h2,h3⟩:=kM (L:=[re]) (fun x hx=>by rw[List.mem_singleton.1 hx];exact⟨hre.1,by show _<(18446744073709551616:Int);omega⟩);exact⟨h1,h2,by rw[h3,←d2];simp[WV]⟩
 obtain⟨k,hk⟩:∃k,b.length=k+2:=⟨b.length-2,by omega⟩;have ha:k+2<=a.length:=by
  rcases Nat.lt_or_ge a.length (k+2) with h|h
  . exact absurd (mq (b:=wB) (by decide) oa ob nb (by omega)) hlt
  . exact h
 obtain⟨s,hs⟩:∃s,s=64-db b[((b.length:Int)-1).toNat]! := ⟨_,rfl⟩;have gt:=bL ob (i:=((b.length:Int)-1).toNat) (by omega);have q279:=fun h=>C.uo b[((b.length:Int)-1).toNat]! h gt
 rw[←hs]at q279;rw[show ((b.length:Int)-1).toNat=k+1 by omega]at hs;have s63:s<=63:=by
  have t0:=mn nb (by omega);rw[show b.length-1=k+1 by omega]at t0;have gt:=bL ob (i:=k+1) (by omega);have:=(uj (x:=b[k+1]!) (by omega)).1;omega
 obtain⟨rb,⟨lrb,orb,vrb⟩,h280b⟩:=GG (c1:=c2) C.ft b ob (by omega) s s63 [];obtain⟨_,htop,V,Y,eV,lV,oV,vV,tV⟩:=Sc hk ob nb hs (by omega) orb vrb;obtain⟨U0,⟨lU0,oU0,vU0⟩,h280a⟩:=GG (c1:=c1) C.ft a oa (by omega) s s63 [some (.cells (ak (V++Y)) 246)];have q280b:CT M (.fn (.func 280) [] []) [.vs (ak b) b.length c2,.iV s] [] ⟨.sl 0 0 (b.length+1) 1 (some (b.length+1)),[some (.cells (ak (V++Y)) 246)],[]⟩:=by
  rw[←eV];exact CT.run (fi:=[]) (ca:=[]) (C.qw _ _) h280b
 have q276b:CT M (.fn (.func 276) [] []) [.sl 0 0 (b.length+1) 1 (some (b.length+1))] [some (.cells (ak (V++Y)) 246)] ⟨.sl 0 0 (k+2) 1 (some (b.length+1)),[some (.cells (ak (V++Y)) 246)],[]⟩:=by
  have:=C.jV (cap:=some (b.length+1)) (b:=0) (n:=b.length+1) (L:=V++Y) (e:=246) (hp:=[some (.cells (ak (V++Y)) 246)]) rfl (by rw[←eV];omega) (by omega) (fun c hc=>by cases hc;exact Nat.le_refl _);rw[←eV,show b.length+1=k+3 by omega,htop,←show b.length+1=k+3 by omega,eV]at this;exact this
 have q280a:CT M (.fn (.func 280) [] []) [.vs (ak a) a.length c1,.iV s] [some (.cells (ak (V++Y)) 246)] ⟨.sl 1 0 (a.length+1) 1 (some (a.length+1)),[some (.cells (ak (V++Y)) 246),some (.cells (ak U0) 246)],[]⟩:=CT.run (fi:=[]) (ca:=[]) (C.qw _ _) h280a;refine gg18 ?_;rw[show ((a.length:Int)-((k+2:Nat):Int)+1).toNat=a.length+1-(k+2) by omega];have hup:=Se ha oa hk ob nb lU0 oU0 vU0;rw[←vV]at hup;refine RZ (cv:=some (b.length+1)) (cap:=some (a.length+1-(k+2))) C.toAc (k:=k) (N:=a.length+1) (V:=V) (Y:=Y) (U0:=U0) (by omega) (by omega) lV oV tV lU0 oU0 hup _ _ _ _ _ _ _ _ _ _ _ _ _ (fun U L lo wr lU oU lL oL hv hlU=>?_) _ (by omega);repeat' first|refine gc ?_|fail
 refine Sb (k:=k) (N:=a.length+1) (s:=s) s63 (by omega) (by omega) lU oU _ _ _ _ _ _ _ _ _ _ _ _ _ (fun D aD lo wr lD oD hD=>?_);have q1:CT M (.fn (.func 276) [] []) [.sl 2 0 (a.length+1-(k+2)) 1 (some (a.length+1-(k+2)))] [some (.cells (ak (V++Y)) 246),some (.cells (ak D) 246),some (.cells (ak L) 246)] ⟨bl 2 (aL (L.take (a.length+1-(k+2)))) (some (a.length+1-(k+2))),[some (.cells (ak (V++Y)) 246),some (.cells (ak D) 246),some (.cells (ak L) 246)],[]⟩:=C.jV (cap:=some (a.length+1-(k+2))) rfl (by omega) (by omega) (fun c hc=>by cases hc;exact Nat.le_refl _);have q2:CT M (.fn (.func 276) [] []) [.sl 1 0 (k+2) 1 (some (a.length+1))] [some (.cells (ak (V++Y)) 246),some (.cells (ak D) 246),some (.cells (ak L) 246)] ⟨bl 1 (aL (D.take (k+2))) (some (a.length+1)),[some (.cells (ak (V++Y)) 246),some (.cells (ak D) 246),some (.cells (ak L) 246)],[]⟩:=C.jV (cap:=some (a.length+1)) rfl (by omega) (by omega) (fun c hc=>by cases hc;omega);refine gg13 ?_;have hout:=jg.trim (d1:=some (a.length+1-(k+2))) (d2:=some (a.length+1)) (b1:=2) (b2:=1) (L1:=L) (L2:=D) (e1:=246) (e2:=246) (hp:=[some (.cells (ak (V++Y)) 246),some (.cells (ak D) 246),some (.cells (ak L) 246)]) (n1:=a.length+1-(k+2)) (n2:=k+2) rfl (by omega) rfl (by omega);have hp2:=Int.pow_pos (n:=2) (m:=s) (by decide);rw[vU0,vV]at hv;rw[vV]at hlU;obtain⟨d1,d2⟩:=GN hp2 hv (bT (by decide) oU) hlU;have lt:=cR (b:=wB) (by decide) oV;rw[lV,vV]at lt;have hr:=Sf (by omega) oU (by omega) d2 s63 hD;refine⟨.inr rfl,rfl,_,rfl,_,_,?_,?_,hout⟩
 . rw[uu,List.take_of_length_le (show L.length<=a.length+1-(k+2) by omega)];obtain⟨h1,h2,h3⟩:=kM oL;exact⟨h1,h2,by rw[h3,d1]⟩
 . rw[uu];obtain⟨h1,h2,h3⟩:=kM (cY oD (k+2));exact⟨h1,h2,by rw[h3,hr]⟩
theorem Sh (hft:M.FT=FT)(b:List Int)(_ob:okW wB b)(_nb:aN b)(_hb:b≠[])(q250:∀h,M.ext 250 [.ae,.vs (ak b) b.length c2] h=some ⟨.iV (-1),h,[]⟩):qx M 253 [.ae,.vs (ak b) b.length c2] 0 (WV wB b):=by
 refine GL (by rw[hft];exact Gn) (by simp) ?_;unfold zN;simp only[enter];refine gg12 ?_;refine⟨.inr rfl,rfl,_,rfl,[],[],⟨gH,iK,by simp[WV]⟩,⟨gH,iK,by simp[WV]⟩,aQ [.ae,.ae],.ae,.ae,.same rfl,rfl,rfl,.inr ⟨rfl,rfl⟩,.inr ⟨rfl,rfl⟩⟩
theorem Ad {h:ab}(l:List Int):qi h (ak l):=tH (fun _=>.cons (.atom rfl) .nil) l
theorem cG.fJ {h:ab}{x:AV}{l:List Int}(hx:cG x l):cX h x (.vs (ak l) l.length none):=by
 rcases hx with rfl|⟨rfl,rfl⟩
 . exact cX.lZ (Ad l)
 . exact .nil
def ah (x:Int):Int:=if x<0 then -x else x
inductive ay:AV->Int->Prop
 | small {s:Int} (h : -9223372036854775808<=s/\s<9223372036854775808):ay (.agg [.int .i64 s,.ae]) s
 | eW {σ z:Int} {w:List Int} (hs:σ=1\/σ = -1) (ok:okW wB w) (nr:aN w) (hw:9223372036854775808<=WV wB w) (hz:z=σ*WV wB w):ay (.agg [.int .i64 σ,.vs (ak w) w.length none]) z
def eZ (v:AV)(hh:ab)(v0:AV):Prop:=∃v1,eh hh v v1/\v1.top=0/\bx v1=v0
def cH (M:ao)(g:Nat)(ars:List AV)(v0:AV):Prop:=∃v hh,eZ v hh v0/\aU M g ars [] ⟨v,hh,[]⟩
theorem iU {f N:Nat}{az:List Nat}{res:List fc}{body:an}{ars:List AV}{v0:AV}(hft:M.FT f=some ⟨N,az,res,body⟩)(hN:ars.length<=N)
 (h:W M body ⟨⟨az.map (fun t=>(ars[t]?).getD bJ),[],[],[]⟩,[]⟩ fun e s=>(e = .normal\/e = .ret)/\s.s.bA=[]/\∃vs,cU s.s res=some vs/\eZ (aQ vs) (if (aQ vs).top<=0 then [] else s.s.hp) v0):cH M f ars v0:=by
 obtain⟨v,hh,ho,h2⟩:=gA (P:=fun v hh=>eZ v hh v0) hft hN h;exact⟨v,hh,ho,h2⟩
theorem eZ.same {v v0:AV}{hh:ab}(ht:v.top=0)(hc:bx v=v0):eZ v hh v0:=⟨v,.same ht,ht,hc⟩
theorem Si (hft:M.FT=FT)(s:Int)(hs : -9223372036854775808<=s/\s<9223372036854775808):aU M 245 [.iV s] [] ⟨.uV (ah s),[],[]⟩:=by
 refine bO (by rw[hft];exact Rk) (by simp) ?_;unfold Gs;simp only[enter];by_cases h:s<0
 . have e:ah s = -s:=if_pos h;rw[e];by_cases h2:s = -9223372036854775808
   . subst h2;exact gg1
   . exact gg1
 . have e:ah s=s:=if_neg h;rw[e];exact gg1
theorem GO {x:Int}{b:Nat}{e:TypeId}{hh:ab}{c:Option Nat}(hb:hh.at b=some (.cells (ak [x]) e)):eh hh (.sl b 0 1 1 c) (.vs (ak [x]) 1 none):=
 .sl (m:=ak [x]) hb rfl rfl fun i y z hy hz=>by
  rw[hy]at hz;cases hz;exact .same (bZ (gh _) hy)
theorem Sj (hft:M.FT=FT)(qz:∀s h,(-9223372036854775808<=s/\s<9223372036854775808)->M.ext 245 [.iV s] h=some ⟨.uV (ah s),h,[]⟩){v:AV}{z:Int}(hv:ay v z) :
 ∃x l,cG x l/\okW wB l/\aN l/\WV wB l=ah z/\cH M 246 [v] (.aq [.bool (decide (z<0)),x]):=by
 cases hv with
 | small h=>
  by_cases h0:z=0
  . subst h0;refine⟨.ae,[],.inr ⟨rfl,rfl⟩,gH,iK,rfl,?_⟩;refine iU (by rw[hft];exact zQ) (by simp) ?_;unfold ua;simp only[enter];exact gg6
  . have gz:0<ah z/\ah z<18446744073709551616:=by unfold ah;split <;> omega
    have ok:okW wB [ah z]:=fun x hx=>by rw[List.mem_singleton.1 hx];exact⟨by omega,gz.2⟩
    refine⟨.vs (ak [ah z]) 1 none,[ah z],.inl rfl,ok,(zV (by simp)).2 (by show ah z≠0;omega),by simp[WV],?_⟩;refine iU (by rw[hft];exact zQ) (by simp) ?_;have q245:=fun h'=>qz z h' h
    unfold ua;simp only[enter];by_cases hn:z<0
    . rw[decide_eq_true hn];repeat' first|(apply abg;rfl;rfl;(first|(simp only[nca];rfl)|rfl);first|exact q245 _)|apply aaK|apply iI|apply aaN|apply aaO|apply abw|apply aaQ|apply aaR|apply wU|apply aaX|apply aaZ|(apply aba;rfl)|(apply abm;rfl;rfl;(first|(simp only[nca];rfl)|rfl))|(apply aby;rfl)|(apply aaS;rfl)|(apply aab;rfl;rfl)|(apply aak;rfl;rfl)|(apply aaD;rfl;rfl;rfl)|(apply abe;rfl;rfl;rfl)|(apply aac;rfl;rfl)|(apply aaL;rfl;rfl)|(intro _;omega)|intro _
      all_goals try omega
      refine⟨.inr rfl,rfl,_,rfl,.aq [.bool true,.vs (ak [ah z]) 1 none],.aq rfl (fun i a b ha hb=>?_),by simp[AV.top,aY,gh],by simp[bx,cB,kd]⟩;match i with
      | 0=>cases ha;cases hb;exact .same rfl
      | 1=>cases ha;cases hb;exact GO rfl
      | i+2=>cases ha
    . rw[decide_eq_false hn];repeat' first|(apply abg;rfl;rfl;(first|(simp only[nca];rfl)|rfl);first|exact q245 _)|apply aaK|apply iI|apply aaN|apply aaO|apply abw|apply aaQ|apply aaR|apply wU|apply aaX|apply aaZ|(apply aba;rfl)|(apply abm;rfl;rfl;(first|(simp only[nca];rfl)|rfl))|(apply aby;rfl)|(apply aaS;rfl)|(apply aab;rfl;rfl)|(apply aak;rfl;rfl)|(apply aaD;rfl;rfl;rfl)|(apply abe;rfl;rfl;rfl)|(apply aac;rfl;rfl)|(apply aaL;rfl;rfl)|(intro _;omega)|intro _
      all_goals try omega
      refine⟨.inr rfl,rfl,_,rfl,.aq [.bool false,.vs (ak [ah z]) 1 none],.aq rfl (fun i a b ha hb=>?_),by simp[AV.top,aY,gh],by simp[bx,cB,kd]⟩;match i with
      | 0=>cases ha;cases hb;exact .same rfl
      | 1=>cases ha;cases hb;exact GO rfl
      | i+2=>cases ha
 | @eW σ z w hs ok nr hw hz=>
  refine⟨.vs (ak w) w.length none,w,.inl rfl,ok,nr,?_,?_⟩
  . subst hz;unfold ah;rcases hs with rfl|rfl
    . rw[if_neg (by omega)];omega
    . rw[if_pos (by omega)];omega
  cases w with
  | nil=>simp[WV]at hw
  | cons y w=>
  refine iU (by rw[hft];exact zQ) (by simp) ?_;unfold ua;simp only[enter];rcases hs with rfl|rfl
  . have e:¬z<0:=by omega
    rw[decide_eq_false e];exact gg1
  . have e:z<0:=by omega
    rw[decide_eq_true e];exact gg1
def fm (neg:Bool)(n:Int):Int:=if neg then -n else n
theorem Ae {σ:Int}{l:List Int}{hh:ab}:eZ (aQ [.agg [.iV σ,.vs (ak l) l.length none]]) hh (.agg [.iV σ,.vs (ak l) l.length none]):=.same (by simp[aQ,AV.top,aY,gh]) (by simp[aQ,bx,cB,kd])
theorem Sk (hft:M.FT=FT)(neg:Bool){x:AV}{l:List Int}(hx:cG x l)(ok:okW wB l)(nr:aN l)(hl:l.length<1000000000):∃v0,ay v0 (fm neg (WV wB l))/\cH M 247 [.bool neg,x] v0:=by
 rcases hx with rfl|⟨rfl,rfl⟩
 . by_cases h0:l.length=0
   . refine⟨.agg [.iV 0,.ae],?_,?_⟩
     . have:fm neg (WV wB l)=0:=by rw[List.eq_nil_of_length_eq_zero h0];cases neg <;> rfl
       rw[this];exact .small (by decide)
     refine iU (by rw[hft];exact qq) (by simp) ?_;unfold nS;simp only[enter];repeat' first|(apply aak;rfl;rfl)|refine gd3 ?_|refine gc ?_|(intro _;omega)|intro _
     all_goals try omega
     exact⟨.inr rfl,rfl,_,rfl,.same rfl rfl⟩
   by_cases h1:l.length=1
   . obtain⟨y,hy⟩:∃y,y=l[(0:Int).toNat]! := ⟨_,rfl⟩;have gy:=bL ok (i:=0) (by omega);rw[show l[0]! = y from hy.symm]at gy;have gy:0<=y/\y<18446744073709551616:=gy;have ev:WV wB l=y:=by
      have:=iT (b:=wB) (l:=l) (n:=0) (by omega);rw[show l[0]! = y from hy.symm]at this;simpa[WV] using this
     by_cases h:y<=9223372036854775807
     . refine⟨.agg [.iV (fm neg y),.ae],by rw[ev];exact .small (by unfold fm;split <;> omega),?_⟩;refine iU (by rw[hft];exact qq) (by simp) ?_;unfold nS;simp only[enter];rw[hy]at h gy ⊢;cases neg
       . repeat' first|(apply aaG;rfl;rfl)|(apply aak;rfl;rfl)|refine gd3 ?_|refine gc ?_|(intro _;omega)|intro _
         all_goals try omega
         exact⟨.inr rfl,rfl,_,rfl,.same rfl rfl⟩
       . repeat' first|(apply aaG;rfl;rfl)|(apply aak;rfl;rfl)|refine gd3 ?_|refine gc ?_|(intro _;omega)|intro _
         all_goals try omega
         exact⟨.inr rfl,rfl,_,rfl,.same rfl rfl⟩
     . refine⟨.agg [.iV (fm neg 1),.vs (ak l) l.length none],.eW (w:=l) (by cases neg;exact .inl rfl;exact .inr rfl) ok nr (by rw[ev];omega) (by cases neg <;> simp[fm]),?_⟩;refine iU (by rw[hft];exact qq) (by simp) ?_;unfold nS;simp only[enter];rw[hy]at h gy;cases neg;all_goals
       . repeat' first|(apply aaG;rfl;rfl)|(apply aak;rfl;rfl)|refine gd3 ?_|refine gc ?_|(intro _;omega)|intro _
         all_goals try omega
         exact⟨.inr rfl,rfl,_,rfl,Ae⟩
   have h2:9223372036854775808<=WV wB l:=by
    have h:=nT (b:=wB) (by decide) ok nr (by omega);have h2:=fI (b:=wB) (by decide) (m:=1) (n:=l.length-1) (by omega);have h3:wB^1=18446744073709551616:=rfl;omega
   refine⟨.agg [.iV (fm neg 1),.vs (ak l) l.length none],.eW (w:=l) (by cases neg;exact .inl rfl;exact .inr rfl) ok nr h2 (by cases neg <;> simp[fm]),?_⟩;refine iU (by rw[hft];exact qq) (by simp) ?_;unfold nS;simp only[enter];cases neg;all_goals
   . repeat' first|(apply aak;rfl;rfl)|refine gd3 ?_|refine gc ?_|(intro _;omega)|intro _
     all_goals try omega
     exact⟨.inr rfl,rfl,_,rfl,Ae⟩
 . refine⟨.agg [.iV 0,.ae],?_,?_⟩
   . have:fm neg (WV wB [])=0:=by cases neg <;> rfl
     rw[this];exact .small (by decide)
   refine iU (by rw[hft];exact qq) (by simp) ?_;unfold nS;simp only[enter];cases neg;all_goals
   . repeat' first|(apply aak;rfl;rfl)|refine gd3 ?_|refine gc ?_|(intro _;omega)|intro _
     all_goals try omega
     exact⟨.inr rfl,rfl,_,rfl,.same rfl rfl⟩
set_option maxRecDepth 1000000
def uv:an:=zR [zx 1 131 2 0,⟨.p 2,.alloc 131 [.iV (0),.ae],none⟩] (.seq (zR [zf 5 1 1,zd 6 1 5,⟨.l 7,.eq false (.ref .slice) (.l 6) (.c (.ae)),none⟩,zn 8 7,zg (zf 9 0 1) 8 true,zg (zd 10 1 9) 8 true,zg (zc 11 .neq 10 (-9223372036854775808)) 8 true,zp 12 8 11] (.cond (.l 12) (zR [zf 13 0 1,zd 14 1 13,⟨.l 15,.un .neg (.l 14),none⟩,⟨.l 16,.build [.iV (0),.ae] [(0,1,(.l 15))],none⟩,zs 2 2 16] (.ret)) (.skip))) (zR [zt 18 2 1,z1 19 246 18,zn 17 19,ze 20 0 17,ze 21 1 17,zw 3 20,zw 4 21] (zR [zm 22 3,zu 23 22,zm 24 4,z2 25 247 23 24,zs 2 2 25] (.ret))))
theorem GP:FT 216=some ⟨26,[0,1,2,3,4],[.cell 2 true (.p 2)],uv⟩:=by kernel_rfl
def Af:an:=zR [zx 1 131 2 0,⟨.p 2,.alloc 131 [.iV (0),.ae],none⟩] (.seq (zR [zf 3 0 1,zd 4 1 3,zc 5 .lss 4 0] (.cond (.l 5) (zR [zt 6 2 1,z1 7 216 6,zs 2 2 7] (.ret)) (.skip))) (zR [zt 8 2 1,zs 2 2 8] (.ret)))
theorem GR:FT 210=some ⟨9,[0,1,2],[.cell 2 true (.p 2)],Af⟩:=by kernel_rfl
def Ag:an:=zR [zx 1 131 2 0,zi 2 0] (zR [zf 3 0 1,zd 4 1 3,⟨.l 5,.mm false [(kI 1),(.l 4)],none⟩,⟨.l 6,.mm true [(kI (-1)),(.l 5)],none⟩,zw 2 6] (.ret))
theorem Sm:FT 211=some ⟨7,[0,1,2],[.var (.p 2)],Ag⟩:=by kernel_rfl
def nY:an:=zR [zx 2 131 2 0,zx 3 131 2 1,⟨.p 4,.alloc 131 [.iV (0),.ae],none⟩] (.seq (zR [zf 10 1 2,zd 11 1 10,⟨.l 12,.eq false (.ref .slice) (.l 11) (.c (.ae)),none⟩,zn 13 12,zg (zf 14 1 3) 13 true,zg (zd 15 1 14) 13 true,⟨.l 16,.eq false (.ref .slice) (.l 15) (.c (.ae)),some ((.l 13),true)⟩,zp 17 13 16] (.cond (.l 17) (zR [zf 18 0 2,zd 19 1 18,zf 20 0 3,zd 21 1 20,zb 22 .add 19 21,zw 5 22] (zR [zm 23 5,zf 24 0 2,zd 25 1 24,zb 26 .gtr 23 25,zf 27 0 3,zd 28 1 27,zc 29 .gtr 28 0,⟨.l 30,.eq false .bool (.l 26) (.l 29),none⟩] (.cond (.l 30) (zR [zm 31 5,⟨.l 32,.build [.iV (0),.ae] [(0,1,(.l 31))],none⟩,zs 2 4 32] (.ret)) (.skip)))) (.skip))) (zR [zt 34 2 2,z1 35 246 34,zn 33 35,ze 36 0 33,ze 37 1 33,zw 6 36,zw 7 37] (zR [zt 39 2 3,z1 40 246 39,zn 38 40,ze 41 0 38,ze 42 1 38,zw 8 41,zw 9 42] (.seq (.block 0 (zR [zm 44 6,zm 45 8,⟨.l 46,.eq false .bool (.l 44) (.l 45),none⟩,zn 43 46] (.cond (.l 43) (zR [zm 47 6,zm 48 7,zm 49 9,z2 50 249 48 49,z2 51 247 47 50,zs 2 4 51] (.ret)) (zR [zm 53 7,zm 54 9,z2 55 250 53 54,zc 56 .geq 55 0,zn 52 56] (.cond (.l 52) (zR [zm 57 6,zm 58 7,zm 59 9,z2 60 251 58 59,z2 61 247 57 60,zs 2 4 61] (.ret)) (.skip)))))) (zR [zm 62 8,zm 63 9,zm 64 7,z2 65 251 63 64,z2 66 247 62 65,zs 2 4 66] (.ret))))))
theorem qA:FT 202=some ⟨67,[0,1,2,3,4,5,6,7,8,9],[.cell 2 true (.p 4)],nY⟩:=by kernel_rfl
def GS:an:=zR [zx 2 131 2 0,zx 3 131 2 1,⟨.p 4,.alloc 131 [.iV (0),.ae],none⟩] (.seq (.draw [(zt 5 2 2,[]),(zt 6 2 3,[0]),(z1 7 216 6,[0]),(z2 8 202 5 7,[]),(zs 2 4 8,[])]) (.ret))
theorem Sn:FT 217=some ⟨9,[0,1,2,3,4],[.cell 2 true (.p 4)],GS⟩:=by kernel_rfl
def GU:an:=zR [zx 2 131 2 0,zx 3 131 2 1,zi 4 0] (.seq (zR [zf 5 1 2,zd 6 1 5,⟨.l 7,.eq false (.ref .slice) (.l 6) (.c (.ae)),none⟩,zn 8 7,zg (zf 9 1 3) 8 true,zg (zd 10 1 9) 8 true,⟨.l 11,.eq false (.ref .slice) (.l 10) (.c (.ae)),some ((.l 8),true)⟩,zp 12 8 11] (.cond (.l 12) (.seq (.block 0 (zR [zf 14 0 2,zd 15 1 14,zf 16 0 3,zd 17 1 16,zb 18 .lss 15 17,zn 13 18] (.cond (.l 13) (zR [zi 4 (-1)] (.ret)) (zR [zf 20 0 2,zd 21 1 20,zf 22 0 3,zd 23 1 22,zb 24 .gtr 21 23,zn 19 24] (.cond (.l 19) (zR [zi 4 1] (.ret)) (.skip)))))) (zR [zi 4 0] (.ret))) (.skip))) (zR [zt 25 2 2,zt 26 2 3,z2 27 217 25 26,z1 28 211 27,zw 4 28] (.ret)))
theorem So:FT 167=some ⟨29,[0,1,2,3,4],[.var (.p 4)],GU⟩:=by kernel_rfl
def nZ:an:=zR [zx 2 131 2 0,zx 3 131 2 1,⟨.p 4,.alloc 131 [.iV (0),.ae],none⟩] (.seq (zR [zf 11 1 2,zd 12 1 11,⟨.l 13,.eq false (.ref .slice) (.l 12) (.c (.ae)),none⟩,zn 14 13,zg (zf 15 1 3) 14 true,zg (zd 16 1 15) 14 true,⟨.l 17,.eq false (.ref .slice) (.l 16) (.c (.ae)),some ((.l 14),true)⟩,zp 18 14 17] (.cond (.l 18) (.seq (.draw [(zf 20 0 2,[]),(zd 21 1 20,[]),(z1 22 245 21,[]),(zf 23 0 3,[0,1,2]),(zd 24 1 23,[0,1,2]),(z1 25 245 24,[]),(z2 26 244 22 25,[]),(zn 19 26,[]),(ze 27 0 19,[]),(ze 28 1 19,[8]),(zw 5 27,[9]),(zw 6 28,[])]) (zR [zm 29 5,⟨.l 30,.bin .eql (.l 29) (kU 0),none⟩,zn 31 30,zg (zm 32 6) 31 true,⟨.l 33,.bin .leq (.l 32) (kU 9223372036854775807),some ((.l 31),true)⟩,zp 34 31 33] (.cond (.l 34) (.seq (zR [zf 35 0 2,zd 36 1 35,zc 37 .lss 36 0,zf 38 0 3,zd 39 1 38,zc 40 .lss 39 0,⟨.l 41,.eq true .bool (.l 37) (.l 40),none⟩] (.cond (.l 41) (zR [zm 42 6,⟨.l 43,.dM .i64 (.l 42),none⟩,⟨.l 44,.un .neg (.l 43),none⟩,⟨.l 45,.build [.iV (0),.ae] [(0,1,(.l 44))],none⟩,zs 2 4 45] (.ret)) (.skip))) (zR [zm 46 6,⟨.l 47,.dM .i64 (.l 46),none⟩,⟨.l 48,.build [.iV (0),.ae] [(0,1,(.l 47))],none⟩,zs 2 4 48] (.ret))) (.skip)))) (.skip))) (zR [zt 50 2 2,z1 51 246 50,zn 49 51,ze 52 0 49,ze 53 1 49,zw 7 52,zw 8 53] (zR [zt 55 2 3,z1 56 246 55,zn 54 56,ze 57 0 54,ze 58 1 54,zw 9 57,zw 10 58] (zR [zm 59 7,zm 60 9,⟨.l 61,.eq true .bool (.l 59) (.l 60),none⟩,zm 62 8,zm 63 10,z2 64 248 62 63,z2 65 247 61 64,zs 2 4 65] (.ret)))))
theorem qB:FT 198=some ⟨66,[0,1,2,3,4,5,6,7,8,9,10],[.cell 2 true (.p 4)],nZ⟩:=by kernel_rfl
def GV:an:=zR [⟨.p 1,.alloc 131 [.iV (0),.ae],none⟩] (zR [zm 3 0,⟨.l 4,.build [.iV (0),.ae] [(0,1,(.l 3))],none⟩,zs 2 1 4] (.ret))
theorem Sp:FT 168=some ⟨5,[0,2],[.cell 2 true (.p 1)],GV⟩:=by kernel_rfl
def oc:an:=zR [zx 2 131 2 0,zx 3 131 2 1,⟨.p 4,.alloc 131 [.iV (0),.ae],none⟩,⟨.p 5,.alloc 131 [.iV (0),.ae],none⟩] (.seq (zR [zf 16 1 2,zd 17 1 16,⟨.l 18,.eq false (.ref .slice) (.l 17) (.c (.ae)),none⟩,zn 19 18,zg (zf 20 1 3) 19 true,zg (zd 21 1 20) 19 true,⟨.l 22,.eq false (.ref .slice) (.l 21) (.c (.ae)),some ((.l 19),true)⟩,zp 23 19 22,zn 24 23,zg (zf 25 0 2) 24 true,zg (zd 26 1 25) 24 true,zg (zc 27 .neq 26 (-9223372036854775808)) 24 true,zp 28 24 27] (.cond (.l 28) (.seq (.draw [(zf 29 0 2,[]),(zd 30 1 29,[]),(zf 31 0 3,[0,1]),(zd 32 1 31,[0,1]),(zb 33 .quo 30 32,[]),(zf 34 0 2,[0,1,2,3,4]),(zd 35 1 34,[0,1,2,3,4]),(zf 36 0 3,[0,1,2,3,4,5,6]),(zd 37 1 36,[0,1,2,3,4,5,6]),(zb 38 .rem 35 37,[0,1,2,3,4]),(zw 6 33,[5,6,7,8,9]),(zw 7 38,[])]) (.seq (zR [zm 39 7,zc 40 .lss 39 0] (.cond (.l 40) (.draw [(zm 41 6,[]),(zc 42 .sub 41 1,[]),(zm 43 7,[0,1]),(zf 44 0 3,[0,1,2]),(zd 45 1 44,[0,1,2]),(zb 46 .add 43 45,[0,1]),(zw 6 42,[2,3,4,5]),(zw 7 46,[])]) (.skip))) (zR [zm 47 6,⟨.l 48,.build [.iV (0),.ae] [(0,1,(.l 47))],none⟩,zm 49 7,⟨.l 50,.build [.iV (0),.ae] [(0,1,(.l 49))],none⟩,zs 2 4 48,zs 2 5 50] (.ret)))) (.skip))) (zR [zt 52 2 2,z1 53 246 52,zn 51 53,ze 54 0 51,ze 55 1 51,zw 8 54,zw 9 55] (zR [zt 57 2 3,z1 58 246 57,zn 56 58,ze 59 0 56,ze 60 1 56,zn 10 59,zw 10 60] (zR [zm 62 9,zm 63 10,z2 64 253 62 63,zn 61 64,ze 65 0 61,ze 66 1 61,zw 11 65,zw 12 66] (zR [zm 67 8,zm 68 11,z2 69 247 67 68,zm 70 8,zm 71 12,z2 72 247 70 71,⟨.p 13,.alloc 131 [.iV (0),.ae],none⟩,⟨.p 14,.alloc 131 [.iV (0),.ae],none⟩,zs 2 13 69,zs 2 14 72] (.seq (zR [zt 73 2 14,z1 74 211 73,zc 75 .lss 74 0] (.cond (.l 75) (.draw [(zt 76 2 13,[]),(⟨.l 77,.call (kF 168) [(kI 1)],none⟩,[0]),(z2 78 217 76 77,[]),(zt 79 2 14,[0,1,2]),(zt 80 2 3,[0,1,2,3]),(z2 81 202 79 80,[]),(zs 2 13 78,[]),(zs 2 14 81,[])]) (.skip))) (.seq (.draw [(zt 82 2 13,[]),(zt 83 2 14,[0]),(zs 2 4 82,[1]),(zs 2 5 83,[])]) (.ret))))))))
theorem qC:FT 205=some ⟨84,[0,1,2,3,4,5,6,7,8,9,11,12,13,14,15],[.cell 2 true (.p 4),.cell 2 true (.p 5)],oc⟩:=by kernel_rfl
def Ah:an:=zR [zx 2 131 2 0,zx 3 131 2 1,⟨.p 4,.alloc 131 [.iV (0),.ae],none⟩] (.seq (zR [zt 7 2 3,z1 8 211 7,zc 9 .lss 8 0] (.cond (.l 9) (.draw [(zt 10 2 2,[]),(z1 11 216 10,[]),(zt 12 2 3,[0,1]),(z1 13 216 12,[]),(zs 2 2 11,[]),(zs 2 3 13,[])]) (.skip))) (zR [zt 15 2 2,zt 16 2 3,z2 17 205 15 16,zn 14 17,ze 18 0 14,ze 19 1 14,⟨.p 5,.alloc 131 [.iV (0),.ae],none⟩,⟨.l 6,.alloc 131 [.iV (0),.ae],none⟩,zs 2 5 18,zS 2 6 19] (zR [zt 20 2 5,zs 2 4 20] (.ret))))
theorem GW:FT 252=some ⟨21,[0,1,2,3,4,5],[.cell 2 true (.p 4)],Ah⟩:=by kernel_rfl
def uw:an:=.seq (zR [zt 11 2 3,z1 12 211 11,zc 13 .neq 12 0] (.cond (.l 13) (.skip) (.exit 0))) (.block 1 (zR [zt 15 2 2,zt 16 2 3,z2 17 205 15 16,zn 14 17,ze 18 0 14,ze 19 1 14,⟨.l 5,.alloc 131 [.iV (0),.ae],none⟩,⟨.p 5,.alloc 131 [.iV (0),.ae],none⟩,zS 2 5 18,zs 2 5 19] (.draw [(zt 20 2 3,[]),(zt 21 2 5,[0]),(zs 2 2 20,[1]),(zs 2 3 21,[])])))
def GX:an:=zR [zx 2 131 2 0,zx 3 131 2 1,⟨.p 4,.alloc 131 [.iV (0),.ae],none⟩] (.seq (.draw [(zt 7 2 2,[]),(z1 8 210 7,[]),(zt 9 2 3,[0,1]),(z1 10 210 9,[]),(zs 2 2 8,[]),(zs 2 3 10,[])]) (.seq (.block 0 (.loop uw)) (zR [zt 22 2 2,zs 2 4 22] (.ret))))
theorem Sq:FT 165=some ⟨23,[0,1,2,3,4,6],[.cell 2 true (.p 4)],GX⟩:=by kernel_rfl
structure CI (M:ao)(N:Nat):Prop where
 ft:M.FT=FT
 lN:N<=500000
 qz:∀s h,(-9223372036854775808<=s/\s<9223372036854775808)->M.ext 245 [.iV s] h=some ⟨.uV (ah s),h,[]⟩
 mr:∀(x y:Int) h,(0<=x/\x<18446744073709551616)->(0<=y/\y<18446744073709551616)->M.ext 244 [.uV x,.uV y] h=some ⟨.aq [.uV (x*y/18446744073709551616),.uV (x*y%18446744073709551616)],h,[]⟩
 kP:∀v z,ay v z->∃x l,cG x l/\okW wB l/\aN l/\WV wB l=ah z/\∀h,M.ext 246 [v] h=some ⟨.aq [.bool (decide (z<0)),x],h,[]⟩
 iW:∀neg x l,cG x l->okW wB l->aN l->l.length<=1000001->∃v0,ay v0 (fm neg (WV wB l))/\∀h,M.ext 247 [.bool neg,x] h=some ⟨v0,h,[]⟩
 GY:∀x l y m,cG x l->cG y m->okW wB l->okW wB m->l.length<=500000->m.length<=500000->∃r,okW wB r/\aN r/\WV wB r=WV wB l+WV wB m/\∀h,M.ext 249 [x,y] h=some ⟨.vs (ak r) r.length none,h,[]⟩
 Ai:∀x l y m,cG x l->cG y m->okW wB l->okW wB m->aN l->aN m->l.length<=500000->m.length<=500000->WV wB m<=WV wB l->∃r,okW wB r/\aN r/\WV wB r=WV wB l-WV wB m/\∀h,M.ext 251 [x,y] h=some ⟨.vs (ak r) r.length none,h,[]⟩
 GZ:∀x l y m,cG x l->cG y m->okW wB l->okW wB m->l.length<=500000->m.length<=500000->∃r,okW wB r/\aN r/\WV wB r=WV wB l*WV wB m/\∀h,M.ext 248 [x,y] h=some ⟨.vs (ak r) r.length none,h,[]⟩
 qy:∀x l y m,cG x l->cG y m->okW wB l->okW wB m->aN l->aN m->l.length<=500000->m.length<=500000->∀h,M.ext 250 [x,y] h=some ⟨.iV (aW (WV wB l-WV wB m)),h,[]⟩
theorem ay.out {v:AV}{z:Int}{hh:ab}(h:ay v z):eZ (aQ [v]) hh v:=by
 cases h with
 | small=>exact .same rfl rfl
 | eW=>exact Ae
variable {N:Nat}
theorem CI.len (C:CI M N){z:Int}{l:List Int}(ok:okW wB l)(nr:aN l)(hv:WV wB l=ah z)(hz:ah z<wB^N):l.length<=500000:=
 Nat.le_trans (fQ (b:=wB) (by decide) ok nr (by rw[hv];exact hz)) C.lN
theorem Sr (C:CI M N){v:AV}{z:Int}(hv:ay v z)(hz:ah z<wB^N):∃v0,ay v0 (-z)/\cH M 216 [v] v0:=by
 obtain⟨x,l,hx,ok,nr,hl,q246⟩:=C.kP v z hv;have len:=C.len ok nr hl hz;obtain⟨v0,h0,q247⟩:=C.iW (!(decide (z<0))) x l hx ok nr (by omega);have ev:fm (!(decide (z<0))) (WV wB l) = -z:=by
  rw[hl];unfold fm ah;by_cases h:z<0
  . simp[h]
  . simp[h]
 rw[ev]at h0;by_cases hsm:(∃s,v = .agg [.iV s,.ae])/\z ≠ -9223372036854775808
 . obtain⟨⟨s,rfl⟩,hne⟩:=hsm;cases hv with
   | small h=>
   refine⟨.agg [.iV (-z),.ae],.small (by omega),?_⟩;refine iU (by rw[C.ft];exact GP) (by simp) ?_;unfold uv;simp only[enter];repeat' first|(apply aaF;rfl;rfl)|refine gd3 ?_|refine gd2 ?_|refine gc ?_|(intro _;omega)|intro _
   all_goals try omega
   exact⟨.inr rfl,rfl,_,rfl,.same rfl rfl⟩
 . refine⟨v0,h0,iU (by rw[C.ft];exact GP) (by simp) ?_⟩;have out:=fun hh=>h0.out (hh:=hh)
   cases hv with
   | small h=>
    have hz:z = -9223372036854775808:=Decidable.byContradiction fun h'=>hsm ⟨⟨z,rfl⟩,h'⟩
    subst hz;unfold uv;simp only[enter];cases h0;all_goals
    . repeat' first|(apply aaF;rfl;rfl)|refine gd0 ?_|refine gd3 ?_|refine gd2 ?_|refine gc ?_|(intro _;omega)|intro _
      all_goals try omega
      all_goals exact⟨.inr rfl,rfl,_,rfl,out _⟩
   | @eW σ z w hs ok' nr' hw hz'=>
    cases w with
    | nil=>simp[WV]at hw
    | cons y w=>
    unfold uv;simp only[enter];by_cases hn:z<0
    all_goals
    . simp only[hn,decide_true,decide_false,Bool.not_true,Bool.not_false]at q246 q247;cases h0;all_goals
      . repeat' first|refine gd0 ?_|refine gd3 ?_|refine gd2 ?_|refine gc ?_|fail
        all_goals try omega
        all_goals exact⟨.inr rfl,rfl,_,rfl,out _⟩
theorem Ss (hft:M.FT=FT){v:AV}{z:Int}(hv:ay v z):aU M 211 [v] [] ⟨.iV (aW z),[],[]⟩:=by
 refine bO (by rw[hft];exact Sm) (by simp) ?_;have key:∀s:Int,(AV.iV (if (if s<1 then s else 1) > -1 then (if s<1 then s else 1) else -1)) = .iV (aW s):=fun s=>by
  congr 1;unfold aW;by_cases h:s<0
  . rw[if_pos h,if_pos (show s<1 by omega)];split <;> omega
  . rw[if_neg h];by_cases h1:0<s
    . rw[if_pos h1,if_neg (show ¬s<1 by omega)];rfl
    . obtain rfl:s=0:=by omega
      rfl
 cases hv with
 | small h=>
  unfold Ag;simp only[enter];exact gg0
 | @eW σ z w hs ok nr hw hz=>
  have e:aW z=σ:=by
   unfold aW;rcases hs with rfl|rfl
   . rw[if_neg (by omega),if_pos (by omega)]
   . rw[if_pos (by omega)]
  have k:=key σ;rw[show aW σ=aW z by rw[e];rcases hs with rfl|rfl <;> rfl]at k;unfold Ag;simp only[enter];exact gg0
def t202:an:=
 zR [zt 34 2 2,
      z1 35 246 34,
      zn 33 35,
      ze 36 0 33,
      ze 37 1 33,
      zw 6 36,
      zw 7 37]
    (
     zR [zt 39 2 3,
       z1 40 246 39,
       zn 38 40,
       ze 41 0 38,
       ze 42 1 38,
       zw 8 41,
       zw 9 42]
     (
      .seq (.block 0
       (
        zR [zm 44 6,
          zm 45 8,
          ⟨(.l 46),.eq false .bool (.l 44) (.l 45),none⟩,
          zn 43 46]
        (
         .cond (.l 43)
         (
          zR [zm 47 6,
            zm 48 7,
            zm 49 9,
            z2 50 249 48 49,
            z2 51 247 47 50,
            zs 2 4 51]
          (.ret))
         (
          zR [zm 53 7,
            zm 54 9,
            z2 55 250 53 54,
            zc 56 .geq 55 0,
            zn 52 56]
          (
           .cond (.l 52)
           (
            zR [zm 57 6,
              zm 58 7,
              zm 59 9,
              z2 60 251 58 59,
              z2 61 247 57 60,
              zs 2 4 61]
            (.ret))
           (.skip))))))
      (
       zR [zm 62 8,
         zm 63 9,
         zm 64 7,
         z2 65 251 63 64,
         z2 66 247 62 65,
         zs 2 4 66]
       (.ret))))
theorem Su {l m r:List Int}(C:CI M N)(ok:okW wB r)(nr:aN r)(hr:WV wB r=WV wB l+WV wB m)(hl:WV wB l<wB^N)(hm:WV wB m<wB^N):r.length<=1000001:=by
 have hN:=C.lN;have hp:wB^(N+1)=wB^N*18446744073709551616:=Int.pow_succ _ _;have hp0:0<wB^N:=Int.pow_pos (by decide);exact Nat.le_trans (fQ (b:=wB) (by decide) ok nr (n:=N+1) (by rw[hr,hp];omega)) (by omega)
def jX (v0:AV)(res:List fc)(e:Ex)(s:al):Prop:=(e = .normal\/e = .ret)/\s.s.bA=[]/\∃vs,cU s.s res=some vs/\eZ (aQ vs) (if (aQ vs).top<=0 then [] else s.s.hp) v0
theorem cA {v0:AV}{res:List fc}{s:al}{vs:List AV}(hd:s.s.bA=[])(h:cU s.s res=some vs)(ho:eZ (aQ vs) (if (aQ vs).top<=0 then [] else s.s.hp) v0):jX v0 res .ret s:=⟨.inr rfl,hd,vs,h,ho⟩
theorem Sv (C:CI M N){s s' za zb:Int}{wa wb:AV}(ha:ay (.agg [.iV s,wa]) za)(hb:ay (.agg [.iV s',wb]) zb)(lza:ah za<wB^N)(lzb:ah zb<wB^N) :
 ∃v0,ay v0 (za+zb)/\∀a0 a1 a5 a6 a7 a8 a9 lo wr,W M t202 ⟨⟨[a0,a1,.ptr 0 0,.ptr 1 0,.ptr 2 0,a5,a6,a7,a8,a9],lo,[some (.cells [.iV s,wa] 131),some (.cells [.iV s',wb] 131),some (.cells [.iV 0,.ae] 131)],[]⟩,wr⟩ (jX v0 [.cell 2 true (.p 4)]):=by
 obtain⟨x,l,hx,okl,nrl,vl,q246a⟩:=C.kP _ za ha;obtain⟨y,m,hy,okm,nrm',vm,q246b⟩:=C.kP _ zb hb;have ll:=C.len okl nrl vl lza;have lm:=C.len okm nrm' vm lzb;have l0:=bT (b:=wB) (by decide) okl;have m0:=bT (b:=wB) (by decide) okm;have lN:=C.lN;by_cases hs:decide (za<0)=decide (zb<0)
 . obtain⟨r,okr,nrr,vr,q249⟩:=C.GY x l y m hx hy okl okm ll lm;obtain⟨v0,h0,q247⟩:=C.iW (decide (za<0)) (.vs (ak r) r.length none) r (.inl rfl) okr nrr (Su C okr nrr vr (by rw[vl];exact lza) (by rw[vm];exact lzb));have ev:fm (decide (za<0)) (WV wB r)=za+zb:=by
    rw[vr,vl,vm];unfold fm ah;by_cases h:za<0 <;> by_cases h':zb<0 <;> simp[h,h']at hs ⊢ <;> omega
   rw[ev]at h0;refine⟨v0,h0,fun a0 a1 a5 a6 a7 a8 a9 lo wr=>?_⟩;have out:=fun hh=>h0.out (hh:=hh)
   unfold t202;by_cases h:za<0 <;> by_cases h':zb<0 <;> simp only[h,h',decide_true,decide_false]at hs q246a q246b q247
   all_goals first|(exfalso;revert hs;decide)|skip
   all_goals
   . cases h0;all_goals
     . repeat' first|refine gd0 ?_|refine gc ?_|fail
       all_goals try omega
       all_goals exact cA rfl rfl (out _)
 have q250:=C.qy x l y m hx hy okl okm nrl nrm' ll lm;by_cases hc:WV wB m<=WV wB l
 . obtain⟨g,hg⟩:∃g,g=aW (WV wB l-WV wB m):=⟨_,rfl⟩;have g0:0<=g:=by rw[hg];unfold aW;split <;> omega
   rw[←hg]at q250;obtain⟨r,okr,nrr,vr,q251⟩:=C.Ai x l y m hx hy okl okm nrl nrm' ll lm hc;obtain⟨v0,h0,q247⟩:=C.iW (decide (za<0)) (.vs (ak r) r.length none) r (.inl rfl) okr nrr (Nat.le_trans (fQ (b:=wB) (by decide) okr nrr (n:=N) (by rw[vr,vl];omega)) (by omega));have ev:fm (decide (za<0)) (WV wB r)=za+zb:=by
    rw[vr,vl,vm];unfold fm ah;by_cases h:za<0 <;> by_cases h':zb<0 <;> simp[h,h']at hs ⊢ <;> omega
   rw[ev]at h0;refine⟨v0,h0,fun a0 a1 a5 a6 a7 a8 a9 lo wr=>?_⟩;have out:=fun hh=>h0.out (hh:=hh)
   unfold t202;by_cases h:za<0 <;> by_cases h':zb<0 <;> simp only[h,h',decide_true,decide_false]at hs q246a q246b q247
   all_goals first|(exfalso;revert hs;decide)|skip
   all_goals
   . cases h0;all_goals
     . repeat' first|(apply aaE;rfl;rfl)|refine gd0 ?_|refine gc ?_|(intro _;omega)|intro _
       all_goals try omega
       all_goals exact cA rfl rfl (out _)
 . obtain⟨g,hg⟩:∃g,g=aW (WV wB l-WV wB m):=⟨_,rfl⟩;have g0:g<0:=by rw[hg];unfold aW;split <;> omega
   rw[←hg]at q250;obtain⟨r,okr,nrr,vr,q251⟩:=C.Ai y m x l hy hx okm okl nrm' nrl lm ll (by omega);obtain⟨v0,h0,q247⟩:=C.iW (decide (zb<0)) (.vs (ak r) r.length none) r (.inl rfl) okr nrr (Nat.le_trans (fQ (b:=wB) (by decide) okr nrr (n:=N) (by rw[vr,vm];omega)) (by omega));have ev:fm (decide (zb<0)) (WV wB r)=za+zb:=by
    rw[vr,vl,vm];unfold fm ah;by_cases h:za<0 <;> by_cases h':zb<0 <;> simp[h,h']at hs ⊢ <;> omega
   rw[ev]at h0;refine⟨v0,h0,fun a0 a1 a5 a6 a7 a8 a9 lo wr=>?_⟩;have out:=fun hh=>h0.out (hh:=hh)
   unfold t202;by_cases h:za<0 <;> by_cases h':zb<0 <;> simp only[h,h',decide_true,decide_false]at hs q246a q246b q247
   all_goals first|(exfalso;revert hs;decide)|skip
   all_goals
   . cases h0;all_goals
     . repeat' first|(apply aaE;rfl;rfl)|refine gd0 ?_|refine gc ?_|(intro _;omega)|intro _
       all_goals try omega
       all_goals exact cA rfl rfl (out _)
theorem Sw {x:Int}(h:9223372036854775808<=x/\x<18446744073709551616):IntKind.i64.wrap x=x-18446744073709551616:=by
 simp only[IntKind.wrap,IntKind.bits,IntKind.signed];simp;omega
theorem Sx {x:Int}(h : -18446744073709551616<=x/\x < -9223372036854775808):IntKind.i64.wrap x=x+18446744073709551616:=by
 simp only[IntKind.wrap,IntKind.bits,IntKind.signed];simp;omega
theorem acJ {t:Nat}{x y:ax}{l:List aO}{pe:List AV}{lo:List (Nat×AV)}{hp:ab}{df wr:List Nat}{a b v:Int}{Q:al->Prop}(hx:(St.mk pe lo hp df).aa x=some (.iV a))(hy:(St.mk pe lo hp df).aa y=some (.iV b))(hv:IntKind.i64.wrap (a+b)=v)
 (h:WO M l ⟨⟨pe,(t,.iV v)::lo,hp,df⟩,wr⟩ Q):WO M (⟨.l t,.bin .add x y,none⟩::l) ⟨⟨pe,lo,hp,df⟩,wr⟩ Q:=
 aac (v:=.iV v) (by simp[aP,hx,hy,ck,hv]) rfl h
theorem cI {f n:Nat}{az:List Nat}{res:List fc}{body:an}{ars:List AV}{v0:AV}(hft:M.FT f=some ⟨n,az,res,body⟩)(hN:ars.length<=n)
 (h:W M body ⟨⟨az.map (fun t=>(ars[t]?).getD bJ),[],[],[]⟩,[]⟩ (jX v0 res)):cH M f ars v0:=iU hft hN h
theorem Sy (C:CI M N){a b:AV}{za zb:Int}(ha:ay a za)(hb:ay b zb)(lza:ah za<wB^N)(lzb:ah zb<wB^N):∃v0,ay v0 (za+zb)/\cH M 202 [a,b] v0:=by
 by_cases hsm:(∃s s',a = .agg [.iV s,.ae]/\b = .agg [.iV s',.ae])/\(-9223372036854775808<=za+zb/\za+zb<9223372036854775808)
 . obtain⟨⟨s,s',rfl,rfl⟩,hr⟩:=hsm;cases ha with
   | small h=>
   cases hb with
   | small h'=>
   refine⟨.agg [.iV (za+zb),.ae],.small hr,?_⟩;refine cI (by rw[C.ft];exact qA) (by simp) ?_;unfold nY;simp only[enter];exact gg2
 . have main:∀{s s':Int} {wa wb:AV},a = .agg [.iV s,wa]->b = .agg [.iV s',wb]->∃v0,ay v0 (za+zb)/\∀a0 a1 a5 a6 a7 a8 a9 lo wr,W M t202 ⟨⟨[a0,a1,.ptr 0 0,.ptr 1 0,.ptr 2 0,a5,a6,a7,a8,a9],lo,[some (.cells [.iV s,wa] 131),some (.cells [.iV s',wb] 131),some (.cells [.iV 0,.ae] 131)],[]⟩,wr⟩ (jX v0 [.cell 2 true (.p 4)]):=
    fun e1 e2=>Sv C (e1 ▸ ha) (e2 ▸ hb) lza lzb
   cases ha with
   | small h=>
    cases hb with
    | small h'=>
     have hne:¬(-9223372036854775808<=za+zb/\za+zb<9223372036854775808):=fun hr=>hsm ⟨⟨_,_,rfl,rfl⟩,hr⟩
     obtain⟨v0,h0,tl⟩:=main rfl rfl;refine⟨v0,h0,cI (by rw[C.ft];exact qA) (by simp) ?_⟩;obtain⟨c,hc,hc2⟩:∃c,IntKind.i64.wrap (za+zb)=c/\(c=za+zb-18446744073709551616/\9223372036854775808<=za+zb\/c=za+zb+18446744073709551616/\za+zb < -9223372036854775808):=by
      rcases Int.lt_or_le (za+zb) 0 with h1|h1
      . exact⟨_,Sx (by omega),.inr ⟨rfl,by omega⟩⟩
      . exact⟨_,Sw (by omega),.inl ⟨rfl,by omega⟩⟩
     unfold nY;simp only[enter];exact gg2
    | @eW σ z w hs ok nr hw hz=>
     cases w with
     | nil=>simp[WV]at hw
     | cons y w=>
     obtain⟨v0,h0,tl⟩:=main rfl rfl;refine⟨v0,h0,cI (by rw[C.ft];exact qA) (by simp) ?_⟩;unfold nY;simp only[enter];exact gg2
   | @eW σ z w hs ok nr hw hz=>
    cases w with
    | nil=>simp[WV]at hw
    | cons y w=>
    cases hb with
    | small h'=>
     obtain⟨v0,h0,tl⟩:=main rfl rfl;refine⟨v0,h0,cI (by rw[C.ft];exact qA) (by simp) ?_⟩;unfold nY;simp only[enter];exact gg2
    | @eW σ' z' w' hs' ok' nr' hw' hz'=>
     cases w' with
     | nil=>simp[WV]at hw'
     | cons y' w'=>
     obtain⟨v0,h0,tl⟩:=main rfl rfl;refine⟨v0,h0,cI (by rw[C.ft];exact qA) (by simp) ?_⟩;unfold nY;simp only[enter];exact gg2
def Op1 (M:ao)(N g:Nat)(f:Int->Int):Prop:=∀v z,ay v z->ah z<wB^N->∃v0,ay v0 (f z)/\∀h,M.ext g [v] h=some ⟨v0,h,[]⟩
def ux (M:ao)(N g:Nat)(f:Int->Int->Int):Prop:=∀a b x y,ay a x->ay b y->ah x<wB^N->ah y<wB^N->∃v0,ay v0 (f x y)/\∀h,M.ext g [a,b] h=some ⟨v0,h,[]⟩
structure Aj (M:ao)(N:Nat):Prop extends CI M N where
 jY:Op1 M N 216 (fun z=>-z)
 od:ux M N 202 (· + ·)
structure CJ (M:ao)(N:Nat):Prop extends Aj M N where
 Ak:ux M N 217 (· - ·)
 mw:∀v z,ay v z->∀h,M.ext 211 [v] h=some ⟨.iV (aW z),h,[]⟩
theorem ib {z:Int}:ah (-z)=ah z:=by unfold ah;split <;> split <;> omega
theorem Sz (C:Aj M N){a b:AV}{x y:Int}(ha:ay a x)(hb:ay b y)(lx:ah x<wB^N)(ly:ah y<wB^N):∃v0,ay v0 (x-y)/\cH M 217 [a,b] v0:=by
 obtain⟨v1,h1,q216⟩:=C.jY b y hb ly;obtain⟨v0,h0,q202⟩:=C.od a v1 x (-y) ha h1 lx (by rw[ib];exact ly);have h0:ay v0 (x-y):=by rw[Int.sub_eq_add_neg];exact h0
 refine⟨v0,h0,cI (by rw[C.ft];exact Sn) (by simp) ?_⟩;have out:=fun hh=>h0.out (hh:=hh)
 unfold GS;simp only[enter];cases ha;all_goals
 . cases hb;all_goals
   . cases h0;all_goals
     . repeat' first|refine gd1 ?_|refine gd3 ?_|refine gd2 ?_|refine gc ?_|fail
       all_goals exact cA rfl rfl (out _)
theorem SA (C:CJ M N){v:AV}{z:Int}(hv:ay v z)(lz:ah z<wB^N):∃v0,ay v0 (ah z)/\cH M 210 [v] v0:=by
 by_cases hn:z<0
 . obtain⟨v0,h0,q216⟩:=C.jY v z hv lz;have h0:ay v0 (ah z):=by rw[show ah z = -z from if_pos hn];exact h0
   refine⟨v0,h0,cI (by rw[C.ft];exact GR) (by simp) ?_⟩;have out:=fun hh=>h0.out (hh:=hh)
   unfold Af;simp only[enter];cases hv with
   | small h=>
    cases h0;all_goals
    . exact gg2
   | @eW σ z w hs ok nr hw hz=>
    have e:σ<0:=by rcases hs with rfl|rfl <;> omega
    cases h0;all_goals
    . exact gg2
 . have e:ah z=z:=if_neg hn;rw[e];refine⟨v,hv,cI (by rw[C.ft];exact GR) (by simp) ?_⟩;have out:=fun hh=>hv.out (hh:=hh)
   unfold Af;simp only[enter];cases hv with
   | small h=>
    exact gg2
   | @eW σ z w hs ok nr hw hz=>
    have e:¬σ<0:=by rcases hs with rfl|rfl <;> omega
    exact gg2
theorem Ha {x y:Int}:aW (x-y)=if x<y then -1 else if y<x then 1 else 0:=by
 unfold aW;by_cases h:x<y
 . rw[if_pos h,if_pos (by omega)]
 . rw[if_neg h,if_neg (by omega)];by_cases h':y<x
   . rw[if_pos h',if_pos (by omega)]
   . rw[if_neg h',if_neg (by omega)]
theorem SB (C:CJ M N){a b:AV}{x y:Int}(ha:ay a x)(hb:ay b y)(lx:ah x<wB^N)(ly:ah y<wB^N):cH M 167 [a,b] (.iV (aW (x-y))):=by
 obtain⟨v0,h0,q217⟩:=C.Ak a b x y ha hb lx ly;have q211:=C.mw v0 (x-y) h0;refine cI (by rw[C.ft];exact So) (by simp) ?_;unfold GU;simp only[enter];cases ha with
 | small h=>
  cases hb with
  | small h'=>
   by_cases h1:x<y
   . rw[Ha,if_pos h1];exact gg2
   . rw[Ha,if_neg h1];by_cases h2:y<x
     . rw[if_pos h2];exact gg2
     . rw[if_neg h2];exact gg2
  | @eW σ z w hs ok nr hw hz=>
   cases w with
   | nil=>simp[WV]at hw
   | cons u w=>
   exact gg2
 | @eW σ z w hs ok nr hw hz=>
  cases w with
  | nil=>simp[WV]at hw
  | cons u w=>
  cases hb;all_goals
  . exact gg2
theorem SC (hft:M.FT=FT)(s:Int):cH M 168 [.iV s] (.agg [.iV s,.ae]):=by
 refine cI (by rw[hft];exact Sp) (by simp) ?_;unfold GV;simp only[enter];exact gg4
def t198:an:=
 zR [zt 50 2 2,
      z1 51 246 50,
      zn 49 51,
      ze 52 0 49,
      ze 53 1 49,
      zw 7 52,
      zw 8 53]
    (
     zR [zt 55 2 3,
       z1 56 246 55,
       zn 54 56,
       ze 57 0 54,
       ze 58 1 54,
       zw 9 57,
       zw 10 58]
     (
      zR [zm 59 7,
        zm 60 9,
        ⟨(.l 61),.eq true .bool (.l 59) (.l 60),none⟩,
        zm 62 8,
        zm 63 10,
        z2 64 248 62 63,
        z2 65 247 61 64,
        zs 2 4 65]
      (.ret)))
theorem iX {x:Int}:0<=ah x:=by unfold ah;split <;> omega
theorem Hb {x y:Int}(h:x<0↔y<0):ah x*ah y=x*y:=by
 unfold ah;by_cases h1:x<0
 . rw[if_pos h1,if_pos (h.1 h1),Int.neg_mul_neg]
 . rw[if_neg h1,if_neg (fun h2=>h1 (h.2 h2))]
theorem Hc {x y:Int}(h:¬(x<0↔y<0)) : -(ah x*ah y)=x*y:=by
 unfold ah;by_cases h1:x<0
 . rw[if_pos h1,if_neg (fun h2=>h ⟨fun _=>h2,fun _=>h1⟩),Int.neg_mul,Int.neg_neg]
 . rw[if_neg h1,if_pos (Decidable.byContradiction fun h2=>h ⟨fun h3=>absurd h3 h1,fun h3=>absurd h3 h2⟩),Int.mul_neg,Int.neg_neg]
theorem SD {l m r:List Int}(C:CI M N)(ok:okW wB r)(nr:aN r)(okl:okW wB l)(okm:okW wB m)(hr:WV wB r=WV wB l*WV wB m)(hl:WV wB l<wB^N)(hm:WV wB m<wB^N):r.length<=1000001:=by
 have hN:=C.lN;have hp:wB^(N+N)=wB^N*wB^N:=Int.pow_add _ _ _;have l0:=bT (b:=wB) (by decide) okl;have m0:=bT (b:=wB) (by decide) okm;have hp0:0<wB^N:=Int.pow_pos (by decide);have h1:WV wB l*WV wB m<wB^N*wB^N:=by
  have a1:=Int.mul_le_mul_of_nonneg_left (Int.le_of_lt hm) l0;have a2:=Int.mul_lt_mul_of_pos_right hl hp0;omega
 exact Nat.le_trans (fQ (b:=wB) (by decide) ok nr (n:=N+N) (by rw[hr,hp];exact h1)) (by omega)
theorem SE (C:CI M N){s s' za zb:Int}{wa wb:AV}(ha:ay (.agg [.iV s,wa]) za)(hb:ay (.agg [.iV s',wb]) zb)(lza:ah za<wB^N)(lzb:ah zb<wB^N) :
 ∃v0,ay v0 (za*zb)/\∀a0 a1 a5 a6 a7 a8 a9 aA lo wr,W M t198 ⟨⟨[a0,a1,.ptr 0 0,.ptr 1 0,.ptr 2 0,a5,a6,a7,a8,a9,aA],lo,[some (.cells [.iV s,wa] 131),some (.cells [.iV s',wb] 131),some (.cells [.iV 0,.ae] 131)],[]⟩,wr⟩ (jX v0 [.cell 2 true (.p 4)]):=by
 obtain⟨x,l,hx,okl,nrl,vl,q246a⟩:=C.kP _ za ha;obtain⟨y,m,hy,okm,nrm',vm,q246b⟩:=C.kP _ zb hb;have ll:=C.len okl nrl vl lza;have lm:=C.len okm nrm' vm lzb;obtain⟨r,okr,nrr,vr,q248⟩:=C.GZ x l y m hx hy okl okm ll lm;have lr:=SD C okr nrr okl okm vr (by rw[vl];exact lza) (by rw[vm];exact lzb);rw[vl,vm]at vr;by_cases hs:za<0↔zb<0
 . obtain⟨v0,h0,q247⟩:=C.iW false (.vs (ak r) r.length none) r (.inl rfl) okr nrr lr;have h0:ay v0 (za*zb):=by rw[←Hb hs,←vr];exact h0
   refine⟨v0,h0,fun a0 a1 a5 a6 a7 a8 a9 aA lo wr=>?_⟩;have out:=fun hh=>h0.out (hh:=hh)
   unfold t198;by_cases h:za<0 <;> by_cases h':zb<0 <;> simp only[h,h',decide_true,decide_false]at hs q246a q246b
   all_goals first|(exfalso;revert hs;decide)|skip
   all_goals
   . cases h0;all_goals
     . repeat' first|refine gd0 ?_|refine gc ?_|fail
       all_goals exact cA rfl rfl (out _)
 . obtain⟨v0,h0,q247⟩:=C.iW true (.vs (ak r) r.length none) r (.inl rfl) okr nrr lr;have h0:ay v0 (za*zb):=by rw[←Hc hs,←vr];exact h0
   refine⟨v0,h0,fun a0 a1 a5 a6 a7 a8 a9 aA lo wr=>?_⟩;have out:=fun hh=>h0.out (hh:=hh)
   unfold t198;by_cases h:za<0 <;> by_cases h':zb<0 <;> simp only[h,h',decide_true,decide_false]at hs q246a q246b
   all_goals first|(exfalso;revert hs;decide)|skip
   all_goals
   . cases h0;all_goals
     . repeat' first|refine gd0 ?_|refine gc ?_|fail
       all_goals exact cA rfl rfl (out _)
theorem SF (C:CI M N){a b:AV}{za zb:Int}(ha:ay a za)(hb:ay b zb)(lza:ah za<wB^N)(lzb:ah zb<wB^N):∃v0,ay v0 (za*zb)/\cH M 198 [a,b] v0:=by
 have main:∀{s s':Int} {wa wb:AV},a = .agg [.iV s,wa]->b = .agg [.iV s',wb]->∃v0,ay v0 (za*zb)/\∀a0 a1 a5 a6 a7 a8 a9 aA lo wr,W M t198 ⟨⟨[a0,a1,.ptr 0 0,.ptr 1 0,.ptr 2 0,a5,a6,a7,a8,a9,aA],lo,[some (.cells [.iV s,wa] 131),some (.cells [.iV s',wb] 131),some (.cells [.iV 0,.ae] 131)],[]⟩,wr⟩ (jX v0 [.cell 2 true (.p 4)]):=
  fun e1 e2=>SE C (e1 ▸ ha) (e2 ▸ hb) lza lzb
 cases ha with
 | small h=>
  cases hb with
  | small h'=>
   have q245a:=fun k=>C.qz za k h
   have q245b:=fun k=>C.qz zb k h'
   have ga:0<=ah za/\ah za<18446744073709551616:=by unfold ah;split <;> omega
   have gb:0<=ah zb/\ah zb<18446744073709551616:=by unfold ah;split <;> omega
   have q244:=fun k=>C.mr (ah za) (ah zb) k ga gb
   have hm:=ui ga gb;have ms:=@Hb za zb;have md:=@Hc za zb;obtain⟨m,hmm⟩:∃m,m=ah za*ah zb:=⟨_,rfl⟩;rw[←hmm]at q244 hm ms md;by_cases hbig:m<=9223372036854775807
   . by_cases hs:za<0↔zb<0
     . refine⟨.agg [.iV m,.ae],by rw[←ms hs];exact .small (by omega),?_⟩;refine cI (by rw[C.ft];exact qB) (by simp) ?_;have e:m%18446744073709551616=m:=by omega
       have e2:m/18446744073709551616=0:=by omega
       rw[e,e2]at q244;unfold nZ;simp only[enter];by_cases h1:za<0 <;> by_cases h2:zb<0
       all_goals try omega
       all_goals
       . repeat' first|refine gd1 ?_|(apply aab;rfl;rfl)|(apply aaG;rfl;rfl)|(apply aak;rfl;rfl)|refine gd3 ?_|refine gd2 ?_|refine gc ?_|(intro _;omega)|intro _
         all_goals try omega
         all_goals exact cA rfl rfl (.same rfl rfl)
     . refine⟨.agg [.iV (-m),.ae],by rw[←md hs];exact .small (by omega),?_⟩;refine cI (by rw[C.ft];exact qB) (by simp) ?_;have e:m%18446744073709551616=m:=by omega
       have e2:m/18446744073709551616=0:=by omega
       rw[e,e2]at q244;unfold nZ;simp only[enter];by_cases h1:za<0 <;> by_cases h2:zb<0
       all_goals try omega
       all_goals
       . repeat' first|refine gd1 ?_|(apply aab;rfl;rfl)|(apply aaG;rfl;rfl)|(apply aak;rfl;rfl)|refine gd3 ?_|refine gd2 ?_|refine gc ?_|(intro _;omega)|intro _
         all_goals try omega
         all_goals exact cA rfl rfl (.same rfl rfl)
   . obtain⟨v0,h0,tl⟩:=main rfl rfl;refine⟨v0,h0,cI (by rw[C.ft];exact qB) (by simp) ?_⟩;unfold nZ;simp only[enter];exact gg7
  | @eW σ z w hs ok nr hw hz=>
   cases w with
   | nil=>simp[WV]at hw
   | cons y w=>
   obtain⟨v0,h0,tl⟩:=main rfl rfl;refine⟨v0,h0,cI (by rw[C.ft];exact qB) (by simp) ?_⟩;unfold nZ;simp only[enter];exact gg7
 | @eW σ z w hs ok nr hw hz=>
  cases w with
  | nil=>simp[WV]at hw
  | cons y w=>
  cases hb;all_goals
  . obtain⟨v0,h0,tl⟩:=main rfl rfl;refine⟨v0,h0,cI (by rw[C.ft];exact qB) (by simp) ?_⟩;unfold nZ;simp only[enter];exact gg7
structure CD (M:ao)(N:Nat):Prop extends CJ M N where
 n1:1<=N
 oe:∀s h,M.ext 168 [.iV s] h=some ⟨.agg [.iV s,.ae],h,[]⟩
 Hd:∀x l y m,cG x l->cG y m->okW wB l->okW wB m->aN l->aN m->l.length<=500000->m.length<=500000->m≠[]->∃qv q rv r,cG qv q/\cG rv r/\okW wB q/\aN q/\okW wB r/\aN r/\WV wB q=WV wB l/WV wB m/\WV wB r=WV wB l%WV wB m/\∀h,M.ext 253 [x,y] h=some ⟨.aq [qv,rv],h,[]⟩
def t205:an:=
 zR [zt 52 2 2,
      z1 53 246 52,
      zn 51 53,
      ze 54 0 51,
      ze 55 1 51,
      zw 8 54,
      zw 9 55]
    (
     zR [zt 57 2 3,
       z1 58 246 57,
       zn 56 58,
       ze 59 0 56,
       ze 60 1 56,
       zn 10 59,
       zw 10 60]
     (
      zR [zm 62 9,
        zm 63 10,
        z2 64 253 62 63,
        zn 61 64,
        ze 65 0 61,
        ze 66 1 61,
        zw 11 65,
        zw 12 66]
      (
       zR [zm 67 8,
         zm 68 11,
         z2 69 247 67 68,
         zm 70 8,
         zm 71 12,
         z2 72 247 70 71,
         ⟨(.p 13),.alloc 131 [.iV (0),.ae],none⟩,
         ⟨(.p 14),.alloc 131 [.iV (0),.ae],none⟩,
         zs 2 13 69,
         zs 2 14 72]
       (
        .seq (zR [zt 73 2 14,
           z1 74 211 73,
           zc 75 .lss 74 0]
         (
          .cond (.l 75)
          (.draw [(zt 76 2 13,[]),
            (⟨(.l 77),.call (kF 168) [(kI 1)],none⟩,[0]),
            (z2 78 217 76 77,[]),
            (zt 79 2 14,[0,1,2]),
            (zt 80 2 3,[0,1,2,3]),
            (z2 81 202 79 80,[]),
            (zs 2 13 78,[]),
            (zs 2 14 81,[])])
          (.skip)))
        (
         .seq (.draw [(zt 82 2 13,[]),
           (zt 83 2 14,[0]),
           (zs 2 4 82,[1]),
           (zs 2 5 83,[])])
         (.ret))))))
theorem SG {x y:Int}(hy:0<y):(x.tmod y<0->x/y=x.tdiv y-1/\x%y=x.tmod y+y)/\(0<=x.tmod y->x/y=x.tdiv y/\x%y=x.tmod y)/\(-y<x.tmod y/\x.tmod y<y):=by
 have e:=Int.mul_tdiv_add_tmod x y;have hb : -y<x.tmod y/\x.tmod y<y:=by
  rcases Int.le_total 0 x with h|h
  . rw[Int.tmod_eq_emod_of_nonneg h];have:=Int.emod_nonneg x (show y≠0 by omega);have:=Int.emod_lt_of_pos x hy;omega
  . have e:x.tmod y = -(-x%y):=by
     rw[←Int.tmod_eq_emod_of_nonneg (show 0 <= -x by omega),Int.neg_tmod];omega
    have:=Int.emod_nonneg (-x) (show y≠0 by omega);have:=Int.emod_lt_of_pos (-x) hy;omega
 refine⟨fun h=>?_,fun h=>?_,hb⟩
 . obtain⟨h1,h2⟩:=mu (x:=x) (y:=y) (q:=x.tdiv y-1) (r:=x.tmod y+y) (by rw[Int.mul_sub,Int.mul_one];omega) (by omega) (by omega);exact⟨h1.symm,h2.symm⟩
 . obtain⟨h1,h2⟩:=mu (x:=x) (y:=y) (q:=x.tdiv y) (r:=x.tmod y) (by omega) h hb.2;exact⟨h1.symm,h2.symm⟩
theorem SH {x y q r:Int}(hy:0<y)(hx:x<0)(hq:q = -x/y)(hr:r = -x%y):(r=0->x/y = -q/\x%y=0)/\(r≠0->x/y = -q-1/\x%y=y-r)/\(0<=r/\r<y)/\0<=q/\q <= -x:=by
 have e:=Int.mul_ediv_add_emod (-x) y;have r0:=Int.emod_nonneg (-x) (show y≠0 by omega);have r1:=Int.emod_lt_of_pos (-x) hy;have q0:0 <= -x/y:=Int.ediv_nonneg (by omega) (by omega);have q1 : -x/y <= -x:=Int.ediv_le_self _ (by omega);rw[←hq,←hr]at e;rw[←hr]at r0 r1;rw[←hq]at q0 q1;refine⟨fun h=>?_,fun h=>?_,⟨r0,r1⟩,q0,q1⟩
 . obtain⟨h1,h2⟩:=mu (x:=x) (y:=y) (q:=-q) (r:=0) (by rw[Int.mul_neg];omega) (by omega) hy;exact⟨h1.symm,h2.symm⟩
 . obtain⟨h1,h2⟩:=mu (x:=x) (y:=y) (q:=-q-1) (r:=y-r) (by rw[Int.mul_sub,Int.mul_neg,Int.mul_one];omega) (by omega) (by omega);exact⟨h1.symm,h2.symm⟩
theorem Al {a b:AV}{x y:Int}{hh:ab}(ha:ay a x)(hb:ay b y):eZ (aQ [a,b]) hh (.aq [a,b]):=by
 cases ha;all_goals
 . cases hb;all_goals exact .same (by simp[aQ,AV.top,aY,gh]) (by simp[aQ,bx,cB,kd])
theorem cd {x:Int}(h:0<=x):ah x=x:=if_neg (by omega)
theorem SI (C:CD M N):(1:Int)<wB^N:=by
 have h:=fI (b:=wB) (by decide) (m:=1) (n:=N) C.n1;have h3:wB^1=18446744073709551616:=rfl;omega
theorem SJ (C:CD M N){s s' za zb:Int}{wa wb:AV}(ha:ay (.agg [.iV s,wa]) za)(hb:ay (.agg [.iV s',wb]) zb)(lza:ah za<wB^N)(lzb:ah zb<wB^N)(hpos:0<zb) :
 ∃q r,ay q (za/zb)/\ay r (za%zb)/\∀a0 a1 a6 a7 a8 a9 aA aB aC aD aE lo wr,W M t205 ⟨⟨[a0,a1,.ptr 0 0,.ptr 1 0,.ptr 2 0,.ptr 3 0,a6,a7,a8,a9,aA,aB,aC,aD,aE],lo,[some (.cells [.iV s,wa] 131),some (.cells [.iV s',wb] 131),some (.cells [.iV 0,.ae] 131),some (.cells [.iV 0,.ae] 131)],[]⟩,wr⟩ (jX (.aq [q,r]) [.cell 2 true (.p 4),.cell 2 true (.p 5)]):=by
 obtain⟨x,l,hx,okl,nrl,vl,q246a⟩:=C.kP _ za ha;obtain⟨y,m,hy,okm,nrm',vm,q246b⟩:=C.kP _ zb hb;have ll:=C.len okl nrl vl lza;have lm:=C.len okm nrm' vm lzb;have hb0:¬zb<0:=by omega
 rw[cd (by omega)]at vm lzb;have mne:m≠[]:=fun e=>by rw[e]at vm;simp[WV]at vm;omega
 obtain⟨qv,q,rv,r,hq,hr,okq,nrq,okr,nrr,vq,vr,q253⟩:=C.Hd x l y m hx hy okl okm nrl nrm' ll lm mne;rw[vl,vm]at vq vr;have q0:=bT (b:=wB) (by decide) okq;have r0:=bT (b:=wB) (by decide) okr;have a0:=iX (x:=za);have q1:WV wB q<=ah za:=by rw[vq];exact Int.ediv_le_self _ a0
 have r1:WV wB r<zb:=by rw[vr];exact Int.emod_lt_of_pos _ hpos
 have lN:=C.lN;have lq:q.length<=1000001:=Nat.le_trans (fQ (b:=wB) (by decide) okq nrq (n:=N) (by omega)) (by omega);have lr:r.length<=1000001:=Nat.le_trans (fQ (b:=wB) (by decide) okr nrr (n:=N) (by omega)) (by omega);simp only[hb0,decide_false]at q246b;by_cases hn:za<0
 . simp only[hn,decide_true]at q246a;rw[show ah za = -za from if_pos hn]at vq vr q1 lza;obtain⟨d1,d2,d3,d4,d5⟩:=SH hpos hn vq vr;obtain⟨vQ,hQ,q247q⟩:=C.iW true qv q hq okq nrq lq;obtain⟨vR,hR,q247r⟩:=C.iW true rv r hr okr nrr lr;have hQ:ay vQ (-WV wB q):=hQ;have hR:ay vR (-WV wB r):=hR;have q211:=C.mw vR _ hR;by_cases hz:WV wB r=0
   . obtain⟨e1,e2⟩:=d1 hz;rw[show aW (-WV wB r)=0 by rw[hz];rfl]at q211;refine⟨vQ,vR,by rw[e1];exact hQ,by rw[e2];rw[hz]at hR;exact hR,fun a0 a1 a6 a7 a8 a9 aA aB aC aD aE lo wr=>?_⟩;have out:=fun hh=>Al (hh:=hh) hQ hR
     unfold t205;cases hQ;all_goals
     . cases hR;all_goals
       . repeat' first|(apply aab;rfl;rfl)|refine gd0 ?_|refine gc ?_|(intro _;omega)|intro _
         all_goals try omega
         all_goals exact cA rfl rfl (out _)
   . obtain⟨e1,e2⟩:=d2 hz;rw[show aW (-WV wB r) = -1 from if_pos (by omega)]at q211;have q168:=C.oe 1;have h1:=SI C;obtain⟨vS,hS,q217⟩:=C.Ak vQ _ _ 1 hQ (.small (by decide)) (by rw[ib,cd q0];omega) h1;obtain⟨vT,hT,q202⟩:=C.od vR _ _ zb hR hb (by rw[ib,cd r0];omega) (by rw[cd (by omega)];exact lzb);have hS:ay vS (za/zb):=by rw[e1];exact hS
     have hT:ay vT (za%zb):=by rw[e2,show zb-WV wB r = -WV wB r+zb by omega];exact hT
     refine⟨vS,vT,hS,hT,fun a0 a1 a6 a7 a8 a9 aA aB aC aD aE lo wr=>?_⟩;have out:=fun hh=>Al (hh:=hh) hS hT
     unfold t205;cases hQ;all_goals
     . cases hR;all_goals
       . cases hS;all_goals
         . cases hT;all_goals
           . repeat' first|refine gd1 ?_|(apply aab;rfl;rfl)|refine gd0 ?_|refine gc ?_|(intro _;omega)|intro _
             all_goals try omega
             all_goals exact cA rfl rfl (out _)
 . simp only[hn,decide_false]at q246a;rw[show ah za=za from if_neg hn]at vq vr;obtain⟨vQ,hQ,q247q⟩:=C.iW false qv q hq okq nrq lq;obtain⟨vR,hR,q247r⟩:=C.iW false rv r hr okr nrr lr;have hQ:ay vQ (za/zb):=by rw[←vq];exact hQ
   have q211:=C.mw vR _ hR;have hR:ay vR (za%zb):=by rw[←vr];exact hR
   obtain⟨g,hg⟩:∃g,g=aW (fm false (WV wB r)):=⟨_,rfl⟩;have g0:0<=g:=by rw[hg];unfold aW fm;simp;split <;> omega
   rw[←hg]at q211;refine⟨vQ,vR,hQ,hR,fun a0 a1 a6 a7 a8 a9 aA aB aC aD aE lo wr=>?_⟩;have out:=fun hh=>Al (hh:=hh) hQ hR
   unfold t205;cases hQ;all_goals
   . cases hR;all_goals
     . repeat' first|(apply aab;rfl;rfl)|refine gd0 ?_|refine gc ?_|(intro _;omega)|intro _
       all_goals try omega
       all_goals exact cA rfl rfl (out _)
theorem SK (C:CD M N){a b:AV}{za zb:Int}(ha:ay a za)(hb:ay b zb)(lza:ah za<wB^N)(lzb:ah zb<wB^N)(hpos:0<zb):∃q r,ay q (za/zb)/\ay r (za%zb)/\cH M 205 [a,b] (.aq [q,r]):=by
 have main:∀{s s':Int} {wa wb:AV},a = .agg [.iV s,wa]->b = .agg [.iV s',wb]->∃q r,ay q (za/zb)/\ay r (za%zb)/\∀a0 a1 a6 a7 a8 a9 aA aB aC aD aE lo wr,W M t205 ⟨⟨[a0,a1,.ptr 0 0,.ptr 1 0,.ptr 2 0,.ptr 3 0,a6,a7,a8,a9,aA,aB,aC,aD,aE],lo,[some (.cells [.iV s,wa] 131),some (.cells [.iV s',wb] 131),some (.cells [.iV 0,.ae] 131),some (.cells [.iV 0,.ae] 131)],[]⟩,wr⟩ (jX (.aq [q,r]) [.cell 2 true (.p 4),.cell 2 true (.p 5)]):=
  fun e1 e2=>SJ C (e1 ▸ ha) (e2 ▸ hb) lza lzb hpos
 cases ha with
 | small h=>
  cases hb with
  | small h'=>
   by_cases hmin:za = -9223372036854775808
   . obtain⟨q,r,hq,hr,tl⟩:=main rfl rfl;refine⟨q,r,hq,hr,cI (by rw[C.ft];exact qC) (by simp) ?_⟩;unfold oc;simp only[enter];exact gg15
   . obtain⟨d1,d2,d3⟩:=SG (x:=za) hpos;have hq : -9223372036854775807<=za.tdiv zb/\za.tdiv zb<=9223372036854775807:=by
      have h1:(za.tdiv zb).natAbs<=za.natAbs:=by rw[Int.natAbs_tdiv];exact Nat.div_le_self _ _
      omega
     by_cases hr:za.tmod zb<0
     . obtain⟨e1,e2⟩:=d1 hr;refine⟨_,_,by rw[e1];exact .small (by omega),by rw[e2];exact .small (by omega),cI (by rw[C.ft];exact qC) (by simp) ?_⟩;unfold oc;simp only[enter];repeat' first|(apply aab;rfl;rfl)|(apply aaF;rfl;rfl)|(apply abk;rfl;rfl;omega)|(apply abj;rfl;rfl;omega;omega)|refine gc ?_|(intro _;omega)|intro _
       all_goals try omega
       all_goals exact cA rfl rfl (.same rfl rfl)
     . obtain⟨e1,e2⟩:=d2 (by omega);refine⟨_,_,by rw[e1];exact .small (by omega),by rw[e2];exact .small (by omega),cI (by rw[C.ft];exact qC) (by simp) ?_⟩;unfold oc;simp only[enter];repeat' first|(apply aab;rfl;rfl)|(apply aaF;rfl;rfl)|(apply abk;rfl;rfl;omega)|(apply abj;rfl;rfl;omega;omega)|refine gc ?_|(intro _;omega)|intro _
       all_goals try omega
       all_goals exact cA rfl rfl (.same rfl rfl)
  | @eW σ z w hs ok nr hw hz=>
   cases w with
   | nil=>simp[WV]at hw
   | cons y w=>
   obtain⟨q,r,hq,hr,tl⟩:=main rfl rfl;refine⟨q,r,hq,hr,cI (by rw[C.ft];exact qC) (by simp) ?_⟩;unfold oc;simp only[enter];exact gg15
 | @eW σ z w hs ok nr hw hz=>
  cases w with
  | nil=>simp[WV]at hw
  | cons y w=>
  cases hb;all_goals
  . obtain⟨q,r,hq,hr,tl⟩:=main rfl rfl;refine⟨q,r,hq,hr,cI (by rw[C.ft];exact qC) (by simp) ?_⟩;unfold oc;simp only[enter];exact gg15
end Go.Ab.Ch1
