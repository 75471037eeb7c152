/-
  Own work: slices.SortStableFunc over ints: blocks and merges, whole.
-/
import Derived.Test.YtcjphdmkgmkabaaGreatDoorLib11
import Derived.Test.YtcjphdmkgmkabaaGreatDoorLib4
import Derived.Test.YtcjphdmkgmkabaaGreatDoorLib6
import Derived.Test.YtcjphdmkgmkabaaGreatDoorCh1Base
import Derived.Test.YtcjphdmkgmkabaaGreatDoorLib10
set_option maxHeartbeats 8000000
set_option maxRecDepth 20000
namespace Go.Ab.Ch1
open Go.Ab.Sort
variable {M:ao} {h:ab} {b n:Nat} {cap:Option Nat} {g:AV}
variable {key:Int->Int} {ok:Int->Prop} {cf:Int->Int->Int}
theorem Zy (C:ie M)(hb:b<h.length)(hn:n<2305843009213693952)(hc:ij M h b g ok cf)(hcf:∀x y,ok x->ok y->(cf x y<0↔key y<key x))(a6:AV){Q:Ex->al->Prop}:∀(r:Nat) (P X:List Int) (lo:List (Nat×AV)) (wr:List Nat),X.length<=r->(P++X).length=n->bG b wr->X.Pairwise (· < ·)->(∀y∈X,ok y) ->
 (∀P' X' lo wr l a5,bG b wr->l=P'++X'->l.length=n->X'.length<20->X'.Pairwise (· < ·)->(∀y∈X',ok y)->(∀S,Sd key S->S.Perm X'->∃T,P'++S=P++T/\Ch key 20 T X)->Q (.exit 0) ⟨⟨[.sl b 0 n 1 cap,.iV n,g,.iV 20,.iV P'.length,a5,a6],lo,h.put b (some (.cells (ints l) 3)),[]⟩,wr⟩) ->
 W M (.loop rD) ⟨⟨[.sl b 0 n 1 cap,.iV n,g,.iV 20,.iV P.length,.iV (P.length+20:Nat),a6],lo,h.put b (some (.cells (ints (P++X)) 3)),[]⟩,wr⟩ Q:=by
 intro r;induction r with
 | zero=>
  intro P X lo wr hr hl hw hlt ho hQ;have hl':P.length+X.length=n:=by simpa using hl
  refine W.loop ?_;unfold rD;repeat' first|(apply aaG;rfl;rfl)|refine gc ?_|(intro _;omega)|intro _
  . exact hQ P X _ _ _ _ hw rfl hl (by omega) hlt ho (fun S h1 h2=>⟨S,rfl,.last (by rw[h2.length_eq];omega) h1 h2⟩)
 | succ r ih=>
  intro P X lo wr hr hl hw hlt ho hQ;have hl':P.length+X.length=n:=by simpa using hl
  refine W.loop ?_;by_cases hX:X.length<20
  . unfold rD;repeat' first|(apply aaG;rfl;rfl)|refine gc ?_|(intro _;omega)|intro _
    . exact hQ P X _ _ _ _ hw rfl hl hX hlt ho (fun S h1 h2=>⟨S,rfl,.last (by rw[h2.length_eq];omega) h1 h2⟩)
  . obtain⟨X1,X2,rfl,h1⟩:∃X1 X2,X=X1++X2/\X1.length=20:=⟨X.take 20,X.drop 20,by simp,by simp;omega⟩;have hl1:(X1++X2).length=X1.length+X2.length:=List.length_append;have hpw:=List.pairwise_append.1 hlt;obtain⟨S,wr',hw',⟨g1,g2⟩,hcc⟩:=KW (cap:=cap) (A:=P) (X:=X1) (B:=X2) C hb hn hc hcf (by simpa using hl) hpw.1 (fun y hy=>ho y (by simp[hy]));have hS:S.length=20:=by rw[g2.length_eq,h1]
    rw[h1,List.append_assoc]at hcc;unfold rD;repeat' first|(apply aaG;rfl;rfl)|(apply aaC;rfl;rfl;first|exact hcc)|refine gc ?_|(intro _;omega)|intro _
    refine cW ?_;rw[show ((P.length+20:Nat):Int)+20=(((P++S).length+20:Nat):Int) by simp;omega,show ((P.length+20:Nat):Int)=((P++S).length:Int) by simp;omega];refine ih (P++S) X2 _ _ (by omega) (by simp;omega) (hw'.app hw) hpw.2.1 (fun y hy=>ho y (by simp[hy])) (fun P' X' lo wr l a5 k1 k2 k3 k4 k5 k6 k7=>?_);refine hQ P' X' lo wr l a5 k1 k2 k3 k4 k5 k6 (fun S' h3 h4=>?_);obtain⟨T,e1,e2⟩:=k7 S' h3 h4;exact⟨S++T,by rw[e1];simp,.more hS g1 g2 e2⟩
theorem Zz (C:ie M)(hb:b<h.length)(hn:n<2305843009213693952)(hc:ij M h b g ok cf)(hcf:∀x y,ok x->ok y->(cf x y<0↔key y<key x))(bs:Nat)(hbs:0<bs)(hbn:bs<n)(a6:AV){Q:Ex->al->Prop}:∀(r:Nat) (P T T0:List Int) (lo:List (Nat×AV)) (wr:List Nat),T.length<=r->(P++T).length=n->bG b wr->Ch key bs T T0->T0.Pairwise (· < ·)->(∀y∈T0,ok y) ->
 (∀P' T' T0' lo wr l a5,bG b wr->l=P'++T'->l.length=n->T'.length<2*bs->Ch key bs T' T0'->T0'.Pairwise (· < ·)->(∀y∈T0',ok y)->(∀U,Ch key (2*bs) U T0'->∃U',P'++U=P++U'/\Ch key (2*bs) U' T0)->Q (.exit 4) ⟨⟨[.sl b 0 n 1 cap,.iV n,g,.iV bs,.iV P'.length,a5,a6],lo,h.put b (some (.cells (ints l) 3)),[]⟩,wr⟩) ->
 W M (.loop rE) ⟨⟨[.sl b 0 n 1 cap,.iV n,g,.iV bs,.iV P.length,.iV (P.length+2*bs:Nat),a6],lo,h.put b (some (.cells (ints (P++T)) 3)),[]⟩,wr⟩ Q:=by
 intro r;induction r with
 | zero=>
  intro P T T0 lo wr hr hl hw hch hlt ho hQ;have hl':P.length+T.length=n:=by simpa using hl
  refine W.loop ?_;unfold rE;repeat' first|(apply aaG;rfl;rfl)|refine gc ?_|(intro _;omega)|intro _
  . exact hQ P T T0 _ _ _ _ hw rfl hl (by omega) hch hlt ho (fun U h=>⟨U,rfl,h⟩)
 | succ r ih=>
  intro P T T0 lo wr hr hl hw hch hlt ho hQ;have hl':P.length+T.length=n:=by simpa using hl
  refine W.loop ?_;by_cases hT:T.length<2*bs
  . unfold rE;repeat' first|(apply aaG;rfl;rfl)|refine gc ?_|(intro _;omega)|intro _
    . exact hQ P T T0 _ _ _ _ hw rfl hl hT hch hlt ho (fun U h=>⟨U,rfl,h⟩)
  . obtain⟨S1,S10,m1,m10,rfl,rfl,h1,h2,h3,h4⟩:=hch.full (by omega);have hm1:(S1++m1).length=S1.length+m1.length:=List.length_append;obtain⟨S2,S20,T2,nO,rfl,rfl,h5,h6,h7,h8⟩:=h4.full (by omega);have hm2:(S2++T2).length=S2.length+T2.length:=List.length_append;have hpw:=List.pairwise_append.1 hlt;have hpw2:=List.pairwise_append.1 hpw.2.1;have hcross:∀x∈S1,∀y∈S2,x<y:=fun x hx y hy=>hpw.2.2 x (h3.mem_iff.1 hx) y (by simp[h7.mem_iff.1 hy])
    obtain⟨S,wr',hw',⟨g1,g2⟩,hcc⟩:=wC (cap:=cap) C hb hn hc hcf (S1.length+S2.length) P S1 S2 T2 (Nat.le_refl _) (List.length_pos_iff.1 (by omega)) (List.length_pos_iff.1 (by omega)) (by simp at hl ⊢;omega) h2 h6 hcross (fun x hx=>ho x (by simp[h3.mem_iff.1 hx])) (fun y hy=>ho y (by simp[h7.mem_iff.1 hy]));have hS:S.length=2*bs:=by rw[g2.length_eq,List.length_append];omega
    have hcc':CT M (fn 222) [.sl b 0 n 1 cap,.iV P.length,.iV ((P.length:Int)+(bs:Int)),.iV (P.length+2*bs:Nat),g] (h.put b (some (.cells (ints (P++(S1++(S2++T2)))) 3))) ⟨.aq [],h.put b (some (.cells (ints (P++S++T2)) 3)),wr'⟩:=by
     rw[show (P.length:Int)+(bs:Int)=((P.length+S1.length:Nat):Int) by omega,show P.length+2*bs=P.length+S1.length+S2.length by omega,show P++(S1++(S2++T2))=P++S1++S2++T2 by simp];exact hcc
    unfold rE;refine gg5 ?_;refine cW ?_;rw[show ((P.length+2*bs:Nat):Int)+2*(bs:Int)=(((P++S).length+2*bs:Nat):Int) by simp;omega,show ((P.length+2*bs:Nat):Int)=((P++S).length:Int) by simp;omega];refine ih (P++S) T2 nO _ _ (by omega) (by simp;omega) (hw'.app hw) h8 hpw2.2.1 (fun y hy=>ho y (by simp[hy])) (fun P' T' T0' lo wr l a5 k1 k2 k3 k4 k5 k6 k7 k8=>?_);refine hQ P' T' T0' lo wr l a5 k1 k2 k3 k4 k5 k6 k7 (fun U hU=>?_);obtain⟨U',e1,e2⟩:=k8 U hU;refine⟨S++U',by rw[e1];simp,?_⟩;have:Ch key (2*bs) (S++U') ((S10++S20)++nO):=.more hS g1 (g2.trans (h3.append h7)) e2;simpa using this
theorem ZA (C:ie M)(hb:b<h.length)(hn:n<2305843009213693952)(hc:ij M h b g ok cf)(hcf:∀x y,ok x->ok y->(cf x y<0↔key y<key x))(l0:List Int)(hlt:l0.Pairwise (· < ·))(ho:∀y∈l0,ok y){Q:Ex->al->Prop}:∀(r bs:Nat) (l:List Int) (a4 a5 a6:AV) (lo:List (Nat×AV)) (wr:List Nat),n-bs<=r->0<bs->l.length=n->bG b wr->Ch key bs l l0 ->
 (∀l a3 a4 a5 a6 lo wr,bG b wr->Sd key l->l.Perm l0->Q (.exit 2) ⟨⟨[.sl b 0 n 1 cap,.iV n,g,a3,a4,a5,a6],lo,h.put b (some (.cells (ints l) 3)),[]⟩,wr⟩) ->
 W M (.loop rF) ⟨⟨[.sl b 0 n 1 cap,.iV n,g,.iV bs,a4,a5,a6],lo,h.put b (some (.cells (ints l) 3)),[]⟩,wr⟩ Q:=by
 intro r;induction r with
 | zero=>
  intro bs l a4 a5 a6 lo wr hr hbs hl hw hch hQ;refine W.loop ?_;unfold rF;repeat' first|(apply aab;rfl;rfl)|refine gc ?_|(intro _;omega)|intro _
  . exact hQ l _ _ _ _ _ _ hw (hch.done (by omega)) hch.perm
 | succ r ih=>
  intro bs l a4 a5 a6 lo wr hr hbs hl hw hch hQ;refine W.loop ?_;by_cases hd:n<=bs
  . unfold rF;repeat' first|(apply aab;rfl;rfl)|refine gc ?_|(intro _;omega)|intro _
    . exact hQ l _ _ _ _ _ _ hw (hch.done (by omega)) hch.perm
  . have h0:([]:List Int).length=0:=rfl;unfold rF;refine gg5 ?_;rw[show (2:Int)*(bs:Int)=((([]:List Int).length+2*bs:Nat):Int) by simp,show (AV.int IntKind.i64 0)=AV.int IntKind.i64 (([]:List Int).length:Int) from rfl];refine Zz C hb hn hc hcf bs hbs (by omega) _ n [] l l0 _ _ (by omega) (by simpa using hl) hw hch hlt ho (fun P T T0 lo wr l a5 k1 k2 k3 k4 k5 k6 k7 k8=>?_);have hlen:P.length+T.length=n:=by rw[←k3,k2,List.length_append]
    by_cases hT:bs<T.length
    . obtain⟨S1,S10,m1,m10,rfl,rfl,h1,h2,h3,h4⟩:=k5.full (by omega);have hm1:(S1++m1).length=S1.length+m1.length:=List.length_append;have hpw:=List.pairwise_append.1 k6;obtain⟨S,wr',hw',⟨g1,g2⟩,hcc⟩:=wC (cap:=cap) C hb hn hc hcf (S1.length+m1.length) P S1 m1 [] (Nat.le_refl _) (List.length_pos_iff.1 (by omega)) (List.length_pos_iff.1 (by omega)) (by simp;omega) h2 (h4.done (by omega)) (fun x hx y hy=>hpw.2.2 x (h3.mem_iff.1 hx) y (h4.perm.mem_iff.1 hy)) (fun x hx=>k7 x (by simp[h3.mem_iff.1 hx])) (fun y hy=>k7 y (by simp[h4.perm.mem_iff.1 hy]));have hS:S.length<=2*bs:=by rw[g2.length_eq,List.length_append];omega
      have hcc':CT M (fn 222) [.sl b 0 n 1 cap,.iV P.length,.iV ((P.length:Int)+(bs:Int)),.iV n,g] (h.put b (some (.cells (ints l) 3))) ⟨.aq [],h.put b (some (.cells (ints (P++S)) 3)),wr'⟩:=by
       rw[show (P.length:Int)+(bs:Int)=((P.length+S1.length:Nat):Int) by omega,show ((n:Nat):Int)=((P.length+S1.length+m1.length:Nat):Int) by omega,show l=P++S1++m1++[] by rw[k2];simp,show P++S=P++S++[] by simp];exact hcc
      obtain⟨U,e1,e2⟩:=k8 S (.last hS g1 (g2.trans (h3.append h4.perm)));refine gg5 ?_;refine cW ?_;rw[show (bs:Int)*2=((2*bs:Nat):Int) by omega,e1,List.nil_append];exact ih (2*bs) U _ _ _ _ _ (by omega) (by omega) (by have:=congrArg List.length e1;simp at this;rw[←this,g2.length_eq];simp;omega) (hw'.app k1) e2 hQ
    . obtain⟨U,e1,e2⟩:=k8 T (.last (by omega) (k5.done (by omega)) k5.perm);refine gg5 ?_;refine cW ?_;rw[show (bs:Int)*2=((2*bs:Nat):Int) by omega,k2,e1,List.nil_append];exact ih (2*bs) U _ _ _ _ _ (by omega) (by omega) (by have:=congrArg List.length e1;simp at this;omega) k1 e2 hQ
theorem ZB (C:ie M)(hb:b<h.length)(hn:n<2305843009213693952)(hc:ij M h b g ok cf)(hcf:∀x y,ok x->ok y->(cf x y<0↔key y<key x)){l:List Int}(hl:l.length=n)(hlt:l.Pairwise (· < ·))(ho:∀y∈l,ok y) :
 ∃S wr,bG b wr/\(Sd key S/\S.Perm l)/\CT M (fn 99) [.sl b 0 n 1 cap,g] (h.put b (some (.cells (ints l) 3))) ⟨.aq [],h.put b (some (.cells (ints S) 3)),wr⟩:=by
 have h0:([]:List Int).length=0:=rfl;obtain⟨S,wr,hw,⟨g1,g2⟩,hr⟩:=kC (M:=M) (l:=l) (e:=3) (f:=fun x=>[.iV x]) (P:=fun l'=>Sd key l'/\l'.Perm l)
  (ars:=[.sl b 0 n 1 cap,.iV n,g]) (by rw[C.ft];exact Zd) (by simp) hb (fun _=>rfl) (by
   unfold Ky;simp only[enter];repeat' first|refine gc ?_|fail
   refine Zy C hb hn hc hcf _ n [] l _ _ (by omega) (by simpa using hl) bG.nil hlt ho (fun P X lo wr l' a5 k1 k2 k3 k4 k5 k6 k7=>?_);have hlen:P.length+X.length=n:=by rw[←k3,k2,List.length_append]
   obtain⟨S,wr',hw',⟨g1,g2⟩,hcc⟩:=KW (cap:=cap) (A:=P) (X:=X) (B:=[]) C hb hn hc hcf (by simpa using hlen) k5 k6;have hcc':CT M (fn 221) [.sl b 0 n 1 cap,.iV P.length,.iV n,g] (h.put b (some (.cells (ints l') 3))) ⟨.aq [],h.put b (some (.cells (ints (P++S)) 3)),wr'⟩:=by
    rw[show ((n:Nat):Int)=((P.length+X.length:Nat):Int) by omega,show l'=P++X++[] by rw[k2];simp,show P++S=P++S++[] by simp];exact hcc
   obtain⟨T,e1,e2⟩:=k7 S g1 g2;refine gg5 ?_;rw[e1,List.nil_append];refine ZA C hb hn hc hcf l hlt ho n 20 T _ _ _ _ _ (by omega) (by omega) (by have:=congrArg List.length e1;simp at this;rw[←this,g2.length_eq];exact hlen) (hw'.app k1) e2 (fun l' a3 a4 a5 a6 lo wr q1 q2 q3=>?_);repeat' first|refine gc ?_|fail
   exact⟨.inl rfl,rfl,l',rfl,q1,q2,q3⟩)
 have hct:=jd C.KP hr;obtain⟨S',wr',hw',⟨rfl⟩,hr'⟩:=kC (M:=M) (l:=l) (e:=3) (f:=fun x=>[.iV x]) (P:=fun l'=>l'=S)
  (ars:=[.sl b 0 n 1 cap,g]) (by rw[C.ft];exact YY) (by simp) hb (fun _=>rfl) (by
   unfold Kt;simp only[enter];repeat' first|(apply aaC;rfl;rfl;first|exact hct)|refine gc ?_|fail
   exact⟨.inl rfl,rfl,S,rfl,hw.app bG.nil,rfl⟩)
 exact⟨S,wr',hw',⟨g1,g2⟩,jd C.KO hr'⟩
def dS (w:List Int):Int:=if w.length=0 then 12 else if 256<w.length then 5 else if (w.all fun x=>decide (0<=x/\x<=999999999))=false then 3 else if (w.all fun x=>decide (x=0))=true then 6 else 0
theorem ZC {w:List Int}(h:dS w=0):(∀x∈w,0<=x/\x<=999999999)/\0<Sort.sum w/\w.length<=256:=by
 unfold dS at h;repeat' split at h
 all_goals first|omega|skip
 rename_i h1 h2 h3 h4;have h3':∀x∈w,0<=x/\x<=999999999:=by simpa using h3
 refine⟨h3',?_,by omega⟩;have h0:=mJ fun x hx=>(h3' x hx).1
 rcases Int.lt_or_eq_of_le h0 with h|h
 . exact h
 . exfalso;have:=KI (fun x hx=>(h3' x hx).1) h.symm;exact h4 (by simpa using this)
structure pa (hp:ab)(total:Int)(w:List Int)(cap:Option Nat):Prop where
 r0:hp.at 0=some (.cells [.iV total] 3)
 r1:hp.at 1=some (.cells [.vs (ints w) w.length cap] 22)
 r2:hp.at 3=some (.cells [.iV (Sort.sum w)] 3)
theorem rd {hp:ab}{b:Nat}{c:List AV}{e:TypeId}(h:hp.at b=some (.cells c e)):ew hp (.ptr b 0)=some c:=by
 simp[ew,h]
def ik (total:Int)(w:List Int):Prop:=0<=total/\total<=999999999/\(∀x∈w,0<=x/\x<=999999999)/\0<Sort.sum w/\w.length<=256
theorem ik.mul {total:Int}{w:List Int}(h:ik total w){x:Int}(hx:x∈w):0<=total*x/\total*x<=999999998000000001:=by
 obtain⟨h1,h2,h3,_⟩:=h;obtain⟨g1,g2⟩:=h3 x hx;refine⟨Int.mul_nonneg h1 g1,?_⟩;have:=Int.mul_le_mul h2 g2 g1 (by omega);omega
theorem ik.sum {total:Int}{w:List Int}(h:ik total w):0<Sort.sum w/\Sort.sum w<=256000000000:=by
 obtain⟨_,_,h3,h4,h5⟩:=h;have:=rK fun x hx=>(h3 x hx).2
 omega
theorem Dd {w:List Int}{i:Nat}(h:i<w.length):w.getD ((i:Int)).toNat 0=w[i]! := by
 rw[Int.toNat_natCast,getElem!_pos w i h];simp[List.getD_eq_getElem?_getD,h]
theorem ZD (hft:M.FT=FT)(hn:∀ars h,M.ext 100 ars h=none){hp:ab}{total:Int}{w:List Int}{cap:Option Nat}(H:pa hp total w cap)(hw:ik total w)(x y:Int)(hx:0<=x/\x<w.length)(hy:0<=y/\y<w.length) :
 CT M (.fn (.func 100) [] [.ptr 0 0,.ptr 1 0,.ptr 3 0]) [.iV x,.iV y] hp ⟨.iV (cD total w y-cD total w x),hp,[]⟩:=by
 obtain⟨i,rfl⟩:∃i:Nat,x=i:=⟨x.toNat,by omega⟩;obtain⟨j,rfl⟩:∃j:Nat,y=j:=⟨y.toNat,by omega⟩;have hi:i<w.length:=by omega
 have hj:j<w.length:=by omega
 have e1:cD total w i=total*w[i]! % Sort.sum w:=by unfold cD;rw[Dd hi]
 have e2:cD total w j=total*w[j]! % Sort.sum w:=by unfold cD;rw[Dd hj]
 have b1:((i:Int)).toNat<w.length:=by omega
 have b2:((j:Int)).toNat<w.length:=by omega
 have t1:w[((i:Int)).toNat]! = w[i]! := by rw[Int.toNat_natCast]
 have t2:w[((j:Int)).toNat]! = w[j]! := by rw[Int.toNat_natCast]
 have m1:=hw.mul (fl b1);have m2:=hw.mul (fl b2);have s1:=hw.sum;have q0:=rd H.r0;have q1:=rd H.r1;have q2:=rd H.r2;refine CT.run (hn _ _) (tF (by rw[hft];exact YZ) (by simp) ?_);unfold Ku;simp only[List.nil_append,List.cons_append];simp only[enter];exact gg4
theorem Lb (l:List Int)(x:Int):ints l++[.iV x]=ints (l++[x]):=by simp[ints,arr]
theorem Lc (l:List Int):(ints l).length=l.length:=by
 have:=js (f:=fun x:Int=>[AV.iV x]) (esz:=1) (fun _=>rfl) l;simpa[ints] using this
theorem rP {w:List Int}{i:Nat}(h:i<w.length):w.take (i+1)=w.take i++[w[i]!]:=by
 rw[List.take_add_one,List.getElem?_eq_getElem h,getElem!_pos w i h];rfl
theorem pb {total:Int}{w:List Int}:(base total w).length=w.length:=by simp[base]
theorem ZE {total:Int}{w:List Int}{i:Nat}(h:i<w.length):(base total w)[i]! = total*w[i]! / Sort.sum w:=by
 rw[getElem!_pos w i h,getElem!_pos (base total w) i (by rw[pb];exact h)];simp[base]
theorem wD {l:List Int}(h:∀x∈l,0<=x)(i:Nat):0<=Sort.sum (l.take i)/\Sort.sum (l.take i)<=Sort.sum l:=by
 have h1:=mJ (l:=l.take i) fun x hx=>h x (List.mem_of_mem_take hx)
 have h2:=mJ (l:=l.drop i) fun x hx=>h x (List.mem_of_mem_drop hx)
 have h3:Sort.sum l=Sort.sum (l.take i)+Sort.sum (l.drop i):=by rw[←sum_append,List.take_append_drop]
 omega
theorem ZF {total:Int}{w:List Int}(h:ik total w):∀x∈base total w,0<=x:=by
 intro x hx;obtain⟨y,hy,rfl⟩:=List.mem_map.1 hx;exact Int.ediv_nonneg (h.mul hy).1 (Int.le_of_lt h.sum.1)
theorem Ld {total:Int}{w:List Int}(h:ik total w)(i:Nat):0<=total-Sort.sum ((base total w).take i)/\total-Sort.sum ((base total w).take i)<=total:=by
 have h1:=wD (ZF h) i;have h2:=(CZ (total:=total) h.sum.1).1;unfold dK at h2;omega
theorem Le {total:Int}{w:List Int}{cap:Option Nat}{X:Option bc}(hw:∀x∈w,0<=x/\x<=999999999)(hn:w.length<=256)(a0 a1 a3 a4 a5 a6 a9 a10 a11 a12 a13 a14 a18 a19 a20 a21 a22 a23:AV){Q:Ex->al->Prop}:∀(r i:Nat),i+r=w.length->∀(a8:AV) (lo:List (Nat×AV)) (wr:List Nat),
 (∀a8 lo wr,Q (.exit 0) ⟨⟨[a0,a1,.ptr 0 0,a3,a4,a5,a6,.ptr 3 0,a8,a9,a10,a11,a12,a13,a14,.vs (ints w) w.length cap,.iV w.length,.iV w.length,a18,a19,a20,a21,a22,a23],lo,[some (.cells [.iV total] 3),some (.cells [.vs (ints w) w.length cap] 22),X,some (.cells [.iV (Sort.sum w)] 3)],[]⟩,wr⟩) ->
 W M (.loop vZ) ⟨⟨[a0,a1,.ptr 0 0,a3,a4,a5,a6,.ptr 3 0,a8,a9,a10,a11,a12,a13,a14,.vs (ints w) w.length cap,.iV w.length,.iV i,a18,a19,a20,a21,a22,a23],lo,[some (.cells [.iV total] 3),some (.cells [.vs (ints w) w.length cap] 22),X,some (.cells [.iV (Sort.sum (w.take i))] 3)],[]⟩,wr⟩ Q
 | 0,i,hi,a8,lo,wr,hQ=>by
  obtain rfl:i=w.length:=by omega
  rw[List.take_length];refine W.loop ?_;unfold vZ;repeat' first|(apply aab;rfl;rfl)|refine gc ?_|(intro _;omega)|intro _
  . exact hQ _ _ _
 | r+1,i,hi,a8,lo,wr,hQ=>by
  have hl:i<w.length:=by omega
  have e1:((i:Int)).toNat=i:=by omega
  have b1:((i:Int)).toNat<w.length:=by omega
  have h1:=wD (fun x hx=>(hw x hx).1) i;have h2:=rK (l:=w) fun x hx=>(hw x hx).2
  have h3:=hw _ (fl b1);refine W.loop ?_;unfold vZ;refine gg5 ?_;refine cW ?_;have e2:Sort.sum (w.take i)+w[((i:Int)).toNat]! = Sort.sum (w.take (i+1)):=by
   rw[rP hl,sum_append,e1];simp[Sort.sum]
  have ih:=Le (Q:=Q) (total:=total) (cap:=cap) (X:=X) hw hn a0 a1 a3 a4 a5 a6 a9 a10 a11 a12 a13 a14 a18 a19 a20 a21 a22 a23 r (i+1) (by omega);rw[←e2]at ih;exact ih _ _ _ hQ
theorem Lf {total:Int}{w:List Int}{cap:Option Nat}(hw:ik total w)(a0 a1 a3 a4 a5 a6 a8 a14 a15 a16 a17 a21 a22 a23:AV){Q:Ex->al->Prop}:∀(r i:Nat),i+r=w.length->∀(hp:ab) (bs bo:Nat) (cs co:Option Nat) (a12 a13:AV) (lo:List (Nat×AV)) (wr:List Nat),pa hp total w cap->hp.at bs=some (.cells (ints ((base total w).take i)) 3)->hp.at bo=some (.cells (ints (bU i)) 3)->bs≠bo->3<bs->3<bo->(cs=none\/cs=some 0/\i=0)->(co=none\/co=some 0/\i=0) ->
 (∀(hp:ab) bs bo cs co a12 a13 lo wr,pa hp total w cap->hp.at bs=some (.cells (ints (base total w)) 3)->hp.at bo=some (.cells (ints (bU w.length)) 3)->bs≠bo->3<bs->3<bo->(cs=none\/cs=some 0/\w.length=0)->(co=none\/co=some 0/\w.length=0) ->
   Q (.exit 2) ⟨⟨[a0,a1,.ptr 0 0,a3,a4,a5,a6,.ptr 3 0,a8,.sl bs 0 w.length 1 cs,.sl bo 0 w.length 1 co,.iV (dK total w),a12,a13,a14,a15,a16,a17,.vs (ints w) w.length cap,.iV w.length,.iV w.length,a21,a22,a23],lo,hp,[]⟩,wr⟩) ->
 W M (.loop rB) ⟨⟨[a0,a1,.ptr 0 0,a3,a4,a5,a6,.ptr 3 0,a8,.sl bs 0 i 1 cs,.sl bo 0 i 1 co,.iV (total-Sort.sum ((base total w).take i)),a12,a13,a14,a15,a16,a17,.vs (ints w) w.length cap,.iV w.length,.iV i,a21,a22,a23],lo,hp,[]⟩,wr⟩ Q
 | 0,i,hi,hp,bs,bo,cs,co,a12,a13,lo,wr,H,h1,h2,h3,h4,h5,h6,h7,hQ=>by
  obtain rfl:i=w.length:=by omega
  rw[List.take_of_length_le (by rw[pb];exact Nat.le_refl _)]at h1 ⊢;refine W.loop ?_;unfold rB;repeat' first|(apply aab;rfl;rfl)|refine gc ?_|(intro _;omega)|intro _
  . exact hQ hp bs bo cs co _ _ _ _ H h1 h2 h3 h4 h5 h6 h7
 | r+1,i,hi,hp,bs,bo,cs,co,a12,a13,lo,wr,H,h1,h2,h3,h4,h5,h6,h7,hQ=>by
  have hl:i<w.length:=by omega
  have e1:((i:Int)).toNat=i:=by omega
  have b1:((i:Int)).toNat<w.length:=by omega
  have m1:=hw.mul (fl b1);have s1:=hw.sum;have hn:=hw.2.2.2.2;have ht:=hw.2.1;have g1:=Ld hw i;have g2:=Ld hw (i+1);have eb:(base total w).take (i+1)=(base total w).take i++[total*w[((i:Int)).toNat]! / Sort.sum w]:=by
   rw[rP (by rw[pb];exact hl),ZE hl,e1]
  have el:(ints ((base total w).take i)).length=i:=by rw[Lc,List.length_take,pb];omega
  have eo:(ints (bU i)).length=i:=by rw[Lc,mH]
  have hbo:=dQ h2;have hbs:=dQ h1;have q0:=rd H.r0;have q2:=rd H.r2;refine W.loop ?_;unfold rB;refine gg5 ?_;refine WO.FD (hp:=hp) rfl rfl rfl h1 el h6 (by omega) (fun H1 w1 n1 x1 k1=>?_);rw[Lb,←eb]at x1;repeat' first|refine gc ?_|fail
  refine WO.FD (hp:=H1) rfl rfl rfl (k1 _ _ h3.symm h2) eo h7 (by omega) (fun H2 w2 n2 x2 k2=>?_);rw[Lb,←Zl]at x2;have x3:=k2 _ _ (by omega) x1;have l3:((i:Int)).toNat<((base total w).take (i+1)).length:=by rw[List.length_take,pb];omega
  have v3:((base total w).take (i+1))[((i:Int)).toNat]! = total*w[((i:Int)).toNat]! / Sort.sum w:=by
   rw[eb];exact get_at (by rw[List.length_take,pb];omega)
  have g3:Sort.sum ((base total w).take (i+1))=Sort.sum ((base total w).take i)+total*w[((i:Int)).toNat]! / Sort.sum w:=by
   rw[eb,sum_append];simp[Sort.sum]
  rw[←v3]at g3;repeat' first|refine gc ?_|fail
  refine cW ?_;rw[show total-Sort.sum ((base total w).take i)-((base total w).take (i+1))[((i:Int)).toNat]! = total-Sort.sum ((base total w).take (i+1)) by omega];exact Lf hw a0 a1 a3 a4 a5 a6 a8 a14 a15 a16 a17 a21 a22 a23 r (i+1) (by omega) H2 (hp.length+1) (H1.length+1) none none _ _ _ _ ⟨k2 _ _ (by omega) (k1 _ _ (by omega) H.r0),k2 _ _ (by omega) (k1 _ _ (by omega) H.r1),k2 _ _ (by omega) (k1 _ _ (by omega) H.r2)⟩ x3 x2 (by omega) (by omega) (by omega) (.inl rfl) (.inl rfl) hQ
theorem ZG {total:Int}{w:List Int}{cap:Option Nat}(hw:ik total w)(hpos:0<w.length)(a0 a1 a3 a4 a5 a6 a8 a14 a15 a16 a17 a21 a22 a23:AV){hp:ab}{bs bo:Nat}(H:pa hp total w cap)(h1:hp.at bs=some (.cells [] 3))(h2:hp.at bo=some (.cells [] 3))(h3:bs≠bo)(h4:3<bs)(h5:3<bo)(a12 a13:AV)(lo:List (Nat×AV))(wr:List Nat){Q:Ex->al->Prop}
 (hQ:∀(hp:ab) bs bo a12 a13 lo wr,pa hp total w cap->hp.at bs=some (.cells (ints (base total w)) 3)->hp.at bo=some (.cells (ints (bU w.length)) 3)->bs≠bo->3<bs->3<bo ->
   Q (.exit 2) ⟨⟨[a0,a1,.ptr 0 0,a3,a4,a5,a6,.ptr 3 0,a8,.sl bs 0 w.length 1 none,.sl bo 0 w.length 1 none,.iV (dK total w),a12,a13,a14,a15,a16,a17,.vs (ints w) w.length cap,.iV w.length,.iV w.length,a21,a22,a23],lo,hp,[]⟩,wr⟩) :
 W M (.loop rB) ⟨⟨[a0,a1,.ptr 0 0,a3,a4,a5,a6,.ptr 3 0,a8,.sl bs 0 0 1 (some 0),.sl bo 0 0 1 (some 0),.iV total,a12,a13,a14,a15,a16,a17,.vs (ints w) w.length cap,.iV w.length,.iV 0,a21,a22,a23],lo,hp,[]⟩,wr⟩ Q:=by
 have h:=Lf (M:=M) (Q:=Q) hw a0 a1 a3 a4 a5 a6 a8 a14 a15 a16 a17 a21 a22 a23 w.length 0 (by omega) hp bs bo (some 0) (some 0) a12 a13 lo wr H (by rw[List.take_zero];exact h1) h2 h3 h4 h5 (.inr ⟨rfl,rfl⟩) (.inr ⟨rfl,rfl⟩) (fun hp bs bo cs co a12 a13 lo wr k1 k2 k3 k4 k5 k6 k7 k8=>by
  obtain rfl:cs=none:=k7.resolve_right fun h=>by omega
  obtain rfl:co=none:=k8.resolve_right fun h=>by omega
  exact hQ hp bs bo a12 a13 lo wr k1 k2 k3 k4 k5 k6)
 rw[List.take_zero,show total-Sort.sum ([]:List Int)=total by simp[Sort.sum]]at h;exact h
theorem ZH {total:Int}{w:List Int}(hw:ik total w){t:Nat}:∀x∈fu total w t,0<=x/\x<=1000000000000000000:=by
 intro x hx;obtain⟨i,hi,rfl⟩:=List.mem_map.1 hx;obtain⟨h0,h1⟩:=mI.1 hi;obtain⟨j,rfl⟩:∃j:Nat,i=j:=⟨i.toNat,by omega⟩;have hj:j<w.length:=by omega
 have m:=hw.mul (fl hj);have s:=hw.sum;rw[Dd hj];have d0:=Int.ediv_nonneg m.1 (Int.le_of_lt s.1);have d1:=Int.ediv_le_self (Sort.sum w) m.1;constructor <;> split <;> omega
theorem Lg {total:Int}{w:List Int}(hw:ik total w)(bs bo t:Nat)(hne:bs≠bo)(ht:t<=w.length)(S:List Int)(hS:Sd (cD total w) S)(hP:S.Perm (bU w.length))(cs co:Option Nat)(a0 a1 a2 a3 a4 a5 a6 a7 a8 a10 a11 a12 a13 a15 a16 a17 a18 a19 a20:AV){Q:Ex->al->Prop}:∀(r k:Nat),k+r=t->∀(hp:ab) (a14:AV) (lo:List (Nat×AV)) (wr:List Nat),hp.at bs=some (.cells (ints (fu total w k)) 3)->hp.at bo=some (.cells (ints S) 3) ->
 (∀(hp:ab) a14 lo wr,hp.at bs=some (.cells (ints (fu total w t)) 3)->Q (.exit 4) ⟨⟨[a0,a1,a2,a3,a4,a5,a6,a7,a8,.sl bs 0 w.length 1 cs,a10,a11,a12,a13,a14,a15,a16,a17,a18,a19,a20,.sl bo 0 t 1 co,.iV t,.iV t],lo,hp,[]⟩,wr⟩) ->
 W M (.loop rC) ⟨⟨[a0,a1,a2,a3,a4,a5,a6,a7,a8,.sl bs 0 w.length 1 cs,a10,a11,a12,a13,a14,a15,a16,a17,a18,a19,a20,.sl bo 0 t 1 co,.iV t,.iV k],lo,hp,[]⟩,wr⟩ Q
 | 0,k,hk,hp,a14,lo,wr,h1,h2,hQ=>by
  obtain rfl:k=t:=by omega
  refine W.loop ?_;unfold rC;repeat' first|(apply aab;rfl;rfl)|refine gc ?_|(intro _;omega)|intro _
  . exact hQ hp _ _ _ h1
 | r+1,k,hk,hp,a14,lo,wr,h1,h2,hQ=>by
  have hSl:S.length=w.length:=by rw[hP.length_eq,mH]
  have hn:=hw.2.2.2.2;have ek:((k:Int)).toNat=k:=by omega
  have bk:((k:Int)).toNat<S.length:=by omega
  have gk:S[k]? = some S[((k:Int)).toNat]! := by
   rw[ek,getElem!_pos S k (by omega)];exact List.getElem?_eq_getElem (by omega)
  obtain⟨rk,i0,i1⟩:=Zp hS hP gk;obtain⟨i,hi⟩:∃i:Nat,S[((k:Int)).toNat]! = i:=⟨(S[((k:Int)).toNat]!).toNat,by omega⟩;rw[hi]at rk i1;have hil:i<(fu total w k).length:=by rw[KJ];omega
  have bi:(S[((k:Int)).toNat]!).toNat<(fu total w k).length:=by rw[hi];omega
  have ei:(S[((k:Int)).toNat]!).toNat=i:=by rw[hi];omega
  have bd:=ZH hw _ (fl bi);have bsl:=dQ h1;refine W.loop ?_;unfold rC;refine gg5 ?_;refine cW ?_;have en:(fu total w k).set (S[((k:Int)).toNat]!).toNat ((fu total w k)[(S[((k:Int)).toNat]!).toNat]! + 1)=fu total w (k+1):=by
   rw[ei];refine KL (by omega) ?_ rk;rw[getElem!_pos _ i hil];exact List.getElem?_eq_getElem hil
  rw[en];exact Lg hw bs bo t hne ht S hS hP cs co a0 a1 a2 a3 a4 a5 a6 a7 a8 a10 a11 a12 a13 a15 a16 a17 a18 a19 a20 r (k+1) (by omega) _ _ _ _ (gg bsl) (jR hne.symm h2) hQ
structure De (M:ao):Prop extends ie M where
 Lh:∀ars h,M.ext 100 ars h=none
 pc:∀x lo hi h,M.ext 95 [.iV x,.iV lo,.iV hi] h=some ⟨.bool (decide (x<lo) || decide (hi<x)),h,[]⟩
 iG:∀b e h,M.ext 97 [.bool b,.iV e] h=some ⟨.iV (if b then e else 0),h,[]⟩
 pd:∀x l h,fv h x=some l->l.length<4611686018427387904->M.ext 96 [x] h=some ⟨.iV (fO l),h,[]⟩
 Df:∀(w:List Int) cap h,w.length<4611686018427387904->M.ext 98 [.vs (ints w) w.length cap] h=some ⟨.iV (dS w),h,[]⟩
def gD (total:Int)(w:List Int):Int:=if total<0\/999999999<total then 3 else dS w
theorem Li {total:Int}{w:List Int}(h:gD total w=0):ik total w:=by
 unfold gD at h;split at h
 . omega
 . obtain⟨h1,h2,h3⟩:=ZC h;exact⟨by omega,by omega,h1,h2,h3⟩
theorem ZI {M:ao}(C:De M)(total:Int)(w:List Int)(cap:Option Nat)(hl:w.length<4611686018427387904)(he:gD total w≠0) :
 aU M 23 [.iV total,.vs (ints w) w.length cap] [] ⟨.aq [.ae,.iV (gD total w)],[],[]⟩:=by
 have q95:∀h,M.ext 95 [.iV total,.iV 0,.iV 999999999] h=some ⟨.bool (decide (total<0\/999999999<total)),h,[]⟩:=fun h=>by rw[C.pc];simp
 have q97:∀h,M.ext 97 [.bool (decide (total<0\/999999999<total)),.iV 3] h=some ⟨.iV (if total<0\/999999999<total then 3 else 0),h,[]⟩:=fun h=>by rw[C.iG];simp
 have q98:=fun h=>C.Df w cap h hl
 have q96:∀h x,fv h x=some [if total<0\/999999999<total then 3 else 0,dS w]->M.ext 96 [x] h=some ⟨.iV (gD total w),h,[]⟩:=fun h x hx=>by
  rw[C.pd x _ h hx (by simp)];unfold gD;split <;> simp[fO]
  omega
 generalize gD total w=e at *
 refine bO (by rw[C.ft];exact Ks) (by simp) ?_;unfold wc;simp only[enter];exact gg9
theorem ZJ (C:De M)(total:Int)(w:List Int)(cap:Option Nat)(he:gD total w=0):∃bs hh,aU M 23 [.iV total,.vs (ints w) w.length cap] [] ⟨.aq [.sl bs 0 w.length 1 none,.iV 0],hh,[]⟩/\hh.at bs=some (.cells (ints (share total w)) 3):=by
 have hw:=Li he;have ht:¬(total<0\/999999999<total):=by unfold gD at he;split at he <;> omega
 have hc0:dS w=0:=by unfold gD at he;rwa [if_neg ht]at he
 have hn:=hw.2.2.2.2;have hpos:0<w.length:=by
  have:=hw.2.2.2.1;cases w with
  | nil=>simp[Sort.sum]at this
  | cons x w=>simp
 have q95:∀h,M.ext 95 [.iV total,.iV 0,.iV 999999999] h=some ⟨.bool false,h,[]⟩:=fun h=>by rw[C.pc];simp;omega
 have q97:∀h,M.ext 97 [.bool false,.iV 3] h=some ⟨.iV 0,h,[]⟩:=fun h=>C.iG false 3 h
 have q98:∀h,M.ext 98 [.vs (ints w) w.length cap] h=some ⟨.iV 0,h,[]⟩:=fun h=>by rw[C.Df w cap h (by omega),hc0]
 have q96:∀h x,fv h x=some [0,0]->M.ext 96 [x] h=some ⟨.iV 0,h,[]⟩:=fun h x hx=>by rw[C.pd x _ h hx (by simp)];rfl
 obtain⟨l0,l1⟩:=CZ (total:=total) hw.sum.1;obtain⟨⟨n,e,s,g1,bs,g2,g3,g4,g5,g6⟩⟩:W M wc ⟨⟨[0,1,2,3,4,5,6,7,9,10,11,12,13,14,16,27,28,29,40,41,42,71,72,73].map (fun t=>([AV.iV total,.vs (ints w) w.length cap][t]?).getD bJ),[],[],[]⟩,[]⟩ fun e s=>∃bs,(e = .normal\/e = .ret)/\s.s.bA=[]/\s.s.pe[4]? = some (.sl bs 0 w.length 1 none)/\s.s.pe[5]? = some (.iV 0)/\s.s.hp.at bs=some (.cells (ints (share total w)) 3):=by
  unfold wc;simp only[enter];refine gg13 ?_;refine Le hw.2.2.1 hn _ _ _ _ _ _ _ _ _ _ _ _ _ _ _ _ _ _ w.length 0 (by omega) _ _ _ (fun a8 lo wr=>?_);repeat' first|refine gc ?_|fail
  refine ZG hw hpos _ _ _ _ _ _ _ _ _ _ _ _ _ _ ⟨rfl,rfl,rfl⟩ (bs:=4) (bo:=5) rfl rfl (by omega) (by omega) (by omega) _ _ _ _ (fun hp bs bo a12 a13 lo wr k1 k2 k3 k4 k5 k6=>?_);have hne:∀i:Nat,i<4->i≠bo:=fun i hi=>by omega
  have H':∀o,pa (hp.put bo o) total w cap:=fun o=>⟨jR (hne 0 (by omega)) k1.r0,jR (hne 1 (by omega)) k1.r1,jR (hne 3 (by omega)) k1.r2⟩
  obtain⟨S,wr',hw',⟨s1,s2⟩,hct⟩:=ZB (M:=M) (h:=hp) (b:=bo) (n:=w.length) (cap:=none) (g:=.fn (.func 100) [] [.ptr 0 0,.ptr 1 0,.ptr 3 0]) (key:=cD total w) (ok:=fun x=>0<=x/\x<w.length) (cf:=fun x y=>cD total w y-cD total w x) C.toie (dQ k3) (by omega)
    (fun x y l hx hy=>ZD C.ft C.Lh (H' _) hw x y hx hy) (fun x y _ _=>by omega) (l:=bU w.length) mH Zn (fun y hy=>mI.1 hy)
  rw[yH k3]at hct;have f1:(hp.put bo (some (.cells (ints S) 3))).at bs=some (.cells (ints (fu total w 0)) 3):=by rw[KK];exact jR k4 k2
  have f2:(hp.put bo (some (.cells (ints S) 3))).at bo=some (.cells (ints S) 3):=gg (dQ k3);by_cases h0:dK total w=0
  . rw[h0];repeat' first|(apply aaC;rfl;rfl;first|exact hct)|refine gc ?_|fail
    refine W.loop ?_;unfold rC;refine gg5 ?_;refine⟨bs,.inr rfl,rfl,rfl,rfl,?_⟩;rw[←wY l0,h0];exact f1
  . repeat' first|(apply aaC;rfl;rfl;first|exact hct)|refine gc ?_|fail
    apply adb;exact rfl;exact rfl;omega;repeat' first|refine gc ?_|fail
    have et:((dK total w).toNat:Int)=dK total w:=by omega
    refine Lg hw bs bo (dK total w).toNat k4 (by omega) S s1 s2 none none _ _ _ _ _ _ _ _ _ _ _ _ _ _ _ _ _ _ _ (dK total w).toNat 0 (by omega) _ _ _ _ f1 f2 (fun hp a14 lo wr q1=>?_);exact gg0
 exact⟨bs,s.s.hp,bO (by rw[C.ft];exact Ks) (by simp) ⟨⟨n,e,s,g1,g2,g3,[.sl bs 0 w.length 1 none,.iV 0],by simp only[cU,St.aa,g4,g5],rfl,rfl⟩⟩,g6⟩
theorem Dg (l:List Int)(p:Int->Bool)(f:AV)(cap:Option Nat)(hl:l.length<4611686018427387904)(hf:∀x,CT M f [.iV x] [] ⟨.bool (p x),[],[]⟩){Q:Ex->al->Prop}
 (h1:l.any p=true->∀(i:Nat) a3 lo wr,Q .ret ⟨⟨[.vs (ints l) l.length cap,f,.iV i,a3,.iV l.length,.iV i],lo,[],[]⟩,wr⟩) (h2:l.any p=false->∀a3 lo wr,Q (.exit 0) ⟨⟨[.vs (ints l) l.length cap,f,.iV 0,a3,.iV l.length,.iV l.length],lo,[],[]⟩,wr⟩):∀(r i:Nat),i+r=l.length->(l.take i).any p=false->∀(a3:AV) (lo:List (Nat×AV)) (wr:List Nat),
 W M (.loop rJ) ⟨⟨[.vs (ints l) l.length cap,f,.iV 0,a3,.iV l.length,.iV i],lo,[],[]⟩,wr⟩ Q
 | 0,i,hi,he,a3,lo,wr=>by
  obtain rfl:i=l.length:=by omega
  rw[List.take_length]at he;refine W.loop ?_;unfold rJ;repeat' first|(apply aab;rfl;rfl)|refine gc ?_|(intro _;omega)|intro _
  . exact h2 he _ _ _
 | r+1,i,hi,he,a3,lo,wr=>by
  have ei:((i:Int)).toNat=i:=by omega
  have b1:((i:Int)).toNat<l.length:=by omega
  have hc:=hf l[((i:Int)).toNat]!;refine W.loop ?_;cases hp:p l[((i:Int)).toNat]!
  . rw[hp]at hc;unfold rJ;refine gg16 ?_;refine cW (Dg l p f cap hl hf h1 h2 r (i+1) (by omega) ?_ _ _ _);rw[rP (by omega),List.any_append,he];rw[ei]at hp;simp only[List.any_cons,List.any_nil,hp];rfl
  . rw[hp]at hc;have ha:l.any p=true:=List.any_eq_true.2 ⟨_,fl b1,hp⟩;unfold rJ;exact gg1
theorem Lj (hft:M.FT=FT)(rQ:∀ars h,M.ext 171 ars h=none)(rR:∀ars h,M.ext 220 ars h=none)(l:List Int)(p:Int->Bool)(f:AV)(cap:Option Nat)(hl:l.length<4611686018427387904)(hf:∀x,CT M f [.iV x] [] ⟨.bool (p x),[],[]⟩) :
 CT M (fn 171) [.vs (ints l) l.length cap,f] [] ⟨.bool (l.any p),[],[]⟩:=by
 obtain⟨k,hk,hr⟩:∃k:Int,(0<=k↔l.any p=true)/\aU M 220 [.vs (ints l) l.length cap,f] [] ⟨.iV k,[],[]⟩:=by
  cases ha:l.any p
  . refine⟨-1,by simp,bO (by rw[hft];exact KC) (by simp) ?_⟩;unfold wv;simp only[enter];repeat' first|refine gc ?_|fail
    refine Dg l p f cap hl hf (fun h=>by rw[ha]at h;cases h) (fun _ a3 lo wr=>?_) l.length 0 (by omega) (by simp) _ _ _;exact gg0
  . obtain⟨⟨n,e,s,g1,k,g2⟩⟩:W M wv ⟨⟨[0,1,4,5,7,8].map (fun t=>([AV.vs (ints l) l.length cap,f][t]?).getD bJ),[],[],[]⟩,[]⟩ fun e s=>∃k:Nat,(e = .normal\/e = .ret)/\s.s.bA=[]/\s.s.pe[2]? = some (.iV k):=by
     unfold wv;simp only[enter];repeat' first|refine gc ?_|fail
     refine Dg l p f cap hl hf (fun _ i a3 lo wr=>?_) (fun h=>by rw[ha]at h;cases h) l.length 0 (by omega) (by simp) _ _ _;exact gg0
    exact⟨k,by simp,bO (by rw[hft];exact KC) (by simp) ⟨⟨n,e,s,g1,g2.1,g2.2.1,[.iV k],by simp only[cU,St.aa,g2.2.2],rfl,rfl⟩⟩⟩
 refine CT.run (rQ _ _) ?_;have hc:CT M (fn 220) [.vs (ints l) l.length cap,f] [] ⟨.iV k,[],[]⟩:=jd rR hr;refine bO (by rw[hft];exact Za) (by simp) ?_;unfold Kv;simp only[List.nil_append,List.append_nil];simp only[enter];cases ha:l.any p
 . have hk':k<0:=by rw[ha]at hk;simp at hk;omega
   exact gg0
 . have hk':0<=k:=hk.2 ha;exact gg0
structure Lk (M:ao):Prop where
 ft:M.FT=FT
 rQ:∀ars h,M.ext 171 ars h=none
 Ll:∀ars h,M.ext 172 ars h=none
 Lm:∀ars h,M.ext 173 ars h=none
 rR:∀ars h,M.ext 220 ars h=none
 pc:∀x lo hi h,M.ext 95 [.iV x,.iV lo,.iV hi] h=some ⟨.bool (decide (x<lo) || decide (hi<x)),h,[]⟩
 iG:∀b e h,M.ext 97 [.bool b,.iV e] h=some ⟨.iV (if b then e else 0),h,[]⟩
 pd:∀x l h,fv h x=some l->l.length<4611686018427387904->M.ext 96 [x] h=some ⟨.iV (fO l),h,[]⟩
theorem ZK (C:Lk M)(w:List Int)(cap:Option Nat)(hl:w.length<4611686018427387904):aU M 98 [.vs (ints w) w.length cap] [] ⟨.iV (dS w),[],[]⟩:=by
 have r172:∀x,CT M (fn 172) [.iV x] [] ⟨.bool (decide (x<0) || decide (999999999<x)),[],[]⟩:=fun x=>by
  refine jd C.Ll (bO (by rw[C.ft];exact Zb) (by simp) ?_);have q:=C.pc x 0 999999999;generalize (decide (x<0) || decide (999999999<x))=t at *
  unfold Kw;cases t
  . exact gg3
  . exact gg3
 have r173:∀x,CT M (fn 173) [.iV x] [] ⟨.bool (decide (x≠0)),[],[]⟩:=fun x=>by
  refine jd C.Lm (bO (by rw[C.ft];exact Zc) (by simp) ?_);unfold Kx;exact gg15
 have f1:=Lj C.ft C.rQ C.rR w _ (fn 172) cap hl r172;have f2:=Lj C.ft C.rQ C.rR w _ (fn 173) cap hl r173;have e1:w.any (fun x=>decide (x<0) || decide (999999999<x)) = !(w.all fun x=>decide (0<=x/\x<=999999999)):=by
  rw[Bool.eq_iff_iff];simp only[List.any_eq_true,Bool.or_eq_true,decide_eq_true_eq,Bool.not_eq_true',List.all_eq_false];constructor
  . rintro⟨x,h1,h2⟩;exact⟨x,h1,by omega⟩
  . rintro⟨x,h1,h2⟩;exact⟨x,h1,by omega⟩
 have e2:w.any (fun x=>decide (x≠0)) = !(w.all fun x=>decide (x=0)):=by
  rw[Bool.eq_iff_iff];simp only[List.any_eq_true,decide_eq_true_eq,Bool.not_eq_true',List.all_eq_false]
 rw[e1]at f1;rw[e2]at f2;have hE:fO [if w.length=0 then 12 else 0,if 256<w.length then 5 else 0,if (!(w.all fun x=>decide (0<=x/\x<=999999999)))=true then 3 else 0,if (w.all fun x=>decide (x=0))=true then 6 else 0]=dS w:=by
  unfold dS;cases (w.all fun x=>decide (0<=x/\x<=999999999)) <;> cases (w.all fun x=>decide (x=0)) <;> by_cases h1:w.length=0 <;> by_cases h2:256<w.length <;> simp[fO,h1,h2]
 have q1:=C.iG true 12;have q2:=C.iG false 12;have q3:=C.iG true 5;have q4:=C.iG false 5;have q5:=C.iG (!(w.all fun x=>decide (0<=x/\x<=999999999))) 3;have q6:=C.iG true 6;have q7:=C.iG false 6;have q96:∀h x,fv h x=some [if w.length=0 then 12 else 0,if 256<w.length then 5 else 0,if (!(w.all fun x=>decide (0<=x/\x<=999999999)))=true then 3 else 0,if (w.all fun x=>decide (x=0))=true then 6 else 0]->M.ext 96 [x] h=some ⟨.iV (dS w),h,[]⟩:=fun h x hx=>by
  rw[C.pd x _ h hx (by simp),hE]
 generalize dS w=e at *
 generalize hA:(w.all fun x=>decide (0<=x/\x<=999999999))=A at *
 generalize hB:(w.all fun x=>decide (x=0))=B at *
 by_cases h1:w.length=0
 . have h2:¬256<w.length:=by omega
   have h1':(w.length:Int)=0:=by omega
   have h2':¬(256<(w.length:Int)):=by omega
   rw[if_pos h1,if_neg h2]at q96;refine bO (by rw[C.ft];exact CV) (by simp) ?_;unfold wi;cases A <;> cases B;all_goals
    exact gg8
   all_goals exact⟨.inr rfl,rfl,_,rfl,rfl,rfl⟩
 . by_cases h2:256<w.length
   . rw[if_neg h1,if_pos h2]at q96;refine bO (by rw[C.ft];exact CV) (by simp) ?_;unfold wi;cases A <;> cases B;all_goals
      exact gg8
     all_goals exact⟨.inr rfl,rfl,_,rfl,rfl,rfl⟩
   . rw[if_neg h1,if_neg h2]at q96;refine bO (by rw[C.ft];exact CV) (by simp) ?_;unfold wi;cases A <;> cases B;all_goals
      exact gg8
     all_goals exact⟨.inr rfl,rfl,_,rfl,rfl,rfl⟩
def okW (w:List Int):Bool:=w.all fun x=>decide (0<=x/\x<=999999999)
theorem Ln (w:List Int)(cap:Option Nat)(hn:w.length<=256){Q:Ex->al->Prop}(h1:okW w=false->∀a2 a3 lo wr,Q .ret ⟨⟨[.vs (ints w) w.length cap,.iV 3,a2,a3],lo,[],[]⟩,wr⟩)
 (h2:okW w=true->∀lo wr,Q (.exit 0) ⟨⟨[.vs (ints w) w.length cap,.iV 0,.iV (Sort.sum w),.iV w.length],lo,[],[]⟩,wr⟩):∀(r i:Nat),i+r=w.length->okW (w.take i)=true->∀(lo:List (Nat×AV)) (wr:List Nat),
 W M (.loop we) ⟨⟨[.vs (ints w) w.length cap,.iV 0,.iV (Sort.sum (w.take i)),.iV i],lo,[],[]⟩,wr⟩ Q
 | 0,i,hi,he,lo,wr=>by
  obtain rfl:i=w.length:=by omega
  rw[List.take_length]at he ⊢;refine W.loop ?_;unfold we;repeat' first|(apply aab;rfl;rfl)|refine gc ?_|(intro _;omega)|intro _
  . exact h2 he _ _
 | r+1,i,hi,he,lo,wr=>by
  have hl:i<w.length:=by omega
  have ei:((i:Int)).toNat=i:=by omega
  have b1:((i:Int)).toNat<w.length:=by omega
  have hm:∀x∈w.take i,0<=x/\x<=999999999:=by simpa[okW] using he
  have g1:=mJ fun x hx=>(hm x hx).1
  have g2:=rK fun x hx=>(hm x hx).2
  rw[List.length_take]at g2;have g3:(min i w.length:Nat)<=256:=by omega
  have bad:¬(0<=w[((i:Int)).toNat]! /\ w[((i:Int)).toNat]! <= 999999999)->okW w=false:=fun h=>by
   cases hw:okW w
   . rfl
   . exact absurd ((show ∀x∈w,0<=x/\x<=999999999 by simpa[okW] using hw) _ (fl b1)) h
  refine W.loop ?_;unfold we;repeat' first|(apply aab;rfl;rfl)|(apply aah;rfl;rfl)|refine gc ?_|(intro _;omega)|intro _
  . exact h1 (bad (by omega)) _ _ _ _
  . exact h1 (bad (by omega)) _ _ _ _
  . refine cW ?_;have e2:Sort.sum (w.take i)+w[((i:Int)).toNat]! = Sort.sum (w.take (i+1)):=by
     rw[rP hl,sum_append,ei];simp[Sort.sum]
    have e3:okW (w.take (i+1))=true:=by
     rw[ei]at *
     unfold okW at he ⊢;rw[rP hl,List.all_append,he];simp only[List.all_cons,List.all_nil,Bool.and_true,Bool.true_and,decide_eq_true_eq];omega
    have ih:=Ln (Q:=Q) w cap hn h1 h2 r (i+1) (by omega) e3;rw[←e2]at ih;exact ih _ _
theorem ZL (hft:M.FT=FT)(w:List Int)(cap:Option Nat):aU M 26 [.vs (ints w) w.length cap] [] ⟨.iV (dS w),[],[]⟩:=by
 by_cases c1:w.length=0
 . have c1':(w.length:Int)=0:=by omega
   have e:dS w=12:=by unfold dS;rw[if_pos c1]
   rw[e];refine bO (by rw[hft];exact CP) (by simp) ?_;unfold wh;exact gg6
 by_cases c2:256<w.length
 . have e:dS w=5:=by unfold dS;rw[if_neg c1,if_pos c2]
   rw[e];refine bO (by rw[hft];exact CP) (by simp) ?_;unfold wh;exact gg6
 refine bO (by rw[hft];exact CP) (by simp) ?_;unfold wh;simp only[enter];refine gg10 ?_;refine Ln w cap (by omega) (fun h a2 a3 lo wr=>?_) (fun h lo wr=>?_) w.length 0 (by omega) rfl _ _
 . have e:dS w=3:=by unfold dS;rw[if_neg c1,if_neg c2];exact if_pos h
   rw[e];exact gg0
 . have hm:∀x∈w,0<=x/\x<=999999999:=by simpa[okW] using h
   have hz:Sort.sum w=0↔(w.all fun x=>decide (x=0))=true:=by
    constructor
    . intro hs;have:=KI (fun x hx=>(hm x hx).1) hs;simpa using this
    . intro ha;have ha':∀x∈w,x=0:=by simpa using ha
      have g1:=mJ fun x hx=>(hm x hx).1
      have g2:=rK (l:=w) (m:=0) fun x hx=>by rw[ha' x hx];exact Int.le_refl _
      omega
   have h':¬(w.all fun x=>decide (0<=x/\x<=999999999))=false:=by
    intro hc;unfold okW at h;rw[hc]at h;cases h
   repeat' first|(apply aak;rfl;rfl)|refine gc ?_|(intro _;omega)|intro _
   . rename_i hs;have e:dS w=6:=by unfold dS;rw[if_neg c1,if_neg c2,if_neg h',if_pos (hz.1 hs)]
     rw[e];exact⟨.inr rfl,rfl,_,rfl,rfl,rfl⟩
   . rename_i hs;have e:dS w=0:=by unfold dS;rw[if_neg c1,if_neg c2,if_neg h',if_neg fun hc=>hs (hz.2 hc)]
     rw[e];exact⟨.inr rfl,rfl,_,rfl,rfl,rfl⟩
open Go.Proofs
def aaA:Spec:=fun
 | [x,y],h=>match fv h x,fv h y with
   | some l,some m=>if l.length<4611686018427387904 then some ⟨.bool (decide (l=m)),h,[]⟩ else none
   | _,_=>none
 | _,_=>none
def aaB:Spec:=fun
 | [x,.int .i64 e,.int .i64 bad,y],h=>match fv h x,fv h y with
   | some l,some m=>if l.length<4611686018427387904 then some ⟨.bool (if bad≠0 then decide (l.length=0/\e=bad) else decide (e=0/\l=m)),h,[]⟩ else none
   | _,_=>none
 | _,_=>none
def rS:Spec:=fun
 | [x],h=>match fv h x with
   | some w=>if w.length<4611686018427387904 then some ⟨.int .i64 (dS w),h,[]⟩ else none
   | none=>none
 | _,_=>none
def Lo:List (Nat×Spec):=[(95,tM),(97,tO),(96,jT)]
theorem ZM:dg Tryz.prog gl (bj Lo):=bF Gd (bF Gh (bF Gi cQ))
theorem ZN:Lk (aZ Tryz.prog FT Lo) where
 ft:=bE
 rQ _ _:=rfl
 Ll _ _:=rfl
 Lm _ _:=rfl
 rR _ _:=rfl
 pc _ _ _ _:=by rw[dR];rfl
 iG _ _ _:=by rw[dR];rfl
 pd x l h hx hl:=by
  rw[dR];show jT [x] h=_;simp only[jT,hx,if_pos hl]
theorem ZO:bQ Tryz.prog gl 98 rS:=by
 intro xs h r hq;unfold rS at hq;split at hq
 . split at hq
   . rename_i w hw;split at hq
     . rename_i hlen;cases hq;obtain⟨S,cap,hf⟩:=(tE hw).fr (fun _=>rfl);exact nF ju ZM (ZK ZN w cap hlen) (.cons hf .nil) rfl (.inr rfl)
     . cases hq
   . cases hq
 . cases hq
def rT:Spec:=fun
 | [x],h=>match fv h x with
   | some w=>some ⟨.int .i64 (dS w),h,[]⟩
   | none=>none
 | _,_=>none
theorem ZP:bQ Tryz.prog gl 26 rT:=by
 intro xs h r hq;unfold rT at hq;split at hq
 . split at hq
   . rename_i w hw;cases hq;obtain⟨S,cap,hf⟩:=(tE hw).fr (fun _=>rfl);exact nF ju cQ (ZL bE w cap) (.cons hf .nil) rfl (.inr rfl)
   . cases hq
 . cases hq
theorem ZQ (l:List Int):dV (ints l)=true:=lT (fun _=>rfl) l
def rU:Spec:=fun
 | [.int .i64 total,x],h=>match fv h x with
   | some w=>if gD total w=0 then some ⟨.aq [.sl h.length 0 w.length 1 none,.int .i64 0],h++[some (.cells (ints (share total w)) 3)],[]⟩
     else if w.length<4611686018427387904 then some ⟨.aq [.ae,.iV (gD total w)],h,[]⟩ else none
   | none=>none
 | _,_=>none
def Lp:List (Nat×Spec):=[(95,tM),(97,tO),(96,jT),(98,rS)]
theorem Lr:dg Tryz.prog gl (bj Lp):=bF Gd (bF Gh (bF Gi (bF ZO cQ)))
theorem Ls:De (aZ Tryz.prog FT Lp) where
 ft:=bE
 KO _ _:=rfl
 KP _ _:=rfl
 KQ _ _:=rfl
 wy _ _:=rfl
 KR _ _:=rfl
 KS _ _:=rfl
 Lh _ _:=rfl
 pc _ _ _ _:=by rw[dR];rfl
 iG _ _ _:=by rw[dR];rfl
 pd x l h hx hl:=by
  rw[dR];show jT [x] h=_;simp only[jT,hx,if_pos hl]
 Df w cap h hl:=by
  rw[dR];show rS [.vs (ints w) w.length cap] h=_;simp only[rS,FC,if_pos hl]
theorem ZR:bQ Tryz.prog gl 23 rU:=by
 intro xs h r hq;unfold rU at hq;split at hq
 . rename_i total x;split at hq
   . rename_i w hw;obtain⟨S,cap,hf⟩:=(tE hw).fr (fun _=>rfl);split at hq
     . rename_i hE;cases hq;obtain⟨bs,hh,hr,hat⟩:=ZJ Ls total w cap hE;refine Pl ju Lr hr (.cons (.same rfl) (.cons hf .nil)) (k:=bs) (.aq rfl fun i x y hx hy=>?_) hat (QW _) (.inr (ZQ _)) (.inr rfl);match i,hx,hy with
       | 0,hx,hy=>cases hx;cases hy;exact .sl (i:=0) rfl
       | 1,hx,hy=>cases hx;cases hy;exact .same rfl
     . rename_i hE;split at hq
       . rename_i hlen;cases hq;exact nF ju Lr (ZI Ls total w cap hlen hE) (.cons (.same rfl) (.cons hf .nil)) rfl (.inr rfl)
       . cases hq
   . cases hq
 . cases hq
set_option maxRecDepth 1000000
def Lu:an:=.seq (zR [zm 9 3,zm 10 4,zb 11 .lss 9 10] (.cond (.l 11) (.skip) (.exit 0))) (.block 1 (zR [zm 12 3,zm 13 4,zm 14 3,zb 15 .sub 13 14,zc 16 .add 15 1,zc 17 .quo 16 2,zb 18 .add 12 17,zw 5 18] (zR [zm 19 5,zm 20 5,zb 21 .mul 19 20,zm 22 0,zb 23 .leq 21 22] (.cond (.l 23) (.region [zm 24 5,zw 3 24]) (.region [zm 25 5,zc 26 .sub 25 1,zw 4 26])))))
def Lv:an:=zR [zi 1 0,zi 2 0] (.seq (zR [zm 7 0,zc 8 .lss 7 0] (.cond (.l 8) (zR [zi 1 0,zi 2 3] (.ret)) (.skip))) (zR [zi 3 0,zi 4 3037000499] (.seq (.block 0 (.loop Lu)) (zR [zm 27 3,zw 1 27,zi 2 0] (.ret)))))
theorem ZS:FT 51=some ⟨28,[0,2,3,4,5,6],[.var (.p 1),.var (.p 2)],Lv⟩:=by kernel_rfl
def Lw (c:Int):Bool:=(decide (97<=c) && decide (c<=122)) || (decide (65<=c) && decide (c<=90))
def ZT (c:Int):Bool:=Lw c || (decide (c=95) || (decide (48<=c) && decide (c<=57)))
def ZU (i:Nat)(c:Int):Bool:=if i=0 then Lw c else ZT c
def xl:aM->Nat->Bool
 | [],_=>true
 | b::r,i=>ZU i b.toNat && xl r (i+1)
def isName (s:aM):Bool:=xl s 0 && decide (0<s.length) && decide (s.length<=24)
open Go.Ab.aR
variable {N:Nat}
def wE (n r:Int):Prop:=(0<=r/\r<=3037000499)/\r*r<=n/\(r=3037000499\/n<(r+1)*(r+1))
theorem Dh {m:Int}(h:0<=m/\m<=3037000499):0<=m*m/\m*m<=9223372030926249001:=by
 have:=Int.mul_le_mul h.2 h.2 h.1 (by omega);have:=Int.mul_nonneg h.1 h.1;omega
def mL (n low high:Int):Prop:=(0<=low/\low<=high/\high<=3037000499)/\low*low<=n/\(high=3037000499\/n<(high+1)*(high+1))
theorem mL.up {n low high m:Int}(h:mL n low high)(hm:low<m/\m<=high)(hn:m*m<=n):mL n m high:=by
 obtain⟨h1,h2,h3⟩:=h;exact⟨by omega,hn,h3⟩
theorem mL.down {n low high m:Int}(h:mL n low high)(hm:low<m/\m<=high)(hn:n<m*m):mL n low (m-1):=by
 obtain⟨h1,h2,h3⟩:=h;exact⟨by omega,h2,.inr (by rw[show m-1+1=m by omega];exact hn)⟩
theorem ZV (hft:M.FT=FT){n:Int}(hn:0<=n/\n<9223372036854775808):∃r,wE n r/\aU M 51 [.iV n] [] ⟨.aq [.iV r,.iV 0],[],[]⟩:=by
 obtain⟨v,hh,⟨r,hr,rfl,rfl⟩,hrun⟩:=gA (M:=M) (f:=51) (ars:=[.iV n]) (P:=fun v hh=>∃r,wE n r/\v = .aq [.iV r,.iV 0]/\hh=[]) (by rw[hft];exact ZS) (by simp) (by
  unfold Lv;simp only[enter];refine gg5 ?_;refine W.fH (fun m st=>∃low high a5 lo wr,st=⟨⟨[.iV n,.iV 0,.iV 0,.iV low,.iV high,a5],lo,[],[]⟩,wr⟩/\m=(high-low).toNat/\mL n low high) (fun m st ⟨low,high,a5,lo,wr,hst,hm,hI⟩=>?_) (m:=3037000499) ⟨0,3037000499,_,_,_,rfl,rfl,by omega,by omega,.inl rfl⟩;subst hst;obtain⟨⟨b1,b2,b3⟩,h2,h3⟩:=id hI;unfold Lu;by_cases hlt:low<high
  . obtain⟨q,hq⟩:∃q,q=(high-low+1)/2:=⟨_,rfl⟩;obtain⟨mid,hmid⟩:∃mid,mid=low+q:=⟨_,rfl⟩;have hm:low<mid/\mid<=high:=by omega
    have sq:=Dh (m:=mid) (by omega);have up:=fun h=>hI.up hm h
    have dn:=fun h=>hI.down hm h
    rw[hmid]at sq up dn;repeat' first|(apply acb;rfl;rfl;omega;omega;exact hq.symm)|(apply aab;rfl;rfl)|(apply aaG;rfl;rfl)|refine gc ?_|(intro _;omega)|intro _
    all_goals try omega
    . exact cL ⟨(high-(low+q)).toNat,by omega,_,_,_,_,_,rfl,rfl,up (by assumption)⟩
    . exact cL ⟨(low+q-1-low).toNat,by omega,_,_,_,_,_,rfl,rfl,dn (by omega)⟩
  . obtain rfl:low=high:=by omega
    have hR:wE n low:=⟨by omega,h2,h3⟩;repeat' first|(apply aab;rfl;rfl)|refine gc ?_|(intro _;omega)|intro _
    all_goals try omega
    all_goals exact⟨.inr rfl,rfl,_,rfl,low,hR,rfl,rfl⟩)
 exact⟨r,hr,hrun⟩
end Go.Ab.Ch1

/-
  Own work: shares: their sum, their distance from the exact proportion, their order; in plain Lean.
-/
namespace Go.Ab.Sort
theorem ZW {l:List Int}{b:Nat}{x y:Int}(h:l[b]? = some x):sum (l.set b y)=sum l+(y-x):=by
 induction l generalizing b with
 | nil=>simp at h
 | cons a l ih=>
  cases b with
  | zero=>
   simp at h;subst h;rw[List.set_cons_zero,sum_cons,sum_cons];omega
  | succ b=>
   rw[List.set_cons_succ,sum_cons,sum_cons,ih (by simpa using h)];omega
theorem Lx {total:Int}{w:List Int}:∀{t:Nat},t<=w.length->sum (fu total w t)=sum (base total w)+t
 | 0,_=>by rw[KK];simp
 | t+1,h=>by
  obtain⟨x,hx,hr⟩:=Zi (key:=cD total w) (l:=bU w.length) (t:=t) Zm (by rw[mH];omega);have hm:=mI.1 hx;obtain⟨b,rfl⟩:∃b:Nat,x=b:=⟨x.toNat,by omega⟩;have hb:b<w.length:=by omega
  obtain⟨y,hy⟩:∃y,(fu total w t)[b]? = some y:=⟨_,List.getElem?_eq_getElem (by rw[KJ];exact hb)⟩;rw[←KL hb hy hr,ZW hy,Lx (by omega)];omega
theorem ZX {total:Int}{w:List Int}(hs:0<sum w):sum (share total w)=total:=by
 obtain⟨h0,h1⟩:=CZ (total:=total) hs;rw[←wY h0,Lx (by omega)];unfold dK at *
 omega
theorem Ly {total:Int}{w:List Int}:(share total w).length=w.length:=by simp[share,mH]
theorem wF {total:Int}{w:List Int}{i:Nat}(h:i<w.length):(share total w)[i]! = total*w[i]! / sum w+if (dW (cD total w) (bU w.length) i:Int)<dK total w then 1 else 0:=by
 have e:(share total w)[i]? = some (total*w.getD ((i:Int)).toNat 0/sum w+if (dW (cD total w) (bU w.length) i:Int)<dK total w then 1 else 0):=by
  unfold share;rw[rL,if_pos h]
 rw[getElem!_pos _ i (by rw[Ly];exact h),(List.getElem?_eq_some_iff.1 e).2];rw[show w.getD ((i:Int)).toNat 0=w[i]! by rw[Int.toNat_natCast,getElem!_pos w i h];simp[List.getD_eq_getElem?_getD,List.getElem?_eq_getElem h]]
theorem Di {total:Int}{w:List Int}{i:Nat}(h:i<w.length):cD total w i=total*w[i]! % sum w:=by
 unfold cD;rw[show w.getD ((i:Int)).toNat 0=w[i]! by rw[Int.toNat_natCast,getElem!_pos w i h];simp[List.getD_eq_getElem?_getD,List.getElem?_eq_getElem h]]
theorem ZY {l:List Int}{f:Int->Int}{m:Int}(h:∀x∈l,0<=f x/\f x<=m):sum (l.map f)<=m*(l.countP fun x=>decide (0<f x)):=by
 induction l with
 | nil=>simp[sum]
 | cons a l ih=>
  have ih:=ih fun x hx=>h x (List.mem_cons_of_mem _ hx)
  have ha:=h a (List.mem_cons_self ..);rw[List.map_cons,sum_cons,List.countP_cons];by_cases hp:0<f a
  . simp only[hp,decide_true,if_true];rw[Int.natCast_add,Int.mul_add];omega
  . simp only[hp,decide_false];simp;omega
theorem Lz {total:Int}{w:List Int}(hs:0<sum w){i:Int}(hr:(dW (cD total w) (bU w.length) i:Int)<dK total w):0<cD total w i:=by
 have k0:∀x,0<=cD total w x/\cD total w x<=sum w-1:=fun x=>by
  have:=Int.emod_nonneg (total*w.getD x.toNat 0) (Int.ne_of_gt hs);have:=Int.emod_lt_of_pos (total*w.getD x.toNat 0) hs;unfold cD;omega
 refine Decidable.byContradiction fun hn=>?_
 have hz:cD total w i=0:=by have:=(k0 i).1;omega
 have h1:=ZY (l:=bU w.length) (f:=cD total w) (m:=sum w-1) fun x _=>k0 x
 have e:sum w*dK total w=sum ((bU w.length).map (cD total w)):=by
  have h:=CY total (sum w) hs w;have h2:=getD_map w fun x=>total*x%sum w
  unfold cD;rw[h2];unfold dK base;rw[Int.mul_sub,Int.mul_comm (sum w) total];omega
 have hle:(bU w.length).countP (fun x=>decide (0<cD total w x))<=dW (cD total w) (bU w.length) i:=by
  unfold dW;refine List.countP_mono_left fun x _ hx=>?_
  have:=of_decide_eq_true hx;exact decide_eq_true (.inl (by omega))
 generalize (bU w.length).countP (fun x=>decide (0<cD total w x))=P at *
 have h3:sum w*dK total w<=sum w*(P:Int):=by
  rw[e];have:(sum w-1)*(P:Int)<=sum w*(P:Int):=Int.mul_le_mul_of_nonneg_right (by omega) (by omega);omega
 have:=Int.le_of_mul_le_mul_left h3 hs;omega
theorem ZZ {total:Int}{w:List Int}(hs:0<sum w){i:Nat}(h:i<w.length) : -sum w<(share total w)[i]! * sum w-total*w[i]! /\ (share total w)[i]! * sum w-total*w[i]! < sum w:=by
 have e:=Int.mul_ediv_add_emod (total*w[i]!) (sum w);have r0:=Int.emod_nonneg (total*w[i]!) (Int.ne_of_gt hs);have r1:=Int.emod_lt_of_pos (total*w[i]!) hs;rw[wF h,Int.add_mul,Int.mul_comm (total*w[i]! / sum w)];split
 . rename_i hr;have:=Lz hs hr;rw[Di h]at this;omega
 . omega
theorem aaa {total:Int}{w:List Int}(hs:0<sum w)(ht:0<=total){i k:Nat}(hi:i<w.length)(hk:k<w.length)(hw:w[i]! < w[k]!):(share total w)[i]! <= (share total w)[k]! := by
 rw[wF hi,wF hk];have hle:total*w[i]! <= total*w[k]! := Int.mul_le_mul_of_nonneg_left (Int.le_of_lt hw) ht;have hb:total*w[i]! / sum w<=total*w[k]! / sum w:=Int.ediv_le_ediv hs hle;rcases Int.lt_or_eq_of_le hb with hb|hb
 . split <;> split <;> omega
 . by_cases hr:(dW (cD total w) (bU w.length) i:Int)<dK total w
   . have h0:=Lz hs hr;have key:(dW (cD total w) (bU w.length) k:Int)<dK total w:=by
      have hlt:Lt (cD total w) k i:=by
       left;rw[Di hi]at h0 ⊢;rw[Di hk];have e1:=Int.mul_ediv_add_emod (total*w[i]!) (sum w);have e2:=Int.mul_ediv_add_emod (total*w[k]!) (sum w);rw[←hb]at e2;have hne:total*w[i]! ≠ total*w[k]! := fun he=>by
        rcases Int.lt_or_eq_of_le ht with h|h
        . have:=Int.eq_of_mul_eq_mul_left (Int.ne_of_gt h) he;omega
        . rw[←h]at h0;simp at h0
       omega
      have:=CX (key:=cD total w) (l:=bU w.length) (mI.2 ⟨by omega,by omega⟩) hlt;omega
     rw[if_pos hr,if_pos key];omega
   . rw[if_neg hr];split <;> omega
end Go.Ab.Sort

/-
  Own work: the code of functions: the law MarkRoots.
-/
namespace Go.Ab.Ch1
set_option maxRecDepth 1000000
def wG:an:=zR [zr 95 .lss 15 14] (.seq (.cond (.l 95) (.skip) (.exit 0)) (.seq (.block 1 (zR [zm 96 15,zw 10 96] (.region [zm 97 9,zm 98 2,zm 99 10,za 100 1 98 99,zd 101 1 100,zb 102 .add 97 101,zw 9 102]))) (.region [zq 103 .add 15 1,zw 15 103])))
def rV:an:=zR [zr 152 .lss 19 18] (.seq (.cond (.l 152) (.skip) (.exit 4)) (.seq (.block 5 (zR [zm 153 19,zw 13 153] (.seq (.draw [(zm 154 2,[]),(zm 155 13,[0]),(za 156 1 154 155,[]),(zd 157 1 156,[]),(zm 158 2,[0,1,2,3]),(zm 159 11,[0,1,2,3,4]),(za 160 1 158 159,[0,1,2,3]),(zd 161 1 160,[0,1,2,3]),(zb 162 .gtr 157 161,[]),(zn 163 162,[]),(zg (zm 164 6) 163 true,[]),(zg (zm 165 13) 163 true,[10]),(zg (za 166 1 164 165) 163 true,[]),(zg (zd 167 1 166) 163 true,[]),(zg (zm 168 6) 163 true,[10,11,12,13]),(zg (zm 169 11) 163 true,[10,11,12,13,14]),(zg (za 170 1 168 169) 163 true,[10,11,12,13]),(zg (zd 171 1 170) 163 true,[10,11,12,13]),(zg (zb 172 .lss 167 171) 163 true,[]),(zp 173 163 172,[])]) (.cond (.l 173) (zR [⟨.p 3,.mv (.c (.bool false)),none⟩] (.ret)) (.skip))))) (.region [zq 174 .add 19 1,zw 19 174])))
def Dj:an:=zR [zm 149 6,⟨.p 18,.len .sl (.l 149),none⟩,zi 19 0] (.block 4 (.loop rV))
def wH:an:=zR [zr 107 .lss 17 16] (.seq (.cond (.l 107) (.skip) (.exit 2)) (.seq (.block 3 (zR [zm 108 17,zw 11 108] (.seq (zR [zm 109 6,zm 110 11,za 111 1 109 110,zd 112 1 111,zc 113 .lss 112 0,zn 114 113,zg (zm 115 6) 114 false,zg (zm 116 11) 114 false,zg (za 117 1 115 116) 114 false,zg (zd 118 1 117) 114 false,zg (zm 119 1) 114 false,zg (zb 120 .gtr 118 119) 114 false,zP 121 114 120] (.cond (.l 121) (zR [⟨.p 3,.mv (.c (.bool false)),none⟩] (.ret)) (.skip))) (zR [zm 122 8,zm 123 6,zm 124 11,za 125 1 123 124,zd 126 1 125,zb 127 .add 122 126,zw 8 127] (.seq (.draw [(zm 128 1,[]),(z1 129 54 128,[]),(zm 130 2,[0,1]),(zm 131 11,[0,1,2]),(za 132 1 130 131,[0,1]),(zd 133 1 132,[0,1]),(z1 134 54 133,[]),(z2 135 53 129 134,[]),(zm 136 9,[0,1,2,3,4,5,6,7]),(z1 137 54 136,[]),(z2 138 52 135 137,[]),(zw 12 138,[])]) (.seq (zR [zm 139 6,zm 140 11,za 141 1 139 140,zd 142 1 141,z1 143 54 142,zm 144 12,z2 145 57 143 144,z1 146 56 145,⟨.l 147,.call (kF 55) [(.l 146),(.c (.str [49]))],none⟩,zc 148 .geq 147 0] (.cond (.l 148) (zR [⟨.p 3,.mv (.c (.bool false)),none⟩] (.ret)) (.skip)))
          Dj)))))) (.region [zq 175 .add 17 1,zw 17 175])))
def b8:an:=zR [⟨.p 3,.mv (.c (.bool false)),none⟩] (.seq (zR [⟨.l 17,.call (kF 18) [],none⟩,zu 18 17,zn 19 18,zg (zm 20 0) 19 false,zg (zc 21 .lss 20 0) 19 false,zP 22 19 21,zn 23 22,zg (zm 24 2) 23 false,zg (zl 25 24) 23 false,zg (zc 26 .gtr 25 20) 23 false,zP 27 23 26,zn 28 27,zg (zm 29 1) 28 false,zg (zc 30 .lss 29 0) 28 false,zP 31 28 30,zn 32 31,zg (zm 33 1) 32 false,zg (zc 34 .gtr 33 999999999) 32 false,zP 35 32 34,zn 36 35,zg (zm 37 2) 36 false,zg (z1 38 26 37) 36 false,zg (zc 39 .neq 38 0) 36 false,zP 40 36 39] (.cond (.l 40) (zR [⟨.l 41,.call (kF 18) [],none⟩,zw 3 41] (.ret)) (.skip))) (zR [zm 43 0,z1 44 51 43,zn 42 44,ze 45 0 42,ze 46 1 42,zw 4 45,zw 5 46] (.seq (zR [zm 47 5,zc 48 .neq 47 0,zn 49 48,zg (zm 50 4) 49 false,zg (zc 51 .lss 50 0) 49 false,zP 52 49 51,zn 53 52,zg (zm 54 4) 53 false,zg (zc 55 .gtr 54 3037000499) 53 false,zP 56 53 55,zn 57 56,zg (zm 58 4) 57 false,zg (zm 59 4) 57 false,zg (zb 60 .mul 58 59) 57 false,zg (zm 61 0) 57 false,zg (zb 62 .gtr 60 61) 57 false,zP 63 57 62,zn 64 63,zg (zm 65 4) 64 false,zg (zc 66 .lss 65 3037000499) 64 false,zg (zn 67 66) 64 false,zg (zm 68 4) 67 true,zg (zc 69 .add 68 1) 67 true,zg (zm 70 4) 67 true,zg (zc 71 .add 70 1) 67 true,zg (zb 72 .mul 69 71) 67 true,zg (zm 73 0) 67 true,zg (zb 74 .leq 72 73) 67 true,zg (zp 75 67 74) 64 false,zP 76 64 75] (.cond (.l 76) (zR [⟨.p 3,.mv (.c (.bool false)),none⟩] (.ret)) (.skip))) (zR [zm 78 1,zm 79 2,z2 80 23 78 79,zn 77 80,ze 81 0 77,ze 82 1 77,zw 6 81,zw 7 82] (.seq (zR [zm 83 7,zc 84 .neq 83 0,zn 85 84,zg (zm 86 6) 85 false,zg (zl 87 86) 85 false,zg (zm 88 2) 85 false,zg (zl 89 88) 85 false,zg (zb 90 .neq 87 89) 85 false,zP 91 85 90] (.cond (.l 91) (zR [⟨.p 3,.mv (.c (.bool false)),none⟩] (.ret)) (.skip))) (zR [zi 8 0,zi 9 0] (.seq (zR [zm 92 2,⟨.p 14,.len .sl (.l 92),none⟩,zi 15 0] (.block 0 (.loop wG))) (.seq (zR [zm 104 6,⟨.p 16,.len .sl (.l 104),none⟩,zi 17 0] (.block 2 (.loop wH))) (zR [zm 176 8,zm 177 1,zb 178 .eql 176 177,zw 3 178] (.ret))))))))))
theorem ft8:FT 8=some ⟨179,[0,1,2,6,7,8,9,10,11,12,13,14,15,16,93,94,105,106,150,151],[.var (.p 3)],b8⟩:=by kernel_rfl
open Go.Ab.aR Go.Ab.Sort
variable {M:ao} {cap:Option Nat} {N:Nat}
theorem w54 (hft:M.FT=FT){n:Int}{v:AV}(q139:∀h,M.ext 139 [.iV n] h=some ⟨v,h,[]⟩)(q138:∀h,M.ext 138 [v] h=some ⟨.str (cT n),h,[]⟩):aU M 54 [.iV n] [] ⟨.str (aw (n:Rat)),[],[]⟩:=by
 rw[JR];refine bO (by rw[hft];exact Xp) (by simp) ?_;unfold Jy;simp only[enter];exact gg3
structure C8 (M:ao):Prop where
 ft:M.FT=FT
 LA:∀h,M.ext 18 [] h=some ⟨.bool true,h,[]⟩
 LB:∀(w:List Int) x h,fv h x=some w->M.ext 26 [x] h=some ⟨.iV (dS w),h,[]⟩
 LC:∀n,0<=n/\n<9223372036854775808->∃r,wE n r/\∀h,M.ext 51 [.iV n] h=some ⟨.aq [.iV r,.iV 0],h,[]⟩
 LD:∀(total:Int) (w:List Int) x h,fv h x=some w->gD total w=0->M.ext 23 [.iV total,x] h=some ⟨.aq [.sl h.length 0 w.length 1 none,.iV 0],h++[some (.cells (ints (share total w)) 3)],[]⟩
 rW:∀(n:Int) h,-9223372036854775808<=n/\n<9223372036854775808->M.ext 54 [.iV n] h=some ⟨.str (aw (n:Rat)),h,[]⟩
 LF:∀p q h,Dq 201 p->Dq 201 q->M.ext 53 [.str (aw p),.str (aw q)] h=some ⟨.str (aw (p*q)),h,[]⟩
 LG:∀p q h,Dq 201 p->Dq 201 q->q≠0->M.ext 52 [.str (aw p),.str (aw q)] h=some ⟨.str (aw (p*q⁻¹)),h,[]⟩
 LH:∀p q h,Dq 201 p->Dq 201 q->M.ext 57 [.str (aw p),.str (aw q)] h=some ⟨.str (aw (p-q)),h,[]⟩
 LJ:∀q h,M.ext 56 [.str (aw q)] h=some ⟨.str (aw (if q.num<0 then -q else q)),h,[]⟩
 LK:∀p q h,Dq 201 p->Dq 201 q->M.ext 55 [.str (aw p),.str (aw q)] h=some ⟨.iV (jC p q),h,[]⟩
theorem wI {n:Int}(h:ah n<10^20):Dq 20 (n:Rat):=by
 unfold Dq;rw[Rat.num_intCast,Rat.den_intCast];exact⟨h,by decide⟩
theorem aad {a s:Int}(hs:0<s)(h : -s<a/\a<s):jC (if (Rat.divInt a s).num<0 then -Rat.divInt a s else Rat.divInt a s) 1<0:=by
 obtain⟨c,hc,e1,e2⟩:=ja (n:=a) hs;have e:∀g:Rat,jC g 1=aW (g.num-g.den):=fun g=>by
  unfold jC;simp
 have key:∀{x:Int},x<(Rat.divInt a s).den->aW (x-(Rat.divInt a s).den)<0:=fun {x} h=>by
  unfold aW;rw[if_pos (by omega)];decide
 split
 . rw[e,Rat.neg_num,Rat.neg_den];refine key ?_;refine Decidable.byContradiction fun hn=>?_
   have:=Int.mul_le_mul_of_nonneg_left (show ((Rat.divInt a s).den:Int) <= -(Rat.divInt a s).num by omega) (Int.le_of_lt hc);rw[Int.mul_neg]at this;omega
 . rw[e];refine key ?_;refine Decidable.byContradiction fun hn=>?_
   have:=Int.mul_le_mul_of_nonneg_left (show ((Rat.divInt a s).den:Int)<=(Rat.divInt a s).num by omega) (Int.le_of_lt hc);omega
structure LL (M:ao)(total x all y:Int)(tt tx ta ty X E D A:aM)(c:Int):Prop where
 q1:∀h,M.ext 54 [.iV total] h=some ⟨.str tt,h,[]⟩
 q2:∀h,M.ext 54 [.iV x] h=some ⟨.str tx,h,[]⟩
 q3:∀h,M.ext 54 [.iV all] h=some ⟨.str ta,h,[]⟩
 q4:∀h,M.ext 54 [.iV y] h=some ⟨.str ty,h,[]⟩
 q5:∀h,M.ext 53 [.str tt,.str tx] h=some ⟨.str X,h,[]⟩
 q6:∀h,M.ext 52 [.str X,.str ta] h=some ⟨.str E,h,[]⟩
 q7:∀h,M.ext 57 [.str ty,.str E] h=some ⟨.str D,h,[]⟩
 q8:∀h,M.ext 56 [.str D] h=some ⟨.str A,h,[]⟩
 q9:∀h,M.ext 55 [.str A,.str [49]] h=some ⟨.iV c,h,[]⟩
 lt:c<0
theorem Dk (C:C8 M){total x all y:Int}(ht:0<=total/\total<=999999999)(hx:0<=x/\x<=999999999)(ha:0<all/\all<=256000000000)(hy:0<=y/\y<=999999999)(hn : -all<y*all-total*x/\y*all-total*x<all):∃tt tx ta ty X E D A c,LL M total x all y tt tx ta ty X E D A c:=by
 have kJ:(10:Int)^20=100000000000000000000:=by decide
 have d1:=wI (n:=total) (by rw[kJ];unfold ah;split <;> omega);have d2:=wI (n:=x) (by rw[kJ];unfold ah;split <;> omega);have d3:=wI (n:=all) (by rw[kJ];unfold ah;split <;> omega);have d4:=wI (n:=y) (by rw[kJ];unfold ah;split <;> omega);have hz:(all:Rat)≠0:=by simp;omega
 have m:=fun {k:Nat} {q:Rat} (h:Dq k q) (hk:k<=201)=>h.mono hk
 have d5:=d1.mul d2;have d6:=d5.mul (d3.inv hz);have d7:=d4.sub d6;have e:(y:Rat)-total*x*(all:Rat)⁻¹=Rat.divInt (y*all-total*x) all:=by
  rw[Rat.divInt_eq_div,Rat.div_def];have h1:(all:Rat)*(all:Rat)⁻¹=1:=Rat.mul_inv_cancel _ hz;have h2:((y*all-total*x:Int):Rat)=(y:Rat)*all-total*x:=by simp
  rw[h2];grind
 have d8:Dq 201 (if ((y:Rat)-total*x*(all:Rat)⁻¹).num<0 then -((y:Rat)-total*x*(all:Rat)⁻¹) else ((y:Rat)-total*x*(all:Rat)⁻¹)):=by
  split
  . exact m d7.neg (by decide)
  . exact m d7 (by decide)
 have hl:=aad ha.1 hn;rw[←e]at hl;refine⟨_,_,_,_,_,_,_,_,_,⟨fun h=>C.rW total h (by omega),fun h=>C.rW x h (by omega),fun h=>C.rW all h (by omega),fun h=>C.rW y h (by omega),fun h=>C.LF _ _ h (m d1 (by decide)) (m d2 (by decide)),fun h=>C.LG _ _ h (m d5 (by decide)) (m d3 (by decide)) hz,fun h=>C.LH _ _ h (m d4 (by decide)) (m d6 (by decide)),fun h=>C.LJ _ h,fun h=>?_,hl⟩⟩;rw[←VK];exact C.LK _ _ h d8 (.one (by decide))
structure wJ (M:ao)(total:Int)(w L:List Int):Prop where
 len:L.length=w.length
 pf:w.length<=20
 wb:∀i,i<w.length->0<=w[i]! /\ w[i]! <= 999999999
 lb:∀i,i<w.length->0<=L[i]! /\ L[i]! <= total
 tt:0<=total/\total<=999999999
 mono:∀i k,i<w.length->k<w.length->w[i]! < w[k]! -> L[i]! <= L[k]!
 Dk:∀i,i<w.length->∃tt tx ta ty X E D A c,LL M total w[i]! (sum w) L[i]! tt tx ta ty X E D A c
theorem wK {l:List Int}{i:Nat}(h:i<l.length):sum (l.take (i+1))=sum (l.take i)+l[i]! := by
 rw[List.take_add_one,List.getElem?_eq_getElem h,sum_append,getElem!_pos l i h];simp[sum]
theorem Dl {l:List Int}{m:Int}(hm:0<=m)(h:∀i,i<l.length->0<=l[i]! /\ l[i]! <= m):∀i,i<=l.length->0<=sum (l.take i)/\sum (l.take i)<=i*m
 | 0,_=>by simp[sum]
 | i+1,hi=>by
  have ih:=Dl hm h i (by omega);have:=h i (by omega);rw[wK (by omega),Int.natCast_add,Int.add_mul];omega
theorem aae {w L:List Int}{total:Int}(S:wJ M total w L)(a0 a3 a4 a5 a6 a7 a8 a10 a11 a12 a13 a16 a17 a18 a19:AV)(H:ab)(lo:List (Nat×AV))(wr:List Nat){Q:Ex->al->Prop}
 (hQ:∀a10 a15 lo wr,Q (.exit 0) ⟨⟨[a0,.iV total,.vs (ints w) w.length cap,a3,a4,a5,a6,a7,a8,.iV (sum w),a10,a11,a12,a13,.iV w.length,a15,a16,a17,a18,a19],lo,H,[]⟩,wr⟩) :
 W M (.loop wG) ⟨⟨[a0,.iV total,.vs (ints w) w.length cap,a3,a4,a5,a6,a7,a8,.iV 0,a10,a11,a12,a13,.iV w.length,.iV 0,a16,a17,a18,a19],lo,H,[]⟩,wr⟩ Q:=by
 have hb:=Dl (m:=999999999) (by decide) S.wb;have pf:=S.pf;refine W.gB w.length (fun i s=>∃a10 lo wr,s=⟨⟨[a0,.iV total,.vs (ints w) w.length cap,a3,a4,a5,a6,a7,a8,.iV (sum (w.take i)),a10,a11,a12,a13,.iV w.length,.iV i,a16,a17,a18,a19],lo,H,[]⟩,wr⟩) (fun i s hi ⟨a10,lo,wr,hs⟩=>?_) (fun s ⟨a10,lo,wr,hs⟩=>?_) (Nat.zero_le _) ⟨_,_,_,rfl⟩
 . subst hs;have h1:=hb i (by omega);have h2:=S.wb i hi;have e:=wK hi;rw[show w[i]! = w[((i:Int)).toNat]! from rfl]at h2 e;have h3:(i:Int)*999999999<=20*999999999:=Int.mul_le_mul_of_nonneg_right (by omega) (by decide);generalize sum (w.take i)=z at *
   unfold wG;exact gg1
 . subst hs;rw[List.take_length];unfold wG;exact gg1
theorem aaf {w L:List Int}{total:Int}(S:wJ M total w L)(i:Nat)(hi:i<w.length)(a0 a3 a4 a5 a7 a8 a9 a10 a12 a13 a14 a15 a16 a17:AV)(lo:List (Nat×AV))(wr:List Nat){Q:Ex->al->Prop}
 (hQ:∀a13 a19 lo wr,Q (.exit 4) ⟨⟨[a0,.iV total,.vs (ints w) w.length cap,a3,a4,a5,.sl 0 0 w.length 1 none,a7,a8,a9,a10,.iV i,a12,a13,a14,a15,a16,a17,.iV w.length,a19],lo,[some (.cells (ints L) 3)],[]⟩,wr⟩) :
 W M (.loop rV) ⟨⟨[a0,.iV total,.vs (ints w) w.length cap,a3,a4,a5,.sl 0 0 w.length 1 none,a7,a8,a9,a10,.iV i,a12,a13,a14,a15,a16,a17,.iV w.length,.iV 0],lo,[some (.cells (ints L) 3)],[]⟩,wr⟩ Q:=by
 have pf:=S.pf;have len:=S.len;refine W.gB w.length (fun k s=>∃a13 lo wr,s=⟨⟨[a0,.iV total,.vs (ints w) w.length cap,a3,a4,a5,.sl 0 0 w.length 1 none,a7,a8,a9,a10,.iV i,a12,a13,a14,a15,a16,a17,.iV w.length,.iV k],lo,[some (.cells (ints L) 3)],[]⟩,wr⟩) (fun k s hk ⟨a13,lo,wr,hs⟩=>?_) (fun s ⟨a13,lo,wr,hs⟩=>?_) (Nat.zero_le _) ⟨_,_,_,rfl⟩
 . subst hs;by_cases h:w[((i:Int)).toNat]! < w[((k:Int)).toNat]!
   . have hm:L[((i:Int)).toNat]! <= L[((k:Int)).toNat]! := S.mono i k hi hk h;unfold rV;exact gg2
   . unfold rV;exact gg2
 . subst hs;unfold rV;exact gg1
theorem aag {w L:List Int}{total:Int}(S:wJ M total w L)(a0 a3 a4 a5 a7 a10 a11 a12 a13 a14 a15 a18 a19:AV)(lo:List (Nat×AV))(wr:List Nat){Q:Ex->al->Prop}
 (hQ:∀a11 a12 a13 a17 a18 a19 lo wr,Q (.exit 2) ⟨⟨[a0,.iV total,.vs (ints w) w.length cap,a3,a4,a5,.sl 0 0 w.length 1 none,a7,.iV (sum L),.iV (sum w),a10,a11,a12,a13,a14,a15,.iV w.length,a17,a18,a19],lo,[some (.cells (ints L) 3)],[]⟩,wr⟩) :
 W M (.loop wH) ⟨⟨[a0,.iV total,.vs (ints w) w.length cap,a3,a4,a5,.sl 0 0 w.length 1 none,a7,.iV 0,.iV (sum w),a10,a11,a12,a13,a14,a15,.iV w.length,.iV 0,a18,a19],lo,[some (.cells (ints L) 3)],[]⟩,wr⟩ Q:=by
 have pf:=S.pf;have len:=S.len;have tt:=S.tt;have hb:=Dl (l:=L) (m:=999999999) (by decide) fun i hi=>by have:=S.lb i (by omega);omega
 refine W.gB w.length (fun i s=>∃a11 a12 a13 a18 a19 lo wr,s=⟨⟨[a0,.iV total,.vs (ints w) w.length cap,a3,a4,a5,.sl 0 0 w.length 1 none,a7,.iV (sum (L.take i)),.iV (sum w),a10,a11,a12,a13,a14,a15,.iV w.length,.iV i,a18,a19],lo,[some (.cells (ints L) 3)],[]⟩,wr⟩) (fun i s hi ⟨a11,a12,a13,a18,a19,lo,wr,hs⟩=>?_) (fun s ⟨a11,a12,a13,a18,a19,lo,wr,hs⟩=>?_) (Nat.zero_le _) ⟨_,_,_,_,_,_,_,rfl⟩
 . subst hs;have h1:=hb i (by omega);have h2:=S.lb i hi;have e:=wK (l:=L) (i:=i) (by omega);obtain⟨ts,tx,ta,ty,X,E,D,A,c,nr⟩:=S.Dk i hi;have q1:=nr.q1;have q2:=nr.q2;have q3:=nr.q3;have q4:=nr.q4;have q5:=nr.q5;have q6:=nr.q6;have q7:=nr.q7;have q8:=nr.q8;have q9:=nr.q9;have lt:=nr.lt;rw[show L[i]! = L[((i:Int)).toNat]! from rfl]at h2 e q4;rw[show w[i]! = w[((i:Int)).toNat]! from rfl]at q2;have h3:(i:Int)*999999999<=20*999999999:=Int.mul_le_mul_of_nonneg_right (by omega) (by decide);have tl:∀a10 a12 a13 a18 a19 lo wr,W M Dj ⟨⟨[a0,.iV total,.vs (ints w) w.length cap,a3,a4,a5,.sl 0 0 w.length 1 none,a7,.iV (sum (L.take i)+L[((i:Int)).toNat]!),.iV (sum w),a10,.iV i,a12,a13,a14,a15,.iV w.length,.iV i,a18,a19],lo,[some (.cells (ints L) 3)],[]⟩,wr⟩
    (BQ 3 (SQ M (.region [zq 175 .add 17 1,zw 17 175]) (LI (fun s=>∃a11 a12 a13 a18 a19 lo wr,s=⟨⟨[a0,.iV total,.vs (ints w) w.length cap,a3,a4,a5,.sl 0 0 w.length 1 none,a7,.iV (sum (L.take (i+1))),.iV (sum w),a10,a11,a12,a13,a14,a15,.iV w.length,.iV ((i+1:Nat):Int),a18,a19],lo,[some (.cells (ints L) 3)],[]⟩,wr⟩) Q))):=fun a10 a12 a13 a18 a19 lo wr=>by
    unfold Dj;repeat' first|refine gc ?_|fail
    refine aaf S i hi _ _ _ _ _ _ _ _ _ _ _ _ _ _ _ _ fun a13 a19 lo wr=>?_
    exact gg0
   generalize sum (L.take i)=z at *
   unfold wH;exact gg9
 . subst hs;rw[show L.take w.length=L by rw[←len,List.take_length]];unfold wH;exact gg1
theorem shd (C:C8 M){total:Int}{w:List Int}(hl:w.length<=20)(hE:gD total w=0):wJ M total w (share total w)/\sum (share total w)=total:=by
 obtain⟨t0,t1,hw,hs,h256⟩:=Li hE;have S1:=ik.sum ⟨t0,t1,hw,hs,h256⟩;have wm:∀i,i<w.length->w[i]! ∈ w:=fun i hi=>by rw[getElem!_pos w i hi];exact List.getElem_mem hi
 have nr:=fun i (hi:i<w.length)=>ZZ (total:=total) hs hi
 have wle:∀i,i<w.length->w[i]! <= sum w:=fun i hi=>by
  have h1:=(wD (fun x hx=>(hw x hx).1) (i+1)).2;rw[wK hi]at h1;have:=(wD (fun x hx=>(hw x hx).1) i).1;omega
 have lb:∀i,i<w.length->0<=(share total w)[i]! /\ (share total w)[i]! <= total:=fun i hi=>by
  have h0:0<=total*w[i]! / sum w:=Int.ediv_nonneg (Int.mul_nonneg t0 (hw _ (wm i hi)).1) (Int.le_of_lt hs);refine⟨by rw[wF hi];split <;> omega,?_⟩;have h1:=(nr i hi).2;have h2:total*w[i]! <= total*sum w:=Int.mul_le_mul_of_nonneg_left (wle i hi) t0;refine Decidable.byContradiction fun hn=>?_
  have h3:(total+1)*sum w<=(share total w)[i]! * sum w:=Int.mul_le_mul_of_nonneg_right (by omega) (Int.le_of_lt hs);rw[Int.add_mul]at h3;omega
 exact⟨⟨Ly,hl,fun i hi=>hw _ (wm i hi),lb,⟨t0,t1⟩,fun i k hi hk h=>aaa hs t0 hi hk h,fun i hi=>Dk C ⟨t0,t1⟩ (hw _ (wm i hi)) S1 (by have:=lb i hi;omega) (nr i hi)⟩,ZX hs⟩
theorem w8 (C:C8 M){n:Int}(hn : -9223372036854775808<=n/\n<9223372036854775808)(total:Int)(w:List Int):aU M 8 [.iV n,.iV total,.vs (ints w) w.length cap] [] ⟨.bool true,[],[]⟩:=by
 have hW:∀h,fv h (.vs (ints w) w.length cap)=some w:=fun h=>FC
 have q18:=C.LA;have q26:=fun h=>C.LB w _ h (hW h)
 refine bO (by rw[C.ft];exact ft8) (by simp) ?_;by_cases hc:0<=n/\w.length<=20/\(0<=total/\total<=999999999)/\dS w=0
 . obtain⟨h0,hl,ht,hk⟩:=hc;have hE:gD total w=0:=by unfold gD;rw[if_neg (by omega)];exact hk
   rw[hk]at q26;obtain⟨S,hsum⟩:=shd C hl hE;obtain⟨r,⟨r1,r2,r3⟩,q51⟩:=C.LC n ⟨h0,hn.2⟩;have sq1:=Dh r1;have sq2:r<3037000499->0<=(r+1)*(r+1)/\(r+1)*(r+1)<=9223372030926249001:=fun h=>Dh ⟨by omega,by omega⟩
   have q23:=fun h=>C.LD total w _ h (hW h) hE
   have len:=S.len;generalize share total w=L at *
   clear C;unfold b8;simp only[enter];rcases Int.lt_or_le r 3037000499 with hr|hr;all_goals
   . try (have sq3:=sq2 hr)
     refine gg12 ?_;refine aae S _ _ _ _ _ _ _ _ _ _ _ _ _ _ _ _ _ _ fun a10 a15 lo wr=>?_
     repeat' first|refine gc ?_|fail
     refine aag S _ _ _ _ _ _ _ _ _ _ _ _ _ _ _ fun a11 a12 a13 a17 a18 a19 lo wr=>?_
     rw[hsum];exact gg6
 . generalize dS w=k at *
   unfold b8;simp only[enter];exact gg9
open Go.Proofs
noncomputable def LM:Spec:=sK [] 51
theorem aai:bQ Tryz.prog gl 51 LM:=dJ cQ
noncomputable def LN:List (Nat×Spec):=[(139,ru),(138,vM)]
noncomputable def Dm:Spec:=sK LN 54
theorem aaj:bQ Tryz.prog gl 54 Dm:=dJ (bF Cv (bF Kg cQ))
theorem k54 (n:Int)(h:ab)(hn : -9223372036854775808<=n/\n<9223372036854775808):Dm [.iV n] h=some ⟨.str (aw (n:Rat)),h,[]⟩:=by
 obtain⟨v0,k,q⟩:=Cy n hn;exact da (w54 (M:=aZ Tryz.prog FT LN) bE q fun h=>Cw h k (Cl (N:=100) (by decide) hn)) rfl rfl rfl h
noncomputable def Dn:List (Nat×Spec):=[(18,zI),(26,rT),(51,LM),(23,rU),(54,Dm),(53,rz),(52,CM),(57,rA),(56,Kr),(55,CL)]
theorem aal:dg Tryz.prog gl (bj Dn):=bF QU (bF ZP (bF aai (bF ZR (bF aaj (bF Kn (bF YR (bF Ko (bF YX (bF YQ cQ)))))))))
theorem c8:C8 (aZ Tryz.prog FT Dn) where
 ft:=bE
 LA:=fun h=>QV h
 LB:=fun w x h hi=>by
  show rT [x] h=_;unfold rT;simp only[hi]
 LC:=fun n hn=>by
  obtain⟨r,h1,r1⟩:=ZV (M:=aZ Tryz.prog FT []) bE hn;exact⟨r,h1,fun h=>da r1 rfl rfl rfl h⟩
 LD:=fun total w x h hi hE=>by
  show rU [.iV total,x] h=_;unfold rU;simp only[hi];rw[if_pos hE]
 rW:=fun n h hn=>k54 n h hn
 LF:=fun p q h hp hq=>Kp p q h hp hq
 LG:=fun p q h hp hq h0=>YW p q h hp hq h0
 LH:=fun p q h hp hq=>Kq p q h hp hq
 LJ:=fun q h=>da (Yh (M:=aZ Tryz.prog FT [(140,kT)]) bE (CO q)) rfl rfl rfl h
 LK:=fun p q h hp hq=>YV p q h hp hq
end Go.Ab.Ch1
