/-
  Own work: texts of marks, plainly: what is printed is read as it was.
-/
import Derived.Test.YtcjphdmkgmkabaaGreatDoorLib7
import Derived.Test.YtcjphdmkgmkabaaGreatDoorLib8
set_option maxHeartbeats 8000000
set_option maxRecDepth 20000
namespace Go.Ab.Ch1
open Go.Ab.aD
theorem oe {s:ae}(h:s.all bk=true){b:UInt8}(hb:bk b=false):b∉s:=fun hm=>by
 rw[(List.all_eq_true.1 h) b hm]at hb;cases hb
theorem sf (c:UInt8):∀(x y:ae),c∉x->aN c (x++c::y)=(x,some y)
 | [],y,_=>by rw[List.nil_append,aN,if_pos rfl]
 | a::x,y,h=>by
  rw[List.mem_cons,not_or]at h;rw[List.cons_append,aN,if_neg (fun e=>h.1 e.symm),sf c x y h.2]
theorem yJ {n:Nat}(h:n<1000000000):bB (aH n)=n:=by
 have:=eJ (k:=9) h (by decide);unfold bB;rw[if_pos ⟨jd n,this,fH n⟩,qK]
theorem lM {n:Nat}(h:n<1000000000):bE (aH n)=n:=by
 unfold bE;rw[if_neg,yJ h];rintro⟨h1,h2⟩;have hf:=(ED n).2.2;cases hs:aH n with
 | nil=>rw[hs]at h1;simp at h1
 | cons a s=>
  rw[hs]at h1 h2 hf;have:a=48:=h2;subst this;have:=hf rfl;omega
theorem jn {k n:Nat}(hk:0<k/\k<=9)(h:n<10^k):bB (bg k n)=n:=by
 unfold bB;have hl:=cj k n;rw[if_pos ⟨fun e=>by rw[e]at hl;simp at hl;omega,by omega,fj k n⟩,qJ,Nat.zero_mul,Nat.zero_add,Nat.mod_eq_of_lt h]
theorem lN {s:ae}{d:Int}(lo hi:Nat)(h:bB s=d)(h0:0<=d)(hl:lo<=s.length/\s.length<=hi):bV s lo hi=d*10^(hi-s.length):=by
 unfold bV;rw[if_neg (by omega),h]
theorem JE {s:ae}(h:s∈eM):bH 83 s=true\/bH 70 s=true\/bH 81 s=true\/bH 77 s=true:=by
 simp only[eM,List.mem_cons,List.not_mem_nil,or_false]at h;rcases h with rfl|rfl|rfl|rfl <;> decide
theorem fU (b c:UInt8)(s:ae):bH b (s++[c])=decide (c=b):=by simp[bH]
theorem JF {b:UInt8}(s:ae){t:ae}(h:t≠[]):bH b (s++t)=bH b t:=by
 unfold bH;rw[List.getLast?_append];cases ht:t.getLast? with
 | none=>rw[List.getLast?_eq_none_iff]at ht;exact absurd ht h
 | some x=>rfl
theorem JG {t:ae}(h:t.all bk=true){b:UInt8}(hb:bk b=false):bH b t=false:=by
 unfold bH;refine decide_eq_false fun e=>?_
 have:=List.mem_of_getLast? e;exact oe h hb this
theorem sg {s:ae}(h1:bH 83 s=false)(h2:bH 70 s=false)(h3:bH 81 s=false)(h4:bH 77 s=false):s∉eM:=fun h=>by
 rcases JE h with e|e|e|e
 . rw[h1]at e;cases e
 . rw[h2]at e;cases e
 . rw[h3]at e;cases e
 . rw[h4]at e;cases e
theorem JH {n:Nat}(h:n<=99999):cW (gO n)=⟨fT,n,[],0⟩:=by
 have hlen:=eJ (n:=n) (k:=9) (by omega) (by decide);unfold gO;have e1:=fU 112 112 (aH n);have hr:aH n++[112]∉eM:=sg (by rw[fU];rfl) (by rw[fU];rfl) (by rw[fU];rfl) (by rw[fU];rfl);have hf:=lM (n:=n) (by omega);unfold cW;rw[if_neg (by simp;omega),if_neg hr,if_pos (by rw[e1];rfl),List.dropLast_concat,hf,if_neg (by omega)];have hc:bx fT n []=0:=by
  show (if (n:Int)<0\/99999<(n:Int) then 3 else 0)=(0:Int);rw[if_neg (by omega)]
 unfold dy;rw[hc];rfl
theorem JI {n:Nat}(h:n<=999999):cW (gN n)=⟨eL,n,[],0⟩:=by
 have hlen:=eJ (n:=n/1000) (k:=9) (by omega) (by decide);obtain⟨X,hX,hXl,hXa,hXv⟩:∃X:ae,X=(if n%10=0 then bg 2 (n%1000/10) else bg 3 (n%1000))/\X.length<=3/\X.all bk=true/\bV X 2 3=(n%1000:Nat):=by
  refine⟨_,rfl,?_⟩;by_cases h0:n%10=0
  . rw[if_pos h0];refine⟨by rw[cj];omega,fj _ _,?_⟩;rw[lN 2 3 (jn (by decide) (show n%1000/10<10^2 by omega)) (by omega) (by rw[cj];omega),cj];show ((n%1000/10:Nat):Int)*10=_;omega
  . rw[if_neg h0];refine⟨by rw[cj];omega,fj _ _,?_⟩;rw[lN 2 3 (jn (by decide) (show n%1000<10^3 by omega)) (by omega) (by rw[cj];omega),cj];show ((n%1000:Nat):Int)*1=_;omega
 unfold gN;rw[←hX];obtain⟨F,hF⟩:∃F:ae,F=aH (n/1000)++[46]++X:=⟨_,rfl⟩;rw[←hF];have hFl:F.length<=13:=by rw[hF];simp;omega
 have e1:=fU 112 109 F;have e2:=fU 109 109 F;have hr:F++[109]∉eM:=sg (by rw[fU];rfl) (by rw[fU];rfl) (by rw[fU];rfl) (by rw[fU];rfl);have hf:=lM (n:=n/1000) (by omega);have hs:aN 46 F=(aH (n/1000),some X):=by
  rw[hF,List.append_assoc];exact sf 46 _ _ (oe (fH _) (by decide))
 unfold cW;rw[if_neg (by rw[List.length_append,List.length_singleton];omega),if_neg hr,if_neg (by rw[e1];decide),if_pos (by rw[e2];rfl),List.dropLast_concat];unfold ke;rw[hs];show (if bE (aH (n/1000))<0\/bV X 2 3<0 then dN 25 else dy eL (1000*bE (aH (n/1000))+bV X 2 3) [])=_;rw[hf,hXv,if_neg (by omega)];have e:(1000:Int)*((n/1000:Nat):Int)+((n%1000:Nat):Int)=n:=by omega
 rw[e];have hc:bx eL n []=0:=by
  show (if (n:Int)<0\/999999<(n:Int) then 3 else 0)=(0:Int);rw[if_neg (by omega)]
 unfold dy;rw[hc];rfl
theorem og {f b:ae}(hf:46∉f)(hb:b.all bk=true)(hb0:b≠[])(hl:(f++46::b).length<=24):cW (f++46::b)=fb (aU 58 f) (bV b 1 4):=by
 have e:∀c,bk c=false->bH c (f++46::b)=false:=fun c hc=>by
  rw[show f++46::b=(f++[46])++b by simp,JF _ hb0];exact JG hb hc
 unfold cW;rw[if_neg (by omega),if_neg (sg (e _ (by decide)) (e _ (by decide)) (e _ (by decide)) (e _ (by decide))),e 112 (by decide),if_neg (by decide),e 109 (by decide),if_neg (by decide)];unfold jj;rw[sf 46 f b hf]
theorem sh {v:Int}(h:1<=v/\v<=863999999):dy bm v []=⟨bm,v,[],0⟩:=by
 have:bx bm v []=0:=by rw[lJ,if_neg (by omega)]
 unfold dy;rw[this];rfl
theorem JJ {x r:Int}{a:ae}(ha:bE a=x)(h0:0<=x/\x<=59)(hr:0<=r)(hv:1<=10000*x+r/\10000*x+r<=863999999):fb [a] r=⟨bm,10000*x+r,[],0⟩:=by
 have e:dU 0 [a]=[x]:=by rw[dU,dU,bL,if_pos rfl,ha]
 rw[fb,if_neg (by simp;omega),e,if_neg (by simp;omega)];rw[show fa ([a]:List ae).length 0 [x]=false by rw[fa,fa,decide_eq_false (by simp;omega)];rfl];rw[if_neg (by decide),show gr [x]=x by simp[gr]];exact sh hv
theorem yK {x y r:Int}{a b:ae}(ha:bE a=x)(hb:bB b=y)(hbl:b.length=2)(h0:0<=x/\x<=59)(h1:0<=y/\y<=59)(hr:0<=r)(hv:1<=10000*(60*x+y)+r/\10000*(60*x+y)+r<=863999999):fb [a,b] r=⟨bm,10000*(60*x+y)+r,[],0⟩:=by
 have e:dU 0 [a,b]=[x,y]:=by rw[dU,dU,dU,bL,bL,if_pos rfl,if_neg (by decide),if_pos hbl,ha,hb]
 rw[fb,if_neg (by simp;omega),e,if_neg (by simp;omega)];rw[show fa ([a,b]:List ae).length 0 [x,y]=false by rw[fa,fa,fa,decide_eq_false (by simp;omega),decide_eq_false (by simp;omega)];rfl];rw[if_neg (by decide),show gr [x,y]=60*x+y by simp[gr]];exact sh hv
theorem yL {x y z r:Int}{a b c:ae}(ha:bE a=x)(hb:bB b=y)(hbl:b.length=2)(hc:bB c=z)(hcl:c.length=2)(h0:0<=x)(h1:0<=y/\y<=59)(h2:0<=z/\z<=59)(hr:0<=r)(hv:1<=10000*(60*(60*x+y)+z)+r/\10000*(60*(60*x+y)+z)+r<=863999999) :
 fb [a,b,c] r=⟨bm,10000*(60*(60*x+y)+z)+r,[],0⟩:=by
 have e:dU 0 [a,b,c]=[x,y,z]:=by rw[dU,dU,dU,dU,bL,bL,bL,if_pos rfl,if_neg (show ¬0+1=0 by decide),if_pos hbl,if_neg (show ¬0+1+1=0 by decide),if_pos hcl,ha,hb,hc]
 rw[fb,if_neg (by simp;omega),e,if_neg (by simp;omega)];rw[show fa ([a,b,c]:List ae).length 0 [x,y,z]=false by rw[fa,fa,fa,fa,decide_eq_false (by simp),decide_eq_false (by simp;omega),decide_eq_false (by simp;omega)];rfl];rw[if_neg (by decide),show gr [x,y,z]=60*(60*x+y)+z by simp[gr]];exact sh hv
def fL (n:Nat):ae:=if n%100=0 then bg 2 (n%10000/100) else bg 4 (n%10000)
def fl (n:Nat):ae:=
 if 3600<=n/10000 then aH (n/10000/3600)++[58]++bg 2 (n/10000/60%60)++[58]++bg 2 (n/10000%60)
  else if 60<=n/10000 then aH (n/10000/60)++[58]++bg 2 (n/10000%60) else aH (n/10000)
theorem si (n:Nat):gu n=fl n++46::fL n:=by
 unfold gu fl fL;simp only[List.append_assoc,List.singleton_append]
theorem yM (n:Nat):(fL n).all bk=true/\2<=(fL n).length/\(fL n).length<=4/\bV (fL n) 1 4=(n%10000:Nat):=by
 unfold fL;split
 . refine⟨fj _ _,by rw[cj];omega,by rw[cj];omega,?_⟩;rw[lN 1 4 (jn (by decide) (show n%10000/100<10^2 by omega)) (by omega) (by rw[cj];omega),cj];show ((n%10000/100:Nat):Int)*100=_;omega
 . refine⟨fj _ _,by rw[cj];omega,by rw[cj];omega,?_⟩;rw[lN 1 4 (jn (by decide) (show n%10000<10^4 by omega)) (by omega) (by rw[cj];omega),cj];show ((n%10000:Nat):Int)*1=_;omega
theorem JK (n:Nat)(h:10<=n/\n<100):(aH n).length=2:=by
 rw[qH (k:=1) (n:=n) (by omega) (by omega),cj]
theorem jo {s:ae}(h:s.all bk=true):(58:UInt8)∉s:=oe h (by decide)
theorem yN {s:ae}(h:s.all bk=true):(46:UInt8)∉s:=oe h (by decide)
theorem yO {n:Nat}(hn:1<=n/\n<=863999999):46∉fl n/\(fl n).length<=11/\0<(fl n).length/\fb (aU 58 (fl n)) (n%10000:Nat)=⟨bm,n,[],0⟩:=by
 have h46:∀s:ae,s.all bk=true->(46:UInt8)∉s:=fun s h=>yN h
 unfold fl;split
 . rename_i h3;have l1:=eJ (n:=n/10000/3600) (k:=2) (by omega) (by decide);have l0:=List.length_pos_iff.2 (jd (n/10000/3600));refine⟨?_,by simp[cj];omega,by simp[cj],?_⟩
   . simp only[List.mem_append,not_or];exact⟨⟨⟨⟨h46 _ (fH _),by decide⟩,h46 _ (fj _ _)⟩,by decide⟩,h46 _ (fj _ _)⟩
   . rw[show aH (n/10000/3600)++[58]++bg 2 (n/10000/60%60)++[58]++bg 2 (n/10000%60)=aH (n/10000/3600)++58::(bg 2 (n/10000/60%60)++58::bg 2 (n/10000%60)) by simp];rw[jk 58 _ _ (jo (fH _)),jk 58 _ _ (jo (fj _ _)),kf 58 _ (jo (fj _ _))];rw[yL (lM (by omega)) (jn (by decide) (show n/10000/60%60<10^2 by omega)) (cj _ _) (jn (by decide) (show n/10000%60<10^2 by omega)) (cj _ _) (by omega) (by omega) (by omega) (by omega) (by omega)];congr 1;omega
 . split
   . rename_i h3 h6;have l1:=eJ (n:=n/10000/60) (k:=2) (by omega) (by decide);have l0:=List.length_pos_iff.2 (jd (n/10000/60));refine⟨?_,by simp[cj];omega,by simp[cj],?_⟩
     . simp only[List.mem_append,not_or];exact⟨⟨h46 _ (fH _),by decide⟩,h46 _ (fj _ _)⟩
     . rw[show aH (n/10000/60)++[58]++bg 2 (n/10000%60)=aH (n/10000/60)++58::bg 2 (n/10000%60) by simp];rw[jk 58 _ _ (jo (fH _)),kf 58 _ (jo (fj _ _))];rw[yK (lM (by omega)) (jn (by decide) (show n/10000%60<10^2 by omega)) (cj _ _) (by omega) (by omega) (by omega) (by omega)];congr 1;omega
   . rename_i h3 h6;have l1:=eJ (n:=n/10000) (k:=2) (by omega) (by decide);have l0:=List.length_pos_iff.2 (jd (n/10000));refine⟨h46 _ (fH _),by omega,l0,?_⟩;rw[kf 58 _ (jo (fH _)),JJ (lM (by omega)) (by omega) (by omega) (by omega)];congr 1;omega
theorem JL {n:Nat}(hn:1<=n/\n<=863999999):cW (gu n)=⟨bm,n,[],0⟩/\0<(gu n).length/\(gu n).length<=16:=by
 obtain⟨b1,b2,b3,b4⟩:=yM n;obtain⟨f1,f2,f3,f4⟩:=yO hn;rw[si];have hl:(fl n++46::fL n).length=(fl n).length+(fL n).length+1:=by simp;omega
 refine⟨?_,by omega,by omega⟩;rw[og f1 b1 (fun e=>by rw[e]at b2;simp at b2) (by omega),b4,f4]
theorem sm (v:Int):cF bm v []=gu v.toNat:=rfl
theorem JM (v:Int):cF eL v []=gN v.toNat:=rfl
theorem JN (v:Int):cF fT v []=gO v.toNat:=rfl
theorem sn {k:ae}{v:Int}{r:ae}(h:bx k v r=0):cW (cF k v r)=⟨k,v,r,0⟩/\0<(cF k v r).length/\(cF k v r).length<=16:=by
 rcases rv h with ⟨rfl,hr,rfl⟩|⟨hk,hk2,rfl,hl,hm⟩
 . have e:cF gp 0 r=r:=rfl;rw[e];have hlen:0<r.length/\r.length<=3:=by
    simp only[eM,List.mem_cons,List.not_mem_nil,or_false]at hr;rcases hr with rfl|rfl|rfl|rfl <;> decide
   refine⟨?_,hlen.1,by omega⟩;unfold cW;rw[if_neg (by omega),if_pos hr]
 . rcases hk2 with rfl|rfl|rfl;all_goals simp only[eY,eZ]at hl hm
   all_goals simp(decide:=true) at hl hm
   all_goals obtain⟨n,rfl⟩:∃n:Nat,v=(n:Int):=⟨v.toNat,by omega⟩
   . rw[sm,Int.toNat_natCast];exact JL (by omega)
   . rw[JM,Int.toNat_natCast];have l1:=eJ (n:=n/1000) (k:=9) (by omega) (by decide);refine⟨JI (by omega),?_,?_⟩
     . unfold gN;simp;omega
     . unfold gN;split <;> simp[cj] <;> omega
   . rw[JN,Int.toNat_natCast];have l1:=eJ (n:=n) (k:=9) (by omega) (by decide);refine⟨JH (by omega),?_,?_⟩
     . unfold gO;simp
     . unfold gO;simp;omega
theorem JO {v:Int}(h:bx bm v []=0)(h0:v%100=0):cW (cF bm v []++[48,48])=⟨bm,v,[],0⟩:=by
 rw[lJ]at h;have hv:1<=v/\v<=863999999:=by
  by_cases hh:v<1\/863999999<v
  . rw[if_pos hh]at h;exact absurd h (by decide)
  . omega
 obtain⟨n,rfl⟩:∃n:Nat,v=(n:Int):=⟨v.toNat,by omega⟩;rw[sm,Int.toNat_natCast,si,fL,if_pos (by omega)];obtain⟨f1,f2,f3,f4⟩:=yO (n:=n) (by omega);rw[show fl n++46::bg 2 (n%10000/100)++[48,48]=fl n++46::(bg 2 (n%10000/100)++[48,48]) by simp];have hd:(bg 2 (n%10000/100)++[48,48]).all bk=true:=by rw[List.all_append,fj];rfl
 have hl:(bg 2 (n%10000/100)++[48,48]).length=4:=by rw[List.length_append,cj];rfl
 have hval:bB (bg 2 (n%10000/100)++[48,48])=(n%10000:Nat):=by
  unfold bB;rw[if_pos ⟨fun e=>by rw[e]at hl;simp at hl,by omega,hd⟩,lu,qJ,vq];have:bG 0 [48,48]=0:=rfl;have e2:([48,48]:ae).length=2:=rfl;rw[this,e2,Nat.mod_eq_of_lt (show n%10000/100<10^2 by omega)];omega
 rw[og f1 hd (fun e=>by rw[e]at hl;simp at hl) (by simp[hl];omega)];rw[lN 1 4 hval (by omega) (by omega),hl];show fb _ (((n%10000:Nat):Int)*1)=_;rw[Int.mul_one,f4]
theorem oh {v:Int}(h:100000<=v/\v<600000):cW ([48,58]++cF bm v [])=⟨bm,v,[],0⟩/\cW ([48,58,48,48,58]++cF bm v [])=⟨bm,v,[],0⟩:=by
 obtain⟨n,rfl⟩:∃n:Nat,v=(n:Int):=⟨v.toNat,by omega⟩;rw[sm,Int.toNat_natCast,si];obtain⟨b1,b2,b3,b4⟩:=yM n;have hb0:fL n≠[]:=fun e=>by rw[e]at b2;simp at b2
 have hf:fl n=aH (n/10000):=by unfold fl;rw[if_neg (by omega),if_neg (by omega)]
 have hl:=JK (n/10000) (by omega);have hd:=yJ (n:=n/10000) (by omega);have h46:=yN (fH (n/10000));have h58:=jo (fH (n/10000));rw[hf];generalize aH (n/10000)=D at *
 generalize fL n=B at *
 constructor
 . rw[show [48,58]++(D++46::B)=([48,58]++D)++46::B by simp,og (by simp[h46]) b1 hb0 (by simp;omega),b4];rw[show ([48,58]:ae)++D=[48]++58::D from rfl,jk 58 _ _ (by decide),kf 58 _ h58];rw[yK (x:=0) (y:=(n/10000:Nat)) rfl hd hl (by omega) (by omega) (by omega) (by omega)];congr 1;omega
 . rw[show [48,58,48,48,58]++(D++46::B)=([48,58,48,48,58]++D)++46::B by simp,og (by simp[h46]) b1 hb0 (by simp;omega),b4];rw[show ([48,58,48,48,58]:ae)++D=[48]++58::([48,48]++58::D) from rfl,jk 58 _ _ (by decide),jk 58 _ _ (by decide),kf 58 _ h58];rw[yL (x:=0) (y:=0) (z:=(n/10000:Nat)) rfl rfl rfl hd hl (by omega) (by omega) (by omega) (by omega) (by omega)];congr 1;omega
theorem JP {k:ae}{v:Int}{r k':ae}{v':Int}{r':ae}(h:bx k v r=0)(h':bx k' v' r'=0)(e:cF k v r=cF k' v' r'):k=k'/\v=v'/\r=r':=by
 have e1:=(sn h).1;rw[e,(sn h').1]at e1;simp only[PR.mk.injEq]at e1;exact⟨e1.1.symm,e1.2.1.symm,e1.2.2.1.symm⟩
variable {M:au} {cap:Option Nat}
structure so (M:au):Prop where
 ft:M.FT=FT
 yP:∀h,M.ext 18 [] h=some ⟨.bool true,h,[]⟩
 sq:∀k v r h,M.ext 34 [dx k v r] h=some ⟨.bool (decide (k.length<=40/\r.length<=40)),h,[]⟩
 sr:∀k v r h,M.ext 35 [dx k v r] h=some ⟨.iV (bx k v r),h,[]⟩
 ss:∀k v r h,M.ext 44 [dx k v r] h=some ⟨fJ k v r,h,[]⟩
 lO:∀(s:ae) h,s.length<100000->M.ext 46 [.str s] h=some ⟨(cW s).av,h,[]⟩
theorem Lt {t:Nat}{x y:an}{l:List aw}{pe:List AV}{lo:List (Nat×AV)}{hp:ab}{df wr:List Nat}{k k' r r':ae}{v v':Int}{Q:ah->Prop}(hx:(St.mk pe lo hp df).aa x=some (.agg [.str k,.iV v,.str r]))(hy:(St.mk pe lo hp df).aa y=some (.agg [.str k',.iV v',.str r']))
 (he:k=k'/\v=v'/\r=r') (h:WO M l ⟨⟨pe,(t,.bool false)::lo,hp,df⟩,wr⟩ Q) :
 WO M (⟨.l t,.eq true (.fm [(0,1,false,.str),(1,1,false,.int),(2,1,false,.str)]) x y,none⟩::l) ⟨⟨pe,lo,hp,df⟩,wr⟩ Q:=by
 obtain⟨rfl,rfl,rfl⟩:=he;have e:cd 100 (.fm [(0,1,false,.str),(1,1,false,.int),(2,1,false,.str)]) (.agg [.str k,.iV v,.str r]) (.agg [.str k,.iV v,.str r])=some true:=by
  simp[cd,goEq,partOf]
 exact WO.op (WP.pure (v:=.bool false) rfl (by simp only[aC,hx,hy,e];rfl) h)
theorem JQ (C:so M)(k:ae)(v:Int)(r:ae)(he:bx k v r=0)(hl:(cF k v r).length<=16)(a0 a1 a6 a7 a8 a9 aA:AV)(b1 b2:Option aK)(lo:List (Nat×AV))(wr:List Nat) :
 W M nU ⟨⟨[a0,a1,.ptr 0 0,.ptr 1 0,.bool false,.str (cF k v r),a6,a7,a8,a9,aA,aW,aW,aW,aW,aW,aW],lo,[some (.cells [.str k,.iV v,.str r] 49),b1,b2],[]⟩,wr⟩ fun x s=>(x = .normal\/x = .ret)/\s.s.bC=[]/\∃vs,dX s.s [.var (.p 4)]=some vs/\dh vs = .bool true/\(if (AV.bool true).top<=0 then [] else s.s.hp)=[]:=by
 by_cases hk:k=bm
 . subst hk;obtain rfl:r=[]:=by
    rcases rv he with ⟨h,_⟩|⟨_,_,h,_⟩
    . exact absurd h (by decide)
    . exact h
   have hv:1<=v/\v<=863999999:=by
    have h:=he;rw[lJ]at h;by_cases hh:v<1\/863999999<v
    . rw[if_pos hh]at h;exact absurd h (by decide)
    . omega
   have qz:=fun (h0:v%100=0) h=>C.lO (cF bm v []++[48,48]) h (by simp;omega)
   have qf:=fun h=>C.lO ([48,58]++cF bm v []) h (by simp;omega)
   have qg:=fun h=>C.lO ([48,58,48,48,58]++cF bm v []) h (by simp;omega)
   unfold nU;unfold t12;by_cases h0:v%100=0
   . have qz:=qz h0;rw[JO he h0]at qz;by_cases hr:100000<=v/\v<600000
     . rw[(oh hr).1]at qf;rw[(oh hr).2]at qg;generalize cF bm v []=S at *
       repeat' first|(apply Lt;rfl;rfl;exact⟨rfl,rfl,rfl⟩)|(apply Lq;rfl;rfl;all_goals first|(intro h;exact absurd ⟨rfl,rfl,rfl⟩ h)|intro _)|apply Ke|apply aj|apply Kf|apply Kg|apply Ki|apply Kl|apply aF|(apply Kj;rfl)|(apply Kk;rfl)|(apply Ky;rfl)|(apply Kv;rfl)|(apply KD;rfl)|(apply Kz;rfl;rfl)|(apply KJ;rfl;rfl)|(apply Ks;rfl;rfl)|(apply Kw;rfl;rfl)|(apply Kp;rfl;rfl)|(apply Kq;rfl;rfl)|(apply KC;rfl;rfl;omega)|(apply Li;rfl;rfl;first|omega|(simp only[List.length_cons,List.length_nil];omega)|(simp;omega))|(apply Lk;rfl;rfl;omega;intro _ _)|(apply Km;rfl;rfl;first|exact qz _|exact qf _|exact qg _)|(apply KM;rfl;rfl;all_goals first|(intro h;exact absurd h (by decide))|(intro h;exact absurd rfl h)|(intro h;contradiction)|intro _)|(apply Kr;rfl;rfl;rfl)|(apply Ko;rfl;rfl;rfl)|(apply Kt;rfl;rfl;rfl)|(apply Kd;rfl;rfl)|(apply Kh;rfl;rfl)|(intro _;omega)|intro _
       all_goals first|(omega)|contradiction|skip
       all_goals exact⟨.inr rfl,rfl,_,rfl,rfl,rfl⟩
     . generalize cF bm v []=S at *
       repeat' first|(apply Lt;rfl;rfl;exact⟨rfl,rfl,rfl⟩)|apply Ke|apply aj|apply Kf|apply Kg|apply Ki|apply Kl|apply aF|(apply Kj;rfl)|(apply Kk;rfl)|(apply Kv;rfl)|(apply KD;rfl)|(apply Kz;rfl;rfl)|(apply KJ;rfl;rfl)|(apply Ks;rfl;rfl)|(apply Kw;rfl;rfl)|(apply Kp;rfl;rfl)|(apply Kq;rfl;rfl)|(apply Li;rfl;rfl;first|omega|(simp only[List.length_cons,List.length_nil];omega)|(simp;omega))|(apply Lk;rfl;rfl;omega;intro _ _)|(apply Km;rfl;rfl;first|exact qz _)|(apply KM;rfl;rfl;all_goals first|(intro h;exact absurd h (by decide))|(intro h;exact absurd rfl h)|(intro h;contradiction)|intro _)|(apply Kr;rfl;rfl;rfl)|(apply Ko;rfl;rfl;rfl)|(apply Kt;rfl;rfl;rfl)|(apply Kd;rfl;rfl)|(apply Kh;rfl;rfl)|(intro _;omega)|intro _
       all_goals first|(omega)|contradiction|skip
       all_goals exact⟨.inr rfl,rfl,_,rfl,rfl,rfl⟩
   . by_cases hr:100000<=v/\v<600000
     . rw[(oh hr).1]at qf;rw[(oh hr).2]at qg;generalize cF bm v []=S at *
       repeat' first|(apply Lq;rfl;rfl;all_goals first|(intro h;exact absurd ⟨rfl,rfl,rfl⟩ h)|intro _)|apply Ke|apply aj|apply Kf|apply Kg|apply Ki|apply Kl|(apply Kk;rfl)|(apply Ky;rfl)|(apply Kv;rfl)|(apply KB;rfl)|(apply Kz;rfl;rfl)|(apply KJ;rfl;rfl)|(apply Ks;rfl;rfl)|(apply Kp;rfl;rfl)|(apply Kq;rfl;rfl)|(apply Li;rfl;rfl;first|omega|(simp only[List.length_cons,List.length_nil];omega)|(simp;omega))|(apply Lk;rfl;rfl;omega;intro _ _)|(apply Km;rfl;rfl;first|exact qf _|exact qg _)|(apply KM;rfl;rfl;all_goals first|(intro h;exact absurd h (by decide))|(intro h;exact absurd rfl h)|(intro h;contradiction)|intro _)|(apply Kr;rfl;rfl;rfl)|(apply Ko;rfl;rfl;rfl)|(apply Kt;rfl;rfl;rfl)|(apply Kd;rfl;rfl)|(apply Kh;rfl;rfl)|(intro _;omega)|intro _
       all_goals first|(omega)|contradiction|skip
       all_goals exact⟨.inr rfl,rfl,_,rfl,rfl,rfl⟩
     . generalize cF bm v []=S at *
       repeat' first|apply Ke|apply aj|apply Kf|apply Kg|apply Ki|apply Kl|apply aF|(apply Kj;rfl)|(apply Kk;rfl)|(apply Kv;rfl)|(apply KD;rfl)|(apply Kz;rfl;rfl)|(apply KJ;rfl;rfl)|(apply Ks;rfl;rfl)|(apply Kp;rfl;rfl)|(apply Kq;rfl;rfl)|(apply Lk;rfl;rfl;omega;intro _ _)|(apply KM;rfl;rfl;all_goals first|(intro h;exact absurd h (by decide))|(intro h;exact absurd rfl h)|(intro h;contradiction)|intro _)|(apply Kr;rfl;rfl;rfl)|(apply Kd;rfl;rfl)|(apply Kh;rfl;rfl)|(intro _;omega)|intro _
       all_goals first|(omega)|contradiction|skip
       all_goals exact⟨.inr rfl,rfl,_,rfl,rfl,rfl⟩
 . unfold nU;unfold t12;generalize cF k v r=S at *
   repeat' first|apply Ke|apply aj|apply Kf|apply Kg|apply Ki|apply aF|(apply Kj;rfl)|(apply KM;rfl;rfl;all_goals first|(intro h;exact absurd h (by decide))|(intro h;exact absurd rfl h)|(intro h;contradiction)|intro _)|(apply Kr;rfl;rfl;rfl)|(apply Kd;rfl;rfl)|(apply Kh;rfl;rfl)
   all_goals first|(omega)|contradiction|skip
   all_goals exact⟨.inr rfl,rfl,_,rfl,rfl,rfl⟩
theorem JR (C:so M)(k:ae)(v:Int)(r k':ae)(v':Int)(r':ae):aJ M 12 [dx k v r,dx k' v' r'] [] ⟨.bool true,[],[]⟩:=by
 refine bq (by rw[C.ft];exact Hz) (by simp) ?_;have q18:=C.yP;have q34:=fun h=>C.sq k v r h
 have p34:=fun h=>C.sq k' v' r' h
 have q35:=fun h=>C.sr k v r h
 have p35:=fun h=>C.sr k' v' r' h
 have q44:=fun h=>C.ss k v r h
 have p44:=fun h=>C.ss k' v' r' h
 unfold xn;simp only[enter];by_cases hb:k.length<=40/\r.length<=40
 . rw[decide_eq_true hb]at q34;by_cases hb':k'.length<=40/\r'.length<=40
   . rw[decide_eq_true hb']at p34;by_cases he:bx k v r=0
     . rw[he]at q35;by_cases he':bx k' v' r'=0
       . rw[he']at p35;rw[fJ,if_neg (fun h=>h he)]at q44;rw[fJ,if_neg (fun h=>h he')]at p44;obtain⟨eP,l0,l16⟩:=sn he;have q46:=fun h=>C.lO (cF k v r) h (by omega)
         rw[eP]at q46;have hinj:=fun e=>JP he he' e
         have tl:=JQ C k v r he l16;clear he he' eP;by_cases eab:k=k'/\v=v'/\r=r'
         . obtain⟨rfl,rfl,rfl⟩:=eab;clear hinj;generalize cF k v r=S at *
           repeat' first|(exact tl _ _ _ _ _ _ _ _ _ _ _)|(apply Lt;rfl;rfl;exact⟨rfl,rfl,rfl⟩)|(apply Lq;rfl;rfl;all_goals first|(intro h;exact absurd ⟨rfl,rfl,rfl⟩ h)|intro _)|apply Ke|apply aj|apply Kf|apply Kg|apply Ki|apply Kl|apply aF|(apply Kj;rfl)|(apply Kk;rfl)|(apply Kv;rfl)|(apply KD;rfl)|(apply Ku;rfl;rfl)|(apply Ks;rfl;rfl)|(apply Kw;rfl;rfl)|(apply Kp;rfl;rfl)|(apply Kq;rfl;rfl)|(apply KC;rfl;rfl;omega)|(apply Km;rfl;rfl;first|exact q18 _|exact q34 _|exact p34 _|exact q35 _|exact p35 _|exact q44 _|exact p44 _|exact q46 _)|(apply KA;rfl;rfl;all_goals first|(intro h;exact absurd h (by decide))|(intro h;exact absurd rfl h)|(intro h;contradiction)|intro _)|(apply Kr;rfl;rfl;rfl)|(apply Ko;rfl;rfl;rfl)|(apply Kt;rfl;rfl;rfl)|(apply Kd;rfl;rfl)|(apply Kh;rfl;rfl)|(intro _;omega)|intro _
           all_goals first|(omega)|contradiction|skip
         . have hne:cF k v r≠cF k' v' r':=fun e=>eab (hinj e)
           clear hinj;generalize cF k' v' r'=T at *
           generalize cF k v r=S at *
           repeat' first|(exact tl _ _ _ _ _ _ _ _ _ _ _)|(apply Lt;rfl;rfl;exact⟨rfl,rfl,rfl⟩)|(apply Lq;rfl;rfl;all_goals first|(intro h;exact absurd h eab)|(intro h;exact absurd ⟨rfl,rfl,rfl⟩ h)|intro _)|apply Ke|apply aj|apply Kf|apply Kg|apply Ki|apply Kl|apply aF|(apply Kj;rfl)|(apply Kk;rfl)|(apply Kv;rfl)|(apply KD;rfl)|(apply Ku;rfl;rfl)|(apply Ks;rfl;rfl)|(apply Kw;rfl;rfl)|(apply Kp;rfl;rfl)|(apply Kq;rfl;rfl)|(apply KC;rfl;rfl;omega)|(apply Km;rfl;rfl;first|exact q18 _|exact q34 _|exact p34 _|exact q35 _|exact p35 _|exact q44 _|exact p44 _|exact q46 _)|(apply KA;rfl;rfl;all_goals first|(intro h;exact absurd h (by decide))|(intro h;exact absurd rfl h)|(intro h;contradiction)|intro _)|(apply Kr;rfl;rfl;rfl)|(apply Ko;rfl;rfl;rfl)|(apply Kt;rfl;rfl;rfl)|(apply Kd;rfl;rfl)|(apply Kh;rfl;rfl)|(intro _;omega)|intro _
           all_goals first|(omega)|contradiction|skip
       . generalize bx k' v' r'=E at *
         repeat' first|apply Ke|apply aj|apply Kf|apply Kg|apply Ki|apply aF|(apply Kj;rfl)|(apply Kv;rfl)|(apply Kw;rfl;rfl)|(apply Kq;rfl;rfl)|(apply Km;rfl;rfl;first|exact q18 _|exact q34 _|exact p34 _|exact q35 _|exact p35 _)|(apply Kr;rfl;rfl;rfl)|(apply Ko;rfl;rfl;rfl)|(apply Kd;rfl;rfl)|(apply Kh;rfl;rfl)|(intro _;omega)|intro _
         all_goals first|(omega)|contradiction|skip
         all_goals exact⟨.inr rfl,rfl,_,rfl,rfl,rfl⟩
     . generalize bx k v r=E at *
       repeat' first|apply Ke|apply aj|apply Kf|apply Kg|apply Ki|apply aF|(apply Kj;rfl)|(apply Kv;rfl)|(apply KD;rfl)|(apply Kw;rfl;rfl)|(apply Kp;rfl;rfl)|(apply Kq;rfl;rfl)|(apply Km;rfl;rfl;first|exact q18 _|exact q34 _|exact p34 _|exact q35 _)|(apply Kr;rfl;rfl;rfl)|(apply Ko;rfl;rfl;rfl)|(apply Kd;rfl;rfl)|(apply Kh;rfl;rfl)|(intro _;omega)|intro _
       all_goals first|(omega)|contradiction|skip
       all_goals exact⟨.inr rfl,rfl,_,rfl,rfl,rfl⟩
   . rw[decide_eq_false hb']at p34;repeat' first|apply Ke|apply aj|apply Kf|apply Kg|apply Ki|apply aF|(apply Kj;rfl)|(apply Kv;rfl)|(apply KD;rfl)|(apply Kp;rfl;rfl)|(apply Kq;rfl;rfl)|(apply Km;rfl;rfl;first|exact q18 _|exact q34 _|exact p34 _)|(apply Kr;rfl;rfl;rfl)|(apply Ko;rfl;rfl;rfl)|(apply Kd;rfl;rfl)|(apply Kh;rfl;rfl)
     all_goals first|(omega)|contradiction|skip
     all_goals exact⟨.inr rfl,rfl,_,rfl,rfl,rfl⟩
 . rw[decide_eq_false hb]at q34;repeat' first|apply Ke|apply aj|apply Kf|apply Kg|apply Ki|apply aF|(apply Kj;rfl)|(apply Kv;rfl)|(apply KD;rfl)|(apply Kp;rfl;rfl)|(apply Kq;rfl;rfl)|(apply Km;rfl;rfl;first|exact q18 _|exact q34 _)|(apply Kr;rfl;rfl;rfl)|(apply Ko;rfl;rfl;rfl)|(apply Kd;rfl;rfl)|(apply Kh;rfl;rfl)
   all_goals first|(omega)|contradiction|skip
   all_goals exact⟨.inr rfl,rfl,_,rfl,rfl,rfl⟩
open Go.Proofs
noncomputable def su:List (Nat×Spec):=[(18,ry),(34,rz),(35,gq),(44,rT),(46,se)]
theorem JS:cR Tryz.prog gl (cT su):=aL Hw (aL Hv (aL Hu (aL Jf (aL JC br))))
theorem JT:so (bA Tryz.prog FT su) where
 ft:=bM
 yP:=fun _=>rfl
 sq:=fun _ _ _ _=>rfl
 sr:=fun _ _ _ _=>rfl
 ss:=Ji
 lO:=JD
end Go.Ab.Ch1
