import Derived.Test.YtcjphdmkgmkabaaGreatDoorLib4
import Derived.Lib.Bytealg
open Bool renaming and_eq_true→c9,false_eq_true→i3,false_and→m7,and_true→m9,true_and→n3
open ByteArray renaming mk→b5,size→m6
open Int renaming toNat_natCast→d7,eq_ofNat_of_zero_le→jD,toNat_of_nonneg→j3,lt_of_lt_of_le→j8,pow_succ→k9,toNat→n4
open List renaming nil_append→b6,replicate→b7,length_append→b8,getElem!_eq_getElem?_getD→b9,append_nil→ce,length_cons→ci,all_append→c3,length_pos_iff→c7,all_eq_true→dO,dropWhile_cons→d8,getElem?_eq_getElem→d9,length_nil→fG,append_assoc→f8,eq_nil_or_concat→gF,concat_eq_append→gT,range→g9,all_cons→hZ,getElem?_append_right→iz,getElem?_append_left→i4,drop_eq_getElem_cons→i5,getElem?_set→i6,map_cons→i8,length_take→jq,take_of_length_le→j0,flatten_append→j2,map_drop→j4,getElem?_drop→j5,mem_singleton→j6,all_nil→j9,getElem?_map→kw,all_eq_false→ky,reverse_cons→kJ,cons_append→le,length_drop→lC,drop_length→l9,getElem_mem→mp,length→mU,length_set→mV,drop_zero→m5,map_take→ne,mem_cons→nJ
open Nat renaming pow_succ→c8,pow_le_pow_right→dY,le_refl→d6,strongRecOn→fm,lt_of_lt_of_le→fT,mul_one→f6,div_div_eq_div_mul→f7,le_trans→f9,mul_le_mul_right→ii,zero_add→iy,zero_le→i7,mod_eq_of_lt→i9,mul_comm→jU,div_lt_of_lt_mul→j1,pos_of_ne_zero→j7,div_lt_self→mW,mul_assoc→m8
open Option renaming bind_some→dN,map_some→it
open UInt8 renaming toNat_inj→ip
set_option maxHeartbeats 8000000
set_option maxRecDepth 20000
namespace Go.Ab.aU
def dR (d:Nat):UInt8:=UInt8.ofNat (48+d)
def cP:Nat->Nat->ah
 | 0,_=>[]
 | k+1,n=>cP k (n/10)++[dR (n%10)]
def aS (n:Nat):ah:=if n<10 then [dR n] else aS (n/10)++[dR (n%10)]
termination_by n
decreasing_by omega
def aP (n:Nat)(s:ah):Nat:=s.foldl (fun n b=>10*n+(b.toNat-48)) n
def yR (c:Nat):Bool:=48<=c && c<58
abbrev bJ (b:UInt8):Bool:=yR b.toNat
theorem lQ (b:UInt8):bJ b=true↔48<=b.toNat/\b.toNat<58:=by simp[bJ,yR]
theorem rN {d:Nat}(h:d<10):(dR d).toNat=48+d:=by simp[dR];omega
theorem Fk {d:Nat}(h:d<10):bJ (dR d)=true:=by rw[lQ,rN h];omega
theorem ach {b:UInt8}(h:bJ b=true):dR (b.toNat-48)=b:=by
 rw[lQ]at h;apply ip.1;rw[rN ac];omega
theorem lS:∀(k n:Nat),(cP k n).length=k
 | 0,_=>rfl
 | k+1,n=>by simp[cP,lS k]
theorem MT:∀(k n:Nat),(cP k n).all bJ=true
 | 0,_=>rfl
 | k+1,n=>by simp only[cP,c3,MT k,hZ,j9,Fk (Nat.mod_lt n (show 10 > 0 by decide)),Bool.and_self]
theorem Fl:∀{k n j:Nat},j<k->(cP k n)[j]! = dR (n/10^(k-1-j)%10)
 | k+1,n,j,h=>by
  rw[cP];by_cases hj:j<k
  . have h1:j<(cP k (n/10)).length:=by rw[lS];exact hj
    have e:(cP k (n/10)++[dR (n%10)])[j]! = (cP k (n/10))[j]! := by
     simp only[b9,i4 h1]
    rw[e,Fl hj,show k+1-1-j=(k-1-j)+1 by omega,c8,jU,←f7]
  . obtain rfl:j=k:=by omega
    have e:(cP j (n/10)++[dR (n%10)])[j]! = dR (n%10):=by
     simp only[b9];rw[iz (by rw[lS];simp),lS];simp
    grind
theorem MU {k n:Nat}{s:ah}(hl:s.length=k)(h:∀j,j<k->s[j]! = dR (n/10^(k-1-j)%10)):s=cP k n:=by
 apply List.ext_getElem (by rw[hl,lS]);intro i h1 h2;have e1:=h i ac;have e2:=Fl (n:=n) (show i<k by omega);rw[←e2]at e1;simpa[b9,d9 h1,d9 h2] using e1
theorem iX {n:Nat}(h:n<10):aS n=[dR n]:=by rw[aS,if_pos h]
theorem lT {n:Nat}(h:¬n<10):aS n=aS (n/10)++[dR (n%10)]:=by rw[aS,if_neg h]
theorem yS:∀{k n:Nat},n<10^(k+1)->(k=0\/10^k<=n)->aS n=cP (k+1) n
 | 0,n,h,_=>by
  have h:n<10:=by simpa using h
  rw[iX h];simp[cP,i9 h]
 | k+1,n,h,h2=>by
  have h2:10^(k+1)<=n:=ac;rw[c8]at h h2;have hp:0<10^k:=ac;rw[lT ac,yS (k:=k) (n:=n/10) ac ac];rfl
theorem Fm:∀{k a b:Nat},0<a->b<10^k->aS (a*10^k+b)=aS a++cP k b
 | 0,a,b,_,hb=>by
  obtain rfl:b=0:=by omega
  simp[cP]
 | k+1,a,b,ha,hb=>by
  rw[c8]at hb ⊢;have hp:0<10^k:=ac;have h1:10<=a*(10^k*10)+b:=by
   have:=Nat.mul_le_mul ha (ii 10 hp);omega
  have e1:(a*(10^k*10)+b)/10=a*10^k+b/10:=by
   rw[←m8];omega
  have e2:(a*(10^k*10)+b)%10=b%10:=by
   rw[←m8];omega
  rw[lT ac,e1,e2,Fm ha ac,cP,f8]
theorem pT (n:Nat)(s t:ah):aP n (s++t)=aP (aP n s) t:=by simp[aP,List.foldl_append]
theorem uj (n:Nat)(b:UInt8)(s:ah):aP n (b::s)=aP (10*n+(b.toNat-48)) s:=by rfl
theorem uk (n:Nat)(b:UInt8):aP n [b]=10*n+(b.toNat-48):=by rfl
theorem yT (s:ah):∀(n:Nat),aP n s=n*10^s.length+aP 0 s:=by
 induction s with
 | nil=>intro n;simp[aP]
 | cons b s ih=>
  intro n;rw[uj,uj,ih,ih (10*0+_),ci,c8,Nat.add_mul];grind
theorem nY (s:ah):s.all bJ=true->aP 0 s<10^s.length:=by
 induction s with
 | nil=>intro _;simp[aP]
 | cons b s ih=>
  intro h;simp only[hZ,c9]at h;have hb:=(lQ b).1 h.1;have:=ih h.2;rw[uj,yT,ci,c8];have h2:(10*0+(b.toNat-48))*10^s.length<=9*10^s.length:=ii _ ac;omega
theorem MV:∀(k n m:Nat),aP m (cP k n)=m*10^k+n%10^k
 | 0,n,m=>by simp[aP,cP,Nat.mod_one]
 | k+1,n,m=>by
  rw[cP,pT,MV k,uk,rN ac,c8];have e:n%(10^k*10)=n%10+10*(n/10%10^k):=by rw[jU (10^k) 10,Nat.mod_mul]
  grind
theorem mJ (n:Nat):aP 0 (aS n)=n:=by
 induction n using fm with
 | _ n ih=>
  by_cases h:n<10
  . rw[iX h,uk,rN h];omega
  . rw[lT h,pT,ih _ ac,uk,rN ac];omega
theorem kP (n:Nat):(aS n).all bJ=true:=by
 induction n using fm with
 | _ n ih=>
  by_cases h:n<10
  . rw[iX h];simp[Fk h]
  . rw[lT h,c3,ih _ ac];simp[Fk (Nat.mod_lt n (show 10 > 0 by decide))]
theorem rO (n:Nat):aS n≠[]:=by
 by_cases h:n<10
 . rw[iX h];simp
 . rw[lT h];simp
theorem MW {m n:Nat}(h:aS m=aS n):m=n:=by rw[←mJ m,h,mJ]
def MX (s:ah):Prop:=s≠[]/\s.all bJ=true/\(s.head? = some 48->s.length=1)
theorem aci {s:ah}(h:s.all bJ=true):cP s.length (aP 0 s)=s:=by
 have key:∀(k:Nat) (s:ah),s.length=k->s.all bJ=true->cP s.length (aP 0 s)=s:=by
  intro k;induction k with
  | zero=>intro s hs _;rw[List.eq_nil_of_length_eq_zero hs];rfl
  | succ k ih=>
   intro s hs h;rcases gF s with rfl|⟨t,c,e⟩
   . rfl
   . rw[gT]at e;subst e;simp only[b8,ci,fG]at hs ⊢;simp only[c3,hZ,j9,m9,c9]at h;have hc:=(lQ c).1 h.2;rw[show t.length+(0+1)=t.length+1 by omega,cP,pT,uk];rw[show (10*aP 0 t+(c.toNat-48))/10=aP 0 t by omega,show (10*aP 0 t+(c.toNat-48))%10=c.toNat-48 by omega,ih t ac h.1,ach h.2]
 grind
theorem MY {s:ah}(h:MX s):aS (aP 0 s)=s:=by
 obtain⟨h0,h1,h2⟩:=h;cases s with
 | nil=>grind
 | cons b t=>
  have lt:=nY _ h1;rw[ci]at lt;refine(yS lt ?_).trans (aci h1);cases t with
  | nil=>simp
  | cons c t=>
   right;have hb:b≠48:=bS;simp only[hZ,c9]at h1;have hb1:=(lQ b).1 h1.1;have hb2:49<=b.toNat:=by
    have:b.toNat≠48:=fun e=>hb (ip.1 e)
    omega
   rw[uj,yT];have:=ii (10^(c::t).length) (show 1<=10*0+(b.toNat-48) by omega);omega
theorem pU {n k:Nat}(h:n<10^k)(hk:0<k):(aS n).length<=k:=by
 induction k generalizing n with
 | zero=>omega
 | succ k ih=>
  by_cases h1:n<10
  . rw[iX h1];simp
  . rw[lT h1,b8];grind
end Go.Ab.aU

/-
  Own work: decimal texts of machine integers: bytes, the number of digits, texts of two digits.
-/
namespace Go.Ab.Ch1
open Go.Ab.aU
variable {M:aw} {cap:Option Nat}
abbrev iY (k:Nat):AV:=.fn (.func k) [] []
def bC (s:ah):List AV:=s.map fun c=>.int .u8 c.toNat
theorem acj (a b:ah):bC (a++b)=bC a++bC b:=by simp[bC]
theorem mK (a:ah):(bC a).length=a.length:=by simp[bC]
theorem MZ (a:ah):(bC a).all cI=true:=by simp[bC,cI]
theorem Na:∀a:ah,bc (bC a)=0
 | []=>rfl
 | c::a=>by
  have:=Na a;simp only[bC]at this;simp only[bC,i8,bc,this];rfl
theorem Fo:∀a:ah,bytesOf (bC a)=some a
 | []=>rfl
 | c::a=>by
  have h:=Fo a;simp only[bC]at h;simp only[bC,i8,bytesOf,h];simp
theorem ack {L:ah}{m:Nat}{c:UInt8}(h:m<L.length):overwrite (bC L) m [.int .u8 c.toNat]=bC (L.set m c):=by
 apply List.ext_getElem?;intro i;simp only[overwrite,bC,ci,fG];rw[←ne,←j4];by_cases h1:i<m
 . grind
 . by_cases h2:i=m
   . grind
   . rw[f8,iz bS];have e:i-min m L.length=(i-m-1)+1:=by omega
     simp only[List.length_map,jq,e,le,b6,List.getElem?_cons_succ,j4,j5,kw,i6,show ¬m=i by omega,if_false];grind
section
variable {t:Nat} {x y:ay} {l:List aX} {pe:List AV} {lo:List (Nat×AV)} {hp:aa} {df wr:List Nat} {k:IntKind} {a b:Int} {Q:aq->Prop} {e:TypeId} {L:ah} {m:Nat}
theorem alT {c:UInt8}(hx:(St.mk pe lo [some (.cells (bC L) e)] df).ae x=some (.ptr 0 m))(hy:(St.mk pe lo [some (.cells (bC L) e)] df).ae y=some (.int .u8 c.toNat))(hi:m<L.length)
 (h:WO M l ⟨⟨pe,lo,[some (.cells (bC (L.set m c)) e)],df⟩,0::wr⟩ Q):WO M (⟨.no,.store 1 x y,none⟩::l) ⟨⟨pe,lo,[some (.cells (bC L) e)],df⟩,wr⟩ Q:=by
 refine afG (c:=bC L) (new:=[.int .u8 c.toNat]) hx (by rw[hy];rfl) rfl ⟨rfl,by rw[mK];omega,rfl⟩ (ack hi) ?_;exact h
theorem WO.Nb {n i j:Nat}{lo' hi':Option ay}(hx:(St.mk pe lo [some (.cells (bC L) e)] df).ae x=some (.ptr 0 0))(hl:L.length=n)(hlo:((St.mk pe lo [some (.cells (bC L) e)] df).cZ lo').bind (fun v=>bR v 0 j)=some i)(hhi:((St.mk pe lo [some (.cells (bC L) e)] df).cZ hi').bind (fun v=>bR v n n)=some j)(hij:i<n)
 (h:WO M l ⟨⟨pe,(t,.sl 0 i (j-i) 1 (some (n-i)))::lo,[some (.cells (bC L) e)],df⟩,wr⟩ Q):WO M (⟨.l t,.jn n 1 x lo' hi',none⟩::l) ⟨⟨pe,lo,[some (.cells (bC L) e)],df⟩,wr⟩ Q:=by
 refine afC (v:=.sl 0 i (j-i) 1 (some (n-i))) (h':=[some (.cells (bC L) e)]) (w':=[]) ?_ rfl rfl h;have h0:aa.at [some (ba.cells (bC L) e)] 0=some (.cells (bC L) e):=rfl;cases ho:(St.mk pe lo [some (.cells (bC L) e)] df).cZ lo' with
 | none=>grind
 | some v=>
  cases ho':(St.mk pe lo [some (.cells (bC L) e)] df).cZ hi' with
  | none=>grind
  | some v'=>
   rw[ho]at hlo;rw[ho']at hhi;simp only[dN]at hlo hhi;simp only[bG,hx,ho,ho',h0,mK,hl,hhi,hlo,iy,f6];grind
theorem amh {i j:Nat}{c:Option Nat}(hx:(St.mk pe lo [some (.cells (bC L) e)] df).ae x=some (.sl 0 i j 1 c))(hij:i+j<=L.length)
 (h:WO M l ⟨⟨pe,(t,.str ((L.drop i).take j))::lo,[some (.cells (bC L) e)],df⟩,wr⟩ Q):WO M (⟨.l t,.mg x,none⟩::l) ⟨⟨pe,lo,[some (.cells (bC L) e)],df⟩,wr⟩ Q:=by
 refine afC (v:=.str ((L.drop i).take j)) (h':=[some (.cells (bC L) e)]) (w':=[]) ?_ rfl rfl h;have h0:aa.at [some (ba.cells (bC L) e)] 0=some (.cells (bC L) e):=rfl;have hc:dV [some (.cells (bC L) e)] (.sl 0 i j 1 c)=some (bC ((L.drop i).take j),j):=by
  simp only[dV,h0,cut,f6];rw[if_pos (by rw[jq,lC,mK];omega)];simp[bC,j4,ne]
 simp only[bG,hx,hc,mK,Fo];grind
theorem wrap32 {a:Int}(h:0<=a/\a<4294967296):IntKind.u32.wrap a=a:=by
 simp only[IntKind.wrap,IntKind.bits,IntKind.signed];grind
theorem aml (hx:(St.mk pe lo hp df).ae x=some (.int .u32 a))(hy:(St.mk pe lo hp df).ae y=some (.int .u32 b))(hr:0<=a+b/\a+b<4294967296)
 (h:WO M l ⟨⟨pe,(t,.int .u32 (a+b))::lo,hp,df⟩,wr⟩ Q):WO M (⟨.l t,.bin .add x y,none⟩::l) ⟨⟨pe,lo,hp,df⟩,wr⟩ Q:=
 abL (v:=.int .u32 (a+b)) (by simp[aY,hx,hy,cU,wrap32 hr]) rfl h
theorem amJ (hx:(St.mk pe lo hp df).ae x=some (.int .u32 a))(hy:(St.mk pe lo hp df).ae y=some (.int .u32 b))(hr:0<=a*b/\a*b<4294967296)
 (h:WO M l ⟨⟨pe,(t,.int .u32 (a*b))::lo,hp,df⟩,wr⟩ Q):WO M (⟨.l t,.bin .mul x y,none⟩::l) ⟨⟨pe,lo,hp,df⟩,wr⟩ Q:=
 abL (v:=.int .u32 (a*b)) (by simp[aY,hx,hy,cU,wrap32 hr]) rfl h
theorem amH (hx:(St.mk pe lo hp df).ae x=some (.int .u32 a))(hy:(St.mk pe lo hp df).ae y=some (.int .u32 b))(ha:0<=a/\a<4294967296)(hb:0<b)
 (h:WO M l ⟨⟨pe,(t,.int .u32 (a/b))::lo,hp,df⟩,wr⟩ Q):WO M (⟨.l t,.bin .quo x y,none⟩::l) ⟨⟨pe,lo,hp,df⟩,wr⟩ Q:=by
 refine abL (v:=.int .u32 (a/b)) ?_ rfl h;have h1:0<=a/b:=Int.ediv_nonneg ha.1 ac;have h2:a/b<=a:=Int.ediv_le_self _ ha.1;have h3:¬b=0:=by omega
 simp only[aY,hx,hy,cU,if_true,if_neg h3];rw[Int.tdiv_eq_ediv_of_nonneg ha.1,wrap32 ⟨h1,ac⟩]
theorem amI (hx:(St.mk pe lo hp df).ae x=some (.int .u32 a))(hy:(St.mk pe lo hp df).ae y=some (.int .u32 b))(ha:0<=a)(hb:0<b)
 (h:WO M l ⟨⟨pe,(t,.int .u32 (a%b))::lo,hp,df⟩,wr⟩ Q):WO M (⟨.l t,.bin .rem x y,none⟩::l) ⟨⟨pe,lo,hp,df⟩,wr⟩ Q:=by
 refine abL (v:=.int .u32 (a%b)) ?_ rfl h;have h3:¬b=0:=by omega
 simp only[aY,hx,hy,cU,if_true,if_neg h3];grind
theorem amG (hx:(St.mk pe lo hp df).ae x=some (.int k a))(hr:0<=a/\a<4294967296)(h:WO M l ⟨⟨pe,(t,.int .u32 a)::lo,hp,df⟩,wr⟩ Q):WO M (⟨.l t,.dM .u32 x,none⟩::l) ⟨⟨pe,lo,hp,df⟩,wr⟩ Q:=
 abL (v:=.int .u32 a) (by simp only[aY,hx,dN,mT,wrap32 hr]) rfl h
theorem anf (hx:(St.mk pe lo hp df).ae x=some (.iV a))
 (h:WO M l ⟨⟨pe,(t,.iV (a/262144))::lo,hp,df⟩,wr⟩ Q):WO M (⟨.l t,.bin .shr x (.c (.int k 18)),none⟩::l) ⟨⟨pe,lo,hp,df⟩,wr⟩ Q:=by
 refine WO.op (WP.pure (v:=.iV (a/262144)) rfl ?_ h);have:a.fdiv (2^min (n4 18) IntKind.i64.bits)=a/262144:=by
  show a.fdiv 262144=a/262144;rw[Int.fdiv_eq_ediv_of_nonneg _ ac]
 have e:(St.mk pe lo hp df).ae (.c (.int k 18))=some (.int k 18):=rfl;simp only[aY,hx,e,cU,this];rfl
end
theorem acm (hft:M.FT=FT)(x:Int)(hx:0<=x/\x<=64):aV M 324 [.iV x] [] ⟨.iV (x*78913/262144),[],[]⟩:=by
 refine bH (by rw[hft];exact acf) be ?_;unfold MR;simp only[enter];exact gg12
theorem acn (hft:M.FT=FT)(x:Bool):aV M 325 [.bool x] [] ⟨.iV (if x then 1 else 0),[],[]⟩:=by
 refine bH (by rw[hft];exact acg) be ?_;unfold MS;simp only[enter];cases x;all_goals
 . exact gg2
theorem aco (bl:Fin 65):1<=bl.val->bl.val*78913/262144<20/\(bl.val*78913/262144=0\/10^(bl.val*78913/262144-1)<=2^(bl.val-1))/\2^bl.val<=10^(bl.val*78913/262144+1):=by
 revert bl;decide +kernel
def fV (d:Int):Nat:=if (10:Int)^(cj d*78913/262144)<=d then cj d*78913/262144+1 else cj d*78913/262144
theorem yU {d:Nat}(h:0<d/\d<18446744073709551616):1<=fV d/\fV d<=20/\d<10^fV d/\(fV d=1\/10^(fV d-1)<=d):=by
 obtain⟨h1,h2,h3⟩:=pM (x:=(d:Int)) ac;have h4:=pO (x:=(d:Int)) (n:=64) ac ac;obtain⟨g0,g1,g2⟩:=aco ⟨cj d,ac⟩ h1;simp only at g0 g1 g2;have h2:2^(cj (d:Int)-1)<=d:=by exact_mod_cast h2
 have h3:d<2^cj (d:Int):=by exact_mod_cast h3
 unfold fV;grind
def pW:List AV:=[.uV (1),.uV (10),.uV (100),.uV (1000),.uV (10000),.uV (100000),.uV (1000000),.uV (10000000),.uV (100000000),.uV (1000000000),.uV (10000000000),.uV (100000000000),.uV (1000000000000),.uV (10000000000000),.uV (100000000000000),.uV (1000000000000000),.uV (10000000000000000),.uV (100000000000000000),.uV (1000000000000000000),.uV (10000000000000000000)]
theorem acp:∀k:Nat,k<20->partOf (pW.drop (k*1)) 0 1 false=some (.uV (10^k))
 | 0,_=>rfl|1,_=>rfl|2,_=>rfl|3,_=>rfl|4,_=>rfl|5,_=>rfl|6,_=>rfl|7,_=>rfl|8,_=>rfl|9,_=>rfl
 | 10,_=>rfl|11,_=>rfl|12,_=>rfl|13,_=>rfl|14,_=>rfl|15,_=>rfl|16,_=>rfl|17,_=>rfl|18,_=>rfl|19,_=>rfl
 | k+20,h=>by omega
theorem anv {t:Nat}{i:ay}{l:List aX}{pe:List AV}{lo:List (Nat×AV)}{hp:aa}{df wr:List Nat}{k:IntKind}{n:Int}{Q:aq->Prop}(hy:(St.mk pe lo hp df).ae i=some (.int k n))(hb:0<=n/\n<20)
 (h:WO M l ⟨⟨pe,(t,.vp (pW.drop (n.toNat*1)))::lo,hp,df⟩,wr⟩ Q):WO M (⟨.l t,.dw (some 20) 1 (.c (.vp pW)) i,none⟩::l) ⟨⟨pe,lo,hp,df⟩,wr⟩ Q:=
 WO.op (WP.pure (v:=.vp (pW.drop (n.toNat*1))) rfl (by
  have e:(St.mk pe lo hp df).ae (.c (.vp pW))=some (.vp pW):=rfl;have h2:0<=n/\n<((20:Nat):Int):=hb;simp only[aY,e,hy,oF,if_pos h2]) h)
theorem anw {t:Nat}{x:ay}{l:List aX}{pe:List AV}{lo:List (Nat×AV)}{hp:aa}{df wr:List Nat}{n:Nat}{Q:aq->Prop}(hx:(St.mk pe lo hp df).ae x=some (.vp (pW.drop (n*1))))(hb:n<20)
 (h:WO M l ⟨⟨pe,(t,.uV (10^n))::lo,hp,df⟩,wr⟩ Q):WO M (⟨.l t,.load 1 false x,none⟩::l) ⟨⟨pe,lo,hp,df⟩,wr⟩ Q:=
 afC (v:=.uV (10^n)) (h':=hp) (w':=[]) (by simp only[bG,hx,dN,fP,acp n hb]) rfl rfl h
structure Nc (M:aw):Prop where
 ft:M.FT=FT
 tJ:∀(x:Int) h,(0<=x/\x<18446744073709551616)->M.ext 240 [.uV x] h=some ⟨.iV (cj x),h,[]⟩
 Nd:∀(x:Int) h,(0<=x/\x<=64)->M.ext 324 [.iV x] h=some ⟨.iV (x*78913/262144),h,[]⟩
 Fp:∀(x:Bool) h,M.ext 325 [.bool x] h=some ⟨.iV (if x then 1 else 0),h,[]⟩
theorem acs (C:Nc M)(d:Int)(hd:0<d/\d<18446744073709551616):aV M 305 [.uV d] [] ⟨.iV (fV d),[],[]⟩:=by
 have h4:=pO (x:=d) (n:=64) (by exact hd.2) ac;have q240:=fun h=>C.tJ d h ⟨ac,hd.2⟩
 have q324:=fun h=>C.Nd (cj d) h ⟨ac,ac⟩
 have q325a:=fun h=>C.Fp true h
 have q325b:=fun h=>C.Fp false h
 simp only[if_true]at q325a;simp only[i3,if_false]at q325b;obtain⟨n,hn⟩:∃n,n=cj d*78913/262144:=⟨_,rfl⟩;have e1:((cj d:Int)*78913/262144)=(n:Int):=by rw[hn];omega
 rw[e1]at q324;have hn20:n<20:=by omega
 have e2:fV d=if (10:Int)^n<=d then n+1 else n:=by unfold fV;rw[←hn]
 rw[e2];refine bH (by rw[C.ft];exact aca) be ?_;unfold MN;simp only[enter];repeat' first|(apply anv;rfl;omega)|(apply anw (n:=n);rfl;exact hn20)|(apply agV;rfl;rfl)|refine gd0 ?_|refine gc ?_|(intro _;omega)|intro _
 all_goals try omega
 . rename_i h1;rw[if_pos h1];exact⟨.inr rfl,rfl,_,rfl,rfl,rfl⟩
 . rename_i h1;rw[if_neg ac];exact⟨.inr rfl,rfl,_,rfl,by rfl,rfl⟩
def jX:ah:=[48,48,48,49,48,50,48,51,48,52,48,53,48,54,48,55,48,56,48,57,49,48,49,49,49,50,49,51,49,52,49,53,49,54,49,55,49,56,49,57,50,48,50,49,50,50,50,51,50,52,50,53,50,54,50,55,50,56,50,57,51,48,51,49,51,50,51,51,51,52,51,53,51,54,51,55,51,56,51,57,52,48,52,49,52,50,52,51,52,52,52,53,52,54,52,55,52,56,52,57,53,48,53,49,53,50,53,51,53,52,53,53,53,54,53,55,53,56,53,57,54,48,54,49,54,50,54,51,54,52,54,53,54,54,54,55,54,56,54,57,55,48,55,49,55,50,55,51,55,52,55,53,55,54,55,55,55,56,55,57,56,48,56,49,56,50,56,51,56,52,56,53,56,54,56,55,56,56,56,57,57,48,57,49,57,50,57,51,57,52,57,53,57,54,57,55,57,56,57,57]
theorem yV:jX.length=200:=by rfl
theorem Nf:∀x:Fin 100,jX[x.val*2]! = dR (x.val/10)/\jX[x.val*2+1]! = dR (x.val%10):=by decide +kernel
theorem acu {x:Int}(h:0<=x/\x<100):jX[(x*2).toNat]! = dR (x.toNat/10):=by
 obtain⟨k,rfl⟩:=jD h.1;have:=(Nf ⟨k,ac⟩).1;grind
theorem acv {x:Int}(h:0<=x/\x<100):jX[(x*2+1).toNat]! = dR (x.toNat%10):=by
 obtain⟨k,rfl⟩:=jD h.1;have:=(Nf ⟨k,ac⟩).2;grind
def we:ah:=[48,49,50,51,52,53,54,55,56,57,97,98,99,100,101,102,103,104,105,106,107,108,109,110,111,112,113,114,115,116,117,118,119,120,121,122]
theorem acw:∀x:Fin 10,(we.drop x.val).take (x.val+1-x.val)=aS x.val:=by
 intro x;rw[iX x.isLt];revert x;decide +kernel
theorem acx:∀x:Fin 100,10<=x.val->(jX.drop (x.val*2)).take (x.val*2+2-x.val*2)=aS x.val:=by
 intro x h;rw[lT ac,iX ac];revert x;decide +kernel
theorem amC {t:Nat}{x y z:ay}{l:List aX}{pe:List AV}{lo:List (Nat×AV)}{hp:aa}{df wr:List Nat}{k k':IntKind}{s:ah}{a b:Int}{Q:aq->Prop}(hx:(St.mk pe lo hp df).ae x=some (.str s))(hy:(St.mk pe lo hp df).ae y=some (.int k a))(hz:(St.mk pe lo hp df).ae z=some (.int k' b))(hb:0<=a/\a<=b/\b<=s.length){r:ah}(hr:(s.drop a.toNat).take (b.toNat-a.toNat)=r)
 (h:WO M l ⟨⟨pe,(t,.str r)::lo,hp,df⟩,wr⟩ Q):WO M (⟨.l t,.slice .str 1 x (some y) (some z) none,none⟩::l) ⟨⟨pe,lo,hp,df⟩,wr⟩ Q:=by
 subst hr;refine abL (v:=.str ((s.drop a.toNat).take (b.toNat-a.toNat))) ?_ rfl h;simp only[aY,hx,St.cZ,hy,hz,it,jo,bR];have h1:0<=b/\b<=((s.length:Nat):Int):=⟨ac,hb.2.2⟩;have h2:0<=a/\a<=((b.toNat:Nat):Int):=⟨hb.1,ac⟩;simp only[if_pos h1,if_pos h2];rfl
set_option maxRecDepth 100000 in
theorem acy (hft:M.FT=FT)(n:Nat)(hn:n<100):aV M 304 [.iV n] [] ⟨.str (aS n),[],[]⟩:=by
 have e1:(n:Int).toNat=n:=rfl;refine bH (by rw[hft];exact abY) be ?_;unfold ML;simp only[enter];by_cases h:n<10
 . have hc:(we.drop (n:Int).toNat).take (((n:Int)+1).toNat-(n:Int).toNat)=aS n:=by rw[show ((n:Int)+1).toNat=n+1 by omega];exact acw ⟨n,h⟩
   have l1:we.length=36:=rfl;exact gg10
 . have hc:(jX.drop ((n:Int)*2).toNat).take (((n:Int)*2+2).toNat-((n:Int)*2).toNat)=aS n:=by rw[show ((n:Int)*2+2).toNat=n*2+2 by omega,show ((n:Int)*2).toNat=n*2 by omega];exact acx ⟨n,hn⟩ (by simp only;omega)
   have l1:=yV;exact gg10
def fM (L:ah)(off n i u:Nat):Prop:=L.length=24/\∀j,i<=j->j<n->L[off+j]! = dR (u/10^(n-1-j)%10)
theorem Fq {L:ah}{i k:Nat}{v:UInt8}(h:i<L.length):(L.set i v)[k]! = if k=i then v else L[k]! := by
 simp only[b9,i6];by_cases hk:k=i
 . subst hk;simp[h]
 . simp[hk,show ¬i=k from fun e=>hk e.symm]
theorem fM.two {L:ah}{off n i u:Nat}{a b:Nat}{c d:UInt8}(h:fM L off n (i+2) u)(hn:off+n<=24)(hi:i+2<=n)(ha:a=off+i+1)(hb:b=off+i)(hc:c=dR (u/10^(n-(i+2))%10))(hd:d=dR (u/10^(n-(i+2))/10%10)):fM ((L.set a c).set b d) off n i u:=by
 subst ha;subst hb;refine⟨by simp[h.1],fun j h1 h2=>?_⟩;rw[Fq (by rw[mV,h.1];omega),Fq (by rw[h.1];omega)];by_cases e1:j=i
 . subst e1;rw[if_pos rfl,hd,f7,←c8,show (n-(j+2)).succ=n-1-j by omega]
 . by_cases e2:j=i+1
   . subst e2;rw[if_neg ac,if_pos ac,hc,show n-(i+2)=n-1-(i+1) by omega]
   . rw[if_neg ac,if_neg ac];exact h.2 j ac h2
theorem fM.fin {L:ah}{off n u:Nat}(h:fM L off n 0 u)(hn:off+n<=24):(L.drop off).take n=cP n u:=by
 refine MU (by rw[jq,lC,h.1];omega) fun j hj=>?_
 rw[←h.2 j (i7 _) hj];simp only[b9,List.getElem?_take,if_pos hj,j5]
variable {e:TypeId}
theorem pY {u n j:Nat}(hj:j+2<=n):u/10^(n-j)=u/10^(n-(j+2))/100:=by
 rw[f7,show (100:Nat)=10^2 by rfl,←Nat.pow_add,show n-(j+2)+2=n-j by omega]
theorem fM.nZ {L:ah}{off n i u U:Nat}{a b:Nat}{x y:Int}(h:fM L off n (i+2) u)(hn:off+n<=24)(hi:i+2<=n)(hU:U=u/10^(n-(i+2)))(ha:a=off+i+1)(hb:b=off+i)(hx:x=(U%100:Nat)*2+1)(hy:y=(U%100:Nat)*2):fM ((L.set a jX[x.toNat]!).set b jX[y.toNat]!) off n i u:=by
 subst hx;subst hy;refine h.two hn hi ha hb ?_ ?_
 . rw[acv ac,←hU];congr 1;omega
 . rw[acu ac,←hU];congr 1;omega
set_option maxRecDepth 100000 in
theorem acz (off n u0:Nat)(hn:off+n<=24)(hu:u0<18446744073709551616){Q:Ex->aq->Prop}(a10 a11 a12 a13 a14:AV)
 (hQ:∀L i a3 a4 a5 a6 a7 a8 a9 lo wr,i<=n->i<8->fM L off n i u0->iK 0 wr->Q (.exit 0) ⟨⟨[.sl 0 off n 1 cap,.uV ((u0/10^(n-i):Nat):Int),.iV (i:Nat),a3,a4,a5,a6,a7,a8,a9,a10,a11,a12,a13,a14],lo,[some (.cells (bC L) e)],[]⟩,wr⟩)
 (L:ah) (i:Nat) (a3 a4 a5 a6 a7 a8 a9:AV) (lo:List (Nat×AV)) (wr:List Nat) (hi:i<=n) (hL:fM L off n i u0) (hw:iK 0 wr) :
 W M (.loop yQ) ⟨⟨[.sl 0 off n 1 cap,.uV ((u0/10^(n-i):Nat):Int),.iV (i:Nat),a3,a4,a5,a6,a7,a8,a9,a10,a11,a12,a13,a14],lo,[some (.cells (bC L) e)],[]⟩,wr⟩ Q:=by
 refine W.gP (fun m s=>∃L U iv a3 a4 a5 a6 a7 a8 a9 lo wr,s=⟨⟨[.sl 0 off n 1 cap,.uV U,.iV iv,a3,a4,a5,a6,a7,a8,a9,a10,a11,a12,a13,a14],lo,[some (.cells (bC L) e)],[]⟩,wr⟩/\U=((u0/10^(n-m):Nat):Int)/\iv=(m:Int)/\m<=n/\fM L off n m u0/\iK 0 wr)
  (fun m s ⟨L,U,iv,a3,a4,a5,a6,a7,a8,a9,lo,wr,hs,hU,hiv,hm,hL,hw⟩=>?_) (m:=i) ⟨L,_,_,a3,a4,a5,a6,a7,a8,a9,lo,wr,rfl,rfl,rfl,hi,hL,hw⟩
 subst hs;subst hU;subst hiv;have hl:=hL.1;have sl:=yV;have hUle:u0/10^(n-m)<=u0:=Nat.div_le_self _ _;by_cases h8:m<8
 . unfold yQ;exact gg0
 . obtain⟨j,rfl⟩:∃j,m=j+8:=⟨m-8,ac⟩;have s1:=pY (u:=u0) (n:=n) (j:=j+6) ac;have s2:=pY (u:=u0) (n:=n) (j:=j+4) ac;have s3:=pY (u:=u0) (n:=n) (j:=j+2) ac;have s4:=pY (u:=u0) (n:=n) (j:=j) ac;obtain⟨U,hU⟩:∃U,U=u0/10^(n-(j+8)):=⟨_,rfl⟩;rw[show j+6+2=j+8 by omega,←hU]at s1;rw[show j+4+2=j+6 by omega,s1]at s2;rw[show j+2+2=j+4 by omega,s2]at s3;rw[s3]at s4;rw[←hU]at hUle ⊢;unfold yQ;refine gg20 ?_;refine bW ⟨j,ac,_,_,_,_,_,_,_,_,_,_,_,_,rfl,?_,?_,ac,?_,?_⟩
   . rw[s4];omega
   . omega
   . have g1:=fM.nZ (L:=L) (i:=j+6) (U:=U) (a:=off+(((j+8:Nat):Int)-1).toNat*1) (b:=off+(((j+8:Nat):Int)-2).toNat*1) hL hn ac hU ac ac rfl rfl;refine fM.nZ (U:=U/100/100/100) (fM.nZ (i:=j+2) (U:=U/100/100) (fM.nZ (i:=j+4) (U:=U/100) (fM.nZ (i:=j+6) (U:=U) hL hn ac hU ?_ ?_ ?_ ?_) hn ac s1.symm ?_ ?_ ?_ ?_) hn ac s2.symm ?_ ?_ ?_ ?_) hn ac s3.symm ?_ ?_ ?_ ?_;all_goals omega
   . exact .cons (.cons (.cons (.cons (.cons (.cons (.cons (.cons hw)))))))
set_option maxRecDepth 100000
def um:ak:=
 .seq (
       .region [zm 160 2,
         zc 161 .gtr 160 0])
       (
        .cond (.l 161)
        (.region [zm 162 0,
          zm 163 10,
          ⟨(.l 164),.bin .add (kW 48) (.l 163),none⟩,
          ⟨(.l 165),.dM .u8 (.l 164),none⟩,
          ⟨(.l 166),.dw none 1 (.l 162) (kI 0),none⟩,
          zS 1 166 165])
        (.skip))
def yW:ak:=
 .seq (
       .region [zm 138 2,
         zc 139 .geq 138 2])
       (
        .cond (.l 139)
        (
         zR [zm 140 10,
           ⟨(.l 141),.bin .rem (.l 140) (kW 100),none⟩,
           ⟨(.l 142),.bin .mul (.l 141) (kW 2),none⟩,
           zw 14 142]
         (
          zR [zm 143 10,
            ⟨(.l 144),.bin .quo (.l 143) (kW 100),none⟩,
            zw 10 144]
          (
           .seq (.draw [(zm 145 0,[]),
             (zm 146 2,[0]),
             (zc 147 .sub 146 1,[0]),
             (zm 148 0,[0,1,2]),
             (zm 149 2,[0,1,2,3]),
             (zc 150 .sub 149 2,[0,1,2,3]),
             (zm 151 14,[0,1,2,3,4,5]),
             (⟨(.l 152),.bin .add (.l 151) (kW 1),none⟩,[0,1,2,3,4,5]),
             (⟨(.l 153),.index (.c (.str zD1)) (.l 152),none⟩,[0,1,2,3,4,5]),
             (zm 154 14,[0,1,2,3,4,5,6,7,8]),
             (⟨(.l 155),.index (.c (.str zD1)) (.l 154),none⟩,[0,1,2,3,4,5,6,7,8]),
             (za 156 1 145 147,[3,4,5,9,10]),
             (zS 1 156 153,[3,4,5,9,10]),
             (za 157 1 148 150,[]),
             (zS 1 157 155,[])])
           (.region [zm 158 2,
             zc 159 .sub 158 2,
             zw 2 159]))))
        (.skip))
def Fs:ak:=
 zR [zm 98 2,
        zc 99 .geq 98 4]
      (
       .cond (.l 99)
       (
        zR [zm 100 10,
          ⟨(.l 101),.bin .rem (.l 100) (kW 10000),none⟩,
          zw 11 101]
        (
         zR [zm 102 10,
           ⟨(.l 103),.bin .quo (.l 102) (kW 10000),none⟩,
           zw 10 103]
         (
          zR [zm 104 11,
            ⟨(.l 105),.bin .quo (.l 104) (kW 100),none⟩,
            ⟨(.l 106),.bin .mul (.l 105) (kW 2),none⟩,
            zm 107 11,
            ⟨(.l 108),.bin .rem (.l 107) (kW 100),none⟩,
            ⟨(.l 109),.bin .mul (.l 108) (kW 2),none⟩,
            zw 12 106,
            zw 13 109]
          (
           .seq (.draw [(zm 110 0,[]),
             (zm 111 2,[0]),
             (zc 112 .sub 111 1,[0]),
             (zm 113 0,[0,1,2]),
             (zm 114 2,[0,1,2,3]),
             (zc 115 .sub 114 2,[0,1,2,3]),
             (zm 116 13,[0,1,2,3,4,5]),
             (⟨(.l 117),.bin .add (.l 116) (kW 1),none⟩,[0,1,2,3,4,5]),
             (⟨(.l 118),.index (.c (.str zD1)) (.l 117),none⟩,[0,1,2,3,4,5]),
             (zm 119 13,[0,1,2,3,4,5,6,7,8]),
             (⟨(.l 120),.index (.c (.str zD1)) (.l 119),none⟩,[0,1,2,3,4,5,6,7,8]),
             (za 121 1 110 112,[3,4,5,9,10]),
             (zS 1 121 118,[3,4,5,9,10]),
             (za 122 1 113 115,[]),
             (zS 1 122 120,[])])
           (
            .seq (.draw [(zm 123 0,[]),
              (zm 124 2,[0]),
              (zc 125 .sub 124 3,[0]),
              (zm 126 0,[0,1,2]),
              (zm 127 2,[0,1,2,3]),
              (zc 128 .sub 127 4,[0,1,2,3]),
              (zm 129 12,[0,1,2,3,4,5]),
              (⟨(.l 130),.bin .add (.l 129) (kW 1),none⟩,[0,1,2,3,4,5]),
              (⟨(.l 131),.index (.c (.str zD1)) (.l 130),none⟩,[0,1,2,3,4,5]),
              (zm 132 12,[0,1,2,3,4,5,6,7,8]),
              (⟨(.l 133),.index (.c (.str zD1)) (.l 132),none⟩,[0,1,2,3,4,5,6,7,8]),
              (za 134 1 123 125,[3,4,5,9,10]),
              (zS 1 134 131,[3,4,5,9,10]),
              (za 135 1 126 128,[]),
              (zS 1 135 133,[])])
            (.region [zm 136 2,
              zc 137 .sub 136 4,
              zw 2 137]))))))
       (.skip))
theorem acA {g N:Nat}{aR:List Nat}{body:ak}{ars:List AV}{L:ah}{P:ah->Prop}(hft:M.FT g=some ⟨N,aR,[],body⟩)(hN:ars.length<=N)
 (hW:W M body ⟨⟨aR.map (fun t=>(ars[t]?).getD bD),[],[some (.cells (bC L) e)],[]⟩,[]⟩ fun x s=>(x = .normal\/x = .ret)/\s.s.bV=[]/\∃L',s.s.hp=[some (.cells (bC L') e)]/\iK 0 s.wr/\P L') :
 ∃L' wr,iK 0 wr/\P L'/\aV M g ars [some (.cells (bC L) e)] ⟨.au [],[some (.cells (bC L') e)],wr⟩:=by
 obtain⟨⟨n,x,s,h1,h2,h3,L',h4,h5,h6⟩⟩:=hW;have hb:0<([some (.cells (bC L) e)]:aa).length:=Nat.zero_lt_one;have hh:s.s.hp=aa.put [some (.cells (bC L) e)] 0 (some (.cells (bC L') e)):=h4;obtain⟨wr,hw,hr⟩:=Ws (c0:=bC L) hb hh h5 (Na L');exact⟨L',wr,hw,h6,xw hft hN ⟨⟨n,x,s,h1,h2,h3,[],rfl,hr⟩⟩⟩
def Ft (e:TypeId)(off n u0:Nat)(x:Ex)(s:aq):Prop:=(x = .normal\/x = .ret)/\s.s.bV=[]/\∃L',s.s.hp=[some (.cells (bC L') e)]/\iK 0 s.wr/\fM L' off n 0 u0
theorem yX {u n i:Nat}(h:u<10^n)(hi:i<=n):u/10^(n-i)<10^i:=by
 refine j1 ?_;rw[←Nat.pow_add,show n-i+i=n by omega];exact h
def Fu (L:ah)(off n u0:Nat)(k:Nat)(iv U:Int)(wr:List Nat):Prop:=∃i:Nat,i<k/\i<=n/\iv=(i:Int)/\U=((u0/10^(n-i):Nat):Int)/\fM L off n i u0/\iK 0 wr
theorem Ng {off n u0:Nat}(hn:off+n<=24)(hlt:u0<10^n){L:ah}{iv U:Int}{a1 a3 a4 a5 a6 a7 a8 a9 a11 a12 a13 a14:AV}{lo:List (Nat×AV)}{wr:List Nat}(h:Fu L off n u0 2 iv U wr) :
 W M um ⟨⟨[.sl 0 off n 1 cap,a1,.iV iv,a3,a4,a5,a6,a7,a8,a9,.int .u32 U,a11,a12,a13,a14],lo,[some (.cells (bC L) e)],[]⟩,wr⟩ (Ft e off n u0):=by
 obtain⟨i,hi,hin,rfl,hU,hL,hw⟩:=h;have hl:=hL.1;have hr:=yX hlt hin;obtain⟨V,hV⟩:∃V,V=u0/10^(n-i):=⟨_,rfl⟩;rw[←hV]at hU hr;subst hU;by_cases h1:i=1
 . subst h1;have hV10:V<10:=by simpa using hr
   have hd:(dR V).toNat=48+V:=rN hV10;unfold um;refine gg19 ?_;refine⟨.inl rfl,rfl,_,rfl,.cons hw,by simp[hl],fun j h1 h2=>?_⟩;rw[Fq ac];by_cases hj:j=0
   . grind
   . rw[if_neg ac];exact hL.2 j ac h2
 . obtain rfl:i=0:=by omega
   unfold um;exact gg1
theorem IG {off n u0:Nat}(hn:off+n<=24)(hlt:u0<10^n){L:ah}{iv U:Int}{a1 a3 a4 a5 a6 a7 a8 a9 a11 a12 a13 a14:AV}{lo:List (Nat×AV)}{wr:List Nat}(h:Fu L off n u0 4 iv U wr) :
 W M (.seq yW um) ⟨⟨[.sl 0 off n 1 cap,a1,.iV iv,a3,a4,a5,a6,a7,a8,a9,.int .u32 U,a11,a12,a13,a14],lo,[some (.cells (bC L) e)],[]⟩,wr⟩ (Ft e off n u0):=by
 obtain⟨i,hi,hin,rfl,hU,hL,hw⟩:=h;have hl:=hL.1;have sl:=yV;have hr:=yX hlt hin;by_cases h1:2<=i
 . obtain⟨j,rfl⟩:∃j,i=j+2:=⟨i-2,ac⟩;have s1:=pY (u:=u0) (n:=n) (j:=j) hin;obtain⟨V,hV⟩:∃V,V=u0/10^(n-(j+2)):=⟨_,rfl⟩;rw[←hV]at hU hr s1;have hV4:V<10000:=fT hr (f9 (dY am (show j+2<=4 by omega)) am);subst hU;unfold yW;repeat' first|(apply Ng hn hlt)|(apply alT;rfl;rfl;(first|omega|(simp only[mV];omega)))|(apply amH;rfl;rfl;omega;omega)|(apply amI;rfl;rfl;omega;omega)|(apply amJ;rfl;rfl;omega)|(apply aml;rfl;rfl;omega)|(apply alO (s:=jX);rfl;rfl;omega)|apply afc|apply cV|apply afl|apply afm|apply ajJ|apply ajN|(apply ajP;rfl)|(apply alX;rfl;(first|(simp only[nca];rfl)|rfl);(first|(simp only[nca];rfl)|rfl))|(apply afH;rfl)|(apply agV;rfl;rfl)|(apply aku;rfl;rfl;omega)|(apply alN;rfl;rfl;omega)|(apply abL;rfl;rfl)|(apply afx;rfl;rfl)|(intro _;omega)|intro _
   all_goals try omega
   refine⟨j,ac,ac,ac,ac,?_,.cons (.cons hw)⟩;refine fM.nZ (U:=V) hL hn ac hV ?_ ?_ ?_ ?_;all_goals omega
 . unfold yW;repeat' first|(apply Ng hn hlt)|(apply agV;rfl;rfl)|refine gc ?_|(intro _;omega)|intro _
   all_goals try omega
   exact⟨i,ac,hin,rfl,hU,hL,hw⟩
theorem acB {off n u0:Nat}(hn:off+n<=24)(hlt:u0<10^n){L:ah}{iv U:Int}{a1 a3 a4 a5 a6 a7 a8 a9 a11 a12 a13 a14:AV}{lo:List (Nat×AV)}{wr:List Nat}(h:Fu L off n u0 8 iv U wr) :
 W M (.seq Fs (.seq yW um)) ⟨⟨[.sl 0 off n 1 cap,a1,.iV iv,a3,a4,a5,a6,a7,a8,a9,.int .u32 U,a11,a12,a13,a14],lo,[some (.cells (bC L) e)],[]⟩,wr⟩ (Ft e off n u0):=by
 obtain⟨i,hi,hin,rfl,hU,hL,hw⟩:=h;have hl:=hL.1;have sl:=yV;have hr:=yX hlt hin;by_cases h1:4<=i
 . obtain⟨j,rfl⟩:∃j,i=j+4:=⟨i-4,ac⟩;have s1:=pY (u:=u0) (n:=n) (j:=j+2) ac;have s2:=pY (u:=u0) (n:=n) (j:=j) ac;obtain⟨V,hV⟩:∃V,V=u0/10^(n-(j+4)):=⟨_,rfl⟩;rw[show j+2+2=j+4 by omega,←hV]at s1;rw[s1]at s2;rw[←hV]at hU hr;have hV8:V<100000000:=fT hr (f9 (dY am (show j+4<=8 by omega)) am);subst hU;unfold Fs;refine gg20 ?_;refine⟨j,ac,ac,ac,ac,?_,.cons (.cons (.cons (.cons hw)))⟩;refine fM.nZ (U:=V/100) (fM.nZ (i:=j+2) (U:=V) hL hn ac hV ?_ ?_ ?_ ?_) hn ac s1.symm ?_ ?_ ?_ ?_;all_goals omega
 . unfold Fs;exact gg17
theorem acC (hft:M.FT=FT)(off n u0:Nat)(hn:off+n<=24)(hlt:u0<10^n)(hu:u0<18446744073709551616)(L:ah)(hL:L.length=24) :
 ∃L' wr,iK 0 wr/\fM L' off n 0 u0/\aV M 306 [.sl 0 off n 1 cap,.uV (u0:Nat)] [some (.cells (bC L) e)] ⟨.au [],[some (.cells (bC L') e)],wr⟩:=by
 refine acA (P:=fun L'=>fM L' off n 0 u0) (by rw[hft];exact acb) be ?_;have lp:=fun Q a10 a11 a12 a13 a14 hQ a3 a4 a5 a6 a7 a8 a9 lo wr=>acz (M:=M) (cap:=cap) (e:=e) off n u0 hn hu (Q:=Q) a10 a11 a12 a13 a14 hQ L n a3 a4 a5 a6 a7 a8 a9 lo wr (d6 _) ⟨hL,fun j h1 h2=>by omega⟩
 simp only[Nat.sub_self,Nat.pow_zero,Nat.div_one]at lp;unfold MO;simp only[enter];repeat' first|refine gc ?_|fail
 refine lp _ _ _ _ _ _ (fun L i a3 a4 a5 a6 a7 a8 a9 lo wr hi h8 hL hw=>?_) _ _ _ _ _ _ _ _ _ iK.nil;have hr:=yX hlt hi;have hV:u0/10^(n-i)<4294967296:=fT hr (f9 (dY am (show i<=8 by omega)) am);obtain⟨V,hVe⟩:∃V,V=u0/10^(n-i):=⟨_,rfl⟩;rw[←hVe]at hr hV ⊢;repeat' first|(apply acB hn hlt)|(apply amG;rfl;omega)|refine gc ?_|fail
 exact⟨i,h8,hi,rfl,by rw[hVe],hL,hw⟩
section
variable {t:Nat} {x y:ay} {l:List aX} {pe:List AV} {lo:List (Nat×AV)} {df wr:List Nat} {k:IntKind} {a:Int} {Q:aq->Prop} {L:ah} {n:Nat}
theorem amg (hx:(St.mk pe lo [some (.cells (bC L) e)] df).ae x=some (.ptr 0 0))(hl:L.length=24)(hy:(St.mk pe lo [some (.cells (bC L) e)] df).ae y=some (.int k a))(ha:a=(n:Int))(hn:n<=24)
 (h:WO M l ⟨⟨pe,(t,.sl 0 0 n 1 (some 24))::lo,[some (.cells (bC L) e)],df⟩,wr⟩ Q):WO M (⟨.l t,.jn 24 1 x none (some y),none⟩::l) ⟨⟨pe,lo,[some (.cells (bC L) e)],df⟩,wr⟩ Q:=by
 subst ha;refine WO.Nb (i:=0) (j:=n) hx hl rfl ?_ am h;simp only[St.cZ,hy,it,dN,bR];rw[if_pos ac];rfl
theorem amf (hx:(St.mk pe lo [some (.cells (bC L) e)] df).ae x=some (.ptr 0 0))(hl:L.length=24)(hy:(St.mk pe lo [some (.cells (bC L) e)] df).ae y=some (.int k a))(ha:a=1+(n:Int))(hn:n<24)
 (h:WO M l ⟨⟨pe,(t,.sl 0 1 n 1 (some 23))::lo,[some (.cells (bC L) e)],df⟩,wr⟩ Q):WO M (⟨.l t,.jn 24 1 x (some (.c (.iV 1))) (some y),none⟩::l) ⟨⟨pe,lo,[some (.cells (bC L) e)],df⟩,wr⟩ Q:=by
 subst ha;refine WO.Nb (i:=1) (j:=n+1) hx hl ?_ ?_ am h
 . have e1:(St.mk pe lo [some (.cells (bC L) e)] df).ae (.c (.iV 1))=some (.iV 1):=rfl;simp only[St.cZ,e1,it,dN,bR];rw[if_pos ac];rfl
 . simp only[St.cZ,hy,it,dN,bR];rw[if_pos ac];congr 1;omega
theorem anc {hp:aa}{v:Int}(hx:(St.mk pe lo hp df).ae x=some (.uV a))(hv:(0-a)%18446744073709551616=v)
 (h:WO M l ⟨⟨pe,(t,.uV v)::lo,hp,df⟩,wr⟩ Q):WO M (⟨.l t,.un .neg x,none⟩::l) ⟨⟨pe,lo,hp,df⟩,wr⟩ Q:=
 abL (v:=.uV v) (by simp only[aY,hx,dN,sx,pC,hv]) rfl h
end
def oT:ah:=b7 24 0
def bM (z:Int):ah:=if z<0 then 45::aS (-z).toNat else aS z.toNat
structure uo (M:aw):Prop where
 ft:M.FT=FT
 Nh:∀ars h,M.ext 306 ars h=none
 Fv:∀(n:Nat) h,n<100->M.ext 304 [.iV n] h=some ⟨.str (aS n),h,[]⟩
 yY:∀(d:Int) h,(0<d/\d<18446744073709551616)->M.ext 305 [.uV d] h=some ⟨.iV (fV d),h,[]⟩
theorem uo.Fw (C:uo M){e:TypeId}{off:Nat}(u:Nat)(hu:0<u/\u<18446744073709551616)(ho:off<=4) :
 ∃L' wr,iK 0 wr/\L'.length=24/\(L'.drop off).take (fV u)=aS u/\CT M (iY 306) [.sl 0 off (fV u) 1 cap,.uV u] [some (.cells (bC oT) e)] ⟨.au [],[some (.cells (bC L') e)],wr⟩:=by
 obtain⟨k1,k2,k3,k4⟩:=yU hu;obtain⟨L',wr,hw,hD,hr⟩:=acC (cap:=cap) (e:=e) C.ft off (fV u) u ac k3 hu.2 oT rfl;obtain⟨m,hm⟩:∃m,fV u=m+1:=⟨fV u-1,ac⟩;refine⟨L',wr,hw,hD.1,?_,CT.run (fi:=[]) (ca:=[]) (C.Nh _ _) hr⟩;rw[hD.fin ac];rw[hm]at k3 k4 ⊢;exact(yS k3 (by
  rcases k4 with k4|k4
  . exact .inl ac
  . exact .inr (by simpa using k4))).symm
set_option maxRecDepth 100000 in
theorem acD (C:uo M)(u:Nat)(hu:u<18446744073709551616):aV M 299 [.uV u,.iV 10] [] ⟨.str (aS u),[],[]⟩:=by
 refine bH (by rw[C.ft];exact ace) be ?_;unfold MQ;simp only[enter];by_cases h:u<100
 . have q304:=fun hh=>C.Fv u hh h
   exact gg0
 . have q305:=fun hh=>C.yY u hh ac
   obtain⟨k1,k2,k3,k4⟩:=yU (d:=u) ac;obtain⟨L',wr,hw,hl,hd,q306⟩:=C.Fw (cap:=some 24) (e:=301) (off:=0) u ac am;have hz:oT.length=24:=rfl;refine gg14 ?_;rw[hd];exact⟨.inr rfl,rfl,_,rfl,rfl,rfl⟩
set_option maxRecDepth 100000 in
theorem acE (C:uo M)(z:Int)(hz : -9223372036854775808<=z/\z<9223372036854775808):aV M 267 [.iV z,.iV 10] [] ⟨.str (bM z),[],[]⟩:=by
 have hz24:oT.length=24:=rfl;refine bH (by rw[C.ft];exact abZ) be ?_;unfold MM;simp only[enter];by_cases h:z<0
 . obtain⟨u,hu⟩:∃u:Nat,z = -(u:Int):=⟨(-z).toNat,ac⟩;have q305:=fun hh=>C.yY u hh ac
   obtain⟨k1,k2,k3,k4⟩:=yU (d:=u) ac;obtain⟨L',wr,hw,hl,hd,q306⟩:=C.Fw (cap:=some 23) (e:=301) (off:=1) u ac am;have e0:bM z=45::aS u:=by unfold bM;rw[if_pos h];congr 2;omega
   have e1:((L'.set (0+0*1) 45).drop 0).take (1+fV u)=45::aS u:=by
    cases L' with
    | nil=>simp at hl
    | cons c L'=>
     rw[←hd,Nat.add_comm 1];rfl
   rw[e0];refine gg8 ?_;rw[e1];exact⟨.inr rfl,rfl,_,rfl,rfl,rfl⟩
 . obtain⟨u,hu⟩:∃u:Nat,z=(u:Int):=⟨z.toNat,ac⟩;have e0:bM z=aS u:=by unfold bM;rw[if_neg h];congr 1;omega
   rw[e0];subst hu;by_cases h1:u<100
   . have q304:=fun hh=>C.Fv u hh h1
     exact gg0
   . have q305:=fun hh=>C.yY u hh ac
     obtain⟨k1,k2,k3,k4⟩:=yU (d:=u) ac;obtain⟨L',wr,hw,hl,hd,q306⟩:=C.Fw (cap:=some 23) (e:=301) (off:=1) u ac am;repeat' first|(apply amf (L:=oT) (n:=fV u);rfl;exact hz24;rfl;rfl;omega)|(apply amf (L:=L') (n:=fV u);rfl;exact hl;rfl;rfl;omega)|(apply amh (L:=L');rfl;omega)|(apply abd;rfl;rfl)|(apply aiZ;rfl;rfl)|(apply aeJ;rfl;rfl)|refine gd0 ?_|(apply afJ;rfl;rfl;first|exact q306)|refine gc ?_|(intro _;omega)|intro _
     all_goals try omega
     rw[hd];exact⟨.inr rfl,rfl,_,rfl,rfl,rfl⟩
theorem acF (hft:M.FT=FT)(z:Int)(q:∀h,M.ext 267 [.iV z,.iV 10] h=some ⟨.str (bM z),h,[]⟩):aV M 226 [.iV z] [] ⟨.str (bM z),[],[]⟩:=by
 refine bH (by rw[hft];exact abX) be ?_;unfold MK;simp only[enter];exact gg0
theorem acG (hft:M.FT=FT)(z:Int)(q:∀h,M.ext 226 [.iV z] h=some ⟨.str (bM z),h,[]⟩):aV M 183 [.iV z] [] ⟨.str (bM z),[],[]⟩:=by
 refine bH (by rw[hft];exact abW) be ?_;unfold MJ;simp only[enter];exact gg0
theorem acH (hft:M.FT=FT)(u:Nat)(q:∀h,M.ext 299 [.uV u,.iV 10] h=some ⟨.str (aS u),h,[]⟩):aV M 263 [.uV u,.iV 10] [] ⟨.str (aS u),[],[]⟩:=by
 refine bH (by rw[hft];exact acd) be ?_;unfold MP;simp only[enter];exact gg0
set_option maxRecDepth 1000000
def acI:ak:=.seq (zR [⟨.l 111,.call (kF 302) [(.p 7)],none⟩,zm 112 5,zb 113 .lss 111 112] (.cond (.l 113) (.skip) (.exit 3))) (.block 4 (zR [zm 114 5,⟨.l 115,.call (kF 302) [(.p 7)],none⟩,zb 116 .sub 114 115,⟨.l 117,.call (kF 302) [(.p 7)],none⟩,zm 118 6,⟨.l 119,.mm false [(.l 116),(.l 117),(.l 118)],none⟩,zw 8 119] (.region [⟨.l 120,.call (kF 266) [(.p 7)],none⟩,zm 121 8,⟨.l 122,.slice .str 1 (.l 120) none (some (.l 121)) none,none⟩,⟨.l 123,.call (kF 265) [(.p 7),(.l 122)],none⟩])))
def Ni:ak:=zR [⟨.p 2,.mv (.c (.str [])),none⟩] (.seq (zR [⟨.p 9,.mv (.p 1),none⟩] (.block 0 (zR [zq 13 .eql 9 0,zn 12 13] (.cond (.l 12) (zR [⟨.p 2,.mv (.c (.str [])),none⟩] (.ret)) (zR [zq 15 .eql 9 1,zn 14 15] (.cond (.l 14) (zR [zm 16 0,zw 2 16] (.ret)) (.skip))))))) (.seq (zR [zm 17 1,zc 18 .lss 17 0] (.cond (.l 18) (.bad) (.skip))) (zR [zm 21 0,zL 22 21,⟨.l 23,.dM .u64 (.l 22),none⟩,zm 24 1,⟨.l 25,.dM .u64 (.l 24),none⟩,z2 26 300 23 25,zn 20 26,ze 27 0 20,ze 28 1 20,zw 3 27,zw 4 28] (.seq (zR [zm 29 3,⟨.l 30,.bin .gtr (.l 29) (kU 0),none⟩,zn 31 30,zg (zm 32 4) 31 false,⟨.l 33,.bin .gtr (.l 32) (kU 9223372036854775807),some ((.l 31),false)⟩,zP 34 31 33] (.cond (.l 34) (.bad) (.skip))) (zR [zm 36 4,⟨.l 37,.dM .i64 (.l 36),none⟩,zw 5 37] (.seq (zR [zm 38 0,zL 39 38,zc 40 .eql 39 0] (.cond (.l 40) (zR [⟨.p 2,.mv (.c (.str [])),none⟩] (.ret)) (.skip))) (.seq (zR [zm 41 0,⟨.p 10,.index (.l 41) (kI 0),none⟩] (.block 1 (.seq (zR [⟨.l 44,.bin .eql (.p 10) (.c (.int .u8 (32))),none⟩,zw 11 44] (.cond (.p 11) (.skip) (zR [⟨.l 45,.bin .eql (.p 10) (.c (.int .u8 (45))),none⟩,zw 11 45] (.cond (.p 11) (.skip) (zR [⟨.l 46,.bin .eql (.p 10) (.c (.int .u8 (48))),none⟩,zw 11 46] (.cond (.p 11) (.skip) (zR [⟨.l 47,.bin .eql (.p 10) (.c (.int .u8 (61))),none⟩,zw 11 47] (.cond (.p 11) (.skip) (.region [⟨.l 48,.bin .eql (.p 10) (.c (.int .u8 (9))),none⟩,zw 11 48]))))))))) (.cond (.p 11) (.block 2 (zR [zm 50 5,zc 51 .leq 50 128,zn 52 51,zg (zm 53 0) 52 true,⟨.l 54,.call (kF 212) [(.c (.str zD5)),(.l 53)],some ((.l 52),true)⟩,zp 55 52 54,zn 49 55] (.cond (.l 49) (zR [zm 56 5,⟨.l 57,.slice .str 1 (.c (.str zD5)) none (some (.l 56)) none,none⟩,zw 2 57] (.ret)) (zR [zm 59 5,zc 60 .leq 59 128,zn 61 60,zg (zm 62 0) 61 true,⟨.l 63,.call (kF 212) [(.c (.str zD7)),(.l 62)],some ((.l 61),true)⟩,zp 64 61 63,zn 58 64] (.cond (.l 58) (zR [zm 65 5,⟨.l 66,.slice .str 1 (.c (.str zD7)) none (some (.l 65)) none,none⟩,zw 2 66] (.ret)) (zR [zm 68 5,zc 69 .leq 68 64,zn 70 69,zg (zm 71 0) 70 true,⟨.l 72,.call (kF 212) [(.c (.str zD6)),(.l 71)],some ((.l 70),true)⟩,zp 73 70 72,zn 67 73] (.cond (.l 67) (zR [zm 74 5,⟨.l 75,.slice .str 1 (.c (.str zD6)) none (some (.l 74)) none,none⟩,zw 2 75] (.ret)) (zR [zm 77 5,zc 78 .leq 77 128,zn 79 78,zg (zm 80 0) 79 true,⟨.l 81,.call (kF 212) [(.c (.str zD4)),(.l 80)],some ((.l 79),true)⟩,zp 82 79 81,zn 76 82] (.cond (.l 76) (zR [zm 83 5,⟨.l 84,.slice .str 1 (.c (.str zD4)) none (some (.l 83)) none,none⟩,zw 2 84] (.ret)) (zR [zm 86 5,zc 87 .leq 86 64,zn 88 87,zg (zm 89 0) 88 true,⟨.l 90,.call (kF 212) [(.c (.str zD3)),(.l 89)],some ((.l 88),true)⟩,zp 91 88 90,zn 85 91] (.cond (.l 85) (zR [zm 92 5,⟨.l 93,.slice .str 1 (.c (.str zD3)) none (some (.l 92)) none,none⟩,zw 2 93] (.ret)) (.skip)))))))))))) (.skip))))) (zR [zm 94 5,zw 6 94] (.seq (zR [zm 95 5,zc 96 .gtr 95 8192] (.cond (.l 96) (zR [zm 97 0,zL 98 97,⟨.l 99,.bin .quo (kI 8192) (.l 98),none⟩,zm 100 0,zL 101 100,zb 102 .mul 99 101,zw 6 102] (zR [zm 103 6,zc 104 .eql 103 0] (.cond (.l 104) (.region [zm 105 0,zL 106 105,zw 6 106]) (.skip)))) (.skip))) (zR [⟨.p 7,.alloc 269 [.dG,.ab],none⟩] (zR [zm 107 5,⟨.l 108,.call (kF 301) [(.p 7),(.l 107)],none⟩] (zR [zm 109 0,⟨.l 110,.call (kF 265) [(.p 7),(.l 109)],none⟩] (.seq (.block 3 (.loop acI)) (zR [⟨.l 124,.call (kF 266) [(.p 7)],none⟩,zw 2 124] (.ret)))))))))))))))
theorem acJ:FT 264=some ⟨125,[0,1,4,5,6,7,8,9,10,11,42,43],[.var (.p 2)],Ni⟩:=by kernel_rfl
def Fx:ak:=zR [zi 2 0,⟨.p 3,.mv (.c (.dh)),none⟩] (zR [zm 6 0,z1 7 303 6] (zR [zm 8 0,zm 9 0,⟨.l 10,.kr (.l 9),none⟩,⟨.l 11,.jA 1 (.l 10),none⟩,zd 12 1 11,zm 13 1,⟨.l 14,.append 5 1 1 (.l 12) (.l 13),none⟩,⟨.l 15,.kr (.l 8),none⟩,⟨.l 16,.jA 1 (.l 15),none⟩,zS 1 16 14] (zR [zm 17 1,zL 18 17,zw 2 18,⟨.p 3,.mv (.c (.dh)),none⟩] (.ret))))
theorem Nj:FT 265=some ⟨19,[0,1,4,5],[.var (.p 2),.var (.p 3)],Fx⟩:=by kernel_rfl
def Nk:ak:=zR [⟨.p 1,.mv (.c (.str [])),none⟩] (.seq (.draw [(zm 3 0,[]),(⟨.l 4,.kr (.l 3),none⟩,[]),(⟨.l 5,.jA 1 (.l 4),none⟩,[]),(zd 6 1 5,[]),(⟨.l 7,.sr (.l 6),none⟩,[]),(zm 8 0,[0,1,2,3,4]),(⟨.l 9,.kr (.l 8),none⟩,[0,1,2,3,4]),(⟨.l 10,.jA 1 (.l 9),none⟩,[0,1,2,3,4]),(zd 11 1 10,[0,1,2,3,4]),(zl 12 11,[0,1,2,3,4]),(⟨.l 13,.kq 5 (.l 7) (.l 12),none⟩,[]),(zw 1 13,[])]) (.ret))
theorem acK:FT 266=some ⟨14,[0,2],[.var (.p 1)],Nk⟩:=by kernel_rfl
def Fy:ak:=zR [zm 2 0,⟨.l 3,.kr (.l 2),none⟩,⟨.l 4,.jA 0 (.l 3),none⟩,zd 5 1 4,⟨.l 6,.eq false (.ref .ptr) (.l 5) (.c (.dG)),none⟩] (.cond (.l 6) (.region [zm 7 0,zm 8 0,⟨.l 9,.lf none (.l 8),none⟩,z1 10 323 9,⟨.l 11,.lf (some (269,2)) (.l 10),none⟩,⟨.l 12,.kr (.l 7),none⟩,⟨.l 13,.jA 0 (.l 12),none⟩,zS 1 13 11]) (zR [zm 14 0,⟨.l 15,.kr (.l 14),none⟩,⟨.l 16,.jA 0 (.l 15),none⟩,zd 17 1 16,zm 18 0,⟨.l 19,.oC true (.l 17) (.l 18),none⟩] (.cond (.l 19) (.bad) (.skip))))
theorem Nl:FT 303=some ⟨20,[0],[],Fy⟩:=by kernel_rfl
def Nm:ak:=zR [⟨.p 2,.mv (kU 0),none⟩,⟨.p 3,.mv (kU 0),none⟩] (.seq (.cond (.c (.bool false)) (zR [zm 11 0,⟨.l 12,.dM .u32 (.l 11),none⟩,zm 13 1,⟨.l 14,.dM .u32 (.l 13),none⟩,z2 15 321 12 14,zn 10 15,ze 16 0 10,ze 17 1 10,zw 4 16,zw 5 17] (zR [zm 18 4,⟨.l 19,.dM .u64 (.l 18),none⟩,zm 20 5,⟨.l 21,.dM .u64 (.l 20),none⟩,zw 2 19,zw 3 21] (.ret))) (.skip)) (zR [zm 23 0,zm 24 1,z2 25 244 23 24,zn 22 25,ze 26 0 22,ze 27 1 22,zw 6 26,zw 7 27] (zR [zm 28 6,zm 29 7,zw 2 28,zw 3 29] (.ret))))
theorem acL:FT 300=some ⟨30,[0,1,4,5,6,7,8,9],[.var (.p 2),.var (.p 3)],Nm⟩:=by kernel_rfl
def pZ (N:Nat)(hp:aa)(b:Nat)(acc:ah):Prop:=(acc=[]/\hp.at b=some (.cells [.dG,.ab] 269))\/(acc≠[]/\∃c,N<=c/\hp.at b=some (.cells [.ptr b 0,.sl c 0 acc.length 1 none] 269)/\hp.at c=some (.cells (bC acc) 5))
theorem Fz {h:aa}{b:Nat}{x:Option ba}{n:Nat}(hn:h.length=n):(h.put b x).take n=h.put b x:=j0 (by rw[dQ];omega)
theorem acM {v:AV}{n b:Nat}{s:aq}{h:aa}{c:List AV}{e:TypeId}(hv:v.top=0)(hb:b<h.length)(hn:h.length=n)(hh:s.s.hp=h.put b (some (.cells c e)))(hw:∀x∈s.wr,x=b)(hc:bc c<=n):dy v n s=⟨v,h.put b (some (.cells c e)),s.wr.filter (· < n)⟩:=by
 have ht:tight s.s.hp n s.wr=true:=by
  simp only[tight,dO];intro x hx;rw[hw x hx,hh,eu hb];simp[ba.top,hc]
 rw[Dt ac ht,hh,Fz hn]
theorem acN (hft:M.FT=FT)(qc:∀b h,M.ext 323 [.ptr b 0] h=some ⟨.ptr b 0,h,[]⟩)(b:Nat)(hp:aa)(hb:hp.at b=some (.cells [.dG,.ab] 269)):aV M 303 [.ptr b 0] hp ⟨.au [],hp.put b (some (.cells [.ptr b 0,.ab] 269)),[b]⟩:=by
 have hlt:=cJ hb;have q:=qc b hp;refine xw (by rw[hft];exact Nl) be ?_;unfold Fy;simp only[enter];repeat' first|(apply akA;rfl;exact hb;rfl)|(apply anp;rfl;exact hb;decide)|(apply anq;rfl;exact hb;decide)|(apply afG (c':=[.ptr b 0,.ab]);rfl;rfl;exact hb;exact⟨rfl,am,rfl⟩;rfl)|(apply acq;rfl;rfl;first|exact q)|refine gc ?_|fail
 refine⟨.inl rfl,rfl,[],rfl,?_⟩;refine(acM (v:=.au []) rfl hlt rfl rfl be ?_).trans ?_
 . show max (b+1) (max 0 0)<=_;omega
 grind
theorem acO (hft:M.FT=FT)(b:Nat)(hp:aa)(v:AV)(hb:hp.at b=some (.cells [.ptr b 0,v] 269)):aV M 303 [.ptr b 0] hp ⟨.au [],hp,[]⟩:=by
 refine pt (by rw[hft];exact Nl) be ?_;unfold Fy;simp only[enter];repeat' first|(apply akA;rfl;exact hb;rfl)|(apply anr;rfl;rfl;exact hb)|refine gc ?_|fail
 exact⟨.inl rfl,rfl,rfl,rfl,[],rfl,rfl⟩
structure Kept (N b:Nat)(hp H:aa)(wr:List Nat):Prop where
 len:hp.length<=H.length
 at':∀a,a<N->a≠b->H[a]? = hp[a]?
 wr:∀x∈wr,x=b\/N<=x
theorem Nn {h h':aa}{a:Nat}(e:h'[a]? = h[a]?):h'.at a=h.at a:=by simp only[aa.at,e]
theorem uq {h:aa}{a b:Nat}{x:Option ba}(hn:a≠b):(h.put b x)[a]? = h[a]? := by
 simp only[aa.put,i6,if_neg (fun e:b=a=>hn e.symm)]
theorem No {h l:aa}{a:Nat}(hn:a<h.length):(h++l)[a]? = h[a]? := i4 hn
theorem Np (hft:M.FT=FT)(rP:∀ars h,M.ext 303 ars h=none)(qc:∀b h,M.ext 323 [.ptr b 0] h=some ⟨.ptr b 0,h,[]⟩)(N b:Nat)(hp:aa)(acc s:ah)(hN:b<N/\N<=hp.length)(hs:s≠[])(hl:acc.length+s.length<1000000000)(hB:pZ N hp b acc) :
 fJ M 265 [.ptr b 0,.str s] hp fun r=>r.v = .au [.iV s.length,.dh]/\pZ N r.h b (acc++s)/\Kept N b hp r.h r.wr/\b∈r.wr/\r.h.at b=some (.cells [.ptr b 0,.sl hp.length 0 (acc++s).length 1 none] 269):=by
 have h0:0<s.length:=c7.2 hs;have hne:acc++s≠[]:=by simp[hs]
 rcases hB with ⟨rfl,hb⟩|⟨ha,c,hc,hb,hcb⟩
 . have hlt:=cJ hb;have q:=CT.run (fi:=[]) (ca:=[]) (ars:=[.ptr b 0]) (rP _ _) (acN hft qc b hp hb);have hb1:(hp.put b (some (.cells [.ptr b 0,.ab] 269))).at b=some (.cells [.ptr b 0,.ab] 269):=eu hlt;have hb2:=cE (l:=[some (.cells (bC s) 5)]) hb1;have hsc:dV (hp.put b (some (.cells [.ptr b 0,.ab] 269))) (.str s)=some (bC s,s.length):=rfl;refine fJ.mz (by rw[hft];exact Nj) be ?_;unfold Fx;simp only[enter];repeat' first|(apply akA;rfl;exact hb1;rfl)|(apply anm;rfl;rfl;exact hsc;exact⟨(mK s).trans (f6 _).symm,am,MZ s⟩;exact⟨h0,by simp only[cz];omega⟩)|(apply afG (c':=[.ptr b 0,.sl (hp.put b (some (.cells [.ptr b 0,.ab] 269))).length 0 s.length 1 none]);rfl;rfl;exact hb2;exact⟨rfl,d6 _,rfl⟩;rfl)|refine gd6 ?_|refine gc ?_|fail
   refine⟨.inr rfl,_,rfl,[.iV s.length,.dh],rfl,?_⟩;rw[Km (n:=hp.length) rfl rfl ?_]
   . have hL:(hp.put b (some (ba.cells [.ptr b 0,.ab] 269))++[some (ba.cells (bC s) 5)]).length=hp.length+1:=by simp[dQ]
     refine⟨rfl,.inr ⟨hne,hp.length,hN.2,?_,?_⟩,⟨?_,fun a h1 h2=>?_,?_⟩,by simp[hlt],?_⟩
     . simp only[eu (show b<_ by rw[hL];omega),dQ,b6]
     . rw[b6];refine pr ac ?_;have:=cC (h:=hp.put b (some (ba.cells [.ptr b 0,.ab] 269))) (x:=some (ba.cells (bC s) 5));rw[dQ]at this;exact this
     . rw[dQ,hL];omega
     . rw[uq h2,No (by rw[dQ];omega),uq h2]
     . simp
     . simp only[eu (show b<_ by rw[hL];omega),dQ,b6]
   . simp only[tight,ky];refine⟨b,be,?_⟩;rw[eu (by simp[dQ];omega)];simp[ba.top,bc,AV.top,dQ];omega
 . have hlt:=cJ hb;have q:=CT.run (fi:=[]) (ca:=[]) (ars:=[.ptr b 0]) (rP _ _) (acO hft b hp _ hb);have hsc:dV hp (.str s)=some (bC s,s.length):=rfl;have hcl:=cJ hcb;have hbc:b≠c:=by omega
   have hb2:aa.at (hp.put c none++[some (.cells (bC acc++bC s) 5)]) b=some (.cells [.ptr b 0,.sl c 0 acc.length 1 none] 269):=cE (pr hbc hb);refine fJ.mz (by rw[hft];exact Nj) be ?_;unfold Fx;simp only[enter];repeat' first|(apply akA;rfl;exact hb;rfl)|(apply ann;rfl;rfl;exact hsc;exact⟨(mK s).trans (f6 _).symm,am,MZ s⟩;exact⟨h0,by simp only[cz];omega⟩;exact hcb;exact((mK acc).trans (f6 _).symm).trans (iy _).symm)|(apply afG (c':=[.ptr b 0,.sl hp.length 0 (acc.length+s.length) 1 none]);rfl;rfl;exact hb2;exact⟨rfl,d6 _,rfl⟩;rfl)|refine gd6 ?_|refine gc ?_|fail
   refine⟨.inr rfl,_,rfl,[.iV s.length,.dh],rfl,?_⟩;rw[Km (n:=hp.length) rfl rfl ?_]
   . have hL:(hp.put c none++[some (ba.cells (List.drop 0 (bC acc)++bC s) 5)]).length=hp.length+1:=by simp[dQ]
     refine⟨rfl,.inr ⟨hne,hp.length,hN.2,?_,?_⟩,⟨?_,fun a h1 h2=>?_,?_⟩,by simp[hlt],?_⟩
     . simp only[eu (show b<_ by rw[hL];omega),b8]
     . refine pr ac ?_;have:=cC (h:=hp.put c none) (x:=some (ba.cells (List.drop 0 (bC acc)++bC s) 5));rw[dQ]at this;rw[this,m5,acj]
     . rw[dQ,hL];omega
     . rw[uq h2,No (by rw[dQ];omega),uq ac]
     . intro x hx;simp at hx;omega
     . simp only[eu (show b<_ by rw[hL];omega),b8]
   . simp only[tight,ky];refine⟨b,be,?_⟩;rw[eu (by simp[dQ];omega)];simp[ba.top,bc,AV.top];omega
theorem Nq (hft:M.FT=FT)(N b:Nat)(hp:aa)(acc:ah)(hB:pZ N hp b acc)(hne:acc≠[])(hl:acc.length<1000000000)(_hN:b<N/\N<=hp.length):fJ M 266 [.ptr b 0] hp fun r=>r.v = .str acc/\Kept N b hp r.h r.wr:=by
 have h0:0<acc.length:=bS;rcases hB with ⟨rfl,hb⟩|⟨ha,c,hc,hb,hcb⟩
 . grind
 have hcl:=cJ hcb;refine fJ.mz (by rw[hft];exact acK) be ?_;unfold Nk;simp only[enter];have hcut:cut (bC acc) 0 ((acc.length:Int)).toNat=some (bC acc):=by
  rw[d7];simp[cut,mK];exact j0 (by rw[mK];simp)
 repeat' first|(apply akA;rfl;exact hb;rfl)|(apply ans;rfl;exact h0)|(apply ant;rfl;rfl;exact hcb;omega;exact hcut;exact Fo acc;intro _)|refine gc ?_|fail
 refine⟨.inr rfl,_,rfl,[.str acc],rfl,?_⟩;rw[WH (n:=hp.length) rfl rfl (i7 _) ?_]
 . refine⟨rfl,?_,fun a h1 h2=>?_,?_⟩
   . simp only[Fz rfl,dQ];simp
   . simp only[Fz rfl];exact uq ac
   grind
 . have:aa.at (hp.put c none) c=none:=eu hcl;simp[tight,this]
end Go.Ab.Ch1

/-
  Own work: decimal texts in parts of 18 digits.
-/
namespace Go.Ab.aU
theorem yZ:∀k,cP k 0=b7 k 48
 | 0=>rfl
 | k+1=>by rw[cP,yZ k,List.replicate_succ'];rfl
theorem Nr:∀{k n:Nat},n<10^(k+1)->cP (k+1) n=b7 (k+1-(aS n).length) 48++aS n
 | 0,n,h=>by
  have h:n<10:=by simpa using h
  rw[iX h];simp[cP,i9 h]
 | k+1,n,h=>by
  rw[cP];by_cases h1:n<10
  . rw[iX h1,Nat.div_eq_of_lt h1,yZ,i9 h1];rfl
  . rw[c8]at h;have hl:(aS n).length=(aS (n/10)).length+1:=by rw[lT h1];simp
    rw[Nr (k:=k) (n:=n/10) ac,lT h1,f8];rw[show k+1+1-(aS (n/10)++[dR (n%10)]).length=k+1-(aS (n/10)).length by rw[←lT h1,hl];omega]
def jx (n:Nat):List ah:=if n=0 then [] else if n<1000000000000000000 then [aS n] else cP 18 (n%1000000000000000000)::jx (n/1000000000000000000)
termination_by n
decreasing_by omega
theorem rQ:jx 0=[]:=by rw[jx,if_pos rfl]
theorem ur {n:Nat}(h0:n≠0)(h:n<1000000000000000000):jx n=[aS n]:=by rw[jx,if_neg h0,if_pos h]
theorem uu {n:Nat}(h:¬n<1000000000000000000):jx n=cP 18 (n%1000000000000000000)::jx (n/1000000000000000000):=by
 rw[jx,if_neg ac,if_neg h]
theorem acP {n:Nat}(h:n≠0):(jx n).reverse.flatten=aS n:=by
 induction n using fm with
 | _ n ih=>
  by_cases h1:n<1000000000000000000
  . rw[ur h h1];simp
  . rw[uu h1,kJ,j2,ih _ ac ac];have e:=Fm (k:=18) (a:=n/1000000000000000000) (b:=n%1000000000000000000) ac (by rw[show (10:Nat)^18=1000000000000000000 by rfl];omega);rw[show (10:Nat)^18=1000000000000000000 by rfl,show n/1000000000000000000*1000000000000000000+n%1000000000000000000=n by omega]at e;rw[e];simp
theorem acQ {n:Nat}:∀x∈jx n,x≠[]:=by
 induction n using fm with
 | _ n ih=>
  by_cases h0:n=0
  . subst h0;rw[rQ];simp
  . by_cases h1:n<1000000000000000000
    . rw[ur h0 h1];intro x hx;rw[j6.1 hx];exact rO _
    . rw[uu h1];intro x hx;rcases nJ.1 hx with h3|hx
      . rw[h3];exact fun e=>absurd (congrArg mU e) (by rw[lS,fG];exact Nat.succ_ne_zero 17)
      . exact ih (n/1000000000000000000) (mW (j7 h0) am) x hx
theorem acR {n:Nat}:∀x∈jx n,x.length<=18:=by
 induction n using fm with
 | _ n ih=>
  by_cases h0:n=0
  . subst h0;rw[rQ];simp
  . by_cases h1:n<1000000000000000000
    . rw[ur h0 h1];intro x hx;rw[j6.1 hx];exact pU (k:=18) h1 am
    . rw[uu h1];intro x hx;rcases nJ.1 hx with h3|hx
      . rw[h3,lS];exact d6 _
      . exact ih (n/1000000000000000000) (mW (j7 h0) am) x hx
theorem Ns:∀{k n:Nat},n<1000000000000000000^k->(jx n).length<=k
 | 0,n,h=>by
  obtain rfl:n=0:=by simpa using h
  rw[rQ];exact d6 _
 | k+1,n,h=>by
  by_cases h0:n=0
  . subst h0;rw[rQ];exact i7 _
  . by_cases h1:n<1000000000000000000
    . rw[ur h0 h1];exact Nat.succ_le_succ (i7 _)
    . rw[uu h1,ci];rw[c8]at h;have:=Ns (k:=k) (n:=n/1000000000000000000) (j1 (by rw[jU];exact h));omega
end Go.Ab.aU

/-
  Own work: the code of texts of integers and fractions.
-/
namespace Go.Ab.Ch1
set_option maxRecDepth 1000000
def oc:ak:=.seq (zR [zm 24 4,zl 25 24,zc 26 .gtr 25 0] (.cond (.l 26) (.skip) (.exit 0))) (.block 1 (zR [zm 28 4,zm 29 5,z2 30 253 28 29,zn 27 30,ze 31 0 27,ze 32 1 27,zw 7 31,zw 8 32] (zR [⟨.p 9,.mv (.c (.str [48])),none⟩] (.seq (zR [zm 33 8,zl 34 33,zc 35 .gtr 34 0] (.cond (.l 35) (.region [zm 36 8,⟨.l 37,.dw none 1 (.l 36) (kI 0),none⟩,zd 38 1 37,⟨.l 39,.call (kF 263) [(.l 38),(kI 10)],none⟩,zw 9 39]) (.skip))) (.seq (zR [zm 40 7,zl 41 40,zc 42 .gtr 41 0] (.cond (.l 42) (.region [zm 43 9,zL 44 43,⟨.l 45,.bin .sub (kI 18) (.l 44),none⟩,⟨.l 46,.call (kF 264) [(.c (.str [48])),(.l 45)],none⟩,zm 47 9,zb 48 .add 46 47,zw 9 48]) (.skip))) (zR [zm 49 6,zm 50 9,⟨.l 51,.du 9 1 1 [.str []] [(0,1,(.l 50))],none⟩,⟨.l 52,.append 9 1 16 (.l 49) (.l 51),none⟩,zw 6 52] (.region [zm 53 7,zw 4 53])))))))
def zh:ak:=.seq (zR [zm 59 11,zc 60 .geq 59 0] (.cond (.l 60) (.skip) (.exit 2))) (.seq (.block 3 (.region [zm 63 6,zm 64 11,za 65 1 63 64,zd 66 1 65,⟨.l 67,.call (kF 265) [(.p 10),(.l 66)],none⟩])) (.region [zm 61 11,zc 62 .sub 61 1,zw 11 62]))
def FA:ak:=zR [zx 1 131 2 0,⟨.p 2,.mv (.c (.str [])),none⟩] (.seq (zR [zf 12 1 1,zd 13 1 12,⟨.l 14,.eq false (.ref .slice) (.l 13) (.c (.ab)),none⟩] (.cond (.l 14) (zR [zf 15 0 1,zd 16 1 15,z1 17 183 16,zw 2 17] (.ret)) (.skip))) (zR [zt 19 2 1,z1 20 246 19,zn 18 20,ze 21 0 18,ze 22 1 18,zw 3 21,zw 4 22] (zR [⟨.l 23,.du 246 1 1 [.uV (0)] [(0,1,(kU 1000000000000000000))],none⟩,zw 5 23] (zR [⟨.p 6,.mv (.c (.ab)),none⟩] (.seq (.block 0 (.loop oc)) (zR [⟨.p 10,.alloc 269 [.dG,.ab],none⟩] (.seq (zR [zm 54 3] (.cond (.l 54) (.region [⟨.l 55,.call (kF 265) [(.p 10),(.c (.str [45]))],none⟩]) (.skip))) (.seq (zR [zm 56 6,zl 57 56,zc 58 .sub 57 1,zw 11 58] (.block 2 (.loop zh))) (zR [⟨.l 68,.call (kF 266) [(.p 10)],none⟩,zw 2 68] (.ret))))))))))
theorem Nt:FT 224=some ⟨69,[0,1,2,3,4,5,6,7,8,9,10,11],[.var (.p 2)],FA⟩:=by kernel_rfl
def Nu:ak:=zR [zx 1 131 2 0,⟨.p 2,.mv (.c (.bool false)),none⟩] (zR [zt 3 2 1,z1 4 262 3,zc 5 .gtr 4 1800,zn 6 5,zg (zt 7 2 1) 6 true,zg (z1 8 224 7) 6 true,⟨.l 9,.call (kF 213) [(.l 8),(.c (.str [45]))],some ((.l 6),true)⟩,zg (zL 10 9) 6 true,zg (zc 11 .gtr 10 600) 6 true,zp 12 6 11,zw 2 12] (.ret))
theorem acS:FT 223=some ⟨13,[0,1,2],[.var (.p 2)],Nu⟩:=by kernel_rfl
def zj:ak:=.seq (zR [zm 13 0,zL 14 13,zc 15 .gtr 14 0] (.cond (.l 15) (.skip) (.exit 0))) (.block 1 (zR [zm 16 0,zL 17 16,⟨.l 18,.mm false [(kI 18),(.l 17)],none⟩,zw 4 18] (zR [zm 20 0,zm 21 4,⟨.l 22,.slice .str 1 (.l 20) none (some (.l 21)) none,none⟩,z1 23 214 22,zn 19 23,ze 24 0 19,ze 25 1 19,zw 5 24,zn 7 25] (.seq (.draw [(zt 26 2 3,[]),(⟨.l 27,.call (kF 168) [(kI 10)],none⟩,[0]),(zm 28 4,[0,1]),(z2 29 215 27 28,[0]),(z2 30 198 26 29,[]),(zm 31 5,[0,1,2,3,4]),(z1 32 168 31,[]),(z2 33 202 30 32,[]),(zs 2 3 33,[])]) (.region [zm 34 0,zm 35 4,⟨.l 36,.slice .str 1 (.l 34) (some (.l 35)) none none,none⟩,zw 0 36])))))
def Nv:ak:=zR [⟨.p 1,.alloc 131 [.iV (0),.ab],none⟩] (zR [zm 8 0,⟨.l 9,.call (kF 212) [(.l 8),(.c (.str [45]))],none⟩,zw 2 9] (zR [zm 10 0,⟨.l 11,.call (kF 213) [(.l 10),(.c (.str [45]))],none⟩,zw 0 11] (zR [⟨.l 12,.build [.iV (0),.ab] [],none⟩,⟨.p 3,.alloc 131 [.iV (0),.ab],none⟩,zs 2 3 12] (.seq (.block 0 (.loop zj)) (.seq (zR [zm 37 2] (.cond (.l 37) (zR [zt 38 2 3,z1 39 216 38,zs 2 1 39] (.ret)) (.skip))) (zR [zt 40 2 3,zs 2 1 40] (.ret)))))))
theorem acT:FT 166=some ⟨41,[0,2,3,4,5,6],[.cell 2 true (.p 1)],Nv⟩:=by kernel_rfl
def Nw:ak:=zR [zx 1 133 4 0,⟨.p 2,.mv (.c (.bool false)),none⟩] (zR [zf 3 0 1,zT 4 2 3,z1 5 223 4,zn 6 5,zg (zf 7 2 1) 6 false,zg (zT 8 2 7) 6 false,zg (z1 9 223 8) 6 false,zP 10 6 9,zw 2 10] (.ret))
theorem acU:FT 175=some ⟨11,[0,1,2],[.var (.p 2)],Nw⟩:=by kernel_rfl
def Nx:ak:=zR [zx 1 133 4 0,⟨.p 2,.mv (.c (.str [])),none⟩] (.seq (zR [zt 3 4 1,z1 4 201 3] (.cond (.l 4) (zR [zf 5 0 1,zT 6 2 5,z1 7 224 6,zw 2 7] (.ret)) (.skip))) (.seq (.draw [(zf 8 0 1,[]),(zT 9 2 8,[]),(z1 10 224 9,[]),(⟨.l 11,.bin .add (.l 10) (.c (.str [47])),none⟩,[]),(zf 12 2 1,[0,1,2,3]),(zT 13 2 12,[0,1,2,3]),(z1 14 224 13,[3]),(zb 15 .add 11 14,[]),(zw 2 15,[])]) (.ret)))
theorem acV:FT 176=some ⟨16,[0,1,2],[.var (.p 2)],Nx⟩:=by kernel_rfl
def FB:ak:=zR [⟨.p 1,.alloc 133 [.iV (0),.ab,.iV (0),.ab],none⟩] (zR [zm 7 0,⟨.l 8,.call (kF 163) [(.l 7),(.c (.str [47]))],none⟩,zn 6 8,ze 9 0 6,ze 10 1 6,ze 11 2 6,zw 2 9,zw 3 10,zw 4 11] (.seq (zR [zm 12 4,zu 13 12] (.cond (.l 13) (zR [zm 14 2,z1 15 166 14,z1 16 159 15,zs 4 1 16] (.ret)) (.skip))) (zR [zm 17 2,z1 18 166 17,zm 19 3,z1 20 166 19,⟨.l 21,.build [.iV (0),.ab,.iV (0),.ab] [(0,2,(.l 18)),(2,2,(.l 20))],none⟩,zs 4 1 21] (.ret))))
theorem Ny:FT 103=some ⟨22,[0,2,3,4,5],[.cell 4 true (.p 1)],FB⟩:=by kernel_rfl
def FD:ak:=zR [zr 12 .lss 7 6] (.seq (.cond (.l 12) (.skip) (.exit 0)) (.seq (.block 1 (zR [zm 13 7,⟨.l 14,.dw none 1 (.p 5) (.p 7),none⟩,zd 15 1 14,zw 3 13,zw 4 15] (.region [zm 16 2,zm 17 3,zm 18 4,z1 19 103 18,za 20 4 16 17,zS 4 20 19]))) (.region [zq 21 .add 7 1,zw 7 21])))
def Nz:ak:=zR [⟨.p 1,.mv (.c (.ab)),none⟩] (zR [zm 6 0,zl 7 6,⟨.l 8,.gZ 133 4 64 [.iV (0),.ab,.iV (0),.ab] (.l 7) (.l 7),none⟩,zw 2 8] (.seq (zR [⟨.p 5,.mv (.p 0),none⟩,⟨.p 6,.len .sl (.p 5),none⟩,zi 7 0] (.block 0 (.loop FD))) (zR [zm 22 2,zw 1 22] (.ret))))
theorem acW:FT 102=some ⟨23,[0,2,3,4,5,9,10,11],[.var (.p 1)],Nz⟩:=by kernel_rfl
open Go.Ab.aU
variable {M:aw} {cap:Option Nat} {N:Nat}
abbrev jW (s:ah):List AV:=[.str s]
structure zk (M:aw)(N:Nat):Prop extends CI M N where
 NA:∀z h,(-9223372036854775808<=z/\z<9223372036854775808)->M.ext 183 [.iV z] h=some ⟨.str (bM z),h,[]⟩
 FE:∀(u:Nat) h,u<18446744073709551616->M.ext 263 [.uV u,.iV 10] h=some ⟨.str (aS u),h,[]⟩
 NB:∀(k:Nat) h,k<=64->M.ext 264 [.str [48],.iV k] h=some ⟨.str (b7 k 48),h,[]⟩
 NC:∀(l:List Int) (b:Nat) c h,okW wB l->aN l->l.length<=500000->WV wB l<1000000000000000000->h.at b=some (.cells (al [1000000000000000000]) 246)->M.ext 253 [.vs (al l) l.length none,.sl b 0 1 1 c] h=some ⟨.au [.ab,.vs (al l) l.length none],h,[]⟩
 ND:∀(l:List Int) (b:Nat) c h,okW wB l->aN l->l.length<=500000->¬WV wB l<1000000000000000000->h.at b=some (.cells (al [1000000000000000000]) 246)->∃q r,okW wB q/\aN q/\okW wB r/\aN r/\WV wB q=WV wB l/1000000000000000000/\WV wB r=WV wB l%1000000000000000000/\M.ext 253 [.vs (al l) l.length none,.sl b 0 1 1 c] h=some ⟨.au [.vs (al q) q.length none,.vs (al r) r.length none],h,[]⟩
 FF:∀ars h,M.ext 265 ars h=none
 FG:∀ars h,M.ext 266 ars h=none
 rP:∀ars h,M.ext 303 ars h=none
 qc:∀b h,M.ext 323 [.ptr b 0] h=some ⟨.ptr b 0,h,[]⟩
theorem FH {l:List Int}(ok:okW wB l)(nr:aN l)(h:WV wB l<wB):l=[]\/∃x,l=[x]/\x=WV wB l/\0<x:=by
 have h1:=gk (b:=wB) am ok nr (n:=1) bS;match l,h1 with
 | [],_=>simp
 | [x],_=>
  refine .inr ⟨x,rfl,by simp[WV],?_⟩;have h2:=(ok x be).1;have h3:=(tH (l:=[x]) be).1 nr;grind
set_option maxRecDepth 100000 in
theorem acX (C:zk M N){Q:Ex->aq->Prop}(a0 a2 a3 a10 a11:AV)(c5:Option Nat):∀(k:Nat) (l:List Int) (acc:List ah) (o:AV) (K:aa) (a7 a8 a9:AV) (lo:List (Nat×AV)) (wr:List Nat),okW wB l->aN l->l.length<=500000->WV wB l<1000000000000000000^k->acc.length+k<=10000000->bj jW 1 9 K o acc [1]->K.at 1=some (.cells (al [1000000000000000000]) 246) ->
 (∀p4 o' K' a7 a8 a9 lo wr,bj jW 1 9 K' o' (acc++jx (WV wB l).toNat) [1]->Q (.exit 0) ⟨⟨[a0,.ptr 0 0,a2,a3,p4,.sl 1 0 1 1 c5,o',a7,a8,a9,a10,a11],lo,K',[]⟩,wr⟩) ->
 W M (.loop oc) ⟨⟨[a0,.ptr 0 0,a2,a3,.vs (al l) l.length none,.sl 1 0 1 1 c5,o,a7,a8,a9,a10,a11],lo,K,[]⟩,wr⟩ Q:=by
 intro k;induction k with
 | zero=>
  intro l acc o K a7 a8 a9 lo wr ok nr hl hv hk ho hK hQ;have h0:=cB (b:=wB) am ok;rw[Int.pow_zero]at hv;have hz:WV wB l=0:=by omega
  have hln:l=[]:=by
   rcases FH ok nr bS with h|⟨x,_,h1,h2⟩
   . exact h
   . omega
  subst hln;have e0:(WV wB ([]:List Int)).toNat=0:=rfl;rw[e0,rQ,ce]at hQ;have hl0:([]:List Int).length=0:=rfl;refine W.loop ?_;unfold oc;exact gg1
 | succ k ih=>
  intro l acc o K a7 a8 a9 lo wr ok nr hl hv hk ho hK hQ;have h0:=cB (b:=wB) am ok;obtain⟨v,hvv⟩:∃v:Nat,WV wB l=(v:Int):=⟨(WV wB l).toNat,ac⟩;have et:(WV wB l).toNat=v:=by omega
  rw[et]at hQ;have hroom:(acc.length+1)*16<=cz:=by unfold cz;omega
  have hK1:=cJ hK;refine W.loop ?_;by_cases h1:WV wB l<1000000000000000000
  . rcases FH ok nr bS with rfl|⟨x,rfl,hx,hx0⟩
    . have hv0:v=0:=by simp[WV]at hvv;omega
      subst hv0;rw[rQ,ce]at hQ;have hl0:([]:List Int).length=0:=rfl;unfold oc;exact gg1
    . have q253:=C.NC [x] 1 c5 K ok nr hl h1 hK;have hxv:x=(v:Int):=by omega
      have q263:=fun h=>C.FE v h ac
      rw[←hxv]at q263;have el:(([x]:List Int)[(0:Int).toNat]!)=x:=rfl;rw[ur ac ac]at hQ;have hl1:([x]:List Int).length=1:=rfl;unfold oc;repeat' first|(refine bj.app (f:=jW) (m:=[aS v]) (S:=[1]) (fun _=>rfl) (fun _=>rfl) am (ho.grow [_]) (by simp;omega) rfl rfl (Sl.gN (f:=jW) (esz:=1) (l:=[aS v]) (e:=9) (fun _=>rfl) cC rfl) hroom (fun H w' o' ho' hk hlen=>?_))|(apply aev;rfl;rfl)|(apply acq;rfl;rfl;first|exact q253|exact q263 _)|refine gc ?_|(intro _;omega)|intro _
      all_goals try omega
      refine iO (W.loop ?_);exact gg1
  . obtain⟨q,r,okq,nrq,okr,nrr,vq,vr,q253⟩:=C.ND l 1 c5 K ok nr hl h1 hK;have hq0:0<WV wB q:=by rw[vq];omega
    have hqne:0<q.length:=c7.2 (fun e=>by rw[e]at hq0;simp[WV]at hq0);have hlne:0<l.length:=c7.2 (fun e=>by rw[e]at h1;exact h1 (by simp[WV]));have hql:q.length<=500000:=by
     refine f9 (gk (b:=wB) am okq nrq (n:=l.length) ?_) hl;have:=dg (b:=wB) am ok;rw[vq];omega
    have hqv:WV wB q<1000000000000000000^k:=by
     rw[vq];rw[k9]at hv;exact ac
    obtain⟨R,hR⟩:∃R:Nat,WV wB r=(R:Int):=⟨(WV wB r).toNat,ac⟩;have hRv:R=v%1000000000000000000:=by omega
    have hqn:(WV wB q).toNat=v/1000000000000000000:=by omega
    rw[uu ac,←hRv,←hqn]at hQ;have hpad:=Nr (k:=17) (n:=R) ac;have hdl:(aS R).length<=18:=pU (k:=18) ac am;have hdl0:0<(aS R).length:=c7.2 (rO R);have q264:=fun h=>C.NB (18-(aS R).length) h ac
    have tB:((18-(aS R).length:Nat):Int)=18-((aS R).length:Int):=by omega
    rw[tB]at q264;have hrl:(b7 (18-(aS R).length) (48:UInt8)).length=18-(aS R).length:=by simp
    rw[show 17+1-(aS R).length=18-(aS R).length by omega]at hpad;rw[show 17+1=18 by rfl]at hpad;obtain⟨zs,hzs⟩:∃zs,zs=b7 (18-(aS R).length) (48:UInt8):=⟨_,rfl⟩;rw[←hzs]at hpad q264 hrl;rw[hpad]at hQ;have fin:∀H w' o' a7 a8 a9 lo,bj jW 1 9 H o' (acc++[zs++aS R]) [1]->H.at 1=some (.cells (al [1000000000000000000]) 246)->LQ M oc Q .normal ⟨⟨[a0,.ptr 0 0,a2,a3,.vs (al q) q.length none,.sl 1 0 1 1 c5,o',a7,a8,a9,a10,a11],lo,H,[]⟩,w'⟩:=fun H w' o' a7 a8 a9 lo ho' hH=>
     iO (ih q _ _ _ _ _ _ _ _ okq nrq hql hqv bS ho' hH bS)
    rcases FH okr nrr bS with rfl|⟨x,rfl,hx,hx0⟩
    . have hR0:R=0:=by simp[WV]at hR;omega
      subst hR0;have hd0:aS 0=[48]:=iX am;rw[hd0]at fin hrl hdl q264 hdl0;have hr0:([]:List Int).length=0:=rfl;have h48:([48]:ah).length=1:=rfl;unfold oc;exact gg7
    . have hxv:x=(R:Int):=by omega
      have q263:=fun h=>C.FE R h ac
      rw[←hxv]at q263;have el:(([x]:List Int)[(0:Int).toNat]!)=x:=rfl;have hl1:([x]:List Int).length=1:=rfl;unfold oc;exact gg12
def ki (l:List ah)(i:Nat):ah:=(l.drop i).reverse.flatten
theorem acY {l:List ah}:ki l 0=l.reverse.flatten:=rfl
theorem NF {l:List ah}:ki l l.length=[]:=by rw[ki,l9];rfl
theorem acZ {l:List ah}{i:Nat}(h:i<l.length):ki l i=ki l (i+1)++l[i]! := by
 rw[ki,ki,i5 h,kJ,j2,getElem!_pos l i h];simp
theorem fJ.ctx {g:Nat}{ars:List AV}{h:aa}{P:HR->Prop}(hn:M.ext g ars h=none)(hr:fJ M g ars h P):∃v H wr,P ⟨v,H,wr⟩/\CT M (iY g) ars h ⟨v,H,wr⟩:=by
 obtain⟨⟨⟨v,H,wr⟩,h1,h2⟩⟩:=hr;exact⟨v,H,wr,h2,CT.run (fi:=[]) (ca:=[]) bS (by simpa using h1)⟩
set_option maxRecDepth 100000 in
theorem NG (C:zk M N){Q:Ex->aq->Prop}(parts:List ah)(hp0:∀x∈parts,x≠[])(hp18:∀x∈parts,x.length<=18)(hlen:parts.length<20000000)(c B:Nat)(hcB:c<B)(pre:ah)(hpre:pre.length<=1)(a0 a1 a2 a3 a4 a5 a7 a8 a9:AV)
 (hQ:∀K lo wr,pZ (B+1) K B (pre++parts.reverse.flatten)->B+1<=K.length->Q (.exit 2) ⟨⟨[a0,a1,a2,a3,a4,a5,.sl c 0 parts.length 1 none,a7,a8,a9,.ptr B 0,.iV (-1)],lo,K,[]⟩,wr⟩) :
 ∀(i:Nat) (K:aa) (lo:List (Nat×AV)) (wr:List Nat),i<=parts.length->K.at c=some (.cells (arr jW parts) 9)->pZ (B+1) K B (pre++ki parts i)->B+1<=K.length ->
 W M (.loop zh) ⟨⟨[a0,a1,a2,a3,a4,a5,.sl c 0 parts.length 1 none,a7,a8,a9,.ptr B 0,.iV ((i:Int)-1)],lo,K,[]⟩,wr⟩ Q:=by
 have tl:∀i,(ki parts i).length<=18*parts.length:=fun i=>by
  rw[ki,List.length_flatten];have:∀l:List ah,(∀x∈l,x.length<=18)->(l.map mU).sum<=18*l.length:=by
   intro l;induction l with
   | nil=>simp
   | cons x l ih=>
    grind
  grind
 intro i;induction i with
 | zero=>
  intro K lo wr hi hc hB hK;rw[acY]at hB;refine W.loop ?_;unfold zh;exact gg0
 | succ i ih=>
  intro K lo wr hi hc hB hK;have CL:i<parts.length:=by omega
  have e0:(((i+1:Nat):Int)-1)=(i:Int):=by omega
  rw[e0];have hx0:=hp0 parts[i]! bS;have hx18:=hp18 parts[i]! bS;have hal:(pre++ki parts (i+1)).length<900000000:=by
   have:=tl (i+1);rw[b8];omega
  obtain⟨v,H,wr',⟨hv,hB',hk,hw,_⟩,q265⟩:=fJ.ctx (C.FF _ _) (Np C.ft C.rP C.qc (B+1) B K (pre++ki parts (i+1)) parts[i]! ⟨ac,hK⟩ hx0 ac hB);simp only at hv hB' hk hw;subst hv;have hc':H.at c=some (.cells (arr jW parts) 9):=(Nn (hk.at' c ac ac)).trans hc;have hH:=hk.len;rw[f8,←acZ CL]at hB';rw[show parts[i]! = parts[((i:Int)).toNat]! from rfl]at q265;refine W.loop ?_;unfold zh;exact gg17
theorem od {z:Int}(h:z<0):bM z=45::aS (aj z).toNat:=by
 rw[bM,if_pos h];unfold aj;grind
theorem lW {z:Int}(h:¬z<0):bM z=aS (aj z).toNat:=by
 rw[bM,if_neg h];unfold aj;grind
set_option maxRecDepth 100000 in
theorem ada (C:zk M N){v:AV}{z:Int}(hv:ax v z)(lz:aj z<wB^N):aV M 224 [v] [] ⟨.str (bM z),[],[]⟩:=by
 cases hv with
 | small h=>
  have q183:=fun hh=>C.NA z hh h
  refine bH (by rw[C.ft];exact Nt) be ?_;unfold FA;simp only[enter];exact gg0
 | @fo σ z w hs ok nr hw hz=>
  have hv:ax (.agg [.iV σ,.vs (al w) w.length none]) z:=.fo hs ok nr hw hz;obtain⟨x,l,hx,ol,nl,hl,q246⟩:=C.lO _ z hv;have len:=C.len ol nl hl lz;have habs:aj z≠0:=by
   unfold aj;split <;> rcases hs with rfl|rfl <;> omega
  have hl0:l≠[]:=fun e=>by rw[e]at hl;exact habs (by simpa[WV] using hl.symm)
  have hxl:x = .vs (al l) l.length none:=by
   rcases hx with h|⟨_,h⟩
   . exact h
   . grind
  subst hxl;have hn0:(aj z).toNat≠0:=by have:=ju (x:=z);omega
  have hcat:=acP hn0;have hlt:WV wB l<1000000000000000000^(2*N):=by
   rw[hl,Int.pow_mul];refine j8 lz ?_;have:∀n:Nat,wB^n<=((1000000000000000000:Int)^2)^n:=by
    intro n;induction n with
    | zero=>decide
    | succ n ih=>
     grind
   exact this N
  have hlN:=C.lN;cases w with
  | nil=>simp[WV]at hw
  | cons y w=>
  have pne:=acQ (n:=(aj z).toNat);have p18:=acR (n:=(aj z).toNat);obtain⟨parts,hparts⟩:∃parts,parts=jx (aj z).toNat:=⟨_,rfl⟩;rw[←hparts]at hcat pne p18;have hltN:(aj z).toNat<1000000000000000000^(2*N):=by
   have h1:=hlt;rw[hl,←j3 (ju (x:=z))]at h1;obtain⟨n,hn⟩:∃n,n=(aj z).toNat:=⟨_,rfl⟩;obtain⟨m,hm⟩:∃m,m=2*N:=⟨_,rfl⟩;rw[←hn,←hm]at h1 ⊢;have h2:(1000000000000000000:Int)^m=((1000000000000000000^m:Nat):Int):=(by rfl);rw[h2]at h1;exact ac
  have jH:parts.length<20000000:=by
   have:=Ns (n:=(aj z).toNat) (k:=2*N) hltN;rw[←hparts]at this;omega
  have dlen:(aS (aj z).toNat).length<500000000:=by
   have:=pU (n:=(aj z).toNat) (k:=18*(2*N)+1) (by
    have h2:=hltN;rw[show (1000000000000000000:Nat)=10^18 by rfl,←Nat.pow_mul]at h2;omega) ac
   omega
  have hpne:parts≠[]:=fun e=>by rw[e]at hcat;exact rO _ hcat.symm
  have lp:=fun (Q:Ex->aq->Prop) a0 a2 a3 a10 a11 c5 K hK a7 a8 a9 lo wr hQ=>acX C (Q:=Q) a0 a2 a3 a10 a11 c5 (2*N) l [] .ab K a7 a8 a9 lo wr ol nl len hlt bS .jL hK hQ
  rw[hl,←hparts]at lp;refine bH (by rw[C.ft];exact Nt) be ?_;unfold FA;simp only[enter];by_cases hn:z<0
  . rw[decide_eq_true hn]at q246;rw[od hn];repeat' first|refine gd0 ?_|refine gc ?_|fail
    all_goals try omega
    refine lp _ _ _ _ _ _ _ _ rfl _ _ _ _ _ (fun p4 o K a7 a8 a9 lo wr ho=>?_);rw[b6]at ho;rcases ho with ⟨h1,_⟩|⟨c,cp,hc1,rfl,hc,hcap⟩
    . grind
    obtain rfl:cp=none:=bS;have hcl:=cJ hc;have hB0:pZ (K.length+1) (K++[some (.cells [.dG,.ab] 269)]) K.length []:=.inl ⟨rfl,cC⟩;obtain⟨v,H,wr',⟨hv',hB',hk,hw',_⟩,q265⟩:=fJ.ctx (C.FF _ _) (Np C.ft C.rP C.qc (K.length+1) K.length _ [] [45] ⟨ac,be⟩ am am hB0);simp only at hv' hB' hk hw';subst hv';have hc':H.at c=some (.cells (arr jW parts) 9):=(Nn (hk.at' c ac ac)).trans (cE hc);have hH:=hk.len;simp only[b8,ci,fG]at hH;repeat' first|(apply afJ;rfl;rfl;first|exact q265)|refine gc ?_|fail
    refine NG C parts pne p18 jH c K.length hcl [45] am _ _ _ _ _ _ _ _ _ (fun K2 lo wr hB2 hK2=>?_) parts.length H _ _ (d6 _) hc' (by rw[NF];exact hB') ac;rw[hcat]at hB2;obtain⟨v2,H2,wr2,⟨hv2,_⟩,q266⟩:=fJ.ctx (C.FG _ _) (Nq C.ft (K.length+1) K.length K2 _ hB2 be bS ⟨ac,hK2⟩);simp only at hv2;subst hv2;exact gg16
  . rw[decide_eq_false hn]at q246;rw[lW hn];repeat' first|refine gd0 ?_|refine gc ?_|fail
    all_goals try omega
    refine lp _ _ _ _ _ _ _ _ rfl _ _ _ _ _ (fun p4 o K a7 a8 a9 lo wr ho=>?_);rw[b6]at ho;rcases ho with ⟨h1,_⟩|⟨c,cp,hc1,rfl,hc,hcap⟩
    . grind
    obtain rfl:cp=none:=bS;have hcl:=cJ hc;have hB0:pZ (K.length+1) (K++[some (.cells [.dG,.ab] 269)]) K.length []:=.inl ⟨rfl,cC⟩;repeat' first|refine gc ?_|fail
    refine NG C parts pne p18 jH c K.length hcl [] am _ _ _ _ _ _ _ _ _ (fun K2 lo wr hB2 hK2=>?_) parts.length _ _ _ (d6 _) (cE hc) (by rw[NF];exact hB0) be;rw[hcat]at hB2;obtain⟨v2,H2,wr2,⟨hv2,_⟩,q266⟩:=fJ.ctx (C.FG _ _) (Nq C.ft (K.length+1) K.length K2 _ hB2 (by simp[rO]) bS ⟨ac,hK2⟩);simp only at hv2;subst hv2;exact gg16
variable {N2:Nat}
def ao (q:Rat):ah:=if q.den=1 then bM q.num else bM q.num++47::aS q.den
theorem adb (n:Nat):bM (n:Int)=aS n:=by
 rw[bM,if_neg ac];rfl
theorem ade (hft:M.FT=FT){v:AV}{q:Rat}(hv:br v q)(hb:(bM q.num).length<1000000000/\(aS q.den).length<1000000000)(nW:∀h,M.ext 201 [v] h=some ⟨.bool (decide (q.den=1)),h,[]⟩)(ca:∀v h,ax v q.num->M.ext 224 [v] h=some ⟨.str (bM q.num),h,[]⟩)(cb:∀v h,ax v q.den->M.ext 224 [v] h=some ⟨.str (aS q.den),h,[]⟩):aV M 176 [v] [] ⟨.str (ao q),[],[]⟩:=by
 obtain⟨s1,w1,s2,w2,rfl,h1,h2⟩:=hv;have qa:=fun h=>ca _ h h1
 have qb:=fun h=>cb _ h h2
 have h47:([47]:ah).length=1:=rfl;refine bH (by rw[hft];exact acV) be ?_;unfold Nx;simp only[enter];by_cases hd:q.den=1
 . rw[decide_eq_true hd]at nW;rw[ao,if_pos hd];repeat' first|(apply acq;rfl;rfl;first|exact qa _|exact qb _)|apply afc|apply cV|apply afl|apply afm|apply agR|apply ku|(apply afH;rfl)|(apply acq;rfl;rfl;first|exact nW _|exact qa _)|(apply afC;rfl;rfl;rfl)|(apply aiq;rfl;rfl;rfl)|(apply abL;rfl;rfl)|(apply afx;rfl;rfl)
   all_goals exact⟨.inr rfl,rfl,_,rfl,rfl,rfl⟩
 . rw[decide_eq_false hd]at nW;rw[ao,if_neg hd];obtain⟨x,hx⟩:∃x,x=bM q.num:=⟨_,rfl⟩;obtain⟨y,hy⟩:∃y,y=aS q.den:=⟨_,rfl⟩;rw[←hx]at qa hb ⊢;rw[←hy]at qb hb ⊢;have hxl:(x++[47]:ah).length=x.length+1:=by simp
   repeat' first|(apply ajU;rfl;rfl;(first|(simp only[nca];rfl)|rfl);first|exact qa _|exact qb _)|apply afc|apply cV|apply afl|apply afm|apply agR|apply agH|apply ajJ|apply ajN|(apply ajP;rfl)|(apply akp;rfl;rfl;(first|(simp only[nca];rfl)|rfl))|(apply ahB;rfl)|(apply amt;rfl;rfl;first|omega|(simp only[b8,ci,fG];omega)|(simp;omega))|(apply acq;rfl;rfl;first|exact nW _)|(apply afC;rfl;rfl;rfl)|(apply aiq;rfl;rfl;rfl)|(apply abL;rfl;rfl)|(apply afx;rfl;rfl)
   all_goals exact⟨.inr rfl,rfl,_,rfl,by simp[aW],rfl⟩
def zo:List AV:=b7 256 (.bool false)
def NH:ak:=zR [⟨.p 2,.mv (.c (.bool false)),none⟩] (zR [zm 5 0,zm 6 1,z2 7 255 5 6,zw 2 7] (.ret))
theorem adf:FT 212=some ⟨8,[0,1,4],[.var (.p 2)],NH⟩:=by kernel_rfl
def FI:ak:=zR [⟨.p 2,.mv (.c (.bool false)),none⟩] (zR [zm 5 0,zL 6 5,zm 7 1,zL 8 7,zb 9 .geq 6 8,zn 10 9,zg (zm 11 0) 10 true,zg (zm 12 1) 10 true,zg (zL 13 12) 10 true,⟨.l 14,.slice .str 1 (.l 11) none (some (.l 13)) none,some ((.l 10),true)⟩,zg (zm 15 1) 10 true,zg (zb 16 .eql 14 15) 10 true,zp 17 10 16,zw 2 17] (.ret))
theorem adg:FT 255=some ⟨18,[0,1,4],[.var (.p 2)],FI⟩:=by kernel_rfl
def NI:ak:=zR [⟨.p 2,.mv (.c (.str [])),none⟩] (zR [zm 5 0,zm 6 1,z2 7 258 5 6,zw 2 7] (.ret))
theorem adh:FT 213=some ⟨8,[0,1,4],[.var (.p 2)],NI⟩:=by kernel_rfl
def NJ:ak:=zR [⟨.p 2,.mv (.c (.str [])),none⟩] (.seq (zR [zm 5 0,zm 6 1,z2 7 255 5 6] (.cond (.l 7) (zR [zm 8 0,zm 9 1,zL 10 9,⟨.l 11,.slice .str 1 (.l 8) (some (.l 10)) none none,none⟩,zw 2 11] (.ret)) (.skip))) (zR [zm 12 0,zw 2 12] (.ret)))
theorem adi:FT 258=some ⟨13,[0,1,4],[.var (.p 2)],NJ⟩:=by kernel_rfl
def NK:ak:=zR [zi 1 0,⟨.p 2,.mv (.c (.dh)),none⟩] (zR [zm 7 0,z1 8 259 7,zn 6 8,ze 9 0 6,ze 10 1 6,zw 3 9,zw 4 10] (.seq (zR [zm 11 4,⟨.l 12,.eq true (.iface false) (.l 11) (.c (.dh)),none⟩] (.cond (.l 12) (zR [zm 13 3,zm 14 0,zm 15 4,⟨.l 16,.call (kF 260) [(.c (.str zD8)),(.l 14),(kI 0),(kI 0),(.l 15)],none⟩,zw 1 13,zw 2 16] (.ret)) (.skip))) (zR [zm 17 3,zw 1 17,⟨.p 2,.mv (.c (.dh)),none⟩] (.ret))))
theorem adj:FT 214=some ⟨18,[0,2,3,4,5],[.var (.p 1),.var (.p 2)],NK⟩:=by kernel_rfl
def zy:ak:=zR [zr 50 .lss 11 10] (.seq (.cond (.l 50) (.skip) (.exit 0)) (.seq (.block 1 (zR [⟨.l 51,.dw none 1 (.p 9) (.p 11),none⟩,zd 52 1 51,zw 6 52] (zR [zm 53 6,⟨.l 54,.bin .sub (.l 53) (.c (.int .u8 (48))),none⟩,zw 6 54] (.seq (zR [zm 55 6,⟨.l 56,.bin .gtr (.l 55) (.c (.int .u8 (9))),none⟩] (.cond (.l 56) (zR [⟨.l 57,.lh 291 (kI 2),none⟩,zi 1 0,zw 2 57] (.ret)) (.skip))) (.region [zm 58 5,zc 59 .mul 58 10,zm 60 6,⟨.l 61,.dM .i64 (.l 60),none⟩,zb 62 .add 59 61,zw 5 62]))))) (.region [zq 63 .add 11 1,zw 11 63])))
def NL:ak:=zR [zi 1 0,⟨.p 2,.mv (.c (.dh)),none⟩] (zR [zm 11 0,zL 12 11,zw 3 12] (.seq (zR [⟨.l 13,.mv (.c (.bool false)),none⟩,zg (zm 14 3) 13 true,⟨.l 15,.bin .lss (kI 0) (.l 14),some ((.l 13),true)⟩,zg (zn 16 15) 13 true,zg (zm 17 3) 16 true,zg (zc 18 .lss 17 10) 16 true,zg (zp 19 16 18) 13 true,zp 20 13 19,zn 21 20,⟨.l 22,.mv (.c (.bool true)),some ((.l 21),false)⟩,zg (zm 23 3) 22 true,⟨.l 24,.bin .lss (kI 0) (.l 23),some ((.l 22),true)⟩,zg (zn 25 24) 22 true,zg (zm 26 3) 25 true,zg (zc 27 .lss 26 19) 25 true,zg (zp 28 25 27) 22 true,zg (zp 29 22 28) 21 false,zP 30 21 29] (.cond (.l 30) (zR [zm 31 0,zw 4 31] (.seq (zR [zm 32 0,⟨.l 33,.index (.l 32) (kI 0),none⟩,⟨.l 34,.bin .eql (.l 33) (.c (.int .u8 (45))),none⟩,zn 35 34,zg (zm 36 0) 35 false,⟨.l 37,.index (.l 36) (kI 0),some ((.l 35),false)⟩,⟨.l 38,.bin .eql (.l 37) (.c (.int .u8 (43))),some ((.l 35),false)⟩,zP 39 35 38] (.cond (.l 39) (zR [zm 40 0,⟨.l 41,.slice .str 1 (.l 40) (some (kI 1)) none none,none⟩,zw 0 41] (zR [zm 42 0,zL 43 42,zc 44 .lss 43 1] (.cond (.l 44) (zR [⟨.l 45,.lh 291 (kI 2),none⟩,zi 1 0,zw 2 45] (.ret)) (.skip)))) (.skip))) (zR [zi 5 0] (.seq (zR [zm 46 0,⟨.p 9,.qA 5 (.l 46),none⟩,⟨.p 10,.len .sl (.p 9),none⟩,zi 11 0] (.block 0 (.loop zy))) (.seq (zR [zm 64 4,⟨.l 65,.index (.l 64) (kI 0),none⟩,⟨.l 66,.bin .eql (.l 65) (.c (.int .u8 (45))),none⟩] (.cond (.l 66) (.region [zm 67 5,⟨.l 68,.un .neg (.l 67),none⟩,zw 5 68]) (.skip))) (zR [zm 69 5,zw 1 69,⟨.p 2,.mv (.c (.dh)),none⟩] (.ret))))))) (.skip))) (zR [zm 71 0,⟨.l 72,.call (kF 293) [(.l 71),(kI 10),(kI 0)],none⟩,zn 70 72,ze 73 0 70,ze 74 1 70,zw 7 73,zw 8 74] (zR [zm 75 7,zm 76 8,zw 1 75,zw 2 76] (.ret)))))
theorem adk:FT 259=some ⟨77,[0,2,3,4,5,6,8,9,10,47,48,49],[.var (.p 1),.var (.p 2)],NL⟩:=by kernel_rfl
def NM:ak:=zR [⟨.p 2,.mv (.c (.str [])),none⟩,⟨.p 3,.mv (.c (.str [])),none⟩,⟨.p 4,.mv (.c (.bool false)),none⟩] (zR [zm 7 0,zm 8 1,z2 9 208 7 8,ze 10 0 9,ze 11 1 9,ze 12 2 9,zw 2 10,zw 3 11,zw 4 12] (.ret))
theorem adl:FT 163=some ⟨13,[0,1,4,5,6],[.var (.p 2),.var (.p 3),.var (.p 4)],NM⟩:=by kernel_rfl
def FJ:ak:=zR [⟨.p 2,.mv (.c (.str [])),none⟩,⟨.p 3,.mv (.c (.str [])),none⟩,⟨.p 4,.mv (.c (.bool false)),none⟩] (.seq (zR [zm 8 0,zm 9 1,z2 10 256 8 9,zw 5 10] (zR [zm 11 5,zc 12 .geq 11 0] (.cond (.l 12) (.seq (.draw [(zm 13 0,[]),(zm 14 5,[0]),(⟨.l 15,.slice .str 1 (.l 13) none (some (.l 14)) none,none⟩,[]),(zm 16 0,[0,1,2]),(zm 17 5,[0,1,2,3]),(zm 18 1,[0,1,2,3,4]),(zL 19 18,[0,1,2,3,4]),(zb 20 .add 17 19,[0,1,2,3]),(⟨.l 21,.slice .str 1 (.l 16) (some (.l 20)) none none,none⟩,[0,1,2]),(zw 2 15,[3,4,5,6,7,8]),(zw 3 21,[]),(⟨.p 4,.mv (.c (.bool true)),none⟩,[])]) (.ret)) (.skip)))) (zR [zm 22 0,zw 2 22,⟨.p 3,.mv (.c (.str [])),none⟩,⟨.p 4,.mv (.c (.bool false)),none⟩] (.ret)))
theorem adm:FT 208=some ⟨23,[0,1,4,5,6,7],[.var (.p 2),.var (.p 3),.var (.p 4)],FJ⟩:=by kernel_rfl
def adn:ak:=.seq (zR [zm 57 6,zm 58 7,zb 59 .lss 57 58] (.cond (.l 59) (.skip) (.exit 1))) (.block 2 (.seq (zR [zm 60 0,zm 61 6,⟨.l 62,.index (.l 60) (.l 61),none⟩,zm 63 4,zb 64 .neq 62 63] (.cond (.l 64) (zR [zm 65 0,zm 66 6,zc 67 .add 66 1,zm 68 7,⟨.l 69,.slice .str 1 (.l 65) (some (.l 67)) (some (.l 68)) none,none⟩,zm 70 4,z2 71 282 69 70,zw 9 71] (.seq (zR [zm 72 9,zc 73 .lss 72 0] (.cond (.l 73) (zR [zi 2 (-1)] (.ret)) (.skip))) (.region [zm 74 6,zm 75 9,zc 76 .add 75 1,zb 77 .add 74 76,zw 6 77]))) (.skip))) (.seq (zR [zm 78 0,zm 79 6,zc 80 .add 79 1,⟨.l 81,.index (.l 78) (.l 80),none⟩,zm 82 5,zb 83 .eql 81 82,zn 84 83,zg (zm 85 0) 84 true,zg (zm 86 6) 84 true,zg (zm 87 6) 84 true,zg (zm 88 3) 84 true,zg (zb 89 .add 87 88) 84 true,⟨.l 90,.slice .str 1 (.l 85) (some (.l 86)) (some (.l 89)) none,some ((.l 84),true)⟩,zg (zm 91 1) 84 true,zg (zb 92 .eql 90 91) 84 true,zp 93 84 92] (.cond (.l 93) (zR [zm 94 6,zw 2 94] (.ret)) (.skip))) (zR [zm 95 6,zc 96 .add 95 1,zw 6 96] (zR [zm 97 8,zc 98 .add 97 1,zw 8 98] (.seq (.bad) (.cond (.l 107) (zR [zm 108 0,zm 109 6,⟨.l 110,.slice .str 1 (.l 108) (some (.l 109)) none none,none⟩,zm 111 1,z2 112 283 110 111,zw 10 112] (.seq (zR [zm 113 10,zc 114 .geq 113 0] (.cond (.l 114) (zR [zm 115 10,zm 116 6,zb 117 .add 115 116,zw 2 117] (.ret)) (.skip))) (zR [zi 2 (-1)] (.ret)))) (.seq (.bad) (.cond (.l 132) (zR [zm 133 0,zm 134 6,⟨.l 135,.slice .str 1 (.l 133) (some (.l 134)) none none,none⟩,zm 136 1,z2 137 285 135 136,zw 11 137] (.seq (zR [zm 138 11,zc 139 .lss 138 0] (.cond (.l 139) (zR [zi 2 (-1)] (.ret)) (.skip))) (zR [zm 140 6,zm 141 11,zb 142 .add 140 141,zw 2 142] (.ret)))) (.skip))))))))))
def NN:ak:=zR [zi 2 0] (zR [zm 14 1,zL 15 14,zw 3 15] (.seq (.block 0 (zR [zm 17 3,zc 18 .eql 17 0,zn 19 18,zg (zm 20 1) 19 false,zg (zm 21 0) 19 false,zg (zb 22 .eql 20 21) 19 false,zP 23 19 22,zn 16 23] (.cond (.l 16) (zR [zi 2 0] (.ret)) (zR [zm 25 3,zc 26 .eql 25 1,zn 24 26] (.cond (.l 24) (zR [zm 27 0,zm 28 1,⟨.l 29,.index (.l 28) (kI 0),none⟩,z2 30 282 27 29,zw 2 30] (.ret)) (zR [zm 32 3,zm 33 0,zL 34 33,zb 35 .geq 32 34,zn 31 35] (.cond (.l 31) (zR [zi 2 (-1)] (.ret)) (.seq (.bad) (.cond (.l 36) (zR [zm 45 0,zm 46 1,z2 47 283 45 46,zw 2 47] (.ret)) (.skip)))))))))) (zR [zm 48 1,⟨.l 49,.index (.l 48) (kI 0),none⟩,zw 4 49] (zR [zm 50 1,⟨.l 51,.index (.l 50) (kI 1),none⟩,zw 5 51] (zR [zi 6 0] (zR [zm 52 0,zL 53 52,zm 54 3,zb 55 .sub 53 54,zc 56 .add 55 1,zw 7 56] (zR [zi 8 0] (.seq (.block 1 (.loop adn)) (zR [zi 2 (-1)] (.ret))))))))))
theorem ado:FT 256=some ⟨143,[0,1,4,5,6,7,8,9,10,11,12,13],[.var (.p 2)],NN⟩:=by kernel_rfl
def NO:ak:=zR [zi 2 0] (zR [zm 5 0,zm 6 1,z2 7 312 5 6,zw 2 7] (.ret))
theorem adp:FT 282=some ⟨8,[0,1,4],[.var (.p 2)],NO⟩:=by kernel_rfl
def NP:ak:=zR [⟨.p 2,.mv (.c (.str [])),none⟩,⟨.p 3,.mv (.c (.bool false)),none⟩] (zR [zm 6 0,zm 7 1,z2 8 207 6 7,ze 9 0 8,ze 10 1 8,zw 2 9,zw 3 10] (.ret))
theorem adq:FT 162=some ⟨11,[0,1,4,5],[.var (.p 2),.var (.p 3)],NP⟩:=by kernel_rfl
def NQ:ak:=zR [⟨.p 2,.mv (.c (.str [])),none⟩,⟨.p 3,.mv (.c (.bool false)),none⟩] (.seq (zR [zm 6 0,zm 7 1,z2 8 255 6 7,zu 9 8] (.cond (.l 9) (zR [zm 10 0,zw 2 10,⟨.p 3,.mv (.c (.bool false)),none⟩] (.ret)) (.skip))) (zR [zm 11 0,zm 12 1,zL 13 12,⟨.l 14,.slice .str 1 (.l 11) (some (.l 13)) none none,none⟩,zw 2 14,⟨.p 3,.mv (.c (.bool true)),none⟩] (.ret)))
theorem adr:FT 207=some ⟨15,[0,1,4,5],[.var (.p 2),.var (.p 3)],NQ⟩:=by kernel_rfl
def NR:ak:=zR [⟨.p 1,.mv (.c (.bool false)),none⟩] (zR [zm 3 0,⟨.l 4,.bin .neq (.l 3) (.c (.str [])),none⟩,zn 5 4,zg (zm 6 0) 5 true,⟨.l 7,.call (kF 257) [(.l 6),(.c (.str zD9))],some ((.l 5),true)⟩,⟨.l 8,.bin .eql (.l 7) (.c (.str [])),some ((.l 5),true)⟩,zp 9 5 8,zw 1 9] (.ret))
theorem ads:FT 209=some ⟨10,[0,2],[.var (.p 1)],NR⟩:=by kernel_rfl
def NS:ak:=zR [⟨.p 2,.mv (.c (.str [])),none⟩] (.seq (zR [zm 7 0,⟨.l 8,.bin .eql (.l 7) (.c (.str [])),none⟩,zn 9 8,zg (zm 10 1) 9 false,⟨.l 11,.bin .eql (.l 10) (.c (.str [])),some ((.l 9),false)⟩,zP 12 9 11] (.cond (.l 12) (zR [zm 13 0,zw 2 13] (.ret)) (.skip))) (.seq (zR [zm 14 1,zL 15 14,zc 16 .eql 15 1,zn 17 16,zg (zm 18 1) 17 true,⟨.l 19,.index (.l 18) (kI 0),some ((.l 17),true)⟩,⟨.l 20,.bin .lss (.l 19) (.c (.int .u8 (128))),some ((.l 17),true)⟩,zp 21 17 20] (.cond (.l 21) (.seq (.draw [(zm 22 0,[]),(zm 23 1,[0]),(⟨.l 24,.index (.l 23) (kI 0),none⟩,[0]),(z2 25 287 22 24,[]),(zm 26 1,[0,1,2,3]),(⟨.l 27,.index (.l 26) (kI 0),none⟩,[0,1,2,3]),(z2 28 286 25 27,[]),(zw 2 28,[])]) (.ret)) (.skip))) (.seq (zR [zm 30 1,z1 31 288 30,zn 29 31,ze 32 0 29,ze 33 1 29,⟨.p 3,.alloc 286 zo,none⟩,zs 256 3 32,zw 4 33] (zR [zm 34 4] (.cond (.l 34) (zR [zm 35 0,⟨.l 36,.call (kF 290) [(.l 35),(.p 3)],none⟩,⟨.l 37,.call (kF 289) [(.l 36),(.p 3)],none⟩,zw 2 37] (.ret)) (.skip)))) (zR [zm 38 0,zm 39 1,z2 40 292 38 39,zm 41 1,z2 42 291 40 41,zw 2 42] (.ret)))))
theorem adt:FT 257=some ⟨43,[0,1,4,5,6],[.var (.p 2)],NS⟩:=by kernel_rfl
def adu:ak:=.seq (zR [zm 6 3,zm 7 0,zL 8 7,zb 9 .lss 6 8] (.cond (.l 9) (.skip) (.exit 0))) (.seq (.block 1 (zR [zm 12 0,zm 13 3,⟨.l 14,.index (.l 12) (.l 13),none⟩,zw 4 14] (.seq (zR [zm 15 4,⟨.l 16,.bin .geq (.l 15) (.c (.int .u8 (128))),none⟩] (.cond (.l 16) (zR [zt 17 256 1,zs 256 1 17,⟨.p 2,.mv (.c (.bool false)),none⟩] (.ret)) (.skip))) (.region [zm 18 4,⟨.l 19,.dw (some 256) 1 (.p 1) (.l 18),none⟩,⟨.no,.store 1 (.l 19) (.c (.bool true)),none⟩])))) (.region [zm 10 3,zc 11 .add 10 1,zw 3 11]))
def FK:ak:=zR [⟨.p 1,.alloc 286 zo,none⟩,⟨.p 2,.mv (.c (.bool false)),none⟩] (.seq (zR [zi 3 0] (.block 0 (.loop adu))) (zR [zt 20 256 1,zs 256 1 20,⟨.p 2,.mv (.c (.bool true)),none⟩] (.ret)))
theorem adv:FT 288=some ⟨21,[0,2,3,4,5],[.cell 256 true (.p 1),.var (.p 2)],FK⟩:=by kernel_rfl
def uv:ak:=.seq (zR [zm 5 0,zL 6 5,zc 7 .gtr 6 0] (.cond (.l 7) (.skip) (.exit 0))) (.block 1 (.seq (zR [zm 8 1,zm 9 0,⟨.l 10,.index (.l 9) (kI 0),none⟩,z2 11 314 8 10,zu 12 11] (.cond (.l 12) (.exit 0) (.skip))) (.region [zm 13 0,⟨.l 14,.slice .str 1 (.l 13) (some (kI 1)) none none,none⟩,zw 0 14])))
def NT:ak:=zR [⟨.p 2,.mv (.c (.str [])),none⟩] (.seq (.block 0 (.loop uv)) (zR [zm 15 0,zw 2 15] (.ret)))
theorem adw:FT 289=some ⟨16,[0,1,4],[.var (.p 2)],NT⟩:=by kernel_rfl
def uw:ak:=.seq (zR [zm 5 0,zL 6 5,zc 7 .gtr 6 0] (.cond (.l 7) (.skip) (.exit 0))) (.block 1 (.seq (zR [zm 8 1,zm 9 0,zm 10 0,zL 11 10,zc 12 .sub 11 1,⟨.l 13,.index (.l 9) (.l 12),none⟩,z2 14 314 8 13,zu 15 14] (.cond (.l 15) (.exit 0) (.skip))) (.region [zm 16 0,zm 17 0,zL 18 17,zc 19 .sub 18 1,⟨.l 20,.slice .str 1 (.l 16) none (some (.l 19)) none,none⟩,zw 0 20])))
def NU:ak:=zR [⟨.p 2,.mv (.c (.str [])),none⟩] (.seq (.block 0 (.loop uw)) (zR [zm 21 0,zw 2 21] (.ret)))
theorem adx:FT 290=some ⟨22,[0,1,4],[.var (.p 2)],NU⟩:=by kernel_rfl
def NV:ak:=zR [⟨.p 2,.mv (.c (.bool false)),none⟩] (zR [zm 5 0,zm 6 1,⟨.l 7,.kr (.l 5),none⟩,⟨.l 8,.dw (some 256) 1 (.l 7) (.l 6),none⟩,zd 9 1 8,zw 2 9] (.ret))
theorem ady:FT 314=some ⟨10,[0,1,4],[.var (.p 2)],NV⟩:=by kernel_rfl
def NW:ak:=zR [⟨.p 1,.mv (.c (.bool false)),none⟩] (zR [zm 3 0,z1 4 209 3,zn 5 4,zg (zm 6 0) 5 true,⟨.l 7,.index (.l 6) (kI 0),some ((.l 5),true)⟩,⟨.l 8,.bin .neq (.l 7) (.c (.int .u8 (48))),some ((.l 5),true)⟩,zg (zn 9 8) 5 true,zg (zm 10 0) 9 false,⟨.l 11,.bin .eql (.l 10) (.c (.str [48])),some ((.l 9),false)⟩,zg (zP 12 9 11) 5 true,zp 13 5 12,zw 1 13] (.ret))
theorem adz:FT 164=some ⟨14,[0,2],[.var (.p 1)],NW⟩:=by kernel_rfl
theorem ank {t esz n0:Nat}{x i:ay}{l:List aX}{pe:List AV}{lo:List (Nat×AV)}{hp:aa}{df wr:List Nat}{b o:Nat}{k:IntKind}{n:Int}{Q:aq->Prop}(hx:(St.mk pe lo hp df).ae x=some (.ptr b o))(hy:(St.mk pe lo hp df).ae i=some (.int k n))(hb:0<=n/\n<n0)
 (h:WO M l ⟨⟨pe,(t,.ptr b (o+n.toNat*esz))::lo,hp,df⟩,wr⟩ Q):WO M (⟨.l t,.dw (some n0) esz x i,none⟩::l) ⟨⟨pe,lo,hp,df⟩,wr⟩ Q:=
 abL (v:=.ptr b (o+n.toNat*esz)) (by simp[aY,hx,hy,oF,hb]) rfl h
theorem amZ {t:Nat}{x y:ay}{l:List aX}{pe:List AV}{lo:List (Nat×AV)}{hp:aa}{df wr:List Nat}{a b:Int}{Q:aq->Prop}(hx:(St.mk pe lo hp df).ae x=some (.int .u8 a))(hy:(St.mk pe lo hp df).ae y=some (.int .u8 b))(hr:0<=a-b/\a-b<256)
 (h:WO M l ⟨⟨pe,(t,.int .u8 (a-b))::lo,hp,df⟩,wr⟩ Q):WO M (⟨.l t,.bin .sub x y,none⟩::l) ⟨⟨pe,lo,hp,df⟩,wr⟩ Q:=
 abL (v:=.int .u8 (a-b)) (by
  have:IntKind.u8.wrap (a-b)=a-b:=by simp only[IntKind.wrap,IntKind.bits,IntKind.signed];simp;omega
  simp only[aY,hx,hy,cU,if_true,this]) rfl h
def hasB (c:Int)(s:ah):Bool:=s.any (fun b=>decide ((b.toNat:Int)=c))
theorem adA (s:ah)(b:UInt8):decide (0<=firstIdx ⟨s.toArray⟩ b)=hasB b.toNat s:=by
 unfold firstIdx hasB;have hsz:(b5 s.toArray).size=s.length:=by simp[m6]
 have hg:∀i,i<s.length->(b5 s.toArray)[i]! = s[i]! := fun i hi=>by
  have h1:i<(b5 s.toArray).size:=by rw[hsz];exact hi
  rw[getElem!_pos (b5 s.toArray) i h1,getElem!_pos s i hi];rfl
 cases hf:(g9 (b5 s.toArray).size).find? fun i=>(b5 s.toArray)[i]! == b with
 | some i=>
  grind
 | none=>
  rw[List.find?_eq_none]at hf;symm
  rw[show decide ((0:Int) <= -1)=false from rfl];rw[List.any_eq_false];intro x hx;obtain⟨i,hi,rfl⟩:=List.mem_iff_getElem.1 hx;have:=hf i bS;rw[hg i hi,getElem!_pos s i hi]at this;simp at this;simp only[decide_eq_true_eq];intro e;exact this (ip.1 ac)
structure ux (M:aw):Prop where
 ft:M.FT=FT
 NX:∀ars h,M.ext 256 ars h=none
 NY:∀ars h,M.ext 282 ars h=none
 NZ:∀(s:ah) (c:Int) h,M.ext 312 [.str s,.int .u8 c] h=some ⟨.iV (firstIdx ⟨s.toArray⟩ c.toNat.toUInt8),h,[]⟩
theorem adB (b:UInt8):((b.toNat:Int)).toNat.toUInt8=b:=by simp
theorem adC (C:ux M)(s:ah)(b:UInt8)(H:aa):CT M (iY 282) [.str s,.int .u8 b.toNat] H ⟨.iV (firstIdx ⟨s.toArray⟩ b),H,[]⟩:=by
 have hc:=C.NZ s b.toNat H;rw[adB]at hc;refine CT.run (C.NY _ _) (pt (by rw[C.ft];exact adp) be ?_);simp only[b6,ce];unfold NO;simp only[enter];exact gg13
theorem adD (C:ux M)(s:ah)(b:UInt8)(H:aa):CT M (iY 256) [.str s,.str [b]] H ⟨.iV (firstIdx ⟨s.toArray⟩ b),H,[]⟩:=by
 have hc:=adC C s b H;have hn0:¬(([b]:ah).length:Int)=0:=by simp
 have hn:(([b]:ah).length:Int)=1:=rfl;refine CT.run (C.NX _ _) (pt (by rw[C.ft];exact ado) be ?_);simp only[b6,ce];unfold NN;simp only[enter];by_cases hs:([b]:ah)=s
 . subst hs;have e:firstIdx ⟨([b]:ah).toArray⟩ b=0:=by
    have h1:=adA [b] b;have h2:hasB b.toNat [b]=true:=by simp[hasB]
    rw[h2,decide_eq_true_eq]at h1;unfold firstIdx at h1 ⊢;rw[show (b5 ([b]:ah).toArray).size=1 from rfl]at h1 ⊢;rw[show g9 1=[0] from rfl]at h1 ⊢;have h3:((b5 ([b]:ah).toArray)[0]! == b)=true:=by
     cases hq:((b5 ([b]:ah).toArray)[0]! == b) with
     | true=>rfl
     | false=>grind
    simp only[List.find?_cons,h3];rfl
   rw[e];exact gg12
 . repeat' first|(apply agL;rfl;rfl;all_goals first|(intro h;exact absurd h hs)|intro _)|(apply aeJ;rfl;rfl)|refine gd10 ?_|refine gc ?_|(intro _;omega)|intro _
   all_goals exact⟨.inr rfl,rfl,rfl,rfl,_,rfl,rfl⟩
def bK (b:UInt8):ah->ah×Option ah
 | []=>([],none)
 | c::s=>if c=b then ([],some s) else (c::(bK b s).1,(bK b s).2)
def oe (b:UInt8):ah->List ah
 | []=>[[]]
 | c::s=>if c=b then []::oe b s else match oe b s with
   | []=>[[c]]
   | x::l=>(c::x)::l
def mL (b:UInt8):ah->Nat
 | []=>0
 | c::s=>(if c=b then 1 else 0)+mL b s
theorem oh {b:UInt8}:∀{s:ah},(bK b s).2=none->(bK b s).1=s/\oe b s=[s]/\mL b s=0
 | [],_=>⟨rfl,rfl,rfl⟩
 | c::s,h=>by
  rw[bK]at h ⊢;by_cases hc:c=b
  . grind
  . rw[if_neg hc]at h ⊢;obtain⟨h1,h2,h3⟩:=oh (s:=s) h;refine⟨bS,?_,?_⟩
    . rw[oe,if_neg hc,h2]
    . rw[mL,if_neg hc,h3]
theorem rR {b:UInt8}:∀{s y:ah},(bK b s).2=some y->s=(bK b s).1++b::y/\oe b s=(bK b s).1::oe b y/\mL b s=mL b y+1/\b∉(bK b s).1
 | [],y,h=>by cases h
 | c::s,y,h=>by
  rw[bK]at h ⊢;by_cases hc:c=b
  . rw[if_pos hc]at h ⊢;obtain rfl:s=y:=bS;subst hc;refine⟨rfl,?_,?_,be⟩
    . rw[oe,if_pos rfl]
    . rw[mL,if_pos rfl];omega
  . rw[if_neg hc]at h ⊢;obtain⟨h1,h2,h3,h4⟩:=rR (s:=s) h;refine⟨bS,?_,?_,?_⟩
    . rw[oe,if_neg hc,h2]
    . rw[mL,if_neg hc,h3];omega
    grind
theorem adE (s:ah)(b:UInt8):firstIdx ⟨s.toArray⟩ b=if (bK b s).2=none then -1 else ((bK b s).1.length:Int):=by
 have hsz:(b5 s.toArray).size=s.length:=by simp[m6]
 have hg:∀i,i<s.length->(b5 s.toArray)[i]! = s[i]! := fun i hi=>by
  have h1:i<(b5 s.toArray).size:=by rw[hsz];exact hi
  rw[getElem!_pos (b5 s.toArray) i h1,getElem!_pos s i hi];rfl
 unfold firstIdx;cases hy:(bK b s).2 with
 | none=>
  rw[if_pos rfl];cases hf:(g9 (b5 s.toArray).size).find? fun i=>(b5 s.toArray)[i]! == b with
  | none=>rfl
  | some i=>
   exfalso;have h1:=List.find?_some hf;have h2:=List.mem_of_find?_eq_some hf;rw[List.mem_range,hsz]at h2;rw[hg i h2,getElem!_pos s i h2]at h1;have hm:b∈s:=by
    have:s[i]=b:=by simpa using h1
    rw[←this];exact be
   have h0:=(oh hy).2.2;have:∀s:ah,b∈s->0<mL b s:=fun s=>by
    induction s with
    | nil=>simp
    | cons c s ih=>
     intro h;rw[mL];grind
   grind
 | some y=>
  rw[if_neg be];obtain⟨h1,_,_,h4⟩:=rR hy;generalize (bK b s).1=x at h1 h4 ⊢;have hl:x.length<s.length:=by rw[h1];simp
  have hf:((g9 (b5 s.toArray).size).find? fun i=>(b5 s.toArray)[i]! == b)=some x.length:=by
   rw[hsz,List.find?_range_eq_some];refine⟨?_,bS,fun j hj=>?_⟩
   . grind
   . grind
  rw[hf]
def js (b:UInt8)(s:ah):AV:=.au [.str (bK b s).1,.str ((bK b s).2.getD []),.bool (bK b s).2.isSome]
theorem uy {b:UInt8}{s y:ah}(h:(bK b s).2=some y):s.length=(bK b s).1.length+1+y.length:=by
 have:=congrArg mU (rR h).1;grind
theorem FL {b:UInt8}{s y:ah}(h:(bK b s).2=some y):s.take (bK b s).1.length=(bK b s).1:=by
 have e:=(rR h).1;grind
theorem Oa {b:UInt8}{s y:ah}(h:(bK b s).2=some y):s.drop ((bK b s).1.length+1)=y:=by
 have e:=(rR h).1;generalize (bK b s).1=x at e ⊢;rw[e];simp
theorem adF (n208:∀ars h,M.ext 208 ars h=none)(C:ux M)(s:ah)(b:UInt8)(hl:s.length<1000000)(H:aa):CT M (iY 208) [.str s,.str [b]] H ⟨js b s,H,[]⟩:=by
 have hc:=adD C s b H;have hn1:([b]:ah).length=1:=rfl;rw[adE]at hc;refine CT.run (n208 _ _) (pt (by rw[C.ft];exact adm) be ?_);simp only[b6,ce];cases hy:(bK b s).2 with
 | none=>
  rw[if_pos hy]at hc;have h1:=(oh hy).1;unfold FJ;simp only[enter];refine gg6 ?_;refine⟨.inr rfl,rfl,rfl,rfl,_,rfl,?_⟩;simp only[js,hy,h1];rfl
 | some y=>
  rw[if_neg bS]at hc;have h1:=uy hy;have h2:=FL hy;have h3:=Oa hy;generalize hx:(bK b s).1=x at h1 h2 h3 hc;unfold FJ;simp only[enter];refine gg6 ?_;refine⟨.inr rfl,rfl,rfl,rfl,_,rfl,?_⟩;simp only[js,hy,hx];rfl
theorem adG (n208:∀ars h,M.ext 208 ars h=none)(C:ux M)(s:ah)(b:UInt8)(hl:s.length<1000000):aV M 163 [.str s,.str [b]] [] ⟨js b s,[],[]⟩:=by
 have hc:=adF n208 C s b hl [];unfold js at hc ⊢;refine bH (by rw[C.ft];exact adl) be ?_;unfold NM;simp only[enter];exact gg1
@[irreducible] def fu:List AV:=(g9 256).map fun i=>.bool (yR i)
def ot:ah:=[48,49,50,51,52,53,54,55,56,57]
set_option maxRecDepth 1000000 in
theorem adH (M:aw):ix (bw M.ext M.inv M.FT 100) (fun _=>some ⟨21,[0,2,3,4,5],[.cell 256 true (.p 1),.var (.p 2)],FK⟩) 288 [.str ot] []=some ⟨.au [.agg fu,.bool true],[],[]⟩:=by
 kernel_rfl
theorem adI {run:ak->aq->Option (Ex×aq)}{F G:FuncId->Option dv}{f:FuncId}(h:F f=G f)(ars:List AV)(hp:aa):ix run F f ars hp=ix run G f ars hp:=by
 simp only[ix,h]
theorem adJ (hft:M.FT=FT):aV M 288 [.str ot] [] ⟨.au [.agg fu,.bool true],[],[]⟩:=by
 have h2:M.FT 288=(fun _=>some ⟨21,[0,2,3,4,5],[.cell 256 true (.p 1),.var (.p 2)],FK⟩:FuncId->Option dv) 288:=by rw[hft];exact adv
 exact⟨100,(adI h2 _ _).trans (adH M)⟩
structure qe (M:aw):Prop where
 ft:M.FT=FT
 Ob:∀ars h,M.ext 314 ars h=none
 Oc:∀ars h,M.ext 289 ars h=none
 Od:∀ars h,M.ext 290 ars h=none
 zz:∀h,M.ext 288 [.str ot] h=some ⟨.au [.agg fu,.bool true],h,[]⟩
theorem adK {c:Nat}(h:c<256):fu[c]? = some (.bool (yR c)):=by
 simp[fu,h]
theorem Ti {c:UInt8}:partOf (fu.drop (0+((c.toNat:Int)).toNat*1)) 0 1 false=some (.bool (bJ c)):=by
 have hc:c.toNat<256:=c.toNat_lt;rw[Ka,d7,iy,f6];simp only[partOf,i3,if_false];exact adK hc
theorem Oe (C:qe M)(c:UInt8){H:aa}{b:Nat}(hb:H.at b=some (.cells fu 286)):CT M (iY 314) [.ptr b 0,.int .u8 c.toNat] H ⟨.bool (bJ c),H,[]⟩:=by
 have hc:c.toNat<256:=c.toNat_lt;refine CT.run (C.Ob _ _) (pt (by rw[C.ft];exact ady) be ?_);simp only[b6,ce];unfold NV;simp only[enter];exact gg17
def kQ (s:ah):ah:=s.dropWhile bJ
def jy (s:ah):ah:=(s.reverse.dropWhile bJ).reverse
theorem Of (s:ah)(c:UInt8):jy (s++[c])=if bJ c then jy s else s++[c]:=by
 unfold jy;rw[List.reverse_append,List.reverse_singleton,List.singleton_append,d8];grind
theorem adL (C:qe M){H:aa}{b:Nat}(hb:H.at b=some (.cells fu 286)){Q:Ex->aq->Prop}:∀(n:Nat) (s:ah) (lo:List (Nat×AV)) (wr:List Nat) (_:wr=[]),s.length=n->n<1000000 ->
 (∀lo,Q (.exit 0) ⟨⟨[.str (jy s),.ptr b 0,.str []],lo,H,[]⟩,[]⟩)->W M (.loop uw) ⟨⟨[.str s,.ptr b 0,.str []],lo,H,[]⟩,wr⟩ Q:=by
 intro n;induction n with
 | zero=>
  intro s lo wr hw hs hn hQ;subst hw;obtain rfl:s=[]:=bS;have h0:([]:ah).length=0:=rfl;refine W.loop ?_;unfold uw;exact gg1
 | succ n ih=>
  intro s lo wr hw hs hn hQ;subst hw;rcases gF s with rfl|⟨t,c,e⟩
  . cases hs
  . rw[gT]at e;subst e;have hl:(t++[c]).length=t.length+1:=by simp
    have hg:(t++[c])[(((t++[c]).length:Int)-1).toNat]! = c:=by
     rw[show (((t++[c]).length:Int)-1).toNat=t.length by omega,getElem!_pos _ _ be];simp
    have hc:=Oe C c hb;rw[Of]at hQ;cases hd:bJ c with
    | true=>
     rw[hd]at hc;rw[if_pos hd]at hQ;refine W.loop ?_;unfold uw;refine gg6 ?_;refine iO ?_;exact ih t _ _ rfl ac ac hQ
    | false=>
     rw[hd]at hc;rw[if_neg bS]at hQ;refine W.loop ?_;unfold uw;exact gg1
theorem adM (C:qe M){H:aa}{b:Nat}(hb:H.at b=some (.cells fu 286))(s:ah)(hl:s.length<1000000):CT M (iY 290) [.str s,.ptr b 0] H ⟨.str (jy s),H,[]⟩:=by
 refine CT.run (C.Od _ _) (pt (by rw[C.ft];exact adx) be ?_);simp only[b6,ce];unfold NU;simp only[enter];repeat' first|refine gc ?_|fail
 refine adL C hb s.length s _ _ rfl rfl hl fun lo=>?_
 exact gg2
theorem Og (C:qe M){H:aa}{b:Nat}(hb:H.at b=some (.cells fu 286)){Q:Ex->aq->Prop}:∀(s:ah) (lo:List (Nat×AV)) (wr:List Nat) (_:wr=[]),s.length<1000000 ->
 (∀lo,Q (.exit 0) ⟨⟨[.str (kQ s),.ptr b 0,.str []],lo,H,[]⟩,[]⟩)->W M (.loop uv) ⟨⟨[.str s,.ptr b 0,.str []],lo,H,[]⟩,wr⟩ Q
 | [],lo,wr,hw,hn,hQ=>by
  subst hw;have h0:([]:ah).length=0:=rfl;refine W.loop ?_;unfold uv;exact gg1
 | c::s,lo,wr,hw,hn,hQ=>by
  subst hw;have hl:(c::s).length=s.length+1:=rfl;have hc:=Oe C c hb;have e:kQ (c::s)=if bJ c then kQ s else c::s:=d8 ..
  rw[e]at hQ;cases hd:bJ c with
  | true=>
   rw[hd]at hc;rw[if_pos hd]at hQ;refine W.loop ?_;unfold uv;refine gg6 ?_;refine iO ?_;exact Og C hb s _ _ rfl ac hQ
  | false=>
   rw[hd]at hc;rw[if_neg bS]at hQ;refine W.loop ?_;unfold uv;exact gg1
theorem adN (C:qe M){H:aa}{b:Nat}(hb:H.at b=some (.cells fu 286))(s:ah)(hl:s.length<1000000):CT M (iY 289) [.str s,.ptr b 0] H ⟨.str (kQ s),H,[]⟩:=by
 refine CT.run (C.Oc _ _) (pt (by rw[C.ft];exact adw) be ?_);simp only[b6,ce];unfold NT;simp only[enter];repeat' first|refine gc ?_|fail
 refine Og C hb s _ _ rfl hl fun lo=>?_
 exact gg2
theorem Oh {p:UInt8->Bool}:∀s:ah,(s.dropWhile p).length<=s.length
 | []=>d6 _
 | c::s=>by
  rw[d8];have:=Oh (p:=p) s;grind
theorem adO (s:ah):(jy s).length<=s.length:=by
 unfold jy;have:=Oh (p:=bJ) s.reverse;grind
theorem Oi:fu.length=256:=by simp[fu]
theorem adP:fu.all cI=true:=by
 simp only[fu,List.all_map,dO];intro x _;rfl
theorem adQ {a b:List AV}(h:a.length=b.length):overwrite a 0 b=b:=by
 unfold overwrite;grind
theorem Oj:zo.length=256:=by kernel_rfl
theorem adR:overwrite zo 0 fu=fu:=adQ (by rw[Oi,Oj])
theorem adS (C:qe M)(s:ah)(hl:s.length<1000000):aV M 257 [.str s,.str ot] [] ⟨.str (kQ (jy s)),[],[]⟩:=by
 have hD:ot.length=10:=rfl;have hT:=adO s;have zz:=C.zz [];have hb:aa.at [some (.cells fu 286)] 0=some (.cells fu 286):=rfl;have q1:=adM C hb s hl;have q2:=adN C hb (jy s) ac;refine bH (by rw[C.ft];exact adt) be ?_;unfold NS;simp only[enter];by_cases h0:s=[]
 . subst h0;exact gg13
 . repeat' first|(apply agL;rfl;rfl;(intro h;first|exact absurd h h0|exact absurd h am);intro _)|(apply aeJ;rfl;rfl)|(apply acq;rfl;rfl;first|exact zz)|(apply afG (c':=fu);rfl;rfl;rfl;exact⟨Oi,Nat.le_of_eq ((iy _).trans Oj.symm),adP⟩;exact adR)|(apply afJ;rfl;rfl;first|exact q1|exact q2)|refine gc ?_|(intro _;omega)|intro _
   exact⟨.inr rfl,rfl,_,rfl,rfl,rfl⟩
structure Ok (M:aw):Prop where
 ft:M.FT=FT
 adT:∀ars h,M.ext 259 ars h=none
theorem adU {s:ah}{i:Nat}(h:i<s.length):(bC s)[i]? = some (.int .u8 (s[i]!).toNat):=by
 rw[bC,kw,d9 h,getElem!_pos s i h];rfl
theorem adV {H:aa}{c:Nat}(s:ah)(hb:H.at c=some (.cells (bC s) 5))(hs:s.length<=18)(hd:s.all bJ=true)(cp:Option Nat)(a1 a2 a3 a4 a7 a8:AV){Q:Ex->aq->Prop}:∀(r i n:Nat) (a6:AV) (lo:List (Nat×AV)) (wr:List Nat),i+r=s.length->n<10^i ->
 (∀a6 lo,Q (.exit 0) ⟨⟨[.str s,a1,a2,a3,a4,.iV (aP n (s.drop i)),a6,a7,a8,.sl c 0 s.length 1 cp,.iV s.length,.iV s.length],lo,H,[]⟩,wr⟩) ->
 W M (.loop zy) ⟨⟨[.str s,a1,a2,a3,a4,.iV n,a6,a7,a8,.sl c 0 s.length 1 cp,.iV s.length,.iV i],lo,H,[]⟩,wr⟩ Q:=by
 intro r;induction r with
 | zero=>
  intro i n a6 lo wr hi hn hQ;obtain rfl:i=s.length:=by omega
  rw[l9]at hQ;refine W.loop ?_;unfold zy;exact gg0
 | succ r ih=>
  intro i n a6 lo wr hi hn hQ;have hil:i<s.length:=by omega
  have hp:10^i<=10^17:=dY am ac;have hg:s[i]! = s[i]:=getElem!_pos s i hil;have hm:=dO.1 hd (s[i]!) (by rw[hg];exact mp hil);have hx:=(lQ _).1 hm;rw[i5 hil,uj,←hg]at hQ;have hpart:partOf ((bC s).drop (0+((i:Int)).toNat*1)) 0 1 false=some (.int .u8 (s[i]!).toNat):=by
   rw[Ka,d7,iy,f6];simp only[partOf,i3,if_false];exact adU hil
  refine W.loop ?_;unfold zy;refine gg4 ?_;refine iO ?_;have hpow:10^(i+1)=10*10^i:=by rw[c8,jU]
  have e:=ih (i+1) (10*n+((s[i]!).toNat-48));rw[show (((10*n+((s[i]!).toNat-48):Nat):Int))=(n:Int)*10+(((s[i]!).toNat:Int)-48) by omega,show (((i+1:Nat):Int))=(i:Int)+1 by omega]at e;exact e _ _ _ ac ac hQ
theorem adW (C:Ok M)(s:ah)(h0:s≠[])(hl:s.length<=18)(hd:s.all bJ=true)(H:aa):aV M 259 [.str s] H ⟨.au [.iV (aP 0 s),.dh],H,[]⟩:=by
 have hpos:0<s.length:=c7.2 h0;have hg:s[0]! = s[0]:=getElem!_pos s 0 hpos;have hx:48<=(s[n4 0]!).toNat/\(s[n4 0]!).toNat<58:=(lQ _).1 (dO.1 hd (s[0]!) (by rw[hg];exact mp hpos));refine mA (by rw[C.ft];exact adk) be (i7 _) ?_;unfold NL;simp only[enter];refine gg14 ?_;refine adV (H:=H++[some (.cells (bC s) 5)]) (c:=H.length) s cC hl hd none _ _ _ _ _ _ s.length 0 0 _ _ _ ac be (fun a6 lo=>?_);rw[m5];repeat' first|(apply aeJ;rfl;rfl)|refine gc ?_|(intro _;omega)|intro _
 exact⟨.inr rfl,rfl,⟨_,rfl⟩,fun x h=>by simp at h,_,rfl,rfl⟩
theorem adX (C:Ok M)(s:ah)(h0:s≠[])(hl:s.length<=18)(hd:s.all bJ=true):aV M 214 [.str s] [] ⟨.au [.iV (aP 0 s),.dh],[],[]⟩:=by
 have hc:=CT.run (fi:=[]) (ca:=[]) (ars:=[.str s]) (C.adT _ _) (adW C s h0 hl hd []);refine bH (by rw[C.ft];exact adj) be ?_;unfold NK;simp only[enter];exact gg1
theorem dropWhile_nil {p:UInt8->Bool}:∀l:ah,l.dropWhile p=[]↔∀x∈l,p x=true
 | []=>by simp
 | c::l=>by
  rw[d8];split
  . rename_i h;rw[dropWhile_nil l];simp[h]
  . rename_i h;simp[h]
theorem Ol (s:ah):kQ (jy s)=[]↔s.all bJ=true:=by
 rcases gF s with rfl|⟨t,c,e⟩
 . simp[kQ,jy]
 . rw[gT]at e;subst e;have hlen:t.length<(t++[c]).length:=by simp
   rw[Of];split
   . rename_i h;rw[Ol t];simp only[c3,hZ,j9,h,m9]
   . rename_i h;unfold kQ;rw[dropWhile_nil,dO]
termination_by s.length
decreasing_by subst_vars;simp
def preB (b:UInt8)(s:ah):Bool:=decide (s.head? = some b)
def bN (b:UInt8)(s:ah):ah:=if s.head? = some b then s.tail else s
theorem rS (b:UInt8)(s:ah):(bN b s).length<=s.length:=by unfold bN;split <;> simp
theorem adY (hft:M.FT=FT)(s:ah)(b:UInt8)(hl:s.length<1000000):aV M 255 [.str s,.str [b]] [] ⟨.bool (preB b s),[],[]⟩:=by
 have hn1:([b]:ah).length=1:=rfl;refine bH (by rw[hft];exact adg) be ?_;cases s with
 | nil=>
  have h0:([]:ah).length=0:=rfl;unfold FI;simp only[enter];exact gg0
 | cons c t=>
  have hcl:(c::t).length=t.length+1:=rfl;have hd:(c::t).take (([b]:ah).length:Int).toNat=[c]:=rfl;have he:preB b (c::t)=decide (c=b):=by simp[preB]
  rw[he];unfold FI;simp only[enter];by_cases hc:c=b
  . subst hc;rw[decide_eq_true rfl];exact gg13
  . rw[decide_eq_false hc];exact gg13
theorem adZ (hft:M.FT=FT)(s:ah)(b:UInt8)(q:∀h,M.ext 255 [.str s,.str [b]] h=some ⟨.bool (preB b s),h,[]⟩):aV M 212 [.str s,.str [b]] [] ⟨.bool (preB b s),[],[]⟩:=by
 refine bH (by rw[hft];exact adf) be ?_;unfold NH;simp only[enter];exact gg0
theorem uz {b:UInt8}{s:ah}(h:preB b s=true):s.drop (([b]:ah).length:Int).toNat=bN b s/\1<=s.length:=by
 have h:=of_decide_eq_true h;unfold bN;rw[if_pos h];cases s with
 | nil=>simp at h
 | cons c t=>exact⟨rfl,be⟩
theorem kR {b:UInt8}{s:ah}(h:preB b s=false):bN b s=s:=if_neg (of_decide_eq_false h)
theorem aea (hft:M.FT=FT)(s:ah)(b:UInt8)(hl:s.length<1000000)(q:∀h,M.ext 255 [.str s,.str [b]] h=some ⟨.bool (preB b s),h,[]⟩):aV M 258 [.str s,.str [b]] [] ⟨.str (bN b s),[],[]⟩:=by
 have hn1:([b]:ah).length=1:=rfl;refine bH (by rw[hft];exact adi) be ?_;unfold NJ;simp only[enter];cases hp:preB b s with
 | true=>
  rw[hp]at q;obtain⟨h1,h2⟩:=uz hp;exact gg12
 | false=>
  rw[hp]at q;rw[kR hp];exact gg0
theorem aeb (hft:M.FT=FT)(s:ah)(b:UInt8)(q:∀h,M.ext 258 [.str s,.str [b]] h=some ⟨.str (bN b s),h,[]⟩):aV M 213 [.str s,.str [b]] [] ⟨.str (bN b s),[],[]⟩:=by
 refine bH (by rw[hft];exact adh) be ?_;unfold NI;simp only[enter];exact gg0
theorem aec (hft:M.FT=FT)(s:ah)(b:UInt8)(hl:s.length<1000000)(q:∀h,M.ext 255 [.str s,.str [b]] h=some ⟨.bool (preB b s),h,[]⟩):aV M 207 [.str s,.str [b]] [] ⟨.au [.str (bN b s),.bool (preB b s)],[],[]⟩:=by
 have hn1:([b]:ah).length=1:=rfl;refine bH (by rw[hft];exact adr) be ?_;unfold NQ;simp only[enter];cases hp:preB b s with
 | true=>
  rw[hp]at q;obtain⟨h1,h2⟩:=uz hp;exact gg12
 | false=>
  rw[hp]at q;rw[kR hp];exact gg0
theorem aed (hft:M.FT=FT)(s:ah)(b:UInt8)(q:∀h,M.ext 207 [.str s,.str [b]] h=some ⟨.au [.str (bN b s),.bool (preB b s)],h,[]⟩):aV M 162 [.str s,.str [b]] [] ⟨.au [.str (bN b s),.bool (preB b s)],[],[]⟩:=by
 refine bH (by rw[hft];exact adq) be ?_;unfold NP;simp only[enter];exact gg0
structure zA (M:aw)(N:Nat):Prop extends CF M N where
 Om:∀(s:ah) h,s.length<1000000->M.ext 212 [.str s,.str [45]] h=some ⟨.bool (preB 45 s),h,[]⟩
 FM:∀(s:ah) h,s.length<1000000->M.ext 213 [.str s,.str [45]] h=some ⟨.str (bN 45 s),h,[]⟩
 On:∀(s:ah) h,s≠[]->s.length<=18->s.all bJ=true->M.ext 214 [.str s] h=some ⟨.au [.iV (aP 0 s),.dh],h,[]⟩
 Oo:∀v A (K:Nat),ax v A->K<=18->K<=N->aj A<=10->∃v0,ax v0 (A^K)/\∀h,M.ext 215 [v,.iV K] h=some ⟨v0,h,[]⟩
theorem FN (n:Nat):(10:Int)^n<=wB^n:=by
 induction n with
 | zero=>decide
 | succ n ih=>
  grind
theorem qf {s:ah}(h:s.all bJ=true)(hl:s.length<=N):aj (aP 0 s:Nat)<wB^N:=by
 have h1:=nY s h;rw[cH ac];have h2:(aP 0 s:Int)<(10:Int)^s.length:=by exact_mod_cast h1
 exact j8 h2 (Int.le_trans (FN _) (gS am hl))
theorem Oq {s:ah}(h:s.all bJ=true)(hl:s.length<=18):aP 0 s<1000000000000000000:=
 fT (nY s h) (f9 (dY am hl) am)
def FO (so:Int)(wo:AV):aa:=[some (.cells [.iV 0,.ab] 131),some (.cells [.iV so,wo] 131)]
theorem aee (C:zA M N){Q:Ex->aq->Prop}(full:ah)(hD:full.all bJ=true)(hl:full.length<=N)(a2:AV)
 (hQ:∀so wo a4 a5 lo wr,ax (.agg [.iV so,wo]) (aP 0 full:Nat)->Q (.exit 0) ⟨⟨[.str [],.ptr 0 0,a2,.ptr 1 0,a4,a5],lo,FO so wo,[]⟩,wr⟩)
 (a4 a5:AV) (lo:List (Nat×AV)) (wr:List Nat) :
 W M (.loop zj) ⟨⟨[.str full,.ptr 0 0,a2,.ptr 1 0,a4,a5],lo,FO 0 .ab,[]⟩,wr⟩ Q:=by
 have hlN:=C.lN;refine W.gP (fun m st=>∃t dn so wo a4 a5 lo wr,st=⟨⟨[.str t,.ptr 0 0,a2,.ptr 1 0,a4,a5],lo,FO so wo,[]⟩,wr⟩/\t.length=m/\full=dn++t/\ax (.agg [.iV so,wo]) (aP 0 dn:Nat))
  (fun m st ⟨t,dn,so,wo,a4,a5,lo,wr,hst,hm,hf,hv⟩=>?_) (m:=full.length) ⟨full,[],0,.ab,a4,a5,lo,wr,rfl,rfl,rfl,.small am⟩
 subst hst;cases t with
 | nil=>
  rw[ce]at hf;subst hf;have h0:([]:ah).length=0:=rfl;unfold zj;exact gg1
 | cons c t=>
  obtain⟨t',ht'⟩:∃t',t'=c::t:=⟨_,rfl⟩;rw[←ht']at hm hf ⊢;have hpos:0<t'.length:=by rw[ht'];simp
  have hDt:t'.all bJ=true:=by rw[hf,c3,c9]at hD;exact hD.2
  have hDd:dn.all bJ=true:=by rw[hf,c3,c9]at hD;exact hD.1
  have hfl:full.length=dn.length+t'.length:=by rw[hf,b8]
  obtain⟨n,hn,hn1⟩:∃n:Nat,((n:Int)=18/\(18:Int)<=t'.length\/(n:Int)=t'.length/\(t'.length:Int)<=18)/\0<n/\n<=18/\n<=t'.length:=by
   by_cases h:t'.length<=18
   . grind
   . exact⟨18,.inl ⟨rfl,ac⟩,ac,ac,ac⟩
  obtain⟨x,y,hxy,hxl⟩:∃x y,t'=x++y/\x.length=n:=⟨t'.take n,t'.drop n,(List.take_append_drop n t').symm,bS⟩;have hx0:x≠[]:=bS;have hDx:x.all bJ=true:=by rw[hxy,c3,c9]at hDt;exact hDt.1
  have htk:t'.take (n:Int).toNat=x:=by rw[hxy,d7,←hxl,List.take_left]
  have hdr:t'.drop (n:Int).toNat=y:=by rw[hxy,d7,←hxl,List.drop_left]
  have hyl:t'.length=n+y.length:=by rw[hxy,b8,hxl]
  have q214:=fun h=>C.On x h hx0 ac hDx
  have q168:=C.pP 10;obtain⟨v1,k1,q215⟩:=C.Oo (.agg [.iV 10,.ab]) 10 n (.small am) hn1.2.1 ac am;have b1:=qf (N:=N) hDd ac;have b2:aj ((10:Int)^n)<wB^N:=by
   rw[cH bS];have h1:=gS (b:=wB) am (m:=n) (n:=N) ac;have h2:=FN n;have h3:(10:Int)^n<wB^n:=by
    obtain⟨k,rfl⟩:∃k,n=k+1:=⟨n-1,ac⟩;have:=FN k;have p0:(0:Int)<10^k:=Int.pow_pos am;rw[k9,k9];have:(10:Int)^k*10<10^k*wB:=bS;have h5:(10:Int)^k*wB<=wB^k*wB:=bS;omega
   omega
  obtain⟨v2,k2,q198⟩:=C.mI _ _ _ _ hv k1 b1 b2;have e2:(aP 0 dn:Int)*10^n=((aP 0 (dn++b7 n 48):Nat):Int):=by
   have:aP (aP 0 dn) (b7 n 48)=aP 0 dn*10^n:=by rw[←yZ,MV];simp
   rw[pT,this];push_cast;rfl
  have k2:ax v2 ((aP 0 dn:Int)*10^n):=k2;have b3:aj ((aP 0 dn:Int)*10^n)<wB^N:=by
   rw[e2];exact qf (by rw[c3,hDd,←yZ,MT];rfl) bS
  have hxs:=Oq hDx ac;have q168b:=C.pP (aP 0 x:Nat);obtain⟨v3,k3,q202⟩:=C.rH v2 (.agg [.iV (aP 0 x:Nat),.ab]) _ _ k2 (.small ac) b3 (qf hDx ac);have e3:(aP 0 dn:Int)*10^n+(aP 0 x:Nat)=((aP 0 (dn++x):Nat):Int):=by
   rw[pT,yT x (aP 0 dn),hxl];push_cast;rfl
  have k3:ax v3 ((aP 0 (dn++x):Nat):Int):=by rw[←e3];exact k3
  obtain⟨s3,w3,rfl,o3,_⟩:=k3.shape;unfold zj;repeat' first|(apply anu (m:=(n:Int));rfl;rfl;exact hn)|(apply aib (s:=t') (r:=x);rfl;rfl;omega;exact htk)|(apply aia (s:=t') (r:=y);rfl;rfl;omega;exact hdr)|refine gd0 ?_|refine gd1 ?_|(apply afG;rfl;rfl;rfl;exact⟨rfl,d6 _,by simp[gM,o3]⟩;rfl)|(apply aev;rfl;rfl)|refine gc ?_|(intro _;omega)|intro _
  all_goals try omega
  all_goals exact bW ⟨y.length,ac,y,dn++x,s3,w3,_,_,_,_,rfl,rfl,bS,k3⟩
theorem aef (C:zA M N)(s:ah)(hl:s.length<=N)(hD:(bN 45 s).all bJ=true):∃v0,ax v0 (if preB 45 s then -(aP 0 (bN 45 s):Int) else (aP 0 (bN 45 s):Nat))/\cQ M 166 [.str s] v0:=by
 have hlN:=C.lN;have q212:=fun h=>C.Om s h ac
 have q213:=fun h=>C.FM s h ac
 have hcl:(bN 45 s).length<=N:=f9 (rS 45 s) hl;have hb:=qf (N:=N) hD hcl;obtain⟨v',hh,⟨v0,h0,ho⟩,hr⟩:=gO (M:=M) (f:=166) (ars:=[.str s]) (P:=fun v hh=>∃v0,ax v0 (if preB 45 s then -(aP 0 (bN 45 s):Int) else (aP 0 (bN 45 s):Nat))/\dZ v hh v0) (by rw[C.ft];exact acT) be (by
  unfold Nv;simp only[enter];repeat' first|refine gd0 ?_|refine gc ?_|fail
  refine aee C (bN 45 s) hD hcl _ (fun so wo a4 a5 lo wr hv=>?_) _ _ _ _;cases hp:preB 45 s with
  | true=>
   rw[if_pos rfl];obtain⟨v1,k1,q216⟩:=C.mH _ _ hv hb;have k1:ax v1 (-(aP 0 (bN 45 s):Int)):=k1;obtain⟨s1,w1,rfl,o1,_⟩:=k1.shape;repeat' first|refine gd26 ?_|refine gd0 ?_|refine gc ?_|fail
   exact⟨.inr rfl,rfl,_,rfl,_,k1,k1.out⟩
  | false=>
   rw[if_neg am];obtain⟨o1,_⟩:=hv.one;repeat' first|refine gd26 ?_|refine gc ?_|fail
   exact⟨.inr rfl,rfl,_,rfl,_,hv,hv.out⟩)
 exact⟨v0,h0,v',hh,ho,hr⟩
theorem Ot {s:ah}(h:s.all bJ=true){c:UInt8}(hc:¬bJ c=true):c∉s:=fun hm=>hc ((dO.1 h) c hm)
theorem Ou (n:Nat){c:UInt8}(hc:¬bJ c=true):preB c (aS n)=false:=by
 rw[preB,decide_eq_false_iff_not];intro h;cases hd:aS n with
 | nil=>exact rO n hd
 | cons b t=>
  rw[hd]at h;have hb:b∈aS n:=by rw[hd];simp
  simp at h;exact hc (h ▸ (dO.1 (kP n)) b hb)
theorem aeg (z:Int):preB 45 (bM z)=decide (z<0)/\bN 45 (bM z)=aS (aj z).toNat:=by
 by_cases h:z<0
 . rw[od h,decide_eq_true h];exact⟨rfl,rfl⟩
 . rw[lW h,decide_eq_false h];have:=Ou (aj z).toNat (c:=45) am;exact⟨this,kR this⟩
theorem uA {b:UInt8}:∀{x:ah},b∉x->bK b x=(x,none)
 | [],_=>rfl
 | c::x,h=>by
  have h1:¬c=b:=fun e=>h (by rw[e];simp)
  have h2:b∉x:=fun e=>h (by simp[e])
  rw[bK,if_neg h1,uA h2]
theorem uB {b:UInt8}{y:ah}:∀{x:ah},b∉x->bK b (x++b::y)=(x,some y)
 | [],_=>by rw[b6,bK,if_pos rfl]
 | c::x,h=>by
  have h1:¬c=b:=fun e=>h (by rw[e];simp)
  have h2:b∉x:=fun e=>h (by simp[e])
  rw[le,bK,if_neg h1,uB h2]
theorem zB (z:Int):(47:UInt8)∉bM z:=by
 have h:=Ot (kP (aj z).toNat) (c:=47) am;by_cases hz:z<0
 . rw[od hz];simp[h]
 . rw[lW hz];exact h
theorem aeh (q:Rat):js 47 (ao q)=if q.den=1 then .au [.str (bM q.num),.str [],.bool false] else .au [.str (bM q.num),.str (aS q.den),.bool true]:=by
 unfold js ao;by_cases h:q.den=1
 . rw[if_pos h,if_pos h,uA (zB _)];rfl
 . rw[if_neg h,if_neg h,uB (zB _)];rfl
def Lq (N:Nat)(q:Rat):Prop:=(bM q.num).length<=N/\(aS q.den).length<=N
structure mM (M:aw)(N:Nat):Prop extends zA M N where
 FP:∀(s:ah) h,s.length<1000000->M.ext 163 [.str s,.str [47]] h=some ⟨js 47 s,h,[]⟩
 FQ:∀(s:ah),s.length<=N->(bN 45 s).all bJ=true->∃v0,ax v0 (if preB 45 s then -(aP 0 (bN 45 s):Int) else (aP 0 (bN 45 s):Nat))/\∀h,M.ext 166 [.str s] h=some ⟨v0,h,[]⟩
theorem mM.Ov (C:mM M N)(z:Int)(hl:(bM z).length<=N):∃v0,ax v0 z/\∀h,M.ext 166 [.str (bM z)] h=some ⟨v0,h,[]⟩:=by
 obtain⟨h1,h2⟩:=aeg z;obtain⟨v0,h0,q⟩:=C.FQ (bM z) hl (by rw[h2];exact kP _);refine⟨v0,?_,q⟩;rw[h1,h2,mJ]at h0;have ha:=ju (x:=z);have e:((aj z).toNat:Int)=aj z:=j3 ha;by_cases hz:z<0
 . rw[decide_eq_true hz,if_pos rfl,e]at h0;have e2:aj z = -z:=if_pos hz;rw[e2,Int.neg_neg]at h0;exact h0
 . rw[decide_eq_false hz,if_neg am,e]at h0;have e2:aj z=z:=if_neg hz;rw[e2]at h0;exact h0
theorem mM.aei (C:mM M N)(n:Nat)(hl:(aS n).length<=N):∃v0,ax v0 (n:Int)/\∀h,M.ext 166 [.str (aS n)] h=some ⟨v0,h,[]⟩:=by
 rw[←adb]at hl ⊢;exact C.Ov n hl
theorem Ow {q:Rat}(h:Lq N q):(ao q).length<=2*N+1:=by
 unfold ao;split
 . have:=h.1;omega
 . have h1:=h.1;have h2:=h.2;simp;omega
theorem aej (C:mM M N)(hN:N<=400000){q:Rat}(lq:Lq N q):∃v0,br v0 q/\cQ M 103 [.str (ao q)] v0:=by
 have sl:=Ow lq;have q163:=fun h=>C.FP (ao q) h ac
 have cs:=aeh q;rw[cs]at q163;obtain⟨va,ka,qa⟩:=C.Ov q.num lq.1;by_cases hd:q.den=1
 . rw[if_pos hd]at q163;obtain⟨v0,k0,q159⟩:=C.EH _ _ ka;have k0:br v0 q:=by
    have:=k0;unfold br;rw[hd];exact this
   refine⟨v0,k0,cR (by rw[C.ft];exact Ny) be ?_⟩;have out:=fun hh=>k0.out (hh:=hh)
   obtain⟨s5,w5,s6,w6,rfl,h5,h6⟩:=k0;obtain⟨o5,_⟩:=h5.one;obtain⟨o6,_⟩:=h6.one;unfold FB;simp only[enter];repeat' first|refine gd7 ?_|refine gd0 ?_|refine gc ?_|fail
   all_goals exact cN rfl rfl (out _)
 . rw[if_neg hd]at q163;obtain⟨vb,kb,qb⟩:=C.aei q.den lq.2;obtain⟨s5,w5,rfl,o5,_⟩:=ka.shape;obtain⟨s6,w6,rfl,o6,_⟩:=kb.shape;have k0:br (.agg [.iV s5,w5,.iV s6,w6]) q:=⟨_,_,_,_,rfl,ka,kb⟩;refine⟨_,k0,cR (by rw[C.ft];exact Ny) be ?_⟩;have out:=fun hh=>k0.out (hh:=hh)
   unfold FB;simp only[enter];repeat' first|refine gd7 ?_|refine gd0 ?_|refine gc ?_|fail
   all_goals exact cN rfl rfl (out _)
def Ox:ak:=zR [zi 1 0] (zR [zm 12 0,⟨.l 13,.call (kF 162) [(.l 12),(.c (.str [45]))],none⟩,zn 11 13,ze 14 0 11,ze 15 1 11,zw 2 14,zw 3 15] (zR [zm 17 2,⟨.l 18,.call (kF 163) [(.l 17),(.c (.str [47]))],none⟩,zn 16 18,ze 19 0 16,ze 20 1 16,ze 21 2 16,zw 4 19,zw 5 20,zw 6 21] (zR [zm 22 4,z1 23 164 22,zn 24 23,zg (zm 25 3) 24 true,zg (zn 26 25) 24 true,zg (zm 27 4) 26 true,⟨.l 28,.bin .eql (.l 27) (.c (.str [48])),some ((.l 26),true)⟩,zg (zp 29 26 28) 24 true,zg (zu 30 29) 24 true,zp 31 24 30,zw 7 31] (.seq (zR [zm 32 6] (.cond (.l 32) (.region [zm 33 7,zn 34 33,zg (zm 35 5) 34 true,zg (z1 36 164 35) 34 true,zp 37 34 36,zn 38 37,zg (zm 39 5) 38 true,⟨.l 40,.bin .neq (.l 39) (.c (.str [48])),some ((.l 38),true)⟩,zp 41 38 40,zn 42 41,zg (zm 43 5) 42 true,⟨.l 44,.bin .neq (.l 43) (.c (.str [49])),some ((.l 42),true)⟩,zp 45 42 44,zw 7 45]) (.skip))) (.seq (zR [zm 46 7,zu 47 46,⟨.l 48,.call (kF 97) [(.l 47),(kI 1)],none⟩,zm 49 4,zL 50 49,zm 51 5,zL 52 51,⟨.l 53,.mm true [(.l 50),(.l 52)],none⟩,zc 54 .gtr 53 600,⟨.l 55,.call (kF 97) [(.l 54),(kI 4)],none⟩,⟨.l 56,.du 25 2 1 [.iV (0)] [(0,1,(.l 48)),(1,1,(.l 55))],none⟩,z1 57 96 56,zw 8 57] (zR [zm 58 8,zc 59 .neq 58 0,zn 60 59,zg (zm 61 6) 60 false,zg (zu 62 61) 60 false,zP 63 60 62] (.cond (.l 63) (zR [zm 64 8,zw 1 64] (.ret)) (.skip)))) (zR [zm 65 4,z1 66 166 65,zm 67 5,z1 68 166 67,z2 69 165 66 68,⟨.p 9,.alloc 131 [.iV (0),.ab],none⟩,zs 2 9 69] (.seq (.draw [(zt 70 2 9,[]),(⟨.l 71,.call (kF 168) [(kI 1)],none⟩,[0]),(z2 72 167 70 71,[]),(zc 73 .neq 72 0,[]),(⟨.l 74,.call (kF 97) [(.l 73),(kI 1)],none⟩,[]),(zw 1 74,[])]) (.ret))))))))
theorem aek:FT 84=some ⟨75,[0,2,3,4,5,6,7,8,9,10],[.var (.p 1)],Ox⟩:=by kernel_rfl
def FU:ak:=zR [zr 9 .lss 6 5] (.seq (.cond (.l 9) (.skip) (.exit 0)) (.seq (.block 1 (zR [⟨.l 10,.dw none 1 (.p 4) (.p 6),none⟩,zd 11 1 10,zw 2 11] (zR [zm 12 2,z1 13 84 12,zw 3 13] (zR [zm 14 3,zc 15 .neq 14 0] (.cond (.l 15) (zR [zm 16 3,zw 1 16] (.ret)) (.skip)))))) (.region [zq 17 .add 6 1,zw 6 17])))
def Oy:ak:=zR [zi 1 0] (.seq (zR [⟨.p 4,.mv (.p 0),none⟩,⟨.p 5,.len .sl (.p 4),none⟩,zi 6 0] (.block 0 (.loop FU))) (zR [zi 1 0] (.ret)))
theorem ael:FT 101=some ⟨18,[0,2,4,5,6,7,8],[.var (.p 1)],Oy⟩:=by kernel_rfl
def Oz:ak:=zR [zx 1 133 4 0,⟨.p 2,.mv (.c (.str [])),none⟩,zi 3 0] (.seq (zR [zt 4 4 1,z1 5 175 4] (.cond (.l 5) (zR [⟨.p 2,.mv (.c (.str [])),none⟩,zi 3 4] (.ret)) (.skip))) (zR [zt 6 4 1,z1 7 176 6,zw 2 7,zi 3 0] (.ret)))
theorem aem:FT 105=some ⟨8,[0,1,2,3],[.var (.p 2),.var (.p 3)],Oz⟩:=by kernel_rfl
def ee (s:ah):Bool:=decide (s≠[]) && s.all bJ && (decide (s[0]! ≠ 48) || decide (s=[48]))
theorem aen (hft:M.FT=FT)(s:ah)(q257:∀h,M.ext 257 [.str s,.str ot] h=some ⟨.str (kQ (jy s)),h,[]⟩):aV M 209 [.str s] [] ⟨.bool (decide (s≠[]) && s.all bJ),[],[]⟩:=by
 refine bH (by rw[hft];exact ads) be ?_;unfold NR;simp only[enter];by_cases h0:s=[]
 . rw[decide_eq_false (by simpa using h0),m7];repeat' first|(apply ajA;rfl;rfl;all_goals first|(intro h;exact absurd h0 h)|intro _)|refine gc ?_|fail
   all_goals exact⟨.inr rfl,rfl,_,rfl,rfl,rfl⟩
 . rw[decide_eq_true h0,n3];have ht:=Ol s;cases hd:s.all bJ with
   | true=>
    rw[ht.2 hd]at q257;exact gg11
   | false=>
    have hne:kQ (jy s)≠[]:=fun e=>by rw[ht.1 e]at hd;cases hd
    repeat' first|(apply ajA;rfl;rfl;all_goals first|(intro h;exact absurd h h0)|intro _)|(apply agL;rfl;rfl;all_goals first|(intro h;exact absurd h hne)|intro _)|refine gd0 ?_|refine gc ?_|fail
    all_goals exact⟨.inr rfl,rfl,_,rfl,rfl,rfl⟩
theorem aeo (hft:M.FT=FT)(s:ah)(q209:∀h,M.ext 209 [.str s] h=some ⟨.bool (decide (s≠[]) && s.all bJ),h,[]⟩):aV M 164 [.str s] [] ⟨.bool (ee s),[],[]⟩:=by
 refine bH (by rw[hft];exact adz) be ?_;unfold ee;unfold NW;simp only[enter];cases hb:(decide (s≠[]) && s.all bJ) with
 | false=>
  rw[hb]at q209;rw[m7];exact gg0
 | true=>
  rw[hb]at q209;rw[n3];have hne:s≠[]:=by
   rw[c9]at hb;exact of_decide_eq_true hb.1
  have hpos:0<s.length:=c7.2 hne;by_cases h48:s[0]! = 48
  . rw[decide_eq_false (by simpa using h48),Bool.false_or];have e48:((s[(0:Int).toNat]!).toNat:Int)=48:=by rw[show s[(0:Int).toNat]! = s[0]! from rfl,h48];rfl
    by_cases hs:s=[48]
    . rw[decide_eq_true hs];exact gg16
    . rw[decide_eq_false hs];repeat' first|(apply agL;rfl;rfl;all_goals first|(intro h;exact absurd h hs)|intro _)|(apply acr;rfl;rfl)|refine gd0 ?_|refine gc ?_|(intro _;omega)|intro _
      all_goals try omega
      all_goals exact⟨.inr rfl,rfl,_,rfl,rfl,rfl⟩
  . rw[decide_eq_true (show s[0]! ≠ 48 from h48),Bool.true_or];have e48:((s[(0:Int).toNat]!).toNat:Int)≠48:=fun e=>h48 (ip.1 (by rw[show s[(0:Int).toNat]! = s[0]! from rfl]at e;have:(48:UInt8).toNat=48:=rfl;omega))
    exact gg0
theorem aep (hft:M.FT=FT)(k:Nat)(q:∀h,M.ext 244 [.uV 1,.uV k] h=some ⟨.au [.uV 0,.uV k],h,[]⟩):aV M 300 [.uV 1,.uV k] [] ⟨.au [.uV 0,.uV k],[],[]⟩:=by
 refine bH (by rw[hft];exact acL) be ?_;unfold Nm;simp only[enter];exact gg0
def oM:ah:=[48,48,48,48,48,48,48,48,48,48,48,48,48,48,48,48,48,48,48,48,48,48,48,48,48,48,48,48,48,48,48,48,48,48,48,48,48,48,48,48,48,48,48,48,48,48,48,48,48,48,48,48,48,48,48,48,48,48,48,48,48,48,48,48]
def OA:ah:=[32,32,32,32,32,32,32,32,32,32,32,32,32,32,32,32,32,32,32,32,32,32,32,32,32,32,32,32,32,32,32,32,32,32,32,32,32,32,32,32,32,32,32,32,32,32,32,32,32,32,32,32,32,32,32,32,32,32,32,32,32,32,32,32,32,32,32,32,32,32,32,32,32,32,32,32,32,32,32,32,32,32,32,32,32,32,32,32,32,32,32,32,32,32,32,32,32,32,32,32,32,32,32,32,32,32,32,32,32,32,32,32,32,32,32,32,32,32,32,32,32,32,32,32,32,32,32,32]
def OB:ah:=[45,45,45,45,45,45,45,45,45,45,45,45,45,45,45,45,45,45,45,45,45,45,45,45,45,45,45,45,45,45,45,45,45,45,45,45,45,45,45,45,45,45,45,45,45,45,45,45,45,45,45,45,45,45,45,45,45,45,45,45,45,45,45,45,45,45,45,45,45,45,45,45,45,45,45,45,45,45,45,45,45,45,45,45,45,45,45,45,45,45,45,45,45,45,45,45,45,45,45,45,45,45,45,45,45,45,45,45,45,45,45,45,45,45,45,45,45,45,45,45,45,45,45,45,45,45,45,45]
theorem aeq {k:Nat}(h:k<=64):oM.take k=b7 k 48:=by
 have:oM=b7 64 48:=rfl;rw[this,List.take_replicate,Nat.min_eq_left h]
set_option maxRecDepth 100000 in
theorem aer (hft:M.FT=FT)(k:Nat)(hk:k<=64)(q300:∀h,M.ext 300 [.uV 1,.uV k] h=some ⟨.au [.uV 0,.uV k],h,[]⟩)(q212:∀h,M.ext 212 [.str oM,.str [48]] h=some ⟨.bool true,h,[]⟩)(q32:∀h,M.ext 212 [.str OA,.str [48]] h=some ⟨.bool false,h,[]⟩)(q45:∀h,M.ext 212 [.str OB,.str [48]] h=some ⟨.bool false,h,[]⟩):aV M 264 [.str [48],.iV k] [] ⟨.str (b7 k 48),[],[]⟩:=by
 have hn1:([48]:ah).length=1:=rfl;have hz:oM.length=64:=rfl;have e48:(([48]:ah)[(0:Int).toNat]!).toNat=48:=rfl;refine bH (by rw[hft];exact acJ) be ?_;unfold Ni;simp only[enter];by_cases h0:k=0
 . subst h0;exact gg0
 . by_cases h1:k=1
   . subst h1;exact gg0
   . have hd:oM.take (k:Int).toNat=b7 k 48:=aeq hk;exact gg0
open Go.Proofs
variable {T:List (Nat×Spec)}
set_option maxRecDepth 1000000 in
theorem aes:pj Tryz.prog 323 .same:=⟨⟨_,rfl,by rfl,by rfl,by rfl,by rfl⟩⟩
noncomputable def OC:Spec:=sK [] 324
noncomputable def OD:Spec:=sK [] 325
theorem aet:aT Tryz.prog gl 324 OC:=bh bA
theorem aeu:aT Tryz.prog gl 325 OD:=bh bA
noncomputable def OE:List (Nat×Spec):=[(240,uc),(324,OC),(325,OD)]
theorem cIt:Nc (aZ Tryz.prog FT OE) where
 ft:=bm
 tJ:=fun x h hx=>EY x h hx
 Nd:=fun x h hx=>bO (acm bm x hx) rfl rfl rfl h
 Fp:=fun x h=>bO (acn bm x) rfl rfl rfl h
noncomputable def OF:Spec:=sK [] 304
noncomputable def OG:Spec:=sK OE 305
theorem aew:aT Tryz.prog gl 304 OF:=bh bA
theorem aex:aT Tryz.prog gl 305 OG:=bh (aO EX (aO aet (aO aeu bA)))
noncomputable def zC:List (Nat×Spec):=[(304,OF),(305,OG)]
theorem OH:cD Tryz.prog gl (bk zC):=aO aew (aO aex bA)
theorem OI:uo (aZ Tryz.prog FT zC) where
 ft:=bm
 Nh:=fun _ _=>rfl
 Fv:=fun n h hn=>bO (acy bm n hn) rfl rfl rfl h
 yY:=fun d h hd=>bO (acs cIt d hd) rfl rfl rfl h
noncomputable def zD:Spec:=sK zC 299
noncomputable def zE:Spec:=sK zC 267
noncomputable def zF:Spec:=sK [(267,zE)] 226
noncomputable def FV:Spec:=sK [(226,zF)] 183
noncomputable def FW:Spec:=sK [(299,zD)] 263
theorem aey:aT Tryz.prog gl 299 zD:=bh OH
theorem aez:aT Tryz.prog gl 267 zE:=bh OH
theorem aeA:aT Tryz.prog gl 226 zF:=bh (aO aez bA)
theorem aeB:aT Tryz.prog gl 183 FV:=bh (aO aeA bA)
theorem aeC:aT Tryz.prog gl 263 FW:=bh (aO aey bA)
theorem aeD:∀z h,(-9223372036854775808<=z/\z<9223372036854775808)->FV [.iV z] h=some ⟨.str (bM z),h,[]⟩:=fun z h hz=>by
 have q267:∀h,zE [.iV z,.iV 10] h=some ⟨.str (bM z),h,[]⟩:=bO (acE OI z hz) rfl rfl rfl;have q226:∀h,zF [.iV z] h=some ⟨.str (bM z),h,[]⟩:=bO (acF (M:=aZ Tryz.prog FT [(267,zE)]) bm z q267) rfl rfl rfl;exact bO (acG (M:=aZ Tryz.prog FT [(226,zF)]) bm z q226) rfl rfl rfl h
theorem aeE:∀(u:Nat) h,u<18446744073709551616->FW [.uV u,.iV 10] h=some ⟨.str (aS u),h,[]⟩:=fun u h hu=>by
 have q299:∀h,zD [.uV u,.iV 10] h=some ⟨.str (aS u),h,[]⟩:=bO (acD OI u hu) rfl rfl rfl;exact bO (acH (M:=aZ Tryz.prog FT [(299,zD)]) bm u q299) rfl rfl rfl h
noncomputable def ou:Spec:=sK [] 255
noncomputable def uD:Spec:=sK [(255,ou)] 212
noncomputable def zG:Spec:=sK [(255,ou)] 258
noncomputable def uE:Spec:=sK [(258,zG)] 213
noncomputable def zH:Spec:=sK [(255,ou)] 207
noncomputable def FX:Spec:=sK [(207,zH)] 162
theorem FY:aT Tryz.prog gl 255 ou:=bh bA
theorem OJ:aT Tryz.prog gl 212 uD:=bh (aO FY bA)
theorem aeF:aT Tryz.prog gl 258 zG:=bh (aO FY bA)
theorem OK:aT Tryz.prog gl 213 uE:=bh (aO aeF bA)
theorem aeG:aT Tryz.prog gl 207 zH:=bh (aO FY bA)
theorem aeH:aT Tryz.prog gl 162 FX:=bh (aO aeG bA)
theorem FZ:∀(s:ah) b h,s.length<1000000->ou [.str s,.str [b]] h=some ⟨.bool (preB b s),h,[]⟩:=fun s b h hl=>bO (adY bm s b hl) rfl rfl rfl h
theorem zI:∀(s:ah) b h,s.length<1000000->uD [.str s,.str [b]] h=some ⟨.bool (preB b s),h,[]⟩:=fun s b h hl=>
 bO (adZ (M:=aZ Tryz.prog FT [(255,ou)]) bm s b fun h=>FZ s b h hl) rfl rfl rfl h
theorem OL:∀(s:ah) b h,s.length<1000000->uE [.str s,.str [b]] h=some ⟨.str (bN b s),h,[]⟩:=fun s b h hl=>by
 have q258:∀h,zG [.str s,.str [b]] h=some ⟨.str (bN b s),h,[]⟩:=bO (aea (M:=aZ Tryz.prog FT [(255,ou)]) bm s b hl fun h=>FZ s b h hl) rfl rfl rfl;exact bO (aeb (M:=aZ Tryz.prog FT [(258,zG)]) bm s b q258) rfl rfl rfl h
theorem aeI:∀(s:ah) b h,s.length<1000000->FX [.str s,.str [b]] h=some ⟨.au [.str (bN b s),.bool (preB b s)],h,[]⟩:=fun s b h hl=>by
 have q207:∀h,zH [.str s,.str [b]] h=some ⟨.au [.str (bN b s),.bool (preB b s)],h,[]⟩:=bO (aec (M:=aZ Tryz.prog FT [(255,ou)]) bm s b hl fun h=>FZ s b h hl) rfl rfl rfl;exact bO (aed (M:=aZ Tryz.prog FT [(207,zH)]) bm s b q207) rfl rfl rfl h
def OM:List (Nat×Spec):=[(312,nH .index)]
theorem cIx:ux (aZ Tryz.prog FT OM) where
 ft:=bm
 NX:=fun _ _=>rfl
 NY:=fun _ _=>rfl
 NZ:=fun _ _ _=>rfl
noncomputable def zJ:Spec:=sK OM 163
theorem aeK:aT Tryz.prog gl 163 zJ:=bh (aO (xk KK) bA)
theorem aeL:∀(s:ah) b h,s.length<1000000->zJ [.str s,.str [b]] h=some ⟨js b s,h,[]⟩:=fun s b h hl=>bO (adG (fun _ _=>rfl) cIx s b hl) rfl rfl rfl h
theorem aeM:cG fu=fu:=by
 unfold fu;induction g9 256 with
 | nil=>rfl
 | cons a l ih=>
  rw[i8,cG,ih];rfl
theorem aeN:bc fu=0:=by
 unfold fu;induction g9 256 with
 | nil=>rfl
 | cons a l ih=>simp only[i8,bc,ih,AV.top];rfl
noncomputable def zK:Spec:=sK [] 288
noncomputable def zM:Spec:=sK [(288,zK)] 257
noncomputable def zN:Spec:=sK [(257,zM)] 209
noncomputable def Ga:Spec:=sK [(209,zN)] 164
noncomputable def zO:Spec:=sK [] 214
theorem aeO:aT Tryz.prog gl 288 zK:=bh bA
theorem aeP:aT Tryz.prog gl 257 zM:=bh (aO aeO bA)
theorem aeQ:aT Tryz.prog gl 209 zN:=bh (aO aeP bA)
theorem aeR:aT Tryz.prog gl 164 Ga:=bh (aO aeQ bA)
theorem aeS:aT Tryz.prog gl 214 zO:=bh bA
theorem aeT:∀h,zK [.str ot] h=some ⟨.au [.agg fu,.bool true],h,[]⟩:=bO (adJ bm) rfl (by simp[AV.top,bc,aeN]) (by simp only[bL,cG,aeM])
theorem aeU:qe (aZ Tryz.prog FT [(288,zK)]) where
 ft:=bm
 Ob:=fun _ _=>rfl
 Oc:=fun _ _=>rfl
 Od:=fun _ _=>rfl
 zz:=aeT
theorem aeV:∀(s:ah) h,s.length<1000000->Ga [.str s] h=some ⟨.bool (ee s),h,[]⟩:=fun s h hl=>by
 have q257:∀h,zM [.str s,.str ot] h=some ⟨.str (kQ (jy s)),h,[]⟩:=bO (adS aeU s hl) rfl rfl rfl;have q209:∀h,zN [.str s] h=some ⟨.bool (decide (s≠[]) && s.all bJ),h,[]⟩:=bO (aen (M:=aZ Tryz.prog FT [(257,zM)]) bm s q257) rfl rfl rfl;exact bO (aeo (M:=aZ Tryz.prog FT [(209,zN)]) bm s q209) rfl rfl rfl h
theorem aeW:∀(s:ah) h,s≠[]->s.length<=18->s.all bJ=true->zO [.str s] h=some ⟨.au [.iV (aP 0 s),.dh],h,[]⟩:=fun s h h0 hl hd=>bO (adX ⟨bm,fun _ _=>rfl⟩ s h0 hl hd) rfl rfl rfl h
noncomputable def Gb:Spec:=sK [(244,nX)] 300
theorem aeX:aT Tryz.prog gl 300 Gb:=bh (aO EP bA)
theorem aeY {k:Nat}(hk:k<=64):∀h,Gb [.uV 1,.uV k] h=some ⟨.au [.uV 0,.uV k],h,[]⟩:=
 bO (aep (M:=aZ Tryz.prog FT [(244,nX)]) bm k fun h=>by
  have:=ET 1 k h am ac;rw[show (1:Int)*k/18446744073709551616=0 by omega,show (1:Int)*k%18446744073709551616=k by omega]at this;exact this) rfl rfl rfl
noncomputable def ON:List (Nat×Spec):=[(300,Gb),(212,uD)]
noncomputable def Gc:Spec:=sK ON 264
theorem aeZ:aT Tryz.prog gl 264 Gc:=bh (aO aeX (aO OJ bA))
set_option maxRecDepth 1000000 in
theorem afa:∀(k:Nat) h,k<=64->Gc [.str [48],.iV k] h=some ⟨.str (b7 k 48),h,[]⟩:=fun k h hk=>
 bO (aer (M:=aZ Tryz.prog FT ON) bm k hk (aeY hk) (fun h=>zI oM 48 h am) (fun h=>zI OA 48 h am) (fun h=>zI OB 48 h am)) rfl rfl rfl h
end Go.Ab.Ch1
