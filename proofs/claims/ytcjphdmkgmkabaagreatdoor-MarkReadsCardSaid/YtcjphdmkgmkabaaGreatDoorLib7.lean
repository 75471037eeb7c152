/-
  Own work: texts: the first place of a byte, cuts.
-/
import Derived.Test.YtcjphdmkgmkabaaGreatDoorLib6
import Derived.Test.YtcjphdmkgmkabaaGreatDoorLib3
import Derived.Test.YtcjphdmkgmkabaaGreatDoorLib4
import Derived.Lib.Bytealg
import Derived.Test.YtcjphdmkgmkabaaGreatDoorCh1Base
set_option maxHeartbeats 8000000
set_option maxRecDepth 20000
namespace Go.Ab.Ch1
open Go.Ab.aD
variable {M:au} {cap:Option Nat}
theorem LY {t esz n0:Nat}{x i:an}{l:List aw}{pe:List AV}{lo:List (Nat×AV)}{hp:ab}{df wr:List Nat}{b o:Nat}{k:IntKind}{n:Int}{Q:ah->Prop}(hx:(St.mk pe lo hp df).aa x=some (.ptr b o))(hy:(St.mk pe lo hp df).aa i=some (.int k n))(hb:0<=n/\n<n0)
 (h:WO M l ⟨⟨pe,(t,.ptr b (o+n.toNat*esz))::lo,hp,df⟩,wr⟩ Q):WO M (⟨.l t,.ee (some n0) esz x i,none⟩::l) ⟨⟨pe,lo,hp,df⟩,wr⟩ Q:=
 Kd (v:=.ptr b (o+n.toNat*esz)) (by simp[aC,hx,hy,iA,hb]) rfl h
theorem LZ {t:Nat}{x y:an}{l:List aw}{pe:List AV}{lo:List (Nat×AV)}{hp:ab}{df wr:List Nat}{a b:Int}{Q:ah->Prop}(hx:(St.mk pe lo hp df).aa x=some (.int .u8 a))(hy:(St.mk pe lo hp df).aa y=some (.int .u8 b))(hr:0<=a-b/\a-b<256)
 (h:WO M l ⟨⟨pe,(t,.int .u8 (a-b))::lo,hp,df⟩,wr⟩ Q):WO M (⟨.l t,.bin .sub x y,none⟩::l) ⟨⟨pe,lo,hp,df⟩,wr⟩ Q:=
 Kd (v:=.int .u8 (a-b)) (by
  have:IntKind.u8.wrap (a-b)=a-b:=by simp only[IntKind.wrap,IntKind.bits,IntKind.signed];simp;omega
  simp only[aC,hx,hy,cf,if_true,this]) rfl h
def hasB (c:Int)(s:ae):Bool:=s.any (fun b=>decide ((b.toNat:Int)=c))
theorem FC (s:ae)(b:UInt8):decide (0<=firstIdx ⟨s.toArray⟩ b)=hasB b.toNat s:=by
 unfold firstIdx hasB;have hsz:(ByteArray.mk s.toArray).size=s.length:=by simp[ByteArray.size]
 have hg:∀i,i<s.length->(ByteArray.mk s.toArray)[i]! = s[i]! := fun i hi=>by
  have h1:i<(ByteArray.mk s.toArray).size:=by rw[hsz];exact hi
  rw[getElem!_pos (ByteArray.mk s.toArray) i h1,getElem!_pos s i hi];rfl
 cases hf:(List.range (ByteArray.mk s.toArray).size).find? fun i=>(ByteArray.mk s.toArray)[i]! == b with
 | some i=>
  have h1:=List.find?_some hf;have h2:=List.mem_of_find?_eq_some hf;rw[List.mem_range,hsz]at h2;rw[hg i h2]at h1;symm
  simp only[decide_eq_true (show (0:Int)<=(i:Int) by omega)];rw[List.any_eq_true];refine⟨s[i],List.getElem_mem h2,?_⟩;rw[getElem!_pos s i h2]at h1;simp at h1;simp[h1]
 | none=>
  rw[List.find?_eq_none]at hf;symm
  rw[show decide ((0:Int) <= -1)=false from rfl];rw[List.any_eq_false];intro x hx;obtain⟨i,hi,rfl⟩:=List.mem_iff_getElem.1 hx;have:=hf i (by rw[List.mem_range,hsz];exact hi);rw[hg i hi,getElem!_pos s i hi]at this;simp at this;simp only[decide_eq_true_eq];intro e;exact this (UInt8.toNat_inj.1 (by omega))
structure jZ (M:au):Prop where
 ft:M.FT=FT
 qZ:∀ars h,M.ext 256 ars h=none
 ra:∀ars h,M.ext 282 ars h=none
 rb:∀(s:ae) (c:Int) h,M.ext 312 [.str s,.int .u8 c] h=some ⟨.iV (firstIdx ⟨s.toArray⟩ c.toNat.toUInt8),h,[]⟩
theorem vX (b:UInt8):((b.toNat:Int)).toNat.toUInt8=b:=by simp
theorem FD (C:jZ M)(s:ae)(b:UInt8)(H:ab):CT M (gn 282) [.str s,.int .u8 b.toNat] H ⟨.iV (firstIdx ⟨s.toArray⟩ b),H,[]⟩:=by
 have hc:=C.rb s b.toNat H;rw[vX]at hc;refine CT.run (C.ra _ _) (ik (by rw[C.ft];exact Fq) (by simp) ?_);simp only[List.nil_append,List.append_nil];unfold vQ;simp only[enter];repeat' first|apply Ke|apply aj|apply Kf|apply Kg|apply Ki|(apply Km;rfl;rfl;first|exact hc)|(apply Kd;rfl;rfl)|(apply Kh;rfl;rfl)
 exact⟨.inr rfl,rfl,rfl,rfl,_,rfl,rfl⟩
theorem vY (C:jZ M)(s:ae)(b:UInt8)(H:ab):CT M (gn 256) [.str s,.str [b]] H ⟨.iV (firstIdx ⟨s.toArray⟩ b),H,[]⟩:=by
 have hc:=FD C s b H;have hn0:¬(([b]:ae).length:Int)=0:=by simp
 have hn:(([b]:ae).length:Int)=1:=rfl;refine CT.run (C.qZ _ _) (ik (by rw[C.ft];exact Fp) (by simp) ?_);simp only[List.nil_append,List.append_nil];unfold vP;simp only[enter];by_cases hs:([b]:ae)=s
 . subst hs;have e:firstIdx ⟨([b]:ae).toArray⟩ b=0:=by
    have h1:=FC [b] b;have h2:hasB b.toNat [b]=true:=by simp[hasB]
    rw[h2,decide_eq_true_eq]at h1;unfold firstIdx at h1 ⊢;rw[show (ByteArray.mk ([b]:ae).toArray).size=1 from rfl]at h1 ⊢;rw[show List.range 1=[0] from rfl]at h1 ⊢;have h3:((ByteArray.mk ([b]:ae).toArray)[0]! == b)=true:=by
     cases hq:((ByteArray.mk ([b]:ae).toArray)[0]! == b) with
     | true=>rfl
     | false=>simp[hq]at h1
    simp only[List.find?_cons,h3];rfl
   rw[e];repeat' first|(apply KA;rfl;rfl;all_goals first|(intro h;exact absurd rfl h)|intro _)|apply Ke|apply aj|apply Kf|apply Kg|apply Kn|apply Ki|apply aF|apply cD|(apply Kj;rfl)|(apply Kv;rfl)|(apply Ks;rfl;rfl)|(apply Kq;rfl;rfl)|(apply Kd;rfl;rfl)|(apply Kh;rfl;rfl)|(intro _;omega)|intro _
   all_goals exact⟨.inr rfl,rfl,rfl,rfl,_,rfl,rfl⟩
 . repeat' first|(apply KA;rfl;rfl;all_goals first|(intro h;exact absurd h hs)|intro _)|apply Ke|apply aj|apply Kf|apply Kg|apply Kn|apply Ki|apply aF|apply cD|(apply Kj;rfl)|(apply Kk;rfl)|(apply Kv;rfl)|(apply Ks;rfl;rfl)|(apply Kq;rfl;rfl)|(apply KO;rfl;rfl;first|exact hc)|(apply KP;rfl;rfl;omega)|(apply Kd;rfl;rfl)|(apply Kh;rfl;rfl)|(intro _;omega)|intro _
   all_goals exact⟨.inr rfl,rfl,rfl,rfl,_,rfl,rfl⟩
def aN (b:UInt8):ae->ae×Option ae
 | []=>([],none)
 | c::s=>if c=b then ([],some s) else (c::(aN b s).1,(aN b s).2)
def aU (b:UInt8):ae->List ae
 | []=>[[]]
 | c::s=>if c=b then []::aU b s else match aU b s with
   | []=>[[c]]
   | x::l=>(c::x)::l
def dc (b:UInt8):ae->Nat
 | []=>0
 | c::s=>(if c=b then 1 else 0)+dc b s
theorem vZ (b:UInt8):∀s:ae,aU b s≠[]
 | []=>by simp[aU]
 | c::s=>by
  rw[aU];split
  . simp
  . split <;> simp
theorem re (b:UInt8):∀s:ae,(aU b s).length=dc b s+1
 | []=>rfl
 | c::s=>by
  have:=re b s;rw[aU,dc];split
  . rw[List.length_cons,this];omega
  . split
    . rename_i h;exact absurd h (vZ b s)
    . rename_i x l h;rw[h]at this;simp only[List.length_cons]at this ⊢;omega
theorem rf (b:UInt8):∀s:ae,dc b s<=s.length
 | []=>Nat.le_refl _
 | c::s=>by
  have:=rf b s;rw[dc,List.length_cons];split <;> omega
theorem ka {b:UInt8}:∀{s:ae},(aN b s).2=none->(aN b s).1=s/\aU b s=[s]/\dc b s=0
 | [],_=>⟨rfl,rfl,rfl⟩
 | c::s,h=>by
  rw[aN]at h ⊢;by_cases hc:c=b
  . rw[if_pos hc]at h;cases h
  . rw[if_neg hc]at h ⊢;obtain⟨h1,h2,h3⟩:=ka (s:=s) h;refine⟨by simp only;rw[h1],?_,?_⟩
    . rw[aU,if_neg hc,h2]
    . rw[dc,if_neg hc,h3]
theorem kb {b:UInt8}:∀{s y:ae},(aN b s).2=some y->s=(aN b s).1++b::y/\aU b s=(aN b s).1::aU b y/\dc b s=dc b y+1/\b∉(aN b s).1
 | [],y,h=>by cases h
 | c::s,y,h=>by
  rw[aN]at h ⊢;by_cases hc:c=b
  . rw[if_pos hc]at h ⊢;obtain rfl:s=y:=Option.some.inj h;subst hc;refine⟨rfl,?_,?_,by simp⟩
    . rw[aU,if_pos rfl]
    . rw[dc,if_pos rfl];omega
  . rw[if_neg hc]at h ⊢;obtain⟨h1,h2,h3,h4⟩:=kb (s:=s) h;refine⟨by simp only[List.cons_append];rw[←h1],?_,?_,?_⟩
    . rw[aU,if_neg hc,h2]
    . rw[dc,if_neg hc,h3];omega
    . simp only[List.mem_cons,not_or];exact⟨fun e=>hc e.symm,h4⟩
theorem wa {b:UInt8}:∀{s:ae},dc b s=0->(aN b s).2=none
 | [],_=>rfl
 | c::s,h=>by
  rw[dc]at h;by_cases hc:c=b
  . rw[if_pos hc]at h;omega
  . rw[if_neg hc]at h;rw[aN,if_neg hc];exact wa (s:=s) (by omega)
theorem wb (s:ae)(b:UInt8):firstIdx ⟨s.toArray⟩ b=if (aN b s).2=none then -1 else ((aN b s).1.length:Int):=by
 have hsz:(ByteArray.mk s.toArray).size=s.length:=by simp[ByteArray.size]
 have hg:∀i,i<s.length->(ByteArray.mk s.toArray)[i]! = s[i]! := fun i hi=>by
  have h1:i<(ByteArray.mk s.toArray).size:=by rw[hsz];exact hi
  rw[getElem!_pos (ByteArray.mk s.toArray) i h1,getElem!_pos s i hi];rfl
 unfold firstIdx;cases hy:(aN b s).2 with
 | none=>
  rw[if_pos rfl];cases hf:(List.range (ByteArray.mk s.toArray).size).find? fun i=>(ByteArray.mk s.toArray)[i]! == b with
  | none=>rfl
  | some i=>
   exfalso;have h1:=List.find?_some hf;have h2:=List.mem_of_find?_eq_some hf;rw[List.mem_range,hsz]at h2;rw[hg i h2,getElem!_pos s i h2]at h1;have hm:b∈s:=by
    have:s[i]=b:=by simpa using h1
    rw[←this];exact List.getElem_mem h2
   have h0:=(ka hy).2.2;have:∀s:ae,b∈s->0<dc b s:=fun s=>by
    induction s with
    | nil=>intro h;cases h
    | cons c s ih=>
     intro h;rw[dc];rcases List.mem_cons.1 h with rfl|h
     . rw[if_pos rfl];omega
     . have:=ih h;omega
   have:=this s hm;omega
 | some y=>
  rw[if_neg (by simp)];obtain⟨h1,_,_,h4⟩:=kb hy;generalize (aN b s).1=x at h1 h4 ⊢;have hl:x.length<s.length:=by rw[h1];simp
  have hf:((List.range (ByteArray.mk s.toArray).size).find? fun i=>(ByteArray.mk s.toArray)[i]! == b)=some x.length:=by
   rw[hsz,List.find?_range_eq_some];refine⟨?_,by simpa using hl,fun j hj=>?_⟩
   . rw[hg _ hl,getElem!_pos s _ hl];have:s[x.length]? = some b:=by rw[h1];simp
     rw[List.getElem?_eq_getElem hl]at this;simp[Option.some.inj this]
   . rw[hg j (by omega),getElem!_pos s j (by omega)];have:s[j]? = x[j]? := by rw[h1,List.getElem?_append_left hj]
     rw[List.getElem?_eq_getElem (by omega:j<s.length),List.getElem?_eq_getElem hj]at this;rw[Option.some.inj this];have hne:x[j]≠b:=fun e=>h4 (by rw[←e];exact List.getElem_mem hj)
     simp[hne]
  rw[hf]
def eW (b:UInt8)(s:ae):AV:=.aq [.str (aN b s).1,.str ((aN b s).2.getD []),.bool (aN b s).2.isSome]
theorem rh {b:UInt8}{s y:ae}(h:(aN b s).2=some y):s.length=(aN b s).1.length+1+y.length:=by
 have:=congrArg List.length (kb h).1;simp only[List.length_append,List.length_cons]at this;omega
theorem wc {b:UInt8}{s y:ae}(h:(aN b s).2=some y):s.take (aN b s).1.length=(aN b s).1:=by
 have e:=(kb h).1;generalize (aN b s).1=x at e ⊢;rw[e];simp
theorem we {b:UInt8}{s y:ae}(h:(aN b s).2=some y):s.drop ((aN b s).1.length+1)=y:=by
 have e:=(kb h).1;generalize (aN b s).1=x at e ⊢;rw[e];simp
theorem FE (n208:∀ars h,M.ext 208 ars h=none)(C:jZ M)(s:ae)(b:UInt8)(hl:s.length<1000000)(H:ab):CT M (gn 208) [.str s,.str [b]] H ⟨eW b s,H,[]⟩:=by
 have hc:=vY C s b H;have hn1:([b]:ae).length=1:=rfl;rw[wb]at hc;refine CT.run (n208 _ _) (ik (by rw[C.ft];exact Fm) (by simp) ?_);simp only[List.nil_append,List.append_nil];cases hy:(aN b s).2 with
 | none=>
  rw[if_pos hy]at hc;have h1:=(ka hy).1;unfold qX;simp only[enter];repeat' first|apply Ke|apply aj|apply Kf|apply Kg|apply Ki|apply Kl|(apply Kk;rfl)|(apply KJ;rfl;rfl)|(apply KO;rfl;rfl;first|exact hc)|(apply Kd;rfl;rfl)|(apply Kh;rfl;rfl)|(intro _;omega)|intro _
  refine⟨.inr rfl,rfl,rfl,rfl,_,rfl,?_⟩;simp only[eW,hy,h1];rfl
 | some y=>
  rw[if_neg (by rw[hy];simp)]at hc;have h1:=rh hy;have h2:=wc hy;have h3:=we hy;generalize hx:(aN b s).1=x at h1 h2 h3 hc;unfold qX;simp only[enter];repeat' first|(apply Lj (r:=x);rfl;rfl;omega;(rw[Int.toNat_natCast];exact h2))|(apply Lm (r:=y);rfl;rfl;omega;(rw[show ((x.length:Int)+(([b]:ae).length:Int)).toNat=x.length+1 by omega];exact h3))|apply Ke|apply aj|apply Kf|apply Kg|apply Ki|apply aF|(apply KV;rfl)|(apply Kj;rfl)|(apply KJ;rfl;rfl)|(apply KC;rfl;rfl;omega)|(apply KO;rfl;rfl;first|exact hc)|(apply Kd;rfl;rfl)|(apply Kh;rfl;rfl)|(intro _;omega)|intro _
  refine⟨.inr rfl,rfl,rfl,rfl,_,rfl,?_⟩;simp only[eW,hy,hx];rfl
theorem FF (n208:∀ars h,M.ext 208 ars h=none)(C:jZ M)(s:ae)(b:UInt8)(hl:s.length<1000000):aJ M 163 [.str s,.str [b]] [] ⟨eW b s,[],[]⟩:=by
 have hc:=FE n208 C s b hl [];unfold eW at hc ⊢;refine bq (by rw[C.ft];exact Fl) (by simp) ?_;unfold vO;simp only[enter];repeat' first|apply Ke|apply aj|apply Kf|apply Kg|apply Ki|(apply KO;rfl;rfl;first|exact hc)|(apply Kd;rfl;rfl)|(apply Kh;rfl;rfl)
 exact⟨.inr rfl,rfl,_,rfl,rfl,rfl⟩
@[irreducible] def cV:List AV:=(List.range 256).map fun i=>.bool (nu i)
def gL:ae:=[48,49,50,51,52,53,54,55,56,57]
set_option maxRecDepth 1000000 in
theorem FG (M:au):dP (az M.ext M.inv M.FT 100) (fun _=>some ⟨21,[0,2,3,4,5],[.cell 256 true (.p 1),.var (.p 2)],qY⟩) 288 [.str gL] []=some ⟨.aq [.agg cV,.bool true],[],[]⟩:=by
 kernel_rfl
theorem FH {run:ao->ah->Option (Ex×ah)}{F G:FuncId->Option bJ}{f:FuncId}(h:F f=G f)(ars:List AV)(hp:ab):dP run F f ars hp=dP run G f ars hp:=by
 simp only[dP,h]
theorem FI (hft:M.FT=FT):aJ M 288 [.str gL] [] ⟨.aq [.agg cV,.bool true],[],[]⟩:=by
 have h2:M.FT 288=(fun _=>some ⟨21,[0,2,3,4,5],[.cell 256 true (.p 1),.var (.p 2)],qY⟩:FuncId->Option bJ) 288:=by rw[hft];exact Fv
 exact⟨100,(FH h2 _ _).trans (FG M)⟩
structure jg (M:au):Prop where
 ft:M.FT=FT
 wg:∀ars h,M.ext 314 ars h=none
 wh:∀ars h,M.ext 289 ars h=none
 wi:∀ars h,M.ext 290 ars h=none
 nH:∀h,M.ext 288 [.str gL] h=some ⟨.aq [.agg cV,.bool true],h,[]⟩
theorem FJ {c:Nat}(h:c<256):cV[c]? = some (.bool (nu c)):=by
 simp[cV,h]
theorem FK {c:UInt8}:partOf (cV.drop (0+((c.toNat:Int)).toNat*1)) 0 1 false=some (.bool (bk c)):=by
 have hc:c.toNat<256:=c.toNat_lt;rw[tZ,Int.toNat_natCast,Nat.zero_add,Nat.mul_one];simp only[partOf,Bool.false_eq_true,if_false];exact FJ hc
theorem wj (C:jg M)(c:UInt8){H:ab}{b:Nat}(hb:H.at b=some (.cells cV 286)):CT M (gn 314) [.ptr b 0,.int .u8 c.toNat] H ⟨.bool (bk c),H,[]⟩:=by
 have hc:c.toNat<256:=c.toNat_lt;refine CT.run (C.wg _ _) (ik (by rw[C.ft];exact Fy) (by simp) ?_);simp only[List.nil_append,List.append_nil];unfold vV;simp only[enter];repeat' first|(apply LY;rfl;rfl;omega)|(apply LC;rfl;exact hb;exact FK)|apply Ke|apply aj|apply Kf|apply Kg|apply Ki|(apply Kd;rfl;rfl)|(apply Kh;rfl;rfl)
 exact⟨.inr rfl,rfl,rfl,rfl,_,rfl,rfl⟩
def fI (s:ae):ae:=s.dropWhile bk
def eK (s:ae):ae:=(s.reverse.dropWhile bk).reverse
theorem wk (s:ae)(c:UInt8):eK (s++[c])=if bk c then eK s else s++[c]:=by
 unfold eK;rw[List.reverse_append,List.reverse_singleton,List.singleton_append,List.dropWhile_cons];split
 . rfl
 . simp
theorem FL (C:jg M){H:ab}{b:Nat}(hb:H.at b=some (.cells cV 286)){Q:Ex->ah->Prop}:∀(n:Nat) (s:ae) (lo:List (Nat×AV)) (wr:List Nat) (_:wr=[]),s.length=n->n<1000000 ->
 (∀lo,Q (.exit 0) ⟨⟨[.str (eK s),.ptr b 0,.str []],lo,H,[]⟩,[]⟩)->W M (.loop lB) ⟨⟨[.str s,.ptr b 0,.str []],lo,H,[]⟩,wr⟩ Q:=by
 intro n;induction n with
 | zero=>
  intro s lo wr hw hs hn hQ;subst hw;obtain rfl:s=[]:=List.length_eq_zero_iff.1 hs;have h0:([]:ae).length=0:=rfl;refine W.loop ?_;unfold lB;repeat' first|apply Ke|apply aj|apply Kf|apply Kg|apply Kx|apply bX|apply cB|(apply Kk;rfl)|(apply Ku;rfl;rfl)|(apply Kd;rfl;rfl)|(intro _;omega)|intro _
  exact hQ _
 | succ n ih=>
  intro s lo wr hw hs hn hQ;subst hw;rcases List.eq_nil_or_concat s with rfl|⟨t,c,e⟩
  . cases hs
  . rw[List.concat_eq_append]at e;subst e;have hl:(t++[c]).length=t.length+1:=by simp
    have hg:(t++[c])[(((t++[c]).length:Int)-1).toNat]! = c:=by
     rw[show (((t++[c]).length:Int)-1).toNat=t.length by omega,getElem!_pos _ _ (by simp)];simp
    have hc:=wj C c hb;rw[wk]at hQ;cases hd:bk c with
    | true=>
     rw[hd]at hc;rw[if_pos hd]at hQ;refine W.loop ?_;unfold lB;repeat' first|(rw[hg])|(apply Lj (r:=t);rfl;rfl;omega;(rw[show (((t++[c]).length:Int)-1).toNat=t.length by omega];simp))|apply Ke|apply aj|apply Kf|apply Kg|apply Kn|apply Kl|apply bn|(apply Kj;rfl)|(apply Kk;rfl)|(apply Ku;rfl;rfl)|(apply KU;rfl;rfl;omega)|(apply KO;rfl;rfl;first|exact hc)|(apply KP;rfl;rfl;omega)|(apply Kd;rfl;rfl)|(apply Kh;rfl;rfl)|(intro _;omega)|intro _
     refine iQ ?_;exact ih t _ _ rfl (by omega) (by omega) hQ
    | false=>
     rw[hd]at hc;rw[if_neg (by rw[hd];simp)]at hQ;refine W.loop ?_;unfold lB;repeat' first|(rw[hg])|apply Ke|apply aj|apply Kf|apply Kg|apply Kn|apply Kx|apply Kl|apply bX|(apply dk;rfl)|apply cB|(apply Kj;rfl)|(apply Ku;rfl;rfl)|(apply KU;rfl;rfl;omega)|(apply KO;rfl;rfl;first|exact hc)|(apply KP;rfl;rfl;omega)|(apply Kd;rfl;rfl)|(intro _;omega)|intro _
     exact hQ _
theorem FM (C:jg M){H:ab}{b:Nat}(hb:H.at b=some (.cells cV 286))(s:ae)(hl:s.length<1000000):CT M (gn 290) [.str s,.ptr b 0] H ⟨.str (eK s),H,[]⟩:=by
 refine CT.run (C.wi _ _) (ik (by rw[C.ft];exact Fx) (by simp) ?_);simp only[List.nil_append,List.append_nil];unfold vU;simp only[enter];repeat' first|apply Ke|apply aj|apply Kf|apply Kg|apply Kn|(apply Kh;rfl;rfl)
 refine FL C hb s.length s _ _ rfl rfl hl fun lo=>?_
 repeat' first|apply Ke|apply aj|apply Kf|apply Kg|apply Ki|apply cg|(apply Kd;rfl;rfl)|(apply Kh;rfl;rfl)
 exact⟨.inr rfl,rfl,rfl,rfl,_,rfl,rfl⟩
theorem wm (C:jg M){H:ab}{b:Nat}(hb:H.at b=some (.cells cV 286)){Q:Ex->ah->Prop}:∀(s:ae) (lo:List (Nat×AV)) (wr:List Nat) (_:wr=[]),s.length<1000000 ->
 (∀lo,Q (.exit 0) ⟨⟨[.str (fI s),.ptr b 0,.str []],lo,H,[]⟩,[]⟩)->W M (.loop lA) ⟨⟨[.str s,.ptr b 0,.str []],lo,H,[]⟩,wr⟩ Q
 | [],lo,wr,hw,hn,hQ=>by
  subst hw;have h0:([]:ae).length=0:=rfl;refine W.loop ?_;unfold lA;repeat' first|apply Ke|apply aj|apply Kf|apply Kg|apply Kx|apply bX|apply cB|(apply Kk;rfl)|(apply Ku;rfl;rfl)|(apply Kd;rfl;rfl)|(intro _;omega)|intro _
  exact hQ _
 | c::s,lo,wr,hw,hn,hQ=>by
  subst hw;have hl:(c::s).length=s.length+1:=rfl;have hc:=wj C c hb;have e:fI (c::s)=if bk c then fI s else c::s:=List.dropWhile_cons ..
  rw[e]at hQ;cases hd:bk c with
  | true=>
   rw[hd]at hc;rw[if_pos hd]at hQ;refine W.loop ?_;unfold lA;repeat' first|(apply Lm (r:=s);rfl;rfl;omega;rfl)|apply Ke|apply aj|apply Kf|apply Kg|apply Kn|apply Kl|apply bn|(apply Kj;rfl)|(apply Kk;rfl)|(apply Ku;rfl;rfl)|(apply KO;rfl;rfl;first|exact hc)|(apply KP;rfl;rfl;omega)|(apply Kd;rfl;rfl)|(apply Kh;rfl;rfl)|(intro _;omega)|intro _
   refine iQ ?_;exact wm C hb s _ _ rfl (by omega) hQ
  | false=>
   rw[hd]at hc;rw[if_neg (by rw[hd];simp)]at hQ;refine W.loop ?_;unfold lA;repeat' first|apply Ke|apply aj|apply Kf|apply Kg|apply Kn|apply Kx|apply Kl|apply bX|(apply dk;rfl)|apply cB|(apply Kj;rfl)|(apply Ku;rfl;rfl)|(apply KO;rfl;rfl;first|exact hc)|(apply KP;rfl;rfl;omega)|(apply Kd;rfl;rfl)|(intro _;omega)|intro _
   exact hQ _
theorem FN (C:jg M){H:ab}{b:Nat}(hb:H.at b=some (.cells cV 286))(s:ae)(hl:s.length<1000000):CT M (gn 289) [.str s,.ptr b 0] H ⟨.str (fI s),H,[]⟩:=by
 refine CT.run (C.wh _ _) (ik (by rw[C.ft];exact Fw) (by simp) ?_);simp only[List.nil_append,List.append_nil];unfold vT;simp only[enter];repeat' first|apply Ke|apply aj|apply Kf|apply Kg|apply Kn|(apply Kh;rfl;rfl)
 refine wm C hb s _ _ rfl hl fun lo=>?_
 repeat' first|apply Ke|apply aj|apply Kf|apply Kg|apply Ki|apply cg|(apply Kd;rfl;rfl)|(apply Kh;rfl;rfl)
 exact⟨.inr rfl,rfl,rfl,rfl,_,rfl,rfl⟩
theorem wo {p:UInt8->Bool}:∀s:ae,(s.dropWhile p).length<=s.length
 | []=>Nat.le_refl _
 | c::s=>by
  rw[List.dropWhile_cons];have:=wo (p:=p) s;split
  . rw[List.length_cons];omega
  . exact Nat.le_refl _
theorem FO (s:ae):(eK s).length<=s.length:=by
 unfold eK;have:=wo (p:=bk) s.reverse;simpa using this
theorem wq:cV.length=256:=by simp[cV]
theorem FP:cV.all dg=true:=by
 simp only[cV,List.all_map,List.all_eq_true];intro x _;rfl
theorem FQ {a b:List AV}(h:a.length=b.length):overwrite a 0 b=b:=by
 unfold overwrite;rw[List.take_zero,List.nil_append,List.drop_of_length_le (by omega),List.append_nil]
theorem wu:nF.length=256:=by kernel_rfl
theorem FU:overwrite nF 0 cV=cV:=FQ (by rw[wq,wu])
theorem wv (C:jg M)(s:ae)(hl:s.length<1000000):aJ M 257 [.str s,.str gL] [] ⟨.str (fI (eK s)),[],[]⟩:=by
 have hD:gL.length=10:=rfl;have hT:=FO s;have nH:=C.nH [];have hb:ab.at [some (.cells cV 286)] 0=some (.cells cV 286):=rfl;have q1:=FM C hb s hl;have q2:=FN C hb (eK s) (by omega);refine bq (by rw[C.ft];exact Ft) (by simp) ?_;unfold vS;simp only[enter];by_cases h0:s=[]
 . subst h0;repeat' first|(apply KA;rfl;rfl;intro _;rotate_left;(intro h;exact absurd rfl h))|apply Ke|apply aj|apply Kf|apply Kg|apply Ki|apply aF|(apply Kj;rfl)|(apply KD;rfl)|(apply Kp;rfl;rfl)|(apply Kd;rfl;rfl)|(apply Kh;rfl;rfl)
   exact⟨.inr rfl,rfl,_,rfl,rfl,rfl⟩
 . repeat' first|(apply KA;rfl;rfl;(intro h;first|exact absurd h h0|exact absurd h (by decide));intro _)|apply Ke|apply aj|apply Kf|apply Kg|apply Ki|apply Kl|apply aF|(apply Kj;rfl)|(apply Kk;rfl)|(apply Kv;rfl)|(apply KB;rfl)|(apply Ks;rfl;rfl)|(apply Kq;rfl;rfl)|(apply Km;rfl;rfl;first|exact nH)|(apply KX (c':=cV);rfl;rfl;rfl;exact⟨wq,Nat.le_of_eq ((Nat.zero_add _).trans wu.symm),FP⟩;exact FU)|(apply KO;rfl;rfl;first|exact q1|exact q2)|(apply Ko;rfl;rfl;rfl)|(apply Kd;rfl;rfl)|(apply Kh;rfl;rfl)|(intro _;omega)|intro _
   exact⟨.inr rfl,rfl,_,rfl,rfl,rfl⟩
structure wx (M:au):Prop where
 ft:M.FT=FT
 FV:∀ars h,M.ext 259 ars h=none
theorem FW {s:ae}{i:Nat}(h:i<s.length):(aM s)[i]? = some (.int .u8 (s[i]!).toNat):=by
 rw[aM,List.getElem?_map,List.getElem?_eq_getElem h,getElem!_pos s i h];rfl
theorem FX {H:ab}{c:Nat}(s:ae)(hb:H.at c=some (.cells (aM s) 5))(hs:s.length<=18)(hd:s.all bk=true)(cp:Option Nat)(a1 a2 a3 a4 a7 a8:AV){Q:Ex->ah->Prop}:∀(r i n:Nat) (a6:AV) (lo:List (Nat×AV)) (wr:List Nat),i+r=s.length->n<10^i ->
 (∀a6 lo,Q (.exit 0) ⟨⟨[.str s,a1,a2,a3,a4,.iV (bG n (s.drop i)),a6,a7,a8,.sl c 0 s.length 1 cp,.iV s.length,.iV s.length],lo,H,[]⟩,wr⟩) ->
 W M (.loop nG) ⟨⟨[.str s,a1,a2,a3,a4,.iV n,a6,a7,a8,.sl c 0 s.length 1 cp,.iV s.length,.iV i],lo,H,[]⟩,wr⟩ Q:=by
 intro r;induction r with
 | zero=>
  intro i n a6 lo wr hi hn hQ;obtain rfl:i=s.length:=by omega
  rw[List.drop_length]at hQ;refine W.loop ?_;unfold nG;repeat' first|apply Ke|apply aj|apply Kf|apply Kg|apply Kx|apply bX|apply cB|(apply Kk;rfl)|(apply Kz;rfl;rfl)|(intro _;omega)|intro _
  exact hQ _ _
 | succ r ih=>
  intro i n a6 lo wr hi hn hQ;have hil:i<s.length:=by omega
  have hp:10^i<=10^17:=Nat.pow_le_pow_right (by decide) (by omega);have hg:s[i]! = s[i]:=getElem!_pos s i hil;have hm:=List.all_eq_true.1 hd (s[i]!) (by rw[hg];exact List.getElem_mem hil);have hx:=(jX _).1 hm;rw[List.drop_eq_getElem_cons hil,lv,←hg]at hQ;have hpart:partOf ((aM s).drop (0+((i:Int)).toNat*1)) 0 1 false=some (.int .u8 (s[i]!).toNat):=by
   rw[tZ,Int.toNat_natCast,Nat.zero_add,Nat.mul_one];simp only[partOf,Bool.false_eq_true,if_false];exact FW hil
  refine W.loop ?_;unfold nG;repeat' first|(apply LC;rfl;exact hb;exact hpart)|(apply LZ;rfl;rfl;omega)|apply Ke|apply aj|apply Kf|apply Kg|apply Kn|apply Kl|apply bn|(apply Kj;rfl)|(apply Kk;rfl)|(apply Kz;rfl;rfl)|(apply Ku;rfl;rfl)|(apply Lv;rfl;omega)|(apply KC;rfl;rfl;omega)|(apply Ll;rfl;rfl;omega)|(apply KZ;rfl;rfl;omega)|(apply Kd;rfl;rfl)|(apply Kh;rfl;rfl)|(intro _;omega)|intro _
  refine iQ ?_;have hpow:10^(i+1)=10*10^i:=by rw[Nat.pow_succ,Nat.mul_comm]
  have e:=ih (i+1) (10*n+((s[i]!).toNat-48));rw[show (((10*n+((s[i]!).toNat-48):Nat):Int))=(n:Int)*10+(((s[i]!).toNat:Int)-48) by omega,show (((i+1:Nat):Int))=(i:Int)+1 by omega]at e;exact e _ _ _ (by omega) (by omega) hQ
theorem FY (C:wx M)(s:ae)(h0:s≠[])(hl:s.length<=18)(hd:s.all bk=true)(H:ab):aJ M 259 [.str s] H ⟨.aq [.iV (bG 0 s),.bZ],H,[]⟩:=by
 have hpos:0<s.length:=List.length_pos_iff.2 h0;have hg:s[0]! = s[0]:=getElem!_pos s 0 hpos;have hx:48<=(s[Int.toNat 0]!).toNat/\(s[Int.toNat 0]!).toNat<58:=(jX _).1 (List.all_eq_true.1 hd (s[0]!) (by rw[hg];exact List.getElem_mem hpos));refine Cv (by rw[C.ft];exact Fk) (by simp) (Nat.zero_le _) ?_;unfold vN;simp only[enter];repeat' first|apply Ke|apply aj|apply Kf|apply Kg|apply Kn|apply Kl|(apply Kj;rfl)|(apply Kk;rfl)|(apply Ky;rfl)|(apply Kv;rfl)|(apply KB;rfl)|(apply KS;rfl)|(apply Kz;rfl;rfl)|(apply Ks;rfl;rfl)|(apply Kp;rfl;rfl)|(apply Kq;rfl;rfl)|(apply KP;rfl;rfl;omega)|(apply Ko;rfl;rfl;rfl)|(apply Kd;rfl;rfl)|(apply Kh;rfl;rfl)|(intro _;omega)|intro _
 refine FX (H:=H++[some (.cells (aM s) 5)]) (c:=H.length) s dt hl hd none _ _ _ _ _ _ s.length 0 0 _ _ _ (by omega) (by simp) (fun a6 lo=>?_);rw[List.drop_zero];repeat' first|apply Ke|apply aj|apply Kf|apply Kg|apply Ki|apply Kl|apply aF|apply cg|(apply Kk;rfl)|(apply Ks;rfl;rfl)|(apply KP;rfl;rfl;omega)|(apply Kd;rfl;rfl)|(apply Kh;rfl;rfl)|(intro _;omega)|intro _
 exact⟨.inr rfl,rfl,⟨_,rfl⟩,fun x h=>by simp at h,_,rfl,rfl⟩
theorem FZ (C:wx M)(s:ae)(h0:s≠[])(hl:s.length<=18)(hd:s.all bk=true):aJ M 214 [.str s] [] ⟨.aq [.iV (bG 0 s),.bZ],[],[]⟩:=by
 have hc:=CT.run (fi:=[]) (ca:=[]) (ars:=[.str s]) (C.FV _ _) (FY C s h0 hl hd []);refine bq (by rw[C.ft];exact Fj) (by simp) ?_;unfold vM;simp only[enter];repeat' first|apply Ke|apply aj|apply Kf|apply Kg|apply Ki|apply Kl|(apply Kk;rfl)|(apply KO;rfl;rfl;first|exact hc)|(apply Kd;rfl;rfl)|(apply Kh;rfl;rfl)
 exact⟨.inr rfl,rfl,_,rfl,rfl,rfl⟩
theorem dropWhile_nil {p:UInt8->Bool}:∀l:ae,l.dropWhile p=[]↔∀x∈l,p x=true
 | []=>by simp
 | c::l=>by
  rw[List.dropWhile_cons];split
  . rename_i h;rw[dropWhile_nil l];simp[h]
  . rename_i h;simp[h]
theorem wy (s:ae):fI (eK s)=[]↔s.all bk=true:=by
 rcases List.eq_nil_or_concat s with rfl|⟨t,c,e⟩
 . simp[fI,eK]
 . rw[List.concat_eq_append]at e;subst e;have hlen:t.length<(t++[c]).length:=by simp
   rw[wk];split
   . rename_i h;rw[wy t];simp only[List.all_append,List.all_cons,List.all_nil,h,Bool.and_true]
   . rename_i h;unfold fI;rw[dropWhile_nil,List.all_eq_true]
termination_by s.length
decreasing_by subst_vars;simp
def preB (b:UInt8)(s:ae):Bool:=decide (s.head? = some b)
theorem Ga (hft:M.FT=FT)(s:ae)(b:UInt8)(hl:s.length<1000000):aJ M 255 [.str s,.str [b]] [] ⟨.bool (preB b s),[],[]⟩:=by
 have hn1:([b]:ae).length=1:=rfl;refine bq (by rw[hft];exact Fi) (by simp) ?_;cases s with
 | nil=>
  have h0:([]:ae).length=0:=rfl;unfold qW;simp only[enter];repeat' first|apply Ke|apply aj|apply Kf|apply Kg|apply Ki|(apply KB;rfl)|(apply KJ;rfl;rfl)|(apply Kq;rfl;rfl)|(apply Kd;rfl;rfl)|(apply Kh;rfl;rfl)|(intro _;omega)|intro _
  all_goals try omega
  all_goals exact⟨.inr rfl,rfl,_,rfl,rfl,rfl⟩
 | cons c t=>
  have hcl:(c::t).length=t.length+1:=rfl;have hd:(c::t).take (([b]:ae).length:Int).toNat=[c]:=rfl;have he:preB b (c::t)=decide (c=b):=by simp[preB]
  rw[he];unfold qW;simp only[enter];by_cases hc:c=b
  . subst hc;rw[decide_eq_true rfl];repeat' first|(apply Lj;rfl;rfl;omega;exact hd)|(apply KA;rfl;rfl;intro _;rotate_left;(intro h;exact absurd rfl h))|apply Ke|apply aj|apply Kf|apply Kg|apply Ki|(apply Ky;rfl)|(apply KJ;rfl;rfl)|(apply Kp;rfl;rfl)|(apply Kd;rfl;rfl)|(apply Kh;rfl;rfl)|(intro _;omega)|intro _
    all_goals try omega
    all_goals exact⟨.inr rfl,rfl,_,rfl,rfl,rfl⟩
  . rw[decide_eq_false hc];repeat' first|(apply Lj;rfl;rfl;omega;exact hd)|(apply KA;rfl;rfl;(intro h;exact absurd (List.cons.inj h).1 hc);intro _)|apply Ke|apply aj|apply Kf|apply Kg|apply Ki|(apply Ky;rfl)|(apply KJ;rfl;rfl)|(apply Kp;rfl;rfl)|(apply Kd;rfl;rfl)|(apply Kh;rfl;rfl)|(intro _;omega)|intro _
    all_goals try omega
    all_goals exact⟨.inr rfl,rfl,_,rfl,rfl,rfl⟩
theorem Gb (hft:M.FT=FT)(s:ae)(b:UInt8)(q:∀h,M.ext 255 [.str s,.str [b]] h=some ⟨.bool (preB b s),h,[]⟩):aJ M 212 [.str s,.str [b]] [] ⟨.bool (preB b s),[],[]⟩:=by
 refine bq (by rw[hft];exact Fh) (by simp) ?_;unfold vL;simp only[enter];repeat' first|apply Ke|apply aj|apply Kf|apply Kg|apply Ki|(apply Km;rfl;rfl;first|exact q _)|(apply Kd;rfl;rfl)|(apply Kh;rfl;rfl)
 all_goals exact⟨.inr rfl,rfl,_,rfl,rfl,rfl⟩
variable {N N2:Nat}
set_option maxRecDepth 1000000
def gM (s:ae):Bool:=decide (s≠[]) && s.all bk && (decide (s[0]! ≠ 48) || decide (s=[48]))
theorem wz (hft:M.FT=FT)(s:ae)(q257:∀h,M.ext 257 [.str s,.str gL] h=some ⟨.str (fI (eK s)),h,[]⟩):aJ M 209 [.str s] [] ⟨.bool (decide (s≠[]) && s.all bk),[],[]⟩:=by
 refine bq (by rw[hft];exact Fs) (by simp) ?_;unfold vR;simp only[enter];by_cases h0:s=[]
 . rw[decide_eq_false (by simpa using h0),Bool.false_and];repeat' first|(apply KM;rfl;rfl;all_goals first|(intro h;exact absurd h0 h)|intro _)|apply Ke|apply aj|apply Kf|apply Kg|apply Ki|(apply KB;rfl)|(apply Kq;rfl;rfl)|(apply Kd;rfl;rfl)|(apply Kh;rfl;rfl)
   all_goals exact⟨.inr rfl,rfl,_,rfl,rfl,rfl⟩
 . rw[decide_eq_true h0,Bool.true_and];have ht:=wy s;cases hd:s.all bk with
   | true=>
    rw[ht.2 hd]at q257;repeat' first|(apply KM;rfl;rfl;all_goals first|(intro h;exact absurd h h0)|intro _)|apply Ke|apply aj|apply Kf|apply Kg|apply Ki|(apply Ky;rfl)|(apply Kp;rfl;rfl)|(apply Km;rfl;rfl;first|exact q257 _)|(apply KA;rfl;rfl;all_goals first|(intro h;exact absurd h (by decide))|(intro h;exact absurd rfl h)|(intro h;contradiction)|intro _)|(apply Kd;rfl;rfl)|(apply Kh;rfl;rfl)
    all_goals exact⟨.inr rfl,rfl,_,rfl,rfl,rfl⟩
   | false=>
    have hne:fI (eK s)≠[]:=fun e=>by rw[ht.1 e]at hd;cases hd
    repeat' first|(apply KM;rfl;rfl;all_goals first|(intro h;exact absurd h h0)|intro _)|(apply KA;rfl;rfl;all_goals first|(intro h;exact absurd h hne)|intro _)|apply Ke|apply aj|apply Kf|apply Kg|apply Ki|(apply Ky;rfl)|(apply Kp;rfl;rfl)|(apply Km;rfl;rfl;first|exact q257 _)|(apply Kd;rfl;rfl)|(apply Kh;rfl;rfl)
    all_goals exact⟨.inr rfl,rfl,_,rfl,rfl,rfl⟩
theorem Gc (hft:M.FT=FT)(s:ae)(q209:∀h,M.ext 209 [.str s] h=some ⟨.bool (decide (s≠[]) && s.all bk),h,[]⟩):aJ M 164 [.str s] [] ⟨.bool (gM s),[],[]⟩:=by
 refine bq (by rw[hft];exact Fz) (by simp) ?_;unfold gM;unfold vW;simp only[enter];cases hb:(decide (s≠[]) && s.all bk) with
 | false=>
  rw[hb]at q209;rw[Bool.false_and];repeat' first|apply Ke|apply aj|apply Kf|apply Kg|apply Ki|(apply KB;rfl)|(apply KS;rfl)|(apply Kq;rfl;rfl)|(apply Km;rfl;rfl;first|exact q209 _)|(apply Kd;rfl;rfl)|(apply Kh;rfl;rfl)
  all_goals exact⟨.inr rfl,rfl,_,rfl,rfl,rfl⟩
 | true=>
  rw[hb]at q209;rw[Bool.true_and];have hne:s≠[]:=by
   rw[Bool.and_eq_true]at hb;exact of_decide_eq_true hb.1
  have hpos:0<s.length:=List.length_pos_iff.2 hne;by_cases h48:s[0]! = 48
  . rw[decide_eq_false (by simpa using h48),Bool.false_or];have e48:((s[(0:Int).toNat]!).toNat:Int)=48:=by rw[show s[(0:Int).toNat]! = s[0]! from rfl,h48];rfl
    by_cases hs:s=[48]
    . rw[decide_eq_true hs];repeat' first|(apply KA;rfl;rfl;all_goals first|(intro h;exact absurd hs h)|intro _)|apply Ke|apply aj|apply Kf|apply Kg|apply Ki|(apply Ky;rfl)|(apply Kv;rfl)|(apply Kw;rfl;rfl)|(apply Kp;rfl;rfl)|(apply Kq;rfl;rfl)|(apply Km;rfl;rfl;first|exact q209 _)|(apply KP;rfl;rfl;omega)|(apply Kd;rfl;rfl)|(apply Kh;rfl;rfl)|(intro _;omega)|intro _
      all_goals try omega
      all_goals exact⟨.inr rfl,rfl,_,rfl,rfl,rfl⟩
    . rw[decide_eq_false hs];repeat' first|(apply KA;rfl;rfl;all_goals first|(intro h;exact absurd h hs)|intro _)|apply Ke|apply aj|apply Kf|apply Kg|apply Ki|(apply Ky;rfl)|(apply Kv;rfl)|(apply Kw;rfl;rfl)|(apply Kp;rfl;rfl)|(apply Kq;rfl;rfl)|(apply Km;rfl;rfl;first|exact q209 _)|(apply KP;rfl;rfl;omega)|(apply Kd;rfl;rfl)|(apply Kh;rfl;rfl)|(intro _;omega)|intro _
      all_goals try omega
      all_goals exact⟨.inr rfl,rfl,_,rfl,rfl,rfl⟩
  . rw[decide_eq_true (show s[0]! ≠ 48 from h48),Bool.true_or];have e48:((s[(0:Int).toNat]!).toNat:Int)≠48:=fun e=>h48 (UInt8.toNat_inj.1 (by rw[show s[(0:Int).toNat]! = s[0]! from rfl]at e;have:(48:UInt8).toNat=48:=rfl;omega))
    repeat' first|apply Ke|apply aj|apply Kf|apply Kg|apply Ki|(apply Ky;rfl)|(apply KD;rfl)|(apply Kw;rfl;rfl)|(apply Kp;rfl;rfl)|(apply Km;rfl;rfl;first|exact q209 _)|(apply KP;rfl;rfl;omega)|(apply Kd;rfl;rfl)|(apply Kh;rfl;rfl)|(intro _;omega)|intro _
    all_goals try omega
    all_goals exact⟨.inr rfl,rfl,_,rfl,rfl,rfl⟩
theorem Gd (hft:M.FT=FT)(k:Nat)(q:∀h,M.ext 244 [.uV 1,.uV k] h=some ⟨.aq [.uV 0,.uV k],h,[]⟩):aJ M 300 [.uV 1,.uV k] [] ⟨.aq [.uV 0,.uV k],[],[]⟩:=by
 refine bq (by rw[hft];exact Fg) (by simp) ?_;unfold vK;simp only[enter];repeat' first|apply Ke|apply aj|apply Kf|apply Kg|apply Ki|apply Kl|(apply Kk;rfl)|(apply Km;rfl;rfl;first|exact q _)|(apply Kd;rfl;rfl)|(apply Kh;rfl;rfl)
 all_goals exact⟨.inr rfl,rfl,_,rfl,rfl,rfl⟩
def jh:ae:=[48,48,48,48,48,48,48,48,48,48,48,48,48,48,48,48,48,48,48,48,48,48,48,48,48,48,48,48,48,48,48,48,48,48,48,48,48,48,48,48,48,48,48,48,48,48,48,48,48,48,48,48,48,48,48,48,48,48,48,48,48,48,48,48]
def wA:ae:=[32,32,32,32,32,32,32,32,32,32,32,32,32,32,32,32,32,32,32,32,32,32,32,32,32,32,32,32,32,32,32,32,32,32,32,32,32,32,32,32,32,32,32,32,32,32,32,32,32,32,32,32,32,32,32,32,32,32,32,32,32,32,32,32,32,32,32,32,32,32,32,32,32,32,32,32,32,32,32,32,32,32,32,32,32,32,32,32,32,32,32,32,32,32,32,32,32,32,32,32,32,32,32,32,32,32,32,32,32,32,32,32,32,32,32,32,32,32,32,32,32,32,32,32,32,32,32,32]
def wC:ae:=[45,45,45,45,45,45,45,45,45,45,45,45,45,45,45,45,45,45,45,45,45,45,45,45,45,45,45,45,45,45,45,45,45,45,45,45,45,45,45,45,45,45,45,45,45,45,45,45,45,45,45,45,45,45,45,45,45,45,45,45,45,45,45,45,45,45,45,45,45,45,45,45,45,45,45,45,45,45,45,45,45,45,45,45,45,45,45,45,45,45,45,45,45,45,45,45,45,45,45,45,45,45,45,45,45,45,45,45,45,45,45,45,45,45,45,45,45,45,45,45,45,45,45,45,45,45,45,45]
theorem Ge {k:Nat}(h:k<=64):jh.take k=List.replicate k 48:=by
 have:jh=List.replicate 64 48:=rfl;rw[this,List.take_replicate,Nat.min_eq_left h]
set_option maxRecDepth 100000 in
theorem Gf (hft:M.FT=FT)(k:Nat)(hk:k<=64)(q300:∀h,M.ext 300 [.uV 1,.uV k] h=some ⟨.aq [.uV 0,.uV k],h,[]⟩)(q212:∀h,M.ext 212 [.str jh,.str [48]] h=some ⟨.bool true,h,[]⟩)(q32:∀h,M.ext 212 [.str wA,.str [48]] h=some ⟨.bool false,h,[]⟩)(q45:∀h,M.ext 212 [.str wC,.str [48]] h=some ⟨.bool false,h,[]⟩):aJ M 264 [.str [48],.iV k] [] ⟨.str (List.replicate k 48),[],[]⟩:=by
 have hn1:([48]:ae).length=1:=rfl;have hz:jh.length=64:=rfl;have e48:(([48]:ae)[(0:Int).toNat]!).toNat=48:=rfl;refine bq (by rw[hft];exact Ff) (by simp) ?_;unfold vJ;simp only[enter];by_cases h0:k=0
 . subst h0;repeat' first|apply Ke|apply aj|apply Kf|apply Kg|apply Kn|apply Ki|apply aF|apply cD|(apply Kj;rfl)|(apply Ks;rfl;rfl)|(apply Kd;rfl;rfl)|(apply Kh;rfl;rfl)|(intro _;omega)|intro _
   all_goals try omega
   all_goals exact⟨.inr rfl,rfl,_,rfl,rfl,rfl⟩
 . by_cases h1:k=1
   . subst h1;repeat' first|apply Ke|apply aj|apply Kf|apply Kg|apply Kn|apply Ki|apply aF|apply cD|(apply Kj;rfl)|(apply Kk;rfl)|(apply Ks;rfl;rfl)|(apply Kd;rfl;rfl)|(apply Kh;rfl;rfl)|(intro _;omega)|intro _
     all_goals try omega
     all_goals exact⟨.inr rfl,rfl,_,rfl,rfl,rfl⟩
   . have hd:jh.take (k:Int).toNat=List.replicate k 48:=Ge hk;repeat' first|(apply Kh (op:=.index _ _) (v:=.int .u8 48);rfl;rfl)|(apply Lj (s:=jh);rfl;rfl;omega;exact hd)|(apply Lu (a:=1);rfl;omega)|apply Ke|apply aj|apply Kf|apply Kg|apply Kn|apply Ki|apply Kl|apply aF|apply bn|apply cD|(apply Kj;rfl)|(apply Kk;rfl)|(apply Ky;rfl)|(apply Kv;rfl)|(apply Kz;rfl;rfl)|(apply Le;rfl;rfl)|(apply Ku;rfl;rfl)|(apply Ks;rfl;rfl)|(apply Lu;rfl;omega)|(apply Lv;rfl;omega)|(apply Kp;rfl;rfl)|(apply Kq;rfl;rfl)|(apply Km;rfl;rfl;first|exact q300 _|exact q212 _|exact q32 _|exact q45 _)|(apply Kd;rfl;rfl)|(apply Kh;rfl;rfl)|(intro _;omega)|intro _
     all_goals try omega
     all_goals exact⟨.inr rfl,rfl,_,rfl,rfl,rfl⟩
open Go.Proofs
variable {T:List (Nat×Spec)}
noncomputable def wD:Spec:=sK [] 324
noncomputable def wE:Spec:=sK [] 325
theorem Gg:aV Tryz.prog gl 324 wD:=bU br
theorem Gh:aV Tryz.prog gl 325 wE:=bU br
noncomputable def wF:List (Nat×Spec):=[(240,qF),(324,wD),(325,wE)]
theorem Gi:vz (bA Tryz.prog FT wF) where
 ft:=bM
 vA:=fun x h hx=>Eo x h hx
 vB:=fun x h hx=>bQ (EG bM x hx) rfl rfl rfl h
 qP:=fun x h=>bQ (EH bM x) rfl rfl rfl h
noncomputable def wG:Spec:=sK [] 304
noncomputable def wH:Spec:=sK wF 305
theorem Gj:aV Tryz.prog gl 304 wG:=bU br
theorem Gk:aV Tryz.prog gl 305 wH:=bU (aL En (aL Gg (aL Gh br)))
noncomputable def ri:List (Nat×Spec):=[(304,wG),(305,wH)]
theorem Gl:cR Tryz.prog gl (cT ri):=aL Gj (aL Gk br)
theorem Gm:nE (bA Tryz.prog FT ri) where
 ft:=bM
 vG:=fun _ _=>rfl
 vH:=fun n h hn=>bQ (ET bM n hn) rfl rfl rfl h
 qV:=fun d h hd=>bQ (EM Gi d hd) rfl rfl rfl h
noncomputable def nI:Spec:=sK ri 267
noncomputable def nJ:Spec:=sK [(267,nI)] 226
noncomputable def lC:Spec:=sK [(226,nJ)] 183
theorem Gn:aV Tryz.prog gl 267 nI:=bU Gl
theorem Gp:aV Tryz.prog gl 226 nJ:=bU (aL Gn br)
theorem wI:aV Tryz.prog gl 183 lC:=bU (aL Gp br)
theorem Gq:∀z h,(-9223372036854775808<=z/\z<9223372036854775808)->lC [.iV z] h=some ⟨.str (eX z),h,[]⟩:=fun z h hz=>by
 have q267:∀h,nI [.iV z,.iV 10] h=some ⟨.str (eX z),h,[]⟩:=bQ (Fa Gm z hz) rfl rfl rfl;have q226:∀h,nJ [.iV z] h=some ⟨.str (eX z),h,[]⟩:=bQ (Fb (M:=bA Tryz.prog FT [(267,nI)]) bM z q267) rfl rfl rfl;exact bQ (Fc (M:=bA Tryz.prog FT [(226,nJ)]) bM z q226) rfl rfl rfl h
noncomputable def nK:Spec:=sK [] 255
noncomputable def rj:Spec:=sK [(255,nK)] 212
theorem Gr:aV Tryz.prog gl 255 nK:=bU br
theorem Gs:aV Tryz.prog gl 212 rj:=bU (aL Gr br)
theorem Gt:∀(s:ae) b h,s.length<1000000->nK [.str s,.str [b]] h=some ⟨.bool (preB b s),h,[]⟩:=fun s b h hl=>bQ (Ga bM s b hl) rfl rfl rfl h
theorem rk:∀(s:ae) b h,s.length<1000000->rj [.str s,.str [b]] h=some ⟨.bool (preB b s),h,[]⟩:=fun s b h hl=>
 bQ (Gb (M:=bA Tryz.prog FT [(255,nK)]) bM s b fun h=>Gt s b h hl) rfl rfl rfl h
def wJ:List (Nat×Spec):=[(312,kY .index)]
theorem Gu:jZ (bA Tryz.prog FT wJ) where
 ft:=bM
 qZ:=fun _ _=>rfl
 ra:=fun _ _=>rfl
 rb:=fun _ _ _=>rfl
noncomputable def nL:Spec:=sK wJ 163
theorem wK:aV Tryz.prog gl 163 nL:=bU (aL (pK qC) br)
theorem wL:∀(s:ae) b h,s.length<1000000->nL [.str s,.str [b]] h=some ⟨eW b s,h,[]⟩:=fun s b h hl=>bQ (FF (fun _ _=>rfl) Gu s b hl) rfl rfl rfl h
theorem Gv:cE cV=cV:=by
 unfold cV;induction List.range 256 with
 | nil=>rfl
 | cons a l ih=>
  rw[List.map_cons,cE,ih];rfl
theorem Gw:aY cV=0:=by
 unfold cV;induction List.range 256 with
 | nil=>rfl
 | cons a l ih=>simp only[List.map_cons,aY,ih,AV.top];rfl
noncomputable def nM:Spec:=sK [] 288
noncomputable def kc:Spec:=sK [(288,nM)] 257
noncomputable def kd:Spec:=sK [(257,kc)] 209
noncomputable def rl:Spec:=sK [(209,kd)] 164
noncomputable def rm:Spec:=sK [] 214
theorem Gx:aV Tryz.prog gl 288 nM:=bU br
theorem Gy:aV Tryz.prog gl 257 kc:=bU (aL Gx br)
theorem wM:aV Tryz.prog gl 209 kd:=bU (aL Gy br)
theorem Gz:aV Tryz.prog gl 164 rl:=bU (aL wM br)
theorem GA:aV Tryz.prog gl 214 rm:=bU br
theorem GB:∀h,nM [.str gL] h=some ⟨.aq [.agg cV,.bool true],h,[]⟩:=bQ (FI bM) rfl (by simp[AV.top,aY,Gw]) (by simp only[bz,cE,Gv])
theorem wN:jg (bA Tryz.prog FT [(288,nM)]) where
 ft:=bM
 wg:=fun _ _=>rfl
 wh:=fun _ _=>rfl
 wi:=fun _ _=>rfl
 nH:=GB
theorem GC:∀(s:ae) h,s.length<1000000->rl [.str s] h=some ⟨.bool (gM s),h,[]⟩:=fun s h hl=>by
 have q257:∀h,kc [.str s,.str gL] h=some ⟨.str (fI (eK s)),h,[]⟩:=bQ (wv wN s hl) rfl rfl rfl;have q209:∀h,kd [.str s] h=some ⟨.bool (decide (s≠[]) && s.all bk),h,[]⟩:=bQ (wz (M:=bA Tryz.prog FT [(257,kc)]) bM s q257) rfl rfl rfl;exact bQ (Gc (M:=bA Tryz.prog FT [(209,kd)]) bM s q209) rfl rfl rfl h
theorem GD:∀(s:ae) h,s≠[]->s.length<=18->s.all bk=true->rm [.str s] h=some ⟨.aq [.iV (bG 0 s),.bZ],h,[]⟩:=fun s h h0 hl hd=>bQ (FZ ⟨bM,fun _ _=>rfl⟩ s h0 hl hd) rfl rfl rfl h
noncomputable def rn:Spec:=sK [(244,nq)] 300
theorem GF:aV Tryz.prog gl 300 rn:=bU (aL El br)
theorem GG {k:Nat}(hk:k<=64):∀h,rn [.uV 1,.uV k] h=some ⟨.aq [.uV 0,.uV k],h,[]⟩:=
 bQ (Gd (M:=bA Tryz.prog FT [(244,nq)]) bM k fun h=>by
  have:=Em 1 k h (by decide) (by omega);rw[show (1:Int)*k/18446744073709551616=0 by omega,show (1:Int)*k%18446744073709551616=k by omega]at this;exact this) rfl rfl rfl
noncomputable def wO:List (Nat×Spec):=[(300,rn),(212,rj)]
noncomputable def rp:Spec:=sK wO 264
theorem GH:aV Tryz.prog gl 264 rp:=bU (aL GF (aL Gs br))
set_option maxRecDepth 1000000 in
theorem GI:∀(k:Nat) h,k<=64->rp [.str [48],.iV k] h=some ⟨.str (List.replicate k 48),h,[]⟩:=fun k h hk=>
 bQ (Gf (M:=bA Tryz.prog FT wO) bM k hk (GG hk) (fun h=>rk jh 48 h (by decide)) (fun h=>rk wA 48 h (by decide)) (fun h=>rk wC 48 h (by decide))) rfl rfl rfl h
def wP:ao:=zR [zx 1 49 3 0,zi 2 0] (.seq (zR [zf 5 0 1,zd 6 1 5,⟨.l 7,.bin .eql (.l 6) (.c (.str zD12)),none⟩] (.cond (.l 7) (.seq (.draw [(zf 8 2 1,[]),(zd 9 1 8,[]),(z1 10 112 9,[]),(zu 11 10,[]),(⟨.l 12,.call (kF 97) [(.l 11),(kI 1)],none⟩,[]),(zf 13 1 1,[0,1,2,3,4]),(zd 14 1 13,[0,1,2,3,4]),(zc 15 .neq 14 0,[0,1,2,3,4]),(⟨.l 16,.call (kF 97) [(.l 15),(kI 3)],none⟩,[]),(⟨.l 17,.fo 25 2 1 [.iV (0)] [(0,1,(.l 12)),(1,1,(.l 16))],none⟩,[]),(z1 18 96 17,[]),(zw 2 18,[])]) (.ret)) (.skip))) (.seq (.draw [(⟨.l 20,.call (kF 113) [],none⟩,[]),(zf 21 0 1,[0]),(zd 22 1 21,[0]),(⟨.l 23,.lookup .str (.agg [.iV (0),.iV (0),.bool false,.bY,.cH]) (.l 20) (.l 22) true,none⟩,[]),(zn 19 23,[]),(ze 24 0 19,[]),(ze 25 1 19,[5]),(⟨.p 3,.alloc 141 [.iV (0),.iV (0),.bool false,.bY,.cH],none⟩,[0,1,2,3,4,5,6]),(zs 5 3 24,[6]),(zw 4 25,[])]) (.seq (.draw [(zm 26 4,[]),(zu 27 26,[]),(⟨.l 28,.call (kF 97) [(.l 27),(kI 13)],none⟩,[]),(zf 29 2 1,[0,1,2]),(zd 30 1 29,[0,1,2]),(⟨.l 31,.bin .neq (.l 30) (.c (.str [])),none⟩,[0,1,2]),(⟨.l 32,.call (kF 97) [(.l 31),(kI 1)],none⟩,[]),(zf 33 1 1,[0,1,2,3,4,5,6]),(zd 34 1 33,[0,1,2,3,4,5,6]),(zf 35 0 3,[0,1,2,3,4,5,6,7,8]),(zd 36 1 35,[0,1,2,3,4,5,6,7,8]),(zf 37 1 3,[0,1,2,3,4,5,6,7,8,9,10]),(zd 38 1 37,[0,1,2,3,4,5,6,7,8,9,10]),(⟨.l 39,.call (kF 95) [(.l 34),(.l 36),(.l 38)],none⟩,[]),(⟨.l 40,.call (kF 97) [(.l 39),(kI 3)],none⟩,[]),(⟨.l 41,.fo 25 3 1 [.iV (0)] [(0,1,(.l 28)),(1,1,(.l 32)),(2,1,(.l 40))],none⟩,[]),(z1 42 96 41,[]),(zw 2 42,[])]) (.ret))))
theorem GJ:FT 36=some ⟨43,[0,1,2,3,4],[.var (.p 2)],wP⟩:=by kernel_rfl
def wQ:ao:=zR [⟨.p 0,.mv (.c (.bY)),none⟩] (zR [⟨.l 1,.fM,none⟩,⟨.l 2,.fM,none⟩,⟨.no,.eS .str (.l 2) (.c (.str zD10)) (kI 1),none⟩,⟨.no,.eS .str (.l 2) (.c (.str zD16)) (kI 100),none⟩,⟨.no,.eS .str (.l 2) (.c (.str zD15)) (kI 1000),none⟩,zn 3 2,⟨.l 4,.build [.iV (0),.iV (0),.bool false,.bY,.cH] [(0,1,(kI 1)),(1,1,(kI 863999999)),(2,1,(.c (.bool false))),(3,1,(.l 3)),(4,1,(kF 180))],none⟩,⟨.no,.eS .str (.l 1) (.c (.str zD13)) (.l 4),none⟩,⟨.l 5,.fM,none⟩,⟨.no,.eS .str (.l 5) (.c (.str zD10)) (kI 1),none⟩,⟨.no,.eS .str (.l 5) (.c (.str zD14)) (kI 10),none⟩,zn 6 5,⟨.l 7,.build [.iV (0),.iV (0),.bool false,.bY,.cH] [(0,1,(kI 0)),(1,1,(kI 999999)),(2,1,(.c (.bool true))),(3,1,(.l 6)),(4,1,(kF 181))],none⟩,⟨.no,.eS .str (.l 1) (.c (.str zD17)) (.l 7),none⟩,⟨.l 8,.fM,none⟩,⟨.no,.eS .str (.l 8) (.c (.str zD10)) (kI 1),none⟩,zn 9 8,⟨.l 10,.build [.iV (0),.iV (0),.bool false,.bY,.cH] [(0,1,(kI 0)),(1,1,(kI 99999)),(2,1,(.c (.bool true))),(3,1,(.l 9)),(4,1,(kF 182))],none⟩,⟨.no,.eS .str (.l 1) (.c (.str zD11)) (.l 10),none⟩,zn 11 1,zw 0 11] (.ret))
theorem GK:FT 113=some ⟨12,[0],[.var (.p 0)],wQ⟩:=by kernel_rfl
def wR:ao:=zR [⟨.p 1,.mv (.c (.bool false)),none⟩] (zR [⟨.l 3,.fo 9 4 1 [.str []] [(0,1,(.c (.str [68,78,83]))),(1,1,(.c (.str [68,78,70]))),(2,1,(.c (.str [68,81]))),(3,1,(.c (.str [78,77])))],none⟩,zm 4 0,z2 5 116 3 4,zw 1 5] (.ret))
theorem GL:FT 112=some ⟨6,[0,2],[.var (.p 1)],wR⟩:=by kernel_rfl
def wS:ao:=zR [⟨.p 1,.mv (.c (.bool false)),none⟩] (zR [zm 3 0,⟨.l 4,.bin .eql (.l 3) (.c (.str [68,78,83])),none⟩,zn 5 4,zg (zm 6 0) 5 false,⟨.l 7,.bin .eql (.l 6) (.c (.str [68,78,70])),some ((.l 5),false)⟩,zP 8 5 7,zn 9 8,zg (zm 10 0) 9 false,⟨.l 11,.bin .eql (.l 10) (.c (.str [68,81])),some ((.l 9),false)⟩,zP 12 9 11,zn 13 12,zg (zm 14 0) 13 false,⟨.l 15,.bin .eql (.l 14) (.c (.str [78,77])),some ((.l 13),false)⟩,zP 16 13 15,zw 1 16] (.ret))
theorem GM:FT 109=some ⟨17,[0,2],[.var (.p 1)],wS⟩:=by kernel_rfl
def wT:ao:=zR [zi 1 0] (.seq (zR [zm 3 0,⟨.l 4,.bin .eql (.l 3) (.c (.str zD13)),none⟩] (.cond (.l 4) (zR [zi 1 1] (.ret)) (.skip))) (zR [zi 1 0] (.ret)))
theorem GN:FT 110=some ⟨5,[0,2],[.var (.p 1)],wT⟩:=by kernel_rfl
def wU:ao:=zR [zi 1 0] (.seq (zR [⟨.p 2,.mv (.p 0),none⟩] (.block 0 (zR [⟨.l 5,.bin .eql (.p 2) (.c (.str zD13)),none⟩,zn 4 5] (.cond (.l 4) (zR [zi 1 863999999] (.ret)) (zR [⟨.l 7,.bin .eql (.p 2) (.c (.str zD17)),none⟩,zn 6 7] (.cond (.l 6) (zR [zi 1 999999] (.ret)) (.skip))))))) (zR [zi 1 99999] (.ret)))
theorem GO:FT 111=some ⟨8,[0,2,3],[.var (.p 1)],wU⟩:=by kernel_rfl
def wV:ao:=zR [zx 1 49 3 0,zi 2 0] (.seq (zR [zf 3 0 1,⟨.p 3,.load 1 false (.l 3),none⟩] (.block 0 (zR [⟨.l 6,.bin .eql (.p 3) (.c (.str zD12)),none⟩,zn 5 6] (.cond (.l 5) (.seq (zR [zf 7 2 1,zd 8 1 7,z1 9 109 8,zu 10 9] (.cond (.l 10) (zR [zi 2 1] (.ret)) (.skip))) (.seq (zR [zf 11 1 1,zd 12 1 11,zc 13 .neq 12 0] (.cond (.l 13) (zR [zi 2 3] (.ret)) (.skip))) (zR [zi 2 0] (.ret)))) (.seq (zR [⟨.l 15,.bin .eql (.p 3) (.c (.str zD13)),none⟩,zw 4 15] (.cond (.p 4) (.skip) (zR [⟨.l 16,.bin .eql (.p 3) (.c (.str zD17)),none⟩,zw 4 16] (.cond (.p 4) (.skip) (.region [⟨.l 17,.bin .eql (.p 3) (.c (.str zD11)),none⟩,zw 4 17]))))) (.cond (.p 4) (.seq (zR [zf 18 2 1,zd 19 1 18,⟨.l 20,.bin .neq (.l 19) (.c (.str [])),none⟩] (.cond (.l 20) (zR [zi 2 1] (.ret)) (.skip))) (.seq (.seq (.draw [(zf 21 1 1,[]),(zd 22 1 21,[]),(zf 23 0 1,[0,1]),(zd 24 1 23,[0,1]),(z1 25 110 24,[0,1]),(zb 26 .lss 22 25,[]),(zn 27 26,[]),(zg (zf 28 1 1) 27 false,[]),(zg (zd 29 1 28) 27 false,[]),(zg (zf 30 0 1) 27 false,[7,8]),(zg (zd 31 1 30) 27 false,[7,8]),(zg (z1 32 111 31) 27 false,[7,8]),(zg (zb 33 .gtr 29 32) 27 false,[]),(zP 34 27 33,[])]) (.cond (.l 34) (zR [zi 2 3] (.ret)) (.skip))) (zR [zi 2 0] (.ret)))) (.skip))))))) (zR [zi 2 13] (.ret)))
theorem GP:FT 35=some ⟨35,[0,1,2,4,14],[.var (.p 2)],wV⟩:=by kernel_rfl
def wW:ao:=zR [zx 1 49 3 0,⟨.p 2,.mv (.c (.bool false)),none⟩] (zR [zf 3 0 1,zd 4 1 3,zL 5 4,zc 6 .leq 5 40,zn 7 6,zg (zf 8 2 1) 7 true,zg (zd 9 1 8) 7 true,zg (zL 10 9) 7 true,zg (zc 11 .leq 10 40) 7 true,zp 12 7 11,zw 2 12] (.ret))
theorem GQ:FT 34=some ⟨13,[0,1,2],[.var (.p 2)],wW⟩:=by kernel_rfl
def wX:ao:=zR [⟨.p 2,.mv (.c (.bool false)),none⟩] (zR [zm 5 0,zm 6 1,z2 7 185 5 6,zc 8 .geq 7 0,zw 2 8] (.ret))
theorem GR:FT 116=some ⟨9,[0,1,4],[.var (.p 2)],wX⟩:=by kernel_rfl
def nN:ao:=zR [zr 9 .lss 5 4] (.seq (.cond (.l 9) (.skip) (.exit 0)) (.seq (.block 1 (zR [zm 10 5,zw 3 10] (zR [zm 11 1,zm 12 0,zm 13 3,za 14 1 12 13,zd 15 1 14,zb 16 .eql 11 15] (.cond (.l 16) (zR [zm 17 3,zw 2 17] (.ret)) (.skip))))) (.region [zq 18 .add 5 1,zw 5 18])))
def wY:ao:=zR [zi 2 0] (.seq (zR [zm 6 0,⟨.p 4,.len .sl (.l 6),none⟩,zi 5 0] (.block 0 (.loop nN))) (zR [zi 2 (-1)] (.ret)))
theorem GS:FT 185=some ⟨19,[0,1,4,5,7,8],[.var (.p 2)],wY⟩:=by kernel_rfl
variable {inv:cI} {F:FuncId->Option bJ}
abbrev gp:List UInt8:=[110,111,110,101]
abbrev bm:List UInt8:=[116,105,109,101]
abbrev eL:List UInt8:=[108,101,110,103,116,104]
abbrev fT:List UInt8:=[112,111,105,110,116,115]
abbrev lD:List UInt8:=[101,120,97,99,116]
abbrev nO:List UInt8:=[104,117,110,100,114,101,100,116,104,115]
abbrev nP:List UInt8:=[116,101,110,116,104,115]
abbrev nQ:List UInt8:=[99,101,110,116,105,109,101,116,114,101,115]
abbrev dx (k:List UInt8)(v:Int)(r:List UInt8):AV:=.agg [.str k,.iV v,.str r]
def indexOf (x:List UInt8):List (List UInt8)->Nat->Int
 | [],_=>-1
 | a::l,i=>if x=a then i else indexOf x l (i+1)
theorem GU {x:List UInt8}{l:List (List UInt8)}{i:Nat}(h:i<l.length):indexOf x (l.drop i) i=if x=l[i]! then (i:Int) else indexOf x (l.drop (i+1)) (i+1):=by
 rw[List.drop_eq_getElem_cons h,getElem!_pos l i h,indexOf]
theorem wZ {x:List UInt8}:∀(l:List (List UInt8)) (i:Nat),decide (0<=indexOf x l i)=decide (x∈l)
 | [],i=>by simp[indexOf]
 | a::l,i=>by
  rw[indexOf];split
  . rename_i h;subst h;simp
  . rename_i h;rw[wZ l (i+1)];simp[h]
theorem xc {T:List (Nat×Spec)}(l:List (List UInt8))(x:List UInt8)(cap:Option Nat)(hl:l.length<4611686018427387904)(hp:ab)(df:List Nat){Q:Ex->ah->Prop}:∀(r i:Nat),i+r=l.length->∀(a2 a3:AV) (lo:List (Nat×AV)) (wr:List Nat),
 (indexOf x (l.drop i) i = -1->∀a3 lo wr,Q (.exit 0) ⟨⟨[.vs (strs l) l.length cap,.str x,a2,a3,.iV l.length,.iV l.length],lo,hp,df⟩,wr⟩) ->
 (∀a3 a5 lo wr,Q .ret ⟨⟨[.vs (strs l) l.length cap,.str x,.iV (indexOf x (l.drop i) i),a3,.iV l.length,a5],lo,hp,df⟩,wr⟩) ->
 W (eH T inv F) (.loop nN) ⟨⟨[.vs (strs l) l.length cap,.str x,a2,a3,.iV l.length,.iV i],lo,hp,df⟩,wr⟩ Q
 | 0,i,hi,a2,a3,lo,wr,h1,h2=>by
  obtain rfl:i=l.length:=by omega
  refine W.loop ?_;unfold nN;repeat' first|apply Ke|apply aj|apply Kf|apply Kg|apply Kn|apply Ki|apply Kx|apply Kl|apply aF|apply bX|apply bn|apply cD|apply cg|(apply dk;rfl)|apply cB|apply dr|apply cU|apply dJ|(apply Kj;rfl)|(apply Kk;rfl)|(apply KG;rfl;all_goals intro _)|(apply Kz;rfl;rfl)|(apply Ks;rfl;rfl)|(apply KC;rfl;rfl;omega)|(apply Lo;rfl;rfl;omega)|(apply KZ;rfl;rfl;omega)|(apply Lp;rfl;exact fun _=>rfl;(first|omega|(simp only[List.length_set];omega)|(simp;omega));decide;rfl;case ia=>infer_instance)|(apply Ma;rfl;(first|rfl|assumption|exact dt|(apply aG;assumption)|(apply dG;first|assumption|(simp only[iT];assumption)));exact fun _=>rfl;(first|omega|(simp only[List.length_set];omega)|(simp;omega));decide;rfl;case ia=>infer_instance)|(apply KA;rfl;rfl;all_goals first|(intro h;exact absurd h (by decide))|(intro h;exact absurd rfl h)|(intro h;contradiction)|intro _)|(apply Kr;rfl;rfl;rfl)|(apply Ko;rfl;rfl;rfl)|(apply Kt;rfl;rfl;rfl)|(apply Kd;rfl;rfl)|(apply Kh;rfl;rfl)|(intro _;omega)|intro _
  exact h1 (by simp[indexOf]) _ _ _
 | r+1,i,hi,a2,a3,lo,wr,h1,h2=>by
  have e:=GU (x:=x) (l:=l) (i:=(i:Int).toNat) (by omega);rw[Int.toNat_natCast]at e;refine W.loop ?_;unfold nN;repeat' first|apply Ke|apply aj|apply Kf|apply Kg|apply Kn|apply Ki|apply Kx|apply Kl|apply aF|apply bX|apply bn|apply cD|apply cg|(apply dk;rfl)|apply cB|apply dr|apply cU|apply dJ|(apply Kj;rfl)|(apply Kk;rfl)|(apply KG;rfl;all_goals intro _)|(apply Kz;rfl;rfl)|(apply Ks;rfl;rfl)|(apply KC;rfl;rfl;omega)|(apply Lo;rfl;rfl;omega)|(apply KZ;rfl;rfl;omega)|(apply Lp;rfl;exact fun _=>rfl;(first|omega|(simp only[List.length_set];omega)|(simp;omega));decide;rfl;case ia=>infer_instance)|(apply Ma;rfl;(first|rfl|assumption|exact dt|(apply aG;assumption)|(apply dG;first|assumption|(simp only[iT];assumption)));exact fun _=>rfl;(first|omega|(simp only[List.length_set];omega)|(simp;omega));decide;rfl;case ia=>infer_instance)|(apply KA;rfl;rfl;all_goals first|(intro h;exact absurd h (by decide))|(intro h;exact absurd rfl h)|(intro h;contradiction)|intro _)|(apply Kr;rfl;rfl;rfl)|(apply Ko;rfl;rfl;rfl)|(apply Kt;rfl;rfl;rfl)|(apply Kd;rfl;rfl)|(apply Kh;rfl;rfl)|(intro _;omega)|intro _
  . rename_i he;rw[Int.toNat_natCast]at he;rw[if_pos he]at e;rw[e]at h2;exact h2 _ _ _ _
  . rename_i he;rw[Int.toNat_natCast]at he;rw[if_neg he]at e;rw[e]at h1 h2;exact iQ (xc l x cap hl hp df r (i+1) (by omega) _ _ _ _ h1 h2)
theorem GW {T:List (Nat×Spec)}(hft:F=FT)(l:List (List UInt8))(x:List UInt8)(cap:Option Nat)(hl:l.length<4611686018427387904):aJ (eH T inv F) 185 [.vs (strs l) l.length cap,.str x] [] ⟨.iV (indexOf x l 0),[],[]⟩:=by
 refine bq (show F 185=_ from by rw[hft];exact GS) (by simp) ?_;unfold wY;simp only[enter];repeat' first|apply Ke|apply aj|apply Kf|apply Kg|apply Kn|apply Ki|apply Kx|apply Kl|apply aF|apply bX|apply bn|apply cD|apply cg|(apply dk;rfl)|apply cB|apply dr|apply cU|apply dJ|(apply Kj;rfl)|(apply Kk;rfl)|(apply KG;rfl;all_goals intro _)|(apply Kd;rfl;rfl)|(apply Kh;rfl;rfl)
 refine xc l x cap hl _ _ l.length 0 (by omega) _ _ _ _ (fun h a2 lo wr=>?_) (fun a2 a5 lo wr=>?_)
 . repeat' first|apply Ke|apply aj|apply Kf|apply Kg|apply Kn|apply Ki|apply Kx|apply Kl|apply aF|apply bX|apply bn|apply cD|apply cg|(apply dk;rfl)|apply cB|apply dr|apply cU|apply dJ|(apply Kj;rfl)|(apply Kk;rfl)|(apply KG;rfl;all_goals intro _)|(apply Kd;rfl;rfl)|(apply Kh;rfl;rfl)
   exact⟨.inr rfl,rfl,_,rfl,by rw[List.drop_zero]at h;rw[h];rfl,rfl⟩
 . repeat' first|apply Ke|apply aj|apply Kf|apply Kg|apply Kn|apply Ki|apply Kx|apply Kl|apply aF|apply bX|apply bn|apply cD|apply cg|(apply dk;rfl)|apply cB|apply dr|apply cU|apply dJ|(apply Kj;rfl)|(apply Kk;rfl)|(apply KG;rfl;all_goals intro _)|(apply Kd;rfl;rfl)|(apply Kh;rfl;rfl)
   exact⟨.inr rfl,rfl,_,rfl,rfl,rfl⟩
def lE:Spec:=fun
 | [v,.str x],h=>match jT h v with
   | some l=>if l.length<4611686018427387904 then some ⟨.int .i64 (indexOf x l 0),h,[]⟩ else none
   | none=>none
 | _,_=>none
def rq:Spec:=fun
 | [v,.str x],h=>match jT h v with
   | some l=>if l.length<4611686018427387904 then some ⟨.bool (decide (x∈l)),h,[]⟩ else none
   | none=>none
 | _,_=>none
theorem GX {h:ab}{l:List (List UInt8)}{cap:Option Nat}:jT h (.vs (strs l) l.length cap)=some l:=by
 simp only[jT,jS,dz,uk,if_true]
theorem GY {T:List (Nat×Spec)}(hft:F=FT)(l:List (List UInt8))(x:List UInt8)(cap:Option Nat)(hl:l.length<4611686018427387904):aJ (eH ((185,lE)::T) inv F) 116 [.vs (strs l) l.length cap,.str x] [] ⟨.bool (decide (x∈l)),[],[]⟩:=by
 have hi:∀h,(eH ((185,lE)::T) inv F).ext 185 [.vs (strs l) l.length cap,.str x] h=some ⟨.iV (indexOf x l 0),h,[]⟩:=fun h=>by
  show cT _ _ _ _=_;simp only[DS,lE,GX,if_pos hl]
 refine bq (show F 116=_ from by rw[hft];exact GR) (by simp) ?_;unfold wX;simp only[enter];have hm:=wZ (x:=x) l 0;repeat' first|apply Ke|apply aj|apply Kf|apply Kg|apply Kn|apply Ki|apply Kx|apply Kl|apply aF|apply bX|apply bn|apply cD|apply cg|(apply dk;rfl)|apply cB|apply dr|apply cU|apply dJ|(apply Kj;rfl)|(apply Kk;rfl)|(apply KG;rfl;all_goals intro _)|(apply KJ;rfl;rfl)|(apply Km;rfl;rfl;first|exact hi _)|(apply KW;rfl;rfl;rfl;all_goals first|(intro h;exact absurd h (by decide))|intro _)|(apply Km;rfl;rfl;rfl)|(apply Kd;rfl;rfl)|(apply Kh;rfl;rfl)|(intro _;omega)|intro _
 all_goals refine⟨.inr rfl,rfl,_,rfl,?_,rfl⟩
 all_goals rw[←hm]
 . rename_i h;rw[decide_eq_true h];rfl
 . rename_i h;rw[decide_eq_false (by omega)];rfl
abbrev eM:List (List UInt8):=[[68,78,83],[68,78,70],[68,81],[78,77]]
def ji:Spec:=fun
 | [.str x],h=>some ⟨.bool (decide (x∈eM)),h,[]⟩
 | _,_=>none
theorem GZ {T:List (Nat×Spec)}(hft:F=FT)(x:List UInt8):aJ (eH ((116,rq)::T) inv F) 112 [.str x] [] ⟨.bool (decide (x∈eM)),[],[]⟩:=by
 refine bq (show F 112=_ from by rw[hft];exact GL) (by simp) ?_;unfold wR;simp only[enter];repeat' first|apply Ke|apply aj|apply Kf|apply Kg|apply Kn|apply Ki|apply Kx|apply Kl|apply aF|apply bX|apply bn|apply cD|apply cg|(apply dk;rfl)|apply cB|apply dr|apply cU|apply dJ|(apply Kj;rfl)|(apply Kk;rfl)|(apply KG;rfl;all_goals intro _)|(apply KW;rfl;rfl;rfl;all_goals first|(intro h;exact absurd h (by decide))|intro _)|(apply Km;rfl;rfl;rfl)|(apply Kr;rfl;rfl;rfl)|(apply Ko;rfl;rfl;rfl)|(apply Kt;rfl;rfl;rfl)|(apply Kd;rfl;rfl)|(apply Kh;rfl;rfl)
 all_goals (rename_i h;exact⟨.inr rfl,rfl,_,rfl,by rw[h];rfl,rfl⟩)
theorem Ha {T:List (Nat×Spec)}(hft:F=FT)(x:List UInt8):aJ (eH T inv F) 109 [.str x] [] ⟨.bool (decide (x∈eM)),[],[]⟩:=by
 refine bq (show F 109=_ from by rw[hft];exact GM) (by simp) ?_;unfold wS;simp only[enter];repeat' first|apply Ke|apply aj|apply Kf|apply Kg|apply Kn|apply Ki|apply Kx|apply Kl|apply aF|apply bX|apply bn|apply cD|apply cg|(apply dk;rfl)|apply cB|apply dr|apply cU|apply dJ|(apply Kj;rfl)|(apply Kk;rfl)|(apply KG;rfl;all_goals intro _)|(apply Ky;rfl)|(apply Kv;rfl)|(apply KB;rfl)|(apply KD;rfl)|(apply KS;rfl)|(apply Ks;rfl;rfl)|(apply Kp;rfl;rfl)|(apply Kq;rfl;rfl)|(apply KA;rfl;rfl;all_goals first|(intro h;exact absurd h (by decide))|(intro h;exact absurd rfl h)|(intro h;contradiction)|intro _)|(apply Kd;rfl;rfl)|(apply Kh;rfl;rfl)|(intro _;omega)|intro _
 all_goals exact⟨.inr rfl,rfl,_,rfl,by simp[dh, *],rfl⟩
abbrev Hb (N:Nat):AV:=.agg [.iV 1,.iV 863999999,.bool false,.map (N+1),.fn (.func 180) [] []]
abbrev Hc (N:Nat):AV:=.agg [.iV 0,.iV 999999,.bool true,.map (N+2),.fn (.func 181) [] []]
abbrev Hd (N:Nat):AV:=.agg [.iV 0,.iV 99999,.bool true,.map (N+3),.fn (.func 182) [] []]
abbrev ru (N:Nat):List aK:=[.map [(.str bm,Hb N),(.str eL,Hc N),(.str fT,Hd N)],
 .map [(.str lD,.iV 1),(.str nO,.iV 100),(.str nP,.iV 1000)],.map [(.str lD,.iV 1),(.str nQ,.iV 10)],.map [(.str lD,.iV 1)]]
def nR:Spec:=fun
 | [],h=>some ⟨.map h.length,h++(ru h.length).map some,[]⟩
 | _,_=>none
theorem He {T:List (Nat×Spec)}(hft:F=FT):aJ (eH T inv F) 113 [] [] ⟨.map 0,(ru 0).map some,[]⟩:=by
 refine bq (show F 113=_ from by rw[hft];exact GK) (by simp) ?_;unfold wQ;simp only[List.map_cons,List.map_nil,List.getElem?_nil,Option.getD_none];repeat' first|apply Ke|apply aj|apply Kf|apply Kg|apply Kn|apply Ki|apply Kx|apply Kl|apply aF|apply bX|apply bn|apply cD|apply cg|(apply dk;rfl)|apply cB|apply dr|apply cU|apply dJ|(apply Kj;rfl)|(apply Kk;rfl)|(apply KG;rfl;all_goals intro _)|(apply Kr;rfl;rfl;rfl)|(apply Ko;rfl;rfl;rfl)|(apply Kt;rfl;rfl;rfl)|(apply Kd;rfl;rfl)|(apply Kh;rfl;rfl)
 exact⟨.inr rfl,rfl,_,rfl,rfl,rfl⟩
def eY (k:List UInt8):Int:=if k=bm then 1 else 0
def eZ (k:List UInt8):Int:=if k=bm then 863999999 else if k=eL then 999999 else 99999
def known (k:List UInt8):Prop:=k=bm\/k=eL\/k=fT
instance (k:List UInt8):Decidable (known k):=by unfold known;infer_instance
def bx (k:List UInt8)(v:Int)(r:List UInt8):Int:=
 if k=gp then (if r∉eM then 1 else if v≠0 then 3 else 0) else if ¬known k then 13 else if r≠[] then 1 else if v<eY k\/eZ k<v then 3 else 0
theorem xe (k:List UInt8):k=gp\/k=bm\/k=eL\/k=fT\/(k≠gp/\¬known k):=by
 unfold known;by_cases h1:k=gp
 . exact .inl h1
 by_cases h2:k=bm
 . exact .inr (.inl h2)
 by_cases h3:k=eL
 . exact .inr (.inr (.inl h3))
 by_cases h4:k=fT
 . exact .inr (.inr (.inr (.inl h4)))
 exact .inr (.inr (.inr (.inr ⟨h1,by simp[h2,h3,h4]⟩)))
def Hf:List (Nat×Spec):=[(113,nR),(112,ji),(97,nm),(96,jb),(95,fun
 | [.int .i64 x,.int .i64 lo,.int .i64 hi],h=>some ⟨.bool (decide (x<lo) || decide (hi<x)),h,[]⟩
 | _,_=>none)]
theorem Hg (hft:F=FT)(k:List UInt8)(v:Int)(r:List UInt8):aJ (eH Hf inv F) 36 [dx k v r] [] ⟨.iV (bx k v r),[],[]⟩:=by
 refine bq (show F 36=_ from by rw[hft];exact GJ) (by simp) ?_;unfold wP;simp only[enter];rcases xe k with rfl|rfl|rfl|rfl|⟨h1,h2⟩
 . repeat' first|apply Ke|apply aj|apply Kf|apply Kg|apply Kn|apply Ki|apply Kx|apply Kl|apply aF|apply bX|apply bn|apply cD|apply cg|(apply dk;rfl)|apply cB|apply dr|apply cU|apply dJ|(apply KV;rfl)|apply KE|apply KH|(apply Lb;rfl)|(apply KQ;rfl)|(apply Lc;rfl)|(apply KR;rfl)|(apply Ld;rfl)|(apply KI;rfl)|(apply KK;rfl;rfl;(first|(simp only[nca];rfl)|rfl))|(apply Lf;rfl;(first|(simp only[nca];rfl)|rfl);(first|(simp only[nca];rfl)|rfl))|(apply KN;rfl)|(apply Lg;rfl;rfl)|(apply KY;rfl;rfl;rfl;rfl;all_goals first|(intro h;exact absurd h (by decide))|intro _)|(apply KL;rfl;rfl;rfl;rfl)|(apply KT;rfl;rfl;rfl;rfl)|(apply Kj;rfl)|(apply Kk;rfl)|(apply KG;rfl;all_goals intro _)|(apply Ks;rfl;rfl)|(apply Kw;rfl;rfl)|(apply KA;rfl;rfl;all_goals first|(intro h;exact absurd h (by decide))|(intro h;exact absurd rfl h)|(intro h;contradiction)|intro _)|(apply KM;rfl;rfl;all_goals first|(intro h;exact absurd h (by decide))|(intro h;exact absurd rfl h)|(intro h;contradiction)|intro _)|(apply KW;rfl;rfl;rfl;all_goals first|(intro h;exact absurd h (by decide))|intro _)|(apply Km;rfl;rfl;rfl)|(apply Kr;rfl;rfl;rfl)|(apply Ko;rfl;rfl;rfl)|(apply Kt;rfl;rfl;rfl)|(apply Kd;rfl;rfl)|(apply Kh;rfl;rfl)|(intro _;omega)|intro _
   all_goals refine⟨.inr rfl,rfl,_,rfl,congrArg (AV.int .i64) ?_,rfl⟩
   all_goals (by_cases hr:r∈eM <;> simp_all [cM,bx])
 . repeat' first|apply Ke|apply aj|apply Kf|apply Kg|apply Kn|apply Ki|apply Kx|apply Kl|apply aF|apply bX|apply bn|apply cD|apply cg|(apply dk;rfl)|apply cB|apply dr|apply cU|apply dJ|(apply KV;rfl)|apply KE|apply KH|(apply Lb;rfl)|(apply KQ;rfl)|(apply Lc;rfl)|(apply KR;rfl)|(apply Ld;rfl)|(apply KI;rfl)|(apply KK;rfl;rfl;(first|(simp only[nca];rfl)|rfl))|(apply Lf;rfl;(first|(simp only[];rfl)|rfl);(first|(simp only[];rfl)|rfl))|(apply KN;rfl)|(apply Lg;rfl;rfl)|(apply KY;rfl;rfl;rfl;rfl;all_goals first|(intro h;exact absurd h (by decide))|intro _)|(apply KL;rfl;rfl;rfl;rfl)|(apply KT;rfl;rfl;rfl;rfl)|(apply Kj;rfl)|(apply Kk;rfl)|(apply KG;rfl;all_goals intro _)|(apply Ks;rfl;rfl)|(apply Kw;rfl;rfl)|(apply KA;rfl;rfl;all_goals first|(intro h;exact absurd h (by decide))|(intro h;exact absurd rfl h)|(intro h;contradiction)|intro _)|(apply KM;rfl;rfl;all_goals first|(intro h;exact absurd h (by decide))|(intro h;exact absurd rfl h)|(intro h;contradiction)|intro _)|(apply KW;rfl;rfl;rfl;all_goals first|(intro h;exact absurd h (by decide))|intro _)|(apply Km;rfl;rfl;rfl)|(apply Kr;rfl;rfl;rfl)|(apply Ko;rfl;rfl;rfl)|(apply Kt;rfl;rfl;rfl)|(apply Kd;rfl;rfl)|(apply Kh;rfl;rfl)|(intro _;omega)|intro _
   all_goals refine⟨.inr rfl,rfl,_,rfl,congrArg (AV.int .i64) ?_,rfl⟩
   all_goals (by_cases hv:v<1\/863999999<v <;> simp_all [cM,bx,known,eY,eZ] <;> omega)
 . repeat' first|apply Ke|apply aj|apply Kf|apply Kg|apply Kn|apply Ki|apply Kx|apply Kl|apply aF|apply bX|apply bn|apply cD|apply cg|(apply dk;rfl)|apply cB|apply dr|apply cU|apply dJ|(apply KV;rfl)|apply KE|apply KH|(apply Lb;rfl)|(apply KQ;rfl)|(apply Lc;rfl)|(apply KR;rfl)|(apply Ld;rfl)|(apply KI;rfl)|(apply KK;rfl;rfl;(first|(simp only[nca];rfl)|rfl))|(apply Lf;rfl;(first|(simp only[];rfl)|rfl);(first|(simp only[];rfl)|rfl))|(apply KN;rfl)|(apply Lg;rfl;rfl)|(apply KY;rfl;rfl;rfl;rfl;all_goals first|(intro h;exact absurd h (by decide))|intro _)|(apply KL;rfl;rfl;rfl;rfl)|(apply KT;rfl;rfl;rfl;rfl)|(apply Kj;rfl)|(apply Kk;rfl)|(apply KG;rfl;all_goals intro _)|(apply Ks;rfl;rfl)|(apply Kw;rfl;rfl)|(apply KA;rfl;rfl;all_goals first|(intro h;exact absurd h (by decide))|(intro h;exact absurd rfl h)|(intro h;contradiction)|intro _)|(apply KM;rfl;rfl;all_goals first|(intro h;exact absurd h (by decide))|(intro h;exact absurd rfl h)|(intro h;contradiction)|intro _)|(apply KW;rfl;rfl;rfl;all_goals first|(intro h;exact absurd h (by decide))|intro _)|(apply Km;rfl;rfl;rfl)|(apply Kr;rfl;rfl;rfl)|(apply Ko;rfl;rfl;rfl)|(apply Kt;rfl;rfl;rfl)|(apply Kd;rfl;rfl)|(apply Kh;rfl;rfl)|(intro _;omega)|intro _
   all_goals refine⟨.inr rfl,rfl,_,rfl,congrArg (AV.int .i64) ?_,rfl⟩
   all_goals (by_cases hv:v<0\/999999<v <;> simp_all [cM,bx,known,eY,eZ] <;> omega)
 . repeat' first|apply Ke|apply aj|apply Kf|apply Kg|apply Kn|apply Ki|apply Kx|apply Kl|apply aF|apply bX|apply bn|apply cD|apply cg|(apply dk;rfl)|apply cB|apply dr|apply cU|apply dJ|(apply KV;rfl)|apply KE|apply KH|(apply Lb;rfl)|(apply KQ;rfl)|(apply Lc;rfl)|(apply KR;rfl)|(apply Ld;rfl)|(apply KI;rfl)|(apply KK;rfl;rfl;(first|(simp only[nca];rfl)|rfl))|(apply Lf;rfl;(first|(simp only[];rfl)|rfl);(first|(simp only[];rfl)|rfl))|(apply KN;rfl)|(apply Lg;rfl;rfl)|(apply KY;rfl;rfl;rfl;rfl;all_goals first|(intro h;exact absurd h (by decide))|intro _)|(apply KL;rfl;rfl;rfl;rfl)|(apply KT;rfl;rfl;rfl;rfl)|(apply Kj;rfl)|(apply Kk;rfl)|(apply KG;rfl;all_goals intro _)|(apply Ks;rfl;rfl)|(apply Kw;rfl;rfl)|(apply KA;rfl;rfl;all_goals first|(intro h;exact absurd h (by decide))|(intro h;exact absurd rfl h)|(intro h;contradiction)|intro _)|(apply KM;rfl;rfl;all_goals first|(intro h;exact absurd h (by decide))|(intro h;exact absurd rfl h)|(intro h;contradiction)|intro _)|(apply KW;rfl;rfl;rfl;all_goals first|(intro h;exact absurd h (by decide))|intro _)|(apply Km;rfl;rfl;rfl)|(apply Kr;rfl;rfl;rfl)|(apply Ko;rfl;rfl;rfl)|(apply Kt;rfl;rfl;rfl)|(apply Kd;rfl;rfl)|(apply Kh;rfl;rfl)|(intro _;omega)|intro _
   all_goals refine⟨.inr rfl,rfl,_,rfl,congrArg (AV.int .i64) ?_,rfl⟩
   all_goals (by_cases hv:v<0\/99999<v <;> simp_all [cM,bx,known,eY,eZ] <;> omega)
 . simp only[known,not_or]at h2;have b1:(k == bm)=false:=beq_eq_false_iff_ne.2 h2.1;have b2:(k == eL)=false:=beq_eq_false_iff_ne.2 h2.2.1;have b3:(k == fT)=false:=beq_eq_false_iff_ne.2 h2.2.2;repeat' first|apply Ke|apply aj|apply Kf|apply Kg|apply Kn|apply Ki|apply Kx|apply Kl|apply aF|apply bX|apply bn|apply cD|apply cg|(apply dk;rfl)|apply cB|apply dr|apply cU|apply dJ|(apply KV;rfl)|apply KE|apply KH|(apply Lb;rfl)|(apply KQ;rfl)|(apply Lc;rfl)|(apply KR;rfl)|(apply Ld;rfl)|(apply KI;rfl)|(apply KK;rfl;rfl;(first|(simp only[nca];rfl)|rfl))|(apply Lf;rfl;(first|(simp only[];rfl)|rfl);(first|(simp only[];rfl)|rfl))|(apply KN;rfl)|(apply Lg;rfl;rfl)|(apply KY;rfl;rfl;rfl;rfl;all_goals first|(intro h;exact absurd h (by decide))|intro _)|(apply KL;rfl;rfl;rfl;rfl)|(apply KT;rfl;rfl;rfl;rfl)|(apply Kj;rfl)|(apply Kk;rfl)|(apply KG;rfl;all_goals intro _)|(apply Ks;rfl;rfl)|(apply Kw;rfl;rfl)|(apply LJ;rfl;rfl;rfl;rfl;simp only[fu,jv,b1,b2,b3])|(apply KA;rfl;rfl;all_goals first|(intro h;exact absurd h (by decide))|(intro h;exact absurd rfl h)|(intro h;contradiction)|intro _)|(apply KM;rfl;rfl;all_goals first|(intro h;exact absurd h (by decide))|(intro h;exact absurd rfl h)|(intro h;contradiction)|intro _)|(apply KW;rfl;rfl;rfl;all_goals first|(intro h;exact absurd h (by decide))|intro _)|(apply Km;rfl;rfl;rfl)|(apply Kr;rfl;rfl;rfl)|(apply Ko;rfl;rfl;rfl)|(apply Kt;rfl;rfl;rfl)|(apply Kd;rfl;rfl)|(apply Kh;rfl;rfl)|(intro _;omega)|intro _
   all_goals refine⟨.inr rfl,rfl,_,rfl,congrArg (AV.int .i64) ?_,rfl⟩
   all_goals simp[cM,bx,known,h1,h2]
def gq:Spec:=fun
 | [.agg [.str k,.int .i64 v,.str r]],h=>some ⟨.int .i64 (bx k v r),h,[]⟩
 | _,_=>none
theorem Hh {T:List (Nat×Spec)}(hft:F=FT)(k:List UInt8):aJ (eH T inv F) 110 [.str k] [] ⟨.iV (eY k),[],[]⟩:=by
 refine bq (show F 110=_ from by rw[hft];exact GN) (by simp) ?_;unfold wT;simp only[enter];repeat' first|apply Ke|apply aj|apply Kf|apply Kg|apply Kn|apply Ki|apply Kx|apply Kl|apply aF|apply bX|apply bn|apply cD|apply cg|(apply dk;rfl)|apply cB|apply dr|apply cU|apply dJ|(apply Kj;rfl)|(apply Kk;rfl)|(apply KG;rfl;all_goals intro _)|(apply Ks;rfl;rfl)|(apply KA;rfl;rfl;all_goals first|(intro h;exact absurd h (by decide))|(intro h;exact absurd rfl h)|(intro h;contradiction)|intro _)|(apply Kd;rfl;rfl)|(apply Kh;rfl;rfl)|(intro _;omega)|intro _
 all_goals exact⟨.inr rfl,rfl,_,rfl,by simp[dh,eY, *],rfl⟩
theorem Hi {T:List (Nat×Spec)}(hft:F=FT)(k:List UInt8):aJ (eH T inv F) 111 [.str k] [] ⟨.iV (eZ k),[],[]⟩:=by
 refine bq (show F 111=_ from by rw[hft];exact GO) (by simp) ?_;unfold wU;simp only[enter];repeat' first|apply Ke|apply aj|apply Kf|apply Kg|apply Kn|apply Ki|apply Kx|apply Kl|apply aF|apply bX|apply bn|apply cD|apply cg|(apply dk;rfl)|apply cB|apply dr|apply cU|apply dJ|(apply Kj;rfl)|(apply Kk;rfl)|(apply KG;rfl;all_goals intro _)|(apply Ks;rfl;rfl)|(apply KA;rfl;rfl;all_goals first|(intro h;exact absurd h (by decide))|(intro h;exact absurd rfl h)|(intro h;contradiction)|intro _)|(apply Kd;rfl;rfl)|(apply Kh;rfl;rfl)|(intro _;omega)|intro _
 all_goals exact⟨.inr rfl,rfl,_,rfl,by simp[dh,eZ, *],rfl⟩
def Hj:List (Nat×Spec):=[(109,ji),(110,fun
 | [.str k],h=>some ⟨.int .i64 (eY k),h,[]⟩
 | _,_=>none),(111,fun
 | [.str k],h=>some ⟨.int .i64 (eZ k),h,[]⟩
 | _,_=>none)]
theorem Hk (hft:F=FT)(k:List UInt8)(v:Int)(r:List UInt8):aJ (eH Hj inv F) 35 [dx k v r] [] ⟨.iV (bx k v r),[],[]⟩:=by
 refine bq (show F 35=_ from by rw[hft];exact GP) (by simp) ?_;unfold wV;simp only[enter];rcases xe k with rfl|rfl|rfl|rfl|⟨h1,h2⟩
 . repeat' first|apply Ke|apply aj|apply Kf|apply Kg|apply Kn|apply Ki|apply Kx|apply Kl|apply aF|apply bX|apply bn|apply cD|apply cg|(apply dk;rfl)|apply cB|apply dr|apply cU|apply dJ|(apply KV;rfl)|apply KE|apply KH|(apply Lb;rfl)|(apply KQ;rfl)|(apply Lc;rfl)|(apply KR;rfl)|(apply Ld;rfl)|(apply KI;rfl)|(apply KK;rfl;rfl;(first|(simp only[nca];rfl)|rfl))|(apply KN;rfl)|(apply KY;rfl;rfl;rfl;rfl;all_goals first|(intro h;exact absurd h (by decide))|intro _)|(apply KL;rfl;rfl;rfl;rfl)|(apply KT;rfl;rfl;rfl;rfl)|(apply Kj;rfl)|(apply Kk;rfl)|(apply KG;rfl;all_goals intro _)|(apply Ky;rfl)|(apply Kv;rfl)|(apply KB;rfl)|(apply KD;rfl)|(apply KS;rfl)|(apply Kz;rfl;rfl)|(apply Ku;rfl;rfl)|(apply Ks;rfl;rfl)|(apply Kw;rfl;rfl)|(apply Kp;rfl;rfl)|(apply Kq;rfl;rfl)|(apply KA;rfl;rfl;all_goals first|(intro h;exact absurd h (by decide))|(intro h;exact absurd rfl h)|(intro h;contradiction)|intro _)|(apply KM;rfl;rfl;all_goals first|(intro h;exact absurd h (by decide))|(intro h;exact absurd rfl h)|(intro h;contradiction)|intro _)|(apply KW;rfl;rfl;rfl;all_goals first|(intro h;exact absurd h (by decide))|intro _)|(apply Km;rfl;rfl;rfl)|(apply Kr;rfl;rfl;rfl)|(apply Ko;rfl;rfl;rfl)|(apply Kt;rfl;rfl;rfl)|(apply Kd;rfl;rfl)|(apply Kh;rfl;rfl)|(intro _;omega)|intro _
   all_goals refine⟨.inr rfl,rfl,_,rfl,congrArg (AV.int .i64) ?_,rfl⟩
   all_goals simp_all [bx]
 . repeat' first|apply Ke|apply aj|apply Kf|apply Kg|apply Kn|apply Ki|apply Kx|apply Kl|apply aF|apply bX|apply bn|apply cD|apply cg|(apply dk;rfl)|apply cB|apply dr|apply cU|apply dJ|(apply KV;rfl)|apply KE|apply KH|(apply Lb;rfl)|(apply KQ;rfl)|(apply Lc;rfl)|(apply KR;rfl)|(apply Ld;rfl)|(apply KI;rfl)|(apply KK;rfl;rfl;(first|(simp only[nca];rfl)|rfl))|(apply KN;rfl)|(apply KY;rfl;rfl;rfl;rfl;all_goals first|(intro h;exact absurd h (by decide))|intro _)|(apply KL;rfl;rfl;rfl;rfl)|(apply KT;rfl;rfl;rfl;rfl)|(apply Kj;rfl)|(apply Kk;rfl)|(apply KG;rfl;all_goals intro _)|(apply Ky;rfl)|(apply Kv;rfl)|(apply KB;rfl)|(apply KD;rfl)|(apply KS;rfl)|(apply Kz;rfl;rfl)|(apply Ku;rfl;rfl)|(apply Ks;rfl;rfl)|(apply Kw;rfl;rfl)|(apply Kp;rfl;rfl)|(apply Kq;rfl;rfl)|(apply KA;rfl;rfl;all_goals first|(intro h;exact absurd h (by decide))|(intro h;exact absurd rfl h)|(intro h;contradiction)|intro _)|(apply KM;rfl;rfl;all_goals first|(intro h;exact absurd h (by decide))|(intro h;exact absurd rfl h)|(intro h;contradiction)|intro _)|(apply KW;rfl;rfl;rfl;all_goals first|(intro h;exact absurd h (by decide))|intro _)|(apply Km;rfl;rfl;rfl)|(apply Kr;rfl;rfl;rfl)|(apply Ko;rfl;rfl;rfl)|(apply Kt;rfl;rfl;rfl)|(apply Kd;rfl;rfl)|(apply Kh;rfl;rfl)|(intro _;omega)|intro _
   all_goals refine⟨.inr rfl,rfl,_,rfl,congrArg (AV.int .i64) ?_,rfl⟩
   all_goals simp_all [bx,known,eY,eZ]
   all_goals omega
 . repeat' first|apply Ke|apply aj|apply Kf|apply Kg|apply Kn|apply Ki|apply Kx|apply Kl|apply aF|apply bX|apply bn|apply cD|apply cg|(apply dk;rfl)|apply cB|apply dr|apply cU|apply dJ|(apply KV;rfl)|apply KE|apply KH|(apply Lb;rfl)|(apply KQ;rfl)|(apply Lc;rfl)|(apply KR;rfl)|(apply Ld;rfl)|(apply KI;rfl)|(apply KK;rfl;rfl;(first|(simp only[nca];rfl)|rfl))|(apply KN;rfl)|(apply KY;rfl;rfl;rfl;rfl;all_goals first|(intro h;exact absurd h (by decide))|intro _)|(apply KL;rfl;rfl;rfl;rfl)|(apply KT;rfl;rfl;rfl;rfl)|(apply Kj;rfl)|(apply Kk;rfl)|(apply KG;rfl;all_goals intro _)|(apply Ky;rfl)|(apply Kv;rfl)|(apply KB;rfl)|(apply KD;rfl)|(apply KS;rfl)|(apply Kz;rfl;rfl)|(apply Ku;rfl;rfl)|(apply Ks;rfl;rfl)|(apply Kw;rfl;rfl)|(apply Kp;rfl;rfl)|(apply Kq;rfl;rfl)|(apply KA;rfl;rfl;all_goals first|(intro h;exact absurd h (by decide))|(intro h;exact absurd rfl h)|(intro h;contradiction)|intro _)|(apply KM;rfl;rfl;all_goals first|(intro h;exact absurd h (by decide))|(intro h;exact absurd rfl h)|(intro h;contradiction)|intro _)|(apply KW;rfl;rfl;rfl;all_goals first|(intro h;exact absurd h (by decide))|intro _)|(apply Km;rfl;rfl;rfl)|(apply Kr;rfl;rfl;rfl)|(apply Ko;rfl;rfl;rfl)|(apply Kt;rfl;rfl;rfl)|(apply Kd;rfl;rfl)|(apply Kh;rfl;rfl)|(intro _;omega)|intro _
   all_goals refine⟨.inr rfl,rfl,_,rfl,congrArg (AV.int .i64) ?_,rfl⟩
   all_goals simp_all [bx,known,eY,eZ]
   all_goals omega
 . repeat' first|apply Ke|apply aj|apply Kf|apply Kg|apply Kn|apply Ki|apply Kx|apply Kl|apply aF|apply bX|apply bn|apply cD|apply cg|(apply dk;rfl)|apply cB|apply dr|apply cU|apply dJ|(apply KV;rfl)|apply KE|apply KH|(apply Lb;rfl)|(apply KQ;rfl)|(apply Lc;rfl)|(apply KR;rfl)|(apply Ld;rfl)|(apply KI;rfl)|(apply KK;rfl;rfl;(first|(simp only[nca];rfl)|rfl))|(apply KN;rfl)|(apply KY;rfl;rfl;rfl;rfl;all_goals first|(intro h;exact absurd h (by decide))|intro _)|(apply KL;rfl;rfl;rfl;rfl)|(apply KT;rfl;rfl;rfl;rfl)|(apply Kj;rfl)|(apply Kk;rfl)|(apply KG;rfl;all_goals intro _)|(apply Ky;rfl)|(apply Kv;rfl)|(apply KB;rfl)|(apply KD;rfl)|(apply KS;rfl)|(apply Kz;rfl;rfl)|(apply Ku;rfl;rfl)|(apply Ks;rfl;rfl)|(apply Kw;rfl;rfl)|(apply Kp;rfl;rfl)|(apply Kq;rfl;rfl)|(apply KA;rfl;rfl;all_goals first|(intro h;exact absurd h (by decide))|(intro h;exact absurd rfl h)|(intro h;contradiction)|intro _)|(apply KM;rfl;rfl;all_goals first|(intro h;exact absurd h (by decide))|(intro h;exact absurd rfl h)|(intro h;contradiction)|intro _)|(apply KW;rfl;rfl;rfl;all_goals first|(intro h;exact absurd h (by decide))|intro _)|(apply Km;rfl;rfl;rfl)|(apply Kr;rfl;rfl;rfl)|(apply Ko;rfl;rfl;rfl)|(apply Kt;rfl;rfl;rfl)|(apply Kd;rfl;rfl)|(apply Kh;rfl;rfl)|(intro _;omega)|intro _
   all_goals refine⟨.inr rfl,rfl,_,rfl,congrArg (AV.int .i64) ?_,rfl⟩
   all_goals simp_all [bx,known,eY,eZ]
   all_goals omega
 . simp only[known,not_or]at h2;repeat' first|apply Ke|apply aj|apply Kf|apply Kg|apply Kn|apply Ki|apply Kx|apply Kl|apply aF|apply bX|apply bn|apply cD|apply cg|(apply dk;rfl)|apply cB|apply dr|apply cU|apply dJ|(apply KV;rfl)|apply KE|apply KH|(apply Lb;rfl)|(apply KQ;rfl)|(apply Lc;rfl)|(apply KR;rfl)|(apply Ld;rfl)|(apply KI;rfl)|(apply KK;rfl;rfl;(first|(simp only[nca];rfl)|rfl))|(apply KN;rfl)|(apply KY;rfl;rfl;rfl;rfl;all_goals first|(intro h;exact absurd h (by decide))|intro _)|(apply KL;rfl;rfl;rfl;rfl)|(apply KT;rfl;rfl;rfl;rfl)|(apply Kj;rfl)|(apply Kk;rfl)|(apply KG;rfl;all_goals intro _)|(apply Ky;rfl)|(apply Kv;rfl)|(apply KB;rfl)|(apply KD;rfl)|(apply KS;rfl)|(apply Kz;rfl;rfl)|(apply Ku;rfl;rfl)|(apply Ks;rfl;rfl)|(apply Kw;rfl;rfl)|(apply Kp;rfl;rfl)|(apply Kq;rfl;rfl)|(apply KA;rfl;rfl;all_goals first|(intro h;exact absurd h (by decide))|(intro h;exact absurd rfl h)|(intro h;contradiction)|intro _)|(apply KM;rfl;rfl;all_goals first|(intro h;exact absurd h (by decide))|(intro h;exact absurd rfl h)|(intro h;contradiction)|intro _)|(apply KW;rfl;rfl;rfl;all_goals first|(intro h;exact absurd h (by decide))|intro _)|(apply Km;rfl;rfl;rfl)|(apply Kr;rfl;rfl;rfl)|(apply Ko;rfl;rfl;rfl)|(apply Kt;rfl;rfl;rfl)|(apply Kd;rfl;rfl)|(apply Kh;rfl;rfl)|(intro _;omega)|intro _
   all_goals refine⟨.inr rfl,rfl,_,rfl,congrArg (AV.int .i64) ?_,rfl⟩
   all_goals simp_all [bx,known]
def isClass (c:List UInt8):Prop:=c∈[lD,nO,nP,nQ]
instance (c:List UInt8):Decidable (isClass c):=by unfold isClass;infer_instance
theorem rv {k:List UInt8}{v:Int}{r:List UInt8}(h:bx k v r=0):(k=gp/\r∈eM/\v=0)\/(k≠gp/\known k/\r=[]/\eY k<=v/\v<=eZ k):=by
 unfold bx at h;split at h
 . rename_i h1;split at h
   . cases h
   . rename_i h2;split at h
     . cases h
     . rename_i h3;exact .inl ⟨h1,Classical.not_not.1 h2,Classical.not_not.1 h3⟩
 . rename_i h1;split at h
   . cases h
   . rename_i h2;split at h
     . cases h
     . rename_i h3;split at h
       . cases h
       . rename_i h4;exact .inr ⟨h1,Classical.not_not.1 h2,Classical.not_not.1 h3,by omega,by omega⟩
def Hl (c:List UInt8):Int:=if c=nO then 100 else if c=nP then 1000 else if c=nQ then 10 else if c=lD then 1 else 0
def Hm (c:List UInt8):List UInt8:=if c=nO then bm else if c=nP then bm else if c=nQ then eL else []
def Kb:Spec:=fun
 | [.str c],h=>some ⟨.aq [.int .i64 (Hl c),.str (Hm c)],h,[]⟩
 | _,_=>none
def xf:Spec:=fun
 | [.str k],h=>some ⟨.int .i64 (eZ k),h,[]⟩
 | _,_=>none
def Hn (h:Int):Int:=-(-h/10)
def Kc:Spec:=fun
 | [.int .i64 n],h=>some ⟨.aq [.int .i64 (if n < -9999\/9999<n then 0 else Hn n),.int .i64 (if n < -9999\/9999<n then 3 else 0)],h,[]⟩
 | _,_=>none
def xg:Spec:=fun
 | [.int .i64 x,.int .i64 lo,.int .i64 hi],h=>some ⟨.bool (decide (x<lo) || decide (hi<x)),h,[]⟩
 | _,_=>none
theorem Ho {T:List (Nat×Spec)}(hft:F=FT)(k:List UInt8)(v:Int)(r:List UInt8):aJ (eH T inv F) 34 [dx k v r] [] ⟨.bool (decide (k.length<=40/\r.length<=40)),[],[]⟩:=by
 refine bq (show F 34=_ from by rw[hft];exact GQ) (by simp) ?_;unfold wW;simp only[enter];repeat' first|apply Ke|apply aj|apply Kf|apply Kg|apply Kn|apply Ki|apply Kx|apply Kl|apply aF|apply bX|apply bn|apply cD|apply cg|(apply dk;rfl)|apply cB|apply dr|apply cU|apply dJ|(apply Kj;rfl)|(apply Kk;rfl)|(apply KG;rfl;all_goals intro _)|(apply Ky;rfl)|(apply Kv;rfl)|(apply KB;rfl)|(apply KD;rfl)|(apply KS;rfl)|(apply Le;rfl;rfl)|(apply Kp;rfl;rfl)|(apply Kq;rfl;rfl)|(apply Kr;rfl;rfl;rfl)|(apply Ko;rfl;rfl;rfl)|(apply Kt;rfl;rfl;rfl)|(apply Kd;rfl;rfl)|(apply Kh;rfl;rfl)|(intro _;omega)|intro _
 all_goals exact⟨.inr rfl,rfl,_,rfl,congrArg AV.bool (by first|(rw[eq_comm,decide_eq_true_eq];omega)|(rw[eq_comm,decide_eq_false_iff_not];omega)),rfl⟩
def ry:Spec:=fun
 | [],h=>some ⟨.bool true,h,[]⟩
 | _,_=>none
def rz:Spec:=fun
 | [.agg [.str k,.int .i64 _,.str r]],h=>some ⟨.bool (decide (k.length<=40/\r.length<=40)),h,[]⟩
 | _,_=>none
end Go.Ab.Ch1

/-
  Own work: the contracts of marks as a table.
-/
namespace Go.Ab
variable {ks:List Nat} {N:Nat}
theorem Rn.rA {l l0:List AV}(h:fR ks N l l0):Rn ks N (.agg l) (.agg l0):=.agg h.1 h.2
end Go.Ab
namespace Go.Ab.Ch1
open Go.Proofs
theorem Hp:aV Tryz.prog gl 185 lE:=by
 intro xs h r hq;unfold lE at hq;split at hq
 . split at hq
   . rename_i l hl;split at hq
     . rename_i hlen;cases hq;obtain⟨S,cap,hf⟩:=(uo hl).fr (fun _=>rfl);exact fC eG br (GW (T:=[]) rfl l _ cap hlen) (.cons hf (.cons (.same rfl) .nil)) rfl (.inr rfl)
     . cases hq
   . cases hq
 . cases hq
theorem Hq:aV Tryz.prog gl 116 rq:=by
 intro xs h r hq;unfold rq at hq;split at hq
 . split at hq
   . rename_i l hl;split at hq
     . rename_i hlen;cases hq;obtain⟨S,cap,hf⟩:=(uo hl).fr (fun _=>rfl);exact fC eG (aL Hp br) (GY (T:=[]) rfl l _ cap hlen) (.cons hf (.cons (.same rfl) .nil)) rfl (.inr rfl)
     . cases hq
   . cases hq
 . cases hq
theorem xh:aV Tryz.prog gl 112 ji:=by
 intro xs h r hq;unfold ji at hq;split at hq
 . cases hq;exact fC eG (aL Hq br) (GZ (T:=[]) rfl _) (dj.same rfl) rfl (.inl rfl)
 . cases hq
theorem Hr:aV Tryz.prog gl 109 ji:=by
 intro xs h r hq;unfold ji at hq;split at hq
 . cases hq;exact fC eG br (Ha (T:=[]) rfl _) (dj.same rfl) rfl (.inl rfl)
 . cases hq
theorem xi:aV Tryz.prog gl 113 nR:=by
 intro xs h r hq;unfold nR at hq;split at hq
 . cases hq;have hk:∀(i b:Nat),([0,1,2,3]:List Nat)[i]? = some b->Rn [0,1,2,3] h.length (.map b) (.map (h.length+i)):=fun i b hi=>.map hi
   refine tV eG br (He (T:=[]) rfl) (dj.nil (S:=[])) (ks:=[0,1,2,3]) (by decide) (.map (i:=0) rfl) rfl (fun i b o1 hi ho=>?_) (.inl rfl);match i,hi,ho with
   | 0,hi,ho=>
    cases hi;cases ho;refine⟨_,rfl,.map (.same rfl) ?_,.inl rfl⟩;refine .cons (.rA (.cons (.same rfl) (.cons (.same rfl) (.cons (.same rfl) (.cons (hk 1 1 rfl) (.cons (.same rfl) .nil)))))) (.cons (.rA (.cons (.same rfl) (.cons (.same rfl) (.cons (.same rfl) (.cons (hk 2 2 rfl) (.cons (.same rfl) .nil)))))) (.cons (.rA (.cons (.same rfl) (.cons (.same rfl) (.cons (.same rfl) (.cons (hk 3 3 rfl) (.cons (.same rfl) .nil)))))) .nil))
   | 1,hi,ho=>cases hi;cases ho;exact⟨_,rfl,.map (.same rfl) (.same rfl),.inl rfl⟩
   | 2,hi,ho=>cases hi;cases ho;exact⟨_,rfl,.map (.same rfl) (.same rfl),.inl rfl⟩
   | 3,hi,ho=>cases hi;cases ho;exact⟨_,rfl,.map (.same rfl) (.same rfl),.inl rfl⟩
 . cases hq
theorem xj:aV Tryz.prog gl 95 xg:=DP
theorem nS:aV Tryz.prog gl 36 gq:=by
 intro xs h r hq;unfold gq at hq;split at hq
 . cases hq;exact fC eG (aL xi (aL xh (aL uS (aL uT (aL xj br))))) (Hg rfl _ _ _) (dj.same rfl) rfl (.inl rfl)
 . cases hq
theorem Hs:aV Tryz.prog gl 110 (fun
 | [.str k],h=>some ⟨.int .i64 (eY k),h,[]⟩
 | _,_=>none):=by
 intro xs h r hq;dsimp only at hq;split at hq
 . cases hq;exact fC eG br (Hh (T:=[]) rfl _) (dj.same rfl) rfl (.inl rfl)
 . cases hq
theorem Ht:aV Tryz.prog gl 111 xf:=by
 intro xs h r hq;unfold xf at hq;split at hq
 . cases hq;exact fC eG br (Hi (T:=[]) rfl _) (dj.same rfl) rfl (.inl rfl)
 . cases hq
theorem Hu:aV Tryz.prog gl 35 gq:=by
 intro xs h r hq;unfold gq at hq;split at hq
 . cases hq;exact fC eG (aL Hr (aL Hs (aL Ht br))) (Hk rfl _ _ _) (dj.same rfl) rfl (.inl rfl)
 . cases hq
theorem Hv:aV Tryz.prog gl 34 rz:=by
 intro xs h r hq;unfold rz at hq;split at hq
 . cases hq;exact fC eG br (Ho (T:=[]) rfl _ _ _) (dj.same rfl) rfl (.inl rfl)
 . cases hq
theorem Hw:aV Tryz.prog gl 18 ry:=by
 intro xs h r hq;unfold ry at hq;split at hq
 . exact DO _ _ _ hq
 . cases hq
open Go.Ab.aD
structure PR where
 k:ae
 v:Int
 r:ae
 e:Int
def PR.av (p:PR):AV:=.aq [dx p.k p.v p.r,.iV p.e]
def dN (e:Int):PR:=⟨[],0,[],e⟩
def dy (k:ae)(v:Int)(r:ae):PR:=if bx k v r≠0 then dN (bx k v r) else ⟨k,v,r,0⟩
def bB (s:ae):Int:=if s≠[]/\s.length<=9/\s.all bk=true then (bG 0 s:Nat) else -1
def bE (s:ae):Int:=if 1<s.length/\s[0]! = 48 then -1 else bB s
def bV (s:ae)(lo hi:Nat):Int:=if bB s<0\/s.length<lo\/hi<s.length then -1 else bB s*10^(hi-s.length)
def bL (i:Nat)(s:ae):Int:=if i=0 then bE s else if s.length=2 then bB s else -1
def dU:Nat->List ae->List Int
 | _,[]=>[]
 | i,s::l=>bL i s::dU (i+1) l
def fa (n:Nat):Nat->List Int->Bool
 | _,[]=>false
 | i,x::l=>decide (59<x/\(0<i\/n<3)) || fa n (i+1) l
def gr (l:List Int):Int:=l.foldl (fun a x=>60*a+x) 0
def fb (fs:List ae)(rest:Int):PR:=
 if 3<fs.length\/rest<0 then dN 25
 else if (dU 0 fs).any (fun x=>decide (x<0)) then dN 25
 else if fa fs.length 0 (dU 0 fs) then dN 3
 else dy bm (10000*gr (dU 0 fs)+rest) []
def ke (s:ae):PR:=
 match (aN 46 s).2 with
 | none=>dN 25
 | some b=>if bE (aN 46 s).1<0\/bV b 2 3<0 then dN 25 else dy eL (1000*bE (aN 46 s).1+bV b 2 3) []
def jj (s:ae):PR:=
 match (aN 46 s).2 with
 | none=>dN 25
 | some b=>fb (aU 58 (aN 46 s).1) (bV b 1 4)
def bH (b:UInt8)(s:ae):Bool:=decide (s.getLast? = some b)
def cW (s:ae):PR:=
 if 24<s.length then dN 26
 else if s∈eM then ⟨gp,0,s,0⟩
 else if bH 112 s then (if bE s.dropLast<0 then dN 25 else dy fT (bE s.dropLast) [])
 else if bH 109 s then ke s.dropLast
 else jj s
theorem nT (s:ae):bB s = -1\/(bB s=(bG 0 s:Nat)/\bG 0 s<1000000000/\s≠[]/\s.length<=9/\s.all bk=true):=by
 unfold bB;split
 . rename_i h;refine .inr ⟨rfl,?_,h⟩;exact Nat.lt_of_lt_of_le (qI s h.2.2) (Nat.le_trans (Nat.pow_le_pow_right (by decide) h.2.1) (by decide))
 . exact .inl rfl
theorem rB (s:ae) : -1<=bB s/\bB s<1000000000:=by
 rcases nT s with h|⟨h,h2,_⟩ <;> rw[h] <;> omega
theorem rC (s:ae):bE s = -1\/(bE s=bB s/\0<=bB s/\gM s=true):=by
 unfold bE;split
 . exact .inl rfl
 . rename_i h;rcases nT s with e|⟨e,h2,h3,h4,h5⟩
   . exact .inl e
   . refine .inr ⟨rfl,by omega,?_⟩;unfold gM;rw[decide_eq_true h3,h5,Bool.true_and,Bool.true_and];by_cases h0:s[0]! = 48
     . have hl:¬1<s.length:=fun hl=>h ⟨hl,h0⟩
       match s,h3,hl,h0 with
       | [a],_,_,h0=>
        have:a=48:=h0;subst this;rfl
       | a::b::t,_,hl,_=>simp at hl
     . rw[decide_eq_true (show s[0]! ≠ 48 from h0),Bool.true_or]
theorem xk (s:ae) : -1<=bE s/\bE s<1000000000:=by
 have:=rB s;rcases rC s with h|⟨h,_⟩ <;> rw[h] <;> omega
theorem Hx (s:ae):decide (0<=bE s)=(decide (0<=bB s) && gM s):=by
 rcases rC s with h|⟨h,h2,h3⟩
 . rw[h];unfold bE at h;split at h
   . rename_i h1;have:gM s=false:=by
      unfold gM;have h2:¬s=[48]:=fun e=>by rw[e]at h1;exact absurd h1.1 (by decide)
      rw[decide_eq_false (show ¬(s[0]! ≠ 48) from fun h=>h h1.2),decide_eq_false h2];simp
     rw[this,Bool.and_false];rfl
   . rw[h];rfl
 . rw[h,h3,Bool.and_true]
def bw (s:ae):Int:=if 0<=bB s then bB s else 0
theorem rD (s:ae):0<=bw s/\bw s<1000000000:=by
 have:=rB s;unfold bw;split <;> omega
theorem rE {s:ae}(h:0<=bE s):bw s=bE s:=by
 rcases rC s with e|⟨e,h2,_⟩
 . omega
 . rw[e,bw,if_pos h2]
def eB (s:ae)(hi:Nat):Int:=bw s*10^(hi-s.length)
theorem rF (s:ae)(lo hi:Nat):decide (0<=bV s lo hi)=(decide (0<=bB s) && !(decide (s.length<lo) || decide (hi<s.length))):=by
 unfold bV;split
 . rename_i h;have:¬(0:Int) <= -1:=by decide
   rw[decide_eq_false this];by_cases h0:0<=bB s
   . have h1:s.length<lo\/hi<s.length:=by omega
     rcases h1 with h1|h1 <;> simp[h1]
   . simp[h0]
 . rename_i h;have h0:0<=bB s:=by omega
   have h1:¬s.length<lo:=by omega
   have h2:¬hi<s.length:=by omega
   have:0<=bB s*10^(hi-s.length):=Int.mul_nonneg h0 (Int.pow_nonneg (by decide));simp[h0,h1,h2,this]
theorem rG {s:ae}{lo hi:Nat}(h:0<=bV s lo hi):bV s lo hi=eB s hi:=by
 have h1:=rF s lo hi;rw[decide_eq_true h,eq_comm,Bool.and_eq_true]at h1;have h2:0<=bB s:=of_decide_eq_true h1.1;unfold bV eB bw at *
 rw[if_pos h2];split
 . rename_i h3;rw[if_pos h3]at h;omega
 . rfl
theorem xl (s:ae){hi:Nat}(h:hi<=4):0<=eB s hi/\eB s hi<10000000000000:=by
 have:=rD s;unfold eB;have h1:(10:Int)^(hi-s.length)<=10^4:=qD (by decide) (by omega);have h2:(0:Int)<=10^(hi-s.length):=Int.pow_nonneg (by decide);generalize (10:Int)^(hi-s.length)=p at *
 refine⟨Int.mul_nonneg this.1 h2,?_⟩;have:bw s*p<=bw s*10^4:=Int.mul_le_mul_of_nonneg_left h1 this.1;have e4:(10:Int)^4=10000:=rfl;omega
def gu (n:Nat):ae:=
 (
  if 3600<=n/10000 then aH (n/10000/3600)++[58]++bg 2 (n/10000/60%60)++[58]++bg 2 (n/10000%60)
  else if 60<=n/10000 then aH (n/10000/60)++[58]++bg 2 (n/10000%60) else aH (n/10000))++[46] ++
 (if n%100=0 then bg 2 (n%10000/100) else bg 4 (n%10000))
def gN (n:Nat):ae:=aH (n/1000)++[46]++(if n%10=0 then bg 2 (n%1000/10) else bg 3 (n%1000))++[109]
def gO (n:Nat):ae:=aH n++[112]
def cF (k:ae)(v:Int)(r:ae):ae:=if k=gp then r else if k=bm then gu v.toNat else if k=eL then gN v.toNat else gO v.toNat
theorem Hy {n L:Nat}(h:n<10^L)(hL:0<L):List.replicate (L-(aH n).length) 48++aH n=bg L n:=by
 have hlen:=eJ h hL;have hd:(List.replicate (L-(aH n).length) 48++aH n).all bk=true:=by
  rw[List.all_append,fH,Bool.and_true,List.all_eq_true];intro x hx;rw[(List.mem_replicate.1 hx).2];rfl
 have e:=EC hd;have hv:bG 0 (List.replicate (L-(aH n).length) 48++aH n)=n:=by
  have:∀k,bG 0 (List.replicate k 48)=0:=fun k=>by
   induction k with
   | zero=>rfl
   | succ k ih=>rw[List.replicate_succ,lv];exact ih
  rw[lu,this,qK]
 have hl:(List.replicate (L-(aH n).length) (48:UInt8)++aH n).length=L:=by
  rw[List.length_append,List.length_replicate];omega
 rw[hv,hl]at e;exact e.symm
set_option maxRecDepth 1000000
def t12:ao:=zR [zf 85 0 2,zd 86 1 85,⟨.l 87,.bin .neq (.l 86) (.c (.str zD13)),none⟩] (.cond (.l 87) (zR [⟨.p 4,.mv (.c (.bool true)),none⟩] (.ret)) (.skip))
def nU:ao:=.seq t12 (.seq (zR [zf 88 1 2,zd 89 1 88,zc 90 .rem 89 100,zc 91 .eql 90 0] (.cond (.l 91) (zR [zm 93 5,⟨.l 94,.bin .add (.l 93) (.c (.str [48,48])),none⟩,z1 95 46 94,zn 92 95,ze 96 0 92,ze 97 1 92,⟨.p 11,.alloc 49 [.str [],.iV (0),.str []],none⟩,zs 3 11 96,zw 12 97] (zR [zm 98 12,zc 99 .neq 98 0,zn 100 99,zg (zt 101 3 11) 100 false,zg (zt 102 3 2) 100 false,⟨.l 103,.eq true (.fm [(0,1,false,.str),(1,1,false,.int),(2,1,false,.str)]) (.l 101) (.l 102),some ((.l 100),false)⟩,zP 104 100 103] (.cond (.l 104) (zR [⟨.p 4,.mv (.c (.bool false)),none⟩] (.ret)) (.skip)))) (.skip))) (.seq (zR [zf 105 1 2,zd 106 1 105,zc 107 .geq 106 600000,zn 108 107,zg (zf 109 1 2) 108 false,zg (zd 110 1 109) 108 false,zg (zc 111 .lss 110 100000) 108 false,zP 112 108 111] (.cond (.l 112) (zR [⟨.p 4,.mv (.c (.bool true)),none⟩] (.ret)) (.skip))) (zR [zm 114 5,⟨.l 115,.bin .add (.c (.str [48,58])) (.l 114),none⟩,z1 116 46 115,zn 113 116,ze 117 0 113,ze 118 1 113,⟨.p 13,.alloc 49 [.str [],.iV (0),.str []],none⟩,zs 3 13 117,zw 14 118] (zR [zm 120 5,⟨.l 121,.bin .add (.c (.str zD18)) (.l 120),none⟩,z1 122 46 121,zn 119 122,ze 123 0 119,ze 124 1 119,⟨.p 15,.alloc 49 [.str [],.iV (0),.str []],none⟩,zs 3 15 123,zw 16 124] (zR [zm 125 14,zm 126 16,zb 127 .add 125 126,zc 128 .eql 127 0,zn 129 128,zg (zt 130 3 13) 129 true,zg (zt 131 3 2) 129 true,⟨.l 132,.eq false (.fm [(0,1,false,.str),(1,1,false,.int),(2,1,false,.str)]) (.l 130) (.l 131),some ((.l 129),true)⟩,zp 133 129 132,zn 134 133,zg (zt 135 3 15) 134 true,zg (zt 136 3 2) 134 true,⟨.l 137,.eq false (.fm [(0,1,false,.str),(1,1,false,.int),(2,1,false,.str)]) (.l 135) (.l 136),some ((.l 134),true)⟩,zp 138 134 137,zw 4 138] (.ret))))))
def xn:ao:=zR [zx 2 49 3 0,zx 3 49 3 1,⟨.p 4,.mv (.c (.bool false)),none⟩] (.seq (zR [⟨.l 17,.call (kF 18) [],none⟩,zu 18 17,zn 19 18,zg (zt 20 3 2) 19 false,zg (z1 21 34 20) 19 false,zg (zu 22 21) 19 false,zP 23 19 22,zn 24 23,zg (zt 25 3 3) 24 false,zg (z1 26 34 25) 24 false,zg (zu 27 26) 24 false,zP 28 24 27,zn 29 28,zg (zt 30 3 2) 29 false,zg (z1 31 35 30) 29 false,zg (zc 32 .neq 31 0) 29 false,zP 33 29 32,zn 34 33,zg (zt 35 3 3) 34 false,zg (z1 36 35 35) 34 false,zg (zc 37 .neq 36 0) 34 false,zP 38 34 37] (.cond (.l 38) (zR [⟨.l 39,.call (kF 18) [],none⟩,zw 4 39] (.ret)) (.skip))) (zR [zt 41 3 2,z1 42 44 41,zn 40 42,ze 43 0 40,ze 44 1 40,zw 5 43,zw 6 44] (zR [zt 46 3 3,z1 47 44 46,zn 45 47,ze 48 0 45,ze 49 1 45,zw 7 48,zw 8 49] (zR [zm 51 5,z1 52 46 51,zn 50 52,ze 53 0 50,ze 54 1 50,⟨.p 9,.alloc 49 [.str [],.iV (0),.str []],none⟩,zs 3 9 53,zw 10 54] (.seq (zR [zm 55 6,zm 56 8,zb 57 .add 55 56,zm 58 10,zb 59 .add 57 58,zc 60 .neq 59 0,zn 61 60,zg (zt 62 3 9) 61 false,zg (zt 63 3 2) 61 false,⟨.l 64,.eq true (.fm [(0,1,false,.str),(1,1,false,.int),(2,1,false,.str)]) (.l 62) (.l 63),some ((.l 61),false)⟩,zP 65 61 64,zn 66 65,zg (zm 67 5) 66 false,zg (zm 68 7) 66 false,zg (zb 69 .eql 67 68) 66 false,zg (zt 70 3 2) 66 false,zg (zt 71 3 3) 66 false,⟨.l 72,.eq false (.fm [(0,1,false,.str),(1,1,false,.int),(2,1,false,.str)]) (.l 70) (.l 71),some ((.l 66),false)⟩,⟨.l 73,.eq true .bool (.l 69) (.l 72),some ((.l 66),false)⟩,zP 74 66 73,zn 75 74,zg (zm 76 5) 75 false,zg (zL 77 76) 75 false,zg (zc 78 .eql 77 0) 75 false,zP 79 75 78,zn 80 79,zg (zm 81 5) 80 false,zg (zL 82 81) 80 false,zg (zc 83 .gtr 82 16) 80 false,zP 84 80 83] (.cond (.l 84) (zR [⟨.p 4,.mv (.c (.bool false)),none⟩] (.ret)) (.skip)))
       nU)))))
theorem Hz:FT 12=some ⟨139,[0,1,2,3,4,5,6,7,8,9,10,11,12,13,14,15,16],[.var (.p 4)],xn⟩:=by kernel_rfl
variable {M:au} {cap:Option Nat}
section
variable {t:Nat} {x y:an} {l:List aw} {pe:List AV} {lo:List (Nat×AV)} {hp:ab} {df wr:List Nat} {a d:Int} {Q:ah->Prop}
end
theorem jk (c:UInt8):∀(x t:ae),c∉x->aU c (x++c::t)=x::aU c t
 | [],t,_=>by rw[List.nil_append,aU,if_pos rfl]
 | a::x,t,h=>by
  rw[List.mem_cons,not_or]at h;rw[List.cons_append,aU,if_neg (fun e=>h.1 e.symm),jk c x t h.2]
theorem kf (c:UInt8):∀(x:ae),c∉x->aU c x=[x]
 | [],_=>rfl
 | a::x,h=>by
  rw[List.mem_cons,not_or]at h;rw[aU,if_neg (fun e=>h.1 e.symm),kf c x h.2]
abbrev sF (s:ae):List AV:=[.str s]
def xp:ao:=zR [⟨.p 2,.mv (.c (.str [])),none⟩,⟨.p 3,.mv (.c (.bool false)),none⟩] (zR [zm 6 0,zm 7 1,z2 8 186 6 7,ze 9 0 8,ze 10 1 8,zw 2 9,zw 3 10] (.ret))
theorem HB:FT 120=some ⟨11,[0,1,4,5],[.var (.p 2),.var (.p 3)],xp⟩:=by kernel_rfl
def rH:ao:=zR [⟨.p 2,.mv (.c (.str [])),none⟩,⟨.p 3,.mv (.c (.bool false)),none⟩] (.seq (zR [zm 6 0,zm 7 1,z2 8 227 6 7,zu 9 8] (.cond (.l 9) (zR [zm 10 0,zw 2 10,⟨.p 3,.mv (.c (.bool false)),none⟩] (.ret)) (.skip))) (zR [zm 11 0,zm 12 0,zL 13 12,zm 14 1,zL 15 14,zb 16 .sub 13 15,⟨.l 17,.slice .str 1 (.l 11) none (some (.l 16)) none,none⟩,zw 2 17,⟨.p 3,.mv (.c (.bool true)),none⟩] (.ret)))
theorem HC:FT 186=some ⟨18,[0,1,4,5],[.var (.p 2),.var (.p 3)],rH⟩:=by kernel_rfl
def rI:ao:=zR [⟨.p 2,.mv (.c (.bool false)),none⟩] (zR [zm 5 0,zL 6 5,zm 7 1,zL 8 7,zb 9 .geq 6 8,zn 10 9,zg (zm 11 0) 10 true,zg (zm 12 0) 10 true,zg (zL 13 12) 10 true,zg (zm 14 1) 10 true,zg (zL 15 14) 10 true,zg (zb 16 .sub 13 15) 10 true,⟨.l 17,.slice .str 1 (.l 11) (some (.l 16)) none none,some ((.l 10),true)⟩,zg (zm 18 1) 10 true,zg (zb 19 .eql 17 18) 10 true,zp 20 10 19,zw 2 20] (.ret))
theorem HD:FT 227=some ⟨21,[0,1,4],[.var (.p 2)],rI⟩:=by kernel_rfl
def xq:ao:=zR [zi 1 0,⟨.p 2,.mv (.c (.bool false)),none⟩] (zR [zm 7 0,z1 8 187 7,zn 6 8,ze 9 0 6,ze 10 1 6,zw 3 9,zw 4 10] (zR [zm 11 3,zm 12 4,zn 13 12,zg (zm 14 0) 13 true,zg (z1 15 164 14) 13 true,zp 16 13 15,zw 1 11,zw 2 16] (.ret)))
theorem HE:FT 121=some ⟨17,[0,2,3,4,5],[.var (.p 1),.var (.p 2)],xq⟩:=by kernel_rfl
def xr:ao:=zR [zx 1 49 3 0,⟨.p 2,.alloc 49 [.str [],.iV (0),.str []],none⟩,zi 3 0] (.seq (zR [zt 5 3 1,z1 6 36 5,zw 4 6] (zR [zm 7 4,zc 8 .neq 7 0] (.cond (.l 8) (zR [⟨.l 9,.build [.str [],.iV (0),.str []] [],none⟩,zm 10 4,zs 3 2 9,zw 3 10] (.ret)) (.skip)))) (zR [zt 11 3 1,zs 3 2 11,zi 3 0] (.ret)))
theorem HF:FT 122=some ⟨12,[0,1,2,3,4],[.cell 3 true (.p 2),.var (.p 3)],xr⟩:=by kernel_rfl
def xu:ao:=zR [⟨.p 1,.alloc 49 [.str [],.iV (0),.str []],none⟩,zi 2 0] (zR [zm 12 0,⟨.l 13,.call (kF 163) [(.l 12),(.c (.str [46]))],none⟩,zn 11 13,ze 14 0 11,ze 15 1 11,ze 16 2 11,zw 3 14,zw 4 15,zw 5 16] (zR [zm 18 3,z1 19 121 18,zn 17 19,ze 20 0 17,ze 21 1 17,zw 6 20,zw 7 21] (zR [zm 23 4,⟨.l 24,.call (kF 188) [(.l 23),(kI 2),(kI 3)],none⟩,zn 22 24,ze 25 0 22,ze 26 1 22,zw 8 25,zw 9 26] (.seq (zR [zm 27 5,zu 28 27,zn 29 28,zg (zm 30 7) 29 false,zg (zu 31 30) 29 false,zP 32 29 31,zn 33 32,zg (zm 34 9) 33 false,zg (zu 35 34) 33 false,zP 36 33 35] (.cond (.l 36) (zR [⟨.l 37,.build [.str [],.iV (0),.str []] [],none⟩,zs 3 1 37,zi 2 25] (.ret)) (.skip))) (zR [zm 38 6,⟨.l 39,.bin .mul (kI 1000) (.l 38),none⟩,zm 40 8,zb 41 .add 39 40,⟨.l 42,.build [.str [],.iV (0),.str []] [(0,1,(.c (.str zD17))),(1,1,(.l 41))],none⟩,z1 43 122 42,ze 44 0 43,ze 45 1 43,zs 3 1 44,zw 2 45] (.ret))))))
theorem HG:FT 123=some ⟨46,[0,2,3,4,5,6,7,8,9,10],[.cell 3 true (.p 1),.var (.p 2)],xu⟩:=by kernel_rfl
def xw:ao:=zR [zi 1 0,⟨.p 2,.mv (.c (.bool false)),none⟩] (.seq (zR [zm 6 0,z1 7 209 6,zu 8 7,zn 9 8,zg (zm 10 0) 9 false,zg (zL 11 10) 9 false,zg (zc 12 .gtr 11 9) 9 false,zP 13 9 12] (.cond (.l 13) (zR [zi 1 0,⟨.p 2,.mv (.c (.bool false)),none⟩] (.ret)) (.skip))) (zR [zm 15 0,z1 16 214 15,zn 14 16,ze 17 0 14,ze 18 1 14,zw 3 17,zw 4 18] (.seq (.draw [(zm 19 3,[]),(zm 20 4,[0]),(⟨.l 21,.eq false (.iface false) (.l 20) (.c (.bZ)),none⟩,[0]),(zw 1 19,[1,2]),(zw 2 21,[])]) (.ret))))
theorem HH:FT 187=some ⟨22,[0,2,3,4,5],[.var (.p 1),.var (.p 2)],xw⟩:=by kernel_rfl
def rJ:ao:=zR [zr 20 .lss 8 7] (.seq (.cond (.l 20) (.skip) (.exit 0)) (.seq (.block 1 (.region [zm 21 5,zc 22 .mul 21 10,zw 5 22])) (.region [zq 23 .add 8 1,zw 8 23])))
def xy:ao:=zR [zi 3 0,⟨.p 4,.mv (.c (.bool false)),none⟩] (zR [zm 11 0,z1 12 187 11,zn 10 12,ze 13 0 10,ze 14 1 10,zw 5 13,zw 6 14] (.seq (zR [zm 15 2,zm 16 0,zL 17 16,⟨.p 7,.bin .sub (.l 15) (.l 17),none⟩,zi 8 0] (.block 0 (.loop rJ))) (zR [zm 24 5,zm 25 6,zn 26 25,zg (zm 27 0) 26 true,zg (zL 28 27) 26 true,zg (zm 29 1) 26 true,zg (zm 30 2) 26 true,⟨.l 31,.call (kF 95) [(.l 28),(.l 29),(.l 30)],some ((.l 26),true)⟩,zg (zu 32 31) 26 true,zp 33 26 32,zw 3 24,zw 4 33] (.ret))))
theorem HI:FT 188=some ⟨34,[0,1,2,6,7,8,9,18,19],[.var (.p 3),.var (.p 4)],xy⟩:=by kernel_rfl
def xz:ao:=zR [⟨.p 2,.mv (.c (.str [])),none⟩] (zR [zm 6 0,z1 7 183 6,zw 3 7] (zR [zm 8 1,zm 9 3,zL 10 9,zb 11 .sub 8 10,⟨.l 12,.mm true [(kI 0),(.l 11)],none⟩,⟨.l 13,.call (kF 264) [(.c (.str [48])),(.l 12)],none⟩,zm 14 3,zb 15 .add 13 14,zw 2 15] (.ret)))
theorem HJ:FT 225=some ⟨16,[0,1,4,5],[.var (.p 2)],xz⟩:=by kernel_rfl
def xA:ao:=zR [⟨.p 1,.mv (.c (.str [])),none⟩] (zR [zm 8 0,zc 9 .quo 8 10000,zm 10 0,zc 11 .rem 10 10000,zw 2 9,zw 3 11] (zR [zm 12 2,zc 13 .quo 12 60,zm 14 2,zc 15 .quo 14 3600,zw 4 13,zw 5 15] (zR [⟨.p 6,.mv (.c (.str [])),none⟩] (.seq (.block 0 (zR [zm 19 5,zc 20 .gtr 19 0,zn 18 20] (.cond (.l 18) (.region [zm 21 5,z1 22 183 21,⟨.l 23,.bin .add (.l 22) (.c (.str [58])),none⟩,zm 24 4,zc 25 .rem 24 60,⟨.l 26,.call (kF 225) [(.l 25),(kI 2)],none⟩,zb 27 .add 23 26,⟨.l 28,.bin .add (.l 27) (.c (.str [58])),none⟩,zm 29 2,zc 30 .rem 29 60,⟨.l 31,.call (kF 225) [(.l 30),(kI 2)],none⟩,zb 32 .add 28 31,zw 6 32]) (zR [zm 34 4,zc 35 .gtr 34 0,zn 33 35] (.cond (.l 33) (.region [zm 36 4,z1 37 183 36,⟨.l 38,.bin .add (.l 37) (.c (.str [58])),none⟩,zm 39 2,zc 40 .rem 39 60,⟨.l 41,.call (kF 225) [(.l 40),(kI 2)],none⟩,zb 42 .add 38 41,zw 6 42]) (.region [zm 16 2,z1 17 183 16,zw 6 17])))))) (.seq (zR [zm 43 3,zc 44 .rem 43 100,zc 45 .eql 44 0] (.cond (.l 45) (zR [zm 46 6,⟨.l 47,.bin .add (.l 46) (.c (.str [46])),none⟩,zm 48 3,zc 49 .quo 48 100,⟨.l 50,.call (kF 225) [(.l 49),(kI 2)],none⟩,zb 51 .add 47 50,zw 1 51] (.ret)) (.skip))) (zR [zm 52 6,⟨.l 53,.bin .add (.l 52) (.c (.str [46])),none⟩,zm 54 3,⟨.l 55,.call (kF 225) [(.l 54),(kI 4)],none⟩,zb 56 .add 53 55,zw 1 56] (.ret)))))))
theorem HK:FT 180=some ⟨57,[0,2,3,4,5,6,7],[.var (.p 1)],xA⟩:=by kernel_rfl
def xB:ao:=zR [⟨.p 1,.mv (.c (.str [])),none⟩] (zR [zm 5 0,zc 6 .quo 5 1000,z1 7 183 6,⟨.l 8,.bin .add (.l 7) (.c (.str [46])),none⟩,zm 9 0,zc 10 .rem 9 1000,zw 2 8,zw 3 10] (.seq (zR [zm 11 3,zc 12 .rem 11 10,zc 13 .eql 12 0] (.cond (.l 13) (zR [zm 14 2,zm 15 3,zc 16 .quo 15 10,⟨.l 17,.call (kF 225) [(.l 16),(kI 2)],none⟩,zb 18 .add 14 17,⟨.l 19,.bin .add (.l 18) (.c (.str [109])),none⟩,zw 1 19] (.ret)) (.skip))) (zR [zm 20 2,zm 21 3,⟨.l 22,.call (kF 225) [(.l 21),(kI 3)],none⟩,zb 23 .add 20 22,⟨.l 24,.bin .add (.l 23) (.c (.str [109])),none⟩,zw 1 24] (.ret))))
theorem HL:FT 181=some ⟨25,[0,2,3,4],[.var (.p 1)],xB⟩:=by kernel_rfl
def xC:ao:=zR [⟨.p 1,.mv (.c (.str [])),none⟩] (zR [zm 3 0,z1 4 183 3,⟨.l 5,.bin .add (.l 4) (.c (.str [112])),none⟩,zw 1 5] (.ret))
theorem HM:FT 182=some ⟨6,[0,2],[.var (.p 1)],xC⟩:=by kernel_rfl
def xD:ao:=zR [zx 1 49 3 0,⟨.p 2,.mv (.c (.str [])),none⟩,zi 3 0] (.seq (zR [zt 5 3 1,z1 6 36 5,zw 4 6] (zR [zm 7 4,zc 8 .neq 7 0] (.cond (.l 8) (zR [zm 9 4,⟨.p 2,.mv (.c (.str [])),none⟩,zw 3 9] (.ret)) (.skip)))) (.seq (zR [zf 10 0 1,zd 11 1 10,⟨.l 12,.bin .eql (.l 11) (.c (.str zD12)),none⟩] (.cond (.l 12) (zR [zf 13 2 1,zd 14 1 13,zw 2 14,zi 3 0] (.ret)) (.skip))) (.seq (.draw [(⟨.l 15,.call (kF 113) [],none⟩,[]),(zf 16 0 1,[0]),(zd 17 1 16,[0]),(⟨.l 18,.lookup .str (.agg [.iV (0),.iV (0),.bool false,.bY,.cH]) (.l 15) (.l 17) false,none⟩,[]),(⟨.l 19,.field 4 1 false (.l 18),none⟩,[]),(zf 20 1 1,[0,1,2,3,4]),(zd 21 1 20,[0,1,2,3,4]),(⟨.l 22,.call (.l 19) [(.l 21)],none⟩,[]),(zw 2 22,[]),(zi 3 0,[])]) (.ret))))
theorem HN:FT 44=some ⟨23,[0,1,2,3,4],[.var (.p 2),.var (.p 3)],xD⟩:=by kernel_rfl
def xE:ao:=zR [⟨.p 1,.alloc 49 [.str [],.iV (0),.str []],none⟩,zi 2 0] (.seq (zR [zm 10 0,zL 11 10,zc 12 .gtr 11 24] (.cond (.l 12) (zR [⟨.l 13,.build [.str [],.iV (0),.str []] [],none⟩,zs 3 1 13,zi 2 26] (.ret)) (.skip))) (.seq (zR [zm 14 0,z1 15 112 14] (.cond (.l 15) (zR [zm 16 0,⟨.l 17,.build [.str [],.iV (0),.str []] [(0,1,(.c (.str zD12))),(2,1,(.l 16))],none⟩,zs 3 1 17,zi 2 0] (.ret)) (.skip))) (.seq (zR [zm 19 0,⟨.l 20,.call (kF 120) [(.l 19),(.c (.str [112]))],none⟩,zn 18 20,ze 21 0 18,ze 22 1 18,zw 3 21,zw 4 22] (zR [zm 23 4] (.cond (.l 23) (zR [zm 25 3,z1 26 121 25,zn 24 26,ze 27 0 24,ze 28 1 24,zw 5 27,zw 6 28] (.seq (zR [zm 29 6,zu 30 29] (.cond (.l 30) (zR [⟨.l 31,.build [.str [],.iV (0),.str []] [],none⟩,zs 3 1 31,zi 2 25] (.ret)) (.skip))) (zR [zm 32 5,⟨.l 33,.build [.str [],.iV (0),.str []] [(0,1,(.c (.str zD11))),(1,1,(.l 32))],none⟩,z1 34 122 33,ze 35 0 34,ze 36 1 34,zs 3 1 35,zw 2 36] (.ret)))) (.skip)))) (.seq (zR [zm 38 0,⟨.l 39,.call (kF 120) [(.l 38),(.c (.str [109]))],none⟩,zn 37 39,ze 40 0 37,ze 41 1 37,zw 7 40,zw 8 41] (zR [zm 42 8] (.cond (.l 42) (zR [zm 43 7,z1 44 123 43,ze 45 0 44,ze 46 1 44,zs 3 1 45,zw 2 46] (.ret)) (.skip)))) (zR [zm 47 0,z1 48 124 47,ze 49 0 48,ze 50 1 48,zs 3 1 49,zw 2 50] (.ret))))))
theorem HO:FT 46=some ⟨51,[0,2,3,4,5,6,7,8,9],[.cell 3 true (.p 1),.var (.p 2)],xE⟩:=by kernel_rfl
end Go.Ab.Ch1
