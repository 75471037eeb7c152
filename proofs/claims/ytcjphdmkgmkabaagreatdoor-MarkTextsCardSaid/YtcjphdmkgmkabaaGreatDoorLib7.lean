/-
  Own work: texts: the first place of a byte, cuts.
-/
import Derived.Test.YtcjphdmkgmkabaaGreatDoorLib6
import Derived.Test.YtcjphdmkgmkabaaGreatDoorLib3
import Derived.Test.YtcjphdmkgmkabaaGreatDoorLib4
import Derived.Lib.Bytealg
import Derived.Test.YtcjphdmkgmkabaaGreatDoorCh1Base
set_option maxHeartbeats 8000000
set_option maxRecDepth 20000
namespace Go.Ab.Ch1
open Go.Ab.aI
variable {M:ay} {cap:Option Nat}
theorem NG {t esz n0:Nat}{x i:aq}{l:List az}{pe:List AV}{lo:List (Nat×AV)}{hp:ae}{df wr:List Nat}{b o:Nat}{k:IntKind}{n:Int}{Q:ak->Prop}(hx:(St.mk pe lo hp df).aa x=some (.ptr b o))(hy:(St.mk pe lo hp df).aa i=some (.int k n))(hb:0<=n/\n<n0)
 (h:WO M l ⟨⟨pe,(t,.ptr b (o+n.toNat*esz))::lo,hp,df⟩,wr⟩ Q):WO M (⟨.l t,.dE (some n0) esz x i,none⟩::l) ⟨⟨pe,lo,hp,df⟩,wr⟩ Q:=
 LK (v:=.ptr b (o+n.toNat*esz)) (by simp[aE,hx,hy,iR,hb]) rfl h
theorem Nr {t:Nat}{x y:aq}{l:List az}{pe:List AV}{lo:List (Nat×AV)}{hp:ae}{df wr:List Nat}{a b:Int}{Q:ak->Prop}(hx:(St.mk pe lo hp df).aa x=some (.int .u8 a))(hy:(St.mk pe lo hp df).aa y=some (.int .u8 b))(hr:0<=a-b/\a-b<256)
 (h:WO M l ⟨⟨pe,(t,.int .u8 (a-b))::lo,hp,df⟩,wr⟩ Q):WO M (⟨.l t,.bin .sub x y,none⟩::l) ⟨⟨pe,lo,hp,df⟩,wr⟩ Q:=
 LK (v:=.int .u8 (a-b)) (by
  have:IntKind.u8.wrap (a-b)=a-b:=by simp only[IntKind.wrap,IntKind.bits,IntKind.signed];simp;omega
  simp only[aE,hx,hy,cj,if_true,this]) rfl h
def hasB (c:Int)(s:ah):Bool:=s.any (fun b=>decide ((b.toNat:Int)=c))
theorem GA (s:ah)(b:UInt8):decide (0<=firstIdx ⟨s.toArray⟩ b)=hasB b.toNat s:=by
 unfold firstIdx hasB;have hsz:(ByteArray.mk s.toArray).size=s.length:=by simp[ByteArray.size]
 have hg:∀i,i<s.length->(ByteArray.mk s.toArray)[i]! = s[i]! := fun i hi=>by
  have h1:i<(ByteArray.mk s.toArray).size:=by rw[hsz];exact hi
  rw[getElem!_pos (ByteArray.mk s.toArray) i h1,getElem!_pos s i hi];rfl
 cases hf:(List.range (ByteArray.mk s.toArray).size).find? fun i=>(ByteArray.mk s.toArray)[i]! == b with
 | some i=>
  have h1:=List.find?_some hf;have h2:=List.mem_of_find?_eq_some hf;rw[List.mem_range,hsz]at h2;rw[hg i h2]at h1;symm
  simp only[decide_eq_true (show (0:Int)<=(i:Int) by omega)];rw[List.any_eq_true];refine⟨s[i],List.getElem_mem h2,?_⟩;rw[getElem!_pos s i h2]at h1;simp at h1;simp[h1]
 | none=>
  rw[List.find?_eq_none]at hf;symm
  rw[show decide ((0:Int) <= -1)=false from rfl];rw[List.any_eq_false];intro x hx;obtain⟨i,hi,rfl⟩:=List.mem_iff_getElem.1 hx;have:=hf i (by rw[List.mem_range,hsz];exact hi);rw[hg i hi,getElem!_pos s i hi]at this;simp at this;simp only[decide_eq_true_eq];intro e;exact this (UInt8.toNat_inj.1 (by omega))
structure ki (M:ay):Prop where
 ft:M.FT=FT
 rF:∀ars h,M.ext 256 ars h=none
 rG:∀ars h,M.ext 282 ars h=none
 rH:∀(s:ah) (c:Int) h,M.ext 312 [.str s,.int .u8 c] h=some ⟨.iV (firstIdx ⟨s.toArray⟩ c.toNat.toUInt8),h,[]⟩
theorem wz (b:UInt8):((b.toNat:Int)).toNat.toUInt8=b:=by simp
theorem GB (C:ki M)(s:ah)(b:UInt8)(H:ae):CT M (gE 282) [.str s,.int .u8 b.toNat] H ⟨.iV (firstIdx ⟨s.toArray⟩ b),H,[]⟩:=by
 have hc:=C.rH s b.toNat H;rw[wz]at hc;refine CT.run (C.rG _ _) (iF (by rw[C.ft];exact Gq) (by simp) ?_);simp only[List.nil_append,List.append_nil];unfold wk;simp only[enter];repeat' first|apply LL|apply aj|apply LM|apply LN|apply LP|(apply LV;rfl;rfl;first|exact hc)|(apply LK;rfl;rfl)|(apply LO;rfl;rfl)
 exact⟨.inr rfl,rfl,rfl,rfl,_,rfl,rfl⟩
theorem wA (C:ki M)(s:ah)(b:UInt8)(H:ae):CT M (gE 256) [.str s,.str [b]] H ⟨.iV (firstIdx ⟨s.toArray⟩ b),H,[]⟩:=by
 have hc:=GB C s b H;have hn0:¬(([b]:ah).length:Int)=0:=by simp
 have hn:(([b]:ah).length:Int)=1:=rfl;refine CT.run (C.rF _ _) (iF (by rw[C.ft];exact Gp) (by simp) ?_);simp only[List.nil_append,List.append_nil];unfold wj;simp only[enter];by_cases hs:([b]:ah)=s
 . subst hs;have e:firstIdx ⟨([b]:ah).toArray⟩ b=0:=by
    have h1:=GA [b] b;have h2:hasB b.toNat [b]=true:=by simp[hasB]
    rw[h2,decide_eq_true_eq]at h1;unfold firstIdx at h1 ⊢;rw[show (ByteArray.mk ([b]:ah).toArray).size=1 from rfl]at h1 ⊢;rw[show List.range 1=[0] from rfl]at h1 ⊢;have h3:((ByteArray.mk ([b]:ah).toArray)[0]! == b)=true:=by
     cases hq:((ByteArray.mk ([b]:ah).toArray)[0]! == b) with
     | true=>rfl
     | false=>simp[hq]at h1
    simp only[List.find?_cons,h3];rfl
   rw[e];repeat' first|(apply Mg;rfl;rfl;all_goals first|(intro h;exact absurd rfl h)|intro _)|apply LL|apply aj|apply LM|apply LN|apply LW|apply LP|apply aF|apply bX|(apply LS;rfl)|(apply Mf;rfl)|(apply Mc;rfl;rfl)|(apply Ma;rfl;rfl)|(apply LK;rfl;rfl)|(apply LO;rfl;rfl)|(intro _;omega)|intro _
   all_goals exact⟨.inr rfl,rfl,rfl,rfl,_,rfl,rfl⟩
 . repeat' first|(apply Mg;rfl;rfl;all_goals first|(intro h;exact absurd h hs)|intro _)|apply LL|apply aj|apply LM|apply LN|apply LW|apply LP|apply aF|apply bX|(apply LS;rfl)|(apply LR;rfl)|(apply Mf;rfl)|(apply Mc;rfl;rfl)|(apply Ma;rfl;rfl)|(apply Mz;rfl;rfl;first|exact hc)|(apply Mn;rfl;rfl;omega)|(apply LK;rfl;rfl)|(apply LO;rfl;rfl)|(intro _;omega)|intro _
   all_goals exact⟨.inr rfl,rfl,rfl,rfl,_,rfl,rfl⟩
def aT (b:UInt8):ah->ah×Option ah
 | []=>([],none)
 | c::s=>if c=b then ([],some s) else (c::(aT b s).1,(aT b s).2)
def aK (b:UInt8):ah->List ah
 | []=>[[]]
 | c::s=>if c=b then []::aK b s else match aK b s with
   | []=>[[c]]
   | x::l=>(c::x)::l
def cV (b:UInt8):ah->Nat
 | []=>0
 | c::s=>(if c=b then 1 else 0)+cV b s
theorem rI (b:UInt8):∀s:ah,aK b s≠[]
 | []=>by simp[aK]
 | c::s=>by
  rw[aK];split
  . simp
  . split <;> simp
theorem kj (b:UInt8):∀s:ah,(aK b s).length=cV b s+1
 | []=>rfl
 | c::s=>by
  have:=kj b s;rw[aK,cV];split
  . rw[List.length_cons,this];omega
  . split
    . rename_i h;exact absurd h (rI b s)
    . rename_i x l h;rw[h]at this;simp only[List.length_cons]at this ⊢;omega
theorem rJ (b:UInt8):∀s:ah,cV b s<=s.length
 | []=>Nat.le_refl _
 | c::s=>by
  have:=rJ b s;rw[cV,List.length_cons];split <;> omega
theorem iL {b:UInt8}:∀{s:ah},(aT b s).2=none->(aT b s).1=s/\aK b s=[s]/\cV b s=0
 | [],_=>⟨rfl,rfl,rfl⟩
 | c::s,h=>by
  rw[aT]at h ⊢;by_cases hc:c=b
  . rw[if_pos hc]at h;cases h
  . rw[if_neg hc]at h ⊢;obtain⟨h1,h2,h3⟩:=iL (s:=s) h;refine⟨by simp only;rw[h1],?_,?_⟩
    . rw[aK,if_neg hc,h2]
    . rw[cV,if_neg hc,h3]
theorem iM {b:UInt8}:∀{s y:ah},(aT b s).2=some y->s=(aT b s).1++b::y/\aK b s=(aT b s).1::aK b y/\cV b s=cV b y+1/\b∉(aT b s).1
 | [],y,h=>by cases h
 | c::s,y,h=>by
  rw[aT]at h ⊢;by_cases hc:c=b
  . rw[if_pos hc]at h ⊢;obtain rfl:s=y:=Option.some.inj h;subst hc;refine⟨rfl,?_,?_,by simp⟩
    . rw[aK,if_pos rfl]
    . rw[cV,if_pos rfl];omega
  . rw[if_neg hc]at h ⊢;obtain⟨h1,h2,h3,h4⟩:=iM (s:=s) h;refine⟨by simp only[List.cons_append];rw[←h1],?_,?_,?_⟩
    . rw[aK,if_neg hc,h2]
    . rw[cV,if_neg hc,h3];omega
    . simp only[List.mem_cons,not_or];exact⟨fun e=>hc e.symm,h4⟩
theorem rK {b:UInt8}:∀{s:ah},cV b s=0->(aT b s).2=none
 | [],_=>rfl
 | c::s,h=>by
  rw[cV]at h;by_cases hc:c=b
  . rw[if_pos hc]at h;omega
  . rw[if_neg hc]at h;rw[aT,if_neg hc];exact rK (s:=s) (by omega)
theorem wC (s:ah)(b:UInt8):firstIdx ⟨s.toArray⟩ b=if (aT b s).2=none then -1 else ((aT b s).1.length:Int):=by
 have hsz:(ByteArray.mk s.toArray).size=s.length:=by simp[ByteArray.size]
 have hg:∀i,i<s.length->(ByteArray.mk s.toArray)[i]! = s[i]! := fun i hi=>by
  have h1:i<(ByteArray.mk s.toArray).size:=by rw[hsz];exact hi
  rw[getElem!_pos (ByteArray.mk s.toArray) i h1,getElem!_pos s i hi];rfl
 unfold firstIdx;cases hy:(aT b s).2 with
 | none=>
  rw[if_pos rfl];cases hf:(List.range (ByteArray.mk s.toArray).size).find? fun i=>(ByteArray.mk s.toArray)[i]! == b with
  | none=>rfl
  | some i=>
   exfalso;have h1:=List.find?_some hf;have h2:=List.mem_of_find?_eq_some hf;rw[List.mem_range,hsz]at h2;rw[hg i h2,getElem!_pos s i h2]at h1;have hm:b∈s:=by
    have:s[i]=b:=by simpa using h1
    rw[←this];exact List.getElem_mem h2
   have h0:=(iL hy).2.2;have:∀s:ah,b∈s->0<cV b s:=fun s=>by
    induction s with
    | nil=>intro h;cases h
    | cons c s ih=>
     intro h;rw[cV];rcases List.mem_cons.1 h with rfl|h
     . rw[if_pos rfl];omega
     . have:=ih h;omega
   have:=this s hm;omega
 | some y=>
  rw[if_neg (by simp)];obtain⟨h1,_,_,h4⟩:=iM hy;generalize (aT b s).1=x at h1 h4 ⊢;have hl:x.length<s.length:=by rw[h1];simp
  have hf:((List.range (ByteArray.mk s.toArray).size).find? fun i=>(ByteArray.mk s.toArray)[i]! == b)=some x.length:=by
   rw[hsz,List.find?_range_eq_some];refine⟨?_,by simpa using hl,fun j hj=>?_⟩
   . rw[hg _ hl,getElem!_pos s _ hl];have:s[x.length]? = some b:=by rw[h1];simp
     rw[List.getElem?_eq_getElem hl]at this;simp[Option.some.inj this]
   . rw[hg j (by omega),getElem!_pos s j (by omega)];have:s[j]? = x[j]? := by rw[h1,List.getElem?_append_left hj]
     rw[List.getElem?_eq_getElem (by omega:j<s.length),List.getElem?_eq_getElem hj]at this;rw[Option.some.inj this];have hne:x[j]≠b:=fun e=>h4 (by rw[←e];exact List.getElem_mem hj)
     simp[hne]
  rw[hf]
def fk (b:UInt8)(s:ah):AV:=.ar [.str (aT b s).1,.str ((aT b s).2.getD []),.bool (aT b s).2.isSome]
theorem nW {b:UInt8}{s y:ah}(h:(aT b s).2=some y):s.length=(aT b s).1.length+1+y.length:=by
 have:=congrArg List.length (iM h).1;simp only[List.length_append,List.length_cons]at this;omega
theorem wD {b:UInt8}{s y:ah}(h:(aT b s).2=some y):s.take (aT b s).1.length=(aT b s).1:=by
 have e:=(iM h).1;generalize (aT b s).1=x at e ⊢;rw[e];simp
theorem wE {b:UInt8}{s y:ah}(h:(aT b s).2=some y):s.drop ((aT b s).1.length+1)=y:=by
 have e:=(iM h).1;generalize (aT b s).1=x at e ⊢;rw[e];simp
theorem GC (n208:∀ars h,M.ext 208 ars h=none)(C:ki M)(s:ah)(b:UInt8)(hl:s.length<1000000)(H:ae):CT M (gE 208) [.str s,.str [b]] H ⟨fk b s,H,[]⟩:=by
 have hc:=wA C s b H;have hn1:([b]:ah).length=1:=rfl;rw[wC]at hc;refine CT.run (n208 _ _) (iF (by rw[C.ft];exact Gm) (by simp) ?_);simp only[List.nil_append,List.append_nil];cases hy:(aT b s).2 with
 | none=>
  rw[if_pos hy]at hc;have h1:=(iL hy).1;unfold rD;simp only[enter];repeat' first|apply LL|apply aj|apply LM|apply LN|apply LP|apply LU|(apply LR;rfl)|(apply Mx;rfl;rfl)|(apply Mz;rfl;rfl;first|exact hc)|(apply LK;rfl;rfl)|(apply LO;rfl;rfl)|(intro _;omega)|intro _
  refine⟨.inr rfl,rfl,rfl,rfl,_,rfl,?_⟩;simp only[fk,hy,h1];rfl
 | some y=>
  rw[if_neg (by rw[hy];simp)]at hc;have h1:=nW hy;have h2:=wD hy;have h3:=wE hy;generalize hx:(aT b s).1=x at h1 h2 h3 hc;unfold rD;simp only[enter];repeat' first|(apply MK (r:=x);rfl;rfl;omega;(rw[Int.toNat_natCast];exact h2))|(apply MW (r:=y);rfl;rfl;omega;(rw[show ((x.length:Int)+(([b]:ah).length:Int)).toNat=x.length+1 by omega];exact h3))|apply LL|apply aj|apply LM|apply LN|apply LP|apply aF|(apply MI;rfl)|(apply LS;rfl)|(apply Mx;rfl;rfl)|(apply Mk;rfl;rfl;omega)|(apply Mz;rfl;rfl;first|exact hc)|(apply LK;rfl;rfl)|(apply LO;rfl;rfl)|(intro _;omega)|intro _
  refine⟨.inr rfl,rfl,rfl,rfl,_,rfl,?_⟩;simp only[fk,hy,hx];rfl
theorem GD (n208:∀ars h,M.ext 208 ars h=none)(C:ki M)(s:ah)(b:UInt8)(hl:s.length<1000000):aG M 163 [.str s,.str [b]] [] ⟨fk b s,[],[]⟩:=by
 have hc:=GC n208 C s b hl [];unfold fk at hc ⊢;refine ba (by rw[C.ft];exact Gl) (by simp) ?_;unfold wi;simp only[enter];repeat' first|apply LL|apply aj|apply LM|apply LN|apply LP|(apply Mz;rfl;rfl;first|exact hc)|(apply LK;rfl;rfl)|(apply LO;rfl;rfl)
 exact⟨.inr rfl,rfl,_,rfl,rfl,rfl⟩
@[irreducible] def dg:List AV:=(List.range 256).map fun i=>.bool (nJ i)
def hC:ah:=[48,49,50,51,52,53,54,55,56,57]
set_option maxRecDepth 1000000 in
theorem GF (M:ay):dT (aC M.ext M.inv M.FT 100) (fun _=>some ⟨21,[0,2,3,4,5],[.cell 256 true (.p 1),.var (.p 2)],rE⟩) 288 [.str hC] []=some ⟨.ar [.agg dg,.bool true],[],[]⟩:=by
 kernel_rfl
theorem GG {run:ao->ak->Option (Ex×ak)}{F G:FuncId->Option bQ}{f:FuncId}(h:F f=G f)(ars:List AV)(hp:ae):dT run F f ars hp=dT run G f ars hp:=by
 simp only[dT,h]
theorem GH (hft:M.FT=FT):aG M 288 [.str hC] [] ⟨.ar [.agg dg,.bool true],[],[]⟩:=by
 have h2:M.FT 288=(fun _=>some ⟨21,[0,2,3,4,5],[.cell 256 true (.p 1),.var (.p 2)],rE⟩:FuncId->Option bQ) 288:=by rw[hft];exact Gu
 exact⟨100,(GG h2 _ _).trans (GF M)⟩
structure ju (M:ay):Prop where
 ft:M.FT=FT
 wF:∀ars h,M.ext 314 ars h=none
 wG:∀ars h,M.ext 289 ars h=none
 wH:∀ars h,M.ext 290 ars h=none
 nX:∀h,M.ext 288 [.str hC] h=some ⟨.ar [.agg dg,.bool true],h,[]⟩
theorem GI {c:Nat}(h:c<256):dg[c]? = some (.bool (nJ c)):=by
 simp[dg,h]
theorem GJ {c:UInt8}:partOf (dg.drop (0+((c.toNat:Int)).toNat*1)) 0 1 false=some (.bool (bL c)):=by
 have hc:c.toNat<256:=c.toNat_lt;rw[uy,Int.toNat_natCast,Nat.zero_add,Nat.mul_one];simp only[partOf,Bool.false_eq_true,if_false];exact GI hc
theorem wI (C:ju M)(c:UInt8){H:ae}{b:Nat}(hb:H.at b=some (.cells dg 286)):CT M (gE 314) [.ptr b 0,.int .u8 c.toNat] H ⟨.bool (bL c),H,[]⟩:=by
 have hc:c.toNat<256:=c.toNat_lt;refine CT.run (C.wF _ _) (iF (by rw[C.ft];exact Gx) (by simp) ?_);simp only[List.nil_append,List.append_nil];unfold wv;simp only[enter];repeat' first|(apply NG;rfl;rfl;omega)|(apply Nm;rfl;exact hb;exact GJ)|apply LL|apply aj|apply LM|apply LN|apply LP|(apply LK;rfl;rfl)|(apply LO;rfl;rfl)
 exact⟨.inr rfl,rfl,rfl,rfl,_,rfl,rfl⟩
def fQ (s:ah):ah:=s.dropWhile bL
def eZ (s:ah):ah:=(s.reverse.dropWhile bL).reverse
theorem wJ (s:ah)(c:UInt8):eZ (s++[c])=if bL c then eZ s else s++[c]:=by
 unfold eZ;rw[List.reverse_append,List.reverse_singleton,List.singleton_append,List.dropWhile_cons];split
 . rfl
 . simp
theorem GK (C:ju M){H:ae}{b:Nat}(hb:H.at b=some (.cells dg 286)){Q:Ex->ak->Prop}:∀(n:Nat) (s:ah) (lo:List (Nat×AV)) (wr:List Nat) (_:wr=[]),s.length=n->n<1000000 ->
 (∀lo,Q (.exit 0) ⟨⟨[.str (eZ s),.ptr b 0,.str []],lo,H,[]⟩,[]⟩)->W M (.loop lJ) ⟨⟨[.str s,.ptr b 0,.str []],lo,H,[]⟩,wr⟩ Q:=by
 intro n;induction n with
 | zero=>
  intro s lo wr hw hs hn hQ;subst hw;obtain rfl:s=[]:=List.length_eq_zero_iff.1 hs;have h0:([]:ah).length=0:=rfl;refine W.loop ?_;unfold lJ;repeat' first|apply LL|apply aj|apply LM|apply LN|apply Mi|apply bO|apply cE|(apply LR;rfl)|(apply LZ;rfl;rfl)|(apply LK;rfl;rfl)|(intro _;omega)|intro _
  exact hQ _
 | succ n ih=>
  intro s lo wr hw hs hn hQ;subst hw;rcases List.eq_nil_or_concat s with rfl|⟨t,c,e⟩
  . cases hs
  . rw[List.concat_eq_append]at e;subst e;have hl:(t++[c]).length=t.length+1:=by simp
    have hg:(t++[c])[(((t++[c]).length:Int)-1).toNat]! = c:=by
     rw[show (((t++[c]).length:Int)-1).toNat=t.length by omega,getElem!_pos _ _ (by simp)];simp
    have hc:=wI C c hb;rw[wJ]at hQ;cases hd:bL c with
    | true=>
     rw[hd]at hc;rw[if_pos hd]at hQ;refine W.loop ?_;unfold lJ;repeat' first|(rw[hg])|(apply MK (r:=t);rfl;rfl;omega;(rw[show (((t++[c]).length:Int)-1).toNat=t.length by omega];simp))|apply LL|apply aj|apply LM|apply LN|apply LW|apply LU|apply aZ|(apply LS;rfl)|(apply LR;rfl)|(apply LZ;rfl;rfl)|(apply Mw;rfl;rfl;omega)|(apply Mz;rfl;rfl;first|exact hc)|(apply Mn;rfl;rfl;omega)|(apply LK;rfl;rfl)|(apply LO;rfl;rfl)|(intro _;omega)|intro _
     refine ji ?_;exact ih t _ _ rfl (by omega) (by omega) hQ
    | false=>
     rw[hd]at hc;rw[if_neg (by rw[hd];simp)]at hQ;refine W.loop ?_;unfold lJ;repeat' first|(rw[hg])|apply LL|apply aj|apply LM|apply LN|apply LW|apply Mi|apply LU|apply bO|(apply du;rfl)|apply cE|(apply LS;rfl)|(apply LZ;rfl;rfl)|(apply Mw;rfl;rfl;omega)|(apply Mz;rfl;rfl;first|exact hc)|(apply Mn;rfl;rfl;omega)|(apply LK;rfl;rfl)|(intro _;omega)|intro _
     exact hQ _
theorem GL (C:ju M){H:ae}{b:Nat}(hb:H.at b=some (.cells dg 286))(s:ah)(hl:s.length<1000000):CT M (gE 290) [.str s,.ptr b 0] H ⟨.str (eZ s),H,[]⟩:=by
 refine CT.run (C.wH _ _) (iF (by rw[C.ft];exact Gw) (by simp) ?_);simp only[List.nil_append,List.append_nil];unfold wu;simp only[enter];repeat' first|apply LL|apply aj|apply LM|apply LN|apply LW|(apply LO;rfl;rfl)
 refine GK C hb s.length s _ _ rfl rfl hl fun lo=>?_
 repeat' first|apply LL|apply aj|apply LM|apply LN|apply LP|apply bR|(apply LK;rfl;rfl)|(apply LO;rfl;rfl)
 exact⟨.inr rfl,rfl,rfl,rfl,_,rfl,rfl⟩
theorem wK (C:ju M){H:ae}{b:Nat}(hb:H.at b=some (.cells dg 286)){Q:Ex->ak->Prop}:∀(s:ah) (lo:List (Nat×AV)) (wr:List Nat) (_:wr=[]),s.length<1000000 ->
 (∀lo,Q (.exit 0) ⟨⟨[.str (fQ s),.ptr b 0,.str []],lo,H,[]⟩,[]⟩)->W M (.loop lI) ⟨⟨[.str s,.ptr b 0,.str []],lo,H,[]⟩,wr⟩ Q
 | [],lo,wr,hw,hn,hQ=>by
  subst hw;have h0:([]:ah).length=0:=rfl;refine W.loop ?_;unfold lI;repeat' first|apply LL|apply aj|apply LM|apply LN|apply Mi|apply bO|apply cE|(apply LR;rfl)|(apply LZ;rfl;rfl)|(apply LK;rfl;rfl)|(intro _;omega)|intro _
  exact hQ _
 | c::s,lo,wr,hw,hn,hQ=>by
  subst hw;have hl:(c::s).length=s.length+1:=rfl;have hc:=wI C c hb;have e:fQ (c::s)=if bL c then fQ s else c::s:=List.dropWhile_cons ..
  rw[e]at hQ;cases hd:bL c with
  | true=>
   rw[hd]at hc;rw[if_pos hd]at hQ;refine W.loop ?_;unfold lI;repeat' first|(apply MW (r:=s);rfl;rfl;omega;rfl)|apply LL|apply aj|apply LM|apply LN|apply LW|apply LU|apply aZ|(apply LS;rfl)|(apply LR;rfl)|(apply LZ;rfl;rfl)|(apply Mz;rfl;rfl;first|exact hc)|(apply Mn;rfl;rfl;omega)|(apply LK;rfl;rfl)|(apply LO;rfl;rfl)|(intro _;omega)|intro _
   refine ji ?_;exact wK C hb s _ _ rfl (by omega) hQ
  | false=>
   rw[hd]at hc;rw[if_neg (by rw[hd];simp)]at hQ;refine W.loop ?_;unfold lI;repeat' first|apply LL|apply aj|apply LM|apply LN|apply LW|apply Mi|apply LU|apply bO|(apply du;rfl)|apply cE|(apply LS;rfl)|(apply LZ;rfl;rfl)|(apply Mz;rfl;rfl;first|exact hc)|(apply Mn;rfl;rfl;omega)|(apply LK;rfl;rfl)|(intro _;omega)|intro _
   exact hQ _
theorem GM (C:ju M){H:ae}{b:Nat}(hb:H.at b=some (.cells dg 286))(s:ah)(hl:s.length<1000000):CT M (gE 289) [.str s,.ptr b 0] H ⟨.str (fQ s),H,[]⟩:=by
 refine CT.run (C.wG _ _) (iF (by rw[C.ft];exact Gv) (by simp) ?_);simp only[List.nil_append,List.append_nil];unfold wq;simp only[enter];repeat' first|apply LL|apply aj|apply LM|apply LN|apply LW|(apply LO;rfl;rfl)
 refine wK C hb s _ _ rfl hl fun lo=>?_
 repeat' first|apply LL|apply aj|apply LM|apply LN|apply LP|apply bR|(apply LK;rfl;rfl)|(apply LO;rfl;rfl)
 exact⟨.inr rfl,rfl,rfl,rfl,_,rfl,rfl⟩
theorem wL {p:UInt8->Bool}:∀s:ah,(s.dropWhile p).length<=s.length
 | []=>Nat.le_refl _
 | c::s=>by
  rw[List.dropWhile_cons];have:=wL (p:=p) s;split
  . rw[List.length_cons];omega
  . exact Nat.le_refl _
theorem GN (s:ah):(eZ s).length<=s.length:=by
 unfold eZ;have:=wL (p:=bL) s.reverse;simpa using this
theorem wM:dg.length=256:=by simp[dg]
theorem GO:dg.all cF=true:=by
 simp only[dg,List.all_map,List.all_eq_true];intro x _;rfl
theorem GP {a b:List AV}(h:a.length=b.length):overwrite a 0 b=b:=by
 unfold overwrite;rw[List.take_zero,List.nil_append,List.drop_of_length_le (by omega),List.append_nil]
theorem wN:nU.length=256:=by kernel_rfl
theorem GQ:overwrite nU 0 dg=dg:=GP (by rw[wM,wN])
theorem wO (C:ju M)(s:ah)(hl:s.length<1000000):aG M 257 [.str s,.str hC] [] ⟨.str (fQ (eZ s)),[],[]⟩:=by
 have hD:hC.length=10:=rfl;have hT:=GN s;have nX:=C.nX [];have hb:ae.at [some (.cells dg 286)] 0=some (.cells dg 286):=rfl;have q1:=GL C hb s hl;have q2:=GM C hb (eZ s) (by omega);refine ba (by rw[C.ft];exact Gs) (by simp) ?_;unfold wo;simp only[enter];by_cases h0:s=[]
 . subst h0;repeat' first|(apply Mg;rfl;rfl;intro _;rotate_left;(intro h;exact absurd rfl h))|apply LL|apply aj|apply LM|apply LN|apply LP|apply aF|(apply LS;rfl)|(apply Mm;rfl)|(apply Mb;rfl;rfl)|(apply LK;rfl;rfl)|(apply LO;rfl;rfl)
   exact⟨.inr rfl,rfl,_,rfl,rfl,rfl⟩
 . repeat' first|(apply Mg;rfl;rfl;(intro h;first|exact absurd h h0|exact absurd h (by decide));intro _)|apply LL|apply aj|apply LM|apply LN|apply LP|apply LU|apply aF|(apply LS;rfl)|(apply LR;rfl)|(apply Mf;rfl)|(apply Ml;rfl)|(apply Mc;rfl;rfl)|(apply Ma;rfl;rfl)|(apply LV;rfl;rfl;first|exact nX)|(apply Mv (c':=dg);rfl;rfl;rfl;exact⟨wM,Nat.le_of_eq ((Nat.zero_add _).trans wN.symm),GO⟩;exact GQ)|(apply Mz;rfl;rfl;first|exact q1|exact q2)|(apply LX;rfl;rfl;rfl)|(apply LK;rfl;rfl)|(apply LO;rfl;rfl)|(intro _;omega)|intro _
   exact⟨.inr rfl,rfl,_,rfl,rfl,rfl⟩
structure wP (M:ay):Prop where
 ft:M.FT=FT
 GR:∀ars h,M.ext 259 ars h=none
theorem GS {s:ah}{i:Nat}(h:i<s.length):(aR s)[i]? = some (.int .u8 (s[i]!).toNat):=by
 rw[aR,List.getElem?_map,List.getElem?_eq_getElem h,getElem!_pos s i h];rfl
theorem GU {H:ae}{c:Nat}(s:ah)(hb:H.at c=some (.cells (aR s) 5))(hs:s.length<=18)(hd:s.all bL=true)(cp:Option Nat)(a1 a2 a3 a4 a7 a8:AV){Q:Ex->ak->Prop}:∀(r i n:Nat) (a6:AV) (lo:List (Nat×AV)) (wr:List Nat),i+r=s.length->n<10^i ->
 (∀a6 lo,Q (.exit 0) ⟨⟨[.str s,a1,a2,a3,a4,.iV (bK n (s.drop i)),a6,a7,a8,.sl c 0 s.length 1 cp,.iV s.length,.iV s.length],lo,H,[]⟩,wr⟩) ->
 W M (.loop nV) ⟨⟨[.str s,a1,a2,a3,a4,.iV n,a6,a7,a8,.sl c 0 s.length 1 cp,.iV s.length,.iV i],lo,H,[]⟩,wr⟩ Q:=by
 intro r;induction r with
 | zero=>
  intro i n a6 lo wr hi hn hQ;obtain rfl:i=s.length:=by omega
  rw[List.drop_length]at hQ;refine W.loop ?_;unfold nV;repeat' first|apply LL|apply aj|apply LM|apply LN|apply Mi|apply bO|apply cE|(apply LR;rfl)|(apply Md;rfl;rfl)|(intro _;omega)|intro _
  exact hQ _ _
 | succ r ih=>
  intro i n a6 lo wr hi hn hQ;have hil:i<s.length:=by omega
  have hp:10^i<=10^17:=Nat.pow_le_pow_right (by decide) (by omega);have hg:s[i]! = s[i]:=getElem!_pos s i hil;have hm:=List.all_eq_true.1 hd (s[i]!) (by rw[hg];exact List.getElem_mem hil);have hx:=(iJ _).1 hm;rw[List.drop_eq_getElem_cons hil,lE,←hg]at hQ;have hpart:partOf ((aR s).drop (0+((i:Int)).toNat*1)) 0 1 false=some (.int .u8 (s[i]!).toNat):=by
   rw[uy,Int.toNat_natCast,Nat.zero_add,Nat.mul_one];simp only[partOf,Bool.false_eq_true,if_false];exact GS hil
  refine W.loop ?_;unfold nV;repeat' first|(apply Nm;rfl;exact hb;exact hpart)|(apply Nr;rfl;rfl;omega)|apply LL|apply aj|apply LM|apply LN|apply LW|apply LU|apply aZ|(apply LS;rfl)|(apply LR;rfl)|(apply Md;rfl;rfl)|(apply LZ;rfl;rfl)|(apply Na;rfl;omega)|(apply Mk;rfl;rfl;omega)|(apply MF;rfl;rfl;omega)|(apply MN;rfl;rfl;omega)|(apply LK;rfl;rfl)|(apply LO;rfl;rfl)|(intro _;omega)|intro _
  refine ji ?_;have hpow:10^(i+1)=10*10^i:=by rw[Nat.pow_succ,Nat.mul_comm]
  have e:=ih (i+1) (10*n+((s[i]!).toNat-48));rw[show (((10*n+((s[i]!).toNat-48):Nat):Int))=(n:Int)*10+(((s[i]!).toNat:Int)-48) by omega,show (((i+1:Nat):Int))=(i:Int)+1 by omega]at e;exact e _ _ _ (by omega) (by omega) hQ
theorem GV (C:wP M)(s:ah)(h0:s≠[])(hl:s.length<=18)(hd:s.all bL=true)(H:ae):aG M 259 [.str s] H ⟨.ar [.iV (bK 0 s),.cg],H,[]⟩:=by
 have hpos:0<s.length:=List.length_pos_iff.2 h0;have hg:s[0]! = s[0]:=getElem!_pos s 0 hpos;have hx:48<=(s[Int.toNat 0]!).toNat/\(s[Int.toNat 0]!).toNat<58:=(iJ _).1 (List.all_eq_true.1 hd (s[0]!) (by rw[hg];exact List.getElem_mem hpos));refine Dx (by rw[C.ft];exact Gk) (by simp) (Nat.zero_le _) ?_;unfold wh;simp only[enter];repeat' first|apply LL|apply aj|apply LM|apply LN|apply LW|apply LU|(apply LS;rfl)|(apply LR;rfl)|(apply Mj;rfl)|(apply Mf;rfl)|(apply Ml;rfl)|(apply MA;rfl)|(apply Md;rfl;rfl)|(apply Mc;rfl;rfl)|(apply Mb;rfl;rfl)|(apply Ma;rfl;rfl)|(apply Mn;rfl;rfl;omega)|(apply LX;rfl;rfl;rfl)|(apply LK;rfl;rfl)|(apply LO;rfl;rfl)|(intro _;omega)|intro _
 refine GU (H:=H++[some (.cells (aR s) 5)]) (c:=H.length) s cS hl hd none _ _ _ _ _ _ s.length 0 0 _ _ _ (by omega) (by simp) (fun a6 lo=>?_);rw[List.drop_zero];repeat' first|apply LL|apply aj|apply LM|apply LN|apply LP|apply LU|apply aF|apply bR|(apply LR;rfl)|(apply Mc;rfl;rfl)|(apply Mn;rfl;rfl;omega)|(apply LK;rfl;rfl)|(apply LO;rfl;rfl)|(intro _;omega)|intro _
 exact⟨.inr rfl,rfl,⟨_,rfl⟩,fun x h=>by simp at h,_,rfl,rfl⟩
theorem GW (C:wP M)(s:ah)(h0:s≠[])(hl:s.length<=18)(hd:s.all bL=true):aG M 214 [.str s] [] ⟨.ar [.iV (bK 0 s),.cg],[],[]⟩:=by
 have hc:=CT.run (fi:=[]) (ca:=[]) (ars:=[.str s]) (C.GR _ _) (GV C s h0 hl hd []);refine ba (by rw[C.ft];exact Gj) (by simp) ?_;unfold wg;simp only[enter];repeat' first|apply LL|apply aj|apply LM|apply LN|apply LP|apply LU|(apply LR;rfl)|(apply Mz;rfl;rfl;first|exact hc)|(apply LK;rfl;rfl)|(apply LO;rfl;rfl)
 exact⟨.inr rfl,rfl,_,rfl,rfl,rfl⟩
theorem dropWhile_nil {p:UInt8->Bool}:∀l:ah,l.dropWhile p=[]↔∀x∈l,p x=true
 | []=>by simp
 | c::l=>by
  rw[List.dropWhile_cons];split
  . rename_i h;rw[dropWhile_nil l];simp[h]
  . rename_i h;simp[h]
theorem wQ (s:ah):fQ (eZ s)=[]↔s.all bL=true:=by
 rcases List.eq_nil_or_concat s with rfl|⟨t,c,e⟩
 . simp[fQ,eZ]
 . rw[List.concat_eq_append]at e;subst e;have hlen:t.length<(t++[c]).length:=by simp
   rw[wJ];split
   . rename_i h;rw[wQ t];simp only[List.all_append,List.all_cons,List.all_nil,h,Bool.and_true]
   . rename_i h;unfold fQ;rw[dropWhile_nil,List.all_eq_true]
termination_by s.length
decreasing_by subst_vars;simp
def preB (b:UInt8)(s:ah):Bool:=decide (s.head? = some b)
theorem GX (hft:M.FT=FT)(s:ah)(b:UInt8)(hl:s.length<1000000):aG M 255 [.str s,.str [b]] [] ⟨.bool (preB b s),[],[]⟩:=by
 have hn1:([b]:ah).length=1:=rfl;refine ba (by rw[hft];exact Gi) (by simp) ?_;cases s with
 | nil=>
  have h0:([]:ah).length=0:=rfl;unfold rC;simp only[enter];repeat' first|apply LL|apply aj|apply LM|apply LN|apply LP|(apply Ml;rfl)|(apply Mx;rfl;rfl)|(apply Ma;rfl;rfl)|(apply LK;rfl;rfl)|(apply LO;rfl;rfl)|(intro _;omega)|intro _
  all_goals try omega
  all_goals exact⟨.inr rfl,rfl,_,rfl,rfl,rfl⟩
 | cons c t=>
  have hcl:(c::t).length=t.length+1:=rfl;have hd:(c::t).take (([b]:ah).length:Int).toNat=[c]:=rfl;have he:preB b (c::t)=decide (c=b):=by simp[preB]
  rw[he];unfold rC;simp only[enter];by_cases hc:c=b
  . subst hc;rw[decide_eq_true rfl];repeat' first|(apply MK;rfl;rfl;omega;exact hd)|(apply Mg;rfl;rfl;intro _;rotate_left;(intro h;exact absurd rfl h))|apply LL|apply aj|apply LM|apply LN|apply LP|(apply Mj;rfl)|(apply Mx;rfl;rfl)|(apply Mb;rfl;rfl)|(apply LK;rfl;rfl)|(apply LO;rfl;rfl)|(intro _;omega)|intro _
    all_goals try omega
    all_goals exact⟨.inr rfl,rfl,_,rfl,rfl,rfl⟩
  . rw[decide_eq_false hc];repeat' first|(apply MK;rfl;rfl;omega;exact hd)|(apply Mg;rfl;rfl;(intro h;exact absurd (List.cons.inj h).1 hc);intro _)|apply LL|apply aj|apply LM|apply LN|apply LP|(apply Mj;rfl)|(apply Mx;rfl;rfl)|(apply Mb;rfl;rfl)|(apply LK;rfl;rfl)|(apply LO;rfl;rfl)|(intro _;omega)|intro _
    all_goals try omega
    all_goals exact⟨.inr rfl,rfl,_,rfl,rfl,rfl⟩
theorem GY (hft:M.FT=FT)(s:ah)(b:UInt8)(q:∀h,M.ext 255 [.str s,.str [b]] h=some ⟨.bool (preB b s),h,[]⟩):aG M 212 [.str s,.str [b]] [] ⟨.bool (preB b s),[],[]⟩:=by
 refine ba (by rw[hft];exact Gh) (by simp) ?_;unfold we;simp only[enter];repeat' first|apply LL|apply aj|apply LM|apply LN|apply LP|(apply LV;rfl;rfl;first|exact q _)|(apply LK;rfl;rfl)|(apply LO;rfl;rfl)
 all_goals exact⟨.inr rfl,rfl,_,rfl,rfl,rfl⟩
variable {N N2:Nat}
set_option maxRecDepth 1000000
def hG (s:ah):Bool:=decide (s≠[]) && s.all bL && (decide (s[0]! ≠ 48) || decide (s=[48]))
theorem wR (hft:M.FT=FT)(s:ah)(q257:∀h,M.ext 257 [.str s,.str hC] h=some ⟨.str (fQ (eZ s)),h,[]⟩):aG M 209 [.str s] [] ⟨.bool (decide (s≠[]) && s.all bL),[],[]⟩:=by
 refine ba (by rw[hft];exact Gr) (by simp) ?_;unfold wm;simp only[enter];by_cases h0:s=[]
 . rw[decide_eq_false (by simpa using h0),Bool.false_and];repeat' first|(apply ME;rfl;rfl;all_goals first|(intro h;exact absurd h0 h)|intro _)|apply LL|apply aj|apply LM|apply LN|apply LP|(apply Ml;rfl)|(apply Ma;rfl;rfl)|(apply LK;rfl;rfl)|(apply LO;rfl;rfl)
   all_goals exact⟨.inr rfl,rfl,_,rfl,rfl,rfl⟩
 . rw[decide_eq_true h0,Bool.true_and];have ht:=wQ s;cases hd:s.all bL with
   | true=>
    rw[ht.2 hd]at q257;repeat' first|(apply ME;rfl;rfl;all_goals first|(intro h;exact absurd h h0)|intro _)|apply LL|apply aj|apply LM|apply LN|apply LP|(apply Mj;rfl)|(apply Mb;rfl;rfl)|(apply LV;rfl;rfl;first|exact q257 _)|(apply Mg;rfl;rfl;all_goals first|(intro h;exact absurd h (by decide))|(intro h;exact absurd rfl h)|(intro h;contradiction)|intro _)|(apply LK;rfl;rfl)|(apply LO;rfl;rfl)
    all_goals exact⟨.inr rfl,rfl,_,rfl,rfl,rfl⟩
   | false=>
    have hne:fQ (eZ s)≠[]:=fun e=>by rw[ht.1 e]at hd;cases hd
    repeat' first|(apply ME;rfl;rfl;all_goals first|(intro h;exact absurd h h0)|intro _)|(apply Mg;rfl;rfl;all_goals first|(intro h;exact absurd h hne)|intro _)|apply LL|apply aj|apply LM|apply LN|apply LP|(apply Mj;rfl)|(apply Mb;rfl;rfl)|(apply LV;rfl;rfl;first|exact q257 _)|(apply LK;rfl;rfl)|(apply LO;rfl;rfl)
    all_goals exact⟨.inr rfl,rfl,_,rfl,rfl,rfl⟩
theorem GZ (hft:M.FT=FT)(s:ah)(q209:∀h,M.ext 209 [.str s] h=some ⟨.bool (decide (s≠[]) && s.all bL),h,[]⟩):aG M 164 [.str s] [] ⟨.bool (hG s),[],[]⟩:=by
 refine ba (by rw[hft];exact Gy) (by simp) ?_;unfold hG;unfold wx;simp only[enter];cases hb:(decide (s≠[]) && s.all bL) with
 | false=>
  rw[hb]at q209;rw[Bool.false_and];repeat' first|apply LL|apply aj|apply LM|apply LN|apply LP|(apply Ml;rfl)|(apply MA;rfl)|(apply Ma;rfl;rfl)|(apply LV;rfl;rfl;first|exact q209 _)|(apply LK;rfl;rfl)|(apply LO;rfl;rfl)
  all_goals exact⟨.inr rfl,rfl,_,rfl,rfl,rfl⟩
 | true=>
  rw[hb]at q209;rw[Bool.true_and];have hne:s≠[]:=by
   rw[Bool.and_eq_true]at hb;exact of_decide_eq_true hb.1
  have hpos:0<s.length:=List.length_pos_iff.2 hne;by_cases h48:s[0]! = 48
  . rw[decide_eq_false (by simpa using h48),Bool.false_or];have e48:((s[(0:Int).toNat]!).toNat:Int)=48:=by rw[show s[(0:Int).toNat]! = s[0]! from rfl,h48];rfl
    by_cases hs:s=[48]
    . rw[decide_eq_true hs];repeat' first|(apply Mg;rfl;rfl;all_goals first|(intro h;exact absurd hs h)|intro _)|apply LL|apply aj|apply LM|apply LN|apply LP|(apply Mj;rfl)|(apply Mf;rfl)|(apply Mh;rfl;rfl)|(apply Mb;rfl;rfl)|(apply Ma;rfl;rfl)|(apply LV;rfl;rfl;first|exact q209 _)|(apply Mn;rfl;rfl;omega)|(apply LK;rfl;rfl)|(apply LO;rfl;rfl)|(intro _;omega)|intro _
      all_goals try omega
      all_goals exact⟨.inr rfl,rfl,_,rfl,rfl,rfl⟩
    . rw[decide_eq_false hs];repeat' first|(apply Mg;rfl;rfl;all_goals first|(intro h;exact absurd h hs)|intro _)|apply LL|apply aj|apply LM|apply LN|apply LP|(apply Mj;rfl)|(apply Mf;rfl)|(apply Mh;rfl;rfl)|(apply Mb;rfl;rfl)|(apply Ma;rfl;rfl)|(apply LV;rfl;rfl;first|exact q209 _)|(apply Mn;rfl;rfl;omega)|(apply LK;rfl;rfl)|(apply LO;rfl;rfl)|(intro _;omega)|intro _
      all_goals try omega
      all_goals exact⟨.inr rfl,rfl,_,rfl,rfl,rfl⟩
  . rw[decide_eq_true (show s[0]! ≠ 48 from h48),Bool.true_or];have e48:((s[(0:Int).toNat]!).toNat:Int)≠48:=fun e=>h48 (UInt8.toNat_inj.1 (by rw[show s[(0:Int).toNat]! = s[0]! from rfl]at e;have:(48:UInt8).toNat=48:=rfl;omega))
    repeat' first|apply LL|apply aj|apply LM|apply LN|apply LP|(apply Mj;rfl)|(apply Mm;rfl)|(apply Mh;rfl;rfl)|(apply Mb;rfl;rfl)|(apply LV;rfl;rfl;first|exact q209 _)|(apply Mn;rfl;rfl;omega)|(apply LK;rfl;rfl)|(apply LO;rfl;rfl)|(intro _;omega)|intro _
    all_goals try omega
    all_goals exact⟨.inr rfl,rfl,_,rfl,rfl,rfl⟩
theorem Ha (hft:M.FT=FT)(k:Nat)(q:∀h,M.ext 244 [.uV 1,.uV k] h=some ⟨.ar [.uV 0,.uV k],h,[]⟩):aG M 300 [.uV 1,.uV k] [] ⟨.ar [.uV 0,.uV k],[],[]⟩:=by
 refine ba (by rw[hft];exact Gg) (by simp) ?_;unfold wc;simp only[enter];repeat' first|apply LL|apply aj|apply LM|apply LN|apply LP|apply LU|(apply LR;rfl)|(apply LV;rfl;rfl;first|exact q _)|(apply LK;rfl;rfl)|(apply LO;rfl;rfl)
 all_goals exact⟨.inr rfl,rfl,_,rfl,rfl,rfl⟩
def jv:ah:=[48,48,48,48,48,48,48,48,48,48,48,48,48,48,48,48,48,48,48,48,48,48,48,48,48,48,48,48,48,48,48,48,48,48,48,48,48,48,48,48,48,48,48,48,48,48,48,48,48,48,48,48,48,48,48,48,48,48,48,48,48,48,48,48]
def wS:ah:=[32,32,32,32,32,32,32,32,32,32,32,32,32,32,32,32,32,32,32,32,32,32,32,32,32,32,32,32,32,32,32,32,32,32,32,32,32,32,32,32,32,32,32,32,32,32,32,32,32,32,32,32,32,32,32,32,32,32,32,32,32,32,32,32,32,32,32,32,32,32,32,32,32,32,32,32,32,32,32,32,32,32,32,32,32,32,32,32,32,32,32,32,32,32,32,32,32,32,32,32,32,32,32,32,32,32,32,32,32,32,32,32,32,32,32,32,32,32,32,32,32,32,32,32,32,32,32,32]
def wT:ah:=[45,45,45,45,45,45,45,45,45,45,45,45,45,45,45,45,45,45,45,45,45,45,45,45,45,45,45,45,45,45,45,45,45,45,45,45,45,45,45,45,45,45,45,45,45,45,45,45,45,45,45,45,45,45,45,45,45,45,45,45,45,45,45,45,45,45,45,45,45,45,45,45,45,45,45,45,45,45,45,45,45,45,45,45,45,45,45,45,45,45,45,45,45,45,45,45,45,45,45,45,45,45,45,45,45,45,45,45,45,45,45,45,45,45,45,45,45,45,45,45,45,45,45,45,45,45,45,45]
theorem Hb {k:Nat}(h:k<=64):jv.take k=List.replicate k 48:=by
 have:jv=List.replicate 64 48:=rfl;rw[this,List.take_replicate,Nat.min_eq_left h]
set_option maxRecDepth 100000 in
theorem Hc (hft:M.FT=FT)(k:Nat)(hk:k<=64)(q300:∀h,M.ext 300 [.uV 1,.uV k] h=some ⟨.ar [.uV 0,.uV k],h,[]⟩)(q212:∀h,M.ext 212 [.str jv,.str [48]] h=some ⟨.bool true,h,[]⟩)(q32:∀h,M.ext 212 [.str wS,.str [48]] h=some ⟨.bool false,h,[]⟩)(q45:∀h,M.ext 212 [.str wT,.str [48]] h=some ⟨.bool false,h,[]⟩):aG M 264 [.str [48],.iV k] [] ⟨.str (List.replicate k 48),[],[]⟩:=by
 have hn1:([48]:ah).length=1:=rfl;have hz:jv.length=64:=rfl;have e48:(([48]:ah)[(0:Int).toNat]!).toNat=48:=rfl;refine ba (by rw[hft];exact Gf) (by simp) ?_;unfold wb;simp only[enter];by_cases h0:k=0
 . subst h0;repeat' first|apply LL|apply aj|apply LM|apply LN|apply LW|apply LP|apply aF|apply bX|(apply LS;rfl)|(apply Mc;rfl;rfl)|(apply LK;rfl;rfl)|(apply LO;rfl;rfl)|(intro _;omega)|intro _
   all_goals try omega
   all_goals exact⟨.inr rfl,rfl,_,rfl,rfl,rfl⟩
 . by_cases h1:k=1
   . subst h1;repeat' first|apply LL|apply aj|apply LM|apply LN|apply LW|apply LP|apply aF|apply bX|(apply LS;rfl)|(apply LR;rfl)|(apply Mc;rfl;rfl)|(apply LK;rfl;rfl)|(apply LO;rfl;rfl)|(intro _;omega)|intro _
     all_goals try omega
     all_goals exact⟨.inr rfl,rfl,_,rfl,rfl,rfl⟩
   . have hd:jv.take (k:Int).toNat=List.replicate k 48:=Hb hk;repeat' first|(apply LO (op:=.index _ _) (v:=.int .u8 48);rfl;rfl)|(apply MK (s:=jv);rfl;rfl;omega;exact hd)|(apply Nd (a:=1);rfl;omega)|apply LL|apply aj|apply LM|apply LN|apply LW|apply LP|apply LU|apply aF|apply aZ|apply bX|(apply LS;rfl)|(apply LR;rfl)|(apply Mj;rfl)|(apply Mf;rfl)|(apply Md;rfl;rfl)|(apply MH;rfl;rfl)|(apply LZ;rfl;rfl)|(apply Mc;rfl;rfl)|(apply Nd;rfl;omega)|(apply Na;rfl;omega)|(apply Mb;rfl;rfl)|(apply Ma;rfl;rfl)|(apply LV;rfl;rfl;first|exact q300 _|exact q212 _|exact q32 _|exact q45 _)|(apply LK;rfl;rfl)|(apply LO;rfl;rfl)|(intro _;omega)|intro _
     all_goals try omega
     all_goals exact⟨.inr rfl,rfl,_,rfl,rfl,rfl⟩
open Go.Proofs
variable {T:List (Nat×Spec)}
noncomputable def wU:Spec:=sK [] 324
noncomputable def wV:Spec:=sK [] 325
theorem Hd:aQ Tryz.prog gl 324 wU:=bD bc
theorem He:aQ Tryz.prog gl 325 wV:=bD bc
noncomputable def wW:List (Nat×Spec):=[(240,ri),(324,wU),(325,wV)]
theorem Hf:vR (bq Tryz.prog FT wW) where
 ft:=bw
 vS:=fun x h hx=>Fp x h hx
 vT:=fun x h hx=>bC (FG bw x hx) rfl rfl rfl h
 rq:=fun x h=>bC (FH bw x) rfl rfl rfl h
noncomputable def wX:Spec:=sK [] 304
noncomputable def wY:Spec:=sK wW 305
theorem Hg:aQ Tryz.prog gl 304 wX:=bD bc
theorem Hh:aQ Tryz.prog gl 305 wY:=bD (aH Fo (aH Hd (aH He bc)))
noncomputable def rL:List (Nat×Spec):=[(304,wX),(305,wY)]
theorem Hi:cQ Tryz.prog gl (cR rL):=aH Hg (aH Hh bc)
theorem Hj:nT (bq Tryz.prog FT rL) where
 ft:=bw
 vY:=fun _ _=>rfl
 vZ:=fun n h hn=>bC (FU bw n hn) rfl rfl rfl h
 rB:=fun d h hd=>bC (FM Hf d hd) rfl rfl rfl h
noncomputable def nY:Spec:=sK rL 267
noncomputable def nZ:Spec:=sK [(267,nY)] 226
noncomputable def lK:Spec:=sK [(226,nZ)] 183
theorem Hk:aQ Tryz.prog gl 267 nY:=bD Hi
theorem Hl:aQ Tryz.prog gl 226 nZ:=bD (aH Hk bc)
theorem wZ:aQ Tryz.prog gl 183 lK:=bD (aH Hl bc)
theorem Hm:∀z h,(-9223372036854775808<=z/\z<9223372036854775808)->lK [.iV z] h=some ⟨.str (fl z),h,[]⟩:=fun z h hz=>by
 have q267:∀h,nY [.iV z,.iV 10] h=some ⟨.str (fl z),h,[]⟩:=bC (Gb Hj z hz) rfl rfl rfl;have q226:∀h,nZ [.iV z] h=some ⟨.str (fl z),h,[]⟩:=bC (Gc (M:=bq Tryz.prog FT [(267,nY)]) bw z q267) rfl rfl rfl;exact bC (Gd (M:=bq Tryz.prog FT [(226,nZ)]) bw z q226) rfl rfl rfl h
noncomputable def oa:Spec:=sK [] 255
noncomputable def rM:Spec:=sK [(255,oa)] 212
theorem Hn:aQ Tryz.prog gl 255 oa:=bD bc
theorem Ho:aQ Tryz.prog gl 212 rM:=bD (aH Hn bc)
theorem Hp:∀(s:ah) b h,s.length<1000000->oa [.str s,.str [b]] h=some ⟨.bool (preB b s),h,[]⟩:=fun s b h hl=>bC (GX bw s b hl) rfl rfl rfl h
theorem rN:∀(s:ah) b h,s.length<1000000->rM [.str s,.str [b]] h=some ⟨.bool (preB b s),h,[]⟩:=fun s b h hl=>
 bC (GY (M:=bq Tryz.prog FT [(255,oa)]) bw s b fun h=>Hp s b h hl) rfl rfl rfl h
def xc:List (Nat×Spec):=[(312,ln .index)]
theorem Hq:ki (bq Tryz.prog FT xc) where
 ft:=bw
 rF:=fun _ _=>rfl
 rG:=fun _ _=>rfl
 rH:=fun _ _ _=>rfl
noncomputable def ob:Spec:=sK xc 163
theorem xe:aQ Tryz.prog gl 163 ob:=bD (aH (qj rb) bc)
theorem xf:∀(s:ah) b h,s.length<1000000->ob [.str s,.str [b]] h=some ⟨fk b s,h,[]⟩:=fun s b h hl=>bC (GD (fun _ _=>rfl) Hq s b hl) rfl rfl rfl h
theorem Hr:cI dg=dg:=by
 unfold dg;induction List.range 256 with
 | nil=>rfl
 | cons a l ih=>
  rw[List.map_cons,cI,ih];rfl
theorem Hs:bg dg=0:=by
 unfold dg;induction List.range 256 with
 | nil=>rfl
 | cons a l ih=>simp only[List.map_cons,bg,ih,AV.top];rfl
noncomputable def oc:Spec:=sK [] 288
noncomputable def kl:Spec:=sK [(288,oc)] 257
noncomputable def km:Spec:=sK [(257,kl)] 209
noncomputable def rO:Spec:=sK [(209,km)] 164
noncomputable def rP:Spec:=sK [] 214
theorem Ht:aQ Tryz.prog gl 288 oc:=bD bc
theorem Hu:aQ Tryz.prog gl 257 kl:=bD (aH Ht bc)
theorem xg:aQ Tryz.prog gl 209 km:=bD (aH Hu bc)
theorem Hv:aQ Tryz.prog gl 164 rO:=bD (aH xg bc)
theorem Hw:aQ Tryz.prog gl 214 rP:=bD bc
theorem Hx:∀h,oc [.str hC] h=some ⟨.ar [.agg dg,.bool true],h,[]⟩:=bC (GH bw) rfl (by simp[AV.top,bg,Hs]) (by simp only[bE,cI,Hr])
theorem xh:ju (bq Tryz.prog FT [(288,oc)]) where
 ft:=bw
 wF:=fun _ _=>rfl
 wG:=fun _ _=>rfl
 wH:=fun _ _=>rfl
 nX:=Hx
theorem Hy:∀(s:ah) h,s.length<1000000->rO [.str s] h=some ⟨.bool (hG s),h,[]⟩:=fun s h hl=>by
 have q257:∀h,kl [.str s,.str hC] h=some ⟨.str (fQ (eZ s)),h,[]⟩:=bC (wO xh s hl) rfl rfl rfl;have q209:∀h,km [.str s] h=some ⟨.bool (decide (s≠[]) && s.all bL),h,[]⟩:=bC (wR (M:=bq Tryz.prog FT [(257,kl)]) bw s q257) rfl rfl rfl;exact bC (GZ (M:=bq Tryz.prog FT [(209,km)]) bw s q209) rfl rfl rfl h
theorem Hz:∀(s:ah) h,s≠[]->s.length<=18->s.all bL=true->rP [.str s] h=some ⟨.ar [.iV (bK 0 s),.cg],h,[]⟩:=fun s h h0 hl hd=>bC (GW ⟨bw,fun _ _=>rfl⟩ s h0 hl hd) rfl rfl rfl h
noncomputable def rQ:Spec:=sK [(244,nH)] 300
theorem HB:aQ Tryz.prog gl 300 rQ:=bD (aH Fl bc)
theorem HC {k:Nat}(hk:k<=64):∀h,rQ [.uV 1,.uV k] h=some ⟨.ar [.uV 0,.uV k],h,[]⟩:=
 bC (Ha (M:=bq Tryz.prog FT [(244,nH)]) bw k fun h=>by
  have:=Fm 1 k h (by decide) (by omega);rw[show (1:Int)*k/18446744073709551616=0 by omega,show (1:Int)*k%18446744073709551616=k by omega]at this;exact this) rfl rfl rfl
noncomputable def xi:List (Nat×Spec):=[(300,rQ),(212,rM)]
noncomputable def rR:Spec:=sK xi 264
theorem HD:aQ Tryz.prog gl 264 rR:=bD (aH HB (aH Ho bc))
set_option maxRecDepth 1000000 in
theorem HE:∀(k:Nat) h,k<=64->rR [.str [48],.iV k] h=some ⟨.str (List.replicate k 48),h,[]⟩:=fun k h hk=>
 bC (Hc (M:=bq Tryz.prog FT xi) bw k hk (HC hk) (fun h=>rN jv 48 h (by decide)) (fun h=>rN wS 48 h (by decide)) (fun h=>rN wT 48 h (by decide))) rfl rfl rfl h
def xj:ao:=zR [zx 1 49 3 0,zi 2 0] (.seq (zR [zf 5 0 1,zd 6 1 5,⟨.l 7,.bin .eql (.l 6) (.c (.str zD11)),none⟩] (.cond (.l 7) (.seq (.draw [(zf 8 2 1,[]),(zd 9 1 8,[]),(z1 10 112 9,[]),(zu 11 10,[]),(⟨.l 12,.call (kF 97) [(.l 11),(kI 1)],none⟩,[]),(zf 13 1 1,[0,1,2,3,4]),(zd 14 1 13,[0,1,2,3,4]),(zc 15 .neq 14 0,[0,1,2,3,4]),(⟨.l 16,.call (kF 97) [(.l 15),(kI 3)],none⟩,[]),(⟨.l 17,.fp 25 2 1 [.iV (0)] [(0,1,(.l 12)),(1,1,(.l 16))],none⟩,[]),(z1 18 96 17,[]),(zw 2 18,[])]) (.ret)) (.skip))) (.seq (.draw [(⟨.l 20,.call (kF 113) [],none⟩,[]),(zf 21 0 1,[0]),(zd 22 1 21,[0]),(⟨.l 23,.lookup .str (.agg [.iV (0),.iV (0),.bool false,.cf,.cN]) (.l 20) (.l 22) true,none⟩,[]),(zn 19 23,[]),(ze 24 0 19,[]),(ze 25 1 19,[5]),(⟨.p 3,.alloc 141 [.iV (0),.iV (0),.bool false,.cf,.cN],none⟩,[0,1,2,3,4,5,6]),(zs 5 3 24,[6]),(zw 4 25,[])]) (.seq (.draw [(zm 26 4,[]),(zu 27 26,[]),(⟨.l 28,.call (kF 97) [(.l 27),(kI 13)],none⟩,[]),(zf 29 2 1,[0,1,2]),(zd 30 1 29,[0,1,2]),(⟨.l 31,.bin .neq (.l 30) (.c (.str [])),none⟩,[0,1,2]),(⟨.l 32,.call (kF 97) [(.l 31),(kI 1)],none⟩,[]),(zf 33 1 1,[0,1,2,3,4,5,6]),(zd 34 1 33,[0,1,2,3,4,5,6]),(zf 35 0 3,[0,1,2,3,4,5,6,7,8]),(zd 36 1 35,[0,1,2,3,4,5,6,7,8]),(zf 37 1 3,[0,1,2,3,4,5,6,7,8,9,10]),(zd 38 1 37,[0,1,2,3,4,5,6,7,8,9,10]),(⟨.l 39,.call (kF 95) [(.l 34),(.l 36),(.l 38)],none⟩,[]),(⟨.l 40,.call (kF 97) [(.l 39),(kI 3)],none⟩,[]),(⟨.l 41,.fp 25 3 1 [.iV (0)] [(0,1,(.l 28)),(1,1,(.l 32)),(2,1,(.l 40))],none⟩,[]),(z1 42 96 41,[]),(zw 2 42,[])]) (.ret))))
theorem HF:FT 36=some ⟨43,[0,1,2,3,4],[.var (.p 2)],xj⟩:=by kernel_rfl
def xk:ao:=zR [⟨.p 0,.mv (.c (.cf)),none⟩] (zR [⟨.l 1,.fU,none⟩,⟨.l 2,.fU,none⟩,⟨.no,.ff .str (.l 2) (.c (.str zD13)) (kI 1),none⟩,⟨.no,.ff .str (.l 2) (.c (.str zD12)) (kI 100),none⟩,⟨.no,.ff .str (.l 2) (.c (.str zD16)) (kI 1000),none⟩,zn 3 2,⟨.l 4,.build [.iV (0),.iV (0),.bool false,.cf,.cN] [(0,1,(kI 1)),(1,1,(kI 863999999)),(2,1,(.c (.bool false))),(3,1,(.l 3)),(4,1,(kF 180))],none⟩,⟨.no,.ff .str (.l 1) (.c (.str zD10)) (.l 4),none⟩,⟨.l 5,.fU,none⟩,⟨.no,.ff .str (.l 5) (.c (.str zD13)) (kI 1),none⟩,⟨.no,.ff .str (.l 5) (.c (.str zD15)) (kI 10),none⟩,zn 6 5,⟨.l 7,.build [.iV (0),.iV (0),.bool false,.cf,.cN] [(0,1,(kI 0)),(1,1,(kI 999999)),(2,1,(.c (.bool true))),(3,1,(.l 6)),(4,1,(kF 181))],none⟩,⟨.no,.ff .str (.l 1) (.c (.str zD17)) (.l 7),none⟩,⟨.l 8,.fU,none⟩,⟨.no,.ff .str (.l 8) (.c (.str zD13)) (kI 1),none⟩,zn 9 8,⟨.l 10,.build [.iV (0),.iV (0),.bool false,.cf,.cN] [(0,1,(kI 0)),(1,1,(kI 99999)),(2,1,(.c (.bool true))),(3,1,(.l 9)),(4,1,(kF 182))],none⟩,⟨.no,.ff .str (.l 1) (.c (.str zD14)) (.l 10),none⟩,zn 11 1,zw 0 11] (.ret))
theorem HG:FT 113=some ⟨12,[0],[.var (.p 0)],xk⟩:=by kernel_rfl
def xl:ao:=zR [⟨.p 1,.mv (.c (.bool false)),none⟩] (zR [⟨.l 3,.fp 9 4 1 [.str []] [(0,1,(.c (.str [68,78,83]))),(1,1,(.c (.str [68,78,70]))),(2,1,(.c (.str [68,81]))),(3,1,(.c (.str [78,77])))],none⟩,zm 4 0,z2 5 116 3 4,zw 1 5] (.ret))
theorem HH:FT 112=some ⟨6,[0,2],[.var (.p 1)],xl⟩:=by kernel_rfl
def xn:ao:=zR [⟨.p 1,.mv (.c (.bool false)),none⟩] (zR [zm 3 0,⟨.l 4,.bin .eql (.l 3) (.c (.str [68,78,83])),none⟩,zn 5 4,zg (zm 6 0) 5 false,⟨.l 7,.bin .eql (.l 6) (.c (.str [68,78,70])),some ((.l 5),false)⟩,zP 8 5 7,zn 9 8,zg (zm 10 0) 9 false,⟨.l 11,.bin .eql (.l 10) (.c (.str [68,81])),some ((.l 9),false)⟩,zP 12 9 11,zn 13 12,zg (zm 14 0) 13 false,⟨.l 15,.bin .eql (.l 14) (.c (.str [78,77])),some ((.l 13),false)⟩,zP 16 13 15,zw 1 16] (.ret))
theorem HI:FT 109=some ⟨17,[0,2],[.var (.p 1)],xn⟩:=by kernel_rfl
def xp:ao:=zR [zi 1 0] (.seq (zR [zm 3 0,⟨.l 4,.bin .eql (.l 3) (.c (.str zD10)),none⟩] (.cond (.l 4) (zR [zi 1 1] (.ret)) (.skip))) (zR [zi 1 0] (.ret)))
theorem HJ:FT 110=some ⟨5,[0,2],[.var (.p 1)],xp⟩:=by kernel_rfl
def xq:ao:=zR [zi 1 0] (.seq (zR [⟨.p 2,.mv (.p 0),none⟩] (.block 0 (zR [⟨.l 5,.bin .eql (.p 2) (.c (.str zD10)),none⟩,zn 4 5] (.cond (.l 4) (zR [zi 1 863999999] (.ret)) (zR [⟨.l 7,.bin .eql (.p 2) (.c (.str zD17)),none⟩,zn 6 7] (.cond (.l 6) (zR [zi 1 999999] (.ret)) (.skip))))))) (zR [zi 1 99999] (.ret)))
theorem HK:FT 111=some ⟨8,[0,2,3],[.var (.p 1)],xq⟩:=by kernel_rfl
def xr:ao:=zR [zx 1 49 3 0,zi 2 0] (.seq (zR [zf 3 0 1,⟨.p 3,.load 1 false (.l 3),none⟩] (.block 0 (zR [⟨.l 6,.bin .eql (.p 3) (.c (.str zD11)),none⟩,zn 5 6] (.cond (.l 5) (.seq (zR [zf 7 2 1,zd 8 1 7,z1 9 109 8,zu 10 9] (.cond (.l 10) (zR [zi 2 1] (.ret)) (.skip))) (.seq (zR [zf 11 1 1,zd 12 1 11,zc 13 .neq 12 0] (.cond (.l 13) (zR [zi 2 3] (.ret)) (.skip))) (zR [zi 2 0] (.ret)))) (.seq (zR [⟨.l 15,.bin .eql (.p 3) (.c (.str zD10)),none⟩,zw 4 15] (.cond (.p 4) (.skip) (zR [⟨.l 16,.bin .eql (.p 3) (.c (.str zD17)),none⟩,zw 4 16] (.cond (.p 4) (.skip) (.region [⟨.l 17,.bin .eql (.p 3) (.c (.str zD14)),none⟩,zw 4 17]))))) (.cond (.p 4) (.seq (zR [zf 18 2 1,zd 19 1 18,⟨.l 20,.bin .neq (.l 19) (.c (.str [])),none⟩] (.cond (.l 20) (zR [zi 2 1] (.ret)) (.skip))) (.seq (.seq (.draw [(zf 21 1 1,[]),(zd 22 1 21,[]),(zf 23 0 1,[0,1]),(zd 24 1 23,[0,1]),(z1 25 110 24,[0,1]),(zb 26 .lss 22 25,[]),(zn 27 26,[]),(zg (zf 28 1 1) 27 false,[]),(zg (zd 29 1 28) 27 false,[]),(zg (zf 30 0 1) 27 false,[7,8]),(zg (zd 31 1 30) 27 false,[7,8]),(zg (z1 32 111 31) 27 false,[7,8]),(zg (zb 33 .gtr 29 32) 27 false,[]),(zP 34 27 33,[])]) (.cond (.l 34) (zR [zi 2 3] (.ret)) (.skip))) (zR [zi 2 0] (.ret)))) (.skip))))))) (zR [zi 2 13] (.ret)))
theorem HL:FT 35=some ⟨35,[0,1,2,4,14],[.var (.p 2)],xr⟩:=by kernel_rfl
def xu:ao:=zR [zx 1 49 3 0,⟨.p 2,.mv (.c (.bool false)),none⟩] (zR [zf 3 0 1,zd 4 1 3,zL 5 4,zc 6 .leq 5 40,zn 7 6,zg (zf 8 2 1) 7 true,zg (zd 9 1 8) 7 true,zg (zL 10 9) 7 true,zg (zc 11 .leq 10 40) 7 true,zp 12 7 11,zw 2 12] (.ret))
theorem HM:FT 34=some ⟨13,[0,1,2],[.var (.p 2)],xu⟩:=by kernel_rfl
def xw:ao:=zR [⟨.p 2,.mv (.c (.bool false)),none⟩] (zR [zm 5 0,zm 6 1,z2 7 185 5 6,zc 8 .geq 7 0,zw 2 8] (.ret))
theorem HN:FT 116=some ⟨9,[0,1,4],[.var (.p 2)],xw⟩:=by kernel_rfl
def od:ao:=zR [zr 9 .lss 5 4] (.seq (.cond (.l 9) (.skip) (.exit 0)) (.seq (.block 1 (zR [zm 10 5,zw 3 10] (zR [zm 11 1,zm 12 0,zm 13 3,za 14 1 12 13,zd 15 1 14,zb 16 .eql 11 15] (.cond (.l 16) (zR [zm 17 3,zw 2 17] (.ret)) (.skip))))) (.region [zq 18 .add 5 1,zw 5 18])))
def xy:ao:=zR [zi 2 0] (.seq (zR [zm 6 0,⟨.p 4,.len .sl (.l 6),none⟩,zi 5 0] (.block 0 (.loop od))) (zR [zi 2 (-1)] (.ret)))
theorem HO:FT 185=some ⟨19,[0,1,4,5,7,8],[.var (.p 2)],xy⟩:=by kernel_rfl
variable {inv:cO} {F:FuncId->Option bQ}
abbrev gG:List UInt8:=[110,111,110,101]
abbrev cJ:List UInt8:=[116,105,109,101]
abbrev fA:List UInt8:=[108,101,110,103,116,104]
abbrev gH:List UInt8:=[112,111,105,110,116,115]
abbrev lL:List UInt8:=[101,120,97,99,116]
abbrev oe:List UInt8:=[104,117,110,100,114,101,100,116,104,115]
abbrev og:List UInt8:=[116,101,110,116,104,115]
abbrev oh:List UInt8:=[99,101,110,116,105,109,101,116,114,101,115]
abbrev cW (k:List UInt8)(v:Int)(r:List UInt8):AV:=.agg [.str k,.iV v,.str r]
def indexOf (x:List UInt8):List (List UInt8)->Nat->Int
 | [],_=>-1
 | a::l,i=>if x=a then i else indexOf x l (i+1)
theorem HP {x:List UInt8}{l:List (List UInt8)}{i:Nat}(h:i<l.length):indexOf x (l.drop i) i=if x=l[i]! then (i:Int) else indexOf x (l.drop (i+1)) (i+1):=by
 rw[List.drop_eq_getElem_cons h,getElem!_pos l i h,indexOf]
theorem xz {x:List UInt8}:∀(l:List (List UInt8)) (i:Nat),decide (0<=indexOf x l i)=decide (x∈l)
 | [],i=>by simp[indexOf]
 | a::l,i=>by
  rw[indexOf];split
  . rename_i h;subst h;simp
  . rename_i h;rw[xz l (i+1)];simp[h]
theorem xA {T:List (Nat×Spec)}(l:List (List UInt8))(x:List UInt8)(cap:Option Nat)(hl:l.length<4611686018427387904)(hp:ae)(df:List Nat){Q:Ex->ak->Prop}:∀(r i:Nat),i+r=l.length->∀(a2 a3:AV) (lo:List (Nat×AV)) (wr:List Nat),
 (indexOf x (l.drop i) i = -1->∀a3 lo wr,Q (.exit 0) ⟨⟨[.vs (strs l) l.length cap,.str x,a2,a3,.iV l.length,.iV l.length],lo,hp,df⟩,wr⟩) ->
 (∀a3 a5 lo wr,Q .ret ⟨⟨[.vs (strs l) l.length cap,.str x,.iV (indexOf x (l.drop i) i),a3,.iV l.length,a5],lo,hp,df⟩,wr⟩) ->
 W (eY T inv F) (.loop od) ⟨⟨[.vs (strs l) l.length cap,.str x,a2,a3,.iV l.length,.iV i],lo,hp,df⟩,wr⟩ Q
 | 0,i,hi,a2,a3,lo,wr,h1,h2=>by
  obtain rfl:i=l.length:=by omega
  refine W.loop ?_;unfold od;repeat' first|apply LL|apply aj|apply LM|apply LN|apply LW|apply LP|apply Mi|apply LU|apply aF|apply bO|apply aZ|apply bX|apply bR|(apply du;rfl)|apply cE|apply dx|apply cw|apply de|(apply LS;rfl)|(apply LR;rfl)|(apply Ms;rfl;all_goals intro _)|(apply Md;rfl;rfl)|(apply Mc;rfl;rfl)|(apply Mk;rfl;rfl;omega)|(apply MB;rfl;rfl;omega)|(apply MN;rfl;rfl;omega)|(apply ML;rfl;exact fun _=>rfl;(first|omega|(simp only[List.length_set];omega)|(simp;omega));decide;rfl;case ia=>infer_instance)|(apply NH;rfl;(first|rfl|assumption|exact cS|(apply aJ;assumption)|(apply dN;first|assumption|(simp only[gW];assumption)));exact fun _=>rfl;(first|omega|(simp only[List.length_set];omega)|(simp;omega));decide;rfl;case ia=>infer_instance)|(apply Mg;rfl;rfl;all_goals first|(intro h;exact absurd h (by decide))|(intro h;exact absurd rfl h)|(intro h;contradiction)|intro _)|(apply LY;rfl;rfl;rfl)|(apply LX;rfl;rfl;rfl)|(apply Me;rfl;rfl;rfl)|(apply LK;rfl;rfl)|(apply LO;rfl;rfl)|(intro _;omega)|intro _
  exact h1 (by simp[indexOf]) _ _ _
 | r+1,i,hi,a2,a3,lo,wr,h1,h2=>by
  have e:=HP (x:=x) (l:=l) (i:=(i:Int).toNat) (by omega);rw[Int.toNat_natCast]at e;refine W.loop ?_;unfold od;repeat' first|apply LL|apply aj|apply LM|apply LN|apply LW|apply LP|apply Mi|apply LU|apply aF|apply bO|apply aZ|apply bX|apply bR|(apply du;rfl)|apply cE|apply dx|apply cw|apply de|(apply LS;rfl)|(apply LR;rfl)|(apply Ms;rfl;all_goals intro _)|(apply Md;rfl;rfl)|(apply Mc;rfl;rfl)|(apply Mk;rfl;rfl;omega)|(apply MB;rfl;rfl;omega)|(apply MN;rfl;rfl;omega)|(apply ML;rfl;exact fun _=>rfl;(first|omega|(simp only[List.length_set];omega)|(simp;omega));decide;rfl;case ia=>infer_instance)|(apply NH;rfl;(first|rfl|assumption|exact cS|(apply aJ;assumption)|(apply dN;first|assumption|(simp only[gW];assumption)));exact fun _=>rfl;(first|omega|(simp only[List.length_set];omega)|(simp;omega));decide;rfl;case ia=>infer_instance)|(apply Mg;rfl;rfl;all_goals first|(intro h;exact absurd h (by decide))|(intro h;exact absurd rfl h)|(intro h;contradiction)|intro _)|(apply LY;rfl;rfl;rfl)|(apply LX;rfl;rfl;rfl)|(apply Me;rfl;rfl;rfl)|(apply LK;rfl;rfl)|(apply LO;rfl;rfl)|(intro _;omega)|intro _
  . rename_i he;rw[Int.toNat_natCast]at he;rw[if_pos he]at e;rw[e]at h2;exact h2 _ _ _ _
  . rename_i he;rw[Int.toNat_natCast]at he;rw[if_neg he]at e;rw[e]at h1 h2;exact ji (xA l x cap hl hp df r (i+1) (by omega) _ _ _ _ h1 h2)
theorem HS {T:List (Nat×Spec)}(hft:F=FT)(l:List (List UInt8))(x:List UInt8)(cap:Option Nat)(hl:l.length<4611686018427387904):aG (eY T inv F) 185 [.vs (strs l) l.length cap,.str x] [] ⟨.iV (indexOf x l 0),[],[]⟩:=by
 refine ba (show F 185=_ from by rw[hft];exact HO) (by simp) ?_;unfold xy;simp only[enter];repeat' first|apply LL|apply aj|apply LM|apply LN|apply LW|apply LP|apply Mi|apply LU|apply aF|apply bO|apply aZ|apply bX|apply bR|(apply du;rfl)|apply cE|apply dx|apply cw|apply de|(apply LS;rfl)|(apply LR;rfl)|(apply Ms;rfl;all_goals intro _)|(apply LK;rfl;rfl)|(apply LO;rfl;rfl)
 refine xA l x cap hl _ _ l.length 0 (by omega) _ _ _ _ (fun h a2 lo wr=>?_) (fun a2 a5 lo wr=>?_)
 . repeat' first|apply LL|apply aj|apply LM|apply LN|apply LW|apply LP|apply Mi|apply LU|apply aF|apply bO|apply aZ|apply bX|apply bR|(apply du;rfl)|apply cE|apply dx|apply cw|apply de|(apply LS;rfl)|(apply LR;rfl)|(apply Ms;rfl;all_goals intro _)|(apply LK;rfl;rfl)|(apply LO;rfl;rfl)
   exact⟨.inr rfl,rfl,_,rfl,by rw[List.drop_zero]at h;rw[h];rfl,rfl⟩
 . repeat' first|apply LL|apply aj|apply LM|apply LN|apply LW|apply LP|apply Mi|apply LU|apply aF|apply bO|apply aZ|apply bX|apply bR|(apply du;rfl)|apply cE|apply dx|apply cw|apply de|(apply LS;rfl)|(apply LR;rfl)|(apply Ms;rfl;all_goals intro _)|(apply LK;rfl;rfl)|(apply LO;rfl;rfl)
   exact⟨.inr rfl,rfl,_,rfl,rfl,rfl⟩
def lM:Spec:=fun
 | [v,.str x],h=>match kc h v with
   | some l=>if l.length<4611686018427387904 then some ⟨.int .i64 (indexOf x l 0),h,[]⟩ else none
   | none=>none
 | _,_=>none
def rS:Spec:=fun
 | [v,.str x],h=>match kc h v with
   | some l=>if l.length<4611686018427387904 then some ⟨.bool (decide (x∈l)),h,[]⟩ else none
   | none=>none
 | _,_=>none
theorem HT {h:ae}{l:List (List UInt8)}{cap:Option Nat}:kc h (.vs (strs l) l.length cap)=some l:=by
 simp only[kc,kb,dF,uK,if_true]
theorem HU {T:List (Nat×Spec)}(hft:F=FT)(l:List (List UInt8))(x:List UInt8)(cap:Option Nat)(hl:l.length<4611686018427387904):aG (eY ((185,lM)::T) inv F) 116 [.vs (strs l) l.length cap,.str x] [] ⟨.bool (decide (x∈l)),[],[]⟩:=by
 have hi:∀h,(eY ((185,lM)::T) inv F).ext 185 [.vs (strs l) l.length cap,.str x] h=some ⟨.iV (indexOf x l 0),h,[]⟩:=fun h=>by
  show cR _ _ _ _=_;simp only[ES,lM,HT,if_pos hl]
 refine ba (show F 116=_ from by rw[hft];exact HN) (by simp) ?_;unfold xw;simp only[enter];have hm:=xz (x:=x) l 0;repeat' first|apply LL|apply aj|apply LM|apply LN|apply LW|apply LP|apply Mi|apply LU|apply aF|apply bO|apply aZ|apply bX|apply bR|(apply du;rfl)|apply cE|apply dx|apply cw|apply de|(apply LS;rfl)|(apply LR;rfl)|(apply Ms;rfl;all_goals intro _)|(apply Mx;rfl;rfl)|(apply LV;rfl;rfl;first|exact hi _)|(apply MJ;rfl;rfl;rfl;all_goals first|(intro h;exact absurd h (by decide))|intro _)|(apply LV;rfl;rfl;rfl)|(apply LK;rfl;rfl)|(apply LO;rfl;rfl)|(intro _;omega)|intro _
 all_goals refine⟨.inr rfl,rfl,_,rfl,?_,rfl⟩
 all_goals rw[←hm]
 . rename_i h;rw[decide_eq_true h];rfl
 . rename_i h;rw[decide_eq_false (by omega)];rfl
abbrev gi:List (List UInt8):=[[68,78,83],[68,78,70],[68,81],[78,77]]
def iN:Spec:=fun
 | [.str x],h=>some ⟨.bool (decide (x∈gi)),h,[]⟩
 | _,_=>none
theorem HV {T:List (Nat×Spec)}(hft:F=FT)(x:List UInt8):aG (eY ((116,rS)::T) inv F) 112 [.str x] [] ⟨.bool (decide (x∈gi)),[],[]⟩:=by
 refine ba (show F 112=_ from by rw[hft];exact HH) (by simp) ?_;unfold xl;simp only[enter];repeat' first|apply LL|apply aj|apply LM|apply LN|apply LW|apply LP|apply Mi|apply LU|apply aF|apply bO|apply aZ|apply bX|apply bR|(apply du;rfl)|apply cE|apply dx|apply cw|apply de|(apply LS;rfl)|(apply LR;rfl)|(apply Ms;rfl;all_goals intro _)|(apply MJ;rfl;rfl;rfl;all_goals first|(intro h;exact absurd h (by decide))|intro _)|(apply LV;rfl;rfl;rfl)|(apply LY;rfl;rfl;rfl)|(apply LX;rfl;rfl;rfl)|(apply Me;rfl;rfl;rfl)|(apply LK;rfl;rfl)|(apply LO;rfl;rfl)
 all_goals (rename_i h;exact⟨.inr rfl,rfl,_,rfl,by rw[h];rfl,rfl⟩)
theorem HW {T:List (Nat×Spec)}(hft:F=FT)(x:List UInt8):aG (eY T inv F) 109 [.str x] [] ⟨.bool (decide (x∈gi)),[],[]⟩:=by
 refine ba (show F 109=_ from by rw[hft];exact HI) (by simp) ?_;unfold xn;simp only[enter];repeat' first|apply LL|apply aj|apply LM|apply LN|apply LW|apply LP|apply Mi|apply LU|apply aF|apply bO|apply aZ|apply bX|apply bR|(apply du;rfl)|apply cE|apply dx|apply cw|apply de|(apply LS;rfl)|(apply LR;rfl)|(apply Ms;rfl;all_goals intro _)|(apply Mj;rfl)|(apply Mf;rfl)|(apply Ml;rfl)|(apply Mm;rfl)|(apply MA;rfl)|(apply Mc;rfl;rfl)|(apply Mb;rfl;rfl)|(apply Ma;rfl;rfl)|(apply Mg;rfl;rfl;all_goals first|(intro h;exact absurd h (by decide))|(intro h;exact absurd rfl h)|(intro h;contradiction)|intro _)|(apply LK;rfl;rfl)|(apply LO;rfl;rfl)|(intro _;omega)|intro _
 all_goals exact⟨.inr rfl,rfl,_,rfl,by simp[cd, *],rfl⟩
abbrev HX (N:Nat):AV:=.agg [.iV 1,.iV 863999999,.bool false,.map (N+1),.fn (.func 180) [] []]
abbrev HY (N:Nat):AV:=.agg [.iV 0,.iV 999999,.bool true,.map (N+2),.fn (.func 181) [] []]
abbrev HZ (N:Nat):AV:=.agg [.iV 0,.iV 99999,.bool true,.map (N+3),.fn (.func 182) [] []]
abbrev rT (N:Nat):List aP:=[.map [(.str cJ,HX N),(.str fA,HY N),(.str gH,HZ N)],
 .map [(.str lL,.iV 1),(.str oe,.iV 100),(.str og,.iV 1000)],.map [(.str lL,.iV 1),(.str oh,.iV 10)],.map [(.str lL,.iV 1)]]
def om:Spec:=fun
 | [],h=>some ⟨.map h.length,h++(rT h.length).map some,[]⟩
 | _,_=>none
theorem Ia {T:List (Nat×Spec)}(hft:F=FT):aG (eY T inv F) 113 [] [] ⟨.map 0,(rT 0).map some,[]⟩:=by
 refine ba (show F 113=_ from by rw[hft];exact HG) (by simp) ?_;unfold xk;simp only[List.map_cons,List.map_nil,List.getElem?_nil,Option.getD_none];repeat' first|apply LL|apply aj|apply LM|apply LN|apply LW|apply LP|apply Mi|apply LU|apply aF|apply bO|apply aZ|apply bX|apply bR|(apply du;rfl)|apply cE|apply dx|apply cw|apply de|(apply LS;rfl)|(apply LR;rfl)|(apply Ms;rfl;all_goals intro _)|(apply LY;rfl;rfl;rfl)|(apply LX;rfl;rfl;rfl)|(apply Me;rfl;rfl;rfl)|(apply LK;rfl;rfl)|(apply LO;rfl;rfl)
 exact⟨.inr rfl,rfl,_,rfl,rfl,rfl⟩
def fm (k:List UInt8):Int:=if k=cJ then 1 else 0
def fo (k:List UInt8):Int:=if k=cJ then 863999999 else if k=fA then 999999 else 99999
def known (k:List UInt8):Prop:=k=cJ\/k=fA\/k=gH
instance (k:List UInt8):Decidable (known k):=by unfold known;infer_instance
def bM (k:List UInt8)(v:Int)(r:List UInt8):Int:=
 if k=gG then (if r∉gi then 1 else if v≠0 then 3 else 0) else if ¬known k then 13 else if r≠[] then 1 else if v<fm k\/fo k<v then 3 else 0
theorem xB (k:List UInt8):k=gG\/k=cJ\/k=fA\/k=gH\/(k≠gG/\¬known k):=by
 unfold known;by_cases h1:k=gG
 . exact .inl h1
 by_cases h2:k=cJ
 . exact .inr (.inl h2)
 by_cases h3:k=fA
 . exact .inr (.inr (.inl h3))
 by_cases h4:k=gH
 . exact .inr (.inr (.inr (.inl h4)))
 exact .inr (.inr (.inr (.inr ⟨h1,by simp[h2,h3,h4]⟩)))
def Ib:List (Nat×Spec):=[(113,om),(112,iN),(97,nF),(96,jr),(95,fun
 | [.int .i64 x,.int .i64 lo,.int .i64 hi],h=>some ⟨.bool (decide (x<lo) || decide (hi<x)),h,[]⟩
 | _,_=>none)]
theorem Ic (hft:F=FT)(k:List UInt8)(v:Int)(r:List UInt8):aG (eY Ib inv F) 36 [cW k v r] [] ⟨.iV (bM k v r),[],[]⟩:=by
 refine ba (show F 36=_ from by rw[hft];exact HF) (by simp) ?_;unfold xj;simp only[enter];rcases xB k with rfl|rfl|rfl|rfl|⟨h1,h2⟩
 . repeat' first|apply LL|apply aj|apply LM|apply LN|apply LW|apply LP|apply Mi|apply LU|apply aF|apply bO|apply aZ|apply bX|apply bR|(apply du;rfl)|apply cE|apply dx|apply cw|apply de|(apply MI;rfl)|apply Mo|apply Mp|(apply MP;rfl)|(apply MC;rfl)|(apply MQ;rfl)|(apply MD;rfl)|(apply MR;rfl)|(apply Mq;rfl)|(apply Mt;rfl;rfl;(first|(simp only[nca];rfl)|rfl))|(apply MS;rfl;(first|(simp only[nca];rfl)|rfl);(first|(simp only[nca];rfl)|rfl))|(apply My;rfl)|(apply MT;rfl;rfl)|(apply MM;rfl;rfl;rfl;rfl;all_goals first|(intro h;exact absurd h (by decide))|intro _)|(apply Mu;rfl;rfl;rfl;rfl)|(apply MG;rfl;rfl;rfl;rfl)|(apply LS;rfl)|(apply LR;rfl)|(apply Ms;rfl;all_goals intro _)|(apply Mc;rfl;rfl)|(apply Mh;rfl;rfl)|(apply Mg;rfl;rfl;all_goals first|(intro h;exact absurd h (by decide))|(intro h;exact absurd rfl h)|(intro h;contradiction)|intro _)|(apply ME;rfl;rfl;all_goals first|(intro h;exact absurd h (by decide))|(intro h;exact absurd rfl h)|(intro h;contradiction)|intro _)|(apply MJ;rfl;rfl;rfl;all_goals first|(intro h;exact absurd h (by decide))|intro _)|(apply LV;rfl;rfl;rfl)|(apply LY;rfl;rfl;rfl)|(apply LX;rfl;rfl;rfl)|(apply Me;rfl;rfl;rfl)|(apply LK;rfl;rfl)|(apply LO;rfl;rfl)|(intro _;omega)|intro _
   all_goals refine⟨.inr rfl,rfl,_,rfl,congrArg (AV.int .i64) ?_,rfl⟩
   all_goals (by_cases hr:r∈gi <;> simp_all [cU,bM])
 . repeat' first|apply LL|apply aj|apply LM|apply LN|apply LW|apply LP|apply Mi|apply LU|apply aF|apply bO|apply aZ|apply bX|apply bR|(apply du;rfl)|apply cE|apply dx|apply cw|apply de|(apply MI;rfl)|apply Mo|apply Mp|(apply MP;rfl)|(apply MC;rfl)|(apply MQ;rfl)|(apply MD;rfl)|(apply MR;rfl)|(apply Mq;rfl)|(apply Mt;rfl;rfl;(first|(simp only[nca];rfl)|rfl))|(apply MS;rfl;(first|(simp only[nca];rfl)|rfl);(first|(simp only[nca];rfl)|rfl))|(apply My;rfl)|(apply MT;rfl;rfl)|(apply MM;rfl;rfl;rfl;rfl;all_goals first|(intro h;exact absurd h (by decide))|intro _)|(apply Mu;rfl;rfl;rfl;rfl)|(apply MG;rfl;rfl;rfl;rfl)|(apply LS;rfl)|(apply LR;rfl)|(apply Ms;rfl;all_goals intro _)|(apply Mc;rfl;rfl)|(apply Mh;rfl;rfl)|(apply Mg;rfl;rfl;all_goals first|(intro h;exact absurd h (by decide))|(intro h;exact absurd rfl h)|(intro h;contradiction)|intro _)|(apply ME;rfl;rfl;all_goals first|(intro h;exact absurd h (by decide))|(intro h;exact absurd rfl h)|(intro h;contradiction)|intro _)|(apply MJ;rfl;rfl;rfl;all_goals first|(intro h;exact absurd h (by decide))|intro _)|(apply LV;rfl;rfl;rfl)|(apply LY;rfl;rfl;rfl)|(apply LX;rfl;rfl;rfl)|(apply Me;rfl;rfl;rfl)|(apply LK;rfl;rfl)|(apply LO;rfl;rfl)|(intro _;omega)|intro _
   all_goals refine⟨.inr rfl,rfl,_,rfl,congrArg (AV.int .i64) ?_,rfl⟩
   all_goals (by_cases hv:v<1\/863999999<v <;> simp_all [cU,bM,known,fm,fo] <;> omega)
 . repeat' first|apply LL|apply aj|apply LM|apply LN|apply LW|apply LP|apply Mi|apply LU|apply aF|apply bO|apply aZ|apply bX|apply bR|(apply du;rfl)|apply cE|apply dx|apply cw|apply de|(apply MI;rfl)|apply Mo|apply Mp|(apply MP;rfl)|(apply MC;rfl)|(apply MQ;rfl)|(apply MD;rfl)|(apply MR;rfl)|(apply Mq;rfl)|(apply Mt;rfl;rfl;(first|(simp only[nca];rfl)|rfl))|(apply MS;rfl;(first|(simp only[nca];rfl)|rfl);(first|(simp only[nca];rfl)|rfl))|(apply My;rfl)|(apply MT;rfl;rfl)|(apply MM;rfl;rfl;rfl;rfl;all_goals first|(intro h;exact absurd h (by decide))|intro _)|(apply Mu;rfl;rfl;rfl;rfl)|(apply MG;rfl;rfl;rfl;rfl)|(apply LS;rfl)|(apply LR;rfl)|(apply Ms;rfl;all_goals intro _)|(apply Mc;rfl;rfl)|(apply Mh;rfl;rfl)|(apply Mg;rfl;rfl;all_goals first|(intro h;exact absurd h (by decide))|(intro h;exact absurd rfl h)|(intro h;contradiction)|intro _)|(apply ME;rfl;rfl;all_goals first|(intro h;exact absurd h (by decide))|(intro h;exact absurd rfl h)|(intro h;contradiction)|intro _)|(apply MJ;rfl;rfl;rfl;all_goals first|(intro h;exact absurd h (by decide))|intro _)|(apply LV;rfl;rfl;rfl)|(apply LY;rfl;rfl;rfl)|(apply LX;rfl;rfl;rfl)|(apply Me;rfl;rfl;rfl)|(apply LK;rfl;rfl)|(apply LO;rfl;rfl)|(intro _;omega)|intro _
   all_goals refine⟨.inr rfl,rfl,_,rfl,congrArg (AV.int .i64) ?_,rfl⟩
   all_goals (by_cases hv:v<0\/999999<v <;> simp_all [cU,bM,known,fm,fo] <;> omega)
 . repeat' first|apply LL|apply aj|apply LM|apply LN|apply LW|apply LP|apply Mi|apply LU|apply aF|apply bO|apply aZ|apply bX|apply bR|(apply du;rfl)|apply cE|apply dx|apply cw|apply de|(apply MI;rfl)|apply Mo|apply Mp|(apply MP;rfl)|(apply MC;rfl)|(apply MQ;rfl)|(apply MD;rfl)|(apply MR;rfl)|(apply Mq;rfl)|(apply Mt;rfl;rfl;(first|(simp only[nca];rfl)|rfl))|(apply MS;rfl;(first|(simp only[nca];rfl)|rfl);(first|(simp only[nca];rfl)|rfl))|(apply My;rfl)|(apply MT;rfl;rfl)|(apply MM;rfl;rfl;rfl;rfl;all_goals first|(intro h;exact absurd h (by decide))|intro _)|(apply Mu;rfl;rfl;rfl;rfl)|(apply MG;rfl;rfl;rfl;rfl)|(apply LS;rfl)|(apply LR;rfl)|(apply Ms;rfl;all_goals intro _)|(apply Mc;rfl;rfl)|(apply Mh;rfl;rfl)|(apply Mg;rfl;rfl;all_goals first|(intro h;exact absurd h (by decide))|(intro h;exact absurd rfl h)|(intro h;contradiction)|intro _)|(apply ME;rfl;rfl;all_goals first|(intro h;exact absurd h (by decide))|(intro h;exact absurd rfl h)|(intro h;contradiction)|intro _)|(apply MJ;rfl;rfl;rfl;all_goals first|(intro h;exact absurd h (by decide))|intro _)|(apply LV;rfl;rfl;rfl)|(apply LY;rfl;rfl;rfl)|(apply LX;rfl;rfl;rfl)|(apply Me;rfl;rfl;rfl)|(apply LK;rfl;rfl)|(apply LO;rfl;rfl)|(intro _;omega)|intro _
   all_goals refine⟨.inr rfl,rfl,_,rfl,congrArg (AV.int .i64) ?_,rfl⟩
   all_goals (by_cases hv:v<0\/99999<v <;> simp_all [cU,bM,known,fm,fo] <;> omega)
 . simp only[known,not_or]at h2;have b1:(k == cJ)=false:=beq_eq_false_iff_ne.2 h2.1;have b2:(k == fA)=false:=beq_eq_false_iff_ne.2 h2.2.1;have b3:(k == gH)=false:=beq_eq_false_iff_ne.2 h2.2.2;repeat' first|apply LL|apply aj|apply LM|apply LN|apply LW|apply LP|apply Mi|apply LU|apply aF|apply bO|apply aZ|apply bX|apply bR|(apply du;rfl)|apply cE|apply dx|apply cw|apply de|(apply MI;rfl)|apply Mo|apply Mp|(apply MP;rfl)|(apply MC;rfl)|(apply MQ;rfl)|(apply MD;rfl)|(apply MR;rfl)|(apply Mq;rfl)|(apply Mt;rfl;rfl;(first|(simp only[nca];rfl)|rfl))|(apply MS;rfl;(first|(simp only[nca];rfl)|rfl);(first|(simp only[nca];rfl)|rfl))|(apply My;rfl)|(apply MT;rfl;rfl)|(apply MM;rfl;rfl;rfl;rfl;all_goals first|(intro h;exact absurd h (by decide))|intro _)|(apply Mu;rfl;rfl;rfl;rfl)|(apply MG;rfl;rfl;rfl;rfl)|(apply LS;rfl)|(apply LR;rfl)|(apply Ms;rfl;all_goals intro _)|(apply Mc;rfl;rfl)|(apply Mh;rfl;rfl)|(apply Ns;rfl;rfl;rfl;rfl;simp only[fD,jH,b1,b2,b3])|(apply Mg;rfl;rfl;all_goals first|(intro h;exact absurd h (by decide))|(intro h;exact absurd rfl h)|(intro h;contradiction)|intro _)|(apply ME;rfl;rfl;all_goals first|(intro h;exact absurd h (by decide))|(intro h;exact absurd rfl h)|(intro h;contradiction)|intro _)|(apply MJ;rfl;rfl;rfl;all_goals first|(intro h;exact absurd h (by decide))|intro _)|(apply LV;rfl;rfl;rfl)|(apply LY;rfl;rfl;rfl)|(apply LX;rfl;rfl;rfl)|(apply Me;rfl;rfl;rfl)|(apply LK;rfl;rfl)|(apply LO;rfl;rfl)|(intro _;omega)|intro _
   all_goals refine⟨.inr rfl,rfl,_,rfl,congrArg (AV.int .i64) ?_,rfl⟩
   all_goals simp[cU,bM,known,h1,h2]
def fR:Spec:=fun
 | [.agg [.str k,.int .i64 v,.str r]],h=>some ⟨.int .i64 (bM k v r),h,[]⟩
 | _,_=>none
theorem Ie {T:List (Nat×Spec)}(hft:F=FT)(k:List UInt8):aG (eY T inv F) 110 [.str k] [] ⟨.iV (fm k),[],[]⟩:=by
 refine ba (show F 110=_ from by rw[hft];exact HJ) (by simp) ?_;unfold xp;simp only[enter];repeat' first|apply LL|apply aj|apply LM|apply LN|apply LW|apply LP|apply Mi|apply LU|apply aF|apply bO|apply aZ|apply bX|apply bR|(apply du;rfl)|apply cE|apply dx|apply cw|apply de|(apply LS;rfl)|(apply LR;rfl)|(apply Ms;rfl;all_goals intro _)|(apply Mc;rfl;rfl)|(apply Mg;rfl;rfl;all_goals first|(intro h;exact absurd h (by decide))|(intro h;exact absurd rfl h)|(intro h;contradiction)|intro _)|(apply LK;rfl;rfl)|(apply LO;rfl;rfl)|(intro _;omega)|intro _
 all_goals exact⟨.inr rfl,rfl,_,rfl,by simp[cd,fm, *],rfl⟩
theorem Ig {T:List (Nat×Spec)}(hft:F=FT)(k:List UInt8):aG (eY T inv F) 111 [.str k] [] ⟨.iV (fo k),[],[]⟩:=by
 refine ba (show F 111=_ from by rw[hft];exact HK) (by simp) ?_;unfold xq;simp only[enter];repeat' first|apply LL|apply aj|apply LM|apply LN|apply LW|apply LP|apply Mi|apply LU|apply aF|apply bO|apply aZ|apply bX|apply bR|(apply du;rfl)|apply cE|apply dx|apply cw|apply de|(apply LS;rfl)|(apply LR;rfl)|(apply Ms;rfl;all_goals intro _)|(apply Mc;rfl;rfl)|(apply Mg;rfl;rfl;all_goals first|(intro h;exact absurd h (by decide))|(intro h;exact absurd rfl h)|(intro h;contradiction)|intro _)|(apply LK;rfl;rfl)|(apply LO;rfl;rfl)|(intro _;omega)|intro _
 all_goals exact⟨.inr rfl,rfl,_,rfl,by simp[cd,fo, *],rfl⟩
def Ih:List (Nat×Spec):=[(109,iN),(110,fun
 | [.str k],h=>some ⟨.int .i64 (fm k),h,[]⟩
 | _,_=>none),(111,fun
 | [.str k],h=>some ⟨.int .i64 (fo k),h,[]⟩
 | _,_=>none)]
theorem Ii (hft:F=FT)(k:List UInt8)(v:Int)(r:List UInt8):aG (eY Ih inv F) 35 [cW k v r] [] ⟨.iV (bM k v r),[],[]⟩:=by
 refine ba (show F 35=_ from by rw[hft];exact HL) (by simp) ?_;unfold xr;simp only[enter];rcases xB k with rfl|rfl|rfl|rfl|⟨h1,h2⟩
 . repeat' first|apply LL|apply aj|apply LM|apply LN|apply LW|apply LP|apply Mi|apply LU|apply aF|apply bO|apply aZ|apply bX|apply bR|(apply du;rfl)|apply cE|apply dx|apply cw|apply de|(apply MI;rfl)|apply Mo|apply Mp|(apply MP;rfl)|(apply MC;rfl)|(apply MQ;rfl)|(apply MD;rfl)|(apply MR;rfl)|(apply Mq;rfl)|(apply Mt;rfl;rfl;(first|(simp only[nca];rfl)|rfl))|(apply My;rfl)|(apply MM;rfl;rfl;rfl;rfl;all_goals first|(intro h;exact absurd h (by decide))|intro _)|(apply Mu;rfl;rfl;rfl;rfl)|(apply MG;rfl;rfl;rfl;rfl)|(apply LS;rfl)|(apply LR;rfl)|(apply Ms;rfl;all_goals intro _)|(apply Mj;rfl)|(apply Mf;rfl)|(apply Ml;rfl)|(apply Mm;rfl)|(apply MA;rfl)|(apply Md;rfl;rfl)|(apply LZ;rfl;rfl)|(apply Mc;rfl;rfl)|(apply Mh;rfl;rfl)|(apply Mb;rfl;rfl)|(apply Ma;rfl;rfl)|(apply Mg;rfl;rfl;all_goals first|(intro h;exact absurd h (by decide))|(intro h;exact absurd rfl h)|(intro h;contradiction)|intro _)|(apply ME;rfl;rfl;all_goals first|(intro h;exact absurd h (by decide))|(intro h;exact absurd rfl h)|(intro h;contradiction)|intro _)|(apply MJ;rfl;rfl;rfl;all_goals first|(intro h;exact absurd h (by decide))|intro _)|(apply LV;rfl;rfl;rfl)|(apply LY;rfl;rfl;rfl)|(apply LX;rfl;rfl;rfl)|(apply Me;rfl;rfl;rfl)|(apply LK;rfl;rfl)|(apply LO;rfl;rfl)|(intro _;omega)|intro _
   all_goals refine⟨.inr rfl,rfl,_,rfl,congrArg (AV.int .i64) ?_,rfl⟩
   all_goals simp_all [bM]
 . repeat' first|apply LL|apply aj|apply LM|apply LN|apply LW|apply LP|apply Mi|apply LU|apply aF|apply bO|apply aZ|apply bX|apply bR|(apply du;rfl)|apply cE|apply dx|apply cw|apply de|(apply MI;rfl)|apply Mo|apply Mp|(apply MP;rfl)|(apply MC;rfl)|(apply MQ;rfl)|(apply MD;rfl)|(apply MR;rfl)|(apply Mq;rfl)|(apply Mt;rfl;rfl;(first|(simp only[nca];rfl)|rfl))|(apply My;rfl)|(apply MM;rfl;rfl;rfl;rfl;all_goals first|(intro h;exact absurd h (by decide))|intro _)|(apply Mu;rfl;rfl;rfl;rfl)|(apply MG;rfl;rfl;rfl;rfl)|(apply LS;rfl)|(apply LR;rfl)|(apply Ms;rfl;all_goals intro _)|(apply Mj;rfl)|(apply Mf;rfl)|(apply Ml;rfl)|(apply Mm;rfl)|(apply MA;rfl)|(apply Md;rfl;rfl)|(apply LZ;rfl;rfl)|(apply Mc;rfl;rfl)|(apply Mh;rfl;rfl)|(apply Mb;rfl;rfl)|(apply Ma;rfl;rfl)|(apply Mg;rfl;rfl;all_goals first|(intro h;exact absurd h (by decide))|(intro h;exact absurd rfl h)|(intro h;contradiction)|intro _)|(apply ME;rfl;rfl;all_goals first|(intro h;exact absurd h (by decide))|(intro h;exact absurd rfl h)|(intro h;contradiction)|intro _)|(apply MJ;rfl;rfl;rfl;all_goals first|(intro h;exact absurd h (by decide))|intro _)|(apply LV;rfl;rfl;rfl)|(apply LY;rfl;rfl;rfl)|(apply LX;rfl;rfl;rfl)|(apply Me;rfl;rfl;rfl)|(apply LK;rfl;rfl)|(apply LO;rfl;rfl)|(intro _;omega)|intro _
   all_goals refine⟨.inr rfl,rfl,_,rfl,congrArg (AV.int .i64) ?_,rfl⟩
   all_goals simp_all [bM,known,fm,fo]
   all_goals omega
 . repeat' first|apply LL|apply aj|apply LM|apply LN|apply LW|apply LP|apply Mi|apply LU|apply aF|apply bO|apply aZ|apply bX|apply bR|(apply du;rfl)|apply cE|apply dx|apply cw|apply de|(apply MI;rfl)|apply Mo|apply Mp|(apply MP;rfl)|(apply MC;rfl)|(apply MQ;rfl)|(apply MD;rfl)|(apply MR;rfl)|(apply Mq;rfl)|(apply Mt;rfl;rfl;(first|(simp only[nca];rfl)|rfl))|(apply My;rfl)|(apply MM;rfl;rfl;rfl;rfl;all_goals first|(intro h;exact absurd h (by decide))|intro _)|(apply Mu;rfl;rfl;rfl;rfl)|(apply MG;rfl;rfl;rfl;rfl)|(apply LS;rfl)|(apply LR;rfl)|(apply Ms;rfl;all_goals intro _)|(apply Mj;rfl)|(apply Mf;rfl)|(apply Ml;rfl)|(apply Mm;rfl)|(apply MA;rfl)|(apply Md;rfl;rfl)|(apply LZ;rfl;rfl)|(apply Mc;rfl;rfl)|(apply Mh;rfl;rfl)|(apply Mb;rfl;rfl)|(apply Ma;rfl;rfl)|(apply Mg;rfl;rfl;all_goals first|(intro h;exact absurd h (by decide))|(intro h;exact absurd rfl h)|(intro h;contradiction)|intro _)|(apply ME;rfl;rfl;all_goals first|(intro h;exact absurd h (by decide))|(intro h;exact absurd rfl h)|(intro h;contradiction)|intro _)|(apply MJ;rfl;rfl;rfl;all_goals first|(intro h;exact absurd h (by decide))|intro _)|(apply LV;rfl;rfl;rfl)|(apply LY;rfl;rfl;rfl)|(apply LX;rfl;rfl;rfl)|(apply Me;rfl;rfl;rfl)|(apply LK;rfl;rfl)|(apply LO;rfl;rfl)|(intro _;omega)|intro _
   all_goals refine⟨.inr rfl,rfl,_,rfl,congrArg (AV.int .i64) ?_,rfl⟩
   all_goals simp_all [bM,known,fm,fo]
   all_goals omega
 . repeat' first|apply LL|apply aj|apply LM|apply LN|apply LW|apply LP|apply Mi|apply LU|apply aF|apply bO|apply aZ|apply bX|apply bR|(apply du;rfl)|apply cE|apply dx|apply cw|apply de|(apply MI;rfl)|apply Mo|apply Mp|(apply MP;rfl)|(apply MC;rfl)|(apply MQ;rfl)|(apply MD;rfl)|(apply MR;rfl)|(apply Mq;rfl)|(apply Mt;rfl;rfl;(first|(simp only[nca];rfl)|rfl))|(apply My;rfl)|(apply MM;rfl;rfl;rfl;rfl;all_goals first|(intro h;exact absurd h (by decide))|intro _)|(apply Mu;rfl;rfl;rfl;rfl)|(apply MG;rfl;rfl;rfl;rfl)|(apply LS;rfl)|(apply LR;rfl)|(apply Ms;rfl;all_goals intro _)|(apply Mj;rfl)|(apply Mf;rfl)|(apply Ml;rfl)|(apply Mm;rfl)|(apply MA;rfl)|(apply Md;rfl;rfl)|(apply LZ;rfl;rfl)|(apply Mc;rfl;rfl)|(apply Mh;rfl;rfl)|(apply Mb;rfl;rfl)|(apply Ma;rfl;rfl)|(apply Mg;rfl;rfl;all_goals first|(intro h;exact absurd h (by decide))|(intro h;exact absurd rfl h)|(intro h;contradiction)|intro _)|(apply ME;rfl;rfl;all_goals first|(intro h;exact absurd h (by decide))|(intro h;exact absurd rfl h)|(intro h;contradiction)|intro _)|(apply MJ;rfl;rfl;rfl;all_goals first|(intro h;exact absurd h (by decide))|intro _)|(apply LV;rfl;rfl;rfl)|(apply LY;rfl;rfl;rfl)|(apply LX;rfl;rfl;rfl)|(apply Me;rfl;rfl;rfl)|(apply LK;rfl;rfl)|(apply LO;rfl;rfl)|(intro _;omega)|intro _
   all_goals refine⟨.inr rfl,rfl,_,rfl,congrArg (AV.int .i64) ?_,rfl⟩
   all_goals simp_all [bM,known,fm,fo]
   all_goals omega
 . simp only[known,not_or]at h2;repeat' first|apply LL|apply aj|apply LM|apply LN|apply LW|apply LP|apply Mi|apply LU|apply aF|apply bO|apply aZ|apply bX|apply bR|(apply du;rfl)|apply cE|apply dx|apply cw|apply de|(apply MI;rfl)|apply Mo|apply Mp|(apply MP;rfl)|(apply MC;rfl)|(apply MQ;rfl)|(apply MD;rfl)|(apply MR;rfl)|(apply Mq;rfl)|(apply Mt;rfl;rfl;(first|(simp only[nca];rfl)|rfl))|(apply My;rfl)|(apply MM;rfl;rfl;rfl;rfl;all_goals first|(intro h;exact absurd h (by decide))|intro _)|(apply Mu;rfl;rfl;rfl;rfl)|(apply MG;rfl;rfl;rfl;rfl)|(apply LS;rfl)|(apply LR;rfl)|(apply Ms;rfl;all_goals intro _)|(apply Mj;rfl)|(apply Mf;rfl)|(apply Ml;rfl)|(apply Mm;rfl)|(apply MA;rfl)|(apply Md;rfl;rfl)|(apply LZ;rfl;rfl)|(apply Mc;rfl;rfl)|(apply Mh;rfl;rfl)|(apply Mb;rfl;rfl)|(apply Ma;rfl;rfl)|(apply Mg;rfl;rfl;all_goals first|(intro h;exact absurd h (by decide))|(intro h;exact absurd rfl h)|(intro h;contradiction)|intro _)|(apply ME;rfl;rfl;all_goals first|(intro h;exact absurd h (by decide))|(intro h;exact absurd rfl h)|(intro h;contradiction)|intro _)|(apply MJ;rfl;rfl;rfl;all_goals first|(intro h;exact absurd h (by decide))|intro _)|(apply LV;rfl;rfl;rfl)|(apply LY;rfl;rfl;rfl)|(apply LX;rfl;rfl;rfl)|(apply Me;rfl;rfl;rfl)|(apply LK;rfl;rfl)|(apply LO;rfl;rfl)|(intro _;omega)|intro _
   all_goals refine⟨.inr rfl,rfl,_,rfl,congrArg (AV.int .i64) ?_,rfl⟩
   all_goals simp_all [bM,known]
def isClass (c:List UInt8):Prop:=c∈[lL,oe,og,oh]
instance (c:List UInt8):Decidable (isClass c):=by unfold isClass;infer_instance
theorem xC {k:List UInt8}{v:Int}{r:List UInt8}(h:bM k v r=0):(k=gG/\r∈gi/\v=0)\/(k≠gG/\known k/\r=[]/\fm k<=v/\v<=fo k):=by
 unfold bM at h;split at h
 . rename_i h1;split at h
   . cases h
   . rename_i h2;split at h
     . cases h
     . rename_i h3;exact .inl ⟨h1,Classical.not_not.1 h2,Classical.not_not.1 h3⟩
 . rename_i h1;split at h
   . cases h
   . rename_i h2;split at h
     . cases h
     . rename_i h3;split at h
       . cases h
       . rename_i h4;exact .inr ⟨h1,Classical.not_not.1 h2,Classical.not_not.1 h3,by omega,by omega⟩
def Ij (c:List UInt8):Int:=if c=oe then 100 else if c=og then 1000 else if c=oh then 10 else if c=lL then 1 else 0
def Ik (c:List UInt8):List UInt8:=if c=oe then cJ else if c=og then cJ else if c=oh then fA else []
def LH:Spec:=fun
 | [.str c],h=>some ⟨.ar [.int .i64 (Ij c),.str (Ik c)],h,[]⟩
 | _,_=>none
def xD:Spec:=fun
 | [.str k],h=>some ⟨.int .i64 (fo k),h,[]⟩
 | _,_=>none
def Il (h:Int):Int:=-(-h/10)
def LJ:Spec:=fun
 | [.int .i64 n],h=>some ⟨.ar [.int .i64 (if n < -9999\/9999<n then 0 else Il n),.int .i64 (if n < -9999\/9999<n then 3 else 0)],h,[]⟩
 | _,_=>none
def xE:Spec:=fun
 | [.int .i64 x,.int .i64 lo,.int .i64 hi],h=>some ⟨.bool (decide (x<lo) || decide (hi<x)),h,[]⟩
 | _,_=>none
theorem Im {T:List (Nat×Spec)}(hft:F=FT)(k:List UInt8)(v:Int)(r:List UInt8):aG (eY T inv F) 34 [cW k v r] [] ⟨.bool (decide (k.length<=40/\r.length<=40)),[],[]⟩:=by
 refine ba (show F 34=_ from by rw[hft];exact HM) (by simp) ?_;unfold xu;simp only[enter];repeat' first|apply LL|apply aj|apply LM|apply LN|apply LW|apply LP|apply Mi|apply LU|apply aF|apply bO|apply aZ|apply bX|apply bR|(apply du;rfl)|apply cE|apply dx|apply cw|apply de|(apply LS;rfl)|(apply LR;rfl)|(apply Ms;rfl;all_goals intro _)|(apply Mj;rfl)|(apply Mf;rfl)|(apply Ml;rfl)|(apply Mm;rfl)|(apply MA;rfl)|(apply MH;rfl;rfl)|(apply Mb;rfl;rfl)|(apply Ma;rfl;rfl)|(apply LY;rfl;rfl;rfl)|(apply LX;rfl;rfl;rfl)|(apply Me;rfl;rfl;rfl)|(apply LK;rfl;rfl)|(apply LO;rfl;rfl)|(intro _;omega)|intro _
 all_goals exact⟨.inr rfl,rfl,_,rfl,congrArg AV.bool (by first|(rw[eq_comm,decide_eq_true_eq];omega)|(rw[eq_comm,decide_eq_false_iff_not];omega)),rfl⟩
def rU:Spec:=fun
 | [],h=>some ⟨.bool true,h,[]⟩
 | _,_=>none
def rV:Spec:=fun
 | [.agg [.str k,.int .i64 _,.str r]],h=>some ⟨.bool (decide (k.length<=40/\r.length<=40)),h,[]⟩
 | _,_=>none
end Go.Ab.Ch1

/-
  Own work: the contracts of marks as a table.
-/
namespace Go.Ab
variable {ks:List Nat} {N:Nat}
theorem Rn.rW {l l0:List AV}(h:ga ks N l l0):Rn ks N (.agg l) (.agg l0):=.agg h.1 h.2
end Go.Ab
namespace Go.Ab.Ch1
open Go.Proofs
theorem Io:aQ Tryz.prog gl 185 lM:=by
 intro xs h r hq;unfold lM at hq;split at hq
 . split at hq
   . rename_i l hl;split at hq
     . rename_i hlen;cases hq;obtain⟨S,cap,hf⟩:=(uM hl).fr (fun _=>rfl);exact fK eX bc (HS (T:=[]) rfl l _ cap hlen) (.cons hf (.cons (.same rfl) .nil)) rfl (.inr rfl)
     . cases hq
   . cases hq
 . cases hq
theorem Ip:aQ Tryz.prog gl 116 rS:=by
 intro xs h r hq;unfold rS at hq;split at hq
 . split at hq
   . rename_i l hl;split at hq
     . rename_i hlen;cases hq;obtain⟨S,cap,hf⟩:=(uM hl).fr (fun _=>rfl);exact fK eX (aH Io bc) (HU (T:=[]) rfl l _ cap hlen) (.cons hf (.cons (.same rfl) .nil)) rfl (.inr rfl)
     . cases hq
   . cases hq
 . cases hq
theorem xF:aQ Tryz.prog gl 112 iN:=by
 intro xs h r hq;unfold iN at hq;split at hq
 . cases hq;exact fK eX (aH Ip bc) (HV (T:=[]) rfl _) (dt.same rfl) rfl (.inl rfl)
 . cases hq
theorem xG:aQ Tryz.prog gl 109 iN:=by
 intro xs h r hq;unfold iN at hq;split at hq
 . cases hq;exact fK eX bc (HW (T:=[]) rfl _) (dt.same rfl) rfl (.inl rfl)
 . cases hq
theorem xH:aQ Tryz.prog gl 113 om:=by
 intro xs h r hq;unfold om at hq;split at hq
 . cases hq;have hk:∀(i b:Nat),([0,1,2,3]:List Nat)[i]? = some b->Rn [0,1,2,3] h.length (.map b) (.map (h.length+i)):=fun i b hi=>.map hi
   refine uw eX bc (Ia (T:=[]) rfl) (dt.nil (S:=[])) (ks:=[0,1,2,3]) (by decide) (.map (i:=0) rfl) rfl (fun i b o1 hi ho=>?_) (.inl rfl);match i,hi,ho with
   | 0,hi,ho=>
    cases hi;cases ho;refine⟨_,rfl,.map (.same rfl) ?_,.inl rfl⟩;refine .cons (.rW (.cons (.same rfl) (.cons (.same rfl) (.cons (.same rfl) (.cons (hk 1 1 rfl) (.cons (.same rfl) .nil)))))) (.cons (.rW (.cons (.same rfl) (.cons (.same rfl) (.cons (.same rfl) (.cons (hk 2 2 rfl) (.cons (.same rfl) .nil)))))) (.cons (.rW (.cons (.same rfl) (.cons (.same rfl) (.cons (.same rfl) (.cons (hk 3 3 rfl) (.cons (.same rfl) .nil)))))) .nil))
   | 1,hi,ho=>cases hi;cases ho;exact⟨_,rfl,.map (.same rfl) (.same rfl),.inl rfl⟩
   | 2,hi,ho=>cases hi;cases ho;exact⟨_,rfl,.map (.same rfl) (.same rfl),.inl rfl⟩
   | 3,hi,ho=>cases hi;cases ho;exact⟨_,rfl,.map (.same rfl) (.same rfl),.inl rfl⟩
 . cases hq
theorem xI:aQ Tryz.prog gl 95 xE:=EN
theorem oq:aQ Tryz.prog gl 36 fR:=by
 intro xs h r hq;unfold fR at hq;split at hq
 . cases hq;exact fK eX (aH xH (aH xF (aH vn (aH vo (aH xI bc))))) (Ic rfl _ _ _) (dt.same rfl) rfl (.inl rfl)
 . cases hq
theorem Iq:aQ Tryz.prog gl 110 (fun
 | [.str k],h=>some ⟨.int .i64 (fm k),h,[]⟩
 | _,_=>none):=by
 intro xs h r hq;dsimp only at hq;split at hq
 . cases hq;exact fK eX bc (Ie (T:=[]) rfl _) (dt.same rfl) rfl (.inl rfl)
 . cases hq
theorem Ir:aQ Tryz.prog gl 111 xD:=by
 intro xs h r hq;unfold xD at hq;split at hq
 . cases hq;exact fK eX bc (Ig (T:=[]) rfl _) (dt.same rfl) rfl (.inl rfl)
 . cases hq
theorem xJ:aQ Tryz.prog gl 35 fR:=by
 intro xs h r hq;unfold fR at hq;split at hq
 . cases hq;exact fK eX (aH xG (aH Iq (aH Ir bc))) (Ii rfl _ _ _) (dt.same rfl) rfl (.inl rfl)
 . cases hq
theorem Is:aQ Tryz.prog gl 34 rV:=by
 intro xs h r hq;unfold rV at hq;split at hq
 . cases hq;exact fK eX bc (Im (T:=[]) rfl _ _ _) (dt.same rfl) rfl (.inl rfl)
 . cases hq
theorem It:aQ Tryz.prog gl 18 rU:=by
 intro xs h r hq;unfold rU at hq;split at hq
 . exact EM _ _ _ hq
 . cases hq
open Go.Ab.aI
structure PR where
 k:ah
 v:Int
 r:ah
 e:Int
def PR.av (p:PR):AV:=.ar [cW p.k p.v p.r,.iV p.e]
def cK (e:Int):PR:=⟨[],0,[],e⟩
def dp (k:ah)(v:Int)(r:ah):PR:=if bM k v r≠0 then cK (bM k v r) else ⟨k,v,r,0⟩
def bj (s:ah):Int:=if s≠[]/\s.length<=9/\s.all bL=true then (bK 0 s:Nat) else -1
def bA (s:ah):Int:=if 1<s.length/\s[0]! = 48 then -1 else bj s
def bF (s:ah)(lo hi:Nat):Int:=if bj s<0\/s.length<lo\/hi<s.length then -1 else bj s*10^(hi-s.length)
def bx (i:Nat)(s:ah):Int:=if i=0 then bA s else if s.length=2 then bj s else -1
def bG:Nat->List ah->List Int
 | _,[]=>[]
 | i,s::l=>bx i s::bG (i+1) l
def eC (n:Nat):Nat->List Int->Bool
 | _,[]=>false
 | i,x::l=>decide (59<x/\(0<i\/n<3)) || eC n (i+1) l
def eh (l:List Int):Int:=l.foldl (fun a x=>60*a+x) 0
def fa (fs:List ah)(rest:Int):PR:=
 if 3<fs.length\/rest<0 then cK 25
 else if (bG 0 fs).any (fun x=>decide (x<0)) then cK 25
 else if eC fs.length 0 (bG 0 fs) then cK 3
 else dp cJ (10000*eh (bG 0 fs)+rest) []
def gI (s:ah):PR:=
 match (aT 46 s).2 with
 | none=>cK 25
 | some b=>if bA (aT 46 s).1<0\/bF b 2 3<0 then cK 25 else dp fA (1000*bA (aT 46 s).1+bF b 2 3) []
def gj (s:ah):PR:=
 match (aT 46 s).2 with
 | none=>cK 25
 | some b=>fa (aK 58 (aT 46 s).1) (bF b 1 4)
def dq (b:UInt8)(s:ah):Bool:=decide (s.getLast? = some b)
def cL (s:ah):PR:=
 if 24<s.length then cK 26
 else if s∈gi then ⟨gG,0,s,0⟩
 else if dq 112 s then (if bA s.dropLast<0 then cK 25 else dp gH (bA s.dropLast) [])
 else if dq 109 s then gI s.dropLast
 else gj s
theorem ot (s:ah):bj s = -1\/(bj s=(bK 0 s:Nat)/\bK 0 s<1000000000/\s≠[]/\s.length<=9/\s.all bL=true):=by
 unfold bj;split
 . rename_i h;refine .inr ⟨rfl,?_,h⟩;exact Nat.lt_of_lt_of_le (nM s h.2.2) (Nat.le_trans (Nat.pow_le_pow_right (by decide) h.2.1) (by decide))
 . exact .inl rfl
theorem ou (s:ah) : -1<=bj s/\bj s<1000000000:=by
 rcases ot s with h|⟨h,h2,_⟩ <;> rw[h] <;> omega
theorem rX (s:ah):bA s = -1\/(bA s=bj s/\0<=bj s/\hG s=true):=by
 unfold bA;split
 . exact .inl rfl
 . rename_i h;rcases ot s with e|⟨e,h2,h3,h4,h5⟩
   . exact .inl e
   . refine .inr ⟨rfl,by omega,?_⟩;unfold hG;rw[decide_eq_true h3,h5,Bool.true_and,Bool.true_and];by_cases h0:s[0]! = 48
     . have hl:¬1<s.length:=fun hl=>h ⟨hl,h0⟩
       match s,h3,hl,h0 with
       | [a],_,_,h0=>
        have:a=48:=h0;subst this;rfl
       | a::b::t,_,hl,_=>simp at hl
     . rw[decide_eq_true (show s[0]! ≠ 48 from h0),Bool.true_or]
theorem rY (s:ah) : -1<=bA s/\bA s<1000000000:=by
 have:=ou s;rcases rX s with h|⟨h,_⟩ <;> rw[h] <;> omega
theorem Iu (s:ah):decide (0<=bA s)=(decide (0<=bj s) && hG s):=by
 rcases rX s with h|⟨h,h2,h3⟩
 . rw[h];unfold bA at h;split at h
   . rename_i h1;have:hG s=false:=by
      unfold hG;have h2:¬s=[48]:=fun e=>by rw[e]at h1;exact absurd h1.1 (by decide)
      rw[decide_eq_false (show ¬(s[0]! ≠ 48) from fun h=>h h1.2),decide_eq_false h2];simp
     rw[this,Bool.and_false];rfl
   . rw[h];rfl
 . rw[h,h3,Bool.and_true]
def bB (s:ah):Int:=if 0<=bj s then bj s else 0
theorem rZ (s:ah):0<=bB s/\bB s<1000000000:=by
 have:=ou s;unfold bB;split <;> omega
theorem sa {s:ah}(h:0<=bA s):bB s=bA s:=by
 rcases rX s with e|⟨e,h2,_⟩
 . omega
 . rw[e,bB,if_pos h2]
def eK (s:ah)(hi:Nat):Int:=bB s*10^(hi-s.length)
theorem sb (s:ah)(lo hi:Nat):decide (0<=bF s lo hi)=(decide (0<=bj s) && !(decide (s.length<lo) || decide (hi<s.length))):=by
 unfold bF;split
 . rename_i h;have:¬(0:Int) <= -1:=by decide
   rw[decide_eq_false this];by_cases h0:0<=bj s
   . have h1:s.length<lo\/hi<s.length:=by omega
     rcases h1 with h1|h1 <;> simp[h1]
   . simp[h0]
 . rename_i h;have h0:0<=bj s:=by omega
   have h1:¬s.length<lo:=by omega
   have h2:¬hi<s.length:=by omega
   have:0<=bj s*10^(hi-s.length):=Int.mul_nonneg h0 (Int.pow_nonneg (by decide));simp[h0,h1,h2,this]
theorem lN {s:ah}{lo hi:Nat}(h:0<=bF s lo hi):bF s lo hi=eK s hi:=by
 have h1:=sb s lo hi;rw[decide_eq_true h,eq_comm,Bool.and_eq_true]at h1;have h2:0<=bj s:=of_decide_eq_true h1.1;unfold bF eK bB at *
 rw[if_pos h2];split
 . rename_i h3;rw[if_pos h3]at h;omega
 . rfl
theorem ov (s:ah){hi:Nat}(h:hi<=4):0<=eK s hi/\eK s hi<10000000000000:=by
 have:=rZ s;unfold eK;have h1:(10:Int)^(hi-s.length)<=10^4:=kf (by decide) (by omega);have h2:(0:Int)<=10^(hi-s.length):=Int.pow_nonneg (by decide);generalize (10:Int)^(hi-s.length)=p at *
 refine⟨Int.mul_nonneg this.1 h2,?_⟩;have:bB s*p<=bB s*10^4:=Int.mul_le_mul_of_nonneg_left h1 this.1;have e4:(10:Int)^4=10000:=rfl;omega
def kn (n:Nat):ah:=
 (
  if 3600<=n/10000 then bo (n/10000/3600)++[58]++bz 2 (n/10000/60%60)++[58]++bz 2 (n/10000%60)
  else if 60<=n/10000 then bo (n/10000/60)++[58]++bz 2 (n/10000%60) else bo (n/10000))++[46] ++
 (if n%100=0 then bz 2 (n%10000/100) else bz 4 (n%10000))
def ko (n:Nat):ah:=bo (n/1000)++[46]++(if n%10=0 then bz 2 (n%1000/10) else bz 3 (n%1000))++[109]
def lO (n:Nat):ah:=bo n++[112]
def ox (k:ah)(v:Int)(r:ah):ah:=if k=gG then r else if k=cJ then kn v.toNat else if k=fA then ko v.toNat else lO v.toNat
theorem Iv {n L:Nat}(h:n<10^L)(hL:0<L):List.replicate (L-(bo n).length) 48++bo n=bz L n:=by
 have hlen:=fP h hL;have hd:(List.replicate (L-(bo n).length) 48++bo n).all bL=true:=by
  rw[List.all_append,FC,Bool.and_true,List.all_eq_true];intro x hx;rw[(List.mem_replicate.1 hx).2];rfl
 have e:=FD hd;have hv:bK 0 (List.replicate (L-(bo n).length) 48++bo n)=n:=by
  have:∀k,bK 0 (List.replicate k 48)=0:=fun k=>by
   induction k with
   | zero=>rfl
   | succ k ih=>rw[List.replicate_succ,lE];exact ih
  rw[nK,this,FB]
 have hl:(List.replicate (L-(bo n).length) (48:UInt8)++bo n).length=L:=by
  rw[List.length_append,List.length_replicate];omega
 rw[hv,hl]at e;exact e.symm
set_option maxRecDepth 1000000
def xK:ao:=zR [⟨.p 1,.mv (.c (.str [])),none⟩] (zR [zm 3 0,⟨.l 4,.call (kF 119) [(.l 3),(kI 2)],none⟩,zw 1 4] (.ret))
theorem Iw:FT 118=some ⟨5,[0,2],[.var (.p 1)],xK⟩:=by kernel_rfl
def xL:ao:=zR [⟨.p 2,.mv (.c (.str [])),none⟩] (zR [zm 5 0,zm 6 1,z2 7 117 5 6,zw 2 7] (.ret))
theorem Ix:FT 119=some ⟨8,[0,1,4],[.var (.p 2)],xL⟩:=by kernel_rfl
def xM:ao:=zR [zi 1 0] (.seq (zR [zm 3 0,zL 4 3,zc 5 .gtr 4 1,zn 6 5,zg (zm 7 0) 6 true,⟨.l 8,.index (.l 7) (kI 0),some ((.l 6),true)⟩,⟨.l 9,.bin .eql (.l 8) (.c (.int .u8 (48))),some ((.l 6),true)⟩,zp 10 6 9] (.cond (.l 10) (zR [zi 1 (-1)] (.ret)) (.skip))) (zR [zm 11 0,z1 12 129 11,zw 1 12] (.ret)))
theorem Iy:FT 125=some ⟨13,[0,2],[.var (.p 1)],xM⟩:=by kernel_rfl
def xN:ao:=zR [zx 1 49 3 0,⟨.p 2,.alloc 49 [.str [],.iV (0),.str []],none⟩,zi 3 0] (.seq (zR [zt 5 3 1,z1 6 35 5,zw 4 6] (zR [zm 7 4,zc 8 .neq 7 0] (.cond (.l 8) (zR [⟨.l 9,.build [.str [],.iV (0),.str []] [],none⟩,zm 10 4,zs 3 2 9,zw 3 10] (.ret)) (.skip)))) (zR [zt 11 3 1,zs 3 2 11,zi 3 0] (.ret)))
theorem Iz:FT 126=some ⟨12,[0,1,2,3,4],[.cell 3 true (.p 2),.var (.p 3)],xN⟩:=by kernel_rfl
def lP:ao:=.seq (zR [zm 8 5,zm 9 0,zL 10 9,zb 11 .leq 8 10] (.cond (.l 11) (.skip) (.exit 0))) (.seq (.block 1 (zR [zm 14 5,zm 15 0,zL 16 15,zb 17 .eql 14 16,zn 18 17,zg (zm 19 0) 18 false,zg (zm 20 5) 18 false,⟨.l 21,.index (.l 19) (.l 20),some ((.l 18),false)⟩,zg (zm 22 1) 18 false,zg (zb 23 .eql 21 22) 18 false,zP 24 18 23] (.cond (.l 24) (zR [zm 25 3,zm 26 0,zm 27 4,zm 28 5,⟨.l 29,.slice .str 1 (.l 26) (some (.l 27)) (some (.l 28)) none,none⟩,⟨.l 30,.fp 9 1 1 [.str []] [(0,1,(.l 29))],none⟩,⟨.l 31,.append 9 1 16 (.l 25) (.l 30),none⟩,zw 3 31] (.region [zm 32 5,zc 33 .add 32 1,zw 4 33])) (.skip)))) (.region [zm 12 5,zc 13 .add 12 1,zw 5 13]))
def xO:ao:=zR [⟨.p 2,.mv (.c (.al)),none⟩] (zR [⟨.p 3,.mv (.c (.al)),none⟩] (zR [zi 4 0] (.seq (zR [zi 5 0] (.block 0 (.loop lP))) (zR [zm 34 3,zw 2 34] (.ret)))))
theorem IA:FT 127=some ⟨35,[0,1,4,5,6,7],[.var (.p 2)],xO⟩:=by kernel_rfl
def sc:ao:=.seq (zR [zm 27 5,zm 28 2,zb 29 .lss 27 28] (.cond (.l 29) (.skip) (.exit 0))) (.seq (.block 1 (.region [zm 32 4,⟨.l 33,.bin .mul (kI 10) (.l 32),none⟩,zw 4 33])) (.region [zm 30 5,zc 31 .add 30 1,zw 5 31]))
def xP:ao:=zR [zi 3 0] (zR [zm 9 0,z1 10 129 9,zw 4 10] (.seq (zR [zm 11 0,zL 12 11,zm 13 1,zb 14 .lss 12 13,zn 15 14,zg (zm 16 0) 15 false,zg (zL 17 16) 15 false,zg (zm 18 2) 15 false,zg (zb 19 .gtr 17 18) 15 false,zP 20 15 19,zn 21 20,zg (zm 22 4) 21 false,zg (zc 23 .lss 22 0) 21 false,zP 24 21 23] (.cond (.l 24) (zR [zi 3 (-1)] (.ret)) (.skip))) (.seq (zR [zm 25 0,zL 26 25,zw 5 26] (.block 0 (.loop sc))) (zR [zm 34 4,zw 3 34] (.ret)))))
theorem IB:FT 128=some ⟨35,[0,1,2,6,7,8],[.var (.p 3)],xP⟩:=by kernel_rfl
def oy:ao:=.seq (zR [zm 13 3,zm 14 0,zL 15 14,zb 16 .lss 13 15] (.cond (.l 16) (.skip) (.exit 0))) (.seq (.block 1 (.seq (zR [zm 19 0,zm 20 3,⟨.l 21,.index (.l 19) (.l 20),none⟩,⟨.l 22,.bin .lss (.l 21) (.c (.int .u8 (48))),none⟩,zn 23 22,zg (zm 24 0) 23 false,zg (zm 25 3) 23 false,⟨.l 26,.index (.l 24) (.l 25),some ((.l 23),false)⟩,⟨.l 27,.bin .gtr (.l 26) (.c (.int .u8 (57))),some ((.l 23),false)⟩,zP 28 23 27] (.cond (.l 28) (zR [zi 1 (-1)] (.ret)) (.skip))) (.region [zm 29 2,⟨.l 30,.bin .mul (kI 10) (.l 29),none⟩,zm 31 0,zm 32 3,⟨.l 33,.index (.l 31) (.l 32),none⟩,⟨.l 34,.bin .sub (.l 33) (.c (.int .u8 (48))),none⟩,⟨.l 35,.dh .i64 (.l 34),none⟩,zb 36 .add 30 35,zw 2 36]))) (.region [zm 17 3,zc 18 .add 17 1,zw 3 18]))
def xQ:ao:=zR [zi 1 0] (.seq (zR [zm 5 0,zL 6 5,zc 7 .eql 6 0,zn 8 7,zg (zm 9 0) 8 false,zg (zL 10 9) 8 false,zg (zc 11 .gtr 10 9) 8 false,zP 12 8 11] (.cond (.l 12) (zR [zi 1 (-1)] (.ret)) (.skip))) (zR [zi 2 0] (.seq (zR [zi 3 0] (.block 0 (.loop oy))) (zR [zm 37 2,zw 1 37] (.ret)))))
theorem IC:FT 129=some ⟨38,[0,2,3,4],[.var (.p 1)],xQ⟩:=by kernel_rfl
def xR:ao:=zR [zx 1 49 3 0,⟨.p 2,.mv (.c (.str [])),none⟩] (.seq (zR [zf 6 0 1,⟨.p 6,.load 1 false (.l 6),none⟩] (.block 0 (zR [⟨.l 9,.bin .eql (.p 6) (.c (.str zD11)),none⟩,zn 8 9] (.cond (.l 8) (zR [zf 10 2 1,zd 11 1 10,zw 2 11] (.ret)) (zR [⟨.l 13,.bin .eql (.p 6) (.c (.str zD14)),none⟩,zn 12 13] (.cond (.l 12) (zR [zf 14 1 1,zd 15 1 14,⟨.l 16,.call (kF 117) [(.l 15),(kI 1)],none⟩,⟨.l 17,.bin .add (.l 16) (.c (.str [112])),none⟩,zw 2 17] (.ret)) (zR [⟨.l 19,.bin .eql (.p 6) (.c (.str zD17)),none⟩,zn 18 19] (.cond (.l 18) (zR [zf 20 1 1,zd 21 1 20,zc 22 .quo 21 1000,⟨.l 23,.call (kF 117) [(.l 22),(kI 1)],none⟩,⟨.l 24,.bin .add (.l 23) (.c (.str [46])),none⟩,zw 3 24] (.seq (zR [zf 25 1 1,zd 26 1 25,zc 27 .rem 26 10,zc 28 .eql 27 0] (.cond (.l 28) (zR [zm 29 3,zf 30 1 1,zd 31 1 30,zc 32 .rem 31 1000,zc 33 .quo 32 10,z1 34 118 33,zb 35 .add 29 34,⟨.l 36,.bin .add (.l 35) (.c (.str [109])),none⟩,zw 2 36] (.ret)) (.skip))) (zR [zm 37 3,zf 38 1 1,zd 39 1 38,zc 40 .rem 39 1000,⟨.l 41,.call (kF 119) [(.l 40),(kI 3)],none⟩,zb 42 .add 37 41,⟨.l 43,.bin .add (.l 42) (.c (.str [109])),none⟩,zw 2 43] (.ret)))) (.skip))))))))) (zR [zf 44 1 1,zd 45 1 44,zc 46 .quo 45 10000,zw 4 46] (zR [zf 47 1 1,zd 48 1 47,zc 49 .rem 48 10000,⟨.l 50,.call (kF 119) [(.l 49),(kI 4)],none⟩,⟨.l 51,.bin .add (.c (.str [46])) (.l 50),none⟩,zw 5 51] (.seq (zR [zf 52 1 1,zd 53 1 52,zc 54 .rem 53 100,zc 55 .eql 54 0] (.cond (.l 55) (.region [zf 56 1 1,zd 57 1 56,zc 58 .rem 57 10000,zc 59 .quo 58 100,z1 60 118 59,⟨.l 61,.bin .add (.c (.str [46])) (.l 60),none⟩,zw 5 61]) (.skip))) (.seq (zR [zm 62 4,zc 63 .lss 62 60] (.cond (.l 63) (zR [zm 64 4,⟨.l 65,.call (kF 117) [(.l 64),(kI 1)],none⟩,zm 66 5,zb 67 .add 65 66,zw 2 67] (.ret)) (.skip))) (.seq (zR [zm 68 4,zc 69 .lss 68 3600] (.cond (.l 69) (zR [zm 70 4,zc 71 .quo 70 60,⟨.l 72,.call (kF 117) [(.l 71),(kI 1)],none⟩,⟨.l 73,.bin .add (.l 72) (.c (.str [58])),none⟩,zm 74 4,zc 75 .rem 74 60,z1 76 118 75,zb 77 .add 73 76,zm 78 5,zb 79 .add 77 78,zw 2 79] (.ret)) (.skip))) (zR [zm 80 4,zc 81 .quo 80 3600,⟨.l 82,.call (kF 117) [(.l 81),(kI 1)],none⟩,⟨.l 83,.bin .add (.l 82) (.c (.str [58])),none⟩,zm 84 4,zc 85 .quo 84 60,zc 86 .rem 85 60,z1 87 118 86,zb 88 .add 83 87,⟨.l 89,.bin .add (.l 88) (.c (.str [58])),none⟩,zm 90 4,zc 91 .rem 90 60,z1 92 118 91,zb 93 .add 89 92,zm 94 5,zb 95 .add 93 94,zw 2 95] (.ret))))))))
theorem ID:FT 45=some ⟨96,[0,1,2,3,4,5,7],[.var (.p 2)],xR⟩:=by kernel_rfl
def gJ:ao:=.seq (zR [zm 108 13,zm 109 9,zl 110 109,zb 111 .lss 108 110] (.cond (.l 111) (.skip) (.exit 0))) (.seq (.block 1 (zR [zm 114 9,⟨.l 115,.dE none 1 (.l 114) (kI 0),none⟩,zd 116 1 115,z1 117 125 116,zw 14 117] (.seq (zR [zm 118 13,zc 119 .gtr 118 0] (.cond (.l 119) (zR [zm 120 9,zm 121 13,za 122 1 120 121,zd 123 1 122,z1 124 129 123,zw 14 124] (zR [zm 125 9,zm 126 13,za 127 1 125 126,zd 128 1 127,zL 129 128,zc 130 .neq 129 2] (.cond (.l 130) (zR [zt 131 3 3,zs 3 1 131,zi 2 25] (.ret)) (.skip)))) (.skip))) (.seq (zR [zm 132 14,zc 133 .lss 132 0] (.cond (.l 133) (zR [zt 134 3 3,zs 3 1 134,zi 2 25] (.ret)) (.skip))) (zR [zm 135 12,zn 136 135,zg (zm 137 14) 136 false,zg (zc 138 .gtr 137 59) 136 false,zg (zn 139 138) 136 false,zg (zm 140 13) 139 true,zg (zc 141 .gtr 140 0) 139 true,zg (zn 142 141) 139 true,zg (zm 143 9) 142 false,zg (zl 144 143) 142 false,zg (zc 145 .lss 144 3) 142 false,zg (zP 146 142 145) 139 true,zg (zp 147 139 146) 136 false,zP 148 136 147,zw 12 148] (.region [zm 149 11,⟨.l 150,.bin .mul (kI 60) (.l 149),none⟩,zm 151 14,zb 152 .add 150 151,zw 11 152])))))) (.region [zm 112 13,zc 113 .add 112 1,zw 13 113]))
def xS:ao:=zR [⟨.p 1,.alloc 49 [.str [],.iV (0),.str []],none⟩,zi 2 0] (zR [⟨.p 3,.alloc 49 [.str [],.iV (0),.str []],none⟩] (.seq (zR [zm 16 0,zL 17 16,zc 18 .gtr 17 24] (.cond (.l 18) (zR [zt 19 3 3,zs 3 1 19,zi 2 26] (.ret)) (.skip))) (.seq (zR [zm 20 0,z1 21 109 20] (.cond (.l 21) (zR [zm 22 0,⟨.l 23,.build [.str [],.iV (0),.str []] [(0,1,(.c (.str zD11))),(2,1,(.l 22))],none⟩,zs 3 1 23,zi 2 0] (.ret)) (.skip))) (.seq (zR [zm 24 0,zL 25 24,zc 26 .eql 25 0] (.cond (.l 26) (zR [zt 27 3 3,zs 3 1 27,zi 2 25] (.ret)) (.skip))) (zR [⟨.l 28,.build [.str [],.iV (0),.str []] [(0,1,(.c (.str zD10)))],none⟩,⟨.p 4,.alloc 49 [.str [],.iV (0),.str []],none⟩,zs 3 4 28] (zR [zm 29 0,zm 30 0,zL 31 30,zc 32 .sub 31 1,⟨.l 33,.index (.l 29) (.l 32),none⟩,zw 5 33] (.seq (zR [zm 34 5,⟨.l 35,.bin .eql (.l 34) (.c (.int .u8 (112))),none⟩] (.cond (.l 35) (zR [zm 36 0,zm 37 0,zL 38 37,zc 39 .sub 38 1,⟨.l 40,.slice .str 1 (.l 36) none (some (.l 39)) none,none⟩,z1 41 125 40,⟨.l 42,.build [.str [],.iV (0),.str []] [(0,1,(.c (.str zD14))),(1,1,(.l 41))],none⟩,zs 3 4 42] (.seq (zR [zf 43 1 4,zd 44 1 43,zc 45 .lss 44 0] (.cond (.l 45) (zR [zt 46 3 3,zs 3 1 46,zi 2 25] (.ret)) (.skip))) (zR [zt 47 3 4,z1 48 126 47,ze 49 0 48,ze 50 1 48,zs 3 1 49,zw 2 50] (.ret)))) (.skip))) (.seq (zR [zm 51 5,⟨.l 52,.bin .eql (.l 51) (.c (.int .u8 (109))),none⟩] (.cond (.l 52) (zR [zf 53 0 4,⟨.no,.store 1 (.l 53) (.c (.str zD17)),none⟩] (.region [zm 54 0,zm 55 0,zL 56 55,zc 57 .sub 56 1,⟨.l 58,.slice .str 1 (.l 54) none (some (.l 57)) none,none⟩,zw 0 58])) (.skip))) (zR [zm 59 0,⟨.l 60,.call (kF 127) [(.l 59),(.c (.int .u8 (46)))],none⟩,zw 6 60] (.seq (zR [zm 61 6,zl 62 61,zc 63 .neq 62 2] (.cond (.l 63) (zR [zt 64 3 3,zs 3 1 64,zi 2 25] (.ret)) (.skip))) (.seq (zR [zf 65 0 4,zd 66 1 65,⟨.l 67,.bin .eql (.l 66) (.c (.str zD17)),none⟩] (.cond (.l 67) (.seq (.draw [(zm 68 6,[]),(⟨.l 69,.dE none 1 (.l 68) (kI 0),none⟩,[]),(zd 70 1 69,[]),(z1 71 125 70,[]),(zm 72 6,[0,1,2,3]),(⟨.l 73,.dE none 1 (.l 72) (kI 1),none⟩,[0,1,2,3]),(zd 74 1 73,[0,1,2,3]),(⟨.l 75,.call (kF 128) [(.l 74),(kI 2),(kI 3)],none⟩,[]),(zw 7 71,[]),(zw 8 75,[])]) (.seq (zR [zm 76 7,zc 77 .lss 76 0,zn 78 77,zg (zm 79 8) 78 false,zg (zc 80 .lss 79 0) 78 false,zP 81 78 80] (.cond (.l 81) (zR [zt 82 3 3,zs 3 1 82,zi 2 25] (.ret)) (.skip))) (zR [zm 83 7,⟨.l 84,.bin .mul (kI 1000) (.l 83),none⟩,zm 85 8,zb 86 .add 84 85,zf 87 1 4,zS 1 87 86] (zR [zt 88 3 4,z1 89 126 88,ze 90 0 89,ze 91 1 89,zs 3 1 90,zw 2 91] (.ret))))) (.skip))) (zR [zm 92 6,⟨.l 93,.dE none 1 (.l 92) (kI 0),none⟩,zd 94 1 93,⟨.l 95,.call (kF 127) [(.l 94),(.c (.int .u8 (58)))],none⟩,zw 9 95] (zR [zm 96 6,⟨.l 97,.dE none 1 (.l 96) (kI 1),none⟩,zd 98 1 97,⟨.l 99,.call (kF 128) [(.l 98),(kI 1),(kI 4)],none⟩,zw 10 99] (.seq (zR [zm 100 9,zl 101 100,zc 102 .gtr 101 3,zn 103 102,zg (zm 104 10) 103 false,zg (zc 105 .lss 104 0) 103 false,zP 106 103 105] (.cond (.l 106) (zR [zt 107 3 3,zs 3 1 107,zi 2 25] (.ret)) (.skip))) (zR [zi 11 0,⟨.p 12,.mv (.c (.bool false)),none⟩] (.seq (zR [zi 13 0] (.block 0 (.loop gJ))) (.seq (zR [zm 153 12] (.cond (.l 153) (zR [zt 154 3 3,zs 3 1 154,zi 2 3] (.ret)) (.skip))) (zR [zm 155 11,⟨.l 156,.bin .mul (kI 10000) (.l 155),none⟩,zm 157 10,zb 158 .add 156 157,zf 159 1 4,zS 1 159 158] (zR [zt 160 3 4,z1 161 126 160,ze 162 0 161,ze 163 1 161,zs 3 1 162,zw 2 163] (.ret))))))))))))))))))))
theorem IE:FT 47=some ⟨164,[0,2,3,4,5,6,7,8,9,10,11,12,13,14,15],[.cell 3 true (.p 1),.var (.p 2)],xS⟩:=by kernel_rfl
def b6:ao:=zR [zx 2 49 3 0,⟨.p 3,.mv (.c (.bool false)),none⟩] (.seq (zR [⟨.l 13,.call (kF 18) [],none⟩,zu 14 13,zn 15 14,zg (zt 16 3 2) 15 false,zg (z1 17 34 16) 15 false,zg (zu 18 17) 15 false,zP 19 15 18,zn 20 19,zg (zm 21 1) 20 false,zg (zL 22 21) 20 false,zg (zc 23 .gtr 22 60) 20 false,zP 24 20 23] (.cond (.l 24) (zR [⟨.l 25,.call (kF 18) [],none⟩,zw 3 25] (.ret)) (.skip))) (zR [zt 27 3 2,z1 28 44 27,zn 26 28,ze 29 0 26,ze 30 1 26,zw 4 29,zw 5 30] (zR [zt 31 3 2,z1 32 35 31,zw 6 32] (zR [⟨.p 7,.mv (.c (.str [])),none⟩] (.seq (zR [zm 33 6,zc 34 .eql 33 0] (.cond (.l 34) (.region [zt 35 3 2,z1 36 45 35,zw 7 36]) (.skip))) (zR [zm 38 1,z1 39 46 38,zn 37 39,ze 40 0 37,ze 41 1 37,⟨.p 8,.alloc 49 [.str [],.iV (0),.str []],none⟩,zs 3 8 40,zw 9 41] (zR [zm 43 1,z1 44 47 43,zn 42 44,ze 45 0 42,ze 46 1 42,⟨.p 10,.alloc 49 [.str [],.iV (0),.str []],none⟩,zs 3 10 45,zw 11 46] (zR [zm 47 4,zm 48 7,zb 49 .eql 47 48,zn 50 49,zg (zm 51 5) 50 true,zg (zm 52 6) 50 true,zg (zb 53 .eql 51 52) 50 true,zp 54 50 53,zn 55 54,zg (zt 56 3 8) 55 true,zg (zt 57 3 10) 55 true,⟨.l 58,.eq false (.jC [(0,1,false,.str),(1,1,false,.int),(2,1,false,.str)]) (.l 56) (.l 57),some ((.l 55),true)⟩,zp 59 55 58,zn 60 59,zg (zm 61 9) 60 true,zg (zm 62 11) 60 true,zg (zb 63 .eql 61 62) 60 true,zp 64 60 63,zw 3 64] (.ret)))))))))
theorem IF:FT 6=some ⟨65,[0,1,2,4,5,6,7,8,9,10,11,12],[.var (.p 3)],b6⟩:=by kernel_rfl
def sd:ao:=.seq (zR [zm 6 0,zc 7 .gtr 6 0,zn 8 7,zg (zm 9 3) 8 false,zg (zL 10 9) 8 false,zg (zm 11 1) 8 false,zg (zb 12 .lss 10 11) 8 false,zP 13 8 12] (.cond (.l 13) (.skip) (.exit 0))) (.block 1 (zR [zm 14 0,zc 15 .rem 14 10,zm 16 0,zc 17 .rem 16 10,zc 18 .add 17 1,⟨.l 19,.slice .str 1 (.c (.str zD9)) (some (.l 15)) (some (.l 18)) none,none⟩,zm 20 3,zb 21 .add 19 20,zw 3 21] (.region [zm 22 0,zc 23 .quo 22 10,zw 0 23])))
def xT:ao:=zR [⟨.p 2,.mv (.c (.str [])),none⟩] (zR [⟨.p 3,.mv (.c (.str [])),none⟩] (.seq (.block 0 (.loop sd)) (zR [zm 24 3,zw 2 24] (.ret))))
theorem IG:FT 117=some ⟨25,[0,1,4,5],[.var (.p 2)],xT⟩:=by kernel_rfl
end Go.Ab.Ch1
