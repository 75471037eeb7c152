/-
  Own work: texts: the first place of a byte, cuts.
-/
import Derived.Test.YtcjphdmkgmkabaaGreatDoorLib4
import Derived.Test.YtcjphdmkgmkabaaGreatDoorLib1
import Derived.Test.YtcjphdmkgmkabaaGreatDoorLib2
import Derived.Lib.Bytealg
import Derived.Test.YtcjphdmkgmkabaaGreatDoorCh1Base
import Derived.Test.YtcjphdmkgmkabaaGreatDoorLib3
set_option maxHeartbeats 8000000
namespace Go.Ab.Ch1
open Go.Ab.bz
variable {M:aO} {cap:Option Nat}
theorem WO.Wo {t esz n0:Nat}{x i:aN}{l:List aU}{pe:List AV}{lo:List (Nat×AV)}{hp:ae}{df wr:List Nat}{b o:Nat}{k:IntKind}{n:Int}{Q:aq->Prop}(hx:(St.mk pe lo hp df).aa x=some (.ptr b o))(hy:(St.mk pe lo hp df).aa i=some (.int k n))(hb:0<=n/\n<n0)
 (h:WO M l ⟨⟨pe,(t,.ptr b (o+n.toNat*esz))::lo,hp,df⟩,wr⟩ Q):WO M (⟨.l t,.dw (some n0) esz x i,none⟩::l) ⟨⟨pe,lo,hp,df⟩,wr⟩ Q:=
 WO.pl (v:=.ptr b (o+n.toNat*esz)) (by simp[aV,hx,hy,mD,hb]) rfl h
theorem WO.Wp {t:Nat}{x y:aN}{l:List aU}{pe:List AV}{lo:List (Nat×AV)}{hp:ae}{df wr:List Nat}{a b:Int}{Q:aq->Prop}(hx:(St.mk pe lo hp df).aa x=some (.int .u8 a))(hy:(St.mk pe lo hp df).aa y=some (.int .u8 b))(hr:0<=a-b/\a-b<256)
 (h:WO M l ⟨⟨pe,(t,.int .u8 (a-b))::lo,hp,df⟩,wr⟩ Q):WO M (⟨.l t,.bin .sub x y,none⟩::l) ⟨⟨pe,lo,hp,df⟩,wr⟩ Q:=
 WO.pl (v:=.int .u8 (a-b)) (by
  have:IntKind.u8.wrap (a-b)=a-b:=by simp only[IntKind.wrap,IntKind.bits,IntKind.signed];simp;omega
  simp only[aV,hx,hy,cE,if_true,this]) rfl h
def hasB (c:Int)(s:al):Bool:=s.any (fun b=>decide ((b.toNat:Int)=c))
theorem Wq (s:al)(b:UInt8):decide (0<=firstIdx ⟨s.toArray⟩ b)=hasB b.toNat s:=by
 unfold firstIdx hasB
 have hsz:(ByteArray.mk s.toArray).size=s.length:=by simp[ByteArray.size]
 have hg:∀i,i<s.length->(ByteArray.mk s.toArray)[i]! = s[i]! := fun i hi=>by
  have h1:i<(ByteArray.mk s.toArray).size:=by rw[hsz];exact hi
  rw[getElem!_pos (ByteArray.mk s.toArray) i h1,getElem!_pos s i hi]
  rfl
 cases hf:(List.range (ByteArray.mk s.toArray).size).find? fun i=>(ByteArray.mk s.toArray)[i]! == b with
 | some i=>
  have h1:=List.find?_some hf
  have h2:=List.mem_of_find?_eq_some hf
  rw[List.mem_range,hsz]at h2
  rw[hg i h2]at h1
  symm
  simp only[decide_eq_true (show (0:Int)<=(i:Int) by omega)]
  rw[List.any_eq_true]
  refine⟨s[i],List.getElem_mem h2,?_⟩
  rw[getElem!_pos s i h2]at h1
  simp at h1
  simp[h1]
 | none=>
  rw[List.find?_eq_none]at hf
  symm
  rw[show decide ((0:Int) <= -1)=false from rfl]
  rw[List.any_eq_false]
  intro x hx
  obtain⟨i,hi,rfl⟩:=List.mem_iff_getElem.1 hx
  have:=hf i (by rw[List.mem_range,hsz];exact hi)
  rw[hg i hi,getElem!_pos s i hi]at this
  simp at this
  simp only[decide_eq_true_eq]
  intro e
  exact this (UInt8.toNat_inj.1 (by omega))
structure sA (M:aO):Prop where
 ft:M.FT=FT
 JB:∀ars h,M.ext 256 ars h=none
 JC:∀ars h,M.ext 282 ars h=none
 JD:∀(s:al) (c:Int) h,M.ext 312 [.str s,.int .u8 c] h=some ⟨.iV (firstIdx ⟨s.toArray⟩ c.toNat.toUInt8),h,[]⟩
theorem Wr (b:UInt8):((b.toNat:Int)).toNat.toUInt8=b:=by simp
theorem Ws (C:sA M)(s:al)(b:UInt8)(H:ae):CT M (ir 282) [.str s,.int .u8 b.toNat] H ⟨.iV (firstIdx ⟨s.toArray⟩ b),H,[]⟩:=by
 have hc:=C.JD s b.toNat H
 rw[Wr]at hc
 refine CT.run (C.JC _ _) (mW (by rw[C.ft];exact Wd) (by simp) ?_)
 simp only[List.nil_append,List.append_nil]
 unfold Js
 simp only[enter]
 repeat' first|apply W.seq|apply ab|apply W.region|apply WO.nil|apply W.ret|(apply WO.ay;rfl;rfl;first|exact hc)|(apply WO.pl;rfl;rfl)|(apply WO.pp;rfl;rfl)
 exact⟨.inr rfl,rfl,rfl,rfl,_,rfl,rfl⟩
theorem Wt (C:sA M)(s:al)(b:UInt8)(H:ae):CT M (ir 256) [.str s,.str [b]] H ⟨.iV (firstIdx ⟨s.toArray⟩ b),H,[]⟩:=by
 have hc:=Ws C s b H
 have hn0:¬(([b]:al).length:Int)=0:=by simp
 have hn:(([b]:al).length:Int)=1:=rfl
 refine CT.run (C.JB _ _) (mW (by rw[C.ft];exact Wc) (by simp) ?_)
 simp only[List.nil_append,List.append_nil]
 unfold Jr
 simp only[enter]
 by_cases hs:([b]:al)=s
 . subst hs
   have e:firstIdx ⟨([b]:al).toArray⟩ b=0:=by
    have h1:=Wq [b] b
    have h2:hasB b.toNat [b]=true:=by simp[hasB]
    rw[h2,decide_eq_true_eq]at h1
    unfold firstIdx at h1 ⊢
    rw[show (ByteArray.mk ([b]:al).toArray).size=1 from rfl]at h1 ⊢
    rw[show List.range 1=[0] from rfl]at h1 ⊢
    have h3:((ByteArray.mk ([b]:al).toArray)[0]! == b)=true:=by
     cases hq:((ByteArray.mk ([b]:al).toArray)[0]! == b) with
     | true=>rfl
     | false=>simp[hq]at h1
    simp only[List.find?_cons,h3]
    rfl
   rw[e]
   repeat' first|(apply WO.dU;rfl;rfl;all_goals first|(intro h;exact absurd rfl h)|intro _)|apply W.seq|apply ab|apply W.region|apply WO.nil|apply W.block|apply W.ret|apply ba|apply cN|(apply W.ax;rfl)|(apply WO.gF;rfl)|(apply WO.eql;rfl;rfl)|(apply WO.bx;rfl;rfl)|(apply WO.pl;rfl;rfl)|(apply WO.pp;rfl;rfl)|(intro _;omega)|intro _
   all_goals exact⟨.inr rfl,rfl,rfl,rfl,_,rfl,rfl⟩
 . repeat' first|(apply WO.dU;rfl;rfl;all_goals first|(intro h;exact absurd h hs)|intro _)|apply W.seq|apply ab|apply W.region|apply WO.nil|apply W.block|apply W.ret|apply ba|apply cN|(apply W.ax;rfl)|(apply W.aw;rfl)|(apply WO.gF;rfl)|(apply WO.eql;rfl;rfl)|(apply WO.bx;rfl;rfl)|(apply WO.ct;rfl;rfl;first|exact hc)|(apply WO.idx;rfl;rfl;omega)|(apply WO.pl;rfl;rfl)|(apply WO.pp;rfl;rfl)|(intro _;omega)|intro _
   all_goals exact⟨.inr rfl,rfl,rfl,rfl,_,rfl,rfl⟩
def bI (b:UInt8):al->al×Option al
 | []=>([],none)
 | c::s=>if c=b then ([],some s) else (c::(bI b s).1,(bI b s).2)
def mj (b:UInt8):al->List al
 | []=>[[]]
 | c::s=>if c=b then []::mj b s else match mj b s with
   | []=>[[c]]
   | x::l=>(c::x)::l
def kM (b:UInt8):al->Nat
 | []=>0
 | c::s=>(if c=b then 1 else 0)+kM b s
theorem nM {b:UInt8}:∀{s:al},(bI b s).2=none->(bI b s).1=s/\mj b s=[s]/\kM b s=0
 | [],_=>⟨rfl,rfl,rfl⟩
 | c::s,h=>by
  rw[bI]at h ⊢
  by_cases hc:c=b
  . rw[if_pos hc]at h;cases h
  . rw[if_neg hc]at h ⊢
    obtain⟨h1,h2,h3⟩:=nM (s:=s) h
    refine⟨by simp only;rw[h1],?_,?_⟩
    . rw[mj,if_neg hc,h2]
    . rw[kM,if_neg hc,h3]
theorem pW {b:UInt8}:∀{s y:al},(bI b s).2=some y->s=(bI b s).1++b::y/\mj b s=(bI b s).1::mj b y/\kM b s=kM b y+1/\b∉(bI b s).1
 | [],y,h=>by cases h
 | c::s,y,h=>by
  rw[bI]at h ⊢
  by_cases hc:c=b
  . rw[if_pos hc]at h ⊢
    obtain rfl:s=y:=Option.some.inj h
    subst hc
    refine⟨rfl,?_,?_,by simp⟩
    . rw[mj,if_pos rfl]
    . rw[kM,if_pos rfl];omega
  . rw[if_neg hc]at h ⊢
    obtain⟨h1,h2,h3,h4⟩:=pW (s:=s) h
    refine⟨by simp only[List.cons_append];rw[←h1],?_,?_,?_⟩
    . rw[mj,if_neg hc,h2]
    . rw[kM,if_neg hc,h3];omega
    . simp only[List.mem_cons,not_or]
      exact⟨fun e=>hc e.symm,h4⟩
theorem Wu (s:al)(b:UInt8):firstIdx ⟨s.toArray⟩ b=if (bI b s).2=none then -1 else ((bI b s).1.length:Int):=by
 have hsz:(ByteArray.mk s.toArray).size=s.length:=by simp[ByteArray.size]
 have hg:∀i,i<s.length->(ByteArray.mk s.toArray)[i]! = s[i]! := fun i hi=>by
  have h1:i<(ByteArray.mk s.toArray).size:=by rw[hsz];exact hi
  rw[getElem!_pos (ByteArray.mk s.toArray) i h1,getElem!_pos s i hi]
  rfl
 unfold firstIdx
 cases hy:(bI b s).2 with
 | none=>
  rw[if_pos rfl]
  cases hf:(List.range (ByteArray.mk s.toArray).size).find? fun i=>(ByteArray.mk s.toArray)[i]! == b with
  | none=>rfl
  | some i=>
   exfalso
   have h1:=List.find?_some hf
   have h2:=List.mem_of_find?_eq_some hf
   rw[List.mem_range,hsz]at h2
   rw[hg i h2,getElem!_pos s i h2]at h1
   have hm:b∈s:=by
    have:s[i]=b:=by simpa using h1
    rw[←this];exact List.getElem_mem h2
   have h0:=(nM hy).2.2
   have:∀s:al,b∈s->0<kM b s:=fun s=>by
    induction s with
    | nil=>intro h;cases h
    | cons c s ih=>
     intro h
     rw[kM]
     rcases List.mem_cons.1 h with rfl|h
     . rw[if_pos rfl];omega
     . have:=ih h;omega
   have:=this s hm
   omega
 | some y=>
  rw[if_neg (by simp)]
  obtain⟨h1,_,_,h4⟩:=pW hy
  generalize (bI b s).1=x at h1 h4 ⊢
  have hl:x.length<s.length:=by rw[h1];simp
  have hf:((List.range (ByteArray.mk s.toArray).size).find? fun i=>(ByteArray.mk s.toArray)[i]! == b)=some x.length:=by
   rw[hsz,List.find?_range_eq_some]
   refine⟨?_,by simpa using hl,fun j hj=>?_⟩
   . rw[hg _ hl,getElem!_pos s _ hl]
     have:s[x.length]? = some b:=by rw[h1];simp
     rw[List.getElem?_eq_getElem hl]at this
     simp[Option.some.inj this]
   . rw[hg j (by omega),getElem!_pos s j (by omega)]
     have:s[j]? = x[j]? := by rw[h1,List.getElem?_append_left hj]
     rw[List.getElem?_eq_getElem (by omega:j<s.length),List.getElem?_eq_getElem hj]at this
     rw[Option.some.inj this]
     have hne:x[j]≠b:=fun e=>h4 (by rw[←e];exact List.getElem_mem hj)
     simp[hne]
  rw[hf]
def ie (b:UInt8)(s:al):AV:=.ao [.str (bI b s).1,.str ((bI b s).2.getD []),.bool (bI b s).2.isSome]
theorem sB {b:UInt8}{s y:al}(h:(bI b s).2=some y):s.length=(bI b s).1.length+1+y.length:=by
 have:=congrArg List.length (pW h).1
 simp only[List.length_append,List.length_cons]at this
 omega
theorem BZ {b:UInt8}{s y:al}(h:(bI b s).2=some y):s.take (bI b s).1.length=(bI b s).1:=by
 have e:=(pW h).1
 generalize (bI b s).1=x at e ⊢
 rw[e];simp
theorem JE {b:UInt8}{s y:al}(h:(bI b s).2=some y):s.drop ((bI b s).1.length+1)=y:=by
 have e:=(pW h).1
 generalize (bI b s).1=x at e ⊢
 rw[e];simp
theorem Wv (n208:∀ars h,M.ext 208 ars h=none)(C:sA M)(s:al)(b:UInt8)(hl:s.length<1000000)(H:ae):CT M (ir 208) [.str s,.str [b]] H ⟨ie b s,H,[]⟩:=by
 have hc:=Wt C s b H
 have hn1:([b]:al).length=1:=rfl
 rw[Wu]at hc
 refine CT.run (n208 _ _) (mW (by rw[C.ft];exact Wa) (by simp) ?_)
 simp only[List.nil_append,List.append_nil]
 cases hy:(bI b s).2 with
 | none=>
  rw[if_pos hy]at hc
  have h1:=(nM hy).1
  unfold BX
  simp only[enter]
  repeat' first|apply W.seq|apply ab|apply W.region|apply WO.nil|apply W.ret|apply W.skip|(apply W.aw;rfl)|(apply WO.geq;rfl;rfl)|(apply WO.ct;rfl;rfl;first|exact hc)|(apply WO.pl;rfl;rfl)|(apply WO.pp;rfl;rfl)|(intro _;omega)|intro _
  refine⟨.inr rfl,rfl,rfl,rfl,_,rfl,?_⟩
  simp only[ie,hy,h1]
  rfl
 | some y=>
  rw[if_neg (by rw[hy];simp)]at hc
  have h1:=sB hy
  have h2:=BZ hy
  have h3:=JE hy
  generalize hx:(bI b s).1=x at h1 h2 h3 hc
  unfold BX
  simp only[enter]
  repeat' first|(apply WO.ig (r:=x);rfl;rfl;omega;(rw[Int.toNat_natCast];exact h2))|(apply WO.gi (r:=y);rfl;rfl;omega;(rw[show ((x.length:Int)+(([b]:al).length:Int)).toNat=x.length+1 by omega];exact h3))|apply W.seq|apply ab|apply W.region|apply WO.nil|apply W.ret|apply ba|(apply W.fH;rfl)|(apply W.ax;rfl)|(apply WO.geq;rfl;rfl)|(apply WO.add;rfl;rfl;omega)|(apply WO.ct;rfl;rfl;first|exact hc)|(apply WO.pl;rfl;rfl)|(apply WO.pp;rfl;rfl)|(intro _;omega)|intro _
  refine⟨.inr rfl,rfl,rfl,rfl,_,rfl,?_⟩
  simp only[ie,hy,hx]
  rfl
theorem Ww (n208:∀ars h,M.ext 208 ars h=none)(C:sA M)(s:al)(b:UInt8)(hl:s.length<1000000):aZ M 163 [.str s,.str [b]] [] ⟨ie b s,[],[]⟩:=by
 have hc:=Wv n208 C s b hl []
 unfold ie at hc ⊢
 refine bT (by rw[C.ft];exact VZ) (by simp) ?_
 unfold Jq
 simp only[enter]
 repeat' first|apply W.seq|apply ab|apply W.region|apply WO.nil|apply W.ret|(apply WO.ct;rfl;rfl;first|exact hc)|(apply WO.pl;rfl;rfl)|(apply WO.pp;rfl;rfl)
 exact⟨.inr rfl,rfl,_,rfl,rfl,rfl⟩
end Go.Ab.Ch1

/-
  Own work: texts: trimmed by the digits.
-/
namespace Go.Ab.Ch1
open Go.Ab.bz
variable {M:aO} {cap:Option Nat}
@[irreducible] def eH:List AV:=(List.range 256).map fun i=>.bool (vZ i)
def ml:al:=[48,49,50,51,52,53,54,55,56,57]
set_option maxRecDepth 1000000 in
theorem Wx (M:aO):gg (bj M.ext M.inv M.FT 100) (fun _=>some ⟨21,[0,2,3,4,5],[.cell 256 true (.p 1),.var (.p 2)],BY⟩) 288 [.str ml] []=some ⟨.ao [.agg eH,.bool true],[],[]⟩:=by
 kernel_rfl
theorem Wy {run:ak->aq->Option (Ex×aq)}{F G:FuncId->Option cX}{f:FuncId}(h:F f=G f)(ars:List AV)(hp:ae):gg run F f ars hp=gg run G f ars hp:=by
 simp only[gg,h]
theorem Wz (hft:M.FT=FT):aZ M 288 [.str ml] [] ⟨.ao [.agg eH,.bool true],[],[]⟩:=by
 have h2:M.FT 288=(fun _=>some ⟨21,[0,2,3,4,5],[.cell 256 true (.p 1),.var (.p 2)],BY⟩:FuncId->Option cX) 288:=by rw[hft];exact Wj
 exact⟨100,(Wy h2 _ _).trans (Wx M)⟩
structure nN (M:aO):Prop where
 ft:M.FT=FT
 JF:∀ars h,M.ext 314 ars h=none
 JG:∀ars h,M.ext 289 ars h=none
 JH:∀ars h,M.ext 290 ars h=none
 wD:∀h,M.ext 288 [.str ml] h=some ⟨.ao [.agg eH,.bool true],h,[]⟩
theorem WA {c:Nat}(h:c<256):eH[c]? = some (.bool (vZ c)):=by
 simp[eH,h]
theorem WB {c:UInt8}:partOf (eH.drop (0+((c.toNat:Int)).toNat*1)) 0 1 false=some (.bool (bF c)):=by
 have hc:c.toNat<256:=c.toNat_lt
 rw[Fv,Int.toNat_natCast,Nat.zero_add,Nat.mul_one]
 simp only[partOf,Bool.false_eq_true,if_false]
 exact WA hc
theorem JI (C:nN M)(c:UInt8){H:ae}{b:Nat}(hb:H.at b=some (.cells eH 286)):CT M (ir 314) [.ptr b 0,.int .u8 c.toNat] H ⟨.bool (bF c),H,[]⟩:=by
 have hc:c.toNat<256:=c.toNat_lt
 refine CT.run (C.JF _ _) (mW (by rw[C.ft];exact Wm) (by simp) ?_)
 simp only[List.nil_append,List.append_nil]
 unfold Jz
 simp only[enter]
 repeat' first|(apply WO.Wo;rfl;rfl;omega)|(apply WO.zy;rfl;exact hb;exact WB)|apply W.seq|apply ab|apply W.region|apply WO.nil|apply W.ret|(apply WO.pl;rfl;rfl)|(apply WO.pp;rfl;rfl)
 exact⟨.inr rfl,rfl,rfl,rfl,_,rfl,rfl⟩
def jB (s:al):al:=s.dropWhile bF
def iw (s:al):al:=(s.reverse.dropWhile bF).reverse
theorem JJ (s:al)(c:UInt8):iw (s++[c])=if bF c then iw s else s++[c]:=by
 unfold iw
 rw[List.reverse_append,List.reverse_singleton,List.singleton_append,List.dropWhile_cons]
 split
 . rfl
 . simp
theorem WE (C:nN M){H:ae}{b:Nat}(hb:H.at b=some (.cells eH 286)){Q:Ex->aq->Prop}:∀(n:Nat) (s:al) (lo:List (Nat×AV)) (wr:List Nat) (_:wr=[]),s.length=n->n<1000000 ->
 (∀lo,Q (.exit 0) ⟨⟨[.str (iw s),.ptr b 0,.str []],lo,H,[]⟩,[]⟩)->W M (.loop sy) ⟨⟨[.str s,.ptr b 0,.str []],lo,H,[]⟩,wr⟩ Q:=by
 intro n
 induction n with
 | zero=>
  intro s lo wr hw hs hn hQ
  subst hw
  obtain rfl:s=[]:=List.length_eq_zero_iff.1 hs
  have h0:([]:al).length=0:=rfl
  refine W.loop ?_
  unfold sy
  repeat' first|apply W.seq|apply ab|apply W.region|apply WO.nil|apply W.exit|apply cj|apply dK|(apply W.aw;rfl)|(apply WO.gtr;rfl;rfl)|(apply WO.pl;rfl;rfl)|(intro _;omega)|intro _
  exact hQ _
 | succ n ih=>
  intro s lo wr hw hs hn hQ
  subst hw
  rcases List.eq_nil_or_concat s with rfl|⟨t,c,e⟩
  . cases hs
  . rw[List.concat_eq_append]at e
    subst e
    have hl:(t++[c]).length=t.length+1:=by simp
    have hg:(t++[c])[(((t++[c]).length:Int)-1).toNat]! = c:=by
     rw[show (((t++[c]).length:Int)-1).toNat=t.length by omega,getElem!_pos _ _ (by simp)]
     simp
    have hc:=JI C c hb
    rw[JJ]at hQ
    cases hd:bF c with
    | true=>
     rw[hd]at hc
     rw[if_pos hd]at hQ
     refine W.loop ?_
     unfold sy
     repeat' first|(rw[hg])|(apply WO.ig (r:=t);rfl;rfl;omega;(rw[show (((t++[c]).length:Int)-1).toNat=t.length by omega];simp))|apply W.seq|apply ab|apply W.region|apply WO.nil|apply W.block|apply W.skip|apply bK|(apply W.ax;rfl)|(apply W.aw;rfl)|(apply WO.gtr;rfl;rfl)|(apply WO.sub;rfl;rfl;omega)|(apply WO.ct;rfl;rfl;first|exact hc)|(apply WO.idx;rfl;rfl;omega)|(apply WO.pl;rfl;rfl)|(apply WO.pp;rfl;rfl)|(intro _;omega)|intro _
     refine ef ?_
     exact ih t _ _ rfl (by omega) (by omega) hQ
    | false=>
     rw[hd]at hc
     rw[if_neg (by rw[hd];simp)]at hQ
     refine W.loop ?_
     unfold sy
     repeat' first|(rw[hg])|apply W.seq|apply ab|apply W.region|apply WO.nil|apply W.block|apply W.exit|apply W.skip|apply cj|(apply mV;rfl)|apply dK|(apply W.ax;rfl)|(apply WO.gtr;rfl;rfl)|(apply WO.sub;rfl;rfl;omega)|(apply WO.ct;rfl;rfl;first|exact hc)|(apply WO.idx;rfl;rfl;omega)|(apply WO.pl;rfl;rfl)|(intro _;omega)|intro _
     exact hQ _
theorem WG (C:nN M){H:ae}{b:Nat}(hb:H.at b=some (.cells eH 286))(s:al)(hl:s.length<1000000):CT M (ir 290) [.str s,.ptr b 0] H ⟨.str (iw s),H,[]⟩:=by
 refine CT.run (C.JH _ _) (mW (by rw[C.ft];exact Wl) (by simp) ?_)
 simp only[List.nil_append,List.append_nil]
 unfold Jy
 simp only[enter]
 repeat' first|apply W.seq|apply ab|apply W.region|apply WO.nil|apply W.block|(apply WO.pp;rfl;rfl)
 refine WE C hb s.length s _ _ rfl rfl hl fun lo=>?_
 repeat' first|apply W.seq|apply ab|apply W.region|apply WO.nil|apply W.ret|apply cg|(apply WO.pl;rfl;rfl)|(apply WO.pp;rfl;rfl)
 exact⟨.inr rfl,rfl,rfl,rfl,_,rfl,rfl⟩
theorem JK (C:nN M){H:ae}{b:Nat}(hb:H.at b=some (.cells eH 286)){Q:Ex->aq->Prop}:∀(s:al) (lo:List (Nat×AV)) (wr:List Nat) (_:wr=[]),s.length<1000000 ->
 (∀lo,Q (.exit 0) ⟨⟨[.str (jB s),.ptr b 0,.str []],lo,H,[]⟩,[]⟩)->W M (.loop sx) ⟨⟨[.str s,.ptr b 0,.str []],lo,H,[]⟩,wr⟩ Q
 | [],lo,wr,hw,hn,hQ=>by
  subst hw
  have h0:([]:al).length=0:=rfl
  refine W.loop ?_
  unfold sx
  repeat' first|apply W.seq|apply ab|apply W.region|apply WO.nil|apply W.exit|apply cj|apply dK|(apply W.aw;rfl)|(apply WO.gtr;rfl;rfl)|(apply WO.pl;rfl;rfl)|(intro _;omega)|intro _
  exact hQ _
 | c::s,lo,wr,hw,hn,hQ=>by
  subst hw
  have hl:(c::s).length=s.length+1:=rfl
  have hc:=JI C c hb
  have e:jB (c::s)=if bF c then jB s else c::s:=List.dropWhile_cons ..
  rw[e]at hQ
  cases hd:bF c with
  | true=>
   rw[hd]at hc
   rw[if_pos hd]at hQ
   refine W.loop ?_
   unfold sx
   repeat' first|(apply WO.gi (r:=s);rfl;rfl;omega;rfl)|apply W.seq|apply ab|apply W.region|apply WO.nil|apply W.block|apply W.skip|apply bK|(apply W.ax;rfl)|(apply W.aw;rfl)|(apply WO.gtr;rfl;rfl)|(apply WO.ct;rfl;rfl;first|exact hc)|(apply WO.idx;rfl;rfl;omega)|(apply WO.pl;rfl;rfl)|(apply WO.pp;rfl;rfl)|(intro _;omega)|intro _
   refine ef ?_
   exact JK C hb s _ _ rfl (by omega) hQ
  | false=>
   rw[hd]at hc
   rw[if_neg (by rw[hd];simp)]at hQ
   refine W.loop ?_
   unfold sx
   repeat' first|apply W.seq|apply ab|apply W.region|apply WO.nil|apply W.block|apply W.exit|apply W.skip|apply cj|(apply mV;rfl)|apply dK|(apply W.ax;rfl)|(apply WO.gtr;rfl;rfl)|(apply WO.ct;rfl;rfl;first|exact hc)|(apply WO.idx;rfl;rfl;omega)|(apply WO.pl;rfl;rfl)|(intro _;omega)|intro _
   exact hQ _
theorem WH (C:nN M){H:ae}{b:Nat}(hb:H.at b=some (.cells eH 286))(s:al)(hl:s.length<1000000):CT M (ir 289) [.str s,.ptr b 0] H ⟨.str (jB s),H,[]⟩:=by
 refine CT.run (C.JG _ _) (mW (by rw[C.ft];exact Wk) (by simp) ?_)
 simp only[List.nil_append,List.append_nil]
 unfold Jx
 simp only[enter]
 repeat' first|apply W.seq|apply ab|apply W.region|apply WO.nil|apply W.block|(apply WO.pp;rfl;rfl)
 refine JK C hb s _ _ rfl hl fun lo=>?_
 repeat' first|apply W.seq|apply ab|apply W.region|apply WO.nil|apply W.ret|apply cg|(apply WO.pl;rfl;rfl)|(apply WO.pp;rfl;rfl)
 exact⟨.inr rfl,rfl,rfl,rfl,_,rfl,rfl⟩
theorem JL {p:UInt8->Bool}:∀s:al,(s.dropWhile p).length<=s.length
 | []=>Nat.le_refl _
 | c::s=>by
  rw[List.dropWhile_cons]
  have:=JL (p:=p) s
  split
  . rw[List.length_cons];omega
  . exact Nat.le_refl _
theorem WI (s:al):(iw s).length<=s.length:=by
 unfold iw
 have:=JL (p:=bF) s.reverse
 simpa using this
theorem JM:eH.length=256:=by simp[eH]
theorem WJ:eH.all cR=true:=by
 simp only[eH,List.all_map,List.all_eq_true]
 intro x _
 rfl
theorem WK {a b:List AV}(h:a.length=b.length):overwrite a 0 b=b:=by
 unfold overwrite
 rw[List.take_zero,List.nil_append,List.drop_of_length_le (by omega),List.append_nil]
theorem JN:wA.length=256:=by kernel_rfl
theorem WL:overwrite wA 0 eH=eH:=WK (by rw[JM,JN])
theorem WM (C:nN M)(s:al)(hl:s.length<1000000):aZ M 257 [.str s,.str ml] [] ⟨.str (jB (iw s)),[],[]⟩:=by
 have hD:ml.length=10:=rfl
 have hT:=WI s
 have wD:=C.wD []
 have hb:ae.at [some (.cells eH 286)] 0=some (.cells eH 286):=rfl
 have q1:=WG C hb s hl
 have q2:=WH C hb (iw s) (by omega)
 refine bT (by rw[C.ft];exact Wh) (by simp) ?_
 unfold Jw
 simp only[enter]
 by_cases h0:s=[]
 . subst h0
   repeat' first|(apply WO.dU;rfl;rfl;intro _;rotate_left;(intro h;exact absurd rfl h))|apply W.seq|apply ab|apply W.region|apply WO.nil|apply W.ret|apply ba|(apply W.ax;rfl)|(apply WO.sF;rfl)|(apply WO.bn;rfl;rfl)|(apply WO.pl;rfl;rfl)|(apply WO.pp;rfl;rfl)
   exact⟨.inr rfl,rfl,_,rfl,rfl,rfl⟩
 . repeat' first|(apply WO.dU;rfl;rfl;(intro h;first|exact absurd h h0|exact absurd h (by decide));intro _)|apply W.seq|apply ab|apply W.region|apply WO.nil|apply W.ret|apply W.skip|apply ba|(apply W.ax;rfl)|(apply W.aw;rfl)|(apply WO.gF;rfl)|(apply WO.sT;rfl)|(apply WO.eql;rfl;rfl)|(apply WO.bx;rfl;rfl)|(apply WO.ay;rfl;rfl;first|exact wD)|(apply WO.cJ (c':=eH);rfl;rfl;rfl;exact⟨JM,Nat.le_of_eq ((Nat.zero_add _).trans JN.symm),WJ⟩;exact WL)|(apply WO.ct;rfl;rfl;first|exact q1|exact q2)|(apply WO.aX;rfl;rfl;rfl)|(apply WO.pl;rfl;rfl)|(apply WO.pp;rfl;rfl)|(intro _;omega)|intro _
   exact⟨.inr rfl,rfl,_,rfl,rfl,rfl⟩
end Go.Ab.Ch1

/-
  Own work: texts: Atoi of few digits.
-/
namespace Go.Ab.Ch1
open Go.Ab.bz
variable {M:aO} {cap:Option Nat}
structure JO (M:aO):Prop where
 ft:M.FT=FT
 WN:∀ars h,M.ext 259 ars h=none
theorem WQ {s:al}{i:Nat}(h:i<s.length):(bp s)[i]? = some (.int .u8 (s[i]!).toNat):=by
 rw[bp,List.getElem?_map,List.getElem?_eq_getElem h,getElem!_pos s i h]
 rfl
theorem WR {H:ae}{c:Nat}(s:al)(hb:H.at c=some (.cells (bp s) 5))(hs:s.length<=18)(hd:s.all bF=true)(cp:Option Nat)(a1 a2 a3 a4 a7 a8:AV){Q:Ex->aq->Prop}:∀(r i n:Nat) (a6:AV) (lo:List (Nat×AV)) (wr:List Nat),i+r=s.length->n<10^i ->
 (∀a6 lo,Q (.exit 0) ⟨⟨[.str s,a1,a2,a3,a4,.iV (aM n (s.drop i)),a6,a7,a8,.sl c 0 s.length 1 cp,.iV s.length,.iV s.length],lo,H,[]⟩,wr⟩) ->
 W M (.loop wC) ⟨⟨[.str s,a1,a2,a3,a4,.iV n,a6,a7,a8,.sl c 0 s.length 1 cp,.iV s.length,.iV i],lo,H,[]⟩,wr⟩ Q:=by
 intro r
 induction r with
 | zero=>
  intro i n a6 lo wr hi hn hQ
  obtain rfl:i=s.length:=by omega
  rw[List.drop_length]at hQ
  refine W.loop ?_
  unfold wC
  repeat' first|apply W.seq|apply ab|apply W.region|apply WO.nil|apply W.exit|apply cj|apply dK|(apply W.aw;rfl)|(apply WO.lss;rfl;rfl)|(intro _;omega)|intro _
  exact hQ _ _
 | succ r ih=>
  intro i n a6 lo wr hi hn hQ
  have hil:i<s.length:=by omega
  have hp:10^i<=10^17:=Nat.pow_le_pow_right (by decide) (by omega)
  have hg:s[i]! = s[i]:=getElem!_pos s i hil
  have hm:=List.all_eq_true.1 hd (s[i]!) (by rw[hg];exact List.getElem_mem hil)
  have hx:=(jW _).1 hm
  rw[List.drop_eq_getElem_cons hil,si,←hg]at hQ
  have hpart:partOf ((bp s).drop (0+((i:Int)).toNat*1)) 0 1 false=some (.int .u8 (s[i]!).toNat):=by
   rw[Fv,Int.toNat_natCast,Nat.zero_add,Nat.mul_one]
   simp only[partOf,Bool.false_eq_true,if_false]
   exact WQ hil
  refine W.loop ?_
  unfold wC
  repeat' first|(apply WO.zy;rfl;exact hb;exact hpart)|(apply WO.Wp;rfl;rfl;omega)|apply W.seq|apply ab|apply W.region|apply WO.nil|apply W.block|apply W.skip|apply bK|(apply W.ax;rfl)|(apply W.aw;rfl)|(apply WO.lss;rfl;rfl)|(apply WO.gtr;rfl;rfl)|(apply WO.ku;rfl;omega)|(apply WO.add;rfl;rfl;omega)|(apply WO.mul;rfl;rfl;omega)|(apply WO.bY;rfl;rfl;omega)|(apply WO.pl;rfl;rfl)|(apply WO.pp;rfl;rfl)|(intro _;omega)|intro _
  refine ef ?_
  have hpow:10^(i+1)=10*10^i:=by rw[Nat.pow_succ,Nat.mul_comm]
  have e:=ih (i+1) (10*n+((s[i]!).toNat-48))
  rw[show (((10*n+((s[i]!).toNat-48):Nat):Int))=(n:Int)*10+(((s[i]!).toNat:Int)-48) by omega,show (((i+1:Nat):Int))=(i:Int)+1 by omega]at e
  exact e _ _ _ (by omega) (by omega) hQ
theorem WS (C:JO M)(s:al)(h0:s≠[])(hl:s.length<=18)(hd:s.all bF=true)(H:ae):aZ M 259 [.str s] H ⟨.ao [.iV (aM 0 s),.cU],H,[]⟩:=by
 have hpos:0<s.length:=List.length_pos_iff.2 h0
 have hg:s[0]! = s[0]:=getElem!_pos s 0 hpos
 have hx:48<=(s[Int.toNat 0]!).toNat/\(s[Int.toNat 0]!).toNat<58:=(jW _).1 (List.all_eq_true.1 hd (s[0]!) (by rw[hg];exact List.getElem_mem hpos))
 refine pc (by rw[C.ft];exact VY) (by simp) (Nat.zero_le _) ?_
 unfold Jp
 simp only[enter]
 repeat' first|apply W.seq|apply ab|apply W.region|apply WO.nil|apply W.block|apply W.skip|(apply W.ax;rfl)|(apply W.aw;rfl)|(apply WO.gT;rfl)|(apply WO.gF;rfl)|(apply WO.sT;rfl)|(apply WO.sU;rfl)|(apply WO.lss;rfl;rfl)|(apply WO.eql;rfl;rfl)|(apply WO.bn;rfl;rfl)|(apply WO.bx;rfl;rfl)|(apply WO.idx;rfl;rfl;omega)|(apply WO.aX;rfl;rfl;rfl)|(apply WO.pl;rfl;rfl)|(apply WO.pp;rfl;rfl)|(intro _;omega)|intro _
 refine WR (H:=H++[some (.cells (bp s) 5)]) (c:=H.length) s cn hl hd none _ _ _ _ _ _ s.length 0 0 _ _ _ (by omega) (by simp) (fun a6 lo=>?_)
 rw[List.drop_zero]
 repeat' first|apply W.seq|apply ab|apply W.region|apply WO.nil|apply W.ret|apply W.skip|apply ba|apply cg|(apply W.aw;rfl)|(apply WO.eql;rfl;rfl)|(apply WO.idx;rfl;rfl;omega)|(apply WO.pl;rfl;rfl)|(apply WO.pp;rfl;rfl)|(intro _;omega)|intro _
 exact⟨.inr rfl,rfl,⟨_,rfl⟩,fun x h=>by simp at h,_,rfl,rfl⟩
theorem WT (C:JO M)(s:al)(h0:s≠[])(hl:s.length<=18)(hd:s.all bF=true):aZ M 214 [.str s] [] ⟨.ao [.iV (aM 0 s),.cU],[],[]⟩:=by
 have hc:=CT.run (fi:=[]) (ca:=[]) (ars:=[.str s]) (C.WN _ _) (WS C s h0 hl hd [])
 refine bT (by rw[C.ft];exact VX) (by simp) ?_
 unfold Jo
 simp only[enter]
 repeat' first|apply W.seq|apply ab|apply W.region|apply WO.nil|apply W.ret|apply W.skip|(apply W.aw;rfl)|(apply WO.ct;rfl;rfl;first|exact hc)|(apply WO.pl;rfl;rfl)|(apply WO.pp;rfl;rfl)
 exact⟨.inr rfl,rfl,_,rfl,rfl,rfl⟩
theorem dropWhile_nil {p:UInt8->Bool}:∀l:al,l.dropWhile p=[]↔∀x∈l,p x=true
 | []=>by simp
 | c::l=>by
  rw[List.dropWhile_cons]
  split
  . rename_i h
    rw[dropWhile_nil l]
    simp[h]
  . rename_i h
    simp[h]
theorem JP (s:al):jB (iw s)=[]↔s.all bF=true:=by
 rcases List.eq_nil_or_concat s with rfl|⟨t,c,e⟩
 . simp[jB,iw]
 . rw[List.concat_eq_append]at e
   subst e
   have hlen:t.length<(t++[c]).length:=by simp
   rw[JJ]
   split
   . rename_i h
     rw[JP t]
     simp only[List.all_append,List.all_cons,List.all_nil,h,Bool.and_true]
   . rename_i h
     unfold jB
     rw[dropWhile_nil,List.all_eq_true]
termination_by s.length
decreasing_by subst_vars;simp
end Go.Ab.Ch1

/-
  Own work: texts: prefixes of one byte.
-/
namespace Go.Ab.Ch1
open Go.Ab.bz
variable {M:aO} {cap:Option Nat}
def preB (b:UInt8)(s:al):Bool:=decide (s.head? = some b)
def bJ (b:UInt8)(s:al):al:=if s.head? = some b then s.tail else s
theorem sC (b:UInt8)(s:al):(bJ b s).length<=s.length:=by unfold bJ;split <;> simp
theorem WU (hft:M.FT=FT)(s:al)(b:UInt8)(hl:s.length<1000000):aZ M 255 [.str s,.str [b]] [] ⟨.bool (preB b s),[],[]⟩:=by
 have hn1:([b]:al).length=1:=rfl
 refine bT (by rw[hft];exact VU) (by simp) ?_
 cases s with
 | nil=>
  have h0:([]:al).length=0:=rfl
  unfold BW
  simp only[enter]
  repeat' first|apply W.seq|apply ab|apply W.region|apply WO.nil|apply W.ret|(apply WO.sT;rfl)|(apply WO.geq;rfl;rfl)|(apply WO.bx;rfl;rfl)|(apply WO.pl;rfl;rfl)|(apply WO.pp;rfl;rfl)|(intro _;omega)|intro _
  all_goals try omega
  all_goals exact⟨.inr rfl,rfl,_,rfl,rfl,rfl⟩
 | cons c t=>
  have hcl:(c::t).length=t.length+1:=rfl
  have hd:(c::t).take (([b]:al).length:Int).toNat=[c]:=rfl
  have he:preB b (c::t)=decide (c=b):=by simp[preB]
  rw[he]
  unfold BW
  simp only[enter]
  by_cases hc:c=b
  . subst hc
    rw[decide_eq_true rfl]
    repeat' first|(apply WO.ig;rfl;rfl;omega;exact hd)|(apply WO.dU;rfl;rfl;intro _;rotate_left;(intro h;exact absurd rfl h))|apply W.seq|apply ab|apply W.region|apply WO.nil|apply W.ret|(apply WO.gT;rfl)|(apply WO.geq;rfl;rfl)|(apply WO.bn;rfl;rfl)|(apply WO.pl;rfl;rfl)|(apply WO.pp;rfl;rfl)|(intro _;omega)|intro _
    all_goals try omega
    all_goals exact⟨.inr rfl,rfl,_,rfl,rfl,rfl⟩
  . rw[decide_eq_false hc]
    repeat' first|(apply WO.ig;rfl;rfl;omega;exact hd)|(apply WO.dU;rfl;rfl;(intro h;exact absurd (List.cons.inj h).1 hc);intro _)|apply W.seq|apply ab|apply W.region|apply WO.nil|apply W.ret|(apply WO.gT;rfl)|(apply WO.geq;rfl;rfl)|(apply WO.bn;rfl;rfl)|(apply WO.pl;rfl;rfl)|(apply WO.pp;rfl;rfl)|(intro _;omega)|intro _
    all_goals try omega
    all_goals exact⟨.inr rfl,rfl,_,rfl,rfl,rfl⟩
theorem WW (hft:M.FT=FT)(s:al)(b:UInt8)(q:∀h,M.ext 255 [.str s,.str [b]] h=some ⟨.bool (preB b s),h,[]⟩):aZ M 212 [.str s,.str [b]] [] ⟨.bool (preB b s),[],[]⟩:=by
 refine bT (by rw[hft];exact VT) (by simp) ?_
 unfold Jl
 simp only[enter]
 repeat' first|apply W.seq|apply ab|apply W.region|apply WO.nil|apply W.ret|(apply WO.ay;rfl;rfl;first|exact q _)|(apply WO.pl;rfl;rfl)|(apply WO.pp;rfl;rfl)
 all_goals exact⟨.inr rfl,rfl,_,rfl,rfl,rfl⟩
theorem wE {b:UInt8}{s:al}(h:preB b s=true):s.drop (([b]:al).length:Int).toNat=bJ b s/\1<=s.length:=by
 have h:=of_decide_eq_true h
 unfold bJ
 rw[if_pos h]
 cases s with
 | nil=>simp at h
 | cons c t=>exact⟨rfl,by simp⟩
theorem jY {b:UInt8}{s:al}(h:preB b s=false):bJ b s=s:=if_neg (of_decide_eq_false h)
theorem WX (hft:M.FT=FT)(s:al)(b:UInt8)(hl:s.length<1000000)(q:∀h,M.ext 255 [.str s,.str [b]] h=some ⟨.bool (preB b s),h,[]⟩):aZ M 258 [.str s,.str [b]] [] ⟨.str (bJ b s),[],[]⟩:=by
 have hn1:([b]:al).length=1:=rfl
 refine bT (by rw[hft];exact VW) (by simp) ?_
 unfold Jn
 simp only[enter]
 cases hp:preB b s with
 | true=>
  rw[hp]at q
  obtain⟨h1,h2⟩:=wE hp
  repeat' first|(apply WO.gi;rfl;rfl;omega;exact h1)|apply W.seq|apply ab|apply W.region|apply WO.nil|apply W.ret|apply ba|(apply W.ax;rfl)|(apply WO.ay;rfl;rfl;first|exact q _)|(apply WO.pl;rfl;rfl)|(apply WO.pp;rfl;rfl)
  all_goals exact⟨.inr rfl,rfl,_,rfl,rfl,rfl⟩
 | false=>
  rw[hp]at q
  rw[jY hp]
  repeat' first|apply W.seq|apply ab|apply W.region|apply WO.nil|apply W.ret|apply W.skip|(apply W.aw;rfl)|(apply WO.ay;rfl;rfl;first|exact q _)|(apply WO.pl;rfl;rfl)|(apply WO.pp;rfl;rfl)
  all_goals exact⟨.inr rfl,rfl,_,rfl,rfl,rfl⟩
theorem WY (hft:M.FT=FT)(s:al)(b:UInt8)(q:∀h,M.ext 258 [.str s,.str [b]] h=some ⟨.str (bJ b s),h,[]⟩):aZ M 213 [.str s,.str [b]] [] ⟨.str (bJ b s),[],[]⟩:=by
 refine bT (by rw[hft];exact VV) (by simp) ?_
 unfold Jm
 simp only[enter]
 repeat' first|apply W.seq|apply ab|apply W.region|apply WO.nil|apply W.ret|(apply WO.ay;rfl;rfl;first|exact q _)|(apply WO.pl;rfl;rfl)|(apply WO.pp;rfl;rfl)
 all_goals exact⟨.inr rfl,rfl,_,rfl,rfl,rfl⟩
theorem WZ (hft:M.FT=FT)(s:al)(b:UInt8)(hl:s.length<1000000)(q:∀h,M.ext 255 [.str s,.str [b]] h=some ⟨.bool (preB b s),h,[]⟩):aZ M 207 [.str s,.str [b]] [] ⟨.ao [.str (bJ b s),.bool (preB b s)],[],[]⟩:=by
 have hn1:([b]:al).length=1:=rfl
 refine bT (by rw[hft];exact Wf) (by simp) ?_
 unfold Ju
 simp only[enter]
 cases hp:preB b s with
 | true=>
  rw[hp]at q
  obtain⟨h1,h2⟩:=wE hp
  repeat' first|(apply WO.gi;rfl;rfl;omega;exact h1)|apply W.seq|apply ab|apply W.region|apply WO.nil|apply W.ret|apply W.skip|(apply W.aw;rfl)|(apply WO.ay;rfl;rfl;first|exact q _)|(apply WO.pl;rfl;rfl)|(apply WO.pp;rfl;rfl)
  all_goals exact⟨.inr rfl,rfl,_,rfl,rfl,rfl⟩
 | false=>
  rw[hp]at q
  rw[jY hp]
  repeat' first|apply W.seq|apply ab|apply W.region|apply WO.nil|apply W.ret|apply ba|(apply W.ax;rfl)|(apply WO.ay;rfl;rfl;first|exact q _)|(apply WO.pl;rfl;rfl)|(apply WO.pp;rfl;rfl)
  all_goals exact⟨.inr rfl,rfl,_,rfl,rfl,rfl⟩
theorem Xa (hft:M.FT=FT)(s:al)(b:UInt8)(q:∀h,M.ext 207 [.str s,.str [b]] h=some ⟨.ao [.str (bJ b s),.bool (preB b s)],h,[]⟩):aZ M 162 [.str s,.str [b]] [] ⟨.ao [.str (bJ b s),.bool (preB b s)],[],[]⟩:=by
 refine bT (by rw[hft];exact We) (by simp) ?_
 unfold Jt
 simp only[enter]
 repeat' first|apply W.seq|apply ab|apply W.region|apply WO.nil|apply W.ret|(apply WO.ay;rfl;rfl;first|exact q _)|(apply WO.pl;rfl;rfl)|(apply WO.pp;rfl;rfl)
 all_goals exact⟨.inr rfl,rfl,_,rfl,rfl,rfl⟩
end Go.Ab.Ch1

/-
  Own work: integers of any size are read.
-/
namespace Go.Ab.Ch1
open Go.Ab.bz
variable {M:aO} {cap:Option Nat} {N N2:Nat}
structure wF (M:aO)(N:Nat):Prop extends CF M N where
 JQ:∀(s:al) h,s.length<1000000->M.ext 212 [.str s,.str [45]] h=some ⟨.bool (preB 45 s),h,[]⟩
 JR:∀(s:al) h,s.length<1000000->M.ext 213 [.str s,.str [45]] h=some ⟨.str (bJ 45 s),h,[]⟩
 JS:∀(s:al) h,s≠[]->s.length<=18->s.all bF=true->M.ext 214 [.str s] h=some ⟨.ao [.iV (aM 0 s),.cU],h,[]⟩
 JT:∀v A (K:Nat),aL v A->K<=18->K<=N->an A<=10->∃v0,aL v0 (A^K)/\∀h,M.ext 215 [v,.iV K] h=some ⟨v0,h,[]⟩
theorem wG (n:Nat):(10:Int)^n<=wB^n:=by
 induction n with
 | zero=>decide
 | succ n ih=>
  rw[Int.pow_succ,Int.pow_succ]
  exact Int.mul_le_mul ih (by decide) (by decide) (Int.pow_nonneg (by decide))
theorem nO {s:al}(h:s.all bF=true)(hl:s.length<=N):an (aM 0 s:Nat)<wB^N:=by
 have h1:=nG s h
 rw[cQ (by omega)]
 have h2:(aM 0 s:Int)<(10:Int)^s.length:=by exact_mod_cast h1
 exact Int.lt_of_lt_of_le h2 (Int.le_trans (wG _) (gZ (by decide) hl))
theorem JU {s:al}(h:s.all bF=true)(hl:s.length<=18):aM 0 s<1000000000000000000:=
 Nat.lt_of_lt_of_le (nG s h) (Nat.le_trans (Nat.pow_le_pow_right (by decide) hl) (by decide))
def Ca (so:Int)(wo:AV):ae:=[some (.cells [.iV 0,.ah] 131),some (.cells [.iV so,wo] 131)]
theorem Xb (C:wF M N){Q:Ex->aq->Prop}(full:al)(hD:full.all bF=true)(hl:full.length<=N)(a2:AV)
 (hQ:∀so wo a4 a5 lo wr,aL (.agg [.iV so,wo]) (aM 0 full:Nat)->Q (.exit 0) ⟨⟨[.str [],.ptr 0 0,a2,.ptr 1 0,a4,a5],lo,Ca so wo,[]⟩,wr⟩)
 (a4 a5:AV) (lo:List (Nat×AV)) (wr:List Nat) :
 W M (.loop wy) ⟨⟨[.str full,.ptr 0 0,a2,.ptr 1 0,a4,a5],lo,Ca 0 .ah,[]⟩,wr⟩ Q:=by
 have hlN:=C.lN
 refine W.ij (fun m st=>∃t dn so wo a4 a5 lo wr,st=⟨⟨[.str t,.ptr 0 0,a2,.ptr 1 0,a4,a5],lo,Ca so wo,[]⟩,wr⟩/\t.length=m/\full=dn++t/\aL (.agg [.iV so,wo]) (aM 0 dn:Nat))
  (fun m st ⟨t,dn,so,wo,a4,a5,lo,wr,hst,hm,hf,hv⟩=>?_) (m:=full.length) ⟨full,[],0,.ah,a4,a5,lo,wr,rfl,rfl,rfl,.small (by decide)⟩
 subst hst
 cases t with
 | nil=>
  rw[List.append_nil]at hf
  subst hf
  have h0:([]:al).length=0:=rfl
  unfold wy
  repeat' first|apply W.seq|apply ab|apply W.region|apply WO.nil|apply W.exit|apply cj|apply eA|(apply W.aw;rfl)|(apply WO.gtr;rfl;rfl)|(apply WO.pl;rfl;rfl)|(intro _;omega)|intro _
  all_goals try omega
  all_goals exact hQ _ _ _ _ _ _ hv
 | cons c t=>
  obtain⟨t',ht'⟩:∃t',t'=c::t:=⟨_,rfl⟩
  rw[←ht']at hm hf ⊢
  have hpos:0<t'.length:=by rw[ht'];simp
  have hDt:t'.all bF=true:=by rw[hf,List.all_append,Bool.and_eq_true]at hD;exact hD.2
  have hDd:dn.all bF=true:=by rw[hf,List.all_append,Bool.and_eq_true]at hD;exact hD.1
  have hfl:full.length=dn.length+t'.length:=by rw[hf,List.length_append]
  obtain⟨n,hn,hn1⟩:∃n:Nat,((n:Int)=18/\(18:Int)<=t'.length\/(n:Int)=t'.length/\(t'.length:Int)<=18)/\0<n/\n<=18/\n<=t'.length:=by
   by_cases h:t'.length<=18
   . exact⟨t'.length,.inr ⟨rfl,by omega⟩,by omega,by omega,by omega⟩
   . exact⟨18,.inl ⟨rfl,by omega⟩,by omega,by omega,by omega⟩
  obtain⟨x,y,hxy,hxl⟩:∃x y,t'=x++y/\x.length=n:=⟨t'.take n,t'.drop n,(List.take_append_drop n t').symm,by rw[List.length_take];omega⟩
  have hx0:x≠[]:=fun e=>by rw[e]at hxl;simp at hxl;omega
  have hDx:x.all bF=true:=by rw[hxy,List.all_append,Bool.and_eq_true]at hDt;exact hDt.1
  have htk:t'.take (n:Int).toNat=x:=by rw[hxy,Int.toNat_natCast,←hxl,List.take_left]
  have hdr:t'.drop (n:Int).toNat=y:=by rw[hxy,Int.toNat_natCast,←hxl,List.drop_left]
  have hyl:t'.length=n+y.length:=by rw[hxy,List.length_append,hxl]
  have q214:=fun h=>C.JS x h hx0 (by omega) hDx
  have q168:=C.ny 10
  obtain⟨v1,k1,q215⟩:=C.JT (.agg [.iV 10,.ah]) 10 n (.small (by decide)) hn1.2.1 (by omega) (by decide)
  have b1:=nO (N:=N) hDd (by omega)
  have b2:an ((10:Int)^n)<wB^N:=by
   rw[cQ (Int.pow_nonneg (by decide))]
   have h1:=gZ (b:=wB) (by decide) (m:=n) (n:=N) (by omega)
   have h2:=wG n
   have h3:(10:Int)^n<wB^n:=by
    obtain⟨k,rfl⟩:∃k,n=k+1:=⟨n-1,by omega⟩
    have:=wG k
    have p0:(0:Int)<10^k:=Int.pow_pos (by decide)
    rw[Int.pow_succ,Int.pow_succ]
    have:(10:Int)^k*10<10^k*wB:=Int.mul_lt_mul_of_pos_left (by decide) p0
    have h5:(10:Int)^k*wB<=wB^k*wB:=Int.mul_le_mul_of_nonneg_right (wG k) (by decide)
    omega
   omega
  obtain⟨v2,k2,q198⟩:=C.jz _ _ _ _ hv k1 b1 b2
  have e2:(aM 0 dn:Int)*10^n=((aM 0 (dn++List.replicate n 48):Nat):Int):=by
   have:aM (aM 0 dn) (List.replicate n 48)=aM 0 dn*10^n:=by rw[←wv,Iz];simp
   rw[nF,this];push_cast;rfl
  have k2:aL v2 ((aM 0 dn:Int)*10^n):=k2
  have b3:an ((aM 0 dn:Int)*10^n)<wB^N:=by
   rw[e2]
   exact nO (by rw[List.all_append,hDd,←wv,Iw];rfl) (by rw[List.length_append,List.length_replicate];omega)
  have hxs:=JU hDx (by omega)
  have q168b:=C.ny (aM 0 x:Nat)
  obtain⟨v3,k3,q202⟩:=C.pL v2 (.agg [.iV (aM 0 x:Nat),.ah]) _ _ k2 (.small (by omega)) b3 (nO hDx (by omega))
  have e3:(aM 0 dn:Int)*10^n+(aM 0 x:Nat)=((aM 0 (dn++x):Nat):Int):=by
   rw[nF,wc x (aM 0 dn),hxl];push_cast;rfl
  have k3:aL v3 ((aM 0 (dn++x):Nat):Int):=by rw[←e3];exact k3
  obtain⟨s3,w3,rfl,o3,_⟩:=k3.shape
  unfold wy
  repeat' first|(apply WO.min2 (m:=(n:Int));rfl;rfl;exact hn)|(apply WO.ig (s:=t') (r:=x);rfl;rfl;omega;exact htk)|(apply WO.gi (s:=t') (r:=y);rfl;rfl;omega;exact hdr)|(apply WO.ay;rfl;rfl;first|exact q214 _|exact q168 _|exact q215 _|exact q198 _|exact q168b _|exact q202 _)|(apply WD.dL;rfl;rfl;(first|(simp only[nca];rfl)|rfl);first|exact q214 _|exact q168 _|exact q215 _|exact q198 _|exact q168b _|exact q202 _)|(apply WO.cJ;rfl;rfl;rfl;exact⟨rfl,Nat.le_refl _,by simp[overwrite,dx,eE,o3]⟩;rfl)|apply W.seq|apply ab|apply W.region|apply WO.nil|apply W.block|apply W.skip|apply bK|apply W.draw|apply WD.nil|(apply WD.dE;rfl)|(apply WD.dc;rfl;rfl;(first|(simp only[nca];rfl)|rfl))|(apply WD.eh;rfl;(first|(simp only[nca];rfl)|rfl);(first|(simp only[nca];rfl)|rfl))|(apply W.ax;rfl)|(apply WO.gtr;rfl;rfl)|(apply WO.aT;rfl;rfl;rfl)|(apply WO.pl;rfl;rfl)|(apply WO.pp;rfl;rfl)|(intro _;omega)|intro _
  all_goals try omega
  all_goals exact ek ⟨y.length,by omega,y,dn++x,s3,w3,_,_,_,_,rfl,rfl,by rw[hf,hxy,List.append_assoc],k3⟩
theorem Xc (C:wF M N)(s:al)(hl:s.length<=N)(hD:(bJ 45 s).all bF=true):∃v0,aL v0 (if preB 45 s then -(aM 0 (bJ 45 s):Int) else (aM 0 (bJ 45 s):Nat))/\cW M 166 [.str s] v0:=by
 have hlN:=C.lN
 have q212:=fun h=>C.JQ s h (by omega)
 have q213:=fun h=>C.JR s h (by omega)
 have hcl:(bJ 45 s).length<=N:=Nat.le_trans (sC 45 s) hl
 have hb:=nO (N:=N) hD hcl
 obtain⟨v',hh,⟨v0,h0,ho⟩,hr⟩:=iF (M:=M) (f:=166) (ars:=[.str s]) (P:=fun v hh=>∃v0,aL v0 (if preB 45 s then -(aM 0 (bJ 45 s):Int) else (aM 0 (bJ 45 s):Nat))/\fU v hh v0) (by rw[C.ft];exact VF) (by simp) (by
  unfold Jb
  simp only[enter]
  repeat' first|apply W.seq|apply ab|apply W.region|apply WO.nil|apply W.block|(apply WO.ay;rfl;rfl;first|exact q212 _|exact q213 _)|(apply WO.aX;rfl;rfl;rfl)|(apply WO.fA;rfl;rfl;rfl)|(apply WO.pl;rfl;rfl)|(apply WO.pp;rfl;rfl)
  refine Xb C (bJ 45 s) hD hcl _ (fun so wo a4 a5 lo wr hv=>?_) _ _ _ _
  cases hp:preB 45 s with
  | true=>
   rw[if_pos rfl]
   obtain⟨v1,k1,q216⟩:=C.kH _ _ hv hb
   have k1:aL v1 (-(aM 0 (bJ 45 s):Int)):=k1
   obtain⟨s1,w1,rfl,o1,_⟩:=k1.shape
   repeat' first|(apply WO.cJ;rfl;rfl;rfl;exact⟨rfl,Nat.le_refl _,by simp[overwrite,dx,eE,o1]⟩;rfl)|apply W.seq|apply ab|apply W.region|apply WO.nil|apply W.ret|apply ba|apply cg|(apply W.ax;rfl)|(apply WO.ay;rfl;rfl;first|exact q216 _)|(apply WO.aT;rfl;rfl;rfl)|(apply WO.pl;rfl;rfl)
   exact⟨.inr rfl,rfl,_,rfl,_,k1,k1.out⟩
  | false=>
   rw[if_neg (by decide)]
   obtain⟨o1,_⟩:=hv.one
   repeat' first|(apply WO.cJ;rfl;rfl;rfl;exact⟨rfl,Nat.le_refl _,by simp[overwrite,dx,eE,o1]⟩;rfl)|apply W.seq|apply ab|apply W.region|apply WO.nil|apply W.ret|apply W.skip|apply cg|(apply W.aw;rfl)|(apply WO.aT;rfl;rfl;rfl)|(apply WO.pl;rfl;rfl)
   exact⟨.inr rfl,rfl,_,rfl,_,hv,hv.out⟩)
 exact⟨v0,h0,v',hh,ho,hr⟩
end Go.Ab.Ch1

/-
  Own work: fractions are read.
-/
namespace Go.Ab.Ch1
open Go.Ab.bz
variable {M:aO} {cap:Option Nat} {N N2:Nat}
theorem Cb {s:al}(h:s.all bF=true){c:UInt8}(hc:¬bF c=true):c∉s:=fun hm=>hc ((List.all_eq_true.1 h) c hm)
theorem JV (n:Nat){c:UInt8}(hc:¬bF c=true):preB c (bh n)=false:=by
 rw[preB,decide_eq_false_iff_not]
 intro h
 cases hd:bh n with
 | nil=>exact kK n hd
 | cons b t=>
  rw[hd]at h
  have hb:b∈bh n:=by rw[hd];simp
  simp at h
  exact hc (h ▸ (List.all_eq_true.1 (pS n)) b hb)
theorem Xd (z:Int):preB 45 (cK z)=decide (z<0)/\bJ 45 (cK z)=bh (an z).toNat:=by
 by_cases h:z<0
 . rw[mi h,decide_eq_true h]
   exact⟨rfl,rfl⟩
 . rw[jX h,decide_eq_false h]
   have:=JV (an z).toNat (c:=45) (by decide)
   exact⟨this,jY this⟩
theorem sD {b:UInt8}:∀{x:al},b∉x->bI b x=(x,none)
 | [],_=>rfl
 | c::x,h=>by
  have h1:¬c=b:=fun e=>h (by rw[e];simp)
  have h2:b∉x:=fun e=>h (by simp[e])
  rw[bI,if_neg h1,sD h2]
theorem Cc {b:UInt8}{y:al}:∀{x:al},b∉x->bI b (x++b::y)=(x,some y)
 | [],_=>by rw[List.nil_append,bI,if_pos rfl]
 | c::x,h=>by
  have h1:¬c=b:=fun e=>h (by rw[e];simp)
  have h2:b∉x:=fun e=>h (by simp[e])
  rw[List.cons_append,bI,if_neg h1,Cc h2]
theorem JW (z:Int):(47:UInt8)∉cK z:=by
 have h:=Cb (pS (an z).toNat) (c:=47) (by decide)
 by_cases hz:z<0
 . rw[mi hz];simp[h]
 . rw[jX hz];exact h
theorem Xe (q:Rat):ie 47 (aY q)=if q.den=1 then .ao [.str (cK q.num),.str [],.bool false] else .ao [.str (cK q.num),.str (bh q.den),.bool true]:=by
 unfold ie aY
 by_cases h:q.den=1
 . rw[if_pos h,if_pos h,sD (JW _)];rfl
 . rw[if_neg h,if_neg h,Cc (JW _)];rfl
def Lq (N:Nat)(q:Rat):Prop:=(cK q.num).length<=N/\(bh q.den).length<=N
structure kN (M:aO)(N:Nat):Prop extends wF M N where
 Cd:∀(s:al) h,s.length<1000000->M.ext 163 [.str s,.str [47]] h=some ⟨ie 47 s,h,[]⟩
 Ce:∀(s:al),s.length<=N->(bJ 45 s).all bF=true->∃v0,aL v0 (if preB 45 s then -(aM 0 (bJ 45 s):Int) else (aM 0 (bJ 45 s):Nat))/\∀h,M.ext 166 [.str s] h=some ⟨v0,h,[]⟩
theorem kN.JX (C:kN M N)(z:Int)(hl:(cK z).length<=N):∃v0,aL v0 z/\∀h,M.ext 166 [.str (cK z)] h=some ⟨v0,h,[]⟩:=by
 obtain⟨h1,h2⟩:=Xd z
 obtain⟨v0,h0,q⟩:=C.Ce (cK z) hl (by rw[h2];exact pS _)
 refine⟨v0,?_,q⟩
 rw[h1,h2,mf]at h0
 have ha:=iq (x:=z)
 have e:((an z).toNat:Int)=an z:=Int.toNat_of_nonneg ha
 by_cases hz:z<0
 . rw[decide_eq_true hz,if_pos rfl,e]at h0
   have e2:an z = -z:=if_pos hz
   rw[e2,Int.neg_neg]at h0
   exact h0
 . rw[decide_eq_false hz,if_neg (by decide),e]at h0
   have e2:an z=z:=if_neg hz
   rw[e2]at h0
   exact h0
theorem kN.Xf (C:kN M N)(n:Nat)(hl:(bh n).length<=N):∃v0,aL v0 (n:Int)/\∀h,M.ext 166 [.str (bh n)] h=some ⟨v0,h,[]⟩:=by
 rw[←VQ]at hl ⊢
 exact C.JX n hl
theorem kO {q:Rat}(h:Lq N q):(aY q).length<=2*N+1:=by
 unfold aY
 split
 . have:=h.1;omega
 . have h1:=h.1;have h2:=h.2;simp;omega
theorem Xg (C:kN M N)(hN:N<=400000){q:Rat}(lq:Lq N q):∃v0,bm v0 q/\cW M 103 [.str (aY q)] v0:=by
 have sl:=kO lq
 have q163:=fun h=>C.Cd (aY q) h (by omega)
 have cs:=Xe q
 rw[cs]at q163
 obtain⟨va,ka,qa⟩:=C.JX q.num lq.1
 by_cases hd:q.den=1
 . rw[if_pos hd]at q163
   obtain⟨v0,k0,q159⟩:=C.AR _ _ ka
   have k0:bm v0 q:=by
    have:=k0
    unfold bm
    rw[hd];exact this
   refine⟨v0,k0,cT (by rw[C.ft];exact Je) (by simp) ?_⟩
   have out:=fun hh=>k0.out (hh:=hh)
   obtain⟨s5,w5,s6,w6,rfl,h5,h6⟩:=k0
   obtain⟨o5,_⟩:=h5.one
   obtain⟨o6,_⟩:=h6.one
   unfold BO
   simp only[enter]
   repeat' first|(apply WO.cJ;rfl;rfl;rfl;exact⟨rfl,Nat.le_refl _,by simp[overwrite,dx,eE,o5,o6]⟩;rfl)|apply W.seq|apply ab|apply W.region|apply WO.nil|apply W.ret|apply ba|(apply W.ax;rfl)|(apply WO.ay;rfl;rfl;first|exact q163 _|exact qa _|exact q159 _)|(apply WO.aX;rfl;rfl;rfl)|(apply WO.pl;rfl;rfl)|(apply WO.pp;rfl;rfl)
   all_goals exact cw rfl rfl (out _)
 . rw[if_neg hd]at q163
   obtain⟨vb,kb,qb⟩:=C.Xf q.den lq.2
   obtain⟨s5,w5,rfl,o5,_⟩:=ka.shape
   obtain⟨s6,w6,rfl,o6,_⟩:=kb.shape
   have k0:bm (.agg [.iV s5,w5,.iV s6,w6]) q:=⟨_,_,_,_,rfl,ka,kb⟩
   refine⟨_,k0,cT (by rw[C.ft];exact Je) (by simp) ?_⟩
   have out:=fun hh=>k0.out (hh:=hh)
   unfold BO
   simp only[enter]
   repeat' first|(apply WO.cJ;rfl;rfl;rfl;exact⟨rfl,Nat.le_refl _,by simp[overwrite,dx,eE,o5,o6]⟩;rfl)|apply W.seq|apply ab|apply W.region|apply WO.nil|apply W.ret|apply W.skip|(apply W.aw;rfl)|(apply WO.ay;rfl;rfl;first|exact q163 _|exact qa _|exact qb _)|(apply WO.aX;rfl;rfl;rfl)|(apply WO.pl;rfl;rfl)|(apply WO.pp;rfl;rfl)
   all_goals exact cw rfl rfl (out _)
end Go.Ab.Ch1

/-
  Own work: the code of functions: numbers: errors, operations.
-/
namespace Go.Ab.Ch1
set_option maxRecDepth 1000000
def JY:ak:=.seq (.region [zi 1 0]) (.seq (.region [zm 12 0,⟨.l 13,.call (kF 162) [(.l 12),(.c (.str [45]))],none⟩,zn 11 13,ze 14 0 11,ze 15 1 11,zw 2 14,zw 3 15]) (.seq (.region [zm 17 2,⟨.l 18,.call (kF 163) [(.l 17),(.c (.str [47]))],none⟩,zn 16 18,ze 19 0 16,ze 20 1 16,ze 21 2 16,zw 4 19,zw 5 20,zw 6 21]) (.seq (.region [zm 22 4,z1 23 164 22,zn 24 23,zg (zm 25 3) 24 true,zg (zn 26 25) 24 true,zg (zm 27 4) 26 true,⟨.l 28,.bin .eql (.l 27) (.c (.str [48])),some ((.l 26),true)⟩,zg (zp 29 26 28) 24 true,zg (zu 30 29) 24 true,zp 31 24 30,zw 7 31]) (.seq (.seq (.region [zm 32 6]) (.cond (.l 32) (.region [zm 33 7,zn 34 33,zg (zm 35 5) 34 true,zg (z1 36 164 35) 34 true,zp 37 34 36,zn 38 37,zg (zm 39 5) 38 true,⟨.l 40,.bin .neq (.l 39) (.c (.str [48])),some ((.l 38),true)⟩,zp 41 38 40,zn 42 41,zg (zm 43 5) 42 true,⟨.l 44,.bin .neq (.l 43) (.c (.str [49])),some ((.l 42),true)⟩,zp 45 42 44,zw 7 45]) (.skip))) (.seq (.seq (.region [zm 46 7,zu 47 46,⟨.l 48,.call (kF 97) [(.l 47),(kI 1)],none⟩,zm 49 4,zL 50 49,zm 51 5,zL 52 51,⟨.l 53,.mm true [(.l 50),(.l 52)],none⟩,zc 54 .gtr 53 600,⟨.l 55,.call (kF 97) [(.l 54),(kI 4)],none⟩,⟨.l 56,.eu 25 2 1 [.iV (0)] [(0,1,(.l 48)),(1,1,(.l 55))],none⟩,z1 57 96 56,zw 8 57]) (.seq (.region [zm 58 8,zc 59 .neq 58 0,zn 60 59,zg (zm 61 6) 60 false,zg (zu 62 61) 60 false,zP 63 60 62]) (.cond (.l 63) (.seq (.region [zm 64 8,zw 1 64]) (.ret)) (.skip)))) (.seq (.region [zm 65 4,z1 66 166 65,zm 67 5,z1 68 166 67,z2 69 165 66 68,⟨.p 9,.alloc 131 [.iV (0),.ah],none⟩,zs 2 9 69]) (.seq (.draw [(zt 70 2 9,[]),(⟨.l 71,.call (kF 168) [(kI 1)],none⟩,[0]),(z2 72 167 70 71,[]),(zc 73 .neq 72 0,[]),(⟨.l 74,.call (kF 97) [(.l 73),(kI 1)],none⟩,[]),(zw 1 74,[])]) (.ret))))))))
theorem Xh:FT 84=some ⟨75,[0,2,3,4,5,6,7,8,9,10],[.var (.p 1)],JY⟩:=by kernel_rfl
def wH:ak:=.seq (.region [zr 9 .lss 6 5]) (.seq (.cond (.l 9) (.skip) (.exit 0)) (.seq (.block 1 (.seq (.region [⟨.l 10,.dw none 1 (.p 4) (.p 6),none⟩,zd 11 1 10,zw 2 11]) (.seq (.region [zm 12 2,z1 13 84 12,zw 3 13]) (.seq (.region [zm 14 3,zc 15 .neq 14 0]) (.cond (.l 15) (.seq (.region [zm 16 3,zw 1 16]) (.ret)) (.skip)))))) (.region [zq 17 .add 6 1,zw 6 17])))
def JZ:ak:=.seq (.region [zi 1 0]) (.seq (.seq (.region [⟨.p 4,.mv (.p 0),none⟩,⟨.p 5,.len .sl (.p 4),none⟩,zi 6 0]) (.block 0 (.loop wH))) (.seq (.region [zi 1 0]) (.ret)))
theorem Xi:FT 101=some ⟨18,[0,2,4,5,6,7,8],[.var (.p 1)],JZ⟩:=by kernel_rfl
def Ka:ak:=.seq (.region [zx 1 133 4 0,⟨.p 2,.mv (.c (.str [])),none⟩,zi 3 0]) (.seq (.seq (.region [zt 4 4 1,z1 5 175 4]) (.cond (.l 5) (.seq (.region [⟨.p 2,.mv (.c (.str [])),none⟩,zi 3 4]) (.ret)) (.skip))) (.seq (.region [zt 6 4 1,z1 7 176 6,zw 2 7,zi 3 0]) (.ret)))
theorem Xj:FT 105=some ⟨8,[0,1,2,3],[.var (.p 2),.var (.p 3)],Ka⟩:=by kernel_rfl
def Kb:ak:=.seq (.region [⟨.p 3,.mv (.c (.str [])),none⟩,zi 4 0]) (.seq (.seq (.region [zm 9 0,zm 10 1,⟨.l 11,.eu 75 2 1 [.str []] [(0,1,(.l 9)),(1,1,(.l 10))],none⟩,z1 12 101 11,zw 5 12]) (.seq (.region [zm 13 5,zc 14 .neq 13 0]) (.cond (.l 14) (.seq (.region [zm 15 5,⟨.p 3,.mv (.c (.str [])),none⟩,zw 4 15]) (.ret)) (.skip)))) (.seq (.region [zm 16 2,zm 17 0,z1 18 103 17,zm 19 1,z1 20 103 19,⟨.l 21,.call (.l 16) [(.l 18),(.l 20)],none⟩,z1 22 105 21,ze 23 0 22,ze 24 1 22,zw 3 23,zw 4 24]) (.ret)))
theorem Xk:FT 169=some ⟨25,[0,1,2,6,7,8],[.var (.p 3),.var (.p 4)],Kb⟩:=by kernel_rfl
def Kc:ak:=.seq (.region [⟨.p 2,.mv (.c (.str [])),none⟩,zi 3 0]) (.seq (.region [zm 6 0,zm 7 1,⟨.l 8,.call (kF 169) [(.l 6),(.l 7),(kF 151)],none⟩,ze 9 0 8,ze 10 1 8,zw 2 9,zw 3 10]) (.ret))
theorem Xl:FT 85=some ⟨11,[0,1,4,5],[.var (.p 2),.var (.p 3)],Kc⟩:=by kernel_rfl
def Kd:ak:=.seq (.region [⟨.p 2,.mv (.c (.str [])),none⟩,zi 3 0]) (.seq (.region [zm 6 0,zm 7 1,⟨.l 8,.call (kF 169) [(.l 6),(.l 7),(kF 149)],none⟩,ze 9 0 8,ze 10 1 8,zw 2 9,zw 3 10]) (.ret))
theorem Xm:FT 86=some ⟨11,[0,1,4,5],[.var (.p 2),.var (.p 3)],Kd⟩:=by kernel_rfl
def Ke:ak:=.seq (.region [⟨.p 2,.mv (.c (.str [])),none⟩,zi 3 0]) (.seq (.region [zm 6 0,zm 7 1,⟨.l 8,.call (kF 169) [(.l 6),(.l 7),(kF 152)],none⟩,ze 9 0 8,ze 10 1 8,zw 2 9,zw 3 10]) (.ret))
theorem Xn:FT 87=some ⟨11,[0,1,4,5],[.var (.p 2),.var (.p 3)],Ke⟩:=by kernel_rfl
def Kf:ak:=.seq (.region [⟨.p 2,.mv (.c (.str [])),none⟩,zi 3 0]) (.seq (.seq (.region [zm 7 0,zm 8 1,⟨.l 9,.eu 75 2 1 [.str []] [(0,1,(.l 7)),(1,1,(.l 8))],none⟩,z1 10 101 9,zm 11 1,⟨.l 12,.bin .eql (.l 11) (.c (.str [48])),none⟩,⟨.l 13,.call (kF 97) [(.l 12),(kI 6)],none⟩,⟨.l 14,.eu 25 2 1 [.iV (0)] [(0,1,(.l 10)),(1,1,(.l 13))],none⟩,z1 15 96 14,zw 4 15]) (.seq (.region [zm 16 4,zc 17 .neq 16 0]) (.cond (.l 17) (.seq (.region [zm 18 4,⟨.p 2,.mv (.c (.str [])),none⟩,zw 3 18]) (.ret)) (.skip)))) (.seq (.region [zm 19 0,zm 20 1,⟨.l 21,.call (kF 169) [(.l 19),(.l 20),(kF 150)],none⟩,ze 22 0 21,ze 23 1 21,zw 2 22,zw 3 23]) (.ret)))
theorem Xo:FT 88=some ⟨24,[0,1,4,5,6],[.var (.p 2),.var (.p 3)],Kf⟩:=by kernel_rfl
def Kg:ak:=.seq (.region [zi 2 0,zi 3 0]) (.seq (.seq (.region [zm 7 0,zm 8 1,⟨.l 9,.eu 75 2 1 [.str []] [(0,1,(.l 7)),(1,1,(.l 8))],none⟩,z1 10 101 9,zw 4 10]) (.seq (.region [zm 11 4,zc 12 .neq 11 0]) (.cond (.l 12) (.seq (.region [zm 13 4,zi 2 0,zw 3 13]) (.ret)) (.skip)))) (.seq (.region [zm 14 0,z1 15 103 14,zm 16 1,z1 17 103 16,z2 18 148 15 17,zw 2 18,zi 3 0]) (.ret)))
theorem Xp:FT 89=some ⟨19,[0,1,4,5,6],[.var (.p 2),.var (.p 3)],Kg⟩:=by kernel_rfl
def Kh:ak:=.seq (.region [⟨.p 1,.mv (.c (.str [])),none⟩,zi 2 0]) (.seq (.seq (.region [zm 5 0,z1 6 84 5,zw 3 6]) (.seq (.region [zm 7 3,zc 8 .neq 7 0]) (.cond (.l 8) (.seq (.region [zm 9 3,⟨.p 1,.mv (.c (.str [])),none⟩,zw 2 9]) (.ret)) (.skip)))) (.seq (.region [zm 10 0,z1 11 103 10,z1 12 160 11,z1 13 159 12,z1 14 105 13,ze 15 0 14,ze 16 1 14,zw 1 15,zw 2 16]) (.ret)))
theorem Xq:FT 79=some ⟨17,[0,2,3,4],[.var (.p 1),.var (.p 2)],Kh⟩:=by kernel_rfl
end Go.Ab.Ch1

/-
  Own work: the error of a number.
-/
namespace Go.Ab.Ch1
open Go.Ab.bz
variable {M:aO} {cap:Option Nat} {N N2:Nat}
def dy (s:al):Bool:=decide (s≠[]) && s.all bF && (decide (s[0]! ≠ 48) || decide (s=[48]))
theorem Xr (hft:M.FT=FT)(s:al)(q257:∀h,M.ext 257 [.str s,.str ml] h=some ⟨.str (jB (iw s)),h,[]⟩):aZ M 209 [.str s] [] ⟨.bool (decide (s≠[]) && s.all bF),[],[]⟩:=by
 refine bT (by rw[hft];exact Wg) (by simp) ?_
 unfold Jv
 simp only[enter]
 by_cases h0:s=[]
 . rw[decide_eq_false (by simpa using h0),Bool.false_and]
   repeat' first|(apply WO.jL;rfl;rfl;all_goals first|(intro h;exact absurd h0 h)|intro _)|apply W.seq|apply ab|apply W.region|apply WO.nil|apply W.ret|(apply WO.sT;rfl)|(apply WO.bx;rfl;rfl)|(apply WO.pl;rfl;rfl)|(apply WO.pp;rfl;rfl)
   all_goals exact⟨.inr rfl,rfl,_,rfl,rfl,rfl⟩
 . rw[decide_eq_true h0,Bool.true_and]
   have ht:=JP s
   cases hd:s.all bF with
   | true=>
    rw[ht.2 hd]at q257
    repeat' first|(apply WO.jL;rfl;rfl;all_goals first|(intro h;exact absurd h h0)|intro _)|apply W.seq|apply ab|apply W.region|apply WO.nil|apply W.ret|(apply WO.gT;rfl)|(apply WO.bn;rfl;rfl)|(apply WO.ay;rfl;rfl;first|exact q257 _)|(apply WO.dU;rfl;rfl;all_goals first|(intro h;exact absurd h (by decide))|(intro h;exact absurd rfl h)|(intro h;contradiction)|intro _)|(apply WO.pl;rfl;rfl)|(apply WO.pp;rfl;rfl)
    all_goals exact⟨.inr rfl,rfl,_,rfl,rfl,rfl⟩
   | false=>
    have hne:jB (iw s)≠[]:=fun e=>by rw[ht.1 e]at hd;cases hd
    repeat' first|(apply WO.jL;rfl;rfl;all_goals first|(intro h;exact absurd h h0)|intro _)|(apply WO.dU;rfl;rfl;all_goals first|(intro h;exact absurd h hne)|intro _)|apply W.seq|apply ab|apply W.region|apply WO.nil|apply W.ret|(apply WO.gT;rfl)|(apply WO.bn;rfl;rfl)|(apply WO.ay;rfl;rfl;first|exact q257 _)|(apply WO.pl;rfl;rfl)|(apply WO.pp;rfl;rfl)
    all_goals exact⟨.inr rfl,rfl,_,rfl,rfl,rfl⟩
theorem Xs (hft:M.FT=FT)(s:al)(q209:∀h,M.ext 209 [.str s] h=some ⟨.bool (decide (s≠[]) && s.all bF),h,[]⟩):aZ M 164 [.str s] [] ⟨.bool (dy s),[],[]⟩:=by
 refine bT (by rw[hft];exact Wn) (by simp) ?_
 unfold dy
 unfold JA
 simp only[enter]
 cases hb:(decide (s≠[]) && s.all bF) with
 | false=>
  rw[hb]at q209
  rw[Bool.false_and]
  repeat' first|apply W.seq|apply ab|apply W.region|apply WO.nil|apply W.ret|(apply WO.sT;rfl)|(apply WO.sU;rfl)|(apply WO.bx;rfl;rfl)|(apply WO.ay;rfl;rfl;first|exact q209 _)|(apply WO.pl;rfl;rfl)|(apply WO.pp;rfl;rfl)
  all_goals exact⟨.inr rfl,rfl,_,rfl,rfl,rfl⟩
 | true=>
  rw[hb]at q209
  rw[Bool.true_and]
  have hne:s≠[]:=by
   rw[Bool.and_eq_true]at hb
   exact of_decide_eq_true hb.1
  have hpos:0<s.length:=List.length_pos_iff.2 hne
  by_cases h48:s[0]! = 48
  . rw[decide_eq_false (by simpa using h48),Bool.false_or]
    have e48:((s[(0:Int).toNat]!).toNat:Int)=48:=by rw[show s[(0:Int).toNat]! = s[0]! from rfl,h48];rfl
    by_cases hs:s=[48]
    . rw[decide_eq_true hs]
      repeat' first|(apply WO.dU;rfl;rfl;all_goals first|(intro h;exact absurd hs h)|intro _)|apply W.seq|apply ab|apply W.region|apply WO.nil|apply W.ret|(apply WO.gT;rfl)|(apply WO.gF;rfl)|(apply WO.neq;rfl;rfl)|(apply WO.bn;rfl;rfl)|(apply WO.bx;rfl;rfl)|(apply WO.ay;rfl;rfl;first|exact q209 _)|(apply WO.idx;rfl;rfl;omega)|(apply WO.pl;rfl;rfl)|(apply WO.pp;rfl;rfl)|(intro _;omega)|intro _
      all_goals try omega
      all_goals exact⟨.inr rfl,rfl,_,rfl,rfl,rfl⟩
    . rw[decide_eq_false hs]
      repeat' first|(apply WO.dU;rfl;rfl;all_goals first|(intro h;exact absurd h hs)|intro _)|apply W.seq|apply ab|apply W.region|apply WO.nil|apply W.ret|(apply WO.gT;rfl)|(apply WO.gF;rfl)|(apply WO.neq;rfl;rfl)|(apply WO.bn;rfl;rfl)|(apply WO.bx;rfl;rfl)|(apply WO.ay;rfl;rfl;first|exact q209 _)|(apply WO.idx;rfl;rfl;omega)|(apply WO.pl;rfl;rfl)|(apply WO.pp;rfl;rfl)|(intro _;omega)|intro _
      all_goals try omega
      all_goals exact⟨.inr rfl,rfl,_,rfl,rfl,rfl⟩
  . rw[decide_eq_true (show s[0]! ≠ 48 from h48),Bool.true_or]
    have e48:((s[(0:Int).toNat]!).toNat:Int)≠48:=fun e=>h48 (UInt8.toNat_inj.1 (by rw[show s[(0:Int).toNat]! = s[0]! from rfl]at e;have:(48:UInt8).toNat=48:=rfl;omega))
    repeat' first|apply W.seq|apply ab|apply W.region|apply WO.nil|apply W.ret|(apply WO.gT;rfl)|(apply WO.sF;rfl)|(apply WO.neq;rfl;rfl)|(apply WO.bn;rfl;rfl)|(apply WO.ay;rfl;rfl;first|exact q209 _)|(apply WO.idx;rfl;rfl;omega)|(apply WO.pl;rfl;rfl)|(apply WO.pp;rfl;rfl)|(intro _;omega)|intro _
    all_goals try omega
    all_goals exact⟨.inr rfl,rfl,_,rfl,rfl,rfl⟩
end Go.Ab.Ch1

/-
  Own work: the error of a number: the whole function.
-/
namespace Go.Ab.Ch1
open Go.Ab.bz
variable {M:aO} {cap:Option Nat} {N N2:Nat}
theorem WO.max2 {t:Nat}{x y:aN}{l:List aU}{pe:List AV}{lo:List (Nat×AV)}{hp:ae}{df wr:List Nat}{k:IntKind}{a b:Int}{Q:aq->Prop}{m:Int}(hx:(St.mk pe lo hp df).aa x=some (.int k a))(hy:(St.mk pe lo hp df).aa y=some (.int k b))(hm:m=a/\b<=a\/m=b/\a<=b)
 (h:WO M l ⟨⟨pe,(t,.int k m)::lo,hp,df⟩,wr⟩ Q):WO M (⟨.l t,.mm true [x,y],none⟩::l) ⟨⟨pe,lo,hp,df⟩,wr⟩ Q:=by
 refine WO.pl (v:=.int k m) ?_ rfl h
 simp only[aV,St.ck,hx,hy]
 have e:(if a<b then b else a)=m:=by split <;> omega
 simp[mE,e]
def cC (s:al):al:=(bI 47 (bJ 45 s)).1
def dk (s:al):al:=(bI 47 (bJ 45 s)).2.getD []
def gC (s:al):Bool:=(bI 47 (bJ 45 s)).2.isSome
def iN (s:al):Bool:=dy (cC s) && !(preB 45 s && decide (cC s=[48])) && (!gC s || (dy (dk s) && decide (dk s≠[48]) && decide (dk s≠[49])))
def fE (a b:Nat):Bool:=!(Nat.gcd a b == 1)
def eo (s:al):Int:=if iN s=false then 1 else if 600<(cC s).length\/600<(dk s).length then 4 else if gC s=true/\fE (aM 0 (cC s)) (aM 0 (dk s))=true then 1 else 0
structure Cf (M:aO)(N:Nat):Prop extends kN M N where
 Ki:∀(s:al) h,s.length<1000000->M.ext 162 [.str s,.str [45]] h=some ⟨.ao [.str (bJ 45 s),.bool (preB 45 s)],h,[]⟩
 Cg:∀(s:al) h,s.length<1000000->M.ext 164 [.str s] h=some ⟨.bool (dy s),h,[]⟩
 rT:∀a b x y,aL a x->aL b y->an x<wB^N->an y<wB^N->∃v0,aL v0 (Int.gcd x y:Nat)/\∀h,M.ext 165 [a,b] h=some ⟨v0,h,[]⟩
 mn:∀t (e:Int) h,M.ext 97 [.bool t,.iV e] h=some ⟨.iV (if t then e else 0),h,[]⟩
 mq:∀v h l,jr h v=some l->l.length<1000->M.ext 96 [v] h=some ⟨.iV (dM l),h,[]⟩
theorem sE {s:al}(h:dy s=true):s≠[]/\s.all bF=true:=by
 simp only[dy,Bool.and_eq_true,decide_eq_true_eq]at h
 exact h.1
theorem Xt {s:al}(h:s.all bF=true):preB 45 s=false:=by
 rw[preB,decide_eq_false_iff_not]
 intro e
 cases s with
 | nil=>simp at e
 | cons c t=>
  simp at e
  subst e
  simp[List.all_cons]at h
  exact absurd h.1 (by decide)
theorem kN.Kj (C:kN M N)(s:al)(hl:s.length<=N)(h:s.all bF=true):∃v0,aL v0 (aM 0 s:Nat)/\∀h,M.ext 166 [.str s] h=some ⟨v0,h,[]⟩:=by
 have hp:=Xt h
 have hc:=jY hp
 obtain⟨v0,h0,q⟩:=C.Ce s hl (by rw[hc];exact h)
 rw[hp,hc]at h0
 exact⟨v0,h0,q⟩
theorem sG (b:UInt8)(s:al):(bI b s).1.length<=s.length:=by
 cases h:(bI b s).2 with
 | none=>rw[(nM h).1];exact Nat.le_refl _
 | some y=>have:=sB h;omega
theorem Ch (b:UInt8)(s:al):((bI b s).2.getD []).length<=s.length:=by
 cases h:(bI b s).2 with
 | none=>exact Nat.zero_le _
 | some y=>have:=sB h;simp;omega
def pY:ak:=
 .seq (.region [zm 46 7,
          zu 47 46,
          ⟨(.l 48),.call (kF 97) [(.l 47),(kI 1)],none⟩,
          zm 49 4,
          zL 50 49,
          zm 51 5,
          zL 52 51,
          ⟨(.l 53),.mm true [(.l 50),(.l 52)],none⟩,
          zc 54 .gtr 53 600,
          ⟨(.l 55),.call (kF 97) [(.l 54),(kI 4)],none⟩,
          ⟨(.l 56),.eu 25 2 1 [.iV (0)] [(0,1,(.l 48)),(1,1,(.l 55))],none⟩,
          z1 57 96 56,
          zw 8 57])
        (
         .seq (.region [zm 58 8,
           zc 59 .neq 58 0,
           zn 60 59,
           zg (zm 61 6) 60 false,
           zg (zu 62 61) 60 false,
           zP 63 60 62])
         (
          .cond (.l 63)
          (
           .seq (.region [zm 64 8,
             zw 1 64])
           (.ret))
          (.skip)))
def pZ:ak:=
 .seq (.region [zm 65 4,
          z1 66 166 65,
          zm 67 5,
          z1 68 166 67,
          z2 69 165 66 68,
          ⟨(.p 9),.alloc 131 [.iV (0),.ah],none⟩,
          zs 2 9 69])
        (
         .seq (.draw [(zt 70 2 9,[]),
           (⟨(.l 71),.call (kF 168) [(kI 1)],none⟩,[0]),
           (z2 72 167 70 71,[]),
           (zc 73 .neq 72 0,[]),
           (⟨(.l 74),.call (kF 97) [(.l 73),(kI 1)],none⟩,[]),
           (zw 1 74,[])])
         (.ret))
def Ci (res:List eK)(r:Int)(e:Ex)(s:aq):Prop:=(e = .normal\/e = .ret)/\s.s.bU=[]/\∃vs,dm s.s res=some vs/\bg vs = .iV r/\(if (AV.iV r).top<=0 then [] else s.s.hp)=[]
theorem ix {res:List eK}{r r':Int}{e:Ex}{s:aq}{vs:List AV}(he:e = .normal\/e = .ret)(hd:s.s.bU=[])(hv:dm s.s res=some vs)(ht:bg vs = .iV r')(hr:r'=r):Ci res r e s:=by
 subst hr
 exact⟨he,hd,vs,hv,ht,rfl⟩
theorem jd (C:Cf M N)(hN:600<=N)(F B:Bool)(top bot:al)(hl:top.length<1000000/\bot.length<1000000)(hd:F=true->top.all bF=true/\(B=true->bot.all bF=true))(a0 a1 a2 a3 a8 a9:AV)(lo:List (Nat×AV))(wr:List Nat) :
 W M (.seq pY pZ) ⟨⟨[a0,a1,a2,a3,.str top,.str bot,.bool B,.bool F,a8,a9],lo,[],[]⟩,wr⟩ (Ci [.var (.p 1)] (if F=false then 1 else if 600<top.length\/600<bot.length then 4 else if B=true/\fE (aM 0 top) (aM 0 bot)=true then 1 else 0)):=by
 have t1:∀h,M.ext 97 [.bool true,.iV 1] h=some ⟨.iV 1,h,[]⟩:=fun h=>C.mn true 1 h
 have f1:∀h,M.ext 97 [.bool false,.iV 1] h=some ⟨.iV 0,h,[]⟩:=fun h=>C.mn false 1 h
 have t4:∀h,M.ext 97 [.bool true,.iV 4] h=some ⟨.iV 4,h,[]⟩:=fun h=>C.mn true 4 h
 have f4:∀h,M.ext 97 [.bool false,.iV 4] h=some ⟨.iV 0,h,[]⟩:=fun h=>C.mn false 4 h
 have g14:∀v h,jr h v=some [1,4]->M.ext 96 [v] h=some ⟨.iV 1,h,[]⟩:=fun v h e=>C.mq v h _ e (by decide)
 have g10:∀v h,jr h v=some [1,0]->M.ext 96 [v] h=some ⟨.iV 1,h,[]⟩:=fun v h e=>C.mq v h _ e (by decide)
 have g04:∀v h,jr h v=some [0,4]->M.ext 96 [v] h=some ⟨.iV 4,h,[]⟩:=fun v h e=>C.mq v h _ e (by decide)
 have g00:∀v h,jr h v=some [0,0]->M.ext 96 [v] h=some ⟨.iV 0,h,[]⟩:=fun v h e=>C.mq v h _ e (by decide)
 obtain⟨m,hm⟩:∃m:Int,m=top.length/\(bot.length:Int)<=top.length\/m=bot.length/\(top.length:Int)<=bot.length:=by
  by_cases h:bot.length<=top.length
  . exact⟨_,.inl ⟨rfl,by omega⟩⟩
  . exact⟨_,.inr ⟨rfl,by omega⟩⟩
 cases F with
 | false=>
  rw[if_pos rfl]
  unfold pY pZ
  repeat' first|(apply WO.max2 (m:=m);rfl;rfl;exact hm)|apply W.seq|apply ab|apply W.region|apply WO.nil|apply W.ret|apply ba|(apply W.ax;rfl)|(apply WO.sF;rfl)|(apply WO.gtr;rfl;rfl)|(apply WO.neq;rfl;rfl)|(apply WO.bn;rfl;rfl)|(apply WO.ay;rfl;rfl;first|exact t1 _|exact f1 _|exact t4 _|exact f4 _)|(apply WO.ay;rfl;rfl;first|exact g14 _ _ rfl|exact g10 _ _ rfl)|(apply WO.aT;rfl;rfl;rfl)|(apply WO.pl;rfl;rfl)|(apply WO.pp;rfl;rfl)|(intro _;omega)|intro _
  all_goals try omega
  all_goals exact ix (.inr rfl) rfl rfl rfl rfl
 | true=>
  rw[if_neg (by decide)]
  by_cases hb:600<top.length\/600<bot.length
  . rw[if_pos hb]
    unfold pY pZ
    repeat' first|(apply WO.max2 (m:=m);rfl;rfl;exact hm)|apply W.seq|apply ab|apply W.region|apply WO.nil|apply W.ret|apply ba|(apply W.ax;rfl)|(apply WO.sF;rfl)|(apply WO.gtr;rfl;rfl)|(apply WO.neq;rfl;rfl)|(apply WO.bn;rfl;rfl)|(apply WO.ay;rfl;rfl;first|exact t1 _|exact f1 _|exact t4 _|exact f4 _)|(apply WO.ay;rfl;rfl;first|exact g04 _ _ rfl|exact g00 _ _ rfl)|(apply WO.aT;rfl;rfl;rfl)|(apply WO.pl;rfl;rfl)|(apply WO.pp;rfl;rfl)|(intro _;omega)|intro _
    all_goals try omega
    all_goals exact ix (.inr rfl) rfl rfl rfl rfl
  . rw[if_neg hb]
    cases B with
    | false=>
     rw[if_neg (by simp)]
     unfold pY pZ
     repeat' first|(apply WO.max2 (m:=m);rfl;rfl;exact hm)|apply W.seq|apply ab|apply W.region|apply WO.nil|apply W.ret|apply ba|(apply W.ax;rfl)|(apply WO.gF;rfl)|(apply WO.gtr;rfl;rfl)|(apply WO.neq;rfl;rfl)|(apply WO.bx;rfl;rfl)|(apply WO.ay;rfl;rfl;first|exact t1 _|exact f1 _|exact t4 _|exact f4 _)|(apply WO.ay;rfl;rfl;first|exact g04 _ _ rfl|exact g00 _ _ rfl)|(apply WO.aT;rfl;rfl;rfl)|(apply WO.pl;rfl;rfl)|(apply WO.pp;rfl;rfl)|(intro _;omega)|intro _
     all_goals try omega
     all_goals exact ix (.inr rfl) rfl rfl rfl rfl
    | true=>
     obtain⟨hta,hba⟩:=hd rfl
     have hba:=hba rfl
     obtain⟨va,ka,qa⟩:=C.Kj top (by omega) hta
     obtain⟨vb,kb,qb⟩:=C.Kj bot (by omega) hba
     have la:=nO (N:=N) hta (by omega)
     have lb:=nO (N:=N) hba (by omega)
     obtain⟨vg,kg,qg⟩:=C.rT va vb _ _ ka kb la lb
     obtain⟨g,hg⟩:∃g,g=Nat.gcd (aM 0 top) (aM 0 bot):=⟨_,rfl⟩
     have kg:aL vg (g:Int):=by rw[hg];exact kg
     have lg:an (g:Int)<wB^N:=by
      rw[cQ (by omega)]at la lb ⊢
      rw[hg]
      rcases Nat.eq_zero_or_pos (aM 0 top) with h0|h0
      . rw[h0,Nat.gcd_zero_left];exact lb
      . have:=Nat.gcd_le_left (aM 0 bot) h0
        omega
     have q168:=C.ny 1
     have q167:=C.AS _ (.agg [.iV 1,.ah]) _ 1 kg (.small (by decide)) lg (nO (s:=[49]) (by decide) (by
                                                                                                                             have:([49]:al).length=1:=rfl
                                                                                                                             omega))
     obtain⟨sg,wg,rfl,og,_⟩:=kg.shape
     by_cases h1:g=1
     . have hc:fE (aM 0 top) (aM 0 bot)=false:=by rw[fE,←hg,h1];rfl
       rw[if_neg (by rw[hc];simp)]
       subst h1
       rw[show bD (((1:Nat):Int)-1)=0 by rfl]at q167
       unfold pY pZ
       repeat' first|(apply WO.max2 (m:=m);rfl;rfl;exact hm)|(apply WO.ay;rfl;rfl;first|exact q168 _|exact q167 _|exact t1 _|exact f1 _)|(apply WD.dL;rfl;rfl;(first|(simp only[nca];rfl)|rfl);first|exact q168 _|exact q167 _|exact t1 _|exact f1 _)|(apply WO.cJ;rfl;rfl;rfl;exact⟨rfl,Nat.le_refl _,by simp[overwrite,dx,eE,og]⟩;rfl)|apply W.seq|apply ab|apply W.region|apply WO.nil|apply W.ret|apply W.skip|apply W.draw|apply WD.nil|(apply WD.dE;rfl)|(apply WD.dc;rfl;rfl;(first|(simp only[nca];rfl)|rfl))|(apply W.aw;rfl)|(apply WO.gF;rfl)|(apply WO.gtr;rfl;rfl)|(apply WO.neq;rfl;rfl)|(apply WO.bx;rfl;rfl)|(apply WO.ay;rfl;rfl;first|exact t1 _|exact f1 _|exact t4 _|exact f4 _|exact qa _|exact qb _|exact qg _)|(apply WO.ay;rfl;rfl;first|exact g04 _ _ rfl|exact g00 _ _ rfl)|(apply WO.aT;rfl;rfl;rfl)|(apply WO.aX;rfl;rfl;rfl)|(apply WO.pl;rfl;rfl)|(apply WO.pp;rfl;rfl)|(intro _;omega)|intro _
       all_goals try omega
       all_goals exact ix (.inr rfl) rfl rfl rfl rfl
     . have hc:fE (aM 0 top) (aM 0 bot)=true:=by rw[fE,←hg];simp[h1]
       rw[if_pos ⟨rfl,hc⟩]
       obtain⟨z,hz⟩:∃z,z=bD ((g:Int)-1):=⟨_,rfl⟩
       have z0:z≠0:=by rw[hz];unfold bD;split <;> (first|omega|(split <;> omega))
       rw[←hz]at q167
       unfold pY pZ
       repeat' first|(apply WO.max2 (m:=m);rfl;rfl;exact hm)|(apply WO.ay;rfl;rfl;first|exact q168 _|exact q167 _|exact t1 _|exact f1 _)|(apply WD.dL;rfl;rfl;(first|(simp only[nca];rfl)|rfl);first|exact q168 _|exact q167 _|exact t1 _|exact f1 _)|(apply WO.cJ;rfl;rfl;rfl;exact⟨rfl,Nat.le_refl _,by simp[overwrite,dx,eE,og]⟩;rfl)|apply W.seq|apply ab|apply W.region|apply WO.nil|apply W.ret|apply W.skip|apply W.draw|apply WD.nil|(apply WD.dE;rfl)|(apply WD.dc;rfl;rfl;(first|(simp only[nca];rfl)|rfl))|(apply W.aw;rfl)|(apply WO.gF;rfl)|(apply WO.gtr;rfl;rfl)|(apply WO.neq;rfl;rfl)|(apply WO.bx;rfl;rfl)|(apply WO.ay;rfl;rfl;first|exact t1 _|exact f1 _|exact t4 _|exact f4 _|exact qa _|exact qb _|exact qg _)|(apply WO.ay;rfl;rfl;first|exact g04 _ _ rfl|exact g00 _ _ rfl)|(apply WO.aT;rfl;rfl;rfl)|(apply WO.aX;rfl;rfl;rfl)|(apply WO.pl;rfl;rfl)|(apply WO.pp;rfl;rfl)|(intro _;omega)|intro _
       all_goals try omega
       all_goals exact ix (.inr rfl) rfl rfl rfl rfl
theorem Xu (C:Cf M N)(hN:600<=N)(s:al)(hl:s.length<1000000):aZ M 84 [.str s] [] ⟨.iV (eo s),[],[]⟩:=by
 have hcl:=sC 45 s
 have htl:(cC s).length<=s.length:=Nat.le_trans (sG 47 _) hcl
 have hbl:(dk s).length<=s.length:=Nat.le_trans (Ch 47 _) hcl
 have q162:=fun h=>C.Ki s h hl
 have q163:=fun h=>C.Cd (bJ 45 s) h (by omega)
 have ecut:ie 47 (bJ 45 s) = .ao [.str (cC s),.str (dk s),.bool (gC s)]:=rfl
 rw[ecut]at q163
 have q164a:=fun h=>C.Cg (cC s) h (by omega)
 have q164b:=fun h=>C.Cg (dk s) h (by omega)
 have hform:iN s=(dy (cC s) && !(preB 45 s && decide (cC s=[48])) && (!gC s || (dy (dk s) && decide (dk s≠[48]) && decide (dk s≠[49])))):=rfl
 have hchk:eo s=if iN s=false then 1 else if 600<(cC s).length\/600<(dk s).length then 4 else if gC s=true/\fE (aM 0 (cC s)) (aM 0 (dk s))=true then 1 else 0:=rfl
 have dA:=fun h=>(sE (s:=cC s) h).2
 have dC:=fun h=>(sE (s:=dk s) h).2
 rw[hchk]
 clear hchk ecut
 refine bT (by rw[C.ft];exact Xh) (by simp) ?_
 generalize cC s=top at *
 generalize dk s=bot at *
 generalize iN s=F at *
 generalize gC s=B at *
 generalize preB 45 s=P at *
 have ll:top.length<1000000/\bot.length<1000000:=⟨by omega,by omega⟩
 unfold JY
 simp only[enter]
 cases hA:dy top with
 | false=>
  rw[hA]at q164a hform
  simp only[Bool.false_and]at hform
  subst hform
  cases B
  all_goals
  . repeat' first|(exact jd C hN _ _ top bot ll (fun h=>by cases h) _ _ _ _ _ _ _ _)|apply W.seq|apply ab|apply W.region|apply WO.nil|apply W.skip|(apply W.ax;rfl)|(apply W.aw;rfl)|(apply WO.sT;rfl)|(apply WO.sU;rfl)|(apply WO.bx;rfl;rfl)|(apply WO.ay;rfl;rfl;first|exact q162 _|exact q163 _|exact q164a _)|(apply WO.pl;rfl;rfl)|(apply WO.pp;rfl;rfl)
 | true=>
  rw[hA]at q164a hform
  simp only[Bool.true_and]at hform
  have dA:=dA hA
  by_cases hz:P=true/\top=[48]
  . obtain⟨rfl,hz⟩:=hz
    rw[decide_eq_true hz]at hform
    simp only[Bool.and_self,Bool.not_true,Bool.false_and]at hform
    subst hform
    cases B
    all_goals
    . repeat' first|(exact jd C hN _ _ top bot ll (fun h=>by cases h) _ _ _ _ _ _ _ _)|(apply WO.dU;rfl;rfl;all_goals first|(intro h;exact absurd hz h)|intro _)|apply W.seq|apply ab|apply W.region|apply WO.nil|apply W.skip|(apply W.ax;rfl)|(apply W.aw;rfl)|(apply WO.gT;rfl)|(apply WO.sT;rfl)|(apply WO.bn;rfl;rfl)|(apply WO.bx;rfl;rfl)|(apply WO.ay;rfl;rfl;first|exact q162 _|exact q163 _|exact q164a _)|(apply WO.pl;rfl;rfl)|(apply WO.pp;rfl;rfl)
  . have hpz:(P && decide (top=[48]))=false:=by
     cases P with
     | false=>rfl
     | true=>rw[decide_eq_false (fun e=>hz ⟨rfl,e⟩)];rfl
    rw[hpz]at hform
    simp only[Bool.not_false,Bool.true_and]at hform
    cases B with
    | false=>
     simp only[Bool.not_false,Bool.true_or]at hform
     subst hform
     cases P with
     | false=>
      repeat' first|(exact jd C hN _ _ top bot ll (fun _=>⟨dA,fun h=>by cases h⟩) _ _ _ _ _ _ _ _)|apply W.seq|apply ab|apply W.region|apply WO.nil|apply W.skip|(apply W.aw;rfl)|(apply WO.gT;rfl)|(apply WO.sT;rfl)|(apply WO.bn;rfl;rfl)|(apply WO.bx;rfl;rfl)|(apply WO.ay;rfl;rfl;first|exact q162 _|exact q163 _|exact q164a _)|(apply WO.pl;rfl;rfl)|(apply WO.pp;rfl;rfl)
     | true=>
      have hz:¬top=[48]:=fun e=>hz ⟨rfl,e⟩
      repeat' first|(exact jd C hN _ _ top bot ll (fun _=>⟨dA,fun h=>by cases h⟩) _ _ _ _ _ _ _ _)|(apply WO.dU;rfl;rfl;all_goals first|(intro h;exact absurd h hz)|intro _)|apply W.seq|apply ab|apply W.region|apply WO.nil|apply W.skip|(apply W.aw;rfl)|(apply WO.gT;rfl)|(apply WO.bn;rfl;rfl)|(apply WO.ay;rfl;rfl;first|exact q162 _|exact q163 _|exact q164a _)|(apply WO.pl;rfl;rfl)|(apply WO.pp;rfl;rfl)
    | true=>
     simp only[Bool.not_true,Bool.false_or]at hform
     cases hC:dy bot with
     | false=>
      rw[hC]at q164b hform
      simp only[Bool.false_and]at hform
      subst hform
      cases P with
      | false=>
       repeat' first|(exact jd C hN _ _ top bot ll (fun h=>by cases h) _ _ _ _ _ _ _ _)|apply W.seq|apply ab|apply W.region|apply WO.nil|(apply W.ax;rfl)|(apply WO.gT;rfl)|(apply WO.sT;rfl)|(apply WO.bn;rfl;rfl)|(apply WO.bx;rfl;rfl)|(apply WO.ay;rfl;rfl;first|exact q162 _|exact q163 _|exact q164a _|exact q164b _)|(apply WO.pl;rfl;rfl)|(apply WO.pp;rfl;rfl)
      | true=>
       have hz:¬top=[48]:=fun e=>hz ⟨rfl,e⟩
       repeat' first|(exact jd C hN _ _ top bot ll (fun h=>by cases h) _ _ _ _ _ _ _ _)|(apply WO.dU;rfl;rfl;all_goals first|(intro h;exact absurd h hz)|intro _)|apply W.seq|apply ab|apply W.region|apply WO.nil|(apply W.ax;rfl)|(apply WO.gT;rfl)|(apply WO.sT;rfl)|(apply WO.bn;rfl;rfl)|(apply WO.bx;rfl;rfl)|(apply WO.ay;rfl;rfl;first|exact q162 _|exact q163 _|exact q164a _|exact q164b _)|(apply WO.pl;rfl;rfl)|(apply WO.pp;rfl;rfl)
     | true=>
      rw[hC]at q164b hform
      simp only[Bool.true_and]at hform
      have dC:=dC hC
      by_cases h48:bot=[48]
      . rw[decide_eq_false (show ¬bot≠[48] from fun h=>h h48)]at hform
        simp only[Bool.false_and]at hform
        subst hform
        cases P with
        | false=>
         repeat' first|(exact jd C hN _ _ top bot ll (fun h=>by cases h) _ _ _ _ _ _ _ _)|(apply WO.jL;rfl;rfl;all_goals first|(intro h;exact absurd h48 h)|intro _)|apply W.seq|apply ab|apply W.region|apply WO.nil|(apply W.ax;rfl)|(apply WO.gT;rfl)|(apply WO.sT;rfl)|(apply WO.bn;rfl;rfl)|(apply WO.bx;rfl;rfl)|(apply WO.ay;rfl;rfl;first|exact q162 _|exact q163 _|exact q164a _|exact q164b _)|(apply WO.pl;rfl;rfl)|(apply WO.pp;rfl;rfl)
        | true=>
         have hz:¬top=[48]:=fun e=>hz ⟨rfl,e⟩
         repeat' first|(exact jd C hN _ _ top bot ll (fun h=>by cases h) _ _ _ _ _ _ _ _)|(apply WO.dU;rfl;rfl;all_goals first|(intro h;exact absurd h hz)|intro _)|(apply WO.jL;rfl;rfl;all_goals first|(intro h;exact absurd h48 h)|intro _)|apply W.seq|apply ab|apply W.region|apply WO.nil|(apply W.ax;rfl)|(apply WO.gT;rfl)|(apply WO.sT;rfl)|(apply WO.bn;rfl;rfl)|(apply WO.bx;rfl;rfl)|(apply WO.ay;rfl;rfl;first|exact q162 _|exact q163 _|exact q164a _|exact q164b _)|(apply WO.pl;rfl;rfl)|(apply WO.pp;rfl;rfl)
      . rw[decide_eq_true (show bot≠[48] from h48)]at hform
        simp only[Bool.true_and]at hform
        by_cases h49:bot=[49]
        . rw[decide_eq_false (show ¬bot≠[49] from fun h=>h h49)]at hform
          subst hform
          cases P with
          | false=>
           repeat' first|(exact jd C hN _ _ top bot ll (fun h=>by cases h) _ _ _ _ _ _ _ _)|(apply WO.jL;rfl;rfl;all_goals first|(intro h;exact absurd h h48)|(intro h;exact absurd h49 h)|intro _)|apply W.seq|apply ab|apply W.region|apply WO.nil|(apply W.ax;rfl)|(apply WO.gT;rfl)|(apply WO.sT;rfl)|(apply WO.bn;rfl;rfl)|(apply WO.bx;rfl;rfl)|(apply WO.ay;rfl;rfl;first|exact q162 _|exact q163 _|exact q164a _|exact q164b _)|(apply WO.pl;rfl;rfl)|(apply WO.pp;rfl;rfl)
          | true=>
           have hz:¬top=[48]:=fun e=>hz ⟨rfl,e⟩
           repeat' first|(exact jd C hN _ _ top bot ll (fun h=>by cases h) _ _ _ _ _ _ _ _)|(apply WO.dU;rfl;rfl;all_goals first|(intro h;exact absurd h hz)|intro _)|(apply WO.jL;rfl;rfl;all_goals first|(intro h;exact absurd h h48)|(intro h;exact absurd h49 h)|intro _)|apply W.seq|apply ab|apply W.region|apply WO.nil|(apply W.ax;rfl)|(apply WO.gT;rfl)|(apply WO.bn;rfl;rfl)|(apply WO.ay;rfl;rfl;first|exact q162 _|exact q163 _|exact q164a _|exact q164b _)|(apply WO.pl;rfl;rfl)|(apply WO.pp;rfl;rfl)
        . rw[decide_eq_true (show bot≠[49] from h49)]at hform
          subst hform
          cases P with
          | false=>
           repeat' first|(exact jd C hN _ _ top bot ll (fun _=>⟨dA,fun _=>dC⟩) _ _ _ _ _ _ _ _)|(apply WO.jL;rfl;rfl;all_goals first|(intro h;exact absurd h h48)|(intro h;exact absurd h h49)|intro _)|apply W.seq|apply ab|apply W.region|apply WO.nil|(apply W.ax;rfl)|(apply WO.gT;rfl)|(apply WO.sT;rfl)|(apply WO.bn;rfl;rfl)|(apply WO.bx;rfl;rfl)|(apply WO.ay;rfl;rfl;first|exact q162 _|exact q163 _|exact q164a _|exact q164b _)|(apply WO.pl;rfl;rfl)|(apply WO.pp;rfl;rfl)
          | true=>
           have hz:¬top=[48]:=fun e=>hz ⟨rfl,e⟩
           repeat' first|(exact jd C hN _ _ top bot ll (fun _=>⟨dA,fun _=>dC⟩) _ _ _ _ _ _ _ _)|(apply WO.dU;rfl;rfl;all_goals first|(intro h;exact absurd h hz)|intro _)|(apply WO.jL;rfl;rfl;all_goals first|(intro h;exact absurd h h48)|(intro h;exact absurd h h49)|intro _)|apply W.seq|apply ab|apply W.region|apply WO.nil|(apply W.ax;rfl)|(apply WO.gT;rfl)|(apply WO.bn;rfl;rfl)|(apply WO.ay;rfl;rfl;first|exact q162 _|exact q163 _|exact q164a _|exact q164b _)|(apply WO.pl;rfl;rfl)|(apply WO.pp;rfl;rfl)
end Go.Ab.Ch1

/-
  Own work: operations on numbers as texts.
-/
namespace Go.Ab.Ch1
open Go.Ab.bz
variable {M:aO} {cap:Option Nat} {N N2:Nat}
theorem Cj {h:ae}{b:Nat}{a c:AV}{e:TypeId}{cp:Option Nat}(ha:pd a=true)(hc:pd c=true)(hb:h.at b=some (.cells [a,c] e)):dr h (.sl b 0 2 1 cp) (.vs [a,c] 2 none):=
 .sl (m:=[a,c]) hb rfl rfl fun i x y hx hy=>by
  match i,hx,hy with
  | 0,hx,hy=>cases hx;cases hy;exact .atom ha
  | 1,hx,hy=>cases hx;cases hy;exact .atom hc
theorem Xv (hft:M.FT=FT)(a b:al)(ea eb:Int)(q84a:∀h,M.ext 84 [.str a] h=some ⟨.iV ea,h,[]⟩)(q84b:∀h,M.ext 84 [.str b] h=some ⟨.iV eb,h,[]⟩):aZ M 101 [.vs [.str a,.str b] 2 cap] [] ⟨.iV (dM [ea,eb]),[],[]⟩:=by
 refine bT (by rw[hft];exact Xi) (by simp) ?_
 unfold JZ
 simp only[enter]
 by_cases ha:ea=0
 . rw[show dM [ea,eb]=dM [eb] by simp[dM,ha]]
   by_cases hb:eb=0
   . rw[show dM [eb]=0 by simp[dM,hb]]
     repeat' first|apply W.seq|apply ab|apply W.region|apply WO.nil|apply W.block|(apply WO.pp;rfl;rfl)
     refine W.loop ?_
     unfold wH
     repeat' first|apply W.seq|apply ab|apply W.region|apply WO.nil|apply W.block|apply W.skip|apply bK|(apply W.ax;rfl)|(apply W.aw;rfl)|(apply WO.lss;rfl;rfl)|(apply WO.neq;rfl;rfl)|(apply WO.add;rfl;rfl;omega)|(apply WO.ay;rfl;rfl;first|exact q84a _)|(apply WO.cM;rfl;rfl;omega)|(apply WO.aT;rfl;rfl;rfl)|(apply WO.pl;rfl;rfl)|(apply WO.pp;rfl;rfl)|(intro _;omega)|intro _
     all_goals try omega
     refine ef (W.loop ?_)
     repeat' first|apply W.seq|apply ab|apply W.region|apply WO.nil|apply W.block|apply W.skip|apply bK|(apply W.ax;rfl)|(apply W.aw;rfl)|(apply WO.lss;rfl;rfl)|(apply WO.neq;rfl;rfl)|(apply WO.add;rfl;rfl;omega)|(apply WO.ay;rfl;rfl;first|exact q84b _)|(apply WO.cM;rfl;rfl;omega)|(apply WO.aT;rfl;rfl;rfl)|(apply WO.pl;rfl;rfl)|(apply WO.pp;rfl;rfl)|(intro _;omega)|intro _
     all_goals try omega
     refine ef (W.loop ?_)
     repeat' first|apply W.seq|apply ab|apply W.region|apply WO.nil|apply W.ret|apply W.exit|apply cj|apply cg|apply dK|(apply W.aw;rfl)|(apply WO.lss;rfl;rfl)|(apply WO.pp;rfl;rfl)|(intro _;omega)|intro _
     all_goals try omega
     all_goals exact⟨.inr rfl,rfl,_,rfl,rfl,rfl⟩
   . rw[show dM [eb]=eb by simp[dM,hb]]
     repeat' first|apply W.seq|apply ab|apply W.region|apply WO.nil|apply W.block|(apply WO.pp;rfl;rfl)
     refine W.loop ?_
     unfold wH
     repeat' first|apply W.seq|apply ab|apply W.region|apply WO.nil|apply W.block|apply W.skip|apply bK|(apply W.ax;rfl)|(apply W.aw;rfl)|(apply WO.lss;rfl;rfl)|(apply WO.neq;rfl;rfl)|(apply WO.add;rfl;rfl;omega)|(apply WO.ay;rfl;rfl;first|exact q84a _)|(apply WO.cM;rfl;rfl;omega)|(apply WO.aT;rfl;rfl;rfl)|(apply WO.pl;rfl;rfl)|(apply WO.pp;rfl;rfl)|(intro _;omega)|intro _
     all_goals try omega
     refine ef (W.loop ?_)
     repeat' first|apply W.seq|apply ab|apply W.region|apply WO.nil|apply W.block|apply W.ret|apply W.skip|apply ba|apply cN|apply gW|(apply W.ax;rfl)|(apply WO.lss;rfl;rfl)|(apply WO.neq;rfl;rfl)|(apply WO.ay;rfl;rfl;first|exact q84b _)|(apply WO.cM;rfl;rfl;omega)|(apply WO.aT;rfl;rfl;rfl)|(apply WO.pl;rfl;rfl)|(apply WO.pp;rfl;rfl)|(intro _;omega)|intro _
     all_goals try omega
     all_goals exact⟨.inr rfl,rfl,_,rfl,rfl,rfl⟩
 . rw[show dM [ea,eb]=ea by simp[dM,ha]]
   repeat' first|apply W.seq|apply ab|apply W.region|apply WO.nil|apply W.block|(apply WO.pp;rfl;rfl)
   refine W.loop ?_
   unfold wH
   repeat' first|apply W.seq|apply ab|apply W.region|apply WO.nil|apply W.block|apply W.ret|apply W.skip|apply ba|apply cN|apply gW|(apply W.ax;rfl)|(apply WO.lss;rfl;rfl)|(apply WO.neq;rfl;rfl)|(apply WO.ay;rfl;rfl;first|exact q84a _)|(apply WO.cM;rfl;rfl;omega)|(apply WO.aT;rfl;rfl;rfl)|(apply WO.pl;rfl;rfl)|(apply WO.pp;rfl;rfl)|(intro _;omega)|intro _
   all_goals try omega
   all_goals exact⟨.inr rfl,rfl,_,rfl,rfl,rfl⟩
theorem Xw (hft:M.FT=FT){v:AV}{q:Rat}(hv:bm v q)(q175:∀h,M.ext 175 [v] h=some ⟨.bool false,h,[]⟩)(q176:∀h,M.ext 176 [v] h=some ⟨.str (aY q),h,[]⟩):aZ M 105 [v] [] ⟨.ao [.str (aY q),.iV 0],[],[]⟩:=by
 obtain⟨s1,w1,s2,w2,rfl,h1,h2⟩:=hv
 refine bT (by rw[hft];exact Xj) (by simp) ?_
 unfold Ka
 simp only[enter]
 repeat' first|apply W.seq|apply ab|apply W.region|apply WO.nil|apply W.ret|apply W.skip|(apply W.aw;rfl)|(apply WO.ay;rfl;rfl;first|exact q175 _|exact q176 _)|(apply WO.aT;rfl;rfl;rfl)|(apply WO.aX;rfl;rfl;rfl)|(apply WO.pp;rfl;rfl)
 all_goals exact⟨.inr rfl,rfl,_,rfl,rfl,rfl⟩
structure sH (M:aO)(N:Nat):Prop where
 ft:M.FT=FT
 qd:∀v h a b,dr h v (.vs [.str a,.str b] 2 none)->a.length<1000000->b.length<1000000->M.ext 101 [v] h=some ⟨.iV (dM [eo a,eo b]),h,[]⟩
 nP:∀q,Lq N q->∃v0,bm v0 q/\∀h,M.ext 103 [.str (aY q)] h=some ⟨v0,h,[]⟩
structure Xx (M:aO)(g:Nat)(p q r:Rat):Prop where
 op:∀va vb,bm va p->bm vb q->∃v0,bm v0 r/\(∀h,M.ext g [va,vb] h=some ⟨v0,h,[]⟩)/\∀h,M.ext 105 [v0] h=some ⟨.ao [.str (aY r),.iV 0],h,[]⟩
theorem Xy (C:sH M N)(hN:N<=400000){g:Nat}{p q r:Rat}(lp:Lq N p)(lq:Lq N q)(hp:eo (aY p)=0)(hq:eo (aY q)=0)(T:Xx M g p q r):aZ M 169 [.str (aY p),.str (aY q),.fn (.func g) [] []] [] ⟨.ao [.str (aY r),.iV 0],[],[]⟩:=by
 have l1:=kO lp
 have l2:=kO lq
 have q101:=fun v h hf=>C.qd v h (aY p) (aY q) hf (by omega) (by omega)
 rw[hp,hq,show dM [0,0]=0 by rfl]at q101
 obtain⟨va,ka,qa⟩:=C.nP p lp
 obtain⟨vb,kb,qb⟩:=C.nP q lq
 obtain⟨v0,k0,qo,qt⟩:=T.op va vb ka kb
 refine bT (by rw[C.ft];exact Xk) (by simp) ?_
 unfold Kb
 simp only[enter]
 repeat' first|apply W.seq|apply ab|apply W.region|apply WO.nil|apply W.ret|apply W.skip|(apply W.aw;rfl)|(apply WO.neq;rfl;rfl)|(apply WO.ay;rfl;rfl;first|exact qa _|exact qb _|exact qo _|exact qt _)|(apply WO.ay;rfl;rfl;exact q101 _ _ (Cj rfl rfl rfl))|(apply WO.aT;rfl;rfl;rfl)|(apply WO.pl;rfl;rfl)|(apply WO.pp;rfl;rfl)|(intro _;omega)|intro _
 all_goals try omega
 all_goals exact⟨.inr rfl,rfl,_,rfl,rfl,rfl⟩
theorem Xz (hft:M.FT=FT)(a b r:al)(e:Int)(q:∀h,M.ext 169 [.str a,.str b,.fn (.func 151) [] []] h=some ⟨.ao [.str r,.iV e],h,[]⟩):aZ M 85 [.str a,.str b] [] ⟨.ao [.str r,.iV e],[],[]⟩:=by
 refine bT (by rw[hft];exact Xl) (by simp) ?_
 unfold Kc
 simp only[enter]
 repeat' first|apply W.seq|apply ab|apply W.region|apply WO.nil|apply W.ret|(apply WO.ay;rfl;rfl;first|exact q _)|(apply WO.pl;rfl;rfl)|(apply WO.pp;rfl;rfl)
 all_goals exact⟨.inr rfl,rfl,_,rfl,rfl,rfl⟩
theorem XA (hft:M.FT=FT)(a b r:al)(e:Int)(q:∀h,M.ext 169 [.str a,.str b,.fn (.func 149) [] []] h=some ⟨.ao [.str r,.iV e],h,[]⟩):aZ M 86 [.str a,.str b] [] ⟨.ao [.str r,.iV e],[],[]⟩:=by
 refine bT (by rw[hft];exact Xm) (by simp) ?_
 unfold Kd
 simp only[enter]
 repeat' first|apply W.seq|apply ab|apply W.region|apply WO.nil|apply W.ret|(apply WO.ay;rfl;rfl;first|exact q _)|(apply WO.pl;rfl;rfl)|(apply WO.pp;rfl;rfl)
 all_goals exact⟨.inr rfl,rfl,_,rfl,rfl,rfl⟩
theorem XB (hft:M.FT=FT)(a b r:al)(e:Int)(q:∀h,M.ext 169 [.str a,.str b,.fn (.func 152) [] []] h=some ⟨.ao [.str r,.iV e],h,[]⟩):aZ M 87 [.str a,.str b] [] ⟨.ao [.str r,.iV e],[],[]⟩:=by
 refine bT (by rw[hft];exact Xn) (by simp) ?_
 unfold Ke
 simp only[enter]
 repeat' first|apply W.seq|apply ab|apply W.region|apply WO.nil|apply W.ret|(apply WO.ay;rfl;rfl;first|exact q _)|(apply WO.pl;rfl;rfl)|(apply WO.pp;rfl;rfl)
 all_goals exact⟨.inr rfl,rfl,_,rfl,rfl,rfl⟩
structure Kk (M:aO)(N:Nat):Prop extends sH M N where
 mn:∀t (e:Int) h,M.ext 97 [.bool t,.iV e] h=some ⟨.iV (if t then e else 0),h,[]⟩
 mq:∀v h l,jr h v=some l->l.length<1000->M.ext 96 [v] h=some ⟨.iV (dM l),h,[]⟩
theorem XC (C:Kk M N)(a b r:al)(ha:a.length<1000000)(hb:b.length<1000000)(h0:dM [eo a,eo b]=0)(h48:b≠[48])(q:∀h,M.ext 169 [.str a,.str b,.fn (.func 150) [] []] h=some ⟨.ao [.str r,.iV 0],h,[]⟩):aZ M 88 [.str a,.str b] [] ⟨.ao [.str r,.iV 0],[],[]⟩:=by
 have q101:=fun v h hf=>C.qd v h a b hf ha hb
 rw[h0]at q101
 have f6:∀h,M.ext 97 [.bool false,.iV 6] h=some ⟨.iV 0,h,[]⟩:=fun h=>C.mn false 6 h
 have q96:∀v h,jr h v=some [0,0]->M.ext 96 [v] h=some ⟨.iV 0,h,[]⟩:=fun v h hi=>C.mq v h [0,0] hi (by decide)
 refine bT (by rw[C.ft];exact Xo) (by simp) ?_
 unfold Kf
 simp only[enter]
 repeat' first|(apply WO.dU;rfl;rfl;all_goals first|(intro h;exact absurd h h48)|intro _)|apply W.seq|apply ab|apply W.region|apply WO.nil|apply W.ret|apply W.skip|(apply W.aw;rfl)|(apply WO.neq;rfl;rfl)|(apply WO.ay;rfl;rfl;first|exact f6 _|exact q _)|(apply WO.ay;rfl;rfl;first|exact q101 _ _ (Cj rfl rfl rfl)|exact q96 _ _ rfl)|(apply WO.aT;rfl;rfl;rfl)|(apply WO.pl;rfl;rfl)|(apply WO.pp;rfl;rfl)|(intro _;omega)|intro _
 all_goals try omega
 all_goals exact⟨.inr rfl,rfl,_,rfl,rfl,rfl⟩
theorem XD (C:sH M N)(hN:N<=400000){p q:Rat}{s:Int}(lp:Lq N p)(lq:Lq N q)(hp:eo (aY p)=0)(hq:eo (aY q)=0)(hc:∀va vb,bm va p->bm vb q->∀h,M.ext 148 [va,vb] h=some ⟨.iV s,h,[]⟩):aZ M 89 [.str (aY p),.str (aY q)] [] ⟨.ao [.iV s,.iV 0],[],[]⟩:=by
 have l1:=kO lp
 have l2:=kO lq
 have q101:=fun v h hf=>C.qd v h (aY p) (aY q) hf (by omega) (by omega)
 rw[hp,hq,show dM [0,0]=0 by rfl]at q101
 obtain⟨va,ka,qa⟩:=C.nP p lp
 obtain⟨vb,kb,qb⟩:=C.nP q lq
 have qc:=hc va vb ka kb
 refine bT (by rw[C.ft];exact Xp) (by simp) ?_
 unfold Kg
 simp only[enter]
 repeat' first|apply W.seq|apply ab|apply W.region|apply WO.nil|apply W.ret|apply W.skip|(apply W.aw;rfl)|(apply WO.neq;rfl;rfl)|(apply WO.ay;rfl;rfl;first|exact qa _|exact qb _|exact qc _)|(apply WO.ay;rfl;rfl;exact q101 _ _ (Cj rfl rfl rfl))|(apply WO.aT;rfl;rfl;rfl)|(apply WO.pl;rfl;rfl)|(apply WO.pp;rfl;rfl)|(intro _;omega)|intro _
 all_goals try omega
 all_goals exact⟨.inr rfl,rfl,_,rfl,rfl,rfl⟩
theorem XE (hft:M.FT=FT){p:Rat}{r:al}(q84:∀h,M.ext 84 [.str (aY p)] h=some ⟨.iV 0,h,[]⟩){v1 v2 v3:AV}(q103:∀h,M.ext 103 [.str (aY p)] h=some ⟨v1,h,[]⟩)(q160:∀h,M.ext 160 [v1] h=some ⟨v2,h,[]⟩)(q159:∀h,M.ext 159 [v2] h=some ⟨v3,h,[]⟩)(q105:∀h,M.ext 105 [v3] h=some ⟨.ao [.str r,.iV 0],h,[]⟩):aZ M 79 [.str (aY p)] [] ⟨.ao [.str r,.iV 0],[],[]⟩:=by
 refine bT (by rw[hft];exact Xq) (by simp) ?_
 unfold Kh
 simp only[enter]
 repeat' first|apply W.seq|apply ab|apply W.region|apply WO.nil|apply W.ret|apply W.skip|(apply W.aw;rfl)|(apply WO.neq;rfl;rfl)|(apply WO.ay;rfl;rfl;first|exact q84 _|exact q103 _|exact q160 _|exact q159 _|exact q105 _)|(apply WO.pl;rfl;rfl)|(apply WO.pp;rfl;rfl)|(intro _;omega)|intro _
 all_goals try omega
 all_goals exact⟨.inr rfl,rfl,_,rfl,rfl,rfl⟩
end Go.Ab.Ch1

/-
  Own work: rational numbers: bounds of sums and products, signs, whole parts; their texts have no error.
-/
namespace Go.Ab.Ch1
open Go.Ab.bz
def Dq (k:Nat)(q:Rat):Prop:=an q.num<10^k/\(q.den:Int)<10^k
theorem nS (k:Nat):(0:Int)<10^k:=Int.pow_pos (by decide)
theorem mr {m n:Nat}(h:m<=n):(10:Int)^m<=10^n:=gZ (by decide) h
theorem Dq.mono {m n:Nat}{q:Rat}(h:Dq m q)(hl:m<=n):Dq n q:=⟨Int.lt_of_lt_of_le h.1 (mr hl),Int.lt_of_lt_of_le h.2 (mr hl)⟩
theorem Ck {n d:Int}(h:0<d):∃c:Int,0<c/\n=c*(Rat.divInt n d).num/\d=c*((Rat.divInt n d).den:Int):=by
 obtain⟨k1,k2,h1,h2,h3,h4⟩:=HC (n:=n) h
 refine⟨(Int.gcd n d:Nat),?_,by rw[h3];exact h1,by rw[h4];exact h2⟩
 have:=Int.gcd_pos_of_ne_zero_right n (show d≠0 by omega)
 omega
theorem XF {c x:Int}(hc:0<c):an x<=an (c*x):=by
 rw[rU,cQ (Int.le_of_lt hc)]
 have:=Int.mul_le_mul_of_nonneg_right (show 1<=c by omega) (iq (x:=x))
 omega
theorem Dq.divInt {k:Nat}{n d:Int}(hd:0<d)(h1:an n<10^k)(h2:d<10^k):Dq k (Rat.divInt n d):=by
 obtain⟨c,hc,e1,e2⟩:=Ck (n:=n) hd
 refine⟨Int.lt_of_le_of_lt ?_ h1,Int.lt_of_le_of_lt ?_ h2⟩
 . have:=XF (x:=(Rat.divInt n d).num) hc
   rw[←e1]at this;exact this
 . have h0:(0:Int)<=((Rat.divInt n d).den:Int):=by omega
   have:=Int.mul_le_mul_of_nonneg_right (show 1<=c by omega) h0
   rw[←e2]at this
   omega
theorem sI {x y:Int}{m n:Nat}(hx:an x<10^m)(hy:an y<10^n):an (x*y)<10^(m+n):=by
 rw[rU,Int.pow_add]
 have h1:=Int.mul_le_mul_of_nonneg_left (Int.le_of_lt hy) (iq (x:=x))
 have h2:=Int.mul_lt_mul_of_pos_right hx (nS n)
 omega
theorem XG {x y:Int}:an (x+y)<=an x+an y:=by unfold an;split <;> split <;> split <;> omega
theorem Dq.add {m n:Nat}{p q:Rat}(hp:Dq m p)(hq:Dq n q):Dq (m+n+1) (p+q):=by
 rw[ve]
 have dp:=den_pos (q:=p)
 have dq:=den_pos (q:=q)
 have a1:=sI hp.1 (show an (q.den:Int)<10^n by rw[cQ (by omega)];exact hq.2)
 have a2:=sI hq.1 (show an (p.den:Int)<10^m by rw[cQ (by omega)];exact hp.2)
 have a3:=sI (show an (p.den:Int)<10^m by rw[cQ (by omega)];exact hp.2) (show an (q.den:Int)<10^n by rw[cQ (by omega)];exact hq.2)
 rw[Nat.add_comm n m]at a2
 have a4:=XG (x:=p.num*q.den) (y:=q.num*p.den)
 have e:(10:Int)^(m+n+1)=10^(m+n)*10:=Int.pow_succ _ _
 have hp0:=nS (m+n)
 have hd:=Int.mul_pos dp dq
 rw[cQ (Int.le_of_lt hd)]at a3
 exact .divInt hd (by omega) (by omega)
theorem XH (p q:Rat):p*q=Rat.divInt (p.num*q.num) (p.den*q.den):=by
 have e:=Rat.divInt_mul_divInt p.num q.num (d₁:=p.den) (d₂:=q.den)
 rw[Rat.num_divInt_den,Rat.num_divInt_den]at e
 exact e
theorem Dq.mul {m n:Nat}{p q:Rat}(hp:Dq m p)(hq:Dq n q):Dq (m+n) (p*q):=by
 rw[XH]
 have dp:=den_pos (q:=p)
 have dq:=den_pos (q:=q)
 have a1:=sI hp.1 hq.1
 have a3:=sI (show an (p.den:Int)<10^m by rw[cQ (by omega)];exact hp.2) (show an (q.den:Int)<10^n by rw[cQ (by omega)];exact hq.2)
 have hd:=Int.mul_pos dp dq
 rw[cQ (Int.le_of_lt hd)]at a3
 exact .divInt hd a1 a3
theorem Dq.neg {m:Nat}{p:Rat}(hp:Dq m p):Dq m (-p):=by
 refine⟨?_,?_⟩
 . rw[Rat.neg_num,jU];exact hp.1
 . rw[Rat.neg_den];exact hp.2
theorem Dq.sub {m n:Nat}{p q:Rat}(hp:Dq m p)(hq:Dq n q):Dq (m+n+1) (p-q):=by
 rw[Rat.sub_eq_add_neg];exact hp.add hq.neg
theorem inv_divInt {q:Rat}:q⁻¹=Rat.divInt q.den q.num:=by
 rw[Rat.inv_def]
theorem Dq.inv {m:Nat}{q:Rat}(hq:Dq m q)(h0:q≠0):Dq m q⁻¹:=by
 have hn:q.num≠0:=fun e=>h0 (Rat.num_eq_zero.1 e)
 have dq:=den_pos (q:=q)
 rw[inv_divInt]
 by_cases hs:0<q.num
 . have a:=hq.1
   rw[cQ (by omega)]at a
   exact .divInt hs (by rw[cQ (by omega)];exact hq.2) a
 . rw[←Rat.neg_divInt_neg]
   have a:=hq.1
   have e:an q.num = -q.num:=if_pos (by omega)
   rw[e]at a
   exact .divInt (by omega) (by rw[jU,cQ (by omega)];exact hq.2) a
def iO (p q:Rat):Int:=bD (p.num*q.den-q.num*p.den)
theorem XI {c x:Int}(h:0<c):bD (c*x)=bD x:=by
 unfold bD
 by_cases h1:x<0
 . have:=Int.mul_neg_of_pos_of_neg h h1
   rw[if_pos this,if_pos h1]
 . by_cases h2:0<x
   . have:=Int.mul_pos h h2
     rw[if_neg (by omega),if_pos this,if_neg h1,if_pos h2]
   . have:x=0:=by omega
     subst this
     rw[Int.mul_zero]
theorem Kl {n d:Int}(h:0<d):bD (Rat.divInt n d).num=bD n:=by
 obtain⟨c,hc,e1,_⟩:=Ck (n:=n) h
 rw[←XI hc,←e1]
theorem Km (p q:Rat):p-q=Rat.divInt (p.num*q.den-q.num*p.den) (p.den*q.den):=by
 rw[Rat.sub_eq_add_neg,ve,Rat.neg_num,Rat.neg_den,Int.neg_mul,Int.sub_eq_add_neg]
theorem Kn (p:Rat):iO p 0=bD p.num:=by
 unfold iO
 congr 1
 show p.num*1-0*_=_
 rw[Int.mul_one,Int.zero_mul,Int.sub_zero]
theorem XJ (p q:Rat):iO (p-q) 0=iO p q:=by
 rw[Kn,Km,Kl (Int.mul_pos den_pos den_pos)]
 rfl
def iP (p:Rat):Rat:=Rat.divInt (p.num/p.den) 1
theorem sJ (p:Rat):(iP p).num=p.num/p.den/\(iP p).den=1:=kJ
theorem Ko (p:Rat):p-iP p=Rat.divInt (p.num%p.den) p.den:=by
 rw[Km,(sJ p).1,(sJ p).2]
 have e:p.num*((1:Nat):Int)-p.num/p.den*p.den=p.num%p.den:=by
  have:=Int.mul_ediv_add_emod p.num p.den
  rw[Int.mul_comm]at this
  show p.num*1-_=_
  omega
 rw[e]
 show Rat.divInt _ ((p.den:Int)*1)=_
 rw[Int.mul_one]
theorem XL (p:Rat):0<=iO (p-iP p) 0:=by
 rw[Kn,Ko,Kl den_pos]
 have dp:=den_pos (q:=p)
 have:=Int.emod_nonneg p.num (show (p.den:Int)≠0 by omega)
 unfold bD
 rw[if_neg (by omega)]
 split <;> omega
theorem XM (p:Rat):iO (p-iP p) 1<0:=by
 have dp:=den_pos (q:=p)
 have h1:=Int.emod_lt_of_pos p.num dp
 rw[Ko]
 obtain⟨c,hc,e1,e2⟩:=Ck (n:=p.num%p.den) dp
 generalize Rat.divInt (p.num%p.den) p.den=g at *
 have:g.num<(g.den:Int):=by
  have:c*g.num<c*(g.den:Int):=by rw[←e1,←e2];exact h1
  exact Int.lt_of_mul_lt_mul_left this (Int.le_of_lt hc)
 have e:iO g 1=bD (g.num-g.den):=by
  unfold iO
  congr 1
  show g.num*1-1*(g.den:Int)=_
  omega
 rw[e,bD,if_pos (by omega)]
 decide
theorem Dq.floor {m:Nat}{p:Rat}(hp:Dq m p):Dq (m+1) (iP p):=by
 have dp:=den_pos (q:=p)
 refine .divInt (by decide) ?_ ?_
 . have h1:=Int.mul_ediv_add_emod p.num p.den
   have h2:=Int.emod_nonneg p.num (show (p.den:Int)≠0 by omega)
   have h3:=Int.emod_lt_of_pos p.num dp
   have e:(10:Int)^(m+1)=10^m*10:=Int.pow_succ _ _
   have h4:=nS m
   have hn:=hp.1
   have hd:=hp.2
   have key:an (p.num/p.den)<=an p.num+1:=by
    by_cases hs:0<=p.num
    . have a1:=Int.ediv_nonneg hs (Int.le_of_lt dp)
      have a2:=Int.ediv_le_self (b:=(p.den:Int)) hs
      rw[cQ a1,cQ hs]
      omega
    . have a0:an p.num = -p.num:=if_pos (by omega)
      have a1:p.num/p.den<0:=Int.ediv_neg_of_neg_of_pos (by omega) dp
      have a2:an (p.num/p.den) = -(p.num/p.den):=if_pos a1
      rw[a0,a2]
      have hm:=Int.mul_le_mul_of_nonpos_left (show p.num<=0 by omega) (show (1:Int)<=p.den by omega)
      rw[Int.mul_one]at hm
      have:p.num<=p.num/p.den:=Int.le_ediv_of_mul_le dp hm
      omega
   omega
 . have:=nS m
   have e:(10:Int)^(m+1)=10^m*10:=Int.pow_succ _ _
   omega
theorem Cl {z:Int}{k:Nat}(hk:0<k)(h:an z<10^k):(bh (an z).toNat).length<=k:=by
 refine we ?_ hk
 have h0:=iq (x:=z)
 have e:((10^k:Nat):Int)=(10:Int)^k:=Int.natCast_pow _ _
 rw[←e]at h
 omega
theorem XO {z:Int}{k:Nat}(hk:0<k)(h:an z<10^k):(cK z).length<=k+1:=by
 have:=Cl hk h
 by_cases hz:z<0
 . rw[mi hz,List.length_cons];omega
 . rw[jX hz];omega
theorem Kp {q:Rat}{k:Nat}(hk:0<k)(h:Dq k q):(bh q.den).length<=k:=by
 have:=Cl (z:=(q.den:Int)) hk (by rw[cQ (by omega)];exact h.2)
 rw[cQ (by omega)]at this
 exact this
theorem Dq.lq {q:Rat}{k N:Nat}(hk:0<k)(h:Dq k q)(hN:k+1<=N):Lq N q:=
 ⟨Nat.le_trans (XO hk h.1) hN,Nat.le_trans (Kp hk h) (by omega)⟩
theorem Kq (n:Nat):dy (bh n)=true:=by
 obtain⟨h1,h2,h3⟩:=UT n
 unfold dy
 rw[decide_eq_true h1,h2,Bool.true_and]
 cases hd:bh n with
 | nil=>exact absurd hd h1
 | cons b t=>
  rw[hd]at h3
  by_cases hb:b=48
  . subst hb
    have ht:=h3 rfl
    have:t=[]:=List.eq_nil_of_length_eq_zero (by simpa using ht)
    subst this
    rfl
  . have e:(b::t)[0]! = b:=rfl
    rw[e,decide_eq_true (show b≠48 from hb)];rfl
theorem Kr (q:Rat):preB 45 (aY q)=decide (q.num<0)/\bJ 45 (aY q)=(if q.den=1 then bh (an q.num).toNat else bh (an q.num).toNat++47::bh q.den):=by
 by_cases hn:q.num<0
 . rw[decide_eq_true hn]
   unfold aY
   split
   . rw[mi hn];exact⟨rfl,rfl⟩
   . rw[mi hn];exact⟨rfl,rfl⟩
 . rw[decide_eq_false hn]
   unfold aY
   rw[jX hn]
   have hp:=JV (an q.num).toNat (c:=45) (by decide)
   split
   . exact⟨hp,jY hp⟩
   . have hp2:preB 45 (bh (an q.num).toNat++47::bh q.den)=false:=by
      cases hd:bh (an q.num).toNat with
      | nil=>exact absurd hd (kK _)
      | cons b t=>rw[hd]at hp;exact hp
     exact⟨hp2,jY hp2⟩
theorem Ks (q:Rat):cC (aY q)=bh (an q.num).toNat/\dk (aY q)=(if q.den=1 then [] else bh q.den)/\gC (aY q)=decide (q.den≠1):=by
 have hn:=Cb (pS (an q.num).toNat) (c:=47) (by decide)
 unfold cC dk gC
 rw[(Kr q).2]
 by_cases h:q.den=1
 . rw[if_pos h,if_pos h,sD hn,decide_eq_false (by simpa using h)]
   exact⟨rfl,rfl,rfl⟩
 . rw[if_neg h,if_neg h,Cc hn,decide_eq_true h]
   exact⟨rfl,rfl,rfl⟩
theorem Kt (z:Int):(an z).toNat=z.natAbs:=by unfold an;split <;> omega
theorem nT {q:Rat}{k:Nat}(hk:0<k)(h6:k<=600)(h:Dq k q):eo (aY q)=0:=by
 obtain⟨e1,e2,e3⟩:=Ks q
 have l1:=Cl hk h.1
 have l2:=Kp hk h
 have hpre:=(Kr q).1
 have hz:(preB 45 (aY q) && decide (bh (an q.num).toNat=[48]))=false:=by
  rw[hpre]
  by_cases hn:q.num<0
  . rw[decide_eq_true hn,Bool.true_and,decide_eq_false_iff_not]
    intro e
    have:=mf (an q.num).toNat
    rw[e]at this
    have h2:an q.num = -q.num:=if_pos hn
    simp[aM]at this
    omega
  . rw[decide_eq_false hn,Bool.false_and]
 have dp:=q.den_pos
 have hform:iN (aY q)=true:=by
  unfold iN
  rw[e1,e2,e3,Kq,hz]
  by_cases hd:q.den=1
  . rw[decide_eq_false (by simpa using hd)];rfl
  . rw[decide_eq_true hd,if_neg hd,Kq]
    have n0:bh q.den≠[48]:=fun e=>by
     have:=mf q.den
     rw[e]at this
     simp[aM]at this
     omega
    have n1:bh q.den≠[49]:=fun e=>by
     have:=mf q.den
     rw[e]at this
     simp[aM]at this
     omega
    rw[decide_eq_true n0,decide_eq_true n1];rfl
 unfold eo
 rw[hform,if_neg (by decide),e1,e2,e3]
 by_cases hd:q.den=1
 . rw[if_pos hd,if_neg (by simp;omega),if_neg (by simp[hd])]
 . rw[if_neg hd,if_neg (by omega),mf,mf,if_neg]
   rintro⟨_,h2⟩
   rw[Kt]at h2
   have:=q.reduced
   unfold Nat.Coprime at this
   rw[fE,this]at h2
   exact absurd h2 (by decide)
theorem Ku {s:al}(h:dy s=true):Bv s:=by
 obtain⟨h1,h2⟩:=sE h
 refine⟨h1,h2,fun h3=>?_⟩
 simp only[dy,Bool.and_eq_true,Bool.or_eq_true,decide_eq_true_eq]at h
 cases s with
 | nil=>exact absurd rfl h1
 | cons b t=>
  simp at h3
  subst h3
  rcases h.2 with h4|h4
  . exact absurd rfl h4
  . rw[h4];rfl
theorem Kv {s:al}{k:Nat}(h:s.all bF=true)(hl:s.length<=k):((aM 0 s:Nat):Int)<10^k:=by
 have h1:=nG s h
 have h2:(aM 0 s:Int)<(10:Int)^s.length:=by exact_mod_cast h1
 exact Int.lt_of_lt_of_le h2 (mr hl)
theorem Cm {s:al}{k:Nat}(h:eo s=0)(hl:s.length<=k):∃q,s=aY q/\Dq k q:=by
 have hform:iN s=true:=by
  cases hf:iN s with
  | true=>rfl
  | false=>unfold eo at h;rw[hf,if_pos rfl]at h;exact absurd h (by decide)
 have hcop:¬(gC s=true/\fE (aM 0 (cC s)) (aM 0 (dk s))=true):=fun hc=>by
  unfold eo at h
  rw[hform,if_neg (by decide)]at h
  split at h
  . exact absurd h (by decide)
  . exact absurd h (by decide)
 unfold iN at hform
 rw[Bool.and_eq_true,Bool.and_eq_true]at hform
 obtain⟨⟨f1,f2⟩,f3⟩:=hform
 have hcl:=sC 45 s
 have htl:(cC s).length<=k:=Nat.le_trans (Nat.le_trans (sG 47 _) hcl) hl
 have hbl:(dk s).length<=k:=Nat.le_trans (Nat.le_trans (Ch 47 _) hcl) hl
 have hT:=Ku f1
 have eT:=IA hT
 have hs:s=if preB 45 s=true then 45::bJ 45 s else bJ 45 s:=by
  cases hp:preB 45 s with
  | false=>rw[if_neg (by decide),jY hp]
  | true=>
   rw[if_pos rfl]
   have hh:=of_decide_eq_true hp
   unfold bJ
   rw[if_pos hh]
   cases s with
   | nil=>simp at hh
   | cons c t=>simp at hh;rw[hh];rfl
 -- the numerator
 obtain⟨z,hz⟩:∃z:Int,z=if preB 45 s=true then -(aM 0 (cC s):Int) else (aM 0 (cC s):Nat):=⟨_,rfl⟩
 have hza:an z=(aM 0 (cC s):Nat):=by
  rw[hz];unfold an
  cases preB 45 s with
  | false=>simp only[Bool.false_eq_true,↓reduceIte];exact if_neg (by omega)
  | true=>simp only[↓reduceIte];split <;> omega
 have hzn:preB 45 s=decide (z<0):=by
  cases hp:preB 45 s with
  | false=>
   rw[hp,if_neg (by decide)]at hz
   exact(decide_eq_false (by omega)).symm
  | true=>
   rw[hp,if_pos rfl]at hz
   rw[hp]at f2
   have n0:aM 0 (cC s)≠0:=fun e=>by
    rw[e,gN (by decide)]at eT
    rw[←eT]at f2
    exact absurd f2 (by decide)
   rw[decide_eq_true (by omega)]
 have hzt:cK z=if preB 45 s=true then 45::cC s else cC s:=by
  rw[hzn]
  by_cases hn:z<0
  . rw[mi hn,hza,decide_eq_true hn,if_pos rfl]
    show 45::bh (aM 0 (cC s))=_
    rw[eT]
  . rw[jX hn,hza,decide_eq_false hn,if_neg (by decide)]
    exact eT
 have hzb:an z<10^k:=by rw[hza];exact Kv hT.2.1 htl
 have k1:(1:Int)<10^k:=by
  have h0:0<(cC s).length:=List.length_pos_iff.2 hT.1
  have:=mr (show 1<=k by omega)
  rw[Int.pow_one]at this
  omega
 cases hb:gC s with
 | false=>
  have hn:(bI 47 (bJ 45 s)).2=none:=by
   unfold gC at hb
   cases h:(bI 47 (bJ 45 s)).2 with
   | none=>rfl
   | some y=>rw[h]at hb;cases hb
  have e:cC s=bJ 45 s:=(nM hn).1
  refine⟨Rat.divInt z 1,?_,?_⟩
  . unfold aY
    rw[kJ.1,kJ.2,if_pos rfl,hzt,e]
    exact hs
  . exact⟨by rw[kJ.1];exact hzb,by rw[kJ.2];exact k1⟩
 | true=>
  rw[hb]at f3 hcop
  simp only[Bool.not_true,Bool.false_or,Bool.and_eq_true,decide_eq_true_eq]at f3
  have hB:=Ku f3.1.1
  have eB:=IA hB
  have hd2:aM 0 (dk s)≠0/\aM 0 (dk s)≠1:=by
   refine⟨fun e=>?_,fun e=>?_⟩
   . rw[e,gN (by decide)]at eB;exact f3.1.2 eB.symm
   . rw[e,gN (by decide)]at eB;exact f3.2 eB.symm
  have hco:z.natAbs.Coprime (aM 0 (dk s)):=by
   have h2:fE (aM 0 (cC s)) (aM 0 (dk s))=false:=by
    cases hc:fE (aM 0 (cC s)) (aM 0 (dk s)) with
    | false=>rfl
    | true=>exact absurd ⟨rfl,hc⟩ hcop
   have:z.natAbs=aM 0 (cC s):=by rw[←Kt,hza];rfl
   rw[this]
   simpa[fE] using h2
  refine⟨⟨z,aM 0 (dk s),hd2.1,hco⟩,?_,hzb,Kv hB.2.1 hbl⟩
  unfold gC at hb
  obtain⟨y,hy⟩:=Option.isSome_iff_exists.1 hb
  have e:=(pW hy).1
  have eb:dk s=y:=by unfold dk;rw[hy];rfl
  have et:(bI 47 (bJ 45 s)).1=cC s:=rfl
  rw[et,←eb]at e
  unfold aY
  rw[if_neg hd2.2,hzt]
  show s=_++47::bh (aM 0 (dk s))
  rw[eB]
  cases hp:preB 45 s with
  | false=>rw[hp,if_neg (by decide),e]at hs;rw[if_neg (by decide)];exact hs
  | true=>rw[hp,if_pos rfl,e]at hs;rw[if_pos rfl];exact hs
theorem Cn:aY 0=[48]:=by
 show (if (1:Nat)=1 then cK 0 else _)=_
 rw[if_pos rfl,jX (by decide)]
 exact gN (by decide)
theorem XP:aY 1=[49]:=by
 show (if (1:Nat)=1 then cK 1 else _)=_
 rw[if_pos rfl,jX (by decide)]
 exact gN (by decide)
theorem Dq.zero {k:Nat}(hk:0<k):Dq k 0:=by
 have:=mr (show 1<=k by omega)
 rw[Int.pow_one]at this
 refine⟨?_,?_⟩
 . show (0:Int)<_;omega
 . show (1:Int)<_;omega
theorem Dq.one {k:Nat}(hk:0<k):Dq k 1:=by
 have:=mr (show 1<=k by omega)
 rw[Int.pow_one]at this
 refine⟨?_,?_⟩
 . show (1:Int)<_;omega
 . show (1:Int)<_;omega
theorem XQ {q:Rat}(h:aY q=[48]):q=0:=by
 obtain⟨e1,e2,e3⟩:=Ks q
 rw[h]at e1 e3
 have a1:cC [48]=[48]:=rfl
 have a3:gC [48]=false:=rfl
 rw[a1]at e1
 have:=mf (an q.num).toNat
 rw[←e1]at this
 simp[aM]at this
 have h0:=iq (x:=q.num)
 refine Rat.num_eq_zero.1 ?_
 unfold an at this h0
 split at this <;> omega
end Go.Ab.Ch1

/-
  Own work: texts: zeros repeated a few times.
-/
namespace Go.Ab.Ch1
open Go.Ab.bz
variable {M:aO} {cap:Option Nat}
theorem XR (hft:M.FT=FT)(k:Nat)(q:∀h,M.ext 244 [.uV 1,.uV k] h=some ⟨.ao [.uV 0,.uV k],h,[]⟩):aZ M 300 [.uV 1,.uV k] [] ⟨.ao [.uV 0,.uV k],[],[]⟩:=by
 refine bT (by rw[hft];exact Vx) (by simp) ?_
 unfold IS
 simp only[enter]
 repeat' first|apply W.seq|apply ab|apply W.region|apply WO.nil|apply W.ret|apply W.skip|(apply W.aw;rfl)|(apply WO.ay;rfl;rfl;first|exact q _)|(apply WO.pl;rfl;rfl)|(apply WO.pp;rfl;rfl)
 all_goals exact⟨.inr rfl,rfl,_,rfl,rfl,rfl⟩
def nU:al:=[48,48,48,48,48,48,48,48,48,48,48,48,48,48,48,48,48,48,48,48,48,48,48,48,48,48,48,48,48,48,48,48,48,48,48,48,48,48,48,48,48,48,48,48,48,48,48,48,48,48,48,48,48,48,48,48,48,48,48,48,48,48,48,48]
def Kw:al:=[32,32,32,32,32,32,32,32,32,32,32,32,32,32,32,32,32,32,32,32,32,32,32,32,32,32,32,32,32,32,32,32,32,32,32,32,32,32,32,32,32,32,32,32,32,32,32,32,32,32,32,32,32,32,32,32,32,32,32,32,32,32,32,32,32,32,32,32,32,32,32,32,32,32,32,32,32,32,32,32,32,32,32,32,32,32,32,32,32,32,32,32,32,32,32,32,32,32,32,32,32,32,32,32,32,32,32,32,32,32,32,32,32,32,32,32,32,32,32,32,32,32,32,32,32,32,32,32]
def Kx:al:=[45,45,45,45,45,45,45,45,45,45,45,45,45,45,45,45,45,45,45,45,45,45,45,45,45,45,45,45,45,45,45,45,45,45,45,45,45,45,45,45,45,45,45,45,45,45,45,45,45,45,45,45,45,45,45,45,45,45,45,45,45,45,45,45,45,45,45,45,45,45,45,45,45,45,45,45,45,45,45,45,45,45,45,45,45,45,45,45,45,45,45,45,45,45,45,45,45,45,45,45,45,45,45,45,45,45,45,45,45,45,45,45,45,45,45,45,45,45,45,45,45,45,45,45,45,45,45,45]
theorem XS {k:Nat}(h:k<=64):nU.take k=List.replicate k 48:=by
 have:nU=List.replicate 64 48:=rfl
 rw[this,List.take_replicate,Nat.min_eq_left h]
set_option maxRecDepth 100000 in
theorem XT (hft:M.FT=FT)(k:Nat)(hk:k<=64)(q300:∀h,M.ext 300 [.uV 1,.uV k] h=some ⟨.ao [.uV 0,.uV k],h,[]⟩)(q212:∀h,M.ext 212 [.str nU,.str [48]] h=some ⟨.bool true,h,[]⟩)(q32:∀h,M.ext 212 [.str Kw,.str [48]] h=some ⟨.bool false,h,[]⟩)(q45:∀h,M.ext 212 [.str Kx,.str [48]] h=some ⟨.bool false,h,[]⟩):aZ M 264 [.str [48],.iV k] [] ⟨.str (List.replicate k 48),[],[]⟩:=by
 have hn1:([48]:al).length=1:=rfl
 have hz:nU.length=64:=rfl
 have e48:(([48]:al)[(0:Int).toNat]!).toNat=48:=rfl
 refine bT (by rw[hft];exact Vv) (by simp) ?_
 unfold IM
 simp only[enter]
 by_cases h0:k=0
 . subst h0
   repeat' first|apply W.seq|apply ab|apply W.region|apply WO.nil|apply W.block|apply W.ret|apply ba|apply cN|(apply W.ax;rfl)|(apply WO.eql;rfl;rfl)|(apply WO.pl;rfl;rfl)|(apply WO.pp;rfl;rfl)|(intro _;omega)|intro _
   all_goals try omega
   all_goals exact⟨.inr rfl,rfl,_,rfl,rfl,rfl⟩
 . by_cases h1:k=1
   . subst h1
     repeat' first|apply W.seq|apply ab|apply W.region|apply WO.nil|apply W.block|apply W.ret|apply ba|apply cN|(apply W.ax;rfl)|(apply W.aw;rfl)|(apply WO.eql;rfl;rfl)|(apply WO.pl;rfl;rfl)|(apply WO.pp;rfl;rfl)|(intro _;omega)|intro _
     all_goals try omega
     all_goals exact⟨.inr rfl,rfl,_,rfl,rfl,rfl⟩
   . have hd:nU.take (k:Int).toNat=List.replicate k 48:=XS hk
     repeat' first|(apply WO.pp (op:=.index _ _) (v:=.int .u8 48);rfl;rfl)|(apply WO.ig (s:=nU);rfl;rfl;omega;exact hd)|(apply WO.pb (a:=1);rfl;omega)|apply W.seq|apply ab|apply W.region|apply WO.nil|apply W.block|apply W.ret|apply W.skip|apply ba|apply bK|apply cN|(apply W.ax;rfl)|(apply W.aw;rfl)|(apply WO.gT;rfl)|(apply WO.gF;rfl)|(apply WO.lss;rfl;rfl)|(apply WO.leq;rfl;rfl)|(apply WO.gtr;rfl;rfl)|(apply WO.eql;rfl;rfl)|(apply WO.pb;rfl;omega)|(apply WO.ku;rfl;omega)|(apply WO.bn;rfl;rfl)|(apply WO.bx;rfl;rfl)|(apply WO.ay;rfl;rfl;first|exact q300 _|exact q212 _|exact q32 _|exact q45 _)|(apply WO.pl;rfl;rfl)|(apply WO.pp;rfl;rfl)|(intro _;omega)|intro _
     all_goals try omega
     all_goals exact⟨.inr rfl,rfl,_,rfl,rfl,rfl⟩
end Go.Ab.Ch1

/-
  Own work: the contracts of texts, and of operations on numbers as texts, as tables.
-/
namespace Go.Ab.Ch1
open Go.Proofs Go.Ab.bz
variable {T:List (Nat×Spec)}
set_option maxRecDepth 1000000 in
theorem XU:mQ Tryz.prog 323 .same:=⟨⟨_,rfl,by kernel_rfl,by kernel_rfl,by kernel_rfl,by kernel_rfl⟩⟩
noncomputable def Ky:Spec:=sK [] 324
noncomputable def Kz:Spec:=sK [] 325
theorem XV:aW Tryz.prog gl 324 Ky:=bC bR
theorem XW:aW Tryz.prog gl 325 Kz:=bC bR
noncomputable def KA:List (Nat×Spec):=[(240,rW),(324,Ky),(325,Kz)]
theorem XX:IF (bw Tryz.prog FT KA) where
 ft:=bP
 pC:=fun x h hx=>Bg x h hx
 IG:=fun x h hx=>cz (UY bP x hx) rfl rfl rfl h
 BB:=fun x h=>cz (UZ bP x) rfl rfl rfl h
noncomputable def KB:Spec:=sK [] 304
noncomputable def KC:Spec:=sK KA 305
theorem XY:aW Tryz.prog gl 304 KB:=bC bR
theorem XZ:aW Tryz.prog gl 305 KC:=bC (aS Bf (aS XV (aS XW bR)))
noncomputable def wI:List (Nat×Spec):=[(304,KB),(305,KC)]
theorem KD:cm Tryz.prog gl (bk wI):=aS XY (aS XZ bR)
theorem KE:ss (bw Tryz.prog FT wI) where
 ft:=bP
 IL:=fun _ _=>rfl
 BI:=fun n h hn=>cz (Vj bP n hn) rfl rfl rfl h
 wu:=fun d h hd=>cz (Ve XX d hd) rfl rfl rfl h
noncomputable def wJ:Spec:=sK wI 299
noncomputable def wK:Spec:=sK wI 267
noncomputable def wL:Spec:=sK [(267,wK)] 226
noncomputable def Co:Spec:=sK [(226,wL)] 183
noncomputable def Cp:Spec:=sK [(299,wJ)] 263
theorem Ya:aW Tryz.prog gl 299 wJ:=bC KD
theorem Yb:aW Tryz.prog gl 267 wK:=bC KD
theorem Yc:aW Tryz.prog gl 226 wL:=bC (aS Yb bR)
theorem Yd:aW Tryz.prog gl 183 Co:=bC (aS Yc bR)
theorem Ye:aW Tryz.prog gl 263 Cp:=bC (aS Ya bR)
theorem Yf:∀z h,(-9223372036854775808<=z/\z<9223372036854775808)->Co [.iV z] h=some ⟨.str (cK z),h,[]⟩:=fun z h hz=>by
 have q267:∀h,wK [.iV z,.iV 10] h=some ⟨.str (cK z),h,[]⟩:=cz (Vq KE z hz) rfl rfl rfl
 have q226:∀h,wL [.iV z] h=some ⟨.str (cK z),h,[]⟩:=cz (Vr (M:=bw Tryz.prog FT [(267,wK)]) bP z q267) rfl rfl rfl
 exact cz (Vs (M:=bw Tryz.prog FT [(226,wL)]) bP z q226) rfl rfl rfl h
theorem Yg:∀(u:Nat) h,u<18446744073709551616->Cp [.uV u,.iV 10] h=some ⟨.str (bh u),h,[]⟩:=fun u h hu=>by
 have q299:∀h,wJ [.uV u,.iV 10] h=some ⟨.str (bh u),h,[]⟩:=cz (Vp KE u hu) rfl rfl rfl
 exact cz (Vt (M:=bw Tryz.prog FT [(299,wJ)]) bP u q299) rfl rfl rfl h
noncomputable def mu:Spec:=sK [] 255
noncomputable def sM:Spec:=sK [(255,mu)] 212
noncomputable def wM:Spec:=sK [(255,mu)] 258
noncomputable def wN:Spec:=sK [(258,wM)] 213
noncomputable def wO:Spec:=sK [(255,mu)] 207
noncomputable def Cq:Spec:=sK [(207,wO)] 162
theorem Cr:aW Tryz.prog gl 255 mu:=bC bR
theorem KF:aW Tryz.prog gl 212 sM:=bC (aS Cr bR)
theorem Yh:aW Tryz.prog gl 258 wM:=bC (aS Cr bR)
theorem Yi:aW Tryz.prog gl 213 wN:=bC (aS Yh bR)
theorem Yj:aW Tryz.prog gl 207 wO:=bC (aS Cr bR)
theorem Yk:aW Tryz.prog gl 162 Cq:=bC (aS Yj bR)
theorem Cs:∀(s:al) b h,s.length<1000000->mu [.str s,.str [b]] h=some ⟨.bool (preB b s),h,[]⟩:=fun s b h hl=>cz (WU bP s b hl) rfl rfl rfl h
theorem wP:∀(s:al) b h,s.length<1000000->sM [.str s,.str [b]] h=some ⟨.bool (preB b s),h,[]⟩:=fun s b h hl=>
 cz (WW (M:=bw Tryz.prog FT [(255,mu)]) bP s b fun h=>Cs s b h hl) rfl rfl rfl h
theorem Yl:∀(s:al) b h,s.length<1000000->wN [.str s,.str [b]] h=some ⟨.str (bJ b s),h,[]⟩:=fun s b h hl=>by
 have q258:∀h,wM [.str s,.str [b]] h=some ⟨.str (bJ b s),h,[]⟩:=cz (WX (M:=bw Tryz.prog FT [(255,mu)]) bP s b hl fun h=>Cs s b h hl) rfl rfl rfl
 exact cz (WY (M:=bw Tryz.prog FT [(258,wM)]) bP s b q258) rfl rfl rfl h
theorem Ym:∀(s:al) b h,s.length<1000000->Cq [.str s,.str [b]] h=some ⟨.ao [.str (bJ b s),.bool (preB b s)],h,[]⟩:=fun s b h hl=>by
 have q207:∀h,wO [.str s,.str [b]] h=some ⟨.ao [.str (bJ b s),.bool (preB b s)],h,[]⟩:=cz (WZ (M:=bw Tryz.prog FT [(255,mu)]) bP s b hl fun h=>Cs s b h hl) rfl rfl rfl
 exact cz (Xa (M:=bw Tryz.prog FT [(207,wO)]) bP s b q207) rfl rfl rfl h
def KG:List (Nat×Spec):=[(312,lH .index)]
theorem Yn:sA (bw Tryz.prog FT KG) where
 ft:=bP
 JB:=fun _ _=>rfl
 JC:=fun _ _=>rfl
 JD:=fun _ _ _=>rfl
noncomputable def wQ:Spec:=sK KG 163
theorem Yo:aW Tryz.prog gl 163 wQ:=bC (aS (ug Gf) bR)
theorem Yp:∀(s:al) b h,s.length<1000000->wQ [.str s,.str [b]] h=some ⟨ie b s,h,[]⟩:=fun s b h hl=>cz (Ww (fun _ _=>rfl) Yn s b hl) rfl rfl rfl h
theorem Yq:cB eH=eH:=by
 unfold eH
 induction List.range 256 with
 | nil=>rfl
 | cons a l ih=>
  rw[List.map_cons,cB,ih]
  rfl
theorem Yr:br eH=0:=by
 unfold eH
 induction List.range 256 with
 | nil=>rfl
 | cons a l ih=>simp only[List.map_cons,br,ih,AV.top];rfl
noncomputable def wR:Spec:=sK [] 288
noncomputable def wS:Spec:=sK [(288,wR)] 257
noncomputable def wT:Spec:=sK [(257,wS)] 209
noncomputable def Ct:Spec:=sK [(209,wT)] 164
noncomputable def wU:Spec:=sK [] 214
theorem Ys:aW Tryz.prog gl 288 wR:=bC bR
theorem Yt:aW Tryz.prog gl 257 wS:=bC (aS Ys bR)
theorem Yu:aW Tryz.prog gl 209 wT:=bC (aS Yt bR)
theorem Yv:aW Tryz.prog gl 164 Ct:=bC (aS Yu bR)
theorem Yw:aW Tryz.prog gl 214 wU:=bC bR
theorem Yx:∀h,wR [.str ml] h=some ⟨.ao [.agg eH,.bool true],h,[]⟩:=cz (Wz bP) rfl (by simp[AV.top,br,Yr]) (by simp only[bM,cB,Yq])
theorem Yy:nN (bw Tryz.prog FT [(288,wR)]) where
 ft:=bP
 JF:=fun _ _=>rfl
 JG:=fun _ _=>rfl
 JH:=fun _ _=>rfl
 wD:=Yx
theorem Yz:∀(s:al) h,s.length<1000000->Ct [.str s] h=some ⟨.bool (dy s),h,[]⟩:=fun s h hl=>by
 have q257:∀h,wS [.str s,.str ml] h=some ⟨.str (jB (iw s)),h,[]⟩:=cz (WM Yy s hl) rfl rfl rfl
 have q209:∀h,wT [.str s] h=some ⟨.bool (decide (s≠[]) && s.all bF),h,[]⟩:=cz (Xr (M:=bw Tryz.prog FT [(257,wS)]) bP s q257) rfl rfl rfl
 exact cz (Xs (M:=bw Tryz.prog FT [(209,wT)]) bP s q209) rfl rfl rfl h
theorem YA:∀(s:al) h,s≠[]->s.length<=18->s.all bF=true->wU [.str s] h=some ⟨.ao [.iV (aM 0 s),.cU],h,[]⟩:=fun s h h0 hl hd=>cz (WT ⟨bP,fun _ _=>rfl⟩ s h0 hl hd) rfl rfl rfl h
noncomputable def Cu:Spec:=sK [(244,me)] 300
theorem YB:aW Tryz.prog gl 300 Cu:=bC (aS Ba bR)
theorem YC {k:Nat}(hk:k<=64):∀h,Cu [.uV 1,.uV k] h=some ⟨.ao [.uV 0,.uV k],h,[]⟩:=
 cz (XR (M:=bw Tryz.prog FT [(244,me)]) bP k fun h=>by
  have:=Bb 1 k h (by decide) (by omega)
  rw[show (1:Int)*k/18446744073709551616=0 by omega,show (1:Int)*k%18446744073709551616=k by omega]at this
  exact this) rfl rfl rfl
noncomputable def KH:List (Nat×Spec):=[(300,Cu),(212,sM)]
noncomputable def Cv:Spec:=sK KH 264
theorem YD:aW Tryz.prog gl 264 Cv:=bC (aS YB (aS KF bR))
set_option maxRecDepth 1000000 in
theorem YE:∀(k:Nat) h,k<=64->Cv [.str [48],.iV k] h=some ⟨.str (List.replicate k 48),h,[]⟩:=fun k h hk=>
 cz (XT (M:=bw Tryz.prog FT KH) bP k hk (YC hk) (fun h=>wP nU 48 h (by decide)) (fun h=>wP Kw 48 h (by decide)) (fun h=>wP Kx 48 h (by decide))) rfl rfl rfl h
noncomputable def wV:List (Nat×Spec):=(183,Co)::(263,Cp)::(264,Cv)::(253,pP)::(323,lH .same)::TI
theorem YF:cm Tryz.prog gl (bk wV):=aS Yd (aS Ye (aS YD (aS Tg (aS (ug XU) pQ))))
theorem YG:EI wV:=by repeat' first|exact fun _ _=>rfl|constructor
theorem YH {N:Nat}(hN:N<=500000):wz (bw Tryz.prog FT wV) N:={ YG.c hN with
 Jf:=fun z h hz=>Yf z h hz
 BP:=fun u h hu=>Yg u h hu
 Jg:=fun k h hk=>YE k h hk
 Jh:=fun l b c h o n hl hv hb=>Th l b c h o n hl hv hb
 Ji:=fun l b c h o n hl hv hb=>Ti l b c h o n hl hv hb
 BT:=fun _ _=>rfl
 BU:=fun _ _=>rfl
 pT:=fun _ _=>rfl
 nL:=fun _ _=>rfl }
noncomputable def Cw:Spec:=sK wV 224
theorem YI:aW Tryz.prog gl 224 Cw:=bC YF
theorem KI {N:Nat}(hN:N<=500000):∀v z,aL v z->an z<wB^N->∀h,Cw [v] h=some ⟨.str (cK z),h,[]⟩:=fun v z hv lz=>cz (VM (YH hN) hv lz) (hZ hv.top) rfl rfl
noncomputable def Cy:List (Nat×Spec):=(240,rW)::TI
theorem YJ:EI Cy:=by repeat' first|exact fun _ _=>rfl|constructor
noncomputable def wW:Spec:=sK Cy 262
noncomputable def wX:Spec:=sK [(262,wW)] 223
noncomputable def Cz:Spec:=sK [(223,wX)] 175
theorem YK:aW Tryz.prog gl 262 wW:=bC (aS Bf pQ)
theorem YL:aW Tryz.prog gl 223 wX:=bC (aS YK bR)
theorem YM:aW Tryz.prog gl 175 Cz:=bC (aS YL bR)
theorem YN {z:Int}(h:z<2^1800):z<wB^29:=by
 have e:wB=2^64:=by decide
 rw[e,←Int.pow_mul]
 exact Int.lt_of_lt_of_le h (gZ (by decide) (by decide))
theorem YO:∀v z h,aL v z->an z<2^1800->wX [v] h=some ⟨.bool false,h,[]⟩:=fun v z h hv lz=>by
 have q262:∀h,wW [v] h=some ⟨.iV (cd (an z)),h,[]⟩:=dQ (SL (M:=bw Tryz.prog FT Cy) (YJ.c (N:=29) (by decide)) (fun x h hx=>Bg x h hx) hv (YN lz)) (hZ hv.top)
 exact cz (VN (M:=bw Tryz.prog FT [(262,wW)]) bP hv lz q262) (hZ hv.top) rfl rfl h
theorem YP:∀v q,bm v q->an q.num<2^1800->(q.den:Int)<2^1800->∀h,Cz [v] h=some ⟨.bool false,h,[]⟩:=fun v q hv l1 l2=>
 cz (VP (M:=bw Tryz.prog FT [(223,wX)]) bP hv l1 l2 fun v z h hv lz=>YO v z h hv lz) (hZ hv.top) rfl rfl
noncomputable def KJ:List (Nat×Spec):=[(201,sf),(224,Cw)]
noncomputable def CA:Spec:=sK KJ 176
theorem YQ:aW Tryz.prog gl 176 CA:=bC (aS Ic (aS YI bR))
theorem YR (n:Nat):cK (n:Int)=bh n:=by
 rw[jX (by omega),cQ (by omega)];rfl
theorem Dq.bq {k N:Nat}{q:Rat}(h:Dq k q)(hN:k<=N):Bq N q:=by
 have e:(10:Int)^k<=wB^N:=Int.le_trans (mr hN) (by
  clear hN
  induction N with
  | zero=>decide
  | succ n ih=>
   rw[Int.pow_succ,Int.pow_succ]
   have h0:(0:Int)<=10^n:=Int.le_of_lt (nS n)
   have h1:(0:Int)<=wB^n:=Int.le_trans h0 ih
   exact Int.le_trans (Int.mul_le_mul_of_nonneg_right ih (by decide)) (Int.mul_le_mul_of_nonneg_left (by decide) h1))
 exact⟨Int.lt_of_lt_of_le h.1 e,Int.lt_of_lt_of_le h.2 e⟩
theorem YS {k:Nat}(h:k<=450):(10:Int)^k<=2^1800:=by
 have e:(10:Int)^k<=(2^4)^k:=by
  clear h
  induction k with
  | zero=>decide
  | succ n ih=>
   rw[Int.pow_succ,Int.pow_succ]
   have h0:(0:Int)<=10^n:=Int.le_of_lt (nS n)
   have h1:(0:Int)<=(2^4)^n:=Int.le_trans h0 ih
   exact Int.le_trans (Int.mul_le_mul_of_nonneg_right ih (by decide)) (Int.mul_le_mul_of_nonneg_left (by decide) h1)
 rw[←Int.pow_mul]at e
 exact Int.le_trans e (gZ (by decide) (by omega))
theorem YT:∀v q,bm v q->Dq 450 q->∀h,CA [v] h=some ⟨.str (aY q),h,[]⟩:=fun v q hv hq=>by
 have lq:=hq.lq (N:=451) (by decide) (by decide)
 have bq:=hq.bq (N:=450) (Nat.le_refl _)
 exact cz (VR (M:=bw Tryz.prog FT KJ) bP hv ⟨by have:=lq.1;omega,by have:=lq.2;omega⟩ (fun h=>Ig v q hv h) (fun v h hv=>KI (by decide) v _ hv bq.1 h) (fun v h hv=>by
  have:=KI (N:=450) (by decide) v _ hv (by rw[cQ (by omega)];exact bq.2) h
  rw[YR]at this
  exact this)) (hZ hv.top) rfl rfl
noncomputable def KK:List (Nat×Spec):=[(175,Cz),(176,CA)]
noncomputable def wY:Spec:=sK KK 105
theorem KL:aW Tryz.prog gl 105 wY:=bC (aS YM (aS YQ bR))
theorem KM:∀v q,bm v q->Dq 450 q->∀h,wY [v] h=some ⟨.ao [.str (aY q),.iV 0],h,[]⟩:=fun v q hv hq=>by
 have e:=YS (Nat.le_refl 450)
 exact cz (Xw (M:=bw Tryz.prog FT KK) bP hv (fun h=>YP v q hv (Int.lt_of_lt_of_le hq.1 e) (Int.lt_of_lt_of_le hq.2 e) h) (fun h=>YT v q hv hq h)) (hZ hv.top) rfl rfl
noncomputable def wZ:Spec:=sK TF 215
theorem YU:aW Tryz.prog gl 215 wZ:=bC Bn
theorem YV {A:Int}(hA:an A<=10)(i:Nat):an (A^i)<=10^i:=by
 induction i with
 | zero=>
  rw[Int.pow_zero,Int.pow_zero]
  decide
 | succ n ih=>
  rw[Int.pow_succ,Int.pow_succ,rU]
  exact Int.le_trans (Int.mul_le_mul_of_nonneg_right ih iq) (Int.mul_le_mul_of_nonneg_left hA (Int.le_of_lt (nS n)))
theorem YW:∀v A (K:Nat),aL v A->K<=18->an A<=10->∃v0,aL v0 (A^K)/\∀h,wZ [v,.iV K] h=some ⟨v0,h,[]⟩:=fun v A K hv hK hA=>by
 obtain⟨v0,h1,h2⟩:=SN (eF.c (N:=1) (by decide) (by decide)) hv (K:=K) (by omega) fun i hi=>by
  have ux:(10:Int)^i<=10^18:=mr (by omega)
  have hw:(10:Int)^18<wB^1:=by decide
  exact Int.lt_of_le_of_lt (Int.le_trans (YV hA i) ux) hw
 exact⟨v0,h1,dQ h2 (fV hv.top rfl)⟩
noncomputable def xc:List (Nat×Spec):=(212,sM)::(213,wN)::(214,wU)::(215,wZ)::TF
theorem KN:cm Tryz.prog gl (bk xc):=aS KF (aS Yi (aS Yw (aS YU Bn)))
structure xe (T:List (Nat×Spec)):Prop extends EF T where
 YX:∀ar h,bk T 212 ar h=sM ar h
 YY:∀ar h,bk T 213 ar h=wN ar h
 YZ:∀ar h,bk T 214 ar h=wU ar h
 Za:∀ar h,bk T 215 ar h=wZ ar h
theorem xe.c (E:xe T){N:Nat}(h1:1<=N)(hN:N<=500000):wF (bw Tryz.prog FT T) N:={ E.toEF.c h1 hN with
 JQ:=fun s h hl=>(E.YX _ _).trans (wP s 45 h hl)
 JR:=fun s h hl=>(E.YY _ _).trans (Yl s 45 h hl)
 JS:=fun s h h0 hl hd=>(E.YZ _ _).trans (YA s h h0 hl hd)
 JT:=fun v A K hv hK _ hA=>by
  obtain⟨v0,k1,k2⟩:=YW v A K hv hK hA
  exact⟨v0,k1,fun h=>(E.Za _ _).trans (k2 h)⟩ }
theorem Zb:xe xc:=by repeat' first|exact fun _ _=>rfl|constructor
noncomputable def xf:Spec:=sK xc 166
theorem Zc:aW Tryz.prog gl 166 xf:=bC KN
theorem Zd {N:Nat}(h1:1<=N)(hN:N<=500000):∀(s:al),s.length<=N->(bJ 45 s).all bF=true->∃v0,aL v0 (if preB 45 s then -(aM 0 (bJ 45 s):Int) else (aM 0 (bJ 45 s):Nat))/\∀h,xf [.str s] h=some ⟨v0,h,[]⟩:=fun s hl hd=>by
 obtain⟨v0,k1,k2⟩:=Xc (Zb.c h1 hN) s hl hd
 exact⟨v0,k1,dQ k2 rfl⟩
noncomputable def xg:List (Nat×Spec):=(163,wQ)::(166,xf)::xc
theorem KO:cm Tryz.prog gl (bk xg):=aS Yo (aS Zc KN)
structure xh (T:List (Nat×Spec)):Prop extends xe T where
 Ze:∀ar h,bk T 163 ar h=wQ ar h
 Zf:∀ar h,bk T 166 ar h=xf ar h
theorem xh.c (E:xh T){N:Nat}(h1:1<=N)(hN:N<=500000):kN (bw Tryz.prog FT T) N:={ E.toxe.c h1 hN with
 Cd:=fun s h hl=>(E.Ze _ _).trans (Yp s 47 h hl)
 Ce:=by simp only[E.Zf];exact Zd h1 hN }
theorem Zg:xh xg:=by repeat' first|exact fun _ _=>rfl|constructor
noncomputable def qe:Spec:=sK xg 103
theorem xi:aW Tryz.prog gl 103 qe:=bC KO
theorem xj {N:Nat}(h1:1<=N)(hN:N<=400000):∀q,Lq N q->∃v0,bm v0 q/\∀h,qe [.str (aY q)] h=some ⟨v0,h,[]⟩:=fun q lq=>by
 obtain⟨v0,k1,k2⟩:=Xg (Zg.c h1 (by omega)) hN lq
 exact⟨v0,k1,dQ k2 rfl⟩
noncomputable def xk:List (Nat×Spec):=(162,Cq)::(164,Ct)::(165,sc)::(97,uz)::(96,nj)::xg
theorem Zh:cm Tryz.prog gl (bk xk):=aS Yk (aS Yv (aS HZ (aS Gm (aS Gn KO))))
theorem Zi:xh xk:=by repeat' first|exact fun _ _=>rfl|constructor
theorem KP {v:AV}{h:ae}{l:List Int}(hl:jr h v=some l)(hn:l.length<1000):nj [v] h=some ⟨.iV (dM l),h,[]⟩:=by
 simp only[nj,hl]
 rw[if_pos (by omega)]
theorem Zj:Cf (bw Tryz.prog FT xk) 600:={ Zi.c (by decide) (by decide) with
  Ki:=fun s h hl=>Ym s 45 h hl
  Cg:=fun s h hl=>Yz s h hl
  rT:=fun a b x y ha hb hx hy=>Ia (by decide) (by decide) a b x y ha hb hx hy
  mn:=fun _ _ _=>rfl
  mq:=fun v h l hl hn=>KP hl hn }
noncomputable def sN:Spec:=sK xk 84
theorem KQ:aW Tryz.prog gl 84 sN:=bC Zh
theorem CB:∀(s:al) h,s.length<1000000->sN [.str s] h=some ⟨.iV (eo s),h,[]⟩:=fun s h hl=>cz (Xu Zj (Nat.le_refl _) s hl) rfl rfl rfl h
noncomputable def sO:Spec:=sL [(84,sN)] 101
theorem CC:aW Tryz.prog gl 101 sO:=jV (aS KQ bR)
theorem CE:∀v h a b,dr h v (.vs [.str a,.str b] 2 none)->a.length<1000000->b.length<1000000->sO [v] h=some ⟨.iV (dM [eo a,eo b]),h,[]⟩:=fun v h a b hf ha hb=>
 uu (Xv (M:=bw Tryz.prog FT [(84,sN)]) bP a b _ _ (fun h=>CB a h ha) (fun h=>CB b h hb)) rfl rfl rfl (.cons hf .nil)
noncomputable def xl:List (Nat×Spec):=[(101,sO),(103,qe),(105,wY),(151,sh),(149,Br),(152,se),(150,Bs)]
theorem Zk:cm Tryz.prog gl (bk xl):=aS CC (aS xi (aS KL (aS Ii (aS UC (aS Ib (aS UD bR))))))
theorem gS:sH (bw Tryz.prog FT xl) 1000 where
 ft:=bP
 qd:=fun v h a b hf ha hb=>CE v h a b hf ha hb
 nP:=fun q lq=>xj (by decide) (by decide) q lq
noncomputable def xn:Spec:=sK xl 169
theorem KR:aW Tryz.prog gl 169 xn:=bC Zk
theorem xp {g:Nat}{p q r:Rat}(hp:Dq 200 p)(hq:Dq 200 q)(hr:Dq 450 r)(ho:∀va vb,bm va p->bm vb q->∃v0,bm v0 r/\∀h,bk xl g [va,vb] h=some ⟨v0,h,[]⟩):∀h,xn [.str (aY p),.str (aY q),.fn (.func g) [] []] h=some ⟨.ao [.str (aY r),.iV 0],h,[]⟩:=
 cz (Xy gS (by decide) (hp.lq (by decide) (by decide)) (hq.lq (by decide) (by decide)) (nT (by decide) (by decide) hp) (nT (by decide) (by decide) hq) ⟨fun va vb ha hb=>by
  obtain⟨v0,k1,k2⟩:=ho va vb ha hb
  exact⟨v0,k1,k2,fun h=>KM v0 r k1 hr h⟩⟩) rfl rfl rfl
noncomputable def nW:List (Nat×Spec):=[(169,xn)]
theorem CH:cm Tryz.prog gl (bk nW):=aS KR bR
noncomputable def CK:Spec:=sK nW 85
noncomputable def CL:Spec:=sK nW 86
noncomputable def CM:Spec:=sK nW 87
theorem Zl:aW Tryz.prog gl 85 CK:=bC CH
theorem Zm:aW Tryz.prog gl 86 CL:=bC CH
theorem Zn:aW Tryz.prog gl 87 CM:=bC CH
theorem Zo:∀p q h,Dq 200 p->Dq 200 q->CK [.str (aY p),.str (aY q)] h=some ⟨.ao [.str (aY (p+q)),.iV 0],h,[]⟩:=fun p q h hp hq=>
 cz (Xz (M:=bw Tryz.prog FT nW) bP _ _ _ _ fun h=>xp (g:=151) hp hq ((hp.add hq).mono (by decide)) (fun va vb ha hb=>Ij (N:=1000) (by decide) (by decide) va vb p q ha hb (hp.bq (by decide)) (hq.bq (by decide))) h) rfl rfl rfl h
theorem Zp:∀p q h,Dq 200 p->Dq 200 q->CL [.str (aY p),.str (aY q)] h=some ⟨.ao [.str (aY (p-q)),.iV 0],h,[]⟩:=fun p q h hp hq=>
 cz (XA (M:=bw Tryz.prog FT nW) bP _ _ _ _ fun h=>xp (g:=149) hp hq ((hp.sub hq).mono (by decide)) (fun va vb ha hb=>UE (N:=1000) (by decide) (by decide) va vb p q ha hb (hp.bq (by decide)) (hq.bq (by decide))) h) rfl rfl rfl h
theorem Zq:∀p q h,Dq 200 p->Dq 200 q->CM [.str (aY p),.str (aY q)] h=some ⟨.ao [.str (aY (p*q)),.iV 0],h,[]⟩:=fun p q h hp hq=>
 cz (XB (M:=bw Tryz.prog FT nW) bP _ _ _ _ fun h=>xp (g:=152) hp hq ((hp.mul hq).mono (by decide)) (fun va vb ha hb=>Ie (N:=1000) (by decide) (by decide) va vb p q ha hb (hp.bq (by decide)) (hq.bq (by decide))) h) rfl rfl rfl h
noncomputable def CN:List (Nat×Spec):=[(101,sO),(103,qe),(97,uz),(96,nj),(169,xn)]
theorem Zr:cm Tryz.prog gl (bk CN):=aS CC (aS xi (aS Gm (aS Gn (aS KR bR))))
theorem Zs:Kk (bw Tryz.prog FT CN) 1000 where
 ft:=bP
 qd:=fun v h a b hf ha hb=>CE v h a b hf ha hb
 nP:=fun q lq=>xj (by decide) (by decide) q lq
 mn:=fun _ _ _=>rfl
 mq:=fun v h l hl hn=>KP hl hn
noncomputable def CO:Spec:=sK CN 88
theorem Zt:aW Tryz.prog gl 88 CO:=bC Zr
theorem Zu:∀p q h,Dq 200 p->Dq 200 q->q≠0->CO [.str (aY p),.str (aY q)] h=some ⟨.ao [.str (aY (p*q⁻¹)),.iV 0],h,[]⟩:=fun p q h hp hq h0=>by
 have l1:=kO (hp.lq (N:=201) (by decide) (by decide))
 have l2:=kO (hq.lq (N:=201) (by decide) (by decide))
 have c1:=nT (by decide) (by decide) hp
 have c2:=nT (by decide) (by decide) hq
 have hi:=hq.inv h0
 exact cz (XC Zs (aY p) (aY q) (aY (p*q⁻¹)) (by omega) (by omega) (by rw[c1,c2];rfl) (fun e=>h0 (XQ e)) fun h=>xp (g:=150) hp hq ((hp.mul hi).mono (by decide)) (fun va vb ha hb=>UF (N:=1000) (by decide) (by decide) va vb p q ha hb (hp.bq (by decide)) (hq.bq (by decide)) (hi.bq (by decide)) h0) h) rfl rfl rfl h
noncomputable def CP:List (Nat×Spec):=[(101,sO),(103,qe),(148,Bo)]
theorem Zv:cm Tryz.prog gl (bk CP):=aS CC (aS xi (aS Uq bR))
theorem Zw:sH (bw Tryz.prog FT CP) 1000 where
 ft:=bP
 qd:=fun v h a b hf ha hb=>CE v h a b hf ha hb
 nP:=fun q lq=>xj (by decide) (by decide) q lq
noncomputable def CV:Spec:=sK CP 89
theorem Zx:aW Tryz.prog gl 89 CV:=bC Zv
theorem Zy:∀p q h,Dq 200 p->Dq 200 q->CV [.str (aY p),.str (aY q)] h=some ⟨.ao [.iV (iO p q),.iV 0],h,[]⟩:=fun p q h hp hq=>
 cz (XD Zw (by decide) (hp.lq (by decide) (by decide)) (hq.lq (by decide) (by decide)) (nT (by decide) (by decide) hp) (nT (by decide) (by decide) hq) fun va vb ha hb h=>Ut (N:=1000) (by decide) (by decide) va vb p q ha hb (hp.bq (by decide)) (hq.bq (by decide)) h) rfl rfl rfl h
noncomputable def CW:List (Nat×Spec):=[(84,sN),(103,qe),(160,Bp),(159,rZ),(105,wY)]
theorem Zz:cm Tryz.prog gl (bk CW):=aS KQ (aS xi (aS Ur (aS HW (aS KL bR))))
noncomputable def CX:Spec:=sK CW 79
theorem ZA:aW Tryz.prog gl 79 CX:=bC Zz
theorem ZB:∀p h,Dq 200 p->CX [.str (aY p)] h=some ⟨.ao [.str (aY (iP p)),.iV 0],h,[]⟩:=fun p h hp=>by
 have l1:=kO (hp.lq (N:=201) (by decide) (by decide))
 have c1:=nT (by decide) (by decide) hp
 obtain⟨v1,a1,q1⟩:=xj (N:=201) (by decide) (by decide) p (hp.lq (by decide) (by decide))
 obtain⟨v2,a2,q2⟩:=Uu (N:=1000) (by decide) (by decide) v1 p a1 (hp.bq (by decide))
 obtain⟨v3,a3,q3⟩:=HX v2 _ a2
 have a3:bm v3 (iP p):=by
  unfold bm
  rw[(sJ p).1,(sJ p).2]
  exact a3
 exact cz (XE (M:=bw Tryz.prog FT CW) bP (fun h=>by have:=CB (aY p) h (by omega);rw[c1]at this;exact this) q1 q2 q3 (fun h=>KM v3 _ a3 (hp.floor.mono (by decide)) h)) rfl rfl rfl h
end Go.Ab.Ch1

/-
  Own work: the code of functions: the reference numbers: check.
-/
namespace Go.Ab.Ch1
set_option maxRecDepth 1000000
def KS:ak:=.seq (.region [zi 1 0]) (.seq (.region [zm 8 0,zw 2 8]) (.seq (.seq (.region [zm 9 2,zL 10 9,zc 11 .gtr 10 0,zn 12 11,zg (zm 13 2) 12 true,⟨.l 14,.index (.l 13) (kI 0),some ((.l 12),true)⟩,⟨.l 15,.bin .eql (.l 14) (.c (.int .u8 (45))),some ((.l 12),true)⟩,zp 16 12 15]) (.cond (.l 16) (.region [zm 17 2,⟨.l 18,.slice .str 1 (.l 17) (some (kI 1)) none none,none⟩,zw 2 18]) (.skip))) (.seq (.region [zm 19 2,z1 20 153 19,zw 3 20]) (.seq (.seq (.region [zm 21 2,zm 22 3,⟨.l 23,.slice .str 1 (.l 21) none (some (.l 22)) none,none⟩,z1 24 154 23,zu 25 24,zn 26 25,zg (zm 27 0) 26 false,⟨.l 28,.index (.l 27) (kI 0),some ((.l 26),false)⟩,⟨.l 29,.bin .eql (.l 28) (.c (.int .u8 (45))),some ((.l 26),false)⟩,zg (zn 30 29) 26 false,zg (zm 31 2) 30 true,zg (zm 32 3) 30 true,⟨.l 33,.slice .str 1 (.l 31) none (some (.l 32)) none,some ((.l 30),true)⟩,⟨.l 34,.bin .eql (.l 33) (.c (.str [48])),some ((.l 30),true)⟩,zg (zp 35 30 34) 26 false,zP 36 26 35]) (.cond (.l 36) (.seq (.region [zi 1 1]) (.ret)) (.skip))) (.seq (.seq (.region [zm 37 3,zm 38 2,zL 39 38,zb 40 .lss 37 39,zn 41 40,zg (zm 42 2) 41 true,zg (zm 43 3) 41 true,zg (zc 44 .add 43 1) 41 true,⟨.l 45,.slice .str 1 (.l 42) (some (.l 44)) none none,some ((.l 41),true)⟩,zg (z1 46 154 45) 41 true,zg (zu 47 46) 41 true,zg (zn 48 47) 41 true,zg (zm 49 2) 48 false,zg (zm 50 3) 48 false,zg (zc 51 .add 50 1) 48 false,⟨.l 52,.slice .str 1 (.l 49) (some (.l 51)) none none,some ((.l 48),false)⟩,⟨.l 53,.bin .eql (.l 52) (.c (.str [48])),some ((.l 48),false)⟩,zg (zP 54 48 53) 41 true,zg (zn 55 54) 41 true,zg (zm 56 2) 55 false,zg (zm 57 3) 55 false,zg (zc 58 .add 57 1) 55 false,⟨.l 59,.slice .str 1 (.l 56) (some (.l 58)) none none,some ((.l 55),false)⟩,⟨.l 60,.bin .eql (.l 59) (.c (.str [49])),some ((.l 55),false)⟩,zg (zP 61 55 60) 41 true,zp 62 41 61]) (.cond (.l 62) (.seq (.region [zi 1 1]) (.ret)) (.skip))) (.seq (.seq (.region [zm 63 3,zc 64 .gtr 63 600,zn 65 64,zg (zm 66 2) 65 false,zg (zL 67 66) 65 false,zg (zm 68 3) 65 false,zg (zb 69 .sub 67 68) 65 false,zg (zc 70 .sub 69 1) 65 false,zg (zc 71 .gtr 70 600) 65 false,zP 72 65 71]) (.cond (.l 72) (.seq (.region [zi 1 4]) (.ret)) (.skip))) (.seq (.seq (.region [zm 73 3,zm 74 2,zL 75 74,zb 76 .lss 73 75]) (.cond (.l 76) (.seq (.region [zm 78 2,z1 79 135 78,zn 77 79,ze 80 0 77,ze 81 1 77,⟨.p 4,.alloc 162 [.bool false,.ah],none⟩,⟨.p 5,.alloc 162 [.bool false,.ah],none⟩,zs 2 4 80,zs 2 5 81]) (.seq (.region [zf 82 1 4,zd 83 1 82,zf 84 1 5,zd 85 1 84,z2 86 155 83 85,zw 6 86]) (.seq (.region [zm 87 6,zl 88 87,zc 89 .neq 88 1,zn 90 89,zg (zm 91 6) 90 false,⟨.l 92,.dw none 1 (.l 91) (kI 0),some ((.l 90),false)⟩,zg (zd 93 1 92) 90 false,zg (zc 94 .neq 93 1) 90 false,zP 95 90 94]) (.cond (.l 95) (.seq (.region [zi 1 1]) (.ret)) (.skip))))) (.skip))) (.seq (.region [zi 1 0]) (.ret)))))))))
theorem ZC:FT 62=some ⟨96,[0,2,3,4,5,6,7],[.var (.p 1)],KS⟩:=by kernel_rfl
def sP:ak:=.seq (.seq (.region [zm 4 2,zm 5 0,zL 6 5,zb 7 .lss 4 6]) (.cond (.l 7) (.skip) (.exit 0))) (.seq (.block 1 (.seq (.region [zm 10 0,zm 11 2,⟨.l 12,.index (.l 10) (.l 11),none⟩,⟨.l 13,.bin .eql (.l 12) (.c (.int .u8 (47))),none⟩]) (.cond (.l 13) (.seq (.region [zm 14 2,zw 1 14]) (.ret)) (.skip)))) (.region [zm 8 2,zc 9 .add 8 1,zw 2 9]))
def KT:ak:=.seq (.region [zi 1 0]) (.seq (.seq (.region [zi 2 0]) (.block 0 (.loop sP))) (.seq (.region [zm 15 0,zL 16 15,zw 1 16]) (.ret)))
theorem ZD:FT 153=some ⟨17,[0,2,3],[.var (.p 1)],KT⟩:=by kernel_rfl
def sQ:ak:=.seq (.region [⟨.p 1,.mv (.c (.bool false)),none⟩]) (.seq (.seq (.region [zm 3 0,zL 4 3,zc 5 .eql 4 0,zn 6 5,zg (zm 7 0) 6 false,zg (zL 8 7) 6 false,zg (zc 9 .gtr 8 1) 6 false,zg (zn 10 9) 6 false,zg (zm 11 0) 10 true,⟨.l 12,.index (.l 11) (kI 0),some ((.l 10),true)⟩,⟨.l 13,.bin .eql (.l 12) (.c (.int .u8 (48))),some ((.l 10),true)⟩,zg (zp 14 10 13) 6 false,zP 15 6 14]) (.cond (.l 15) (.seq (.region [⟨.p 1,.mv (.c (.bool false)),none⟩]) (.ret)) (.skip))) (.seq (.region [zm 16 0,z1 17 204 16,zw 1 17]) (.ret)))
theorem ZE:FT 154=some ⟨18,[0,2],[.var (.p 1)],sQ⟩:=by kernel_rfl
def sR:ak:=.seq (.seq (.region [zm 4 2,zm 5 0,zL 6 5,zb 7 .lss 4 6]) (.cond (.l 7) (.skip) (.exit 0))) (.seq (.block 1 (.seq (.region [zm 10 0,zm 11 2,⟨.l 12,.index (.l 10) (.l 11),none⟩,⟨.l 13,.bin .lss (.l 12) (.c (.int .u8 (48))),none⟩,zn 14 13,zg (zm 15 0) 14 false,zg (zm 16 2) 14 false,⟨.l 17,.index (.l 15) (.l 16),some ((.l 14),false)⟩,⟨.l 18,.bin .gtr (.l 17) (.c (.int .u8 (57))),some ((.l 14),false)⟩,zP 19 14 18]) (.cond (.l 19) (.seq (.region [⟨.p 1,.mv (.c (.bool false)),none⟩]) (.ret)) (.skip)))) (.region [zm 8 2,zc 9 .add 8 1,zw 2 9]))
def KU:ak:=.seq (.region [⟨.p 1,.mv (.c (.bool false)),none⟩]) (.seq (.seq (.region [zi 2 0]) (.block 0 (.loop sR))) (.seq (.region [⟨.p 1,.mv (.c (.bool true)),none⟩]) (.ret)))
theorem ZF:FT 204=some ⟨20,[0,2,3],[.var (.p 1)],KU⟩:=by kernel_rfl
def KV:ak:=.seq (.region [⟨.p 1,.alloc 162 [.bool false,.ah],none⟩,⟨.p 2,.alloc 162 [.bool false,.ah],none⟩]) (.seq (.region [zm 6 0,zw 3 6]) (.seq (.region [zm 7 3,z1 8 153 7,zw 4 8]) (.seq (.seq (.region [zm 9 4,zm 10 3,zL 11 10,zb 12 .eql 9 11]) (.cond (.l 12) (.seq (.region [zm 13 3,z1 14 193 13,⟨.l 15,.call (kF 139) [(kI 1)],none⟩,zs 2 1 14,zs 2 2 15]) (.ret)) (.skip))) (.seq (.draw [(zm 16 3,[]),(zm 17 4,[0]),(⟨.l 18,.slice .str 1 (.l 16) none (some (.l 17)) none,none⟩,[]),(z1 19 193 18,[]),(zm 20 3,[0,1,2,3]),(zm 21 4,[0,1,2,3,4]),(zc 22 .add 21 1,[0,1,2,3,4]),(⟨.l 23,.slice .str 1 (.l 20) (some (.l 22)) none none,none⟩,[0,1,2,3]),(z1 24 193 23,[]),(zs 2 1 19,[]),(zs 2 2 24,[])]) (.ret)))))
theorem ZG:FT 135=some ⟨25,[0,2,3,4,5],[.cell 2 true (.p 1),.cell 2 true (.p 2)],KV⟩:=by kernel_rfl
def sS:ak:=.seq (.seq (.region [zm 16 0,zL 17 16,zc 18 .gtr 17 9]) (.cond (.l 18) (.skip) (.exit 0))) (.block 1 (.seq (.region [zm 19 3,zm 20 0,zm 21 0,zL 22 21,zc 23 .sub 22 9,⟨.l 24,.slice .str 1 (.l 20) (some (.l 23)) none none,none⟩,z1 25 192 24,⟨.l 26,.eu 3 1 1 [.iV (0)] [(0,1,(.l 25))],none⟩,⟨.l 27,.append 3 1 8 (.l 19) (.l 26),none⟩,zw 3 27]) (.region [zm 28 0,zm 29 0,zL 30 29,zc 31 .sub 30 9,⟨.l 32,.slice .str 1 (.l 28) none (some (.l 31)) none,none⟩,zw 0 32])))
def KW:ak:=.seq (.region [⟨.p 1,.alloc 162 [.bool false,.ah],none⟩]) (.seq (.region [zm 5 0,zL 6 5,zc 7 .gtr 6 0,zn 8 7,zg (zm 9 0) 8 true,⟨.l 10,.index (.l 9) (kI 0),some ((.l 8),true)⟩,⟨.l 11,.bin .eql (.l 10) (.c (.int .u8 (45))),some ((.l 8),true)⟩,zp 12 8 11,zw 2 12]) (.seq (.seq (.region [zm 13 2]) (.cond (.l 13) (.region [zm 14 0,⟨.l 15,.slice .str 1 (.l 14) (some (kI 1)) none none,none⟩,zw 0 15]) (.skip))) (.seq (.region [⟨.p 3,.mv (.c (.ah)),none⟩]) (.seq (.block 0 (.loop sS)) (.seq (.region [zm 33 2,zm 34 3,zm 35 0,z1 36 192 35,⟨.l 37,.eu 3 1 1 [.iV (0)] [(0,1,(.l 36))],none⟩,⟨.l 38,.append 3 1 8 (.l 34) (.l 37),none⟩,z2 39 196 33 38,zs 2 1 39]) (.ret))))))
theorem ZH:FT 193=some ⟨40,[0,2,3,4],[.cell 2 true (.p 1)],KW⟩:=by kernel_rfl
def xq:ak:=.seq (.seq (.region [zm 5 3,zm 6 0,zL 7 6,zb 8 .lss 5 7]) (.cond (.l 8) (.skip) (.exit 0))) (.seq (.block 1 (.region [zm 11 2,⟨.l 12,.bin .mul (kI 10) (.l 11),none⟩,zm 13 0,zm 14 3,⟨.l 15,.index (.l 13) (.l 14),none⟩,⟨.l 16,.du .i64 (.l 15),none⟩,zb 17 .add 12 16,zc 18 .sub 17 48,zw 2 18])) (.region [zm 9 3,zc 10 .add 9 1,zw 3 10]))
def KX:ak:=.seq (.region [zi 1 0]) (.seq (.region [zi 2 0]) (.seq (.seq (.region [zi 3 0]) (.block 0 (.loop xq))) (.seq (.region [zm 19 2,zw 1 19]) (.ret))))
theorem ZI:FT 192=some ⟨20,[0,2,3,4],[.var (.p 1)],KX⟩:=by kernel_rfl
def KY:ak:=.seq (.region [⟨.p 2,.alloc 162 [.bool false,.ah],none⟩]) (.seq (.region [zm 5 1,z1 6 242 5,zw 1 6]) (.seq (.region [zm 7 0,zn 8 7,zg (zm 9 1) 8 true,zg (zl 10 9) 8 true,zg (zc 11 .gtr 10 0) 8 true,zp 12 8 11,zm 13 1,⟨.l 14,.build [.bool false,.ah] [(0,1,(.l 12)),(1,1,(.l 13))],none⟩,zs 2 2 14]) (.ret)))
theorem ZJ:FT 196=some ⟨15,[0,1,4],[.cell 2 true (.p 2)],KY⟩:=by kernel_rfl
def qf:ak:=.seq (.seq (.region [zm 3 0,zl 4 3,zc 5 .gtr 4 0,zn 6 5,zg (zm 7 0) 6 true,zg (zm 8 0) 6 true,zg (zl 9 8) 6 true,zg (zc 10 .sub 9 1) 6 true,zg (za 11 1 7 10) 6 true,zg (zd 12 1 11) 6 true,zg (zc 13 .eql 12 0) 6 true,zp 14 6 13]) (.cond (.l 14) (.skip) (.exit 0))) (.block 1 (.region [zm 15 0,zm 16 0,zl 17 16,zc 18 .sub 17 1,⟨.l 19,.slice .sl 1 (.l 15) none (some (.l 18)) none,none⟩,zw 0 19]))
def CY:ak:=.seq (.region [⟨.p 1,.mv (.c (.ah)),none⟩]) (.seq (.block 0 (.loop qf)) (.seq (.region [zm 20 0,zw 1 20]) (.ret)))
theorem KZ:FT 242=some ⟨21,[0,2],[.var (.p 1)],CY⟩:=by kernel_rfl
def CZ:ak:=.seq (.seq (.region [zm 7 1,zl 8 7,zc 9 .gtr 8 0]) (.cond (.l 9) (.skip) (.exit 0))) (.block 1 (.seq (.region [zm 11 0,zm 12 1,z2 13 195 11 12,zn 10 13,ze 14 0 10,ze 15 1 10,zn 5 14,zw 3 15]) (.region [zm 16 1,zm 17 3,zw 0 16,zw 1 17])))
def La:ak:=.seq (.region [⟨.p 2,.mv (.c (.ah)),none⟩]) (.seq (.block 0 (.loop CZ)) (.seq (.region [zm 18 0,zw 2 18]) (.ret)))
theorem ZK:FT 155=some ⟨19,[0,1,4,6],[.var (.p 2)],La⟩:=by kernel_rfl
def xr:ak:=.seq (.seq (.region [zm 63 9,zl 64 63,zm 65 0,zl 66 65,zc 67 .add 66 1,zb 68 .lss 64 67]) (.cond (.l 68) (.skip) (.exit 0))) (.block 1 (.region [zm 69 9,⟨.l 70,.eu 3 1 1 [.iV (0)] [(0,1,(kI 0))],none⟩,⟨.l 71,.append 3 1 8 (.l 69) (.l 70),none⟩,zw 9 71]))
def xu:ak:=.seq (.seq (.region [zm 90 14,zm 91 8,zb 92 .lss 90 91]) (.cond (.l 92) (.skip) (.exit 4))) (.seq (.block 5 (.seq (.region [zm 95 12,zm 96 7,zm 97 14,za 98 1 96 97,zd 99 1 98,zb 100 .mul 95 99,zm 101 13,zb 102 .add 100 101,zw 15 102]) (.seq (.region [zm 103 9,zm 104 14,zm 105 11,zb 106 .add 104 105,za 107 1 103 106,zd 108 1 107,zm 109 15,zc 110 .rem 109 1000000000,zb 111 .sub 108 110,zw 16 111]) (.seq (.region [zm 112 15,zc 113 .quo 112 1000000000,zw 13 113]) (.seq (.seq (.region [zm 114 16,zc 115 .lss 114 0]) (.cond (.l 115) (.seq (.region [zm 116 16,zc 117 .add 116 1000000000,zw 16 117]) (.region [zm 118 13,zc 119 .add 118 1,zw 13 119])) (.skip))) (.region [zm 120 9,zm 121 14,zm 122 11,zb 123 .add 121 122,zm 124 16,za 125 1 120 123,zS 1 125 124])))))) (.region [zm 93 14,zc 94 .add 93 1,zw 14 94]))
def xw:ak:=.seq (.seq (.region [zm 148 18,zm 149 8,zb 150 .lss 148 149]) (.cond (.l 150) (.skip) (.exit 6))) (.seq (.block 7 (.seq (.draw [(zm 153 9,[]),(zm 154 18,[0]),(zm 155 11,[0,1]),(zb 156 .add 154 155,[0]),(za 157 1 153 156,[]),(zd 158 1 157,[]),(zm 159 7,[0,1,2,3,4,5]),(zm 160 18,[0,1,2,3,4,5,6]),(za 161 1 159 160,[0,1,2,3,4,5]),(zd 162 1 161,[0,1,2,3,4,5]),(zb 163 .add 158 162,[]),(zm 164 17,[0,1,2,3,4,5,6,7,8,9,10]),(zb 165 .add 163 164,[]),(zw 19 165,[])]) (.seq (.region [zm 166 9,zm 167 18,zm 168 11,zb 169 .add 167 168,zm 170 19,zc 171 .rem 170 1000000000,za 172 1 166 169,zS 1 172 171]) (.region [zm 173 19,zc 174 .quo 173 1000000000,zw 17 174])))) (.region [zm 151 18,zc 152 .add 151 1,zw 18 152]))
def xy:ak:=.seq (.seq (.region [zm 82 11,zc 83 .geq 82 0]) (.cond (.l 83) (.skip) (.exit 2))) (.seq (.block 3 (.seq (.region [zm 86 9,zm 87 7,zm 88 11,⟨.l 89,.call (kF 243) [(.l 86),(.l 87),(.l 88)],none⟩,zw 12 89]) (.seq (.region [zi 13 0]) (.seq (.seq (.region [zi 14 0]) (.block 4 (.loop xu))) (.seq (.region [zm 126 9,zm 127 11,zm 128 8,zb 129 .add 127 128,zm 130 9,zm 131 11,zm 132 8,zb 133 .add 131 132,za 134 1 130 133,zd 135 1 134,zm 136 13,zb 137 .sub 135 136,za 138 1 126 129,zS 1 138 137]) (.seq (.seq (.region [zm 139 9,zm 140 11,zm 141 8,zb 142 .add 140 141,za 143 1 139 142,zd 144 1 143,zc 145 .lss 144 0]) (.cond (.l 145) (.seq (.region [zm 146 12,zc 147 .sub 146 1,zw 12 147]) (.seq (.region [zi 17 0]) (.seq (.seq (.region [zi 18 0]) (.block 6 (.loop xw))) (.region [zm 175 9,zm 176 11,zm 177 8,zb 178 .add 176 177,zm 179 9,zm 180 11,zm 181 8,zb 182 .add 180 181,za 183 1 179 182,zd 184 1 183,zm 185 17,zb 186 .add 184 185,za 187 1 175 178,zS 1 187 186])))) (.skip))) (.region [zm 188 10,zm 189 11,zm 190 12,za 191 1 188 189,zS 1 191 190]))))))) (.region [zm 84 11,zc 85 .sub 84 1,zw 11 85]))
def Lb:ak:=.seq (.region [⟨.p 2,.mv (.c (.ah)),none⟩,⟨.p 3,.mv (.c (.ah)),none⟩]) (.seq (.seq (.region [zm 24 0,zm 25 1,z2 26 218 24 25,zc 27 .lss 26 0]) (.cond (.l 27) (.seq (.region [zm 28 0,⟨.p 2,.mv (.c (.ah)),none⟩,zw 3 28]) (.ret)) (.skip))) (.seq (.seq (.region [zm 29 1,zl 30 29,zc 31 .eql 30 1]) (.cond (.l 31) (.seq (.region [zm 33 0,zm 34 1,⟨.l 35,.dw none 1 (.l 34) (kI 0),none⟩,zd 36 1 35,z2 37 241 33 36,zn 32 37,ze 38 0 32,ze 39 1 32,zw 4 38,zw 5 39]) (.seq (.region [zm 40 4,zm 41 5,⟨.l 42,.eu 3 1 1 [.iV (0)] [(0,1,(.l 41))],none⟩,z1 43 242 42,zw 2 40,zw 3 43]) (.ret))) (.skip))) (.seq (.region [zm 44 1,zm 45 1,zl 46 45,zc 47 .sub 46 1,za 48 1 44 47,zd 49 1 48,zc 50 .add 49 1,⟨.l 51,.bin .quo (kI 1000000000) (.l 50),none⟩,⟨.l 52,.eu 3 1 1 [.iV (0)] [(0,1,(.l 51))],none⟩,zw 6 52]) (.seq (.region [zm 53 1,zm 54 6,z2 55 197 53 54,zw 7 55]) (.seq (.region [zm 56 7,zl 57 56,zw 8 57]) (.seq (.region [⟨.l 58,.eu 3 0 1 [.iV (0)] [],none⟩,zm 59 0,zm 60 6,z2 61 197 59 60,⟨.l 62,.append 3 1 8 (.l 58) (.l 61),none⟩,zw 9 62]) (.seq (.block 0 (.loop xr)) (.seq (.region [zm 72 9,zl 73 72,zm 74 8,zb 75 .sub 73 74,⟨.l 76,.fY 3 1 8 [.iV (0)] (.l 75) (.l 75),none⟩,zw 10 76]) (.seq (.seq (.region [zm 77 9,zl 78 77,zm 79 8,zb 80 .sub 78 79,zc 81 .sub 80 1,zw 11 81]) (.block 2 (.loop xy))) (.seq (.draw [(zm 193 9,[]),(zm 194 8,[0]),(⟨.l 195,.slice .sl 1 (.l 193) none (some (.l 194)) none,none⟩,[]),(z1 196 242 195,[]),(zm 197 6,[0,1,2,3]),(⟨.l 198,.dw none 1 (.l 197) (kI 0),none⟩,[0,1,2,3]),(zd 199 1 198,[0,1,2,3]),(z2 200 241 196 199,[]),(zn 192 200,[]),(ze 201 0 192,[]),(ze 202 1 192,[9]),(zw 20 201,[10]),(zn 23 202,[])]) (.seq (.region [zm 203 10,z1 204 242 203,zm 205 20,zw 2 204,zw 3 205]) (.ret))))))))))))
theorem ZL:FT 195=some ⟨206,[0,1,4,5,6,7,8,9,10,11,12,13,14,15,16,17,18,19,20,21,22],[.var (.p 2),.var (.p 3)],Lb⟩:=by kernel_rfl
def qh:ak:=.seq (.seq (.region [zm 19 3,zc 20 .geq 19 0]) (.cond (.l 20) (.skip) (.exit 0))) (.seq (.block 1 (.seq (.seq (.draw [(zm 23 0,[]),(zm 24 3,[0]),(za 25 1 23 24,[]),(zd 26 1 25,[]),(zm 27 1,[0,1,2,3]),(zm 28 3,[0,1,2,3,4]),(za 29 1 27 28,[0,1,2,3]),(zd 30 1 29,[0,1,2,3]),(zb 31 .lss 26 30,[])]) (.cond (.l 31) (.seq (.region [zi 2 (-1)]) (.ret)) (.skip))) (.seq (.draw [(zm 32 0,[]),(zm 33 3,[0]),(za 34 1 32 33,[]),(zd 35 1 34,[]),(zm 36 1,[0,1,2,3]),(zm 37 3,[0,1,2,3,4]),(za 38 1 36 37,[0,1,2,3]),(zd 39 1 38,[0,1,2,3]),(zb 40 .gtr 35 39,[])]) (.cond (.l 40) (.seq (.region [zi 2 1]) (.ret)) (.skip))))) (.region [zm 21 3,zc 22 .sub 21 1,zw 3 22]))
def Da:ak:=.seq (.region [zi 2 0]) (.seq (.seq (.region [zm 6 0,zl 7 6,zm 8 1,zl 9 8,zb 10 .neq 7 9]) (.cond (.l 10) (.seq (.seq (.region [zm 11 0,zl 12 11,zm 13 1,zl 14 13,zb 15 .lss 12 14]) (.cond (.l 15) (.seq (.region [zi 2 (-1)]) (.ret)) (.skip))) (.seq (.region [zi 2 1]) (.ret))) (.skip))) (.seq (.seq (.region [zm 16 0,zl 17 16,zc 18 .sub 17 1,zw 3 18]) (.block 0 (.loop qh))) (.seq (.region [zi 2 0]) (.ret))))
theorem ZM:FT 218=some ⟨41,[0,1,4,5],[.var (.p 2)],Da⟩:=by kernel_rfl
def xz:ak:=.seq (.seq (.region [zm 22 6,zm 23 1,zl 24 23,zb 25 .lss 22 24]) (.cond (.l 25) (.skip) (.exit 2))) (.seq (.block 3 (.seq (.draw [(zm 28 3,[]),(zm 29 4,[0]),(zm 30 6,[0,1]),(zb 31 .add 29 30,[0]),(za 32 1 28 31,[]),(zd 33 1 32,[]),(zm 34 0,[0,1,2,3,4,5]),(zm 35 4,[0,1,2,3,4,5,6]),(za 36 1 34 35,[0,1,2,3,4,5]),(zd 37 1 36,[0,1,2,3,4,5]),(zm 38 1,[0,1,2,3,4,5,6,7,8,9]),(zm 39 6,[0,1,2,3,4,5,6,7,8,9,10]),(za 40 1 38 39,[0,1,2,3,4,5,6,7,8,9]),(zd 41 1 40,[0,1,2,3,4,5,6,7,8,9]),(zb 42 .mul 37 41,[0,1,2,3,4,5]),(zb 43 .add 33 42,[]),(zm 44 5,[0,1,2,3,4,5,6,7,8,9,10,11,12,13,14,15]),(zb 45 .add 43 44,[]),(zw 7 45,[])]) (.seq (.region [zm 46 3,zm 47 4,zm 48 6,zb 49 .add 47 48,zm 50 7,zc 51 .rem 50 1000000000,za 52 1 46 49,zS 1 52 51]) (.region [zm 53 7,zc 54 .quo 53 1000000000,zw 5 54])))) (.region [zm 26 6,zc 27 .add 26 1,zw 6 27]))
def Db:ak:=.seq (.seq (.region [zm 16 4,zm 17 0,zl 18 17,zb 19 .lss 16 18]) (.cond (.l 19) (.skip) (.exit 0))) (.seq (.block 1 (.seq (.region [zi 5 0]) (.seq (.seq (.region [zi 6 0]) (.block 2 (.loop xz))) (.region [zm 55 3,zm 56 4,zm 57 1,zl 58 57,zb 59 .add 56 58,zm 60 3,zm 61 4,zm 62 1,zl 63 62,zb 64 .add 61 63,za 65 1 60 64,zd 66 1 65,zm 67 5,zb 68 .add 66 67,za 69 1 55 59,zS 1 69 68])))) (.region [zm 20 4,zc 21 .add 20 1,zw 4 21]))
def Lc:ak:=.seq (.region [⟨.p 2,.mv (.c (.ah)),none⟩]) (.seq (.region [zm 10 0,zl 11 10,zm 12 1,zl 13 12,zb 14 .add 11 13,⟨.l 15,.fY 3 1 8 [.iV (0)] (.l 14) (.l 14),none⟩,zw 3 15]) (.seq (.seq (.region [zi 4 0]) (.block 0 (.loop Db))) (.seq (.region [zm 70 3,z1 71 242 70,zw 2 71]) (.ret))))
theorem ZN:FT 197=some ⟨72,[0,1,4,5,6,7,8,9],[.var (.p 2)],Lc⟩:=by kernel_rfl
def xA:ak:=.seq (.seq (.region [zm 16 6,zc 17 .geq 16 0]) (.cond (.l 17) (.skip) (.exit 0))) (.seq (.block 1 (.seq (.region [zm 20 5,zc 21 .mul 20 1000000000,zm 22 0,zm 23 6,za 24 1 22 23,zd 25 1 24,zb 26 .add 21 25,zw 7 26]) (.seq (.region [zm 27 4,zm 28 6,zm 29 7,zm 30 1,zb 31 .quo 29 30,za 32 1 27 28,zS 1 32 31]) (.region [zm 33 7,zm 34 1,zb 35 .rem 33 34,zw 5 35])))) (.region [zm 18 6,zc 19 .sub 18 1,zw 6 19]))
def Ld:ak:=.seq (.region [⟨.p 2,.mv (.c (.ah)),none⟩,zi 3 0]) (.seq (.region [zm 10 0,zl 11 10,⟨.l 12,.fY 3 1 8 [.iV (0)] (.l 11) (.l 11),none⟩,zw 4 12]) (.seq (.region [zi 5 0]) (.seq (.seq (.region [zm 13 0,zl 14 13,zc 15 .sub 14 1,zw 6 15]) (.block 0 (.loop xA))) (.seq (.region [zm 36 4,z1 37 242 36,zm 38 5,zw 2 37,zw 3 38]) (.ret)))))
theorem ZO:FT 241=some ⟨39,[0,1,4,5,6,7,8,9],[.var (.p 2),.var (.p 3)],Ld⟩:=by kernel_rfl
def sV:ak:=.seq (.seq (.draw [(zm 42 6,[]),(zc 43 .geq 42 1000000000,[]),(zn 44 43,[]),(zg (zm 45 6) 44 false,[]),(zg (zm 46 1) 44 false,[3]),(zg (zm 47 4) 44 false,[3,4]),(zg (zc 48 .sub 47 2) 44 false,[3,4]),(zg (za 49 1 46 48) 44 false,[3]),(zg (zd 50 1 49) 44 false,[3]),(zg (zb 51 .mul 45 50) 44 false,[]),(zg (zm 52 7) 44 false,[3,4,5,6,7,8,9]),(zg (zc 53 .mul 52 1000000000) 44 false,[3,4,5,6,7,8,9]),(zg (zm 54 0) 44 false,[3,4,5,6,7,8,9,10,11]),(zg (zm 55 2) 44 false,[3,4,5,6,7,8,9,10,11,12]),(zg (zm 56 4) 44 false,[3,4,5,6,7,8,9,10,11,12,13]),(zg (zb 57 .add 55 56) 44 false,[3,4,5,6,7,8,9,10,11,12]),(zg (zc 58 .sub 57 2) 44 false,[3,4,5,6,7,8,9,10,11,12]),(zg (za 59 1 54 58) 44 false,[3,4,5,6,7,8,9,10,11]),(zg (zd 60 1 59) 44 false,[3,4,5,6,7,8,9,10,11]),(zg (zb 61 .add 53 60) 44 false,[3,4,5,6,7,8,9]),(zg (zb 62 .gtr 51 61) 44 false,[]),(zP 63 44 62,[])]) (.cond (.l 63) (.skip) (.exit 0))) (.block 1 (.seq (.region [zm 64 6,zc 65 .sub 64 1,zw 6 65]) (.seq (.region [zm 66 7,zm 67 1,zm 68 4,zc 69 .sub 68 1,za 70 1 67 69,zd 71 1 70,zb 72 .add 66 71,zw 7 72]) (.seq (.region [zm 73 7,zc 74 .geq 73 1000000000]) (.cond (.l 74) (.seq (.region [zm 75 6,zw 3 75]) (.ret)) (.skip))))))
def Le:ak:=.seq (.region [zi 3 0]) (.seq (.region [zm 11 1,zl 12 11,zw 4 12]) (.seq (.draw [(zm 13 0,[]),(zm 14 2,[0]),(zm 15 4,[0,1]),(zb 16 .add 14 15,[0]),(za 17 1 13 16,[]),(zd 18 1 17,[]),(zc 19 .mul 18 1000000000,[]),(zm 20 0,[0,1,2,3,4,5,6]),(zm 21 2,[0,1,2,3,4,5,6,7]),(zm 22 4,[0,1,2,3,4,5,6,7,8]),(zb 23 .add 21 22,[0,1,2,3,4,5,6,7]),(zc 24 .sub 23 1,[0,1,2,3,4,5,6,7]),(za 25 1 20 24,[0,1,2,3,4,5,6]),(zd 26 1 25,[0,1,2,3,4,5,6]),(zb 27 .add 19 26,[]),(zw 5 27,[])]) (.seq (.draw [(zm 28 5,[]),(zm 29 1,[0]),(zm 30 4,[0,1]),(zc 31 .sub 30 1,[0,1]),(za 32 1 29 31,[0]),(zd 33 1 32,[0]),(zb 34 .quo 28 33,[]),(zm 35 5,[0,1,2,3,4,5,6]),(zm 36 1,[0,1,2,3,4,5,6,7]),(zm 37 4,[0,1,2,3,4,5,6,7,8]),(zc 38 .sub 37 1,[0,1,2,3,4,5,6,7,8]),(za 39 1 36 38,[0,1,2,3,4,5,6,7]),(zd 40 1 39,[0,1,2,3,4,5,6,7]),(zb 41 .rem 35 40,[0,1,2,3,4,5,6]),(zw 6 34,[7,8,9,10,11,12,13]),(zw 7 41,[])]) (.seq (.block 0 (.loop sV)) (.seq (.region [zm 76 6,zw 3 76]) (.ret))))))
theorem ZP:FT 243=some ⟨77,[0,1,2,6,7,8,9,10],[.var (.p 3)],Le⟩:=by kernel_rfl
def Lf:ak:=.seq (.region [⟨.p 1,.mv (.c (.bool false)),none⟩]) (.seq (.region [zm 3 0,z1 4 153 3,zm 5 0,zL 6 5,zb 7 .eql 4 6,zw 1 7]) (.ret))
theorem ZQ:FT 92=some ⟨8,[0,2],[.var (.p 1)],Lf⟩:=by kernel_rfl
end Go.Ab.Ch1

/-
  Own work: the reference's numbers: slashes, decimal forms, values of digits.
-/
namespace Go.Ab.Ch1
open Go.Ab.bz
variable {M:aO} {cap:Option Nat} {N N2:Nat}
theorem Lg {s:al}{i:Nat}(h:i<s.length):s.drop i=s[i]! :: s.drop (i+1):=by
 rw[List.drop_eq_getElem_cons h,getElem!_pos s i h]
def mw (s:al):Bool:=(bI 47 s).2.isSome
def dg (s:al):Nat:=(bI 47 s).1.length
theorem ZR (s:al):dg s<=s.length:=sG 47 s
theorem ZS (hft:M.FT=FT)(s:al)(hl:s.length<1000000):aZ M 153 [.str s] [] ⟨.iV (dg s),[],[]⟩:=by
 refine bT (by rw[hft];exact ZD) (by simp) ?_
 have loop:∀(r i:Nat) (lo:List (Nat×AV)) (wr:List Nat) {Q:Ex->aq->Prop} (a1:AV),i+r=s.length->i+dg (s.drop i)=dg s ->
  (dg s<s.length->∀lo wr,Q .ret ⟨⟨[.str s,.iV (dg s),.iV (dg s)],lo,[],[]⟩,wr⟩) ->
  (dg s=s.length->∀lo wr,Q (.exit 0) ⟨⟨[.str s,a1,.iV s.length],lo,[],[]⟩,wr⟩) ->
  W M (.loop sP) ⟨⟨[.str s,a1,.iV i],lo,[],[]⟩,wr⟩ Q:=by
  intro r
  induction r with
  | zero=>
   intro i lo wr Q a1 hi he h1 h2
   obtain rfl:i=s.length:=by omega
   rw[List.drop_length]at he
   have e0:dg ([]:al)=0:=rfl
   refine W.loop ?_
   unfold sP
   repeat' first|apply W.seq|apply ab|apply W.region|apply WO.nil|apply W.exit|apply cj|apply dK|(apply W.aw;rfl)|(apply WO.lss;rfl;rfl)|(apply WO.pl;rfl;rfl)|(intro _;omega)|intro _
   all_goals try omega
   all_goals exact h2 (by omega) _ _
  | succ r ih=>
   intro i lo wr Q a1 hi he h1 h2
   have hd:=Lg (s:=s) (i:=i) (by omega)
   refine W.loop ?_
   by_cases h47:s[i]! = 47
   . have e1:dg (s.drop i)=0:=by rw[hd,h47];simp[dg,bI]
     have e2:dg s=i:=by omega
     have e47:((s[((i:Int)).toNat]!).toNat:Int)=47:=by rw[show s[((i:Int)).toNat]! = s[i]! from rfl,h47];rfl
     rw[e2]at h1
     unfold sP
     repeat' first|apply W.seq|apply ab|apply W.region|apply WO.nil|apply W.block|apply W.ret|apply W.skip|apply ba|apply cN|apply gW|(apply W.ax;rfl)|(apply WO.lss;rfl;rfl)|(apply WO.eql;rfl;rfl)|(apply WO.idx;rfl;rfl;omega)|(apply WO.pl;rfl;rfl)|(apply WO.pp;rfl;rfl)|(intro _;omega)|intro _
     all_goals try omega
     all_goals exact h1 (by omega) _ _
   . have e1:dg (s.drop i)=1+dg (s.drop (i+1)):=by
      rw[hd];simp only[dg,bI,if_neg h47,List.length_cons];omega
     have e47:((s[((i:Int)).toNat]!).toNat:Int)≠47:=fun e=>h47 (UInt8.toNat_inj.1 (by
                                                                                                  rw[show s[((i:Int)).toNat]! = s[i]! from rfl]at e;have:(47:UInt8).toNat=47:=rfl
                                                                                                  omega))
     unfold sP
     repeat' first|apply W.seq|apply ab|apply W.region|apply WO.nil|apply W.block|apply W.skip|apply bK|(apply W.ax;rfl)|(apply W.aw;rfl)|(apply WO.lss;rfl;rfl)|(apply WO.eql;rfl;rfl)|(apply WO.add;rfl;rfl;omega)|(apply WO.idx;rfl;rfl;omega)|(apply WO.pl;rfl;rfl)|(apply WO.pp;rfl;rfl)|(intro _;omega)|intro _
     all_goals try omega
     all_goals exact ef (ih (i+1) _ _ _ (by omega) (by omega) h1 h2)
 unfold KT
 simp only[enter]
 repeat' first|apply W.seq|apply ab|apply W.region|apply WO.nil|apply W.block|(apply WO.pp;rfl;rfl)
 refine loop s.length 0 _ _ _ (by omega) (by simp) (fun h lo wr=>?_) (fun h lo wr=>?_)
 . repeat' first|apply ba|apply cN
   all_goals exact⟨.inr rfl,rfl,_,rfl,rfl,rfl⟩
 . rw[h]
   repeat' first|apply W.seq|apply ab|apply W.region|apply WO.nil|apply W.ret|apply cg|(apply WO.pl;rfl;rfl)|(apply WO.pp;rfl;rfl)
   all_goals exact⟨.inr rfl,rfl,_,rfl,rfl,rfl⟩
theorem ZT (hft:M.FT=FT)(s:al)(hl:s.length<1000000):aZ M 204 [.str s] [] ⟨.bool (s.all bF),[],[]⟩:=by
 refine bT (by rw[hft];exact ZF) (by simp) ?_
 have loop:∀(r i:Nat) (lo:List (Nat×AV)) (wr:List Nat) {Q:Ex->aq->Prop} (a1:AV),i+r=s.length->s.all bF=(s.drop i).all bF ->
  (s.all bF=false->∀lo wr a2,Q .ret ⟨⟨[.str s,.bool false,a2],lo,[],[]⟩,wr⟩) ->
  (s.all bF=true->∀lo wr a2,Q (.exit 0) ⟨⟨[.str s,a1,a2],lo,[],[]⟩,wr⟩) ->
  W M (.loop sR) ⟨⟨[.str s,a1,.iV i],lo,[],[]⟩,wr⟩ Q:=by
  intro r
  induction r with
  | zero=>
   intro i lo wr Q a1 hi he h1 h2
   obtain rfl:i=s.length:=by omega
   rw[List.drop_length]at he
   refine W.loop ?_
   unfold sR
   repeat' first|apply W.seq|apply ab|apply W.region|apply WO.nil|apply W.exit|apply cj|apply dK|(apply W.aw;rfl)|(apply WO.lss;rfl;rfl)|(apply WO.pl;rfl;rfl)|(intro _;omega)|intro _
   all_goals try omega
   all_goals exact h2 he _ _ _
  | succ r ih=>
   intro i lo wr Q a1 hi he h1 h2
   have hd:=Lg (s:=s) (i:=i) (by omega)
   rw[hd,List.all_cons]at he
   have ei:s[((i:Int)).toNat]! = s[i]! := rfl
   refine W.loop ?_
   cases hb:bF s[i]! with
   | false=>
    rw[hb,Bool.false_and]at he
    have hne:¬(48<=(s[i]!).toNat/\(s[i]!).toNat<58):=fun h=>by rw[(jW _).2 h]at hb;cases hb
    rw[←ei]at hne
    unfold sR
    repeat' first|apply W.seq|apply ab|apply W.region|apply WO.nil|apply W.block|apply W.ret|apply W.skip|apply ba|apply cN|apply gW|(apply W.ax;rfl)|(apply WO.gF;rfl)|(apply WO.sF;rfl)|(apply WO.lss;rfl;rfl)|(apply WO.gtr;rfl;rfl)|(apply WO.bn;rfl;rfl)|(apply WO.bx;rfl;rfl)|(apply WO.idx;rfl;rfl;omega)|(apply WO.pl;rfl;rfl)|(apply WO.pp;rfl;rfl)|(intro _;omega)|intro _
    all_goals try omega
    all_goals exact h1 he _ _ _
   | true=>
    rw[hb,Bool.true_and]at he
    have hne:=(jW _).1 hb
    rw[←ei]at hne
    unfold sR
    repeat' first|apply W.seq|apply ab|apply W.region|apply WO.nil|apply W.block|apply W.skip|apply bK|(apply W.ax;rfl)|(apply W.aw;rfl)|(apply WO.gF;rfl)|(apply WO.lss;rfl;rfl)|(apply WO.gtr;rfl;rfl)|(apply WO.bx;rfl;rfl)|(apply WO.add;rfl;rfl;omega)|(apply WO.idx;rfl;rfl;omega)|(apply WO.pl;rfl;rfl)|(apply WO.pp;rfl;rfl)|(intro _;omega)|intro _
    all_goals try omega
    all_goals exact ef (ih (i+1) _ _ _ (by omega) he h1 h2)
 unfold KU
 simp only[enter]
 repeat' first|apply W.seq|apply ab|apply W.region|apply WO.nil|apply W.block|(apply WO.pp;rfl;rfl)
 refine loop s.length 0 _ _ _ (by omega) (by simp) (fun h lo wr a2=>?_) (fun h lo wr a2=>?_)
 . rw[h]
   repeat' first|apply ba|apply cN
   all_goals exact⟨.inr rfl,rfl,_,rfl,rfl,rfl⟩
 . rw[h]
   repeat' first|apply W.seq|apply ab|apply W.region|apply WO.nil|apply W.ret|apply cg|(apply WO.pp;rfl;rfl)
   all_goals exact⟨.inr rfl,rfl,_,rfl,rfl,rfl⟩
theorem ZU (hft:M.FT=FT)(s:al)(hl:s.length<1000000)(q204:∀h,M.ext 204 [.str s] h=some ⟨.bool (s.all bF),h,[]⟩):aZ M 154 [.str s] [] ⟨.bool (dy s),[],[]⟩:=by
 refine bT (by rw[hft];exact ZE) (by simp) ?_
 by_cases h0:s=[]
 . subst h0
   have hl0:([]:al).length=0:=rfl
   rw[show dy []=false from rfl]
   unfold sQ
   simp only[enter]
   repeat' first|apply W.seq|apply ab|apply W.region|apply WO.nil|apply W.ret|apply ba|(apply W.ax;rfl)|(apply WO.sF;rfl)|(apply WO.sU;rfl)|(apply WO.eql;rfl;rfl)|(apply WO.bn;rfl;rfl)|(apply WO.pl;rfl;rfl)|(apply WO.pp;rfl;rfl)|(intro _;omega)|intro _
   all_goals try omega
   all_goals exact⟨.inr rfl,rfl,_,rfl,rfl,rfl⟩
 . have hpos:0<s.length:=List.length_pos_iff.2 h0
   have ei:s[(0:Int).toNat]! = s[0]! := rfl
   have hdec:dy s=(s.all bF && (decide (s[0]! ≠ 48) || decide (s=[48]))):=by rw[dy,decide_eq_true h0,Bool.true_and]
   by_cases h48:s[0]! = 48
   . have e48:((s[(0:Int).toNat]!).toNat:Int)=48:=by rw[ei,h48];rfl
     by_cases hl1:s.length=1
     . have hs:s=[48]:=by
        cases s with
        | nil=>exact absurd rfl h0
        | cons c t=>
         have:t=[]:=List.eq_nil_of_length_eq_zero (by simpa using hl1)
         subst this
         have:c=48:=h48
         rw[this]
       rw[hdec,decide_eq_true hs,Bool.or_true,Bool.and_true]
       unfold sQ
       simp only[enter]
       repeat' first|apply W.seq|apply ab|apply W.region|apply WO.nil|apply W.ret|apply W.skip|(apply W.aw;rfl)|(apply WO.gF;rfl)|(apply WO.sT;rfl)|(apply WO.gtr;rfl;rfl)|(apply WO.eql;rfl;rfl)|(apply WO.bx;rfl;rfl)|(apply WO.ay;rfl;rfl;first|exact q204 _)|(apply WO.pl;rfl;rfl)|(apply WO.pp;rfl;rfl)|(intro _;omega)|intro _
       all_goals try omega
       all_goals exact⟨.inr rfl,rfl,_,rfl,rfl,rfl⟩
     . have hs:¬s=[48]:=fun e=>hl1 (by rw[e];rfl)
       rw[hdec,decide_eq_false hs,decide_eq_false (by simpa using h48),Bool.or_self,Bool.and_false]
       unfold sQ
       simp only[enter]
       repeat' first|apply W.seq|apply ab|apply W.region|apply WO.nil|apply W.ret|apply ba|(apply W.ax;rfl)|(apply WO.gT;rfl)|(apply WO.gF;rfl)|(apply WO.gtr;rfl;rfl)|(apply WO.eql;rfl;rfl)|(apply WO.bn;rfl;rfl)|(apply WO.bx;rfl;rfl)|(apply WO.idx;rfl;rfl;omega)|(apply WO.pl;rfl;rfl)|(apply WO.pp;rfl;rfl)|(intro _;omega)|intro _
       all_goals try omega
       all_goals exact⟨.inr rfl,rfl,_,rfl,rfl,rfl⟩
   . have e48:((s[(0:Int).toNat]!).toNat:Int)≠48:=fun e=>h48 (UInt8.toNat_inj.1 (by rw[ei]at e;have:(48:UInt8).toNat=48:=rfl;omega))
     rw[hdec,decide_eq_true (show s[0]! ≠ 48 from h48),Bool.true_or,Bool.and_true]
     unfold sQ
     simp only[enter]
     repeat' first|apply W.seq|apply ab|apply W.region|apply WO.nil|apply W.ret|apply W.skip|(apply W.aw;rfl)|(apply WO.gT;rfl)|(apply WO.gF;rfl)|(apply WO.sT;rfl)|(apply WO.gtr;rfl;rfl)|(apply WO.eql;rfl;rfl)|(apply WO.bn;rfl;rfl)|(apply WO.bx;rfl;rfl)|(apply WO.ay;rfl;rfl;first|exact q204 _)|(apply WO.idx;rfl;rfl;omega)|(apply WO.pl;rfl;rfl)|(apply WO.pp;rfl;rfl)|(intro _;omega)|intro _
     all_goals try omega
     all_goals exact⟨.inr rfl,rfl,_,rfl,rfl,rfl⟩
theorem ZV {s:al}(h:s.all bF=true)(hl:s.length<=18)(i:Nat)(hi:i<=s.length):aM 0 (s.take i)<1000000000000000000:=by
 refine JU ?_ (by rw[List.length_take];omega)
 rw[List.all_eq_true]at h ⊢
 exact fun x hx=>h x (List.mem_of_mem_take hx)
theorem ZW (hft:M.FT=FT)(s:al)(hl:s.length<=18)(hd:s.all bF=true):aZ M 192 [.str s] [] ⟨.iV (aM 0 s:Nat),[],[]⟩:=by
 refine bT (by rw[hft];exact ZI) (by simp) ?_
 have loop:∀(r i:Nat) (lo:List (Nat×AV)) (wr:List Nat) {Q:Ex->aq->Prop} (a1:AV),i+r=s.length ->
  (∀lo wr,Q (.exit 0) ⟨⟨[.str s,a1,.iV (aM 0 s:Nat),.iV s.length],lo,[],[]⟩,wr⟩) ->
  W M (.loop xq) ⟨⟨[.str s,a1,.iV (aM 0 (s.take i):Nat),.iV i],lo,[],[]⟩,wr⟩ Q:=by
  intro r
  induction r with
  | zero=>
   intro i lo wr Q a1 hi hQ
   obtain rfl:i=s.length:=by omega
   rw[List.take_length]
   refine W.loop ?_
   unfold xq
   repeat' first|apply W.seq|apply ab|apply W.region|apply WO.nil|apply W.exit|apply cj|apply dK|(apply W.aw;rfl)|(apply WO.lss;rfl;rfl)|(apply WO.pl;rfl;rfl)|(intro _;omega)|intro _
   all_goals try omega
   all_goals exact hQ _ _
  | succ r ih=>
   intro i lo wr Q a1 hi hQ
   have ux:=ZV hd hl (i+1) (by omega)
   have hb:=(jW _).1 ((List.all_eq_true.1 hd) s[i]! (by rw[getElem!_pos s i (by omega)];exact List.getElem_mem (by omega)))
   have e1:aM 0 (s.take (i+1))=10*aM 0 (s.take i)+((s[i]!).toNat-48):=by
    rw[List.take_add_one,List.getElem?_eq_getElem (by omega),Option.toList_some,nF,sm,getElem!_pos s i (by omega)]
   have ei:s[((i:Int)).toNat]! = s[i]! := rfl
   rw[←ei]at hb e1
   have ih':=ih (i+1)
   generalize aM 0 (s.take (i+1))=m at *
   generalize aM 0 (s.take i)=n at *
   have e2:(m:Int)=10*n+((s[((i:Int)).toNat]!).toNat:Int)-48:=by omega
   rw[e2]at ih'
   refine W.loop ?_
   unfold xq
   repeat' first|apply W.seq|apply ab|apply W.region|apply WO.nil|apply W.block|apply W.skip|apply bK|(apply W.ax;rfl)|(apply WO.lss;rfl;rfl)|(apply WO.ku;rfl;omega)|(apply WO.add;rfl;rfl;omega)|(apply WO.sub;rfl;rfl;omega)|(apply WO.mul;rfl;rfl;omega)|(apply WO.idx;rfl;rfl;omega)|(apply WO.pl;rfl;rfl)|(apply WO.pp;rfl;rfl)|(intro _;omega)|intro _
   all_goals try omega
   all_goals exact ef (ih' _ _ _ (by omega) hQ)
 unfold KX
 simp only[enter]
 repeat' first|apply W.seq|apply ab|apply W.region|apply WO.nil|apply W.block|(apply WO.pp;rfl;rfl)
 refine loop s.length 0 _ _ _ (by omega) (fun lo wr=>?_)
 repeat' first|apply W.seq|apply ab|apply W.region|apply WO.nil|apply W.ret|apply cg|(apply WO.pl;rfl;rfl)|(apply WO.pp;rfl;rfl)
 all_goals exact⟨.inr rfl,rfl,_,rfl,rfl,rfl⟩
theorem ZX (hft:M.FT=FT)(s:al)(q153:∀h,M.ext 153 [.str s] h=some ⟨.iV (dg s),h,[]⟩):aZ M 92 [.str s] [] ⟨.bool (decide (dg s=s.length)),[],[]⟩:=by
 refine bT (by rw[hft];exact ZQ) (by simp) ?_
 unfold Lf
 simp only[enter]
 by_cases h:dg s=s.length
 . rw[decide_eq_true h]
   repeat' first|apply W.seq|apply ab|apply W.region|apply WO.nil|apply W.ret|(apply WO.eql;rfl;rfl)|(apply WO.ay;rfl;rfl;first|exact q153 _)|(apply WO.pl;rfl;rfl)|(apply WO.pp;rfl;rfl)|(intro _;omega)|intro _
   all_goals try omega
   all_goals exact⟨.inr rfl,rfl,_,rfl,rfl,rfl⟩
 . rw[decide_eq_false h]
   repeat' first|apply W.seq|apply ab|apply W.region|apply WO.nil|apply W.ret|(apply WO.eql;rfl;rfl)|(apply WO.ay;rfl;rfl;first|exact q153 _)|(apply WO.pl;rfl;rfl)|(apply WO.pp;rfl;rfl)|(intro _;omega)|intro _
   all_goals try omega
   all_goals exact⟨.inr rfl,rfl,_,rfl,rfl,rfl⟩
end Go.Ab.Ch1

/-
  Own work: digits to the base 10^9 in blocks.
-/
namespace Go.Ab.Ch1
open Go.Ab.bz
variable {M:aO} {cap c1 c2:Option Nat}
abbrev iC (x:Int):List AV:=[.iV x]
abbrev au (l:List Int):List AV:=arr iC l
abbrev dB:Int:=1000000000
theorem Lh {l:List Int}:(au l).length=l.length:=by
 have:=oZ (f:=iC) (esz:=1) (fun _=>rfl) l
 simpa using this
theorem ZY {l:List Int}{m:Nat}(h:m<l.length):(au l)[m]? = some (.iV l[m]!):=by
 induction l generalizing m with
 | nil=>simp at h
 | cons x l ih=>
  cases m with
  | zero=>rfl
  | succ m=>
   have e:(x::l)[m+1]! = l[m]! := by simp[List.getElem!_eq_getElem?_getD]
   rw[e,←ih (by simpa using h)]
   rfl
section
variable {t b m:Nat} {x y:aN} {l:List aU} {pe:List AV} {lo:List (Nat×AV)} {hp:ae} {df wr:List Nat} {L:List Int} {e:TypeId} {v:Int} {Q:aq->Prop}
theorem WO.xB (hx:(St.mk pe lo hp df).aa x=some (.ptr b m))(hb:hp.at b=some (.cells (au L) e))(hi:m<L.length)
 (h:WO M l ⟨⟨pe,(t,.iV L[m]!)::lo,hp,df⟩,wr⟩ Q):WO M (⟨.l t,.load 1 false x,none⟩::l) ⟨⟨pe,lo,hp,df⟩,wr⟩ Q:=by
 refine WO.mX (c:=au L) (o:=m) (e:=e) (v:=.iV L[m]!) hx hb ?_ h
 have h1:=ZY hi
 have h2:m<(au L).length:=by rw[Lh];exact hi
 rw[List.drop_eq_getElem_cons h2]
 rw[List.getElem?_eq_getElem h2]at h1
 rw[Option.some.inj h1]
 rfl
theorem ZZ {L:List Int}{m:Nat}{v:Int}(h:m<L.length):overwrite (au L) m (iC v)=au (L.set m v):=by
 induction L generalizing m with
 | nil=>simp at h
 | cons x L ih=>
  cases m with
  | zero=>simp[overwrite,arr]
  | succ m=>
   have:=ih (m:=m) (by simpa using h)
   simp only[List.set_cons_succ]
   have e1:au (x::L) = .iV x::au L:=rfl
   have e2:au (x::L.set m v) = .iV x::au (L.set m v):=rfl
   rw[e1,e2,←this]
   simp[overwrite,Nat.add_right_comm]
theorem WO.qi (hx:(St.mk pe lo hp df).aa x=some (.ptr b m))(hy:(St.mk pe lo hp df).aa y=some (.iV v))(hb:hp.at b=some (.cells (au L) e))(hi:m<L.length)
 (h:WO M l ⟨⟨pe,lo,hp.put b (some (.cells (au (L.set m v)) e)),df⟩,b::wr⟩ Q):WO M (⟨.no,.store 1 x y,none⟩::l) ⟨⟨pe,lo,hp,df⟩,wr⟩ Q:=
 WO.cJ (c:=au L) (new:=iC v) hx (by rw[hy];rfl) hb ⟨rfl,by rw[Lh];omega,rfl⟩ (ZZ hi) h
end
def cD (hp:ae)(b:Nat)(e:TypeId)(P S X:List Int):ae:=hp.put b (some (.cells (au (P++X++S)) e))
theorem Li {hp:ae}{b:Nat}{e:TypeId}{P S X:List Int}:(cD hp b e P S X).length=hp.length:=fq
section
variable {t bu bv m:Nat} {x y:aN} {l:List aU} {pe:List AV} {lo:List (Nat×AV)} {hp:ae} {df wr:List Nat} {P S X V Y:List Int} {e e':TypeId} {v:Int} {Q:aq->Prop}
theorem WO.Dc {i:Nat}(hx:(St.mk pe lo (cD hp bu e P S X) df).aa x=some (.ptr bu m))(hl:bu<hp.length)(hi:i<X.length)(hm:m=P.length+i)
 (h:WO M l ⟨⟨pe,(t,.iV X[i]!)::lo,cD hp bu e P S X,df⟩,wr⟩ Q):WO M (⟨.l t,.load 1 false x,none⟩::l) ⟨⟨pe,lo,cD hp bu e P S X,df⟩,wr⟩ Q:=by
 subst hm
 refine WO.xB (L:=P++X++S) (e:=e) hx (by unfold cD;exact cI hl) (by simp;omega) ?_
 rw[AB hi]
 exact h
theorem WO.Dd {i:Nat}(hx:(St.mk pe lo (cD hp bu e P S X) df).aa x=some (.ptr bu m))(hy:(St.mk pe lo (cD hp bu e P S X) df).aa y=some (.iV v))(hl:bu<hp.length)(hi:i<X.length)(hm:m=P.length+i)
 (h:WO M l ⟨⟨pe,lo,cD hp bu e P S (X.set i v),df⟩,bu::wr⟩ Q):WO M (⟨.no,.store 1 x y,none⟩::l) ⟨⟨pe,lo,cD hp bu e P S X,df⟩,wr⟩ Q:=by
 subst hm
 refine WO.qi (L:=P++X++S) (e:=e) hx hy (by unfold cD;exact cI hl) (by simp;omega) ?_
 rw[GP hi]
 have:ae.put (cD hp bu e P S X) bu (some (.cells (au (P++X.set i v++S)) e))=cD hp bu e P S (X.set i v):=by unfold cD;exact FH
 rw[this]
 exact h
end
end Go.Ab.Ch1

/-
  Own work: digits to the base 10^9: zeros at the end, what is handed back.
-/
namespace Go.Ab.Ch1
open Go.Ab.bz
variable {M:aO} {cap c1 c2:Option Nat}
def nX (v:AV)(hh:ae)(r:List Int):Prop:=∃v1,iG hh v v1/\v1.top=0/\bW v1 = .vs (au r) r.length none
theorem Lj (l:List Int):dF (au l)=au l:=zE (fun _=>rfl) l
theorem fW (l:List Int):br (au l)=0:=rm (fun _=>rfl) l
theorem nX.trim {b:Nat}{L:List Int}{e:TypeId}{hp:ae}{n:Nat}(hb:hp.at b=some (.cells (au L) e))(hn:n<=L.length):nX (bB b (aQ (L.take n)) cap) (if (bg [bB b (aQ (L.take n)) cap]).top<=0 then [] else hp) (L.take (aQ (L.take n))):=by
 have hle:=ik (l:=L.take n)
 rw[List.length_take]at hle
 obtain⟨k,hk⟩:∃k,k=aQ (L.take n):=⟨_,rfl⟩
 rw[←hk]at hle ⊢
 by_cases h0:0<k
 . have e1:bB b k cap = .sl b 0 k 1 cap:=if_pos h0
   rw[e1,if_neg (by simp[bg,AV.top])]
   have hl:(L.take k).length=k:=by rw[List.length_take];omega
   have hF:Fr hp [b] (.sl b 0 k 1 cap) (.vs (au (L.take k)) k none):=by
    refine .sl (m:=au (L.take k)) (List.mem_singleton.2 rfl) hb ?_ rfl (fun i x y hx hy=>?_) (.inr rfl)
    . have:=kp (f:=iC) (esz:=1) (fun _=>rfl) (l:=L) (i:=0) (n:=k) (by omega)
      simpa using this
    . rw[hx]at hy;cases hy
      exact .same (cA (fW _) hx)
   unfold nX
   rw[hl]
   refine⟨_,⟨[b],hF,rfl,fun c l' e' hc hl'=>?_⟩,fW _,by rw[bW,Lj]⟩
   rw[List.mem_singleton.1 hc,hb]at hl'
   cases hl'
   exact rl (fun _=>rfl) _
 . obtain rfl:k=0:=by omega
   exact⟨.vs [] 0 cap,.same rfl rfl,rfl,rfl⟩
def Lk (M:aO)(g:Nat)(ars:List AV)(z:Int):Prop:=∃r:List Int,(okW dB r/\aR r/\WV dB r=z)/\∃v hh,nX v hh r/\aZ M g ars [] ⟨v,hh,[]⟩
theorem aaa {f N:Nat}{aP:List Nat}{res:List eK}{body:ak}{ars:List AV}{z:Int}(hft:M.FT f=some ⟨N,aP,res,body⟩)(hN:ars.length<=N)
 (h:W M body ⟨⟨aP.map (fun t=>(ars[t]?).getD cF),[],[],[]⟩,[]⟩ fun e s=>(e = .normal\/e = .ret)/\s.s.bU=[]/\∃vs,dm s.s res=some vs/\∃r:List Int,(okW dB r/\aR r/\WV dB r=z)/\nX (bg vs) (if (bg vs).top<=0 then [] else s.s.hp) r):Lk M f ars z:=by
 obtain⟨v,hh,⟨r,hr,ho⟩,h2⟩:=iF (P:=fun v hh=>∃r:List Int,(okW dB r/\aR r/\WV dB r=z)/\nX v hh r) hft hN h
 exact⟨r,hr,v,hh,ho,h2⟩
theorem sW {L:List Int}(ok:okW dB L):okW dB (L.take (aQ L))/\aR (L.take (aQ L))/\WV dB (L.take (aQ L))=WV dB L:=⟨de ok _,Av,uN⟩
def my (x:AV)(l:List Int):Prop:=x = .vs (au l) l.length none\/(x = .ah/\l=[])
def je (v:AV)(hh:ae)(q r:List Int):Prop:=∃v1 x y,fc hh v v1/\v1.top=0/\bM v1 = .ao [x,y]/\my x q/\my y r
theorem qj (l:List Int):cB (au l)=au l:=zG (fun _=>rfl) l
theorem De {b:Nat}{L:List Int}{e:TypeId}{hp:ae}{n:Nat}(hb:hp.at b=some (.cells (au L) e))(hn:n<=L.length)(hh:ae)(he:(bB b (aQ (L.take n)) cap).top≠0->hh=hp) :
 ∃v1,fc hh (bB b (aQ (L.take n)) cap) v1/\v1.top=0/\bM v1 = .vs (au (L.take (aQ (L.take n)))) (L.take (aQ (L.take n))).length none:=by
 have hle:=ik (l:=L.take n)
 rw[List.length_take]at hle
 obtain⟨k,hk⟩:∃k,k=aQ (L.take n):=⟨_,rfl⟩
 rw[←hk]at hle he ⊢
 by_cases h0:0<k
 . have e1:bB b k cap = .sl b 0 k 1 cap:=if_pos h0
   rw[e1]at he ⊢
   obtain rfl:=he (by simp[AV.top])
   have hl:(L.take k).length=k:=by rw[List.length_take];omega
   have hF:fc hh (.sl b 0 k 1 cap) (.vs (au (L.take k)) k none):=by
    refine .sl (m:=au (L.take k)) hb ?_ rfl (fun i x y hx hy=>?_)
    . have:=kp (f:=iC) (esz:=1) (fun _=>rfl) (l:=L) (i:=0) (n:=k) (by omega)
      simpa using this
    . rw[hx]at hy;cases hy
      exact .same (cA (fW _) hx)
   rw[hl]
   exact⟨_,hF,fW _,by rw[bM,qj]⟩
 . obtain rfl:k=0:=by omega
   exact⟨.vs [] 0 cap,.same rfl,rfl,rfl⟩
theorem je.less {hh:ae}{l:List Int}:je (bg [.ah,.vs (au l) l.length cap]) hh [] l:=by
 have ht:(bg [.ah,.vs (au l) l.length cap]).top=0:=by simp[bg,AV.top,br,fW l]
 refine⟨bg [.ah,.vs (au l) l.length cap],.ah,.vs (au l) l.length none,.same ht,ht,?_,.inr ⟨rfl,rfl⟩,.inl rfl⟩
 simp only[bg,bM,cB,qj l]
def Ll (M:aO)(g:Nat)(ars:List AV)(x y:Int):Prop:=∃q r:List Int,(okW dB q/\aR q/\WV dB q=x/y)/\(okW dB r/\aR r/\WV dB r=x%y)/\∃v hh,je v hh q r/\aZ M g ars [] ⟨v,hh,[]⟩
theorem aab {f N:Nat}{aP:List Nat}{res:List eK}{body:ak}{ars:List AV}{x y:Int}(hft:M.FT f=some ⟨N,aP,res,body⟩)(hN:ars.length<=N)
 (h:W M body ⟨⟨aP.map (fun t=>(ars[t]?).getD cF),[],[],[]⟩,[]⟩ fun e s=>(e = .normal\/e = .ret)/\s.s.bU=[]/\∃vs,dm s.s res=some vs/\∃q r:List Int,(okW dB q/\aR q/\WV dB q=x/y)/\(okW dB r/\aR r/\WV dB r=x%y)/\je (bg vs) (if (bg vs).top<=0 then [] else s.s.hp) q r):Ll M f ars x y:=by
 obtain⟨v,hh,⟨q,r,hq,hr,ho⟩,h2⟩:=iF (P:=fun v hh=>∃q r:List Int,(okW dB q/\aR q/\WV dB q=x/y)/\(okW dB r/\aR r/\WV dB r=x%y)/\je v hh q r) hft hN h
 exact⟨q,r,hq,hr,v,hh,ho,h2⟩
theorem sX {b:Nat}:bB b 0 cap = .vs [] 0 cap:=if_neg (by omega)
theorem Lm {b r:Nat}:bB b (r+1) cap = .sl b 0 (r+1) 1 cap:=if_pos (by omega)
theorem aac (hft:M.FT=FT){b n:Nat}{L:List Int}{e:TypeId}{hp:ae}(hb:hp.at b=some (.cells (au L) e))(hn:n<=L.length)(hl:n<1000000000)(hc:∀c,cap=some c->n<=c) :
 aZ M 242 [bB b n cap] hp ⟨bB b (aQ (L.take n)) cap,hp,[]⟩:=by
 have hbl:=fa hb
 refine pc (by rw[hft];exact KZ) (by simp) (by unfold bB;split <;> simp[AV.top,br];omega) ?_
 have loop:∀(r:Nat) (lo:List (Nat×AV)) (a1:AV) {Q:Ex->aq->Prop},r<=n->aQ (L.take r)=aQ (L.take n)->(∀lo,Q (.exit 0) ⟨⟨[bB b (aQ (L.take n)) cap,a1],lo,hp,[]⟩,[]⟩)->W M (.loop qf) ⟨⟨[bB b r cap,a1],lo,hp,[]⟩,[]⟩ Q:=by
  intro r
  induction r with
  | zero=>
   intro lo a1 Q hr he hQ
   have e0:aQ (L.take n)=0:=by rw[←he];rfl
   rw[e0,sX]at hQ
   rw[sX]
   refine W.loop ?_
   unfold qf
   repeat' first|apply W.seq|apply ab|apply W.region|apply WO.nil|apply W.exit|apply cj|apply dK|(apply W.aw;rfl)|(apply WO.sT;rfl)|(apply WO.gtr;rfl;rfl)|(apply WO.bx;rfl;rfl)|(apply WO.pl;rfl;rfl)|(intro _;omega)|intro _
   all_goals try omega
   all_goals exact hQ _
  | succ r ih=>
   intro lo a1 Q hr he hQ
   have e:=pt (l:=L) (i:=r) (by omega)
   have ei:0+((((r+1:Nat):Int)-1).toNat)*1=r:=by omega
   have er:((r+1:Nat):Int)-1=r:=by omega
   rw[Lm]
   refine W.loop ?_
   by_cases h0:L[r]! = 0
   . rw[if_pos h0]at e
     unfold qf
     repeat' first|(apply WO.xB;exact congrArg (fun z=>some (AV.ptr b z)) ei;exact hb;omega)|(apply WO.Ax (k:=.i64) (r:=r);rfl;exact congrArg (fun z=>some (AV.iV z)) er;omega;(intro c hc';have:=hc c hc';omega))|apply W.seq|apply ab|apply W.region|apply WO.nil|apply W.block|apply W.skip|apply bK|(apply W.ax;rfl)|(apply WO.gT;rfl)|(apply WO.gtr;rfl;rfl)|(apply WO.eql;rfl;rfl)|(apply WO.bn;rfl;rfl)|(apply WO.sub;rfl;rfl;omega)|(apply WO.bY;rfl;rfl;omega)|(apply WO.pl;rfl;rfl)|(apply WO.pp;rfl;rfl)|(intro _;omega)|intro _
     all_goals try omega
     all_goals exact ef (ih _ _ (by omega) (e.symm.trans he) hQ)
   . rw[if_neg h0]at e
     have e2:aQ (L.take n)=r+1:=by rw[←he,e]
     rw[e2,Lm]at hQ
     unfold qf
     repeat' first|(apply WO.xB;exact congrArg (fun z=>some (AV.ptr b z)) ei;exact hb;omega)|apply W.seq|apply ab|apply W.region|apply WO.nil|apply W.exit|apply cj|apply dK|(apply W.aw;rfl)|(apply WO.gT;rfl)|(apply WO.gtr;rfl;rfl)|(apply WO.eql;rfl;rfl)|(apply WO.bn;rfl;rfl)|(apply WO.sub;rfl;rfl;omega)|(apply WO.bY;rfl;rfl;omega)|(apply WO.pl;rfl;rfl)|(intro _;omega)|intro _
     all_goals try omega
     all_goals exact hQ _
 unfold CY
 simp only[enter]
 repeat' first|apply W.seq|apply ab|apply W.region|apply WO.nil|apply W.block|(apply WO.pp;rfl;rfl)
 refine loop n _ _ (Nat.le_refl _) rfl (fun lo=>?_)
 repeat' first|apply W.seq|apply ab|apply W.region|apply WO.nil|apply W.ret|apply cg|(apply WO.pl;rfl;rfl)|(apply WO.pp;rfl;rfl)
 exact⟨.inr rfl,rfl,⟨[],by simp⟩,by simp,_,rfl,rfl⟩
theorem qk (hft:M.FT=FT)(gO:∀ars h,M.ext 242 ars h=none){b n:Nat}{L:List Int}{e:TypeId}{hp:ae}(hb:hp.at b=some (.cells (au L) e))(h0:0<n)(hn:n<=L.length)(hl:n<1000000000)(hc:∀c,cap=some c->n<=c) :
 CT M (ir 242) [.sl b 0 n 1 cap] hp ⟨bB b (aQ (L.take n)) cap,hp,[]⟩:=by
 have h:=aac (cap:=cap) hft hb hn hl hc
 rw[show bB b n cap = .sl b 0 n 1 cap from if_pos h0]at h
 exact CT.run (fi:=[]) (ca:=[]) (gO _ _) h
theorem Ln {b n:Nat}:bB b n cap = .sl b 0 n 1 cap\/bB b n cap = .vs [] 0 cap/\n=0:=by
 rcases Nat.eq_zero_or_pos n with rfl|h
 . exact .inr ⟨sX,rfl⟩
 . exact .inl (if_pos h)
theorem Df {st:St}{i b:Nat}{x y:AV}{e:TypeId}(h1:st.pe[i]? = some (.ptr b 0))(h2:st.hp.at b=some (.cells [x,y] e)):dm st [.cell 2 true (.p i)]=some [.agg [x,y]]:=by
 simp only[dm,St.aa,h1,Option.bind_some,fj,h2,List.drop]
 rfl
theorem aad (hft:M.FT=FT)(gO:∀ars h,M.ext 242 ars h=none){b n:Nat}{L:List Int}{e:TypeId}{hp:ae}(neg:Bool)(hb:hp.at b=some (.cells (au L) e))(h0:0<n)(hn:n<=L.length)(hl:n<1000000000)(hc:∀c,cap=some c->n<=c) :
 aZ M 196 [.bool neg,.sl b 0 n 1 cap] hp ⟨.agg [.bool (neg && decide (0<aQ (L.take n))),bB b (aQ (L.take n)) cap],hp,[]⟩:=by
 have hbl:=fa hb
 have q:=qk (cap:=cap) hft gO (hp:=hp++[some (.cells [.bool false,.ah] 162)]) (cG hb) h0 hn hl hc
 have ht:aQ (L.take n)<=n:=by have:=ik (l:=L.take n);rw[List.length_take]at this;omega
 obtain⟨k,hk⟩:∃k,k=aQ (L.take n):=⟨_,rfl⟩
 rw[←hk]at q ht ⊢
 refine pc (by rw[hft];exact ZJ) (by simp) (by rcases Ln (cap:=cap) (b:=b) (n:=k) with h|⟨h,_⟩ <;> rw[h] <;> simp[AV.top,br] <;> omega) ?_
 unfold KY
 simp only[enter]
 rcases Ln (cap:=cap) (b:=b) (n:=k) with h|⟨h,h1⟩
 . rw[h]at q ⊢
   by_cases hk0:0<k
   . rw[decide_eq_true hk0,Bool.and_true]
     cases neg
     all_goals
     . repeat' first|(apply WO.fI;rfl;rfl;exact⟨rfl,by first|exact Nat.le_refl _|decide|(simp[overwrite]),rfl⟩;rfl)|apply W.seq|apply ab|apply W.region|apply WO.nil|apply W.ret|(apply WO.gT;rfl)|(apply WO.sT;rfl)|(apply WO.gtr;rfl;rfl)|(apply WO.bn;rfl;rfl)|(apply WO.bx;rfl;rfl)|(apply WO.ct;rfl;rfl;first|exact q)|(apply WO.aX;rfl;rfl;rfl)|(apply WO.pl;rfl;rfl)|(apply WO.pp;rfl;rfl)|(intro _;omega)|intro _
       all_goals try omega
       all_goals exact⟨.inr rfl,rfl,⟨_,rfl⟩,by simp,_,Df rfl cn,rfl⟩
   . exfalso
     have:k=0:=by omega
     rw[this,sX]at h
     cases h
 . rw[h]at q ⊢
   subst h1
   rw[decide_eq_false (by omega),Bool.and_false]
   cases neg
   all_goals
   . repeat' first|(apply WO.fI;rfl;rfl;exact⟨rfl,by first|exact Nat.le_refl _|decide|(simp[overwrite]),rfl⟩;rfl)|apply W.seq|apply ab|apply W.region|apply WO.nil|apply W.ret|(apply WO.gT;rfl)|(apply WO.sT;rfl)|(apply WO.gtr;rfl;rfl)|(apply WO.bn;rfl;rfl)|(apply WO.bx;rfl;rfl)|(apply WO.ct;rfl;rfl;first|exact q)|(apply WO.aX;rfl;rfl;rfl)|(apply WO.pl;rfl;rfl)|(apply WO.pp;rfl;rfl)|(intro _;omega)|intro _
     all_goals try omega
     all_goals exact⟨.inr rfl,rfl,⟨_,rfl⟩,by simp,_,Df rfl cn,rfl⟩
end Go.Ab.Ch1

/-
  Own work: the reference's integers: read from texts.
-/
namespace Go.Ab.Ch1
open Go.Ab.bz
variable {M:aO} {cap c1 c2:Option Nat}
def sY (v:AV)(z:Int):Prop:=∃neg x l,v = .agg [.bool neg,x]/\my x l/\okW dB l/\aR l/\z=(if neg then -WV dB l else WV dB l)/\(neg=true->l≠[])
def iQ (v:AV)(z:Int):Prop:=∃neg l,v = .agg [.bool neg,.vs (au l) l.length none]/\okW dB l/\aR l/\z=(if neg then -WV dB l else WV dB l)/\(neg=true->l≠[])
theorem iQ.Lo {v:AV}{z:Int}(h:iQ v z):sY v z:=by
 obtain⟨neg,l,h1,h2,h3,h4,h5⟩:=h
 exact⟨neg,_,l,h1,.inl rfl,h2,h3,h4,h5⟩
theorem aae {t x:al}(hx:x.length=9):aM 0 (t++x)=aM 0 t*1000000000+aM 0 x:=by
 rw[nF,wc,hx]
structure Dg (M:aO):Prop where
 ft:M.FT=FT
 gO:∀ars h,M.ext 242 ars h=none
 Lp:∀ars h,M.ext 196 ars h=none
 Dh:∀(s:al) h,s.length<=18->s.all bF=true->M.ext 192 [.str s] h=some ⟨.iV (aM 0 s:Nat),h,[]⟩
theorem aaf {K:ae}{c:Nat}{L:List Int}{neg:Bool}(hc:K.at c=some (.cells (au L) 3))(oL:okW dB L) :
 ∃v0,iQ v0 (if neg then -WV dB L else WV dB L)/\fU (.agg [.bool (neg && decide (0<aQ (L.take L.length))),bB c (aQ (L.take L.length)) none]) (if (AV.agg [.bool (neg && decide (0<aQ (L.take L.length))),bB c (aQ (L.take L.length)) none]).top<=0 then [] else K) v0:=by
 obtain⟨v1,f1,t1,k1⟩:=De (cap:=none) hc (Nat.le_refl L.length) (if (AV.agg [.bool (neg && decide (0<aQ (L.take L.length))),bB c (aQ (L.take L.length)) none]).top<=0 then [] else K) (fun h=>by
  rw[if_neg]
  intro h2
  apply h
  have:(AV.agg [.bool (neg && decide (0<aQ (L.take L.length))),bB c (aQ (L.take L.length)) none]).top=max 0 (max (bB c (aQ (L.take L.length)) none).top 0):=rfl
  omega)
 obtain⟨g1,g2,g3⟩:=sW oL
 rw[List.take_length]at k1 f1 ⊢
 refine⟨.agg [.bool (neg && decide (0<aQ L)),.vs (au (L.take (aQ L))) (L.take (aQ L)).length none],⟨_,_,rfl,g1,g2,?_,?_⟩,.agg [.bool (neg && decide (0<aQ L)),v1],.agg rfl (fun i a b ha hb=>?_),?_,?_⟩
 . rw[g3]
   cases neg with
   | false=>rfl
   | true=>
    by_cases h0:0<aQ L
    . rw[decide_eq_true h0];rfl
    . rw[decide_eq_false h0]
      have:WV dB L=0:=by rw[←g3,show aQ L=0 by omega];rfl
      rw[this];rfl
 . intro h e
   rw[Bool.and_eq_true,decide_eq_true_eq]at h
   have:=congrArg List.length e
   have hle:=ik (l:=L)
   rw[List.length_take,List.length_nil]at this
   omega
 . match i with
   | 0=>cases ha;cases hb;exact .same rfl
   | 1=>cases ha;cases hb;exact f1
   | i+2=>cases ha
 . simp[AV.top,br,t1]
 . simp only[bM,cB,k1]
theorem aag (C:Dg M){Q:Ex->aq->Prop}(full:al)(hD:full.all bF=true)(hl:full.length<1000000)(a2:AV)
 (hQ:∀t acc o K lo wr,t.length<=9->t.all bF=true->okW dB acc->acc.length<1000000->(aM 0 full:Int)=aM 0 t*dB^acc.length+WV dB acc->dv iC 1 3 K o acc [0]->K.at 0=some (.cells [.bool false,.ah] 162)->Q (.exit 0) ⟨⟨[.str t,.ptr 0 0,a2,o],lo,K,[]⟩,wr⟩)
 (lo:List (Nat×AV)) (wr:List Nat) (K:ae) (hK:K.at 0=some (.cells [.bool false,.ah] 162)) :
 W M (.loop sS) ⟨⟨[.str full,.ptr 0 0,a2,.ah],lo,K,[]⟩,wr⟩ Q:=by
 refine W.ij (fun m st=>∃t acc o K lo wr,st=⟨⟨[.str t,.ptr 0 0,a2,o],lo,K,[]⟩,wr⟩/\t.length=m/\t.all bF=true/\okW dB acc/\acc.length*9+t.length<=full.length/\(aM 0 full:Int)=aM 0 t*dB^acc.length+WV dB acc/\dv iC 1 3 K o acc [0]/\K.at 0=some (.cells [.bool false,.ah] 162))
  (fun m st ⟨t,acc,o,K,lo,wr,hst,hm,hDt,oA,hln,hv,ho,hK⟩=>?_) (m:=full.length) ⟨full,[],.ah,K,lo,wr,rfl,rfl,hD,nk,by simp,by simp[WV],.um,hK⟩
 subst hst
 by_cases h9:t.length<=9
 . unfold sS
   repeat' first|apply W.seq|apply ab|apply W.region|apply WO.nil|apply W.exit|apply cj|apply eA|(apply W.aw;rfl)|(apply WO.gtr;rfl;rfl)|(apply WO.pl;rfl;rfl)|(intro _;omega)|intro _
   all_goals try omega
   all_goals exact hQ _ _ _ _ _ _ h9 hDt oA (by omega) hv ho hK
 . obtain⟨x,y,hxy,hxl⟩:∃x y,t=x++y/\y.length=9:=⟨t.take (t.length-9),t.drop (t.length-9),(List.take_append_drop _ t).symm,by rw[List.length_drop];omega⟩
   have htl:t.length=x.length+9:=by rw[hxy,List.length_append,hxl]
   have hDx:x.all bF=true:=by rw[hxy,List.all_append,Bool.and_eq_true]at hDt;exact hDt.1
   have hDy:y.all bF=true:=by rw[hxy,List.all_append,Bool.and_eq_true]at hDt;exact hDt.2
   have q192:=fun h=>C.Dh y h (by omega) hDy
   have hylt:aM 0 y<1000000000:=by have:=nG y hDy;rw[hxl]at this;exact this
   have edr:t.drop ((t.length:Int)-9).toNat=y:=by rw[show ((t.length:Int)-9).toNat=x.length by omega,hxy,List.drop_left]
   have etk:t.take ((t.length:Int)-9).toNat=x:=by rw[show ((t.length:Int)-9).toNat=x.length by omega,hxy,List.take_left]
   have hroom:(acc.length+1)*8<=dX:=by unfold dX;omega
   have hK1:=fa hK
   unfold sS
   repeat' first|(apply WO.gi (s:=t) (r:=y);rfl;rfl;omega;exact edr)|(apply WO.ig (s:=t) (r:=x);rfl;rfl;omega;exact etk)|(refine dv.app (f:=iC) (m:=[(aM 0 y:Int)]) (S:=[0]) (fun _=>rfl) (fun _=>rfl) (by decide) (ho.grow [_]) (by simp) rfl rfl (Sl.lI (f:=iC) (esz:=1) (l:=[(aM 0 y:Int)]) (e:=3) (fun _=>rfl) cn rfl) hroom (fun H w' o' ho' hk hlen=>?_))|apply W.seq|apply ab|apply W.region|apply WO.nil|apply W.block|apply W.skip|apply bK|(apply W.ax;rfl)|(apply WO.gtr;rfl;rfl)|(apply WO.sub;rfl;rfl;omega)|(apply WO.ay;rfl;rfl;first|exact q192 _)|(apply WO.aT;rfl;rfl;rfl)|(apply WO.pl;rfl;rfl)|(apply WO.pp;rfl;rfl)|(intro _;omega)|intro _
   all_goals try omega
   all_goals exact ek ⟨x.length,by omega,x,acc++[(aM 0 y:Int)],o',H,_,_,rfl,rfl,hDx,kA oA (fun z hz=>by rw[List.mem_singleton.1 hz];exact⟨by omega,by show _<(1000000000:Int);omega⟩),by rw[List.length_append,List.length_singleton];omega,by
    rw[hv,hxy,aae hxl,List.length_append,List.length_singleton,Int.pow_succ,fT]
    rw[Int.natCast_add,Int.natCast_mul]
    have:WV dB [(aM 0 y:Int)]=aM 0 y:=by simp[WV]
    rw[this]
    show ((aM 0 x:Int)*1000000000+aM 0 y)*dB^acc.length+WV dB acc=aM 0 x*(dB^acc.length*1000000000)+(WV dB acc+dB^acc.length*aM 0 y)
    grind,ho',hk 0 _ (by simp) (cG hK)⟩
theorem aah (C:Dg M)(s:al)(hl:s.length<1000000)(hD:(bJ 45 s).all bF=true):∃v0,iQ v0 (if preB 45 s then -(aM 0 (bJ 45 s):Int) else (aM 0 (bJ 45 s):Nat))/\cW M 193 [.str s] v0:=by
 have hcl:=sC 45 s
 obtain⟨v',hh,⟨v0,h0,ho⟩,hr⟩:=iF (M:=M) (f:=193) (ars:=[.str s]) (P:=fun v hh=>∃v0,iQ v0 (if preB 45 s then -(aM 0 (bJ 45 s):Int) else (aM 0 (bJ 45 s):Nat))/\fU v hh v0) (by rw[C.ft];exact ZH) (by simp) (by
  have main:∀(neg:Bool) (lo:List (Nat×AV)) (wr:List Nat) {Q:Ex->aq->Prop},(∀e st,((e = .normal\/e = .ret)/\st.s.bU=[]/\∃vs,dm st.s [.cell 2 true (.p 1)]=some vs/\∃v0,iQ v0 (if neg then -(aM 0 (bJ 45 s):Int) else (aM 0 (bJ 45 s):Nat))/\fU (bg vs) (if (bg vs).top<=0 then [] else st.s.hp) v0)->Q e st) ->
   W M (.loop sS) ⟨⟨[.str (bJ 45 s),.ptr 0 0,.bool neg,.ah],lo,[some (.cells [.bool false,.ah] 162)],[]⟩,wr⟩ (BQ 0 (SQ M (.seq (.region [zm 33 2,
    zm 34 3,
    zm 35 0,
    z1 36 192 35,
    ⟨(.l 37),.eu 3 1 1 [.iV (0)] [(0,1,(.l 36))],none⟩,
    ⟨(.l 38),.append 3 1 8 (.l 34) (.l 37),none⟩,
    z2 39 196 33 38,
    zs 2 1 39])
     (.ret)) Q)):=by
   intro neg lo wr Q hQ
   refine aag C (bJ 45 s) hD (by omega) _ (fun t acc o K lo wr ht hDt oA hacc hv ho hK=>?_) _ _ _ rfl
   have q192:=fun h=>C.Dh t h (by omega) hDt
   have htlt:aM 0 t<1000000000:=by
    have h1:=nG t hDt
    exact Nat.lt_of_lt_of_le h1 (Nat.le_trans (Nat.pow_le_pow_right (by decide) ht) (by decide))
   have hroom:(acc.length+1)*8<=dX:=by unfold dX;omega
   have hK1:=fa hK
   repeat' first|(refine dv.app (f:=iC) (m:=[(aM 0 t:Int)]) (S:=[0]) (fun _=>rfl) (fun _=>rfl) (by decide) (ho.grow [_]) (by simp) rfl rfl (Sl.lI (f:=iC) (esz:=1) (l:=[(aM 0 t:Int)]) (e:=3) (fun _=>rfl) cn rfl) hroom (fun H w' o' ho' hk hlen=>?_))|apply W.seq|apply ab|apply W.region|apply cg|(apply WO.ay;rfl;rfl;first|exact q192 _)|(apply WO.aT;rfl;rfl;rfl)|(apply WO.pl;rfl;rfl)
   rcases ho' with ⟨h1,_⟩|⟨c,cp,hc0,rfl,hc,hcap⟩
   . simp at h1
   obtain rfl:cp=none:=hcap.resolve_right fun h=>by simp at h
   have oL:okW dB (acc++[(aM 0 t:Int)]):=kA oA (fun z hz=>by rw[List.mem_singleton.1 hz];exact⟨by omega,by show _<(1000000000:Int);omega⟩)
   have vL:WV dB (acc++[(aM 0 t:Int)])=(aM 0 (bJ 45 s):Int):=by
    rw[hv,fT]
    have:WV dB [(aM 0 t:Int)]=aM 0 t:=by simp[WV]
    rw[this]
    grind
   have h0':H.at 0=some (.cells [.bool false,.ah] 162):=hk 0 _ (by simp) (cG hK)
   have hcn:c≠0:=fun e=>hc0 (by simp[e])
   obtain⟨L,hL⟩:∃L,L=acc++[(aM 0 t:Int)]:=⟨_,rfl⟩
   rw[←hL]at oL vL hc
   have hLl:(acc++[(aM 0 t:Int)]).length=L.length:=by rw[hL]
   rw[hLl]
   have hLn:0<L.length/\L.length<1000001:=by rw[hL,List.length_append,List.length_singleton];omega
   have q196:=CT.run (fi:=[]) (ca:=[]) (ars:=[.bool neg,.sl c 0 L.length 1 none]) (C.Lp _ _) (aad (cap:=none) C.ft C.gO neg hc hLn.1 (Nat.le_refl _) (by omega) (fun _ h=>by cases h))
   obtain⟨v0,k0,o0⟩:=aaf (K:=H.put 0 (some (.cells [.bool (neg && decide (0<aQ (L.take L.length))),bB c (aQ (L.take L.length)) none] 162))) (neg:=neg) (rn hcn hc) oL
   rw[vL]at k0
   have hone:cR (bB c (aQ (L.take L.length)) none)=true:=by unfold bB;split <;> rfl
   repeat' first|(apply WO.cJ;rfl;rfl;exact h0';exact⟨rfl,Nat.le_refl _,by rw[List.all_cons,List.all_cons,List.all_nil,hone];rfl⟩;rfl)|apply ab|apply WO.nil|apply W.ret|(apply WO.ct;rfl;rfl;first|exact q196)
   refine hQ _ _ ⟨.inr rfl,rfl,_,Df rfl (cI (fa h0')),v0,k0,o0⟩
  unfold KW
  simp only[enter]
  cases hp:preB 45 s with
  | true=>
   obtain⟨h1,h2⟩:=wE hp
   have h1:s.drop (1:Int).toNat=bJ 45 s:=h1
   have e0:s[0]! = 45:=by
    have h:=of_decide_eq_true hp
    cases s with
    | nil=>simp at h
    | cons c t=>simp at h;exact h
   have e45:((s[(0:Int).toNat]!).toNat:Int)=45:=by rw[show s[(0:Int).toNat]! = s[0]! from rfl,e0];rfl
   repeat' first|(apply WO.gi;rfl;rfl;omega;exact h1)|apply W.seq|apply ab|apply W.region|apply WO.nil|apply W.block|(apply W.ax;rfl)|(apply WO.gT;rfl)|(apply WO.gtr;rfl;rfl)|(apply WO.eql;rfl;rfl)|(apply WO.bn;rfl;rfl)|(apply WO.idx;rfl;rfl;omega)|(apply WO.aX;rfl;rfl;rfl)|(apply WO.pl;rfl;rfl)|(apply WO.pp;rfl;rfl)|(intro _;omega)|intro _
   all_goals try omega
   all_goals exact main true _ _ (fun e st h=>h)
  | false=>
   have e1:=jY hp
   rw[e1]at main
   by_cases h0:s.length=0
   . repeat' first|apply W.seq|apply ab|apply W.region|apply WO.nil|apply W.block|apply W.skip|(apply W.aw;rfl)|(apply WO.sT;rfl)|(apply WO.gtr;rfl;rfl)|(apply WO.bx;rfl;rfl)|(apply WO.aX;rfl;rfl;rfl)|(apply WO.pl;rfl;rfl)|(apply WO.pp;rfl;rfl)|(intro _;omega)|intro _
     all_goals try omega
     all_goals exact main false _ _ (fun e st h=>by rw[e1];exact h)
   . have e45:((s[(0:Int).toNat]!).toNat:Int)≠45:=fun e=>by
      have h:=of_decide_eq_false hp
      cases s with
      | nil=>exact h0 rfl
      | cons c t=>
       refine h (congrArg some (UInt8.toNat_inj.1 ?_))
       have e:((c.toNat:Nat):Int)=45:=e
       have:(45:UInt8).toNat=45:=rfl
       omega
     repeat' first|apply W.seq|apply ab|apply W.region|apply WO.nil|apply W.block|apply W.skip|(apply W.aw;rfl)|(apply WO.gT;rfl)|(apply WO.gtr;rfl;rfl)|(apply WO.eql;rfl;rfl)|(apply WO.bn;rfl;rfl)|(apply WO.idx;rfl;rfl;omega)|(apply WO.aX;rfl;rfl;rfl)|(apply WO.pl;rfl;rfl)|(apply WO.pp;rfl;rfl)|(intro _;omega)|intro _
     all_goals try omega
     all_goals exact main false _ _ (fun e st h=>by rw[e1];exact h))
 exact⟨v0,h0,v',hh,ho,hr⟩
end Go.Ab.Ch1

/-
  Own work: the reference's integers: parts of a fraction; comparisons; divisions by one digit.
-/
namespace Go.Ab.Ch1
open Go.Ab.bz
variable {M:aO} {cap c1 c2:Option Nat}
theorem aai (x:AV){l:List Int}(h:my x l):cR x=true/\x.top=0/\bM x=x:=by
 rcases h with rfl|⟨rfl,rfl⟩
 . exact⟨rfl,fW l,by rw[bM,qj]⟩
 . exact⟨rfl,rfl,rfl⟩
theorem sY.shape {v:AV}{z:Int}(h:sY v z):∃neg x l,v = .agg [.bool neg,x]/\my x l/\cR x=true/\x.top=0/\bM x=x:=by
 obtain⟨neg,x,l,rfl,hx,_⟩:=h
 obtain⟨h1,h2,h3⟩:=aai x hx
 exact⟨neg,x,l,rfl,hx,h1,h2,h3⟩
theorem Lr {n:Bool}{x:AV}(h:cR x=true):[AV.bool n,x].all cR=true:=by rw[List.all_cons,List.all_cons,List.all_nil,h];rfl
theorem Ls {s:al}(h:mw s=true):s.take (dg s)=(bI 47 s).1/\s.drop (dg s+1)=(bI 47 s).2.getD []/\dg s+1<=s.length:=by
 unfold mw at h
 obtain⟨y,hy⟩:=Option.isSome_iff_exists.1 h
 have h1:=BZ hy
 have h2:=JE hy
 have h3:=sB hy
 refine⟨h1,?_,by unfold dg;omega⟩
 rw[hy];exact h2
theorem aaj (hft:M.FT=FT)(s:al)(hl:s.length<1000000)(hb:mw s=true)(q153:∀h,M.ext 153 [.str s] h=some ⟨.iV (dg s),h,[]⟩){v1 v2:AV}{z1 z2:Int}(k1:sY v1 z1)(k2:sY v2 z2)(qa:∀h,M.ext 193 [.str (bI 47 s).1] h=some ⟨v1,h,[]⟩)(qb:∀h,M.ext 193 [.str ((bI 47 s).2.getD [])] h=some ⟨v2,h,[]⟩):cW M 135 [.str s] (.ao [v1,v2]):=by
 obtain⟨e1,e2,hk⟩:=Ls hb
 obtain⟨n1,x1,l1,rfl,_,o1,t1,b1⟩:=k1.shape
 obtain⟨n2,x2,l2,rfl,_,o2,t2,b2⟩:=k2.shape
 have e1':s.take ((dg s:Nat):Int).toNat=(bI 47 s).1:=e1
 have e2':s.drop ((dg s:Int)+1).toNat=(bI 47 s).2.getD []:=by rw[show ((dg s:Int)+1).toNat=dg s+1 by omega];exact e2
 generalize (bI 47 s).1=X at *
 generalize (bI 47 s).2.getD []=Y at *
 refine cT (by rw[hft];exact ZG) (by simp) ?_
 unfold KV
 simp only[enter]
 repeat' first|(apply WO.ig (s:=s) (r:=X);rfl;rfl;omega;exact e1')|(apply WO.gi (s:=s) (r:=Y);rfl;rfl;omega;exact e2')|(apply WD.dL;rfl;rfl;(first|(simp only[nca];rfl)|rfl);first|exact qa _|exact qb _)|(apply WO.cJ;rfl;rfl;rfl;exact⟨rfl,Nat.le_refl _,by first|exact Lr o1|exact Lr o2⟩;rfl)|apply W.seq|apply ab|apply W.region|apply WO.nil|apply W.ret|apply W.skip|apply W.draw|apply WD.nil|(apply WD.dE;rfl)|(apply WD.eh;rfl;(first|(simp only[nca];rfl)|rfl);(first|(simp only[nca];rfl)|rfl))|(apply W.aw;rfl)|(apply WO.eql;rfl;rfl)|(apply WO.add;rfl;rfl;omega)|(apply WO.ay;rfl;rfl;first|exact q153 _)|(apply WO.aX;rfl;rfl;rfl)|(apply WO.pl;rfl;rfl)|(apply WO.pp;rfl;rfl)|(intro _;omega)|intro _
 all_goals try omega
 refine cw rfl rfl (.same ?_ ?_)
 . show max (max 0 (max x1.top 0)) (max (max 0 (max x2.top 0)) 0)=0
   rw[t1,t2];rfl
 . show AV.ao [.agg [.bool n1,bM x1],.agg [.bool n2,bM x2]]=_
   rw[b1,b2]
theorem aak (hft:M.FT=FT)(a b:List Int)(ha:okW dB a)(hb:okW dB b)(na:aR a)(nb:aR b)(la:a.length<1000000000)(lb:b.length<1000000000) :
 aZ M 218 [.vs (au a) a.length c1,.vs (au b) b.length c2] [] ⟨.iV (bD (WV dB a-WV dB b)),[],[]⟩:=by
 have hB:(1:Int)<dB:=by decide
 refine bT (by rw[hft];exact ZM) (by simp) ?_
 by_cases hl:a.length=b.length
 . have loop:∀(r:Nat) lo a2 wr {Q:Ex->aq->Prop},r<=a.length->a.drop r=b.drop r ->
    (∀lo wr z,z=bD (WV dB a-WV dB b)->∀a3,Q .ret ⟨⟨[.vs (au a) a.length c1,.vs (au b) b.length c2,.iV z,a3],lo,[],[]⟩,wr⟩) ->
    (bD (WV dB a-WV dB b)=0->∀lo wr,Q (.exit 0) ⟨⟨[.vs (au a) a.length c1,.vs (au b) b.length c2,a2,.iV (-1)],lo,[],[]⟩,wr⟩) ->
    W M (.loop qh) ⟨⟨[.vs (au a) a.length c1,.vs (au b) b.length c2,a2,.iV ((r:Int)-1)],lo,[],[]⟩,wr⟩ Q:=by
    intro r
    induction r with
    | zero=>
     intro lo a2 wr Q hr hd h1 h2
     rw[List.drop_zero,List.drop_zero]at hd
     refine W.loop ?_
     unfold qh
     repeat' first|apply W.seq|apply ab|apply W.region|apply WO.nil|apply W.exit|apply cj|apply dK|(apply W.aw;rfl)|(apply WO.geq;rfl;rfl)|(apply WO.pl;rfl;rfl)|(intro _;omega)|intro _
     all_goals try omega
     exact h2 (by rw[hd,Int.sub_self];rfl) _ _
    | succ r ih=>
     intro lo a2 wr Q hr hd h1 h2
     have er:((r+1:Nat):Int)-1=r:=by omega
     rw[er]
     have hai:a[((r:Int)).toNat]! = a[r]! := rfl
     have hbi:b[((r:Int)).toNat]! = b[r]! := rfl
     refine W.loop ?_
     by_cases hlt:a[r]! < b[r]!
     . have:=uO hB ha hb (i:=r) (by omega) (by omega) hd hlt
       rw[←hai,←hbi]at hlt
       unfold qh
       repeat' first|apply W.seq|apply ab|apply W.region|apply WO.nil|apply W.block|apply W.ret|apply W.skip|apply ba|apply cN|apply gW|(apply W.fH;rfl)|(apply W.ax;rfl)|(apply WO.lss;rfl;rfl)|(apply WO.geq;rfl;rfl)|(apply WO.cM;rfl;rfl;omega)|(apply WO.dV;rfl;exact fun _=>rfl;(first|omega|(simp only[List.length_set];omega)|(simp;omega));decide;rfl;case ia=>infer_instance)|(apply WO.pl;rfl;rfl)|(apply WO.pp;rfl;rfl)|(intro _;omega)|intro _
       all_goals try omega
       all_goals exact h1 _ _ _ (by rw[bD,if_pos (by omega)]) _
     . by_cases hgt:b[r]! < a[r]!
       . have:=uO hB hb ha (i:=r) (by omega) (by omega) hd.symm hgt
         rw[←hai,←hbi]at hlt hgt
         unfold qh
         repeat' first|apply W.seq|apply ab|apply W.region|apply WO.nil|apply W.block|apply W.ret|apply W.skip|apply ba|apply cN|apply gW|(apply W.fH;rfl)|(apply W.ax;rfl)|(apply W.aw;rfl)|(apply WO.lss;rfl;rfl)|(apply WO.gtr;rfl;rfl)|(apply WO.geq;rfl;rfl)|(apply WO.cM;rfl;rfl;omega)|(apply WO.dV;rfl;exact fun _=>rfl;(first|omega|(simp only[List.length_set];omega)|(simp;omega));decide;rfl;case ia=>infer_instance)|(apply WO.pl;rfl;rfl)|(apply WO.pp;rfl;rfl)|(intro _;omega)|intro _
         all_goals try omega
         all_goals exact h1 _ _ _ (by rw[bD,if_neg (by omega),if_pos (by omega)]) _
       . have hd2:a.drop r=b.drop r:=by
          rw[List.drop_eq_getElem_cons (show r<a.length by omega),List.drop_eq_getElem_cons (show r<b.length by omega),hd,←getElem!_pos a r,←getElem!_pos b r]
          exact congrArg (· :: _) (show a[r]! = b[r]! by omega)
         rw[←hai,←hbi]at hlt hgt
         unfold qh
         repeat' first|apply W.seq|apply ab|apply W.region|apply WO.nil|apply W.block|apply W.skip|apply bK|(apply W.fH;rfl)|(apply W.ax;rfl)|(apply W.aw;rfl)|(apply WO.lss;rfl;rfl)|(apply WO.gtr;rfl;rfl)|(apply WO.geq;rfl;rfl)|(apply WO.sub;rfl;rfl;omega)|(apply WO.cM;rfl;rfl;omega)|(apply WO.dV;rfl;exact fun _=>rfl;(first|omega|(simp only[List.length_set];omega)|(simp;omega));decide;rfl;case ia=>infer_instance)|(apply WO.pl;rfl;rfl)|(apply WO.pp;rfl;rfl)|(intro _;omega)|intro _
         all_goals try omega
         all_goals exact ef (ih _ _ _ (by omega) hd2 h1 h2)
   unfold Da
   simp only[enter]
   repeat' first|apply W.seq|apply ab|apply W.region|apply WO.nil|apply W.block|apply W.skip|(apply W.aw;rfl)|(apply WO.neq;rfl;rfl)|(apply WO.sub;rfl;rfl;omega)|(apply WO.pl;rfl;rfl)|(apply WO.pp;rfl;rfl)|(intro _;omega)|intro _
   all_goals try omega
   refine loop a.length _ _ _ (Nat.le_refl _) (by rw[List.drop_length,hl,List.drop_length]) (fun lo wr z hz a3=>?_) (fun hz lo wr=>?_)
   . subst hz
     repeat' first|apply ba|apply cN
     all_goals exact⟨.inr rfl,rfl,_,rfl,rfl,rfl⟩
   . rw[hz]
     repeat' first|apply W.seq|apply ab|apply W.region|apply WO.nil|apply W.ret|apply cg|(apply WO.pp;rfl;rfl)
     all_goals exact⟨.inr rfl,rfl,_,rfl,rfl,rfl⟩
 . unfold Da
   simp only[enter]
   by_cases hlt:a.length<b.length
   . have:=np hB ha hb nb hlt
     rw[show bD (WV dB a-WV dB b) = -1 by rw[bD,if_pos (by omega)]]
     repeat' first|apply W.seq|apply ab|apply W.region|apply WO.nil|apply W.ret|apply ba|(apply W.ax;rfl)|(apply WO.lss;rfl;rfl)|(apply WO.neq;rfl;rfl)|(apply WO.pl;rfl;rfl)|(apply WO.pp;rfl;rfl)|(intro _;omega)|intro _
     all_goals first|contradiction|(omega)|skip
     all_goals exact⟨.inr rfl,rfl,_,rfl,rfl,rfl⟩
   . have:=np hB hb ha na (by omega)
     rw[show bD (WV dB a-WV dB b)=1 by rw[bD,if_neg (by omega),if_pos (by omega)]]
     repeat' first|apply W.seq|apply ab|apply W.region|apply WO.nil|apply W.ret|apply W.skip|apply ba|(apply W.ax;rfl)|(apply W.aw;rfl)|(apply WO.lss;rfl;rfl)|(apply WO.neq;rfl;rfl)|(apply WO.pl;rfl;rfl)|(apply WO.pp;rfl;rfl)|(intro _;omega)|intro _
     all_goals first|contradiction|(omega)|skip
     all_goals exact⟨.inr rfl,rfl,_,rfl,rfl,rfl⟩
theorem aal (a:List Int)(oa:okW dB a)(la:a.length<10000000)(d:Int)(hd:0<d/\d<=1000000000){Q:Ex->aq->Prop}(a2 a3:AV)
 (hQ:∀L (re:Int) a7 lo wr,L.length=a.length->okW dB L->(0<=re/\re<d)->WV dB a=d*WV dB L+re ->
   Q (.exit 0) ⟨⟨[.vs (au a) a.length c1,.iV d,a2,a3,.sl 0 0 a.length 1 (some a.length),.iV re,.iV (-1),a7],lo,[some (.cells (au L) 3)],[]⟩,wr⟩) (a7:AV) (lo:List (Nat×AV)) :
 W M (.loop xA) ⟨⟨[.vs (au a) a.length c1,.iV d,a2,a3,.sl 0 0 a.length 1 (some a.length),.iV 0,.iV ((a.length:Int)-1),a7],lo,[some (.cells (au (List.replicate a.length 0)) 3)],[]⟩,[]⟩ Q:=by
 refine W.ij (fun t s=>∃L re iv a7 lo wr,s=⟨⟨[.vs (au a) a.length c1,.iV d,a2,a3,.sl 0 0 a.length 1 (some a.length),.iV re,.iV iv,a7],lo,[some (.cells (au L) 3)],[]⟩,wr⟩ /\
  iv=(t:Int)-1/\t<=a.length/\L.length=a.length/\okW dB L/\(0<=re/\re<d)/\(∀k,k<t->L[k]! = 0)/\WV dB a=d*WV dB L+dB^t*re+WV dB (a.take t)) (fun t s ⟨L,re,iv,a7,lo,wr,hs,hiv,ht,hL,oL,hre,hz,hv⟩=>?_) (m:=a.length)
  ⟨_,_,_,_,_,_,rfl,rfl,Nat.le_refl _,by simp,jN (by decide),⟨by decide,hd.1⟩,fun k _=>jQ,by rw[jO,List.take_length];simp⟩
 subst hs
 cases t with
 | zero=>
  obtain rfl:iv = -1:=by omega
  unfold xA
  repeat' first|apply W.seq|apply ab|apply W.region|apply WO.nil|apply W.exit|apply cj|apply eA|(apply W.aw;rfl)|(apply WO.geq;rfl;rfl)|(apply WO.pl;rfl;rfl)|(intro _;omega)|intro _
  all_goals try omega
  exact hQ L re _ _ _ hL oL hre (by rw[hv];simp[WV])
 | succ i=>
  obtain rfl:iv=(i:Int):=by omega
  have gx:=bZ oa (i:=i) (by omega)
  obtain⟨x,hx⟩:∃x,x=a[((i:Int)).toNat]! := ⟨_,rfl⟩
  rw[show a[i]! = x from hx.symm]at gx
  have gx:0<=x/\x<1000000000:=gx
  have e1:=Int.mul_ediv_add_emod (re*1000000000+x) d
  have r0:=Int.emod_nonneg (re*1000000000+x) (show d≠0 by omega)
  have r1:=Int.emod_lt_of_pos (re*1000000000+x) hd.1
  have d0:0<=(re*1000000000+x)/d:=Int.ediv_nonneg (by omega) (by omega)
  have d1:(re*1000000000+x)/d<1000000000:=Int.ediv_lt_of_lt_mul hd.1 (by omega)
  have eI:0+((i:Int)).toNat*1=i:=by omega
  obtain⟨q,hq⟩:∃q,q=(re*1000000000+x)/d:=⟨_,rfl⟩
  obtain⟨r,hr⟩:∃r,r=(re*1000000000+x)%d:=⟨_,rfl⟩
  have next:∀a7 lo wr,LI (fun s=>∃m',m'<i+1/\∃L re iv a7 lo wr,s=⟨⟨[.vs (au a) a.length c1,.iV d,a2,a3,.sl 0 0 a.length 1 (some a.length),.iV re,.iV iv,a7],lo,[some (.cells (au L) 3)],[]⟩,wr⟩ /\
   iv=(m':Int)-1/\m'<=a.length/\L.length=a.length/\okW dB L/\(0<=re/\re<d)/\(∀k,k<m'->L[k]! = 0)/\WV dB a=d*WV dB L+dB^m'*re+WV dB (a.take m')) Q .normal ⟨⟨[.vs (au a) a.length c1,.iV d,a2,a3,.sl 0 0 a.length 1 (some a.length),.iV r,.iV ((i:Int)-1),a7],lo,[some (.cells (au (L.set i q)) 3)],[]⟩,wr⟩:=fun a7 lo wr=>
   ek ⟨i,Nat.lt_succ_self i,_,_,_,a7,lo,wr,rfl,rfl,by omega,by rw[List.length_set];exact hL,fL oL ⟨by rw[hq];exact d0,by rw[hq];exact d1⟩,by rw[hr];exact⟨r0,r1⟩,fun k hk=>by rw[gm (by omega)];exact hz k (by omega),by
    rw[hv,fM (by omega),hz i (by omega),fh (by omega),show a[i]! = x from hx.symm,Int.pow_succ,Int.sub_zero]
    rw[←hq,←hr]at e1
    have e2:dB^i*dB*re+dB^i*x=dB^i*(d*q+r):=by rw[e1];show dB^i*1000000000*re+_=_;grind
    rw[Int.mul_add]at e2 ⊢
    have e3:d*(dB^i*q)=dB^i*(d*q):=by grind
    rw[e3]
    omega⟩
  rw[hq,hr,hx]at next
  rw[hx]at gx
  have hre2:re<1000000000:=by omega
  unfold xA
  repeat' first|(apply WO.qi;exact congrArg (fun z=>some (AV.ptr 0 z)) eI;rfl;rfl;omega)|apply W.seq|apply ab|apply W.region|apply WO.nil|apply W.block|apply W.skip|apply bK|(apply W.ax;rfl)|(apply WO.geq;rfl;rfl)|(apply WO.add;rfl;rfl;omega)|(apply WO.sub;rfl;rfl;omega)|(apply WO.mul;rfl;rfl;omega)|(apply WO.OM;rfl;rfl;omega;intro _ _)|(apply WO.OL;rfl;rfl;omega;omega;intro _ _)|(apply WO.cM;rfl;rfl;omega)|(apply WO.bY;rfl;rfl;omega)|(apply WO.dV;rfl;exact fun _=>rfl;(first|omega|(simp only[List.length_set];omega)|(simp;omega));decide;rfl;case ia=>infer_instance)|(apply WO.pl;rfl;rfl)|(apply WO.pp;rfl;rfl)|(intro _;omega)|intro _
  all_goals try omega
  all_goals exact next _ _ _
end Go.Ab.Ch1

/-
  Own work: the reference's integers: divisions by one digit, products.
-/
namespace Go.Ab.Ch1
open Go.Ab.bz
variable {M:aO} {cap c1 c2:Option Nat}
section
variable {t b m:Nat} {x y:aN} {l:List aU} {pe:List AV} {lo:List (Nat×AV)} {hp:ae} {df wr:List Nat} {L:List Int} {e:TypeId} {v a d:Int} {Q:aq->Prop}
theorem WO.sZ (hx:(St.mk pe lo hp df).aa x=some (.iV a))(hy:(St.mk pe lo hp df).aa y=some (.iV d))(ha:0<=a/\a<9223372036854775808)(hd:0<d)
 (h:WO M l ⟨⟨pe,(t,.iV (a/d))::lo,hp,df⟩,wr⟩ Q):WO M (⟨.l t,.bin .quo x y,none⟩::l) ⟨⟨pe,lo,hp,df⟩,wr⟩ Q:=by
 refine WO.quo hx hy hd (by omega) ?_
 rw[Int.tdiv_eq_ediv_of_nonneg ha.1]
 exact h
theorem WO.xC (hx:(St.mk pe lo hp df).aa x=some (.iV a))(hy:(St.mk pe lo hp df).aa y=some (.iV d))(ha:0<=a)(hd:0<d)
 (h:WO M l ⟨⟨pe,(t,.iV (a%d))::lo,hp,df⟩,wr⟩ Q):WO M (⟨.l t,.bin .rem x y,none⟩::l) ⟨⟨pe,lo,hp,df⟩,wr⟩ Q:=by
 refine WO.rem hx hy (by omega) ?_
 rw[Int.tmod_eq_emod_of_nonneg ha]
 exact h
theorem WO.Di (hx:(St.mk pe lo hp df).aa x=some (.ptr b m))(hb:hp.at b=some (.cells (au L) e))(hi:m<L.length)(hv:L[m]! = v)
 (h:WO M l ⟨⟨pe,(t,.iV v)::lo,hp,df⟩,wr⟩ Q):WO M (⟨.l t,.load 1 false x,none⟩::l) ⟨⟨pe,lo,hp,df⟩,wr⟩ Q:=by
 subst hv
 exact WO.xB hx hb hi h
end
def jZ (v:AV)(hh:ae)(r:List Int)(z:Int):Prop:=∃v1,iG hh v v1/\v1.top=0/\bW v1 = .ao [.vs (au r) r.length none,.iV z]
theorem jZ.trim {b:Nat}{L:List Int}{e:TypeId}{hp:ae}{n:Nat}{z:Int}(hb:hp.at b=some (.cells (au L) e))(hn:n<=L.length):jZ (bg [bB b (aQ (L.take n)) cap,.iV z]) (if (bg [bB b (aQ (L.take n)) cap,.iV z]).top<=0 then [] else hp) (L.take (aQ (L.take n))) z:=by
 have hle:=ik (l:=L.take n)
 rw[List.length_take]at hle
 obtain⟨k,hk⟩:∃k,k=aQ (L.take n):=⟨_,rfl⟩
 rw[←hk]at hle ⊢
 by_cases h0:0<k
 . have e1:bB b k cap = .sl b 0 k 1 cap:=if_pos h0
   rw[e1,if_neg (by simp[bg,AV.top,br])]
   have hl:(L.take k).length=k:=by rw[List.length_take];omega
   have hF:Fr hp [b] (.sl b 0 k 1 cap) (.vs (au (L.take k)) k none):=by
    refine .sl (m:=au (L.take k)) (List.mem_singleton.2 rfl) hb ?_ rfl (fun i x y hx hy=>?_) (.inr rfl)
    . have:=kp (f:=iC) (esz:=1) (fun _=>rfl) (l:=L) (i:=0) (n:=k) (by omega)
      simpa using this
    . rw[hx]at hy;cases hy
      exact .same (cA (fW _) hx)
   unfold jZ
   rw[hl]
   refine⟨.ao [.vs (au (L.take k)) k none,.iV z],⟨[b],.ao rfl (fun i x y hx hy=>?_),rfl,fun c l' e' hc hl'=>?_⟩,by simp[AV.top,br,fW],by simp only[bW,dF,Lj]⟩
   . match i with
     | 0=>cases hx;cases hy;exact hF
     | 1=>cases hx;cases hy;exact .same rfl
     | i+2=>cases hx
   . rw[List.mem_singleton.1 hc,hb]at hl'
     cases hl'
     exact rl (fun _=>rfl) _
 . obtain rfl:k=0:=by omega
   exact⟨.ao [.vs [] 0 cap,.iV z],.same rfl rfl,rfl,rfl⟩
theorem jZ.zero {b:Nat}{e:TypeId}{hp:ae}{z:Int}(hb:hp.at b=some (.cells (au []) e)):jZ (bg [.sl b 0 0 1 cap,.iV z]) (if (bg [.sl b 0 0 1 cap,.iV z]).top<=0 then [] else hp) [] z:=by
 rw[if_neg (by simp[bg,AV.top,br])]
 refine⟨.ao [.vs [] 0 none,.iV z],⟨[b],.ao rfl (fun i x y hx hy=>?_),rfl,fun c l' e' hc hl'=>?_⟩,rfl,rfl⟩
 . match i with
   | 0=>cases hx;cases hy;exact .sl (m:=[]) (List.mem_singleton.2 rfl) hb rfl rfl (fun i x y hx=>by simp at hx) (.inr rfl)
   | 1=>cases hx;cases hy;exact .same rfl
   | i+2=>cases hx
 . rw[List.mem_singleton.1 hc,hb]at hl'
   cases hl'
   rfl
theorem aam (hft:M.FT=FT){b:Nat}{L:List Int}{e:TypeId}{hp:ae}(hb:hp.at b=some (.cells (au L) e)):aZ M 242 [.sl b 0 0 1 cap] hp ⟨.sl b 0 0 1 cap,hp,[]⟩:=by
 have hbl:=fa hb
 refine pc (by rw[hft];exact KZ) (by simp) (by simp[AV.top];omega) ?_
 unfold CY
 simp only[enter]
 repeat' first|apply W.seq|apply ab|apply W.region|apply WO.nil|apply W.block|(apply WO.pp;rfl;rfl)
 refine W.loop ?_
 unfold qf
 repeat' first|apply W.seq|apply ab|apply W.region|apply WO.nil|apply W.ret|apply W.exit|apply cj|apply cg|apply dK|(apply W.aw;rfl)|(apply WO.sT;rfl)|(apply WO.gtr;rfl;rfl)|(apply WO.bx;rfl;rfl)|(apply WO.pl;rfl;rfl)|(apply WO.pp;rfl;rfl)|(intro _;omega)|intro _
 all_goals try omega
 exact⟨.inr rfl,rfl,⟨[],by simp⟩,by simp,_,rfl,rfl⟩
def Lt (M:aO)(g:Nat)(ars:List AV)(x y:Int):Prop:=∃q:List Int,(okW dB q/\aR q/\WV dB q=x/y)/\∃v hh,jZ v hh q (x%y)/\aZ M g ars [] ⟨v,hh,[]⟩
theorem aan {f N:Nat}{aP:List Nat}{res:List eK}{body:ak}{ars:List AV}{x y:Int}(hft:M.FT f=some ⟨N,aP,res,body⟩)(hN:ars.length<=N)
 (h:W M body ⟨⟨aP.map (fun t=>(ars[t]?).getD cF),[],[],[]⟩,[]⟩ fun e s=>(e = .normal\/e = .ret)/\s.s.bU=[]/\∃vs,dm s.s res=some vs/\∃q:List Int,(okW dB q/\aR q/\WV dB q=x/y)/\jZ (bg vs) (if (bg vs).top<=0 then [] else s.s.hp) q (x%y)):Lt M f ars x y:=by
 obtain⟨v,hh,⟨q,hq,ho⟩,h2⟩:=iF (P:=fun v hh=>∃q:List Int,(okW dB q/\aR q/\WV dB q=x/y)/\jZ v hh q (x%y)) hft hN h
 exact⟨q,hq,v,hh,ho,h2⟩
theorem aao (hft:M.FT=FT)(gO:∀ars h,M.ext 242 ars h=none)(a:List Int)(oa:okW dB a)(la:a.length<10000000)(d:Int)(hd:0<d/\d<=1000000000):Lt M 241 [.vs (au a) a.length c1,.iV d] (WV dB a) d:=by
 refine aan (by rw[hft];exact ZO) (by simp) ?_
 unfold Ld
 simp only[enter]
 repeat' first|apply W.seq|apply ab|apply W.region|apply WO.nil|apply W.block|(apply WO.sub;rfl;rfl;omega)|(apply WO.jq;rfl;rfl;omega)|(apply WO.pl;rfl;rfl)|(apply WO.pp;rfl;rfl)
 rw[show ((a.length:Int)).toNat=a.length from rfl]
 refine aal a oa la d hd _ _ (fun L re a7 lo wr hL oL hre hv=>?_) _ _
 obtain⟨d1,d2⟩:=lW hv hre.1 hre.2
 obtain⟨g1,g2,g3⟩:=sW oL
 by_cases h0:a.length=0
 . have hL0:L=[]:=List.eq_nil_of_length_eq_zero (by omega)
   subst hL0
   have hl0:a.length=0:=h0
   have q0:CT M (ir 242) [.sl 0 0 a.length 1 (some a.length)] [some (.cells (au []) 3)] ⟨.sl 0 0 a.length 1 (some a.length),[some (.cells (au []) 3)],[]⟩:=by
    rw[hl0];exact CT.run (fi:=[]) (ca:=[]) (gO _ _) (aam hft rfl)
   repeat' first|apply W.seq|apply ab|apply W.region|apply WO.nil|apply W.ret|apply cg|(apply WO.ct;rfl;rfl;first|exact q0)|(apply WO.pl;rfl;rfl)|(apply WO.pp;rfl;rfl)
   have hout:=jZ.zero (cap:=some a.length) (e:=3) (hp:=[some (.cells (au []) 3)]) (b:=0) (z:=re) rfl
   refine⟨.inr rfl,rfl,_,rfl,[],⟨nk,pw,d1⟩,?_⟩
   rw[←d2,hl0]
   rw[hl0]at hout
   exact hout
 . have q1:CT M (ir 242) [.sl 0 0 a.length 1 (some a.length)] [some (.cells (au L) 3)] ⟨bB 0 (aQ (L.take a.length)) (some a.length),[some (.cells (au L) 3)],[]⟩:=qk (cap:=some a.length) hft gO rfl (by omega) (by omega) (by omega) (fun c hc=>by cases hc;exact Nat.le_refl _)
   repeat' first|apply W.seq|apply ab|apply W.region|apply WO.nil|apply W.ret|apply cg|(apply WO.ct;rfl;rfl;first|exact q1)|(apply WO.pl;rfl;rfl)|(apply WO.pp;rfl;rfl)
   have hout:=jZ.trim (cap:=some a.length) (b:=0) (L:=L) (e:=3) (hp:=[some (.cells (au L) 3)]) (n:=a.length) (z:=re) rfl (by omega)
   refine⟨.inr rfl,rfl,_,rfl,L.take (aQ (L.take a.length)),?_,?_⟩
   . rw[List.take_of_length_le (show L.length<=a.length by omega)]
     exact⟨g1,g2,by rw[g3,d1]⟩
   . rw[←d2]
     exact hout
end Go.Ab.Ch1

/-
  Own work: the reference's integers: products.
-/
namespace Go.Ab.Ch1
open Go.Ab.bz
variable {M:aO} {cap c1 c2:Option Nat}
theorem Lu {x y:Int}(hx:0<=x/\x<1000000000)(hy:0<=y/\y<1000000000):0<=x*y/\x*y<=999999998000000001:=by
 refine⟨Int.mul_nonneg hx.1 hy.1,?_⟩
 have:=Int.mul_le_mul (a:=x) (b:=y) (c:=999999999) (d:=999999999) (by omega) (by omega) hy.1 (by omega)
 omega
theorem aap (a b:List Int)(hb:okW dB b)(la:a.length<10000000)(lb:b.length<10000000)(i:Nat)(hi:i<a.length)(x P:Int)(hx:0<=x/\x<1000000000)(hax:a[((i:Int)).toNat]! = x){Q:Ex->aq->Prop}(a2 a7:AV)(lo:List (Nat×AV))(wr:List Nat)(L:List Int)(hl:L.length=a.length+b.length)(bE:okW dB L)(hz:∀k,i+b.length<=k->L[k]! = 0)(hP:WV dB L=P)
 (hQ:∀L (c:Int) a7 lo wr,L.length=a.length+b.length->okW dB L->(0<=c/\c<1000000000)->(∀k,i+b.length<=k->L[k]! = 0)->WV dB L+dB^(i+b.length)*c=P+dB^i*x*WV dB b ->
   Q (.exit 2) ⟨⟨[.vs (au a) a.length c1,.vs (au b) b.length c2,a2,.sl 0 0 (a.length+b.length) 1 (some (a.length+b.length)),.iV i,.iV c,.iV b.length,a7],lo,[some (.cells (au L) 3)],[]⟩,wr⟩) :
 W M (.loop xz) ⟨⟨[.vs (au a) a.length c1,.vs (au b) b.length c2,a2,.sl 0 0 (a.length+b.length) 1 (some (a.length+b.length)),.iV i,.iV 0,.iV 0,a7],lo,[some (.cells (au L) 3)],[]⟩,wr⟩ Q:=by
 subst hax
 refine W.iZ b.length (fun j s=>∃L c a7 lo wr,s=⟨⟨[.vs (au a) a.length c1,.vs (au b) b.length c2,a2,.sl 0 0 (a.length+b.length) 1 (some (a.length+b.length)),.iV i,.iV c,.iV j,a7],lo,[some (.cells (au L) 3)],[]⟩,wr⟩ /\
  L.length=a.length+b.length/\okW dB L/\(0<=c/\c<1000000000)/\(∀k,i+b.length<=k->L[k]! = 0)/\WV dB L+dB^(i+j)*c=P+dB^i*a[((i:Int)).toNat]! * WV dB (b.take j)) (fun j s hj ⟨L,c,a7,lo,wr,hs,hl,bE,hc,hz,hv⟩=>?_) (fun s ⟨L,c,a7,lo,wr,hs,hl,bE,hc,hz,hv⟩=>?_) (Nat.zero_le _)
  ⟨_,_,_,_,_,rfl,hl,bE,⟨by decide,by decide⟩,hz,by rw[hP];simp[WV]⟩
 . subst hs
   have gy:=bZ hb hj
   rw[show b[j]! = b[((j:Int)).toNat]! from rfl]at gy
   obtain⟨y,hy⟩:∃y,y=b[((j:Int)).toNat]! := ⟨_,rfl⟩
   rw[←hy]at gy
   have gy:0<=y/\y<1000000000:=gy
   have hm:=Lu hx gy
   obtain⟨m,hmm⟩:∃m,m=a[((i:Int)).toNat]! * y:=⟨_,rfl⟩
   rw[←hmm]at hm
   have gL:=bZ bE (i:=i+j) (by omega)
   obtain⟨w,hw⟩:∃w,w=L[i+j]! := ⟨_,rfl⟩
   rw[←hw]at gL
   have gL:0<=w/\w<1000000000:=gL
   obtain⟨R,hR⟩:∃R,R=(w+m+c)%1000000000:=⟨_,rfl⟩
   obtain⟨D,hD⟩:∃D,D=(w+m+c)/1000000000:=⟨_,rfl⟩
   have hD2:(0<=D/\D<1000000000)/\w+m+c=R+1000000000*D/\(0<=R/\R<1000000000):=by omega
   have eI:0+(((i:Int)+(j:Int))).toNat*1=i+j:=by omega
   have next:∀a7 lo wr,LI (fun s=>∃L c a7 lo wr,s=⟨⟨[.vs (au a) a.length c1,.vs (au b) b.length c2,a2,.sl 0 0 (a.length+b.length) 1 (some (a.length+b.length)),.iV i,.iV c,.iV ((j+1:Nat):Int),a7],lo,[some (.cells (au L) 3)],[]⟩,wr⟩ /\
    L.length=a.length+b.length/\okW dB L/\(0<=c/\c<1000000000)/\(∀k,i+b.length<=k->L[k]! = 0)/\WV dB L+dB^(i+(j+1))*c=P+dB^i*a[((i:Int)).toNat]! * WV dB (b.take (j+1))) Q .normal ⟨⟨[.vs (au a) a.length c1,.vs (au b) b.length c2,a2,.sl 0 0 (a.length+b.length) 1 (some (a.length+b.length)),.iV i,.iV D,.iV ((j:Int)+1),a7],lo,[some (.cells (au (L.set (i+j) R)) 3)],[]⟩,wr⟩:=fun a7 lo wr=>
    ek ⟨_,_,a7,lo,wr,rfl,by rw[List.length_set];exact hl,fL bE hD2.2.2,hD2.1,fun k hk=>by rw[gm (by omega)];exact hz k hk,by
     rw[fM (by omega),←hw,fh hj,show i+(j+1)=(i+j)+1 from rfl,Int.pow_succ,show b[j]! = y from hy.symm]
     have e:=hD2.2.1
     rw[hmm]at e
     have e2:dB^(i+j)*(R-w)+dB^(i+j)*1000000000*D=dB^(i+j)*(a[((i:Int)).toNat]! * y+c):=by
      have:a[((i:Int)).toNat]! * y+c=R-w+1000000000*D:=by omega
      rw[this,Int.mul_add,Int.mul_assoc]
     have e3:dB^(i+j)=dB^i*dB^j:=Int.pow_add _ _ _
     show WV dB L+dB^(i+j)*(R-w)+dB^(i+j)*1000000000*D=P+dB^i*a[((i:Int)).toNat]! * (WV dB (b.take j)+dB^j*y)
     generalize a[((i:Int)).toNat]! = x at *
     rw[Int.add_assoc,e2,Int.mul_add,←Int.add_assoc,Int.add_right_comm,hv]
     rw[e3]
     grind⟩
   rw[hD,hR,hmm]at next
   rw[hmm]at hm
   rw[hy]at next hm gy
   unfold xz
   repeat' first|(apply WO.Di (v:=w);exact congrArg (fun z=>some (AV.ptr 0 z)) eI;rfl;omega;exact hw.symm)|(apply WO.qi;exact congrArg (fun z=>some (AV.ptr 0 z)) eI;rfl;rfl;omega)|(apply WO.sZ;rfl;rfl;omega;omega)|(apply WO.xC;rfl;rfl;omega;omega)|apply W.seq|apply ab|apply W.region|apply WO.nil|apply W.block|apply W.skip|apply bK|(apply W.fH;rfl)|(apply W.ax;rfl)|(apply WO.lss;rfl;rfl)|(apply WO.add;rfl;rfl;omega)|(apply WO.mul;rfl;rfl;omega)|(apply WO.cM;rfl;rfl;omega)|(apply WO.bY;rfl;rfl;omega)|(apply WO.dV;rfl;exact fun _=>rfl;(first|omega|(simp only[List.length_set];omega)|(simp;omega));decide;rfl;case ia=>infer_instance)|(apply WO.pl;rfl;rfl)|(apply WO.pp;rfl;rfl)|(intro _;omega)|intro _
   all_goals try omega
   all_goals exact next _ _ _
 . subst hs
   rw[List.take_length]at hv
   unfold xz
   repeat' first|apply W.seq|apply ab|apply W.region|apply WO.nil|apply W.exit|apply cj|apply eA|(apply W.aw;rfl)|(apply WO.lss;rfl;rfl)|(apply WO.pl;rfl;rfl)|(intro _;omega)|intro _
   all_goals try omega
   exact hQ L c _ _ _ hl bE hc hz hv
theorem aaq (hft:M.FT=FT)(gO:∀ars h,M.ext 242 ars h=none)(a b:List Int)(ha:okW dB a)(hb:okW dB b)(la:a.length<10000000)(lb:b.length<10000000)(h0:0<a.length+b.length):Lk M 197 [.vs (au a) a.length c1,.vs (au b) b.length c2] (WV dB a*WV dB b):=by
 refine aaa (by rw[hft];exact ZN) (by simp) ?_
 unfold Lc
 simp only[enter]
 repeat' first|apply W.seq|apply ab|apply W.region|apply WO.nil|apply W.block|(apply WO.add;rfl;rfl;omega)|(apply WO.jq;rfl;rfl;omega)|(apply WO.pl;rfl;rfl)|(apply WO.pp;rfl;rfl)
 have e0:((a.length:Int)+(b.length:Int)).toNat=a.length+b.length:=by omega
 rw[e0]
 refine W.iZ a.length (fun i s=>∃L a5 a6 a7 lo wr,s=⟨⟨[.vs (au a) a.length c1,.vs (au b) b.length c2,.ah,.sl 0 0 (a.length+b.length) 1 (some (a.length+b.length)),.iV i,a5,a6,a7],lo,[some (.cells (au L) 3)],[]⟩,wr⟩ /\
  L.length=a.length+b.length/\okW dB L/\(∀k,i+b.length<=k->L[k]! = 0)/\WV dB L=WV dB (a.take i)*WV dB b) (fun i s hi ⟨L,a5,a6,a7,lo,wr,hs,hl,bE,hz,hv⟩=>?_) (fun s ⟨L,a5,a6,a7,lo,wr,hs,hl,bE,hz,hv⟩=>?_) (Nat.zero_le _)
  ⟨List.replicate (a.length+b.length) 0,_,_,_,_,_,rfl,by simp,jN (by decide),fun k _=>jQ,by rw[jO];simp[WV]⟩
 . subst hs
   have gx:=bZ ha hi
   rw[show a[i]! = a[((i:Int)).toNat]! from rfl]at gx
   have eI:0+(((i:Int)+(b.length:Int))).toNat*1=i+b.length:=by omega
   unfold Db
   repeat' first|apply W.seq|apply ab|apply W.region|apply WO.nil|apply W.block|apply W.skip|(apply W.ax;rfl)|(apply WO.lss;rfl;rfl)|(apply WO.pl;rfl;rfl)|(apply WO.pp;rfl;rfl)|(intro _;omega)|intro _
   refine aap (c1:=c1) (c2:=c2) a b hb la lb i hi a[((i:Int)).toNat]! _ gx rfl _ _ _ _ L hl bE hz hv (fun L2 c a7 lo wr h1 h2 h3 h4 h5=>?_)
   have h4':=h4 _ (Nat.le_refl _)
   have g0:=bZ h2 (i:=i+b.length) (by omega)
   repeat' first|(apply WO.Di (v:=0);exact congrArg (fun z=>some (AV.ptr 0 z)) eI;rfl;omega;exact h4')|(apply WO.qi;exact congrArg (fun z=>some (AV.ptr 0 z)) eI;rfl;rfl;omega)|apply ab|apply W.region|apply WO.nil|apply bK|apply cg|(apply WO.add;rfl;rfl;omega)|(apply WO.bY;rfl;rfl;omega)|(apply WO.pl;rfl;rfl)|(apply WO.pp;rfl;rfl)
   all_goals try omega
   refine ek ⟨L2.set (i+b.length) (0+c),_,_,_,_,_,rfl,by rw[List.length_set];exact h1,fL h2 (by rw[Int.zero_add];exact h3),fun k hk=>by rw[gm (by omega)];exact h4 k (by omega),?_⟩
   rw[fM (by omega),h4',Int.sub_zero,Int.zero_add,h5,fh hi]
   show _=(WV dB (a.take i)+dB^i*a[i]!)*WV dB b
   rw[Int.add_mul]
   rfl
 . subst hs
   rw[List.take_length]at hv
   have q:=qk (cap:=some (a.length+b.length)) (b:=0) (n:=a.length+b.length) (L:=L) (e:=3) (hp:=[some (.cells (au L) 3)]) hft gO rfl (by omega) (by omega) (by omega) (fun c hc=>by cases hc;exact Nat.le_refl _)
   rw[List.take_of_length_le (by omega)]at q
   unfold Db
   repeat' first|apply W.seq|apply ab|apply W.region|apply WO.nil|apply W.ret|apply W.exit|apply cj|apply cg|apply eA|(apply W.aw;rfl)|(apply WO.lss;rfl;rfl)|(apply WO.ct;rfl;rfl;first|exact q)|(apply WO.pl;rfl;rfl)|(apply WO.pp;rfl;rfl)|(intro _;omega)|intro _
   all_goals try omega
   refine⟨.inr rfl,rfl,_,rfl,L.take (aQ L),?_,?_⟩
   . obtain⟨g1,g2,g3⟩:=sW bE
     exact⟨g1,g2,by rw[g3,hv]⟩
   . have:=nX.trim (cap:=some (a.length+b.length)) (b:=0) (L:=L) (e:=3) (hp:=[some (.cells (au L) 3)]) (n:=a.length+b.length) rfl (by omega)
     rw[List.take_of_length_le (by omega)]at this
     exact this
end Go.Ab.Ch1

/-
  Own work: Knuth's division to the base 10^9: the guess of a digit is at most one too great.
-/
namespace Go.Ab.bz
structure gP (t2 t1 t0 v1 v0 T V p:Int):Prop where
 h2:0<=t2
 h1:0<=t1/\t1<1000000000
 h0:0<=t0/\t0<1000000000
 w1:500000000<=v1/\v1<1000000000
 w0:0<=v0/\v0<1000000000
 hp:1<=p
 lo:((t2*1000000000+t1)*1000000000+t0)*p<=T
 hi:T<((t2*1000000000+t1)*1000000000+t0+1)*p
 pD:(v1*1000000000+v0)*p<=V
 rI:V<(v1*1000000000+v0+1)*p
 hT:T<1000000000*V
structure ib (t2 t1 v1 T V q r:Int):Prop where
 q0:0<=q/\q<=1000000001
 r0:0<=r
 e:q*v1+r=t2*1000000000+t1
 ge:T<(q+1)*V
variable {t2 t1 t0 v1 v0 T V p q r:Int}
theorem gP.top (C:gP t2 t1 t0 v1 v0 T V p):t2<=v1:=by
 have h1:=C.h1;have h0:=C.h0;have w0:=C.w0
 have a1:((t2*1000000000+t1)*1000000000+t0)*p<(1000000000*(v1*1000000000+v0+1))*p:=by
  have:=C.lo;have:=C.hT;have:=C.rI
  rw[Int.mul_assoc 1000000000]
  omega
 have a2:=Int.lt_of_mul_lt_mul_right a1 (by have:=C.hp;omega)
 omega
theorem gP.geq (C:gP t2 t1 t0 v1 v0 T V p)(h0:0<=q)(h:(t2*1000000000+t1)*1000000000+t0+1<=q*(v1*1000000000+v0)):T<q*V:=by
 have hp:=C.hp
 have a1:=Int.mul_le_mul_of_nonneg_right h (show 0<=p by omega)
 have a2:=Int.mul_le_mul_of_nonneg_left C.pD h0
 rw[←Int.mul_assoc]at a2
 have:=C.hi
 omega
theorem ib.qD (I:ib t2 t1 v1 T V q r):q*(v1*1000000000+v0)=(t2*1000000000+t1-r)*1000000000+q*v0:=by
 have e:=I.e
 have:t2*1000000000+t1-r=q*v1:=by omega
 rw[this,Int.mul_add,Int.mul_assoc]
theorem ib.init (C:gP t2 t1 t0 v1 v0 T V p):ib t2 t1 v1 T V ((t2*1000000000+t1)/v1) ((t2*1000000000+t1)%v1):=by
 have h2:=C.h2;have h1:=C.h1;have w1:=C.w1;have h0:=C.h0;have w0:=C.w0;have ht:=C.top
 have q0:0<=(t2*1000000000+t1)/v1:=Int.ediv_nonneg (by omega) (by omega)
 have q1:(t2*1000000000+t1)/v1<1000000002:=Int.ediv_lt_of_lt_mul (by omega) (by omega)
 have e:=Int.mul_ediv_add_emod (t2*1000000000+t1) v1
 have r0:=Int.emod_nonneg (t2*1000000000+t1) (show v1≠0 by omega)
 have r1:=Int.emod_lt_of_pos (t2*1000000000+t1) (show 0<v1 by omega)
 rw[Int.mul_comm]at e
 refine⟨⟨q0,by omega⟩,r0,e,C.geq (by omega) ?_⟩
 generalize (t2*1000000000+t1)/v1=q at *
 generalize (t2*1000000000+t1)%v1=r at *
 have a1:(q+1)*(v1*1000000000+v0)=(q*v1+v1)*1000000000+(q+1)*v0:=by grind
 have a2:0<=(q+1)*v0:=Int.mul_nonneg (by omega) w0.1
 rw[a1]
 generalize q*v1=z at *
 generalize (q+1)*v0=y at *
 omega
theorem gP.V0 (C:gP t2 t1 t0 v1 v0 T V p):0<V:=by
 have:=C.w1;have:=C.w0;have:=C.pD
 have:=Int.mul_pos (show 0<v1*1000000000+v0 by omega) (show 0<p by have:=C.hp;omega)
 omega
theorem ib.dec (C:gP t2 t1 t0 v1 v0 T V p)(I:ib t2 t1 v1 T V q r)(h:1000000000<=q\/r*1000000000+t0<q*v0):ib t2 t1 v1 T V (q-1) (r+v1):=by
 have w1:=C.w1;have q0:=I.q0;have r0:=I.r0;have h0:=C.h0
 have q1:0<q:=by
  rcases Int.lt_or_le 0 q with h'|h'
  . exact h'
  . obtain rfl:q=0:=by omega
    omega
 refine⟨by omega,by omega,by have:=I.e;rw[Int.sub_mul];omega,?_⟩
 rw[Int.sub_add_cancel]
 rcases h with h|h
 . have hT:=C.hT
   have:=Int.mul_le_mul_of_nonneg_right h (Int.le_of_lt C.V0)
   omega
 . refine C.geq (by omega) ?_
   rw[I.qD]
   omega
theorem ib.exit (C:gP t2 t1 t0 v1 v0 T V p)(I:ib t2 t1 v1 T V q r)(hq:q<1000000000)(h:q*v0<=r*1000000000+t0):(q-1)*V<=T:=by
 have w1:=C.w1;have q0:=I.q0;have r0:=I.r0;have w0:=C.w0;have hp:=C.hp
 have a1:q*(v1*1000000000+v0)<=(t2*1000000000+t1)*1000000000+t0:=by rw[I.qD];omega
 have a2:=Int.mul_le_mul_of_nonneg_right a1 (show 0<=p by omega)
 have a3:=Int.mul_le_mul_of_nonneg_left (Int.le_of_lt C.rI) q0.1
 have a4:q*((v1*1000000000+v0+1)*p)=q*(v1*1000000000+v0)*p+q*p:=by grind
 have a5:=Int.mul_le_mul_of_nonneg_right (show q<=1000000000 by omega) (show 0<=p by omega)
 have a6:=Int.mul_le_mul_of_nonneg_right (show 1000000000<=v1*1000000000+v0 by omega) (show 0<=p by omega)
 have a7:=C.pD;have a8:=C.lo
 rw[Int.sub_mul,Int.one_mul]
 omega
theorem ib.lT (C:gP t2 t1 t0 v1 v0 T V p)(I:ib t2 t1 v1 T V q r)(h:1000000000<=r):q<1000000000/\(q-1)*V<=T:=by
 have q0:=I.q0;have w0:=C.w0;have h0:=C.h0;have w1:=C.w1;have h1:=C.h1;have ht:=C.top
 have hq:q<1000000000:=by
  rcases Int.lt_or_le q 1000000000 with h'|h'
  . exact h'
  . have a:=Int.mul_le_mul_of_nonneg_right h' (show 0<=v1 by omega)
    have e:=I.e
    omega
 refine⟨hq,I.exit C hq ?_⟩
 have h3:=Int.mul_le_mul (a:=q) (b:=v0) (c:=999999999) (d:=999999999) (by omega) (by omega) w0.1 (by omega)
 omega
theorem gP.of {X V:List Int}{n:Nat}(hX:X.length=n+3)(hV:V.length=n+2)(oX:okW 1000000000 X)(oV:okW 1000000000 V)(hv:500000000<=V[n+1]!)(hT:WV 1000000000 X<1000000000*WV 1000000000 V) :
 gP X[n+2]! X[n+1]! X[n]! V[n+1]! V[n]! (WV 1000000000 X) (WV 1000000000 V) (1000000000^n):=by
 have x2:=bZ oX (i:=n+2) (by omega);have x1:=bZ oX (i:=n+1) (by omega);have x0:=bZ oX (i:=n) (by omega)
 have v1:=bZ oV (i:=n+1) (by omega);have v0:=bZ oV (i:=n) (by omega)
 have eX:WV 1000000000 X=WV 1000000000 (X.take n)+((X[n+2]! * 1000000000+X[n+1]!)*1000000000+X[n]!)*1000000000^n:=by
  rw[iK (n:=n+2) (by omega),fh (by omega),fh (by omega),Int.pow_succ,Int.pow_succ]
  grind
 have eV:WV 1000000000 V=WV 1000000000 (V.take n)+(V[n+1]! * 1000000000+V[n]!)*1000000000^n:=by
  rw[iK (n:=n+1) (by omega),fh (by omega),Int.pow_succ]
  grind
 have lX:=dN (b:=1000000000) (by decide) (de oX n)
 have lV:=dN (b:=1000000000) (by decide) (de oV n)
 have pX:=cO (b:=1000000000) (by decide) (de oX n)
 have pV:=cO (b:=1000000000) (by decide) (de oV n)
 rw[List.length_take,Nat.min_eq_left (by omega)]at lX lV
 have hp:(0:Int)<1000000000^n:=Int.pow_pos (by decide)
 refine⟨x2.1,x1,x0,⟨hv,v1.2⟩,v0,by omega,by omega,?_,by omega,?_,hT⟩
 . rw[Int.add_mul _ 1,Int.one_mul];omega
 . rw[Int.add_mul _ 1,Int.one_mul];omega
end Go.Ab.bz

/-
  Own work: the reference's integers: the guess of a digit.
-/
namespace Go.Ab.Ch1
open Go.Ab.bz
variable {M:aO} {cap c1 c2:Option Nat}
theorem WO.iR {t m m':Nat}{x:aN}{l:List aU}{pe:List AV}{lo:List (Nat×AV)}{hp:ae}{df wr:List Nat}{L:List Int}{v:Int}{Q:aq->Prop}(hx:(St.mk pe lo hp df).aa x=some (.vp ((au L).drop (m'*1))))(hm:m'=m)(hi:m<L.length)(hv:L[m]! = v)
 (h:WO M l ⟨⟨pe,(t,.iV v)::lo,hp,df⟩,wr⟩ Q):WO M (⟨.l t,.load 1 false x,none⟩::l) ⟨⟨pe,lo,hp,df⟩,wr⟩ Q:=by
 subst hm;subst hv
 exact WO.dV (f:=iC) (esz:=1) (c:=L) (i:=m') hx (fun _=>rfl) hi (by decide) rfl h
variable {k j:Nat} {U V:List Int}
theorem aar (hV:V.length=k+2)(hU:j+k+2<U.length)(lU:U.length<100000000){t2 t1 t0 v1 v0 T D p:Int}(K:gP t2 t1 t0 v1 v0 T D p)(ht0:U[j+k]! = t0)(hv1:V[k+1]! = v1)(hv0:V[k]! = v0){Q:Ex->aq->Prop}(a3 a5:AV)
 (hR:∀(q r:Int) lo wr,(0<=q/\q<1000000000)->T<(q+1)*D->(q-1)*D<=T->Q .ret ⟨⟨[.vs (au U) U.length c1,.vs (au V) V.length c2,.iV j,.iV q,.iV V.length,a5,.iV q,.iV r],lo,[],[]⟩,wr⟩)
 (hQ:∀(q r:Int) lo wr,(0<=q/\q<1000000000)->T<(q+1)*D->(q-1)*D<=T->Q (.exit 0) ⟨⟨[.vs (au U) U.length c1,.vs (au V) V.length c2,.iV j,a3,.iV V.length,a5,.iV q,.iV r],lo,[],[]⟩,wr⟩)
 (q r:Int) (lo:List (Nat×AV)) (wr:List Nat) (I:ib t2 t1 v1 T D q r) (hr:r<1000000000) :
 W M (.loop sV) ⟨⟨[.vs (au U) U.length c1,.vs (au V) V.length c2,.iV j,a3,.iV V.length,a5,.iV q,.iV r],lo,[],[]⟩,wr⟩ Q:=by
 refine W.ij (fun m s=>∃q r lo wr,s=⟨⟨[.vs (au U) U.length c1,.vs (au V) V.length c2,.iV j,a3,.iV V.length,a5,.iV q,.iV r],lo,[],[]⟩,wr⟩/\m=q.toNat/\ib t2 t1 v1 T D q r/\r<1000000000) (fun m s ⟨q,r,lo,wr,hs,hm,I,hr⟩=>?_) (m:=q.toNat) ⟨q,r,lo,wr,rfl,rfl,I,hr⟩
 subst hs
 subst hm
 have q0:=I.q0
 have r0:=I.r0
 have w0:=K.w0
 have w1:=K.w1
 have h0:=K.h0
 have step:(1000000000<=q\/r*1000000000+t0<q*v0)->0<q/\∀lo wr,(r+v1<1000000000->LI (fun s=>∃m',m'<q.toNat/\∃q r lo wr,s=⟨⟨[.vs (au U) U.length c1,.vs (au V) V.length c2,.iV j,a3,.iV V.length,a5,.iV q,.iV r],lo,[],[]⟩,wr⟩/\m'=q.toNat/\ib t2 t1 v1 T D q r/\r<1000000000) Q .normal ⟨⟨[.vs (au U) U.length c1,.vs (au V) V.length c2,.iV j,a3,.iV V.length,a5,.iV (q-1),.iV (r+v1)],lo,[],[]⟩,wr⟩) /\
  (1000000000<=r+v1->Q .ret ⟨⟨[.vs (au U) U.length c1,.vs (au V) V.length c2,.iV j,.iV (q-1),.iV V.length,a5,.iV (q-1),.iV (r+v1)],lo,[],[]⟩,wr⟩):=fun h=>by
  have I2:=I.dec K h
  have i0:=I2.q0
  refine⟨by omega,fun lo wr=>⟨fun h1=>ek ⟨(q-1).toNat,by omega,_,_,_,_,rfl,rfl,I2,h1⟩,fun h1=>?_⟩⟩
  obtain⟨b1,b2⟩:=I2.lT K h1
  exact hR _ _ _ _ ⟨i0.1,b1⟩ I2.ge b2
 obtain⟨m,hm⟩:∃m,m=q*v0:=⟨_,rfl⟩
 have hmb:0<=m/\m<=1000000001000000001:=by
  rw[hm]
  refine⟨Int.mul_nonneg q0.1 w0.1,?_⟩
  have:=Int.mul_le_mul (a:=q) (b:=v0) (c:=1000000001) (d:=1000000000) (by omega) (by omega) w0.1 (by omega)
  omega
 by_cases hB:1000000000<=q
 . obtain⟨hq,st⟩:=step (.inl hB)
   unfold sV
   repeat' first|(apply WO.iR (m:=k+1) (v:=v1);rfl;omega;omega;exact hv1)|apply W.seq|apply ab|apply W.region|apply WO.nil|apply W.block|apply W.ret|apply W.skip|apply bK|apply cN|apply FN|(apply W.fH;rfl)|(apply W.ax;rfl)|(apply W.aw;rfl)|(apply WO.sF;rfl)|(apply WO.geq;rfl;rfl)|(apply WO.bn;rfl;rfl)|(apply WO.add;rfl;rfl;omega)|(apply WO.sub;rfl;rfl;omega)|(apply WO.cM;rfl;rfl;omega)|(apply WO.pl;rfl;rfl)|(apply WO.pp;rfl;rfl)|(intro _;omega)|intro _
   all_goals try omega
   all_goals first|exact(st _ _).1 (by omega)|exact(st _ _).2 (by omega)
 . by_cases ht:r*1000000000+t0<q*v0
   . obtain⟨hq,st⟩:=step (.inr ht)
     rw[←hm]at ht
     rw[hm]at ht hmb
     unfold sV
     repeat' first|(apply WO.iR (L:=V) (m:=k+1) (v:=v1);rfl;omega;omega;exact hv1)|(apply WO.iR (L:=V) (m:=k) (v:=v0);rfl;omega;omega;exact hv0)|(apply WO.iR (L:=U) (m:=j+k) (v:=t0);rfl;omega;omega;exact ht0)|apply W.seq|apply ab|apply W.region|apply WO.nil|apply W.block|apply W.ret|apply W.skip|apply bK|apply cN|apply FN|(apply W.fH;rfl)|(apply W.ax;rfl)|(apply W.aw;rfl)|(apply WO.gF;rfl)|(apply WO.gtr;rfl;rfl)|(apply WO.geq;rfl;rfl)|(apply WO.bx;rfl;rfl)|(apply WO.add;rfl;rfl;omega)|(apply WO.sub;rfl;rfl;omega)|(apply WO.mul;rfl;rfl;omega)|(apply WO.cM;rfl;rfl;omega)|(apply WO.pl;rfl;rfl)|(apply WO.pp;rfl;rfl)|(intro _;omega)|intro _
     all_goals try omega
     all_goals first|exact(st _ _).1 (by omega)|exact(st _ _).2 (by omega)
   . have fin:=I.exit K (by omega) (by omega)
     rw[hm]at hmb
     unfold sV
     repeat' first|(apply WO.iR (L:=V) (m:=k) (v:=v0);rfl;omega;omega;exact hv0)|(apply WO.iR (L:=U) (m:=j+k) (v:=t0);rfl;omega;omega;exact ht0)|apply W.seq|apply ab|apply WO.nil|apply W.exit|apply cj|apply eA|(apply W.fH;rfl)|(apply W.aw;rfl)|(apply WO.gF;rfl)|(apply WO.gtr;rfl;rfl)|(apply WO.geq;rfl;rfl)|(apply WO.bx;rfl;rfl)|(apply WO.add;rfl;rfl;omega)|(apply WO.sub;rfl;rfl;omega)|(apply WO.mul;rfl;rfl;omega)|(apply WO.cM;rfl;rfl;omega)|(apply WO.pl;rfl;rfl)|(intro _;omega)|intro _
     all_goals try omega
     all_goals exact hQ _ _ _ _ ⟨q0.1,by omega⟩ I.ge fin
theorem aas (hft:M.FT=FT)(hV:V.length=k+2)(hU:j+k+2<U.length)(lU:U.length<100000000){t2 t1 t0 v1 v0 T D p:Int}(K:gP t2 t1 t0 v1 v0 T D p)(ht2:U[j+k+2]! = t2)(ht1:U[j+k+1]! = t1)(ht0:U[j+k]! = t0)(hv1:V[k+1]! = v1)(hv0:V[k]! = v0) :
 ∃q:Int,(0<=q/\q<1000000000)/\T<(q+1)*D/\(q-1)*D<=T/\aZ M 243 [.vs (au U) U.length c1,.vs (au V) V.length c2,.iV j] [] ⟨.iV q,[],[]⟩:=by
 have h2:=K.h2;have h1:=K.h1;have w1:=K.w1;have h0:=K.h0;have w0:=K.w0;have htop:=K.top
 have I:=ib.init K
 have r1:=Int.emod_lt_of_pos (t2*1000000000+t1) (show 0<v1 by omega)
 obtain⟨v,hh,⟨q,rfl,rfl,g1,g2,g3⟩,hr⟩:=iF (M:=M) (f:=243) (ars:=[.vs (au U) U.length c1,.vs (au V) V.length c2,.iV j]) (P:=fun v hh=>∃q:Int,v = .iV q/\hh=[]/\(0<=q/\q<1000000000)/\T<(q+1)*D/\(q-1)*D<=T) (by rw[hft];exact ZP) (by simp) (by
  unfold Le
  simp only[enter]
  repeat' first|(apply WO.iR (L:=U) (m:=j+k+2) (v:=t2);rfl;omega;omega;exact ht2)|(apply WO.iR (L:=U) (m:=j+k+1) (v:=t1);rfl;omega;omega;exact ht1)|(apply WO.iR (L:=V) (m:=k+1) (v:=v1);rfl;omega;omega;exact hv1)|(apply WO.sZ;rfl;rfl;omega;omega)|(apply WO.xC;rfl;rfl;omega;omega)|apply W.seq|apply ab|apply W.region|apply WO.nil|apply W.block|(apply W.fH;rfl)|(apply WO.add;rfl;rfl;omega)|(apply WO.sub;rfl;rfl;omega)|(apply WO.mul;rfl;rfl;omega)|(apply WO.cM;rfl;rfl;omega)|(apply WO.pl;rfl;rfl)|(apply WO.pp;rfl;rfl)
  all_goals try omega
  refine aar hV hU lU K ht0 hv1 hv0 _ _ (fun q r lo wr g1 g2 g3=>?_) (fun q r lo wr g1 g2 g3=>?_) _ _ _ _ I (by omega)
  . repeat' first|apply ba|apply cN
    all_goals exact⟨.inr rfl,rfl,_,rfl,q,rfl,rfl,g1,g2,g3⟩
  . repeat' first|apply W.seq|apply ab|apply W.region|apply WO.nil|apply W.ret|apply cg|(apply WO.pl;rfl;rfl)|(apply WO.pp;rfl;rfl)
    all_goals exact⟨.inr rfl,rfl,_,rfl,q,rfl,rfl,g1,g2,g3⟩)
 exact⟨q,g1,g2,g3,hr⟩
end Go.Ab.Ch1

/-
  Own work: the reference's integers: a step of long division: the loops.
-/
namespace Go.Ab.Ch1
open Go.Ab.bz
variable {M:aO} {cap c1 c2 cu:Option Nat}
variable {bu N:Nat} {e:TypeId} {hp:ae} {P S Y V:List Int}
theorem aat (hl:bu<hp.length)(lN:N<100000000)(hN:P.length+V.length<N)(hY:Y.length=V.length)(oY:okW dB Y)(oV:okW dB V)(q:Int)(q0:0<=q/\q<1000000000){Q:Ex->aq->Prop}(a0 a1 a2 a3 a4 a5 a6 aA aF aG aH aI aJ aK:AV)(lo:List (Nat×AV))(wr:List Nat)
 (hQ:∀L (bo:Int) aF aG lo wr,L.length=V.length->okW dB L->(0<=bo/\bo<1000000000)->WV dB L=WV dB Y-q*WV dB V+dB^V.length*bo ->
   Q (.exit 4) ⟨⟨[a0,a1,a2,a3,a4,a5,a6,.vs (au V) V.length c2,.iV V.length,.sl bu 0 N 1 cu,aA,.iV P.length,.iV q,.iV bo,.iV V.length,aF,aG,aH,aI,aJ,aK],lo,cD hp bu e P S L,[]⟩,wr⟩) :
 W M (.loop xu) ⟨⟨[a0,a1,a2,a3,a4,a5,a6,.vs (au V) V.length c2,.iV V.length,.sl bu 0 N 1 cu,aA,.iV P.length,.iV q,.iV 0,.iV 0,aF,aG,aH,aI,aJ,aK],lo,cD hp bu e P S Y,[]⟩,wr⟩ Q:=by
 refine W.iZ V.length (fun i s=>∃L bo aF aG lo wr,s=⟨⟨[a0,a1,a2,a3,a4,a5,a6,.vs (au V) V.length c2,.iV V.length,.sl bu 0 N 1 cu,aA,.iV P.length,.iV q,.iV bo,.iV i,aF,aG,aH,aI,aJ,aK],lo,cD hp bu e P S L,[]⟩,wr⟩ /\
  L.length=V.length/\okW dB L/\(0<=bo/\bo<1000000000)/\WV dB L=WV dB Y-q*WV dB (V.take i)+dB^i*bo) (fun i s hi ⟨L,bo,aF,aG,lo,wr,hs,hL,oL,hbo,hv⟩=>?_) (fun s ⟨L,bo,aF,aG,lo,wr,hs,hL,oL,hbo,hv⟩=>?_) (Nat.zero_le _)
  ⟨_,_,_,_,_,_,rfl,hY,oY,⟨by decide,by decide⟩,by simp[WV]⟩
 . subst hs
   have gy:=bZ oV (i:=i) (by omega)
   obtain⟨y,hy⟩:∃y,y=V[i]! := ⟨_,rfl⟩
   rw[←hy]at gy
   have gy:0<=y/\y<1000000000:=gy
   have gL:=bZ oL (i:=i) (by omega)
   obtain⟨u,hu⟩:∃u,u=L[i]! := ⟨_,rfl⟩
   rw[←hu]at gL
   have gL:0<=u/\u<1000000000:=gL
   have hm:=Lu q0 gy
   obtain⟨m,hmm⟩:∃m,m=q*y:=⟨_,rfl⟩
   rw[←hmm]at hm
   have next:∀(D d:Int) aF aG lo,(0<=D/\D<1000000000)->(0<=d/\d<1000000000)->u-m-bo=d-1000000000*D->LI (fun s=>∃L bo aF aG lo wr,s=⟨⟨[a0,a1,a2,a3,a4,a5,a6,.vs (au V) V.length c2,.iV V.length,.sl bu 0 N 1 cu,aA,.iV P.length,.iV q,.iV bo,.iV ((i+1:Nat):Int),aF,aG,aH,aI,aJ,aK],lo,cD hp bu e P S L,[]⟩,wr⟩ /\
    L.length=V.length/\okW dB L/\(0<=bo/\bo<1000000000)/\WV dB L=WV dB Y-q*WV dB (V.take (i+1))+dB^(i+1)*bo) Q .normal ⟨⟨[a0,a1,a2,a3,a4,a5,a6,.vs (au V) V.length c2,.iV V.length,.sl bu 0 N 1 cu,aA,.iV P.length,.iV q,.iV D,.iV ((i:Int)+1),aF,aG,aH,aI,aJ,aK],lo,cD hp bu e P S (L.set i d),[]⟩,bu::wr⟩:=fun D d aF aG lo hD hd he=>
    ek ⟨_,_,aF,aG,lo,_,rfl,by rw[List.length_set];exact hL,fL oL hd,hD,by
     rw[fM (by omega),←hu,fh (by omega),←hy,hv,Int.pow_succ]
     have e1:d-u=1000000000*D-q*y-bo:=by rw[←hmm];omega
     rw[e1]
     show _+dB^i*(1000000000*D-q*y-bo)=_-_+dB^i*1000000000*D
     grind⟩
   have hV':V[((i:Int)).toNat]! = y:=hy.symm
   rw[hmm]at hm next
   rw[hu]at gL next
   unfold xu
   repeat' first|(apply WO.iR (L:=V) (m:=i) (v:=y);rfl;omega;omega;exact hy.symm)|(apply WO.Dc (i:=i);rfl;exact hl;omega;omega)|(apply WO.Dd (i:=i);rfl;rfl;exact hl;omega;omega)|(apply WO.sZ;rfl;rfl;omega;omega)|(apply WO.xC;rfl;rfl;omega;omega)|apply W.seq|apply ab|apply W.region|apply WO.nil|apply W.block|apply W.skip|apply bK|(apply W.ax;rfl)|(apply W.aw;rfl)|(apply WO.lss;rfl;rfl)|(apply WO.add;rfl;rfl;omega)|(apply WO.sub;rfl;rfl;omega)|(apply WO.mul;rfl;rfl;omega)|(apply WO.cM;rfl;rfl;omega)|(apply WO.bY;rfl;rfl;omega)|(apply WO.pl;rfl;rfl)|(apply WO.pp;rfl;rfl)|(intro _;omega)|intro _
   all_goals try omega
   all_goals exact next _ _ _ _ _ (by omega) (by omega) (by omega)
 . subst hs
   rw[List.take_length]at hv
   unfold xu
   repeat' first|apply W.seq|apply ab|apply W.region|apply WO.nil|apply W.exit|apply cj|apply eA|(apply W.aw;rfl)|(apply WO.lss;rfl;rfl)|(apply WO.pl;rfl;rfl)|(intro _;omega)|intro _
   all_goals try omega
   exact hQ L bo _ _ _ _ hL oL hbo hv
theorem aau (hl:bu<hp.length)(lN:N<100000000)(hN:P.length+V.length<N)(hY:Y.length=V.length)(oY:okW dB Y)(oV:okW dB V){Q:Ex->aq->Prop}(a0 a1 a2 a3 a4 a5 a6 aA aC aD aE aF aG aJ aK:AV)(lo:List (Nat×AV))(wr:List Nat)
 (hQ:∀L (ca:Int) aJ lo wr,L.length=V.length->okW dB L->(0<=ca/\ca<=1)->WV dB L+dB^V.length*ca=WV dB Y+WV dB V ->
   Q (.exit 6) ⟨⟨[a0,a1,a2,a3,a4,a5,a6,.vs (au V) V.length c2,.iV V.length,.sl bu 0 N 1 cu,aA,.iV P.length,aC,aD,aE,aF,aG,.iV ca,.iV V.length,aJ,aK],lo,cD hp bu e P S L,[]⟩,wr⟩) :
 W M (.loop xw) ⟨⟨[a0,a1,a2,a3,a4,a5,a6,.vs (au V) V.length c2,.iV V.length,.sl bu 0 N 1 cu,aA,.iV P.length,aC,aD,aE,aF,aG,.iV 0,.iV 0,aJ,aK],lo,cD hp bu e P S Y,[]⟩,wr⟩ Q:=by
 refine W.iZ V.length (fun i s=>∃L ca aJ lo wr,s=⟨⟨[a0,a1,a2,a3,a4,a5,a6,.vs (au V) V.length c2,.iV V.length,.sl bu 0 N 1 cu,aA,.iV P.length,aC,aD,aE,aF,aG,.iV ca,.iV i,aJ,aK],lo,cD hp bu e P S L,[]⟩,wr⟩ /\
  L.length=V.length/\okW dB L/\(0<=ca/\ca<=1)/\WV dB L+dB^i*ca=WV dB Y+WV dB (V.take i)) (fun i s hi ⟨L,ca,aJ,lo,wr,hs,hL,oL,hca,hv⟩=>?_) (fun s ⟨L,ca,aJ,lo,wr,hs,hL,oL,hca,hv⟩=>?_) (Nat.zero_le _)
  ⟨_,_,_,_,_,rfl,hY,oY,⟨by decide,by decide⟩,by simp[WV]⟩
 . subst hs
   have gy:=bZ oV (i:=i) (by omega)
   obtain⟨y,hy⟩:∃y,y=V[i]! := ⟨_,rfl⟩
   rw[←hy]at gy
   have gy:0<=y/\y<1000000000:=gy
   have gL:=bZ oL (i:=i) (by omega)
   obtain⟨u,hu⟩:∃u,u=L[i]! := ⟨_,rfl⟩
   rw[←hu]at gL
   have gL:0<=u/\u<1000000000:=gL
   have next:∀(D d:Int) aJ lo wr,(0<=D/\D<=1)->(0<=d/\d<1000000000)->u+y+ca=d+1000000000*D->LI (fun s=>∃L ca aJ lo wr,s=⟨⟨[a0,a1,a2,a3,a4,a5,a6,.vs (au V) V.length c2,.iV V.length,.sl bu 0 N 1 cu,aA,.iV P.length,aC,aD,aE,aF,aG,.iV ca,.iV ((i+1:Nat):Int),aJ,aK],lo,cD hp bu e P S L,[]⟩,wr⟩ /\
    L.length=V.length/\okW dB L/\(0<=ca/\ca<=1)/\WV dB L+dB^(i+1)*ca=WV dB Y+WV dB (V.take (i+1))) Q .normal ⟨⟨[a0,a1,a2,a3,a4,a5,a6,.vs (au V) V.length c2,.iV V.length,.sl bu 0 N 1 cu,aA,.iV P.length,aC,aD,aE,aF,aG,.iV D,.iV ((i:Int)+1),aJ,aK],lo,cD hp bu e P S (L.set i d),[]⟩,wr⟩:=fun D d aJ lo wr hD hd he=>
    ek ⟨_,_,aJ,lo,_,rfl,by rw[List.length_set];exact hL,fL oL hd,hD,by
     rw[fM (by omega),←hu,fh (by omega),←hy,Int.pow_succ]
     have e1:d-u=y+ca-1000000000*D:=by omega
     rw[e1]
     show WV dB L+dB^i*(y+ca-1000000000*D)+dB^i*1000000000*D=_
     grind⟩
   rw[hu]at gL next
   unfold xw
   repeat' first|(apply WO.iR (L:=V) (m:=i) (v:=y);rfl;omega;omega;exact hy.symm)|(apply WO.Dc (i:=i);rfl;exact hl;omega;omega)|(apply WO.Dd (i:=i);rfl;rfl;exact hl;omega;omega)|(apply WO.sZ;rfl;rfl;omega;omega)|(apply WO.xC;rfl;rfl;omega;omega)|apply W.seq|apply ab|apply W.region|apply WO.nil|apply W.block|apply W.skip|apply bK|(apply W.fH;rfl)|(apply W.ax;rfl)|(apply WO.lss;rfl;rfl)|(apply WO.add;rfl;rfl;omega)|(apply WO.cM;rfl;rfl;omega)|(apply WO.bY;rfl;rfl;omega)|(apply WO.pl;rfl;rfl)|(apply WO.pp;rfl;rfl)|(intro _;omega)|intro _
   all_goals try omega
   all_goals exact next _ _ _ _ _ (by omega) (by omega) (by omega)
 . subst hs
   rw[List.take_length]at hv
   unfold xw
   repeat' first|apply W.seq|apply ab|apply W.region|apply WO.nil|apply W.exit|apply cj|apply eA|(apply W.aw;rfl)|(apply WO.lss;rfl;rfl)|(apply WO.pl;rfl;rfl)|(intro _;omega)|intro _
   all_goals try omega
   exact hQ L ca _ _ _ hL oL hca hv
end Go.Ab.Ch1

/-
  Own work: the reference's integers: a step of long division, and all of them.
-/
namespace Go.Ab.Ch1
open Go.Ab.bz
variable {M:aO} {cap c1 c2 cu cq:Option Nat}
theorem aav {U V:List Int}{i k:Nat}(hj:i+(k+3)<=U.length)(oU:okW dB U)(hV:V.length=k+2)(oV:okW dB V)(hup:WV dB (U.drop (i+1))<WV dB V) :
 ∃P Y S,U=P++(Y++[U[i+k+2]!])++S/\P.length=i/\Y.length=k+2/\okW dB P/\okW dB Y/\okW dB S/\(0<=U[i+k+2]! /\ U[i+k+2]! < 1000000000)/\WV dB S=0/\WV dB (Y++[U[i+k+2]!])=WV dB (U.drop i)/\WV dB (Y++[U[i+k+2]!])<1000000000*WV dB V:=by
 obtain⟨P,hP⟩:∃P,P=U.take i:=⟨_,rfl⟩
 obtain⟨X,hX⟩:∃X,X=(U.drop i).take (k+3):=⟨_,rfl⟩
 obtain⟨S,hS⟩:∃S,S=U.drop (i+(k+3)):=⟨_,rfl⟩
 have eU:U=P++X++S:=by
  rw[hP,hX,hS,List.append_assoc,←List.drop_drop,List.take_append_drop,List.take_append_drop]
 have lP:P.length=i:=by rw[hP,List.length_take];omega
 have lX:X.length=k+3:=by rw[hX,List.length_take,List.length_drop];omega
 have oX:okW dB X:=by rw[hX];exact de (ky oU _) _
 have oS:okW dB S:=by rw[hS];exact ky oU _
 have oP:okW dB P:=by rw[hP];exact de oU _
 have eD:U.drop i=X++S:=by rw[eU,←lP,List.append_assoc,List.drop_left]
 have gj:=bZ oU (i:=i) (by omega)
 have d1:=nm (b:=dB) (l:=U) (i:=i) (by omega)
 have lt:=dN (b:=dB) (by decide) oV
 rw[hV]at lt
 have hpow:(0:Int)<dB^(k+2):=Int.pow_pos (by decide)
 have hS0:WV dB S=0:=by
  have h1:WV dB (U.drop (i+1))=WV dB ((U.drop (i+1)).take (k+2))+dB^(k+2)*WV dB S:=by
   have:=kB (b:=dB) (l:=U.drop (i+1)) (i:=k+2) (by rw[List.length_drop];omega)
   rwa [List.drop_drop,show i+1+(k+2)=i+(k+3) by omega,←hS]at this
  have h2:=cO (b:=dB) (by decide) (de (ky oU (i+1)) (k+2))
  have h3:=cO (b:=dB) (by decide) oS
  rcases Int.lt_or_le 0 (WV dB S) with h|h
  . have:=Int.mul_le_mul_of_nonneg_left (show 1<=WV dB S by omega) (Int.le_of_lt hpow)
    omega
  . omega
 have hXD:WV dB X=WV dB (U.drop i):=by rw[eD,fT,hS0,Int.mul_zero,Int.add_zero]
 have hT:WV dB X<1000000000*WV dB V:=by
  rw[hXD,d1]
  have gj:0<=U[i]! /\ U[i]! < 1000000000:=gj
  show _+1000000000*_<1000000000*_
  omega
 have hXt:X[k+2]! = U[i+k+2]! := by
  rw[hX]
  simp only[List.getElem!_eq_getElem?_getD]
  rw[List.getElem?_take_of_lt (by omega),List.getElem?_drop,Nat.add_assoc]
 have gt:=bZ oX (i:=k+2) (by omega)
 have eX:X=X.take (k+2)++[X[k+2]!]:=by
  have h1:X.take (k+2+1)=X:=List.take_of_length_le (by omega)
  conv=>lhs;rw[←h1]
  rw[List.take_add_one,List.getElem?_eq_getElem (by omega),getElem!_pos X (k+2) (by omega),Option.toList_some]
 rw[hXt]at eX gt
 refine⟨P,X.take (k+2),S,by rw[←eX];exact eU,lP,by rw[List.length_take];omega,oP,de oX _,oS,gt,hS0,by rw[←eX];exact hXD,by rw[←eX];exact hT⟩
theorem aaw {L V:List Int}{T q d n:Int}{m:Nat}(hn:n=dB^m)(oL:okW dB L)(hL:L.length=m)(oV:okW dB V)(hV:V.length=m)(h:WV dB L+n*d=T-q*WV dB V)(hge:T<(q+1)*WV dB V)(hd:¬d<0):d=0/\WV dB L=T-q*WV dB V/\WV dB L<WV dB V:=by
 subst hn
 have lV:=dN (b:=dB) (by decide) oV
 have l0:=cO (b:=dB) (by decide) oL
 have hp:0<dB^m:=Int.pow_pos (by decide)
 rw[hV]at lV
 rw[Int.add_mul,Int.one_mul]at hge
 have d0:d=0:=by
  rcases Int.lt_or_le 0 d with h'|h'
  . have:=Int.mul_le_mul_of_nonneg_left (show 1<=d by omega) (Int.le_of_lt hp)
    omega
  . omega
 subst d0
 rw[Int.mul_zero,Int.add_zero]at h
 exact⟨rfl,h,by omega⟩
theorem aax {L L2 V:List Int}{T q d n ca:Int}{m:Nat}(hn:n=dB^m)(oL:okW dB L)(hL:L.length=m)(oL2:okW dB L2)(hL2:L2.length=m)(oV:okW dB V)(hV:V.length=m)(h:WV dB L+n*d=T-q*WV dB V)(hle:(q-1)*WV dB V<=T)(hT0:0<=T)(hd:d<0)(q0:0<=q)(h2:WV dB L2+n*ca=WV dB L+WV dB V):1<=q/\d+ca=0/\WV dB L2=T-(q-1)*WV dB V/\WV dB L2<WV dB V:=by
 subst hn
 have lL:=dN (b:=dB) (by decide) oL
 have lL2:=dN (b:=dB) (by decide) oL2
 have lV:=dN (b:=dB) (by decide) oV
 have l0:=cO (b:=dB) (by decide) oL2
 have hp:0<dB^m:=Int.pow_pos (by decide)
 rw[hV]at lV
 rw[hL]at lL
 rw[hL2]at lL2
 have hneg:T-q*WV dB V<0:=by
  have:=Int.mul_le_mul_of_nonneg_left (show d <= -1 by omega) (Int.le_of_lt hp)
  omega
 have q1:1<=q:=by
  rcases Int.lt_or_le 0 q with h'|h'
  . omega
  . obtain rfl:q=0:=by omega
    rw[Int.zero_mul]at hneg
    omega
 rw[Int.sub_mul,Int.one_mul]at hle ⊢
 have hs:WV dB L2+dB^m*(d+ca)=T-q*WV dB V+WV dB V:=by rw[Int.mul_add];omega
 have d0:d+ca=0:=by
  rcases Int.lt_or_le 0 (d+ca) with h'|h'
  . have:=Int.mul_le_mul_of_nonneg_left (show 1<=d+ca by omega) (Int.le_of_lt hp)
    omega
  . rcases Int.lt_or_le (d+ca) 0 with h''|h''
    . have:=Int.mul_le_mul_of_nonneg_left (show d+ca <= -1 by omega) (Int.le_of_lt hp)
      omega
    . omega
 rw[d0,Int.mul_zero,Int.add_zero]at hs
 exact⟨q1,d0,by omega,by omega⟩
structure Lv (M:aO):Prop where
 ft:M.FT=FT
 gO:∀ars h,M.ext 242 ars h=none
 Lw:∀(U V:List Int) (bu i k:Nat) cu c2 e h (T D p:Int),h.at bu=some (.cells (au U) e)->V.length=k+2->i+k+2<U.length->U.length<100000000->gP U[i+k+2]! U[i+k+1]! U[i+k]! V[k+1]! V[k]! T D p->∃q:Int,(0<=q/\q<1000000000)/\T<(q+1)*D/\(q-1)*D<=T/\M.ext 243 [.sl bu 0 U.length 1 cu,.vs (au V) V.length c2,.iV i] h=some ⟨.iV q,h,[]⟩
theorem aay {hp:ae}{b:Nat}{e:TypeId}{P S X U:List Int}(hU:hp.at b=some (.cells (au U) e))(h:U=P++X++S):cD hp b e P S X=hp:=by
 unfold cD;rw[←h];exact FI hU
theorem aaz {hp:ae}{b:Nat}{e:TypeId}{P S X:List Int}(hl:b<hp.length):(cD hp b e P S X).at b=some (.cells (au (P++X++S)) e):=cI hl
theorem Dj {hp:ae}{b c:Nat}{e:TypeId}{P S X:List Int}(h:b≠c):(cD hp b e P S X).at c=hp.at c:=uW h
theorem Dk {hp:ae}{b:Nat}{e:TypeId}{P S X:List Int}{t:Int}:cD hp b e P (t::S) X=cD hp b e (P++X) S [t]:=by
 unfold cD;rw[show P++X++(t::S)=P++X++[t]++S by simp]
section
variable {t bu m:Nat} {x y:aN} {l:List aU} {pe:List AV} {lo:List (Nat×AV)} {hp:ae} {df wr:List Nat} {P S:List Int} {e:TypeId} {v d:Int} {Q:aq->Prop}
theorem WO.Dl (hx:(St.mk pe lo (cD hp bu e P S [v]) df).aa x=some (.ptr bu m))(hl:bu<hp.length)(hm:m=P.length)
 (h:WO M l ⟨⟨pe,(t,.iV v)::lo,cD hp bu e P S [v],df⟩,wr⟩ Q):WO M (⟨.l t,.load 1 false x,none⟩::l) ⟨⟨pe,lo,cD hp bu e P S [v],df⟩,wr⟩ Q:=
 WO.Dc (i:=0) hx hl Nat.zero_lt_one hm h
theorem WO.Dm (hx:(St.mk pe lo (cD hp bu e P S [v]) df).aa x=some (.ptr bu m))(hy:(St.mk pe lo (cD hp bu e P S [v]) df).aa y=some (.iV d))(hl:bu<hp.length)(hm:m=P.length)
 (h:WO M l ⟨⟨pe,lo,cD hp bu e P S [d],df⟩,bu::wr⟩ Q):WO M (⟨.no,.store 1 x y,none⟩::l) ⟨⟨pe,lo,cD hp bu e P S [v],df⟩,wr⟩ Q:=
 WO.Dd (i:=0) hx hy hl Nat.zero_lt_one hm h
end
end Go.Ab.Ch1
