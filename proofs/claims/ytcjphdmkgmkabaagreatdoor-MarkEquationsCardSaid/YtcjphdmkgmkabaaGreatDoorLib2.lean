import Derived.Test.YtcjphdmkgmkabaaGreatDoorLib1
import Derived.Laws.RangeString
import Derived.Lib.DecodeN
import Derived.Deep.Slices
import Derived.Deep.Strs
import Derived.Below
open Bool renaming and_true→fm,true_or→hZ,and_eq_true→i3,and_self→jq
open Int renaming eq_ofNat_of_zero_le→c9
open List renaming getElem?_eq_getElem→b5,getElem?_eq_some_iff→b6,getElem?_append_right→b7,getElem?_append_left→b8,ext_getElem?→b9,all_eq_true→c3,length_cons→c8,flatten_cons→dN,nil_append→dY,length_append→d6,range→d7,cons_append→fT,all_nil→f6,take_of_length_le→f8,replicate→gT,mem_singleton→g9,getElem?_set→ii,isEmpty_nil→iy,flatMap_nil→iz,isEmpty_iff→i4,append_nil→i6,drop_drop→i7,drop_zero→i8,mem_cons→i9,take_add→jD
open Nat renaming mod_eq_of_lt→c7,le_refl→dO,zero_le→d9,le_max_right→fG,zero_mul→f9,le_max_left→gF,lt_or_ge→ip,div_add_mod→i5
open Option renaming bind_some→ce,map_some→ci,some→d8,map_eq_some_iff→f7
open Prod renaming mk→j0
open Go.World renaming cells?_some→it,cell?→jU
set_option maxHeartbeats 8000000
set_option maxRecDepth 20000
namespace Go.Ab
variable {t:Nat} {op:bg} {x:ay} {pe:List AV} {lo:List (Nat×AV)} {hp:aa} {df wr un:List Nat} {Q:aq->Prop} {d:eZ} {l:List (aX×List Nat)} {s:aq} {ds:List bY} {v:AV}
variable {M:aw}
theorem amp {want:Bool}{l:List aX}(hx:(St.mk pe lo hp df).ae x=some (.au []))(h:WO M l ⟨⟨pe,(t,bD)::lo,hp,df⟩,wr⟩ Q):WO M (⟨.l t,op,some (x,want)⟩::l) ⟨⟨pe,lo,hp,df⟩,wr⟩ Q:=WO.VX hx h
theorem amT {l:List aX}{a:Int}(hx:(St.mk pe lo hp df).ae x=some (.int .i64 a))
 (hr : -9223372036854775808<a/\a<=9223372036854775808) (h:WO M l ⟨⟨pe,(t,.int .i64 (-a))::lo,hp,df⟩,wr⟩ Q):WO M (⟨.l t,.un .neg x,none⟩::l) ⟨⟨pe,lo,hp,df⟩,wr⟩ Q:=
 WO.op (WP.pure (v:=.int .i64 (-a)) rfl (by
  have:IntKind.i64.wrap (0-a) = -a:=by rw[show 0-a = -a from by omega];exact pq ac
  simp[aY,hx,sx]at this ⊢;exact this) h)
theorem WD.Wo {f:ay}{args:List ay}{g:FuncId}{fi ca as:List AV}(hf:s.s.ae f=some (.fn (.func g) fi ca))(ha:s.s.cM args=some as)
 (hU:(un.flatMap fun j=>(ds[j]?).elim [] bY.own)=[]) (he:M.ext g (fi++as++ca) s.s.hp=some ⟨v,s.s.hp,[]⟩)
 (h:WD M l ⟨s.s.put d v,s.wr⟩ (ds++[⟨none,[],0,0⟩]) Q):WD M ((⟨d,.call f args,none⟩,un)::l) s ds Q:=by
 have hp:({ s.s.put d v with hp:=s.s.hp++[] }:St)=s.s.put d v:=by cases d <;> simp[St.put]
 refine WD.Wn (hn:=[]) hf ha hU (by simpa using he) ?_;rw[hp];exact h.norm (by simp[bY.key,bY.own])
theorem ajU {f:ay}{args:List ay}{g:FuncId}{fi ca as:List AV}(hf:(St.mk pe lo hp df).ae f=some (.fn (.func g) fi ca))(ha:(St.mk pe lo hp df).cM args=some as)
 (hU:(un.flatMap fun j=>(ds[j]?).elim [] bY.own)=[]) (he:M.ext g (fi++as++ca) hp=some ⟨v,hp,[]⟩)
 (h:WD M l ⟨⟨pe,(t,v)::lo,hp,df⟩,wr⟩ (ds++[⟨none,[],0,0⟩]) Q):WD M ((⟨.l t,.call f args,none⟩,un)::l) ⟨⟨pe,lo,hp,df⟩,wr⟩ ds Q:=WD.Wo hf ha hU he h
theorem WD.take {t want:Bool}(hx:s.s.ae x=some (.bool t))(ht:(t == want)=true)(h:WD M ((⟨d,op,none⟩,un)::l) s ds Q):WD M ((⟨d,op,some (x,want)⟩,un)::l) s ds Q:=by
 obtain⟨⟨n,s',h1,h2⟩⟩:=h;refine⟨⟨n,s',?_,h2⟩⟩;simp only[dI,dP,hx,ht]at h1 ⊢;exact h1
def bg.Kf:bg->Bool
 | .alloc .. | .box .. | .du .. | .gZ .. | .oE=>true
 | _=>false
theorem Dn {s:St}{hp':aa}(x:ay):St.ae { s with hp:=hp' } x=s.ae x:=by rfl
theorem Kg {s:St}{hp':aa}:∀(ps:List (Nat×Nat×ay)),St.parts { s with hp:=hp' } ps=s.parts ps
 | []=>rfl
 | (o,n,x)::r=>by simp only[St.parts,Dn,Kg r]
theorem Wp {call:dX}{inv:fQ}{s:St}(hn:op.Kf=true){r:HR}(hq:bI call inv s op=some r):∃o,r.h=s.hp++[o]/\r.wr=[]/\∀hp':aa,hp'.length=s.hp.length->bI call inv { s with hp:=hp' } op=some ⟨r.v,hp'++[o],[]⟩:=by
 cases op <;> first|(cases hn;done)|skip
 case alloc e z=>
  simp only[bI,bg.bF,if_true,bG]at hq;cases hq;exact⟨_,rfl,rfl,fun hp' hl=>by simp only[bI,bg.bF,if_true,bG,hl]⟩
 case box e n x=>
  simp only[bI,bg.bF,if_true,bG]at hq;split at hq
  . rename_i c hc;split at hq
    . rename_i hlen;cases hq;exact⟨_,rfl,rfl,fun hp' hl=>by simp only[bI,bg.bF,if_true,bG,Dn,hc,hl,if_pos hlen]⟩
    grind
  grind
 case du e len esz z ps=>
  simp only[bI,bg.bF,if_true,bG]at hq;split at hq
  . rename_i vs hvs;split at hq
    . rename_i c hc;split at hq
      . rename_i hlen;cases hq;exact⟨_,rfl,rfl,fun hp' hl=>by simp only[bI,bg.bF,if_true,bG,Kg,hvs,hc,hl,if_pos hlen]⟩
      grind
    grind
  grind
 case oE=>
  simp only[bI,bg.bF,if_true,bG]at hq;cases hq;exact⟨_,rfl,rfl,fun hp' hl=>by simp only[bI,bg.bF,if_true,bG,hl]⟩
 case gZ e esz by' z a b=>
  simp only[bI,bg.bF,if_true,bG]at hq;split at hq
  . rename_i x y hx hy;split at hq
    . rename_i hc;cases hq;exact⟨_,rfl,rfl,fun hp' hl=>by simp only[bI,bg.bF,if_true,bG,Dn,hx,hy,hl,if_pos hc]⟩
    grind
  grind
theorem alY (hn:op.Kf=true)(h:WO M [⟨d,op,none⟩] s fun s'=>WD M l s' (ds++[⟨some [],[],s.s.hp.length,s.s.hp.length+1⟩]) Q):WD M ((⟨d,op,none⟩,un)::l) s ds Q:=by
 obtain⟨⟨k,s1,h1,⟨⟨m,s',h2,h3⟩⟩⟩⟩:=h;refine⟨⟨max k m,s',?_,h3⟩⟩;have h1':=nG (inv:=M.inv) (kd (gF k m)) _ _ _ h1;have h2':=lH (inv:=M.inv) (kd (fG k m)) _ _ _ _ h2;simp only[ek,dP]at h1';have ht:je s.s op=some []:=by cases op <;> first|(cases hn;done)|rfl
 have hh:op.bF=true:=by cases op <;> first|(cases hn;done)|rfl
 have hd:∀U,fR [] U=true:=fun U=>rfl
 cases hq:bI (M.call (max k m)) M.inv s.s op with
 | none=>grind
 | some r=>
  rw[hq]at h1';obtain⟨o,e1,e2,e3⟩:=Wp hn hq;simp only[d8.injEq]at h1';simp only[dI,dP,hh,if_true,ht,hd,e3 (cd [] s.s.hp 0) (fh _ _ _)];have hm:fe [] s.s.hp (cd [] s.s.hp 0++[o]) 0=s.s.hp++[o]:=by
   apply b9;intro c;rw[jr _ _ _ _ _ (by simp[fh])];split
   . grind
   . grind[b7,fh,fh]
  simp only[f6,iy,hZ,fm,if_true,hm,dY,d6,List.length_singleton,fh]<;>grind
def xr (h:aa):AV->Option (List AV×Nat)
 | .str _=>none
 | .sl b off n esz _=>match h.at b with
   | some (.cells l _)=>(cut l off (n*esz)).map (·,n)
   | _=>none
 | v=>dV h v
def xu:List AV->Option (List Int)
 | []=>some []
 | .int .i64 n::r=>match xu r with
   | some l=>some (n::l)
   | none=>none
 | _=>none
theorem Kh:∀{c:List AV} {l:List Int},xu c=some l->c=ints l
 | [],l,h=>by cases h;rfl
 | v::r,l,h=>by
  unfold xu at h;split at h
  . grind
  . rename_i n r' e;cases e;split at h
    . rename_i l' hl;cases h;rw[Kh hl];rfl
    . cases h
  . cases h
def gg (h:aa)(v:AV):Option (List Int):=match xr h v with
 | some (c,n)=>match xu c with
   | some l=>if l.length=n then some l else none
   | none=>none
 | none=>none
theorem Wq {α:Type}{f:α->List AV}{h:aa}{l:List α}(hc:xr h v=some (arr f l,l.length)):Sl f h v l:=by
 cases v <;> simp only[xr,dV]at hc <;> try (cases hc;done)
 case ab=>
  simp only[d8.injEq,j0.injEq]at hc;exact .inl ⟨rfl,List.eq_nil_of_length_eq_zero hc.2.symm⟩
 case sl b off len esz cap=>
  split at hc
  . rename_i c e hb;simp only[f7,j0.injEq]at hc;obtain⟨c',h1,h2,h3⟩:=hc;subst h3;subst h2;exact .inr (.inr ⟨b,off,esz,cap,c,e,rfl,hb,h1⟩)
  grind
 case vs c len cap=>
  simp only[d8.injEq,j0.injEq]at hc;obtain⟨rfl,rfl⟩:=hc;exact .inr (.inl ⟨cap,rfl⟩)
theorem Wr {h:aa}{l:List Int}(hi:gg h v=some l):Sl (fun x=>[.int .i64 x]) h v l:=by
 unfold gg at hi;split at hi
 . rename_i c n hc;split at hi
   . rename_i l' hl;split at hi
     . rename_i hn;cases hi;subst hn;rw[Kh hl]at hc;exact Wq hc
     grind
   grind
 grind
end Go.Ab
namespace Go.Ab
variable {ars pe:List AV} {h hp:aa} {r:HR} {f:ay} {args:List ay} {l:List aX} {s:aq} {Q:aq->Prop} {g v:AV} {t b:Nat} {lo:List (Nat×AV)} {df wr:List Nat}
variable {M:aw}
def CT (M:aw)(g:AV)(ars:List AV)(h:aa)(r:HR):Prop:=∃n,M.call n g ars h=some r
theorem CT.run {f:FuncId}{fi ca:List AV}(he:M.ext f (fi++ars++ca) h=none)(hr:aV M f (fi++ars++ca) h r):CT M (.fn (.func f) fi ca) ars h r:=by
 obtain⟨n,hn⟩:=hr;exact⟨n,by simp only[iF,he];exact hn⟩
theorem WO.Dp {d:eZ}(hf:s.s.ae f=some g)(ha:s.s.cM args=some ars)(hc:CT M g ars s.s.hp r)
 (h:WO M l ⟨{ s.s.put d r.v with hp:=r.h },r.wr++s.wr⟩ Q):WO M (⟨d,.call f args,none⟩::l) s Q:=
 WO.op (WP.call hf ha (by obtain⟨n,hn⟩:=hc;exact⟨⟨n,r,hn,h⟩⟩))
theorem afJ {h':aa}{wr':List Nat}(hf:(St.mk pe lo hp df).ae f=some g)(ha:(St.mk pe lo hp df).cM args=some ars)
 (hc:CT M g ars hp ⟨v,h',wr'⟩) (h:WO M l ⟨⟨pe,(t,v)::lo,h',df⟩,wr'++wr⟩ Q):WO M (⟨.l t,.call f args,none⟩::l) ⟨⟨pe,lo,hp,df⟩,wr⟩ Q:=WO.Dp hf ha hc h
theorem WD.Dp {d:eZ}{un:List Nat}{l:List (aX×List Nat)}{ds:List bY}(hf:s.s.ae f=some g)(ha:s.s.cM args=some ars)
 (hU:(un.flatMap fun j=>(ds[j]?).elim [] bY.own)=[]) (he:CT M g ars s.s.hp ⟨v,s.s.hp,[]⟩)
 (h:WD M l ⟨s.s.put d v,s.wr⟩ (ds++[⟨none,[],0,0⟩]) Q):WD M ((⟨d,.call f args,none⟩,un)::l) s ds Q:=by
 obtain⟨⟨m,s',h2,h3⟩⟩:=h.norm (d':=⟨none,[],s.s.hp.length,s.s.hp.length⟩) (by simp[bY.key,bY.own]);obtain⟨n,hn⟩:=he;refine⟨⟨max n m,s',?_,h3⟩⟩;have h2':=lH (inv:=M.inv) (kd (fG n m)) _ _ _ _ h2;have hn':=kd (M:=M) (gF n m) _ _ _ _ hn;have hm:mask s.s.hp []=s.s.hp:=rfl;have hcall:bI (M.call (max n m)) M.inv { s.s with hp:=s.s.hp } (.call f args)=some ⟨v,s.s.hp,[]⟩:=by
  simp only[bI,hf,ha];exact hn'
 have hmerge:fe [] s.s.hp s.s.hp 0=s.s.hp:=by
  apply b9;intro c;rw[jr _ _ _ _ _ (dO _)];split
  . rfl
  . rfl
 simp only[dI,dP,bg.bF,if_true,je,hU,hm];rw[hcall];have hp:({ s.s.put d v with hp:=s.s.hp }:St)=s.s.put d v:=by cases d <;> rfl
 grind
theorem amK {un:List Nat}{l:List (aX×List Nat)}{ds:List bY}(hf:(St.mk pe lo hp df).ae f=some g)(ha:(St.mk pe lo hp df).cM args=some ars)
 (hU:(un.flatMap fun j=>(ds[j]?).elim [] bY.own)=[]) (he:CT M g ars hp ⟨v,hp,[]⟩)
 (h:WD M l ⟨⟨pe,(t,v)::lo,hp,df⟩,wr⟩ (ds++[⟨none,[],0,0⟩]) Q):WD M ((⟨.l t,.call f args,none⟩,un)::l) ⟨⟨pe,lo,hp,df⟩,wr⟩ ds Q:=WD.Dp hf ha hU he h
theorem xw {f N:Nat}{aR:List Nat}{res:List fA}{body:ak}(hft:M.FT f=some ⟨N,aR,res,body⟩)(hN:ars.length<=N)
 (hW:W M body ⟨⟨aR.map (fun t=>(ars[t]?).getD bD),[],h,[]⟩,[]⟩ fun e s=>(e = .normal\/e = .ret)/\s.s.bV=[]/\∃vs,dx s.s res=some vs/\dy (aW vs) h.length s=r):aV M f ars h r:=by
 obtain⟨⟨n,e,s,h1,h2,h3,vs,h4,h5⟩⟩:=hW;refine⟨n,?_⟩;have h1':bw M.ext M.inv M.FT n body ⟨⟨aR.map (fun t=>(ars[t]?).getD bD),[],h,[]⟩,[]⟩=some (e,s):=h1;simp only[ix,hft];rw[if_neg ac];simp only[aw.ev,h1',if_pos h2,h3,mj,h4,h5]
def iK (b:Nat)(wr:List Nat):Prop:=∀x∈wr,x=b
theorem iK.nil:iK b []:=fun _ h=>by cases h
theorem iK.cons (h:iK b wr):iK b (b::wr):=fun x hx=>by
 rcases i9.1 hx with e|e
 . exact e
 . exact h x e
theorem tt {x y:Option ba}:(h.put b x).put b y=h.put b y:=by simp[aa.put]
theorem Ws {c c0:List AV}{e:TypeId}(hb:b<h.length)(hh:s.s.hp=h.put b (some (.cells c e)))(hw:iK b s.wr)(hc:bc c=0) :
 ∃wr,iK b wr/\dy (.au []) (h.put b (some (.cells c0 e))).length s=⟨.au [],h.put b (some (.cells c e)),wr⟩:=by
 refine⟨s.wr.filter (· < h.length),fun x hx=>hw x bS,?_⟩;have hl:(h.put b (some (.cells c0 e))).length=h.length:=dQ;have ht:tight s.s.hp h.length s.wr=true:=by
  simp only[tight,c3];intro x hx;rw[hw x hx,hh,eu hb];simp[ba.top,hc]
 have hk:(h.put b (some (.cells c e))).take h.length=h.put b (some (.cells c e)):=f8 (by rw[dQ];simp);simp only[dy,hl,ht,fm]<;>grind
theorem amq {x:ay}{k:IntKind}{a:Int}(hx:(St.mk pe lo hp df).ae x=some (.int k a))(hr:0<=a/\a<18446744073709551616)
 (h:WO M l ⟨⟨pe,(t,.int .u64 a)::lo,hp,df⟩,wr⟩ Q):WO M (⟨.l t,.dM .u64 x,none⟩::l) ⟨⟨pe,lo,hp,df⟩,wr⟩ Q:=
 WO.op (WP.pure (v:=.int .u64 a) rfl (by
  have:IntKind.u64.wrap a=a:=by simp only[IntKind.wrap,IntKind.bits,IntKind.signed];simp;omega
  simp only[aY,hx,ce,mT,this]) h)
theorem amr {x:ay}{k:IntKind}{a:Int}(hx:(St.mk pe lo hp df).ae x=some (.int k a))(hr : -9223372036854775808<=a/\a<9223372036854775808)
 (h:WO M l ⟨⟨pe,(t,.int .i64 a)::lo,hp,df⟩,wr⟩ Q):WO M (⟨.l t,.dM .i64 x,none⟩::l) ⟨⟨pe,lo,hp,df⟩,wr⟩ Q:=
 WO.op (WP.pure (v:=.int .i64 a) rfl (by simp only[aY,hx,ce,mT,pq hr]) h)
end Go.Ab
namespace Go.Ab
variable {h:aa}
variable {M:aw}
theorem Wt {v:AV}{s:aq}(hh:s.s.hp=h)(hw:s.wr=[]):dy v h.length s=⟨v,h,[]⟩:=by
 have hk:h.take h.length=h:=List.take_length;simp only[dy,hh,hw,tight,f6,fm,List.filter_nil,hk];simp
theorem pt {g N:Nat}{aR:List Nat}{res:List fA}{body:ak}{ars:List AV}{v:AV}(hft:M.FT g=some ⟨N,aR,res,body⟩)(hN:ars.length<=N)
 (hW:W M body ⟨⟨aR.map (fun t=>(ars[t]?).getD bD),[],h,[]⟩,[]⟩ fun x s=>(x = .normal\/x = .ret)/\s.s.bV=[]/\s.s.hp=h/\s.wr=[]/\∃vs,dx s.s res=some vs/\aW vs=v):aV M g ars h ⟨v,h,[]⟩:=by
 refine xw hft hN (hW.mono fun x s ⟨h1,h2,h3,h4,vs,h5,h6⟩=>⟨h1,h2,vs,h5,?_⟩);grind[Wt]
theorem Ki {b:Nat}{o:ba}(hb:h.at b=some o):h.put b (some o)=h:=by
 have hl:=cJ hb;apply b9;intro i;simp only[aa.put,ii];split
 . rename_i e;subst e;unfold aa.at at hb;grind
 . rfl
end Go.Ab
namespace Go.Ab
variable {wr:List Nat}
variable {M:aw}
def Dr (b n:Nat)(wr:List Nat):Prop:=∀x∈wr,x=b\/n<=x
theorem Dr.cons {b n:Nat}(h:Dr b n wr):Dr b n (b::wr):=fun x hx=>by
 rcases i9.1 hx with e|e
 . omega
 . exact h x e
theorem gO {f N:Nat}{aR:List Nat}{res:List fA}{body:ak}{ars:List AV}{P:AV->aa->Prop}(hft:M.FT f=some ⟨N,aR,res,body⟩)(hN:ars.length<=N)
 (h:W M body ⟨⟨aR.map (fun t=>(ars[t]?).getD bD),[],[],[]⟩,[]⟩ fun e s=>(e = .normal\/e = .ret)/\s.s.bV=[]/\∃vs,dx s.s res=some vs/\P (aW vs) (if (aW vs).top<=0 then [] else s.s.hp)):∃v hh,P v hh/\aV M f ars [] ⟨v,hh,[]⟩:=by
 obtain⟨⟨n,e,s,h1,h2,h3,vs,h4,h5⟩⟩:=h;exact⟨_,_,h5,bH hft hN ⟨⟨n,e,s,h1,h2,h3,vs,h4,rfl,rfl⟩⟩⟩
theorem akA {t b o n:Nat}{ag:Bool}{x:ay}{l:List aX}{pe:List AV}{lo:List (Nat×AV)}{hp:aa}{df:List Nat}{c:List AV}{e:TypeId}{v:AV}{Q:aq->Prop}(hx:(St.mk pe lo hp df).ae x=some (.ptr b o))(hb:hp.at b=some (.cells c e))(hv:partOf (c.drop o) 0 n ag=some v)
 (h:WO M l ⟨⟨pe,(t,v)::lo,hp,df⟩,wr⟩ Q):WO M (⟨.l t,.load n ag x,none⟩::l) ⟨⟨pe,lo,hp,df⟩,wr⟩ Q:=
 alH hx (show fP hp (.ptr b o)=some (c.drop o) by simp only[fP,hb]) hv h
theorem Wu {n:Int}(h:0<=n/\n<18446744073709551616):IntKind.u64.wrap n=n:=by
 simp only[IntKind.wrap,IntKind.bits,IntKind.signed];grind
theorem amL {t L:Nat}{x y:ay}{l:List aX}{pe:List AV}{lo:List (Nat×AV)}{hp:aa}{df:List Nat}{k:IntKind}{a:Int}{Q:aq->Prop}(hx:(St.mk pe lo hp df).ae x=some (.int .u64 a))(hy:(St.mk pe lo hp df).ae y=some (.int k L))(hL:L<=64)
 (hr:0<=a*2^L/\a*2^L<18446744073709551616) (h:WO M l ⟨⟨pe,(t,.int .u64 (a*2^L))::lo,hp,df⟩,wr⟩ Q):WO M (⟨.l t,.bin .shl x y,none⟩::l) ⟨⟨pe,lo,hp,df⟩,wr⟩ Q:=
 abL (v:=.int .u64 (a*2^L)) (by
  have e:min ((L:Int)).toNat IntKind.u64.bits=L:=by simp only[IntKind.bits];omega
  simp only[aY,hx,hy,cU,e,Wu hr]<;>grind) rfl h
theorem Kk {α:Type}{f:α->List AV}(hf:∀a,(f a).all cI=true):∀l:List α,(arr f l).all cI=true
 | []=>rfl
 | a::l=>by
  have:=Kk hf l;simp only[arr]at this;simp only[arr,List.flatMap_cons,List.all_append,hf a,this,jq]
end Go.Ab
namespace Go.Ab
variable {T:List Nat} {h:aa}
variable {M:aw}
theorem Ds {o:Option ba}:fe [] h (cd T h 0++[o]) 0=h++[o]:=by
 apply b9;grind[jr,fh,b8,b7]
theorem Wv {b:Nat}{o:Option ba}:fe [b] h (aa.put (cd T h 0) b none++[o]) 0=aa.put h b none++[o]:=by
 have hl:(aa.put (cd T h 0) b none).length=h.length:=by rw[dQ,fh]
 apply b9;intro c;rw[jr _ _ _ _ _ (by simp[hl])];split
 . rename_i hc;rw[b8 ac,b8 (by grind[dQ])];simp only[aa.put,ii,fh,nC]<;>grind
 grind[b7,dQ,dQ]
theorem Ww {y:AV}(hT:∀b,b∈dK (some y)->b∈T):dV (cd T h 0) y=dV h y:=by
 cases y with
 | sl b off n esz cap=>
  simp only[dV];rw[tp,if_pos (by simpa using hT b (by simp[dK]))]
 | _=>rfl
theorem Kl {elem:TypeId}{esz bytes:Nat}{x y:AV}(hx:∀b,b∈dK (some x)->b∈T)(hy:∀b,b∈dK (some y)->b∈T){r:HR}(hr:gw elem esz bytes h x y=some r) :
 ∃h',gw elem esz bytes (cd T h 0) x y=some ⟨r.v,h',r.wr⟩/\fe r.wr h h' 0=r.h/\(∀b∈r.wr,((cd T h 0).at b).isSome=true):=by
 unfold gw at hr ⊢;rw[Ww hy];split at hr
 . cases hr
 . rename_i new n hs;split at hr
   . rename_i hc;rw[if_pos hc];split at hr
     . split at hr
       . rename_i h0;cases hr;exact⟨cd T h 0,bS,tr,be⟩
       . rename_i h0;split at hr
         . rename_i h1;cases hr;exact⟨_,by rw[if_neg h0,if_pos h1,fh],Ds,be⟩
         grind
     . rename_i l len cap;split at hr
       . rename_i h0;cases hr;exact⟨cd T h 0,bS,tr,be⟩
       . rename_i h0;split at hr
         . rename_i c;split at hr
           . rename_i h1;cases hr;refine⟨cd T h 0++[some (.cells (l++new) elem)],?_,Ds,be⟩;simp only[if_neg h0,if_pos h1,fh]
           grind
         grind
     . rename_i b off len e cap;have hbT:T.contains b=true:=by simpa using hx b (by simp[dK])
       have hk:(cd T h 0).at b=h.at b:=by rw[tp,if_pos hbT]
       split at hr
       . rename_i h0;cases hr;exact⟨cd T h 0,bS,tr,be⟩
       . rename_i h0;split at hr
         . rename_i h1;split at hr
           . rename_i l el hat;have hlt:=cJ hat;have hsome:((cd T h 0).at b).isSome=true:=by rw[hk,hat];rfl
             split at hr
             . rename_i c;split at hr
               . rename_i h2;split at hr
                 . rename_i h3;cases hr;refine⟨aa.put (cd T h 0) b (some (.cells (overwrite l (off+len*esz) new) el)),?_,Dm,by simpa using hsome⟩<;>grind
                 grind
               . rename_i h2;split at hr
                 . rename_i ck hcut;cases hr;refine⟨cd T h 0++[some (.cells (ck++new) elem)],?_,Ds,be⟩;simp only[if_neg h0,if_pos h1,hk,hat,if_neg h2,hcut,fh]
                 grind
             . split at hr
               . rename_i h2;cases hr;refine⟨aa.put (cd T h 0) b none++[some (.cells (l.drop off++new) elem)],?_,Wv,bS⟩;simp only[if_neg h0,if_pos h1,hk,hat,if_pos h2,fh]
               grind
           grind
         grind
     grind
   grind
theorem ano {d:eZ}{elem:TypeId}{esz bytes:Nat}{x y:ay}{l:List (aX×List Nat)}{s:aq}{ds:List bY}{a b:AV}{Q:aq->Prop}(ha:s.s.ae x=some a)(hb:s.s.ae y=some b)
 (h:∀dn,WO M [⟨d,.append elem esz bytes x y,none⟩] s fun s'=>WD M l s' (ds++[dn]) Q):WD M ((⟨d,.append elem esz bytes x y,none⟩,[])::l) s ds Q:=by
 have key:∀h0,bI (M.call 0) M.inv { s.s with hp:=h0 } (.append elem esz bytes x y)=gw elem esz bytes h0 a b:=fun h0=>by
  have hx':(St.mk s.s.pe s.s.lo h0 s.s.bV).ae x=some a:=by rw[←ha];cases x <;> rfl
  have hy':(St.mk s.s.pe s.s.lo h0 s.s.bV).ae y=some b:=by rw[←hb];cases y <;> rfl
  simp only[bI,bg.bF,if_true,bG,hx',hy']
 have keyn:∀n h0,bI (M.call n) M.inv { s.s with hp:=h0 } (.append elem esz bytes x y)=gw elem esz bytes h0 a b:=fun n h0=>by
  have hx':(St.mk s.s.pe s.s.lo h0 s.s.bV).ae x=some a:=by rw[←ha];cases x <;> rfl
  have hy':(St.mk s.s.pe s.s.lo h0 s.s.bV).ae y=some b:=by rw[←hb];cases y <;> rfl
  simp only[bI,bg.bF,if_true,bG,hx',hy']
 cases hq:gw elem esz bytes s.s.hp a b with
 | none=>
  obtain⟨⟨k,s1,h1,_⟩⟩:=h ⟨none,[],0,0⟩;simp only[ek,dP]at h1<;>simp_all
 | some r=>
  obtain⟨h',e1,e2,e3⟩:=Kl (T:=dK (some a)++dK (some b)) bS bS hq;obtain⟨⟨k,s1,h1,⟨⟨m,s',h2,h3⟩⟩⟩⟩:=h ⟨some (dK (some a)++dK (some b)),r.wr,s.s.hp.length,h'.length⟩;refine⟨⟨m,s',?_,h3⟩⟩;simp only[ek,dP]at h1;rw[show bI (M.call k) M.inv s.s (.append elem esz bytes x y)=some r from(keyn k s.s.hp).trans hq]at h1;simp only[d8.injEq]at h1;have ht:je s.s (.append elem esz bytes x y)=some (dK (some a)++dK (some b)):=by
   simp only[je,ha,hb];congr 1
  have hd:fR (dK (some a)++dK (some b)) []=true:=by simp[fR]
  simp only[dI,dP,bg.bF,if_true,ht,iz,hd]<;>grind
end Go.Ab
namespace Go.Ab
variable {P:Program} {gl:Nat->Option AV}
end Go.Ab
namespace Go.Ab
open Go.ChangeShapes Go.WideShapes Go.RowKit
variable {H:Type} {enc:TypeId×Value->H} {P:Program} {W:World} {base:Nat} {sp:Nat->Bool} {t e:TypeId} {v:Value} {d:DataW H} {ps:List MemPlace}
theorem Wx {c:Nat}:cW bare c:=⟨fun b d hb=>by simp[bare]at hb,fun hx=>hx⟩
end Go.Ab
namespace Go.Ab
variable {M:aw}
abbrev ah:=List UInt8
def fU:List Int->Int
 | []=>0
 | e::r=>if e=0 then fU r else e
end Go.Ab
namespace Go.Ab
variable {h:aa} {v:AV} {n:Nat} {s:aq}
variable {M:aw}
structure fJ (M:aw)(f:FuncId)(as:List AV)(h:aa)(K:HR->Prop):Prop where
 out:∃r,aV M f as h r/\K r
theorem fJ.mz {f N:Nat}{aR:List Nat}{res:List fA}{body:ak}{ars:List AV}{K:HR->Prop}(hft:M.FT f=some ⟨N,aR,res,body⟩)(hN:ars.length<=N)
 (hW:W M body ⟨⟨aR.map (fun t=>(ars[t]?).getD bD),[],h,[]⟩,[]⟩ fun e s=>(e = .normal\/e = .ret)/\∃s',mj s.s.bV s=some s'/\∃vs,dx s'.s res=some vs/\K (dy (aW vs) h.length s')):fJ M f ars h K:=by
 obtain⟨⟨n,e,s,h1,h2,s',h3,vs,h4,h5⟩⟩:=hW;refine⟨_,⟨n,?_⟩,h5⟩;have h1':bw M.ext M.inv M.FT n body ⟨⟨aR.map (fun t=>(ars[t]?).getD bD),[],h,[]⟩,[]⟩=some (e,s):=h1;simp only[ix,hft]<;>grind
theorem Dt (hv:v.top<=n)(ht:tight s.s.hp n s.wr=true):dy v n s=⟨v,s.s.hp.take n,s.wr.filter (· < n)⟩:=by
 unfold dy;grind
theorem Wy (ht:tight s.s.hp n s.wr=false):dy v n s=⟨v,s.s.hp,s.wr.filter (· < n)⟩:=by
 unfold dy;grind
theorem amt {t:Nat}{x y:ay}{l:List aX}{pe:List AV}{lo:List (Nat×AV)}{hp:aa}{df wr:List Nat}{a b:ah}{Q:aq->Prop}(hx:(St.mk pe lo hp df).ae x=some (.str a))(hy:(St.mk pe lo hp df).ae y=some (.str b))(hr:a.length+b.length<4611686018427387904)
 (h:WO M l ⟨⟨pe,(t,.str (a++b))::lo,hp,df⟩,wr⟩ Q):WO M (⟨.l t,.bin .add x y,none⟩::l) ⟨⟨pe,lo,hp,df⟩,wr⟩ Q:=
 abL (v:=.str (a++b)) (by simp only[aY,hx,hy,cU];grind) rfl h
theorem Wz {J:aa}(hh:s.s.hp=h++J)(hw:∀x∈s.wr,h.length<=x)(hv:v.top<=h.length):dy v h.length s=⟨v,h,[]⟩:=by
 have hf:s.wr.filter (· < h.length)=[]:=by
  rw[List.filter_eq_nil_iff];intro x hx;have:=hw x hx;simp;omega
 have ht:tight s.s.hp h.length s.wr=true:=by
  simp only[tight,c3];intro x hx;have:=hw x hx;split <;> simp[this]
 grind[Dt]
theorem mA {g N:Nat}{aR:List Nat}{res:List fA}{body:ak}{ars:List AV}(hft:M.FT g=some ⟨N,aR,res,body⟩)(hN:ars.length<=N)(hv:v.top<=h.length)
 (hW:W M body ⟨⟨aR.map (fun t=>(ars[t]?).getD bD),[],h,[]⟩,[]⟩ fun x s=>(x = .normal\/x = .ret)/\s.s.bV=[]/\(∃J,s.s.hp=h++J)/\(∀x∈s.wr,h.length<=x)/\∃vs,dx s.s res=some vs/\aW vs=v):aV M g ars h ⟨v,h,[]⟩:=by
 refine xw hft hN (hW.mono fun x s ⟨h1,h2,⟨J,h3⟩,h4,vs,h5,h6⟩=>⟨h1,h2,vs,h5,?_⟩);grind[Wz]
section
variable {t b j:Nat} {x y:ay} {l:List aX} {pe:List AV} {lo:List (Nat×AV)} {hp:aa} {df wr:List Nat} {c:List AV} {e:TypeId} {Q:aq->Prop}
theorem alQ {ag:Bool}(hx:(St.mk pe lo hp df).ae x=some (.ptr b j))(hb:hp.at b=some (.cells c e))(hv:partOf (c.drop j) 0 n ag=some v)
 (h:WO M l ⟨⟨pe,(t,v)::lo,hp,df⟩,wr⟩ Q):WO M (⟨.l t,.load n ag x,none⟩::l) ⟨⟨pe,lo,hp,df⟩,wr⟩ Q:=
 afC (v:=v) (h':=hp) (w':=[]) (by simp only[bG,hx,ce,fP,hb,hv]) rfl rfl h
theorem afG {new:List AV}(hx:(St.mk pe lo hp df).ae x=some (.ptr b j))(hy:((St.mk pe lo hp df).ae y).bind AV.cells=some new)(hb:hp.at b=some (.cells c e))(hn:new.length=n/\j+n<=c.length/\new.all cI=true){c':List AV}(hc:overwrite c j new=c')
 (h:WO M l ⟨⟨pe,lo,hp.put b (some (.cells c' e)),df⟩,b::wr⟩ Q):WO M (⟨.no,.store n x y,none⟩::l) ⟨⟨pe,lo,hp,df⟩,wr⟩ Q:=by
 subst hc;refine alP (v:=bD) (h':=hp.put b (some (.cells (overwrite c j new) e))) (w':=[b]) ?_ rfl rfl h;simp only[bG,hx,hy,hb]<;>grind
theorem anp (hx:(St.mk pe lo hp df).ae x=some (.ptr b j))(hb:hp.at b=some (.cells c e))(hj:j<c.length)
 (h:WO M l ⟨⟨pe,(t,.ptr b j)::lo,hp,df⟩,wr⟩ Q):WO M (⟨.l t,.lf none x,none⟩::l) ⟨⟨pe,lo,hp,df⟩,wr⟩ Q:=
 afC (v:=.ptr b j) (h':=hp) (w':=[]) (by simp only[bG,hx,hb];grind) rfl rfl h
theorem anq (hx:(St.mk pe lo hp df).ae x=some (.ptr b 0))(hb:hp.at b=some (.cells c e))(hj:0<n/\c.length=n)
 (h:WO M l ⟨⟨pe,(t,.ptr b 0)::lo,hp,df⟩,wr⟩ Q):WO M (⟨.l t,.lf (some (e,n)) x,none⟩::l) ⟨⟨pe,lo,hp,df⟩,wr⟩ Q:=
 afC (v:=.ptr b 0) (h':=hp) (w':=[]) (by simp only[bG,hx,hb];grind) rfl rfl h
theorem anr {neg:Bool}(hx:(St.mk pe lo hp df).ae x=some (.ptr b j))(hy:(St.mk pe lo hp df).ae y=some (.ptr b j))(hb:hp.at b=some (.cells c e))
 (h:WO M l ⟨⟨pe,(t,.bool !neg)::lo,hp,df⟩,wr⟩ Q):WO M (⟨.l t,.oC neg x y,none⟩::l) ⟨⟨pe,lo,hp,df⟩,wr⟩ Q:=
 afC (v:=.bool !neg) (h':=hp) (w':=[]) (by simp[bG,hx,hy,hb]) rfl rfl h
end
theorem Km {H:aa}{wr:List Nat}(hh:s.s.hp=H)(hw:s.wr=wr)(ht:tight H n wr=false):dy v n s=⟨v,H,wr.filter (· < n)⟩:=by
 grind[Wy]
theorem ans {t c o e:Nat}{x:ay}{l:List aX}{pe:List AV}{lo:List (Nat×AV)}{hp:aa}{df wr:List Nat}{cap:Option Nat}{Q:aq->Prop}(hx:(St.mk pe lo hp df).ae x=some (.sl c o n e cap))(hn:0<n)
 (h:WO M l ⟨⟨pe,(t,.ptr c o)::lo,hp,df⟩,wr⟩ Q):WO M (⟨.l t,.sr x,none⟩::l) ⟨⟨pe,lo,hp,df⟩,wr⟩ Q:=by
 cases n with
 | zero=>exact absurd hn be
 | succ m=>exact abL (v:=.ptr c o) (by simp only[aY,hx]) rfl h
theorem ant {t c:Nat}{e:TypeId}{x y:ay}{l:List (aX×List Nat)}{pe:List AV}{lo:List (Nat×AV)}{hp:aa}{df wr:List Nat}{ds:List bY}{cs cs':List AV}{k:IntKind}{n:Int}{s:ah}{Q:aq->Prop}(hx:(St.mk pe lo hp df).ae x=some (.ptr c 0))(hy:(St.mk pe lo hp df).ae y=some (.int k n))
 (hb:hp.at c=some (.cells cs e)) (hn:0<n/\n<=70368744177664) (hc:cut cs 0 n.toNat=some cs') (hs:bytesOf cs'=some s) (h:∀dn,WD M l ⟨⟨pe,(t,.str s)::lo,hp.put c none,df⟩,[c]++wr⟩ (ds++[dn]) Q):WD M ((⟨.l t,.kq e x y,none⟩,[])::l) ⟨⟨pe,lo,hp,df⟩,wr⟩ ds Q:=by
 have hT:([c]:List Nat).contains c=true:=by simp
 have hk:(cd [c] hp 0).at c=hp.at c:=by rw[tp,if_pos hT]
 obtain⟨⟨m,s',h2,h3⟩⟩:=h ⟨some [c],[c],hp.length,(aa.put (cd [c] hp 0) c none).length⟩;refine⟨⟨m,s',?_,h3⟩⟩;have hx':(St.mk pe lo (cd [c] hp 0) df).ae x=some (.ptr c 0):=by rw[←hx];cases x <;> rfl
 have hy':(St.mk pe lo (cd [c] hp 0) df).ae y=some (.int k n):=by rw[←hy];cases y <;> rfl
 have key:bI (M.call m) M.inv ⟨pe,lo,cd [c] hp 0,df⟩ (.kq e x y)=some ⟨.str s,aa.put (cd [c] hp 0) c none,[c]⟩:=by
  simp only[bI,bg.bF,if_true,bG,hx',hy',hk,hb,hc,hs];rw[if_pos ac]
 have ht:je ⟨pe,lo,hp,df⟩ (.kq e x y)=some [c]:=by
  simp only[je,hx]
 have hd:fR [c] []=true:=by simp[fR]
 have hsome:((cd [c] hp 0).at c).isSome=true:=by rw[hk,hb];rfl
 simp only[dI,dP,bg.bF,if_true,ht,iz,hd,key];simp only[List.all_cons,f6,hsome,jq,Bool.or_true,if_true,Dm];exact h2
theorem WH {H:aa}{wr:List Nat}(hh:s.s.hp=H)(hw:s.wr=wr)(hv:v.top<=n)(ht:tight H n wr=true):dy v n s=⟨v,H.take n,wr.filter (· < n)⟩:=by
 grind[Dt]
end Go.Ab
namespace Go.Ab
variable {un:List Nat} {ds:List bY}
variable {M:aw} {t:Nat} {x y z:ay} {l:List aX} {pe:List AV} {lo:List (Nat×AV)} {hp:aa} {df wr:List Nat} {s r:ah} {k k':IntKind} {a b:Int} {Q:aq->Prop}
theorem aia (hx:(St.mk pe lo hp df).ae x=some (.str s))(hy:(St.mk pe lo hp df).ae y=some (.int k a))(ha:0<=a/\a<=s.length)(hr:s.drop a.toNat=r)
 (h:WO M l ⟨⟨pe,(t,.str r)::lo,hp,df⟩,wr⟩ Q):WO M (⟨.l t,.slice .str 1 x (some y) none none,none⟩::l) ⟨⟨pe,lo,hp,df⟩,wr⟩ Q:=by
 subst hr;refine abL (v:=.str (s.drop a.toNat)) ?_ rfl h;simp only[aY,hx,St.cZ,hy,ci,jo,bR];rw[if_pos ha];grind[f8]
theorem aib (hx:(St.mk pe lo hp df).ae x=some (.str s))(hy:(St.mk pe lo hp df).ae y=some (.int k a))(ha:0<=a/\a<=s.length)(hr:s.take a.toNat=r)
 (h:WO M l ⟨⟨pe,(t,.str r)::lo,hp,df⟩,wr⟩ Q):WO M (⟨.l t,.slice .str 1 x none (some y) none,none⟩::l) ⟨⟨pe,lo,hp,df⟩,wr⟩ Q:=by
 subst hr;refine abL (v:=.str (s.take a.toNat)) ?_ rfl h;simp only[aY,hx,St.cZ,hy,ci,jo,bR]<;>grind
theorem amW (hx:(St.mk pe lo hp df).ae x=some (.str s))(hy:(St.mk pe lo hp df).ae y=some (.int k a))(hz:(St.mk pe lo hp df).ae z=some (.int k' b))(ha:0<=a/\a<=b/\b<=s.length)(hr:(s.drop a.toNat).take (b.toNat-a.toNat)=r)
 (h:WO M l ⟨⟨pe,(t,.str r)::lo,hp,df⟩,wr⟩ Q):WO M (⟨.l t,.slice .str 1 x (some y) (some z) none,none⟩::l) ⟨⟨pe,lo,hp,df⟩,wr⟩ Q:=by
 subst hr;refine abL (v:=.str ((s.drop a.toNat).take (b.toNat-a.toNat))) ?_ rfl h;have h1:0<=b/\b<=(s.length:Int):=⟨ac,ha.2.2⟩;have h2:0<=a/\a<=(b.toNat:Int):=⟨ha.1,ac⟩;simp only[aY,hx,St.cZ,hy,hz,ci,jo,bR]<;>grind
theorem anu {m:Int}(hx:(St.mk pe lo hp df).ae x=some (.int k a))(hy:(St.mk pe lo hp df).ae y=some (.int k b))(hm:m=a/\a<=b\/m=b/\b<=a)
 (h:WO M l ⟨⟨pe,(t,.int k m)::lo,hp,df⟩,wr⟩ Q):WO M (⟨.l t,.mm false [x,y],none⟩::l) ⟨⟨pe,lo,hp,df⟩,wr⟩ Q:=by
 refine abL (v:=.int k m) ?_ rfl h;simp only[aY,St.cM,hx,hy];have e:(if b<a then b else a)=m:=by split <;> omega
 simp[oG,e]
def tu (d:bY):Bool:=match d.jB with
 | some []=>d.wr.isEmpty && decide (d.hi-d.lo=0)
 | _=>false
theorem Kn {d:bY}(h:tu d=true):d.own=[]/\d.jB=some []:=by
 unfold tu at h;split at h
 . rename_i ht;rw[i3,i4,decide_eq_true_eq]at h;exact⟨by rw[bY.own,h.1,h.2];rfl,ht⟩
 . cases h
theorem WI (hu:un.all (fun j=>match ds[j]? with|some d=>tu d|none=>false)=true):(un.flatMap fun j=>(ds[j]?).elim [] bY.own)=[]:=by
 rw[List.flatMap_eq_nil_iff];intro j hj;have:=c3.1 hu j hj;cases hd:ds[j]? with
 | none=>rfl
 | some d=>grind[Kn]
theorem WJ (hu:un.all (fun j=>match ds[j]? with|some d=>tu d|none=>false)=true)(wr:List Nat):(un.all fun j=>match ds[j]? with|some d=>(match d.jB with|some T=>fR wr T|none=>false)|none=>false)=true:=by
 rw[c3];intro j hj;have:=c3.1 hu j hj;cases hd:ds[j]? with
 | none=>grind
 | some d=>
  rw[hd]at this;simp only[(Kn this).2];simp[fR]
theorem amM {d:eZ}{elem:TypeId}{esz bytes:Nat}{x y:ay}{l:List (aX×List Nat)}{s:aq}{a b:AV}{Q:aq->Prop}(ha:s.s.ae x=some a)(hb:s.s.ae y=some b)
 (hu:un.all (fun j=>match ds[j]? with|some d=>tu d|none=>false)=true) (h:∀dn,WO M [⟨d,.append elem esz bytes x y,none⟩] s fun s'=>WD M l s' (ds++[dn]) Q):WD M ((⟨d,.append elem esz bytes x y,none⟩,un)::l) s ds Q:=by
 have key:∀h0,bI (M.call 0) M.inv { s.s with hp:=h0 } (.append elem esz bytes x y)=gw elem esz bytes h0 a b:=fun h0=>by
  have hx':(St.mk s.s.pe s.s.lo h0 s.s.bV).ae x=some a:=by rw[←ha];cases x <;> rfl
  have hy':(St.mk s.s.pe s.s.lo h0 s.s.bV).ae y=some b:=by rw[←hb];cases y <;> rfl
  simp only[bI,bg.bF,if_true,bG,hx',hy']
 have keyn:∀n h0,bI (M.call n) M.inv { s.s with hp:=h0 } (.append elem esz bytes x y)=gw elem esz bytes h0 a b:=fun n h0=>by
  have hx':(St.mk s.s.pe s.s.lo h0 s.s.bV).ae x=some a:=by rw[←ha];cases x <;> rfl
  have hy':(St.mk s.s.pe s.s.lo h0 s.s.bV).ae y=some b:=by rw[←hb];cases y <;> rfl
  simp only[bI,bg.bF,if_true,bG,hx',hy']
 cases hq:gw elem esz bytes s.s.hp a b with
 | none=>
  obtain⟨⟨k,s1,h1,_⟩⟩:=h ⟨none,[],0,0⟩;simp only[ek,dP]at h1<;>simp_all
 | some r=>
  obtain⟨h',e1,e2,e3⟩:=Kl (T:=dK (some a)++dK (some b)) bS bS hq;obtain⟨⟨k,s1,h1,⟨⟨m,s',h2,h3⟩⟩⟩⟩:=h ⟨some (dK (some a)++dK (some b)),r.wr,s.s.hp.length,h'.length⟩;refine⟨⟨m,s',?_,h3⟩⟩;simp only[ek,dP]at h1;rw[show bI (M.call k) M.inv s.s (.append elem esz bytes x y)=some r from(keyn k s.s.hp).trans hq]at h1;simp only[d8.injEq]at h1;have ht:je s.s (.append elem esz bytes x y)=some (dK (some a)++dK (some b)):=by
   simp only[je,ha,hb];congr 1
  have hU:=WI hu;have hW:=WJ hu r.wr;have hd:fR (dK (some a)++dK (some b)) []=true:=by simp[fR]
  simp only[dI,dP,bg.bF,if_true,ht,hU,hd]<;>grind
end Go.Ab
namespace Go.Ab
variable {e:TypeId}
variable {M:aw}
theorem akO {u n b off:Nat}{ag:Bool}{x:ay}{L:List aX}{pe:List AV}{lo:List (Nat×AV)}{hp:aa}{df wr:List Nat}{c:List AV}{v:AV}{Q:aq->Prop}(hx:(St.mk pe lo hp df).ae x=some (.ptr b off))(hb:hp.at b=some (.cells c e))(hv:partOf (c.drop off) 0 n ag=some v)
 (h:WO M L ⟨⟨pe,(u,v)::lo,hp,df⟩,wr⟩ Q):WO M (⟨.l u,.load n ag x,none⟩::L) ⟨⟨pe,lo,hp,df⟩,wr⟩ Q:=
 afC (v:=v) (h':=hp) (w':=[]) (by simp only[bG,hx,ce,fP,hb,hv]) rfl rfl h
theorem amu {n:Nat}{x y:ay}{L:List aX}{pe:List AV}{lo:List (Nat×AV)}{K:aa}{df wr:List Nat}{c c' new:List AV}{Q:aq->Prop}(hx:(St.mk pe lo (K++[some (.cells c e)]) df).ae x=some (.ptr K.length 0))(hy:((St.mk pe lo (K++[some (.cells c e)]) df).ae y).bind AV.cells=some new)
 (hn:new.length=n/\n<=c.length/\new.all cI=true) (ho:overwrite c 0 new=c') (h:WO M L ⟨⟨pe,lo,K++[some (.cells c' e)],df⟩,K.length::wr⟩ Q):WO M (⟨.no,.store n x y,none⟩::L) ⟨⟨pe,lo,K++[some (.cells c e)],df⟩,wr⟩ Q:=by
 obtain⟨h1,h2,h3⟩:=hn;refine alP (v:=bD) (h':=K++[some (.cells c' e)]) (w':=[K.length]) ?_ rfl rfl h;simp only[bG,hx,hy,cC,Nat.zero_add];rw[if_pos ⟨h1,h2,h3⟩,ho];simp[aa.put]
def Du {α:Type}(f:α->List AV)(esz:Nat)(e:TypeId)(hp:aa)(o:AV)(acc:List α)(S:List Nat):Prop:=(acc=[]/\o = .ab)\/∃c,acc≠[]/\c∉S/\o = .sl c 0 acc.length esz none/\hp.at c=some (.cells (arr f acc) e)
theorem Du.fin {α:Type}{f:α->List AV}{esz:Nat}{hp:aa}{o:AV}{acc:List α}{S:List Nat}(h:Du f esz e hp o acc S):Du f esz e (if (aW [o]).top<=0 then [] else hp) o acc S:=by
 rcases h with ⟨h1,rfl⟩|⟨c,h0,h1,rfl,h2⟩
 . exact .inl ⟨h1,rfl⟩
 . refine .inr ⟨c,h0,h1,rfl,?_⟩;rw[if_neg (by simp[aW,AV.top])];exact h2
end Go.Ab
namespace Go.Ab
variable {M:aw} {P:Program} {gl:Nat->Option AV}
open Classical in
noncomputable def py (R:List AV->aa->HR->Prop):Spec:=fun as h=>if e:∃r,R as h r then some (Classical.choose e) else none
theorem Dv {f:Nat}{R:List AV->aa->HR->Prop}(hR:∀as h r,R as h r->bX P gl ⟨f,as,h,r⟩):aT P gl f (py R):=by
 intro as h r hq;unfold py at hq;split at hq<;>grind
theorem Dw {R:List AV->aa->HR->Prop}{as:List AV}{h:aa}{r:HR}(hr:R as h r)(hd:∀r',R as h r'->r'=r):py R as h=some r:=by
 unfold py;rw[dif_pos ⟨r,hr⟩];grind
section
variable {α:Type} {f:α->List AV} {esz:Nat}
theorem Kp (hf:∀a,(f a).length=esz)(hi:∀a b,f a=f b->a=b):∀{l m:List α},l.length=m.length->arr f l=arr f m->l=m
 | [],[],_,_=>rfl
 | a::l,b::m,hl,h=>by
  rw[gD,gD]at h;have:=List.append_inj h bS;rw[hi _ _ this.1,Kp hf hi bS this.2]
theorem Sl.jL {h:aa}:Sl f h .ab ([]:List α):=.inl ⟨rfl,rfl⟩
theorem Sl.gN (hf:∀a,(f a).length=esz){h:aa}{l:List α}{b n:Nat}{e:TypeId}{cap:Option Nat}(hb:h.at b=some (.cells (arr f l) e))(hn:l.length=n):Sl f h (.sl b 0 n esz cap) l:=by
 subst hn;refine .inr (.inr ⟨b,0,esz,cap,_,e,rfl,hb,?_⟩);have:=ji hf (l:=l) (i:=0) (n:=l.length) ac<;>grind
end
end Go.Ab
namespace Go.Ab
open Go.ChangeShapes Go.WideShapes Go.RowKit
inductive iU
 | bool
 | int (k:IntKind)
 | str
 | slice (es:List iU)
mutual
def Has:iU->AV->Prop
 | .bool,x=>∃b,x = .bool b
 | .int k,x=>∃n,x = .int k n/\(Lit.int k n).wf=true
 | .str,x=>∃s:List UInt8,x = .str s/\s.length<=maxLen
 | .slice es,x=>∃ls:List (List AV),x = .vs ls.flatten ls.length none/\ls.length<=maxLen/\∀c∈ls,dS es c
def dS:List iU->List AV->Prop
 | [],l=>l=[]
 | t::ts,l=>∃x r,l=x::r/\Has t x/\dS ts r
end
theorem dS.length:∀{ts:List iU} {l:List AV},dS ts l->l.length=ts.length
 | [],l,h=>by simp only[dS]at h;grind
 | t::ts,l,h=>by
  simp only[dS]at h;obtain⟨x,r,rfl,_,h2⟩:=h;simp[h2.length]
theorem dS.append:∀{ts us:List iU} {l m:List AV},dS ts l->dS us m->dS (ts++us) (l++m)
 | [],us,l,m,h,h'=>by simp only[dS]at h;grind
 | t::ts,us,l,m,h,h'=>by
  simp only[dS]at h;obtain⟨x,r,rfl,h1,h2⟩:=h;simp only[fT,dS];exact⟨x,r++m,rfl,h1,h2.append h'⟩
section
variable (P:Program)
def xy (rec:TypeId->Option (List iU)):List Field->Nat->Option (List iU)
 | [],_=>some []
 | f::fs,o=>if f.offset=o then match rec f.type with
     | some l=>if l.length=P.cellsOf f.type then (xy rec fs (o+l.length)).map (l ++ ·) else none
     | none=>none
   else none
def mB:Nat->TypeId->Option (List iU)
 | 0,_=>none
 | n+1,t=>match P.underlying t with
   | some .bool=>some [.bool]
   | some (.int k)=>some [.int k]
   | some .string=>some [.str]
   | some (.slice e)=>match mB n e with
     | some (c::r)=>if (c::r).length=P.cellsOf e then some [.slice (c::r)] else none
     | _=>none
   | some (.struct fs)=>match xy P (mB n) fs.toList 0 with
     | some l=>if l.length=P.cellsOf t then some l else none
     | none=>none
   | some (.array m e)=>match mB n e with
     | some l=>if l.length=P.cellsOf e/\(gT m l).flatten.length=P.cellsOf t then some (gT m l).flatten else none
     | none=>none
   | _=>none
end
variable {H:Type} {enc:TypeId×Value->H} {P:Program} {W:World}
def Dx (H:Type)(enc:TypeId×Value->H)(P:Program)(W:World)(t:TypeId)(l:List iU):Prop:=
 ∀(fuel:Nat) (cs:List Value) (x:DataW H×List MemPlace),DataW.trod enc P W 0 (fun _=>true) true fuel t cs=some x->∃xs,dS l xs/\VL bare W xs cs
theorem Kq (rec:TypeId->Option (List iU))(hrec:∀t l,rec t=some l->Dx H enc P W t l){cs:List Value}:∀(fs:List Field) (o:Nat) (l:List iU),xy P rec fs o=some l->o<=cs.length ->
 (∀(i:Nat) (f:Field),fs[i]? = some f->∃(n:Nat) (x:DataW H×List MemPlace),DataW.trod enc P W 0 (fun _=>true) true n f.type ((cs.drop f.offset).take (P.cellsOf f.type))=some x) ->
 ∃xs,dS l xs/\VL bare W xs ((cs.drop o).take l.length)
 | [],o,l,h,_,_=>by
  cases h;exact⟨[],rfl,by simpa using VL.nil⟩
 | f::fs,o,l,h,ho,hf=>by
  simp only[xy]at h;split at h
  . rename_i hoff;split at h
    . rename_i l1 hl1;split at h
      . rename_i hlen;rw[f7]at h;obtain⟨l2,hl2,rfl⟩:=h;obtain⟨n,x,hx⟩:=hf 0 f rfl;rw[hoff,←hlen]at hx;obtain⟨xs1,g1,g2⟩:=hrec _ _ hl1 _ _ _ hx;have e1:((cs.drop o).take l1.length).length=l1.length:=by rw[←g2.1,g1.length]
        have ho':o+l1.length<=cs.length:=by simp at e1;omega
        obtain⟨xs2,g3,g4⟩:=Kq rec hrec fs (o+l1.length) l2 hl2 ho' (fun i f hi=>hf (i+1) f hi);refine⟨xs1++xs2,g1.append g3,?_⟩;have e2:(cs.drop o).take (l1++l2).length=(cs.drop o).take l1.length++(cs.drop (o+l1.length)).take l2.length:=by
         rw[d6,jD,i7]
        rw[e2];exact g2.append g4
      . cases h
    . cases h
  . cases h
theorem Kr (l:List iU){e:TypeId}(he:Dx H enc P W e l){cs:List Value}:∀(m o:Nat),o+m*l.length<=cs.length ->
 (∀i,i<m->∃(n:Nat) (x:DataW H×List MemPlace),DataW.trod enc P W 0 (fun _=>true) true n e ((cs.drop (o+i*l.length)).take l.length)=some x) ->
 ∃xs,dS (gT m l).flatten xs/\VL bare W xs ((cs.drop o).take (m*l.length))
 | 0,o,_,_=>⟨[],rfl,by simpa using VL.nil⟩
 | m+1,o,ho,h=>by
  obtain⟨n,x,hx⟩:=h 0 ac;rw[f9,Nat.add_zero]at hx;obtain⟨xs1,g1,g2⟩:=he _ _ _ hx;have e0:(m+1)*l.length=l.length+m*l.length:=by rw[Nat.add_mul];omega
  obtain⟨xs2,g3,g4⟩:=Kr (cs:=cs) l he m (o+l.length) ac bS;refine⟨xs1++xs2,?_,?_⟩
  . rw[List.replicate_succ,dN];exact g1.append g3
  . rw[e0,jD,i7];exact g2.append g4
theorem Ks {n:Nat}:∀{ls:List (List AV)} {j:Nat} {x:AV},0<n->(∀c∈ls,c.length=n)->ls.flatten[j]? = some x->∃c,ls[j/n]? = some c/\c[j%n]? = some x
 | [],j,x,_,_,h=>by simp at h
 | a::ls,j,x,hn,hl,h=>by
  have ha:a.length=n:=hl a be;rw[dN]at h;rcases ip j n with hj|hj
  . rw[b8 ac]at h;refine⟨a,?_,?_⟩
    . rw[Nat.div_eq_of_lt hj];rfl
    . rw[c7 hj];exact h
  . rw[b7 ac,ha]at h;obtain⟨c,h1,h2⟩:=Ks (j:=j-n) hn bS h;have e1:j/n=(j-n)/n+1:=by
     rw[←Nat.add_div_right _ hn,Nat.sub_add_cancel hj]
    have e2:j%n=(j-n)%n:=by
     rw[←Nat.mod_eq_sub_mod hj]
    grind
theorem Kt {n:Nat}:∀{ls:List (List AV)},(∀c∈ls,c.length=n)->ls.flatten.length=ls.length*n
 | [],_=>by simp
 | a::ls,h=>by
  rw[dN,d6,h a be,Kt (fun c hc=>h c (by simp[hc])),c8,Nat.add_mul];omega
theorem xz:∀(n:Nat) (t:TypeId) (l:List iU),mB P n t=some l->Dx H enc P W t l
 | 0,t,l,h=>by cases h
 | n+1,t,l,h=>by
  intro fuel cs x hx;unfold mB at h;split at h
  . rename_i hu;cases h;obtain⟨b,rfl,_⟩:=DataW.trod_bool hu hx;exact⟨[.bool b],by simp[dS,Has],.cons (.bool b) .nil⟩
  . rename_i k hu;cases h;obtain⟨z,rfl,_,hw⟩:=DataW.trod_int hu hx;refine⟨[.int k z],?_,.cons (.int k z) .nil⟩;simp only[dS,Has];exact⟨_,[],rfl,⟨z,rfl,hw⟩,rfl⟩
  . rename_i hu;cases h;obtain⟨z,rfl,_,hw⟩:=DataW.trod_string hu hx;refine⟨[.str z.data.toList],?_,.cons (.Ca z) .nil⟩;simp only[dS,Has];have e:z.data.toList.length=z.size:=Array.length_toList;exact⟨_,[],rfl,⟨_,rfl,ac⟩,rfl⟩
  . rename_i e hu;split at h
    . rename_i c r hc;split at h
      . rename_i hlen;cases h;have he:=xz n e (c::r) hc;rcases Go.Deep.open_slice hu hx with ⟨rfl,_⟩|⟨a,len,cap,m,k,D,Pl,rfl,_,hle,hcap,hm,_,hall⟩
        . refine⟨[.vs [] 0 none],?_,.cons (.ff be) .nil⟩;simp only[dS,Has];exact⟨_,[],rfl,⟨[],rfl,d9 _,be⟩,rfl⟩
        . have hm':m=cap:=by simpa using hm
          subst hm';by_cases h0:m=0
          . subst h0;obtain rfl:len=0:=by omega
            refine⟨[.vs [] 0 none],?_,.cons (.fY a be) .nil⟩;simp only[dS,Has];exact⟨_,[],rfl,⟨[],rfl,d9 _,be⟩,rfl⟩
          . rw[←hlen]at hall;have hn0:0<(c::r).length:=by simp
            generalize hes:(c::r)=es at *
            have hsp:a.spot=none:=by
             obtain⟨cs',h1,_⟩:=hall 0 ac;obtain⟨_,hl3,hc3⟩:=it h1;have h5:=hc3 0 ac;rw[b5 ac]at h5;have:=World.cell?_spot h5;simpa[Addr.add] using this
            obtain⟨b,off,spot⟩:=a;simp only at hsp;subst hsp;have hex:∀i,i<len->∃cx:List Value×List AV,W.cells? 0 ((Addr.mk b off none).add (i*es.length)) es.length=some cx.1/\dS es cx.2/\VL bare W cx.2 cx.1:=fun i hi=>by
             obtain⟨cs',h1,h2⟩:=hall i ac;obtain⟨xs,h3,h4⟩:=he _ _ _ h2;exact⟨(cs',xs),h1,h3,h4⟩
            obtain⟨f,hf⟩:=Go.Deep.choose_lt (α:=List Value×List AV) hex;have hL:∀c∈(d7 len).map (fun i=>(f i).2),dS es c:=bS;have hLl:∀c∈(d7 len).map (fun i=>(f i).2),c.length=es.length:=fun c hc=>(hL c hc).length
            refine⟨[.vs ((d7 len).map (fun i=>(f i).2)).flatten len none],?_,.cons ?_ .nil⟩
            . simp only[dS,Has];exact⟨_,[],rfl,⟨_,be,bS,hL⟩,rfl⟩
            . have hfl:=Kt hLl;rw[List.length_map,List.length_range]at hfl;have hdiv:∀i,i<len*es.length->i/es.length<len:=fun i hi=>(Nat.div_lt_iff_lt_mul hn0).2 hi
              refine .vs b off (fun j=>((f (j/es.length)).1[j%es.length]?).getD (.bool false)) (fun _=>Wx) hle be (fun j hj=>?_) (fun j x hx=>?_)
              . rw[hfl]at hj;obtain⟨h1,_,h3⟩:=hf _ (hdiv j hj);obtain⟨_,hl3,hc3⟩:=it h1;have hmod:=Nat.mod_lt j hn0;have:=hc3 (j%es.length) ac;rw[add_plain,add_plain]at this;have e:off+j=off+j/es.length*es.length+j%es.length:=by
                 have:=i5 j es.length;rw[Nat.mul_comm]at this;omega
                rw[e,this,b5 ac];rfl
              . obtain⟨c',h1,h2⟩:=Ks hn0 hLl hx;have hlt:j<len*es.length:=by
                 rw[←hfl];exact(b6.1 hx).1
                have hd:=hdiv j hlt;rw[List.getElem?_map,List.getElem?_range hd,ci]at h1;cases h1;obtain⟨g1,g2,g3⟩:=hf _ hd;have hmod:=Nat.mod_lt j hn0;have hl3:j%es.length<(f (j/es.length)).1.length:=by rw[←g3.1,g2.length];exact hmod
                rw[b5 hl3];exact g3.2 _ _ _ h2 (b5 hl3)
      . cases h
    . cases h
  . rename_i fs hu;split at h
    . rename_i l' hl';split at h
      . rename_i hlen;cases h;obtain⟨xs,k,_,_,hcl,hxl,hall⟩:=DataW.trod_struct hu hx;have:=Kq (H:=H) (enc:=enc) (W:=W) (cs:=cs) (mB P n) (fun t l ht=>xz n t l ht) fs.toList 0 _ hl' (d9 _) (fun i f hi=>by
         grind)
        grind
      . cases h
    . cases h
  . rename_i m e hu;split at h
    . rename_i l' hl';split at h
      . rename_i hlen;cases h;obtain⟨h1,h2⟩:=hlen;obtain⟨xs,k,_,_,hcl,hxl,hall⟩:=DataW.trod_array hu hx;have e2:m*l'.length=cs.length:=by rw[hcl,←h2];simp
        have:=Kr (H:=H) (enc:=enc) (W:=W) (cs:=cs) l' (xz n e l' hl') m 0 ac (fun i hi=>by
         grind)
        grind
      . cases h
    . cases h
  . cases h
theorem Ku {n:Nat}{t:TypeId}{c:iU}{base:Nat}{v:Value}{d:DataW H}{ps:List MemPlace}(hc:mB P n t=some [c])(hv:v.cells.toList=[v])(h:DataW.Trod enc P W base (fun _=>true) true t v d ps)(hb:base=0):∃x,Has c x/\V bare W x v:=by
 subst hb;obtain⟨fuel,hf⟩:=h;rw[hv]at hf;obtain⟨xs,h1,h2⟩:=xz n t _ hc _ _ _ hf;simp only[dS]at h1;obtain⟨x,r,rfl,h3,rfl⟩:=h1;exact⟨x,h3,h2.2 0 x v rfl rfl⟩
theorem Kv {α:Type}{f:α->List AV}{es:List iU}(hf:∀c,dS es c->∃a,c=f a):∀ls:List (List AV),(∀c∈ls,dS es c)->∃l:List α,ls.flatten=arr f l/\ls.length=l.length
 | [],_=>⟨[],rfl,rfl⟩
 | c::ls,h=>by
  obtain⟨a,rfl⟩:=hf c (h c be);obtain⟨l,h1,h2⟩:=Kv hf ls bS;exact⟨a::l,by rw[dN,h1,gD],by simp[h2]⟩
theorem Dy {α:Type}{f:α->List AV}{es:List iU}(hf:∀c,dS es c->∃a,c=f a){x:AV}(h:Has (.slice es) x):∃l:List α,x = .vs (arr f l) l.length none/\l.length<=maxLen:=by
 simp only[Has]at h;obtain⟨ls,rfl,h1,h2⟩:=h;obtain⟨l,h3,h4⟩:=Kv hf ls h2;grind
end Go.Ab
namespace Go.Ab
variable {FT:FuncId->Option dv}
variable {P:Program} {gl:Nat->Option AV}
def kf (ρ:az):az:=⟨fun _=>.fresh,ρ.X⟩
theorem cW.kf {ρ:az}{c:Nat}(h:¬ρ.X c):cW (kf ρ) c:=⟨fun b d hb=>by simp[Go.Ab.kf]at hb,h⟩
theorem WK (hgl:∀g v,gl g=some v->v.top=0){w:World}{ρ:az}{T:List Nat}{v v1:AV}{hh:aa}{v':Value}{w':World}(hf:Fr hh T v v1)(ht:v1.top=0)(hd:fg P gl (dJ ρ []) [] w ⟨v,hh,[]⟩ v' w'):fg P gl (dJ ρ []) [] w ⟨v1,[],[]⟩ v' w':=by
 obtain⟨ρ',hv,m',x⟩:=hd;have hF:∀c,cW (dJ ρ' T) c->cW (kf ρ') c:=fun c hc=>cW.kf fun hx=>hc.2 (.inl hx)
 have hF':∀c,cW ρ' c->cW (kf ρ') c:=fun c hc=>cW.kf hc.2
 refine⟨kf ρ',(hf.view m' hv).ik (n:=0) be hF ac,?_,?_⟩
 . refine⟨be,fun b _=>rfl,fun b b' c d d' h1=>by simp[kf]at h1,fun b c d h1=>by simp[kf]at h1,m'.xb,fun b c d h1=>by simp[kf]at h1,fun g v hg=>?_⟩;exact(m'.gl g v hg).ik (n:=0) be hF' bS
 . refine⟨x.os,x.tape,x.output,x.size,dO _,x.X,be,be,fun b c d hb=>by simp[dJ]at hb,fun b hb=>by simp[dJ]at hb,fun b hb=>by simp[dJ]at hb,fun c hc _=>x.ck c hc ac,fun b c d hb _=>by simp[kf]at hb,x.shape⟩
theorem WL (hgl:∀g v,gl g=some v->v.top=0){f:Nat}{as:List AV}{h:aa}{v v1:AV}{hh:aa}{T:List Nat}(ha:bc as=0)(hf:Fr hh T v v1)(ht:v1.top=0)(hloc:bX P gl ⟨f,as,[],⟨v,hh,[]⟩⟩):bX P gl ⟨f,as,h,⟨v1,h,[]⟩⟩:=by
 refine⟨⟨dO _,fun _ _ _=>rfl⟩,fun ρ w as' m hl=>?_⟩;obtain⟨nx,w1,h1,h2⟩:=hloc.2 (dJ ρ []) w as' (m.dJ hgl []) ((iB.same ha).view m hl);refine⟨nx,w1,h1,h2.mono fun v w' hd=>?_⟩;have:=JY (S:=[]) (ks:=[]) (bs:=[]) m be (.same ht) rfl be (.inl rfl) (WK hgl hf ht hd)<;>grind
theorem WM (hs:kG P gl FT){T:List (Nat×Spec)}(hT:cD P gl (bk T)){f:Nat}{as:List AV}{h hh:aa}{B:List Nat}{v v1:AV}(hr:aV (aZ P FT T) f as [] ⟨v,hh,[]⟩)(ha:bc as=0)(hf:Fr hh B v v1)(ht:v1.top=0):bX P gl ⟨f,as,h,⟨v1,h,[]⟩⟩:=
 WL hs.gl ha hf ht (qU hs hT hr ⟨d9 _,fun _ hb=>bS⟩)
def nI (N:Nat):az:=⟨fun _=>.fresh,fun c=>c<N⟩
theorem cW.nI {N c:Nat}(h:N<=c):cW (nI N) c:=⟨fun b d hb=>by simp[Go.Ab.nI]at hb,fun hx=>absurd hx (by show ¬c<N;omega)⟩
theorem Fr.WN {ρ:az}{h:aa}{w:World}(m:Mem P gl ρ h w){N:Nat}(hnew:∀b c d,ρ b = .live c d->N<=c){T:List Nat}(hT:∀b l e,b∈T->h.at b=some (.cells l e)->fj l=true){a a0:AV}(hr:Fr h T a a0):de a=true->a0.top=0->∀{v:Value},V ρ w a v->V (nI N) w a0 v:=by
 have hat:∀{b o},h.at b=some o->h[b]? = some (some o):=fun {b o} hb=>by
  unfold aa.at at hb;grind
 have cutN:∀{l m':List AV} {off n:Nat},fj l=true->cut l off n=some m'->∀(i:Nat) x,m'[i]? = some x->de x=true:=fun {l m' off n} hn hc i x hx=>by
  simp only[cut]at hc;grind[iA]
 induction hr with
 | same ht=>grind[JX]
 | nil hc=>
  intro _ _ v hv;cases hv;exact .ff hc
 | @sl b off len esz cap cap' l m' m0 e hb ha hc hl hg hcc ih=>
  intro _ ht v hv;simp only[AV.top]at ht;have ih':∀(i:Nat) x y,m'[i]? = some x->m0[i]? = some y->∀{v:Value},V ρ w x v->V (nI N) w y v:=fun i x y hx hy {v} hv=>
   ih i x y hx hy bS (by have:=fC (n:=0) ac i y hy;omega) hv
  have hB:=m.dc b _ (hat ha);have hcut:m'.length=len*esz/\∀i,i<m'.length->m'[i]? = l[off+i]? := by
   simp only[cut]at hc;split at hc
   . grind
   . cases hc
  cases hv with
  | @sl _ c d _ _ _ capC _ h1 h2 h3 h4=>
   have h3:∀n,cap'=some n->capC=n:=bS;rcases hB with ⟨c',d',cs,fr,g1,g2,g3,g4,g5⟩|⟨g1,_⟩
   . rw[h1]at g1;cases g1;refine .vs c (off+d) (fun i=>cs.getD (off+d+i) (.bool false)) (by grind[cW.nI]) h2 h3 (fun i hi=>?_) (fun i y hy=>?_)
     . have hi':i<m'.length:=by omega
       have hlt:off+i<l.length:=by
        have:=hcut.2 i hi';rw[b5 hi']at this;exact(b6.1 this.symm).1
       have:off+d+i<cs.size:=by have:=g3.1;omega
       simp only[jU,g2]<;>simp_all
     . have hi:i<m0.length:=(b6.1 hy).1;have hi':i<m'.length:=by omega
       have hx:=hcut.2 i hi';rw[b5 hi']at hx;have hlt:off+i<l.length:=(b6.1 hx.symm).1;have hs:off+d+i<cs.size:=by have:=g3.1;omega
       refine ih' i m'[i] y (b5 hi') hy ?_;refine g5 (off+i) _ _ hx.symm ?_;rw[show off+i+d=off+d+i from by omega];simp_all
   grind
  | @gA _ _ h1=>
   rcases hB with ⟨c',d',cs,fr,g1,_⟩|⟨g1,g2⟩
   . grind
   . have:m0=[]:=bS;subst this;exact .ff bS
  | fB c o' h1 _ _=>
   rcases hB with ⟨c',d',cs,fr,g1,_⟩|⟨g1,g2⟩ <;> (rw[h1]at g1;cases g1)
  | gB a h1=>
   rcases hB with ⟨c',d',cs,fr,g1,_⟩|⟨g1,g2⟩ <;> (rw[h1]at g1;cases g1)
  | fX h1=>
   rcases hB with ⟨c',d',cs,fr,g1,_⟩|⟨g1,g2⟩ <;> (rw[h1]at g1;cases g1)
 | @ptr b off l m0 e hb ha hl hg ih=>
  intro _ ht v hv;simp only[AV.top]at ht;have hB:=m.dc b _ (hat ha);cases hv with
  | @ptr _ c d _ h1=>
   rcases hB with ⟨c',d',cs,fr,g1,g2,g3,g4,g5⟩|⟨g1,_⟩
   . rw[h1]at g1;cases g1;refine .vp c (off+d) (fun i=>cs.getD (off+d+i) (.bool false)) (by grind[cW.nI]) (fun i hi=>?_) (fun i y hy=>?_)
     . have:off+d+i<cs.size:=by have:=g3.1;simp at hl;omega
       simp only[jU,g2]<;>simp_all
     . have hi:i<m0.length:=(b6.1 hy).1;have hi':i<(l.drop off).length:=by omega
       have hlt:off+i<l.length:=by simp at hi';omega
       have hs:off+d+i<cs.size:=by have:=g3.1;omega
       refine ih i _ y (b5 hi') hy ?_ (by have:=fC (n:=0) ac i y hy;omega) ?_
       . rw[List.getElem_drop];exact iA bS (b5 hlt)
       . refine g5 (off+i) _ _ be ?_;rw[show off+i+d=off+d+i from by omega];simp_all
   grind
  | eE _ c o' h1=>
   rcases hB with ⟨c',d',cs,fr,g1,_⟩|⟨g1,g2⟩ <;> (rw[h1]at g1;cases g1)
 | @vs l l0 n cap hl hg ih=>
  intro hn _ v hv;simp only[de,i4]at hn;subst hn;have:l0=[]:=bS;subst this;cases hv with
  | vs c o g hf h2 h3 h4 h5=>exact .vs c o g be h2 h3 be be
  | ff hc=>exact .ff hc
  | fY a hc=>exact .fY a hc
 | @agg l l0 hl hg ih=>
  intro hn ht v hv;simp only[de]at hn;simp only[AV.top]at ht;cases hv with
  | @agg _ mm h1 h2=>
   refine .agg ac fun i y z hy hz=>?_
   have hi:i<l.length:=by have:=(b6.1 hy).1;omega
   exact ih i _ y (b5 hi) hy (iA hn (b5 hi)) (by have:=fC (n:=0) ac i y hy;omega) (h2 i _ z (b5 hi) hz)
 | @au l l0 hl hg ih=>
  intro hn ht v hv;simp only[de]at hn;simp only[AV.top]at ht;cases hv with
  | @au _ mm h1 h2=>
   refine .au ac fun i y z hy hz=>?_
   have hi:i<l.length:=by have:=(b6.1 hy).1;omega
   exact ih i _ y (b5 hi) hy (iA hn (b5 hi)) (by have:=fC (n:=0) ac i y hy;omega) (h2 i _ z (b5 hi) hz)
 | @fn f fi fi0 ca ca0 hf h1 h2 g1 g2 ih1 ih2=>
  intro hn ht v hv;simp only[de,i3]at hn;have hh:bc fi0<=0/\bc ca0<=0:=by
   cases f <;> simp only[AV.top]at ht <;> exact⟨ac,ac⟩
  cases hv with
  | fn hf' a1 a2 a3 a4=>
   refine .fn hf ac ac (fun i y z hy hz=>?_) (fun i y z hy hz=>?_)
   . have hi:i<fi.length:=by have:=(b6.1 hy).1;omega
     exact ih1 i _ y (b5 hi) hy (iA hn.1 (b5 hi)) (by have:=fC hh.1 i y hy;omega) (a3 i _ z (b5 hi) hz)
   . have hi:i<ca.length:=by have:=(b6.1 hy).1;omega
     exact ih2 i _ y (b5 hi) hy (iA hn.2 (b5 hi)) (by have:=fC hh.2 i y hy;omega) (a4 i _ z (b5 hi) hz)
  | yield _=>grind
  | iG _ _=>grind
theorem WQ {w:World}{ρ:az}{h:aa}(m:Mem P gl ρ h w){S T:List Nat}{v v1:AV}{hh:aa}{v':Value}{w':World}(hf:Fr hh T v v1)(hn:de v=true)(hT:∀b l e,b∈T->hh.at b=some (.cells l e)->fj l=true)(ht:v1.top=0)(hd:fg P gl (dJ ρ S) [] w ⟨v,hh,[]⟩ v' w'):fg P gl ρ h w ⟨v1,h,[]⟩ v' w':=by
 obtain⟨ρ',hv,m',x⟩:=hd;have ck:∀c,c<w.heap.size->w'.heap[c]? = w.heap[c]? := fun c hc=>x.ck c hc fun b d hb=>by simp[Go.Ab.dJ]at hb
 have new:∀b c d,ρ' b = .live c d->w.heap.size<=c:=fun b c d hb=>by
  rcases ip c w.heap.size with hc|hc
  . rcases x.back b c d hb hc with h1|⟨b0,d0,h1,_⟩ <;> simp[Go.Ab.dJ]at h1
  omega
 have hV:=hf.WN m' new hT hn ht hv;have hF:∀c,cW (nI w.heap.size) c->cW ρ c:=fun c hc=>by
  have hge:w.heap.size<=c:=by
   rcases ip c w.heap.size with h|h
   . exact absurd h hc.2
   . exact h
  exact⟨fun b d hb=>by have:=m.bound b c d hb;omega,fun hx=>by have:=m.xb c hx;omega⟩
 have E:Ext h h ρ ρ w w':=⟨x.os,x.tape,x.output,x.size,dO _,rfl,fun _ h=>h,fun _ _=>rfl,bS,fun _ h=>h,bS,bS,bS,x.shape⟩;refine⟨ρ,hV.ik (n:=0) be hF ac,m.ext E ?_ m.fresh m.inj ?_,E⟩
 . intro b o hb;exact(m.dc b o hb).mono E rfl fun c d hl=>ck c (m.bound b c d hl)
 . intro b c d hb;exact Nat.lt_of_lt_of_le (m.bound b c d hb) x.size
theorem WR (hs:kG P gl FT){T:List (Nat×Spec)}(hT:cD P gl (bk T)){f:Nat}{as as0:List AV}{h hh:aa}{S B:List Nat}{v v1:AV}(hr:aV (aZ P FT T) f as0 [] ⟨v,hh,[]⟩)(hv:iB h S as as0)(hf:Fr hh B v v1)(hn:de v=true)(hB:∀b l e,b∈B->hh.at b=some (.cells l e)->fj l=true)(ht:v1.top=0):bX P gl ⟨f,as,h,⟨v1,h,[]⟩⟩:=by
 have hloc:=qU hs hT hr ⟨d9 _,fun _ hb=>bS⟩;refine⟨⟨dO _,fun _ _ _=>rfl⟩,fun ρ w as' m hl=>?_⟩;obtain⟨nx,w1,h1,h2⟩:=hloc.2 (dJ ρ S) w as' (m.dJ hs.gl S) (hv.view m hl);exact⟨nx,w1,h1,h2.mono (by grind[WQ])⟩
def fD (hh:aa)(v v1:AV):Prop:=∃B,Fr hh B v v1/\de v=true/\∀b l e,b∈B->hh.at b=some (.cells l e)->fj l=true
theorem fD.same {hh:aa}{v:AV}(ht:v.top=0)(hn:de v=true):fD hh v v:=⟨[],.same ht,hn,be⟩
theorem fD.nil {hh:aa}:fD hh .ab (.vs [] 0 none):=⟨[],.nil be,rfl,be⟩
theorem WS (hs:kG P gl FT){T:List (Nat×Spec)}(hT:cD P gl (bk T)){f:Nat}{as as0:List AV}{h hh:aa}{S:List Nat}{v v1:AV}(hr:aV (aZ P FT T) f as0 [] ⟨v,hh,[]⟩)(hv:iB h S as as0)(hf:fD hh v v1)(ht:v1.top=0):bX P gl ⟨f,as,h,⟨v1,h,[]⟩⟩:=by
 obtain⟨B,h1,h2,h3⟩:=hf;grind[WR]
end Go.Ab
namespace Go.Ab
variable {I:aq->Prop} {s:aq}
variable {M:aw}
structure LI (I:aq->Prop)(Q:Ex->aq->Prop)(e:Ex)(s:aq):Prop where
 out:match e with
  | .normal=>I s
  | e=>Q e s
theorem bW {Q:Ex->aq->Prop}(h:I s):LI I Q .normal s:=⟨h⟩
theorem vM {Q:Ex->aq->Prop}{i:Nat}(h:Q (.exit i) s):LI I Q (.exit i) s:=⟨h⟩
theorem sB {Q:Ex->aq->Prop}(h:Q .ret s):LI I Q .ret s:=⟨h⟩
theorem W.gP {c:ak}{Q:Ex->aq->Prop}(I:Nat->aq->Prop)(hs:∀m s,I m s->W M c s (LI (fun s'=>∃m',m'<m/\I m' s') Q)):∀{m:Nat} {s:aq},I m s->W M (.loop c) s Q:=by
 intro m;induction m using Nat.strongRecOn with
 | ind m ih=>
  intro s h;refine W.loop ((hs m s h).mono fun e s' he=>?_);cases e with
  | normal=>
   obtain⟨m',hm,hI⟩:=he.out;exact⟨ih m' hm hI⟩
  | exit i=>exact⟨he.out⟩
  | ret=>exact⟨he.out⟩
theorem W.di {c:ak}{Q:Ex->aq->Prop}(n:Nat)(I:Nat->aq->Prop)(hs:∀i s,i<n->I i s->W M c s (LI (I (i+1)) Q))(he:∀s,I n s->W M c s (LI (fun _=>False) Q)){i:Nat}{s:aq}(hi:i<=n)(h:I i s):W M (.loop c) s Q:=by
 refine W.gP (fun m s=>m<=n/\I (n-m) s) (fun m s ⟨hm,h⟩=>?_) (m:=n-i) ⟨Nat.sub_le _ _,bS⟩;rcases Nat.eq_zero_or_pos m with rfl|h0
 . exact(he s h).mono be
 . refine(hs (n-m) s ac h).mono fun e s' he=>⟨?_⟩
   cases e with
   | normal=>exact⟨m-1,ac,ac,by have:=he.out;grind⟩
   | exit i=>exact he.out
   | ret=>exact he.out
section
variable {α:Type} {f:α->List AV} {esz t:Nat} {x y:ay} {L:List aX} {pe:List AV} {lo:List (Nat×AV)} {hp:aa} {df wr:List Nat} {l:List α} {cap:Option Nat} {k:IntKind} {n:Int} {Q:aq->Prop}
theorem ang (hx:(St.mk pe lo hp df).ae x=some (.vs (arr f l) l.length cap))(hy:(St.mk pe lo hp df).ae y=some (.int k n))(hf:∀a,(f a).length=esz)(hn:0<=n/\n<=l.length)
 (h:WO M L ⟨⟨pe,(t,.vs (arr f (l.take n.toNat)) (l.take n.toNat).length cap)::lo,hp,df⟩,wr⟩ Q):WO M (⟨.l t,.slice .sl esz x none (some y) none,none⟩::L) ⟨⟨pe,lo,hp,df⟩,wr⟩ Q:=by
 refine abL (v:=.vs (arr f (l.take n.toNat)) (l.take n.toNat).length cap) ?_ rfl h;have hle:n.toNat<=l.length:=by omega
 have hl:(l.take n.toNat).length=n.toNat:=by rw[List.length_take];omega
 have hc:cap.map (fun x=>x)=cap:=by cases cap <;> rfl
 have h0:(0:Int)<=n/\n<=(l.length:Int):=by omega
 simp only[aY,hx,St.cZ,hy,ci,jo,bR,Option.isNone_none,Option.isSome_some,hZ,if_true,if_pos h0];simp only[f9,i8,Nat.sub_zero,Dk hf,hl,hc]
end
theorem Dz {α:Type}{f:α->List AV}{esz:Nat}{e:TypeId}{hp:aa}{c n:Nat}{cap:Option Nat}{l:List α}(hf:∀a,(f a).length=esz)(ht:∀a,bc (f a)=0)(h:hp.at c=some (.cells (arr f l) e))(hn:l.length=n):Fr hp [c] (.sl c 0 n esz cap) (.vs (arr f l) l.length none):=by
 subst hn;have:=ji hf (l:=l) (i:=0) (n:=l.length) ac;rw[f9]at this;refine .sl be h this be (fun i x y hx hy=>?_) (.inr rfl);simp at hx;rw[hx]at hy;cases hy;exact .same (by have:=fC (n:=0) (Nat.le_of_eq (jK ht l)) i x hx;omega)
end Go.Ab
namespace Go.Ab
variable {M:aw} {α:Type} {f:α->List AV} {esz:Nat} {e:TypeId} {hp H:aa} {o y:AV} {acc m:List α} {S S':List Nat}
theorem Sl.cells (_hf:∀a,(f a).length=esz)(h:Sl f hp y m):dV hp y=some (arr f m,m.length):=by
 rcases h with ⟨rfl,rfl⟩|⟨cap,rfl⟩|⟨b,off,ez,cap,c,e,rfl,h1,h2⟩
 . rfl
 . rfl
 . simp only[dV,h1,h2,ci]
def bj (f:α->List AV)(esz:Nat)(e:TypeId)(hp:aa)(o:AV)(acc:List α)(S:List Nat):Prop:=
 (acc=[]/\o = .ab)\/∃c cap,c∉S/\o = .sl c 0 acc.length esz cap/\hp.at c=some (.cells (arr f acc) e)/\(cap=none\/acc=[]/\cap=some 0)
theorem bj.jL:bj f esz e hp .ab ([]:List α) S:=.inl ⟨rfl,rfl⟩
theorem bj.Kw (hS:∀x∈S,x<hp.length):bj f esz e (hp++[some (.cells [] e)]) (.sl hp.length 0 0 esz (some 0)) ([]:List α) S:=by
 refine .inr ⟨hp.length,some 0,fun h=>by grind,rfl,cC,.inr ⟨rfl,rfl⟩⟩
theorem bj.sl (hf:∀a,(f a).length=esz)(h:bj f esz e hp o acc S):Sl f hp o acc:=by
 rcases h with ⟨rfl,rfl⟩|⟨c,cap,_,rfl,h1,_⟩
 . exact .jL
 . exact .gN hf h1 rfl
def iq (o:AV):List Nat:=dK (some o)
theorem bj.cd (h:bj f esz e hp o acc S)(hk:∀b x,b∈iq o->hp.at b=some x->H.at b=some x)(hs:∀b,b∈iq o->b∉S->b∉S'):bj f esz e H o acc S':=by
 rcases h with h|⟨c,cap,h0,rfl,h1,h2⟩
 . exact .inl h
 . exact .inr ⟨c,cap,hs c (by simp[iq,dK]) h0,rfl,hk _ _ (by simp[iq,dK]) h1,h2⟩
theorem bj.lt (h:bj f esz e hp o acc S):∀b∈iq o,b<hp.length:=by
 rcases h with ⟨_,rfl⟩|⟨c,cap,h0,rfl,h1,h2⟩
 . intro b hb;simp[iq,dK]at hb
 . intro b hb;simp only[iq,dK,g9]at hb;subst hb;exact cJ h1
theorem bj.Kx (h:bj f esz e hp o acc S):∀b∈iq o,b∉S:=by
 rcases h with ⟨_,rfl⟩|⟨c,cap,h0,rfl,h1,h2⟩
 . intro b hb;simp[iq,dK]at hb
 . intro b hb;simp only[iq,dK,g9]at hb<;>grind
theorem bj.grow (h:bj f esz e hp o acc S)(J:aa):bj f esz e (hp++J) o acc S:=h.cd (by grind[cE]) be
theorem bj.app {bytes t:Nat}{l:List aX}{pe:List AV}{lo:List (Nat×AV)}{df wr:List Nat}{a b:ay}{Q:aq->Prop}(hf:∀a,(f a).length=esz)(h1:∀a,(f a).all cI=true)(hb0:0<bytes)
 (h:bj f esz e hp o acc S) (hS:∀x∈S,x<hp.length) (ha:(St.mk pe lo hp df).ae a=some o) (hb:(St.mk pe lo hp df).ae b=some y) (hy:Sl f hp y m)
 (hn:(acc.length+m.length)*bytes<=cz) (hQ:∀(H:aa) (w':List Nat) o',bj f esz e H o' (acc++m) S->(∀x v,x∈S->hp.at x=some v->H.at x=some v)->hp.length<=H.length->WO M l ⟨⟨pe,(t,o')::lo,H,df⟩,w'⟩ Q):WO M (⟨.l t,.append e esz bytes a b,none⟩::l) ⟨⟨pe,lo,hp,df⟩,wr⟩ Q:=by
 have hs:=hy.cells hf;have hone:(arr f m).all cI=true:=Kk h1 m;have hcond:(arr f m).length=m.length*esz/\0<bytes/\(arr f m).all cI=true:=⟨ke hf m,hb0,hone⟩;by_cases hm:m=[]
 . subst hm;rw[i6]at hQ;refine afC (v:=o) (h':=hp) (w':=[]) ?_ rfl rfl (hQ hp _ o h be (dO _));simp only[bG,ha,hb,gw,hs,if_pos hcond];rcases h with ⟨_,rfl⟩|⟨c,cap,_,rfl,_,_⟩ <;> simp
 . have hp0:m.length≠0:=bS;rcases h with ⟨rfl,rfl⟩|⟨c,cap,hc,rfl,hat,hcap⟩
   . refine afC (v:=.sl hp.length 0 m.length esz none) (h':=hp++[some (.cells (arr f m) e)]) (w':=[]) ?_ rfl rfl (hQ _ _ _ (.inr ⟨hp.length,none,fun h=>by grind,be,cC,.inl rfl⟩) (by grind[cE]) be);simp only[bG,ha,hb,gw,hs,if_pos hcond,if_neg hp0]<;>grind
   . rcases hcap with rfl|⟨rfl,rfl⟩
     . refine afC (v:=.sl hp.length 0 (acc.length+m.length) esz none) (h':=hp.put c none++[some (.cells (arr f acc++arr f m) e)]) (w':=[c]) ?_ rfl rfl (hQ _ _ _ (.inr ⟨hp.length,none,fun h=>by grind,be,?_,.inl rfl⟩) (by grind[cE,pr]) (by simp[dQ]))
       . simp only[bG,ha,hb,gw,hs,if_pos hcond,if_neg hp0,hat];rw[if_pos ⟨trivial,hn⟩,if_pos ⟨by grind[ke],trivial⟩,i8]
       grind[dQ,cC,xl]
     . refine afC (v:=.sl hp.length 0 m.length esz none) (h':=hp++[some (.cells (arr f m) e)]) (w':=[]) ?_ rfl rfl (hQ _ _ _ (.inr ⟨hp.length,none,fun h=>by grind,be,by rw[dY];exact cC,.inl rfl⟩) (by grind[cE]) be);simp only[bG,ha,hb,gw,hs,if_pos hcond,if_neg hp0,hat,List.length_nil,Nat.zero_add,f9];rw[if_pos ⟨trivial,bS⟩,if_neg ac];rfl
theorem bj.WT (hf:∀a,(f a).length=esz)(ht:∀a,bc (f a)=0)(hn:∀a,fj (f a)=true)(h:bj f esz e hp o acc S):fD (if (aW [o]).top<=0 then [] else hp) o (.vs (arr f acc) acc.length none):=by
 rcases h with ⟨rfl,rfl⟩|⟨c,cap,_,rfl,h4,_⟩
 . exact .nil
 . rw[if_neg (by simp[aW,AV.top])];refine⟨[c],Dz hf ht h4 rfl,rfl,fun b l e' hb hl=>?_⟩;grind[kH]
theorem bj.WU {u:AV}(hu:u.top=0)(hv:de u=true)(hf:∀a,(f a).length=esz)(ht:∀a,bc (f a)=0)(hn:∀a,fj (f a)=true)(h:bj f esz e hp o acc S):fD (if (aW [o,u]).top<=0 then [] else hp) (aW [o,u]) (.au [.vs (arr f acc) acc.length none,u]):=by
 rcases h with ⟨rfl,rfl⟩|⟨c,cap,_,rfl,h4,_⟩
 . exact⟨[],.au rfl fun i x y hx hy=>by
    match i,hx,hy with
    | 0,hx,hy=>cases hx;cases hy;exact .nil be
    | 1,hx,hy=>cases hx;cases hy;exact .same hu,by simp[aW,de,fj,hv],be⟩
 . rw[if_neg (by simp[aW,AV.top,bc])];refine⟨[c],.au rfl fun i x y hx hy=>?_,by simp[aW,de,fj,hv],fun b l e' hb hl=>?_⟩
   . match i,hx,hy with
     | 0,hx,hy=>cases hx;cases hy;exact Dz hf ht h4 rfl
     | 1,hx,hy=>cases hx;cases hy;exact .same hu
   grind[kH]
end Go.Ab
namespace Go.Ab
variable {M:aw}
theorem bj.one {α:Type}{f:α->List AV}{esz:Nat}{e:TypeId}{hp:aa}{o:AV}{acc:List α}{S:List Nat}(h:bj f esz e hp o acc S):AV.cells o=some [o]/\cI o=true:=by
 rcases h with ⟨_,rfl⟩|⟨c,cap,_,rfl,_,_⟩ <;> exact⟨rfl,rfl⟩
end Go.Ab
namespace Go.Ab
variable {M:aw}
theorem alW {t:Nat}{x:ay}{name:String}{args:List ay}{l:List aX}{pe:List AV}{lo:List (Nat×AV)}{hp:aa}{df wr:List Nat}{Q:aq->Prop}{ty:TypeId}{v:AV}{g:FuncId}{as:List AV}{r:AV}(hf:(St.mk pe lo hp df).ae x=some (.iface ty v))(ha:(St.mk pe lo hp df).cM args=some as)(hi:M.inv ty name=some g)
 (he:M.ext g (v::as) hp=some ⟨r,hp,[]⟩) (h:WO M l ⟨⟨pe,(t,r)::lo,hp,df⟩,wr⟩ Q):WO M (⟨.l t,.invoke x name args,none⟩::l) ⟨⟨pe,lo,hp,df⟩,wr⟩ Q:=
 WO.op (WP.invoke hf ha hi (WC.ext (r:=⟨r,hp,[]⟩) bS h))
theorem amm {t:Nat}{x:ay}{name:String}{args:List ay}{un:List Nat}{l:List (aX×List Nat)}{pe:List AV}{lo:List (Nat×AV)}{hp:aa}{df wr:List Nat}{ds:List bY}{Q:aq->Prop}{ty:TypeId}{v:AV}{g:FuncId}{as:List AV}{r:AV}(hf:(St.mk pe lo hp df).ae x=some (.iface ty v))(ha:(St.mk pe lo hp df).cM args=some as)(hi:M.inv ty name=some g)
 (hU:(un.flatMap fun j=>(ds[j]?).elim [] bY.own)=[]) (he:M.ext g (v::as) hp=some ⟨r,hp,[]⟩)
 (h:WD M l ⟨⟨pe,(t,r)::lo,hp,df⟩,wr⟩ (ds++[⟨none,[],0,0⟩]) Q):WD M ((⟨.l t,.invoke x name args,none⟩,un)::l) ⟨⟨pe,lo,hp,df⟩,wr⟩ ds Q:=by
 obtain⟨⟨m,s',h2,h3⟩⟩:=h.norm (d':=⟨none,[],hp.length,hp.length⟩) xq.symm;refine⟨⟨m,s',?_,h3⟩⟩;have hm:mask hp []=hp:=rfl;have hcall:bI (M.call m) M.inv ⟨pe,lo,hp,df⟩ (.invoke x name args)=some ⟨r,hp,[]⟩:=by
  simp only[bI,hf,ha,hi,iF,dY,i6,he]
 have hmerge:fe [] hp hp 0=hp:=by
  apply b9;intro c;rw[jr _ _ _ _ _ be];split <;> rfl
 simp only[dI,dP,bg.bF,if_true,je,hU,hm];rw[hcall];simp only[f6,iy,hZ,fm,if_true,hmerge,dY];exact h2
end Go.Ab
namespace Go.Ab
variable {h:aa} {l m m':List AV} {a x:AV}
variable {M:aw} {P:Program} {gl:Nat->Option AV}
theorem aV.DA {f:FuncId}{as:List AV}{r r':HR}(h1:aV M f as h r)(h2:aV M f as h r'):r=r':=by
 obtain⟨n,hn⟩:=h1;obtain⟨m,hm⟩:=h2;have a1:=xg (xh (gF n m)) hn;have a2:=xg (xh (fG n m)) hm;grind
mutual
def cf:AV->AV
 | .ab=>.vs [] 0 none
 | .vs l n _=>.vs (dE l) n none
 | .vp l=>.vp (dE l)
 | .agg l=>.agg (dE l)
 | .au l=>.au (dE l)
 | .fn f a b=>.fn f (dE a) (dE b)
 | .iface t v=>.iface t (cf v)
 | v=>v
def dE:List AV->List AV
 | []=>[]
 | v::r=>cf v::dE r
end
theorem kh:∀{l m:List AV},l.length=m.length->(∀(i:Nat) x y,l[i]? = some x->m[i]? = some y->cf x=cf y)->dE l=dE m
 | [],[],_,_=>rfl
 | x::l,y::m,hl,h=>by
  rw[dE,dE,h 0 x y rfl rfl,kh bS fun i a b ha hb=>h (i+1) a b ha hb]
theorem pz (h1:l.length=m.length)(h2:l.length=m'.length)(h:∀(i:Nat) a x y,l[i]? = some a->m[i]? = some x->m'[i]? = some y->cf x=cf y):dE m=dE m':=
 kh ac fun i x y hx hy=>by
  grind
theorem Ky (hl:l.length=m.length)(h:∀(i:Nat) x y,l[i]? = some x->m[i]? = some y->x=y):l=m:=
 List.ext_getElem hl fun i h1 h2=>h i _ _ (b5 h1) (b5 h2)
theorem DB (h1:l.length=m.length)(h2:l.length=m'.length)(h:∀(i:Nat) a x y,l[i]? = some a->m[i]? = some x->m'[i]? = some y->x=y):m=m':=
 Ky ac fun i x y hx hy=>by
  grind
theorem Kz:∀(l m:List AV),dE (l++m)=dE l++dE m
 | [],m=>rfl
 | x::l,m=>by rw[fT,dE,dE,Kz l m];rfl
theorem qZ {α:Type}{f:α->List AV}(hf:∀a,dE (f a)=f a):∀l,dE (arr f l)=arr f l
 | []=>rfl
 | a::l=>by rw[gD,Kz,hf,qZ hf l]
theorem cO (h:bc l=0){i:Nat}{x:AV}(hx:l[i]? = some x):x.top=0:=by
 have:=fC (n:=0) ac i x hx;omega
theorem Fr.kK {S:List Nat}(hr:Fr h S a x):a.top=0->cf a=cf x:=by
 induction hr with
 | same ht=>simp
 | nil hc=>exact fun _=>by rfl
 | sl=>intro ht;simp[AV.top]at ht
 | ptr=>intro ht;simp[AV.top]at ht
 | vs hl hg ih=>intro ht;rw[cf,cf,kh hl fun i x y hx hy=>ih i x y hx hy (cO ht hx)]
 | agg hl hg ih=>intro ht;rw[cf,cf,kh hl fun i x y hx hy=>ih i x y hx hy (cO ht hx)]
 | au hl hg ih=>intro ht;rw[cf,cf,kh hl fun i x y hx hy=>ih i x y hx hy (cO ht hx)]
 | fn hf h1 h2 g1 g2 i1 i2=>
  intro ht;simp only[AV.top]at ht;rw[cf,cf,kh h1 (by grind[cO]),kh h2 (by grind[cO])]
theorem Fr.can {S:List Nat}(hr:Fr h S a x):x.top=0->∀{S':List Nat} {y:AV},Fr h S' a y->y.top=0->cf x=cf y:=by
 induction hr with
 | same ht=>exact fun _ S' y hy _=>hy.kK ht
 | nil hc=>exact fun _ S' y hy _=>by cases hy <;> simp[cf,dE]
 | sl hb ha hc hl hg hcc ih=>
  intro hx S' y hy hyt;cases hy with
  | same ht=>simp[AV.top]at ht
  | sl hb' ha' hc' hl' hg' hcc'=>
   rw[ha]at ha';cases ha';rw[hc]at hc';cases hc';rw[cf,cf,pz hl hl' fun i a x y h1 h2 h3=>ih i a x h1 h2 (cO hx h2) (hg' i a y h1 h3) (cO hyt h3)]
 | ptr hb ha hl hg ih=>
  intro hx S' y hy hyt;cases hy with
  | same ht=>simp[AV.top]at ht
  | ptr hb' ha' hl' hg'=>
   rw[ha]at ha';cases ha';rw[cf,cf,pz hl hl' fun i a x y h1 h2 h3=>ih i a x h1 h2 (cO hx h2) (hg' i a y h1 h3) (cO hyt h3)]
 | vs hl hg ih=>
  intro hx S' y hy hyt;cases hy with
  | same ht=>rw[cf,cf,kh hl.symm fun i x y hx' hy'=>((hg i y x hy' hx').kK (cO ht hy')).symm]
  | vs hl' hg'=>rw[cf,cf,pz hl hl' fun i a x y h1 h2 h3=>ih i a x h1 h2 (cO hx h2) (hg' i a y h1 h3) (cO hyt h3)]
 | agg hl hg ih=>
  intro hx S' y hy hyt;cases hy with
  | same ht=>rw[cf,cf,kh hl.symm fun i x y hx' hy'=>((hg i y x hy' hx').kK (cO ht hy')).symm]
  | agg hl' hg'=>rw[cf,cf,pz hl hl' fun i a x y h1 h2 h3=>ih i a x h1 h2 (cO hx h2) (hg' i a y h1 h3) (cO hyt h3)]
 | au hl hg ih=>
  intro hx S' y hy hyt;cases hy with
  | same ht=>rw[cf,cf,kh hl.symm fun i x y hx' hy'=>((hg i y x hy' hx').kK (cO ht hy')).symm]
  | au hl' hg'=>rw[cf,cf,pz hl hl' fun i a x y h1 h2 h3=>ih i a x h1 h2 (cO hx h2) (hg' i a y h1 h3) (cO hyt h3)]
 | fn hf h1 h2 g1 g2 i1 i2=>
  intro hx S' y hy hyt;simp only[AV.top]at hx;cases hy with
  | same ht=>
   simp only[AV.top]at ht;rw[cf,cf,kh h1.symm fun i x y hx' hy'=>((g1 i y x hy' hx').kK (cO ac hy')).symm,kh h2.symm fun i x y hx' hy'=>((g2 i y x hy' hx').kK (cO ac hy')).symm]
  | fn hf' h1' h2' g1' g2'=>
   simp only[AV.top]at hyt;rw[cf,cf,pz h1 h1' (by grind[cO,cO]),
     pz h2 h2' (by grind[cO,cO])]
def xB:AV->Bool
 | .int _ _=>true
 | .bool _=>true
 | .str _=>true
 | .fn f [] []=>match f with | .yield _=>false|_=>true
 | _=>false
inductive cK (h:aa):AV->AV->Prop
 | atom {a:AV} (ha:xB a=true):cK h a a
 | nil:cK h .ab (.vs [] 0 none)
 | sl {b off len esz:Nat} {cap:Option Nat} {l m m0:List AV} {e:TypeId} (ha:h.at b=some (.cells l e)) (hc:cut l off (len*esz)=some m) (hl:m.length=m0.length)
     (hg:∀(i:Nat) x y,m[i]? = some x->m0[i]? = some y->cK h x y):cK h (.sl b off len esz cap) (.vs m0 len none)
 | vs {l l0:List AV} {n:Nat} {cap:Option Nat} (hl:l.length=l0.length) (hg:∀(i:Nat) x y,l[i]? = some x->l0[i]? = some y->cK h x y):cK h (.vs l n cap) (.vs l0 n cap)
 | agg {l l0:List AV} (hl:l.length=l0.length) (hg:∀(i:Nat) x y,l[i]? = some x->l0[i]? = some y->cK h x y):cK h (.agg l) (.agg l0)
def gE (h:aa)(l l0:List AV):Prop:=l.length=l0.length/\∀(i:Nat) x y,l[i]? = some x->l0[i]? = some y->cK h x y
theorem gE.nil:gE h [] []:=⟨rfl,be⟩
theorem gE.cons {y:AV}(h1:cK h x y)(h2:gE h l m):gE h (x::l) (y::m):=by
 refine⟨by simp[h2.1],fun i a b ha hb=>?_⟩;cases i with
 | zero=>grind
 | succ i=>simp at ha hb;exact h2.2 i a b ha hb
theorem WW (h:xB a=true):a.top=0:=by
 cases a with
 | fn f fi ca=>
  cases fi <;> cases ca <;> first|(simp[xB]at h;done)|skip
  cases f <;> first|rfl|cases h
 | _=>first|rfl|cases h
theorem cK.fr (hr:cK h a x):Fr h (d7 h.length) a x:=by
 induction hr with
 | atom ha=>exact .same (WW ha)
 | nil=>exact .nil be
 | sl ha hc hl hg ih=>exact .sl (by grind[cJ]) ha hc hl ih (.inr rfl)
 | vs hl hg ih=>exact .vs hl ih
 | agg hl hg ih=>exact .agg hl ih
theorem gE.fr {l0:List AV}(hr:gE h l l0):iB h (d7 h.length) l l0:=⟨hr.1,fun i x y hx hy=>(hr.2 i x y hx hy).fr⟩
theorem cK.uniq (hr:cK h a x):∀{y:AV},cK h a y->x=y:=by
 induction hr with
 | atom ha=>intro y hy;cases hy <;> first|rfl|cases ha
 | nil=>intro y hy;cases hy with
   | atom ha=>cases ha
   | nil=>rfl
 | sl ha hc hl hg ih=>
  intro y hy;cases hy with
  | atom ha=>cases ha
  | sl ha' hc' hl' hg'=>
   grind[DB]
 | vs hl hg ih=>
  intro y hy;cases hy with
  | atom ha=>cases ha
  | vs hl' hg'=>grind[DB]
 | agg hl hg ih=>
  intro y hy;cases hy with
  | atom ha=>cases ha
  | agg hl' hg'=>grind[DB]
theorem gE.uniq (h1:gE h l m)(h2:gE h l m'):m=m':=
 Ky (h1.1.symm.trans h2.1) fun i x y hx hy=>by
  have hi:i<l.length:=by rw[h1.1];exact(b6.1 hx).1
  exact(h1.2 i l[i] x (b5 hi) hx).uniq (h2.2 i l[i] y (b5 hi) hy)
theorem gE.app:∀{l m l' m':List AV},gE h l m->gE h l' m'->gE h (l++l') (m++m')
 | [],[],_,_,_,h2=>h2
 | x::l,y::m,l',m',h1,h2=>.cons (h1.2 0 x y rfl rfl) (gE.app ⟨by simpa using h1.1,fun i a b ha hb=>h1.2 (i+1) a b ha hb⟩ h2)
 | [],y::m,_,_,h1,_=>by have:=h1.1;grind
 | x::l,[],_,_,h1,_=>by have:=h1.1;grind
abbrev tv (h:aa)(l:List AV):Prop:=gE h l l
theorem xC {α:Type}{f:α->List AV}{h:aa}(hf:∀a,tv h (f a)):∀l,tv h (arr f l)
 | []=>.nil
 | a::l=>by rw[gD];exact(hf a).app (xC hf l)
theorem cK.nK {n:Nat}{cap:Option Nat}(hl:tv h l):cK h (.vs l n cap) (.vs l n cap):=.vs rfl hl.2
theorem enter:(∀(f:Nat -> AV) a l,(a::l).map f=f a::l.map f) /\ (∀f:Nat -> AV,[].map f=[]) /\ (∀(a:AV) (l:List AV),(a::l)[0]? = some a) /\ (∀(a:AV) (l:List AV) (n:Nat),(a::l)[n+1]? = l[n]?) /\ (∀n:Nat,([]:List AV)[n]? = none) /\ (∀a b:AV,(some a).getD b=a) /\ ∀b:AV,none.getD b=b:=
  ⟨fun _ _ _=>rfl,fun _=>rfl,fun _ _=>rfl,fun _ _ _=>rfl,fun _=>rfl,fun _ _=>rfl,fun _=>rfl⟩
end Go.Ab
namespace Go.Ab
variable {l as:List AV} {h:aa} {x:AV} {FT:FuncId->Option dv}
variable {M:aw} {P:Program} {gl:Nat->Option AV}
mutual
def bL:AV->AV
 | .vs l n _=>.vs (cG l) n none
 | .vp l=>.vp (cG l)
 | .agg l=>.agg (cG l)
 | .au l=>.au (cG l)
 | .fn f a b=>.fn f (cG a) (cG b)
 | .iface t v=>.iface t (bL v)
 | v=>v
def cG:List AV->List AV
 | []=>[]
 | v::r=>bL v::cG r
end
theorem nL:∀{l m:List AV},l.length=m.length->(∀(i:Nat) x y,l[i]? = some x->m[i]? = some y->bL x=bL y)->cG l=cG m
 | [],[],_,_=>rfl
 | x::l,y::m,hl,h=>by
  rw[cG,cG,h 0 x y rfl rfl,nL bS fun i a b ha hb=>h (i+1) a b ha hb]
theorem xD {m m':List AV}(h1:l.length=m.length)(h2:l.length=m'.length)(h:∀(i:Nat) a x y,l[i]? = some a->m[i]? = some x->m'[i]? = some y->bL x=bL y):cG m=cG m':=
 nL ac fun i x y hx hy=>by
  grind
theorem KA:∀(l m:List AV),cG (l++m)=cG l++cG m
 | [],m=>rfl
 | x::l,m=>by rw[fT,cG,cG,KA l m];rfl
theorem ra {α:Type}{f:α->List AV}(hf:∀a,cG (f a)=f a):∀l,cG (arr f l)=arr f l
 | []=>rfl
 | a::l=>by rw[gD,KA,hf,ra hf l]
inductive eH (h:aa):AV->AV->Prop
 | same {v:AV} (ht:v.top=0):eH h v v
 | sl {b off len esz:Nat} {cap:Option Nat} {l m m0:List AV} {e:TypeId} (ha:h.at b=some (.cells l e)) (hc:cut l off (len*esz)=some m) (hl:m.length=m0.length)
     (hg:∀(i:Nat) x y,m[i]? = some x->m0[i]? = some y->eH h x y):eH h (.sl b off len esz cap) (.vs m0 len none)
 | vs {l l0:List AV} {n:Nat} {cap:Option Nat} (hl:l.length=l0.length) (hg:∀(i:Nat) x y,l[i]? = some x->l0[i]? = some y->eH h x y):eH h (.vs l n cap) (.vs l0 n cap)
 | agg {l l0:List AV} (hl:l.length=l0.length) (hg:∀(i:Nat) x y,l[i]? = some x->l0[i]? = some y->eH h x y):eH h (.agg l) (.agg l0)
 | au {l l0:List AV} (hl:l.length=l0.length) (hg:∀(i:Nat) x y,l[i]? = some x->l0[i]? = some y->eH h x y):eH h (.au l) (.au l0)
theorem eH.fr {a:AV}(hr:eH h a x):Fr h (d7 h.length) a x:=by
 induction hr with
 | same ht=>exact .same ht
 | sl ha hc hl hg ih=>exact .sl (by grind[cJ]) ha hc hl ih (.inr rfl)
 | vs hl hg ih=>exact .vs hl ih
 | agg hl hg ih=>exact .agg hl ih
 | au hl hg ih=>exact .au hl ih
theorem eH.kK {a:AV}(hr:eH h a x):a.top=0->bL a=bL x:=by
 induction hr with
 | same ht=>simp
 | sl=>intro ht;simp[AV.top]at ht
 | vs hl hg ih=>intro ht;rw[bL,bL,nL hl fun i x y hx hy=>ih i x y hx hy (cO ht hx)]
 | agg hl hg ih=>intro ht;rw[bL,bL,nL hl fun i x y hx hy=>ih i x y hx hy (cO ht hx)]
 | au hl hg ih=>intro ht;rw[bL,bL,nL hl fun i x y hx hy=>ih i x y hx hy (cO ht hx)]
theorem eH.can {a:AV}(hr:eH h a x):x.top=0->∀{y:AV},eH h a y->y.top=0->bL x=bL y:=by
 induction hr with
 | same ht=>exact fun _ y hy _=>hy.kK ht
 | sl ha hc hl hg ih=>
  intro hx y hy hyt;cases hy with
  | same ht=>simp[AV.top]at ht
  | sl ha' hc' hl' hg'=>
   rw[ha]at ha';cases ha';rw[hc]at hc';cases hc';rw[bL,bL,xD hl hl' fun i a x y h1 h2 h3=>ih i a x h1 h2 (cO hx h2) bS (cO hyt h3)]
 | vs hl hg ih=>
  intro hx y hy hyt;cases hy with
  | same ht=>rw[bL,bL,nL hl.symm fun i x y hx' hy'=>((hg i y x hy' hx').kK (cO ht hy')).symm]
  | vs hl' hg'=>rw[bL,bL,xD hl hl' fun i a x y h1 h2 h3=>ih i a x h1 h2 (cO hx h2) bS (cO hyt h3)]
 | agg hl hg ih=>
  intro hx y hy hyt;cases hy with
  | same ht=>rw[bL,bL,nL hl.symm fun i x y hx' hy'=>((hg i y x hy' hx').kK (cO ht hy')).symm]
  | agg hl' hg'=>rw[bL,bL,xD hl hl' fun i a x y h1 h2 h3=>ih i a x h1 h2 (cO hx h2) bS (cO hyt h3)]
 | au hl hg ih=>
  intro hx y hy hyt;cases hy with
  | same ht=>rw[bL,bL,nL hl.symm fun i x y hx' hy'=>((hg i y x hy' hx').kK (cO ht hy')).symm]
  | au hl' hg'=>rw[bL,bL,xD hl hl' fun i a x y h1 h2 h3=>ih i a x h1 h2 (cO hx h2) bS (cO hyt h3)]
theorem rf {i:Nat}(h:(dE l)[i]? = some x):∃y,l[i]? = some y/\x=cf y:=by
 induction l generalizing i with
 | nil=>simp[dE]at h
 | cons a l ih=>
  rw[dE]at h;grind
theorem pA:∀l:List AV,(dE l).length=l.length
 | []=>rfl
 | a::l=>by rw[dE,c8,c8,pA l]
theorem rj {i:Nat}(h:(cG l)[i]? = some x):∃y,l[i]? = some y/\x=bL y:=by
 induction l generalizing i with
 | nil=>simp[cG]at h
 | cons a l ih=>
  rw[cG]at h;grind
theorem pB:∀l:List AV,(cG l).length=l.length
 | []=>rfl
 | a::l=>by rw[cG,c8,c8,pB l]
section
variable {ρ:az} {w:World} {a:AV} {v:Value}
theorem V.bL (hv:V ρ w a v):V ρ w (bL a) v:=by
 induction hv with
 | db v=>exact .db v
 | bool b=>exact .bool b
 | int k n=>exact .int k n
 | str s=>exact .str s
 | dG=>exact .dG
 | ptr o h=>exact .ptr o h
 | eE o c o' h=>exact .eE o c o' h
 | vp c o g hf hc hg ih=>
  exact .vp c o g (fun h=>hf fun e=>h (by rw[e];rfl)) (by grind[pB]) (by grind[rj])
 | ab=>exact .ab
 | sl h hl hcap hb=>exact .sl h hl hcap hb
 | gA h=>exact .gA h
 | fB c o' h hl hcap=>exact .fB c o' h hl hcap
 | fX h=>exact .fX h
 | gB a h=>exact .gB a h
 | vs c o g hf hl hcap hc hg ih=>
  exact .vs c o g (fun h=>hf fun e=>h (by rw[e];rfl)) hl be (by grind[pB]) (by grind[rj])
 | ff hcap=>exact .ff be
 | fY a hcap=>exact .fY a be
 | eO=>exact .eO
 | map h=>exact .map h
 | iR c h=>exact .iR c h
 | yield h=>exact .yield h
 | fn hf h1 h2 g1 g2 i1 i2=>
  exact .fn hf (by grind[pB]) (by grind[pB]) (by grind[rj]) (by grind[rj])
 | iG c h=>exact .iG c h
 | fO=>exact .fO
 | iface h ih=>exact .iface ih
 | dh=>exact .dh
 | agg h g ih=>
  exact .agg (by grind[pB]) (by grind[rj])
 | au h g ih=>
  exact .au (by grind[pB]) (by grind[rj])
theorem V.cf (hv:V ρ w a v):V ρ w (cf a) v:=by
 induction hv with
 | db v=>exact .db v
 | bool b=>exact .bool b
 | int k n=>exact .int k n
 | str s=>exact .str s
 | dG=>exact .dG
 | ptr o h=>exact .ptr o h
 | eE o c o' h=>exact .eE o c o' h
 | vp c o g hf hc hg ih=>
  exact .vp c o g (fun h=>hf fun e=>h (by rw[e];rfl)) (by grind[pA]) (by grind[rf])
 | ab=>exact .ff be
 | sl h hl hcap hb=>exact .sl h hl hcap hb
 | gA h=>exact .gA h
 | fB c o' h hl hcap=>exact .fB c o' h hl hcap
 | fX h=>exact .fX h
 | gB a h=>exact .gB a h
 | vs c o g hf hl hcap hc hg ih=>
  exact .vs c o g (fun h=>hf fun e=>h (by rw[e];rfl)) hl be (by grind[pA]) (by grind[rf])
 | ff hcap=>exact .ff be
 | fY a hcap=>exact .fY a be
 | eO=>exact .eO
 | map h=>exact .map h
 | iR c h=>exact .iR c h
 | yield h=>exact .yield h
 | fn hf h1 h2 g1 g2 i1 i2=>
  exact .fn hf (by grind[pA]) (by grind[pA]) (by grind[rf]) (by grind[rf])
 | iG c h=>exact .iG c h
 | fO=>exact .fO
 | iface h ih=>exact .iface ih
 | dh=>exact .dh
 | agg h g ih=>
  exact .agg (by grind[pA]) (by grind[rf])
 | au h g ih=>
  exact .au (by grind[pA]) (by grind[rf])
end
theorem KB {f:Nat}{h':aa}{v v':AV}{wr:List Nat}(hv:∀ρ w x,V ρ w v x->V ρ w v' x)(he:bX P gl ⟨f,as,h,⟨v,h',wr⟩⟩):bX P gl ⟨f,as,h,⟨v',h',wr⟩⟩:=by
 refine⟨he.1,fun ρ w as' m ha=>?_⟩;obtain⟨nx,w1,g1,g2⟩:=he.2 ρ w as' m ha;refine⟨nx,w1,g1,g2.mono fun x w' hd=>?_⟩;obtain⟨ρ',h1,h2,h3⟩:=hd;exact⟨ρ',hv _ _ _ h1,h2,h3⟩
def KC (P:Program)(FT:FuncId->Option dv)(T:List (Nat×Spec))(g:Nat)(as0:List AV)(v0:AV):Prop:=∃v hh v1,aV (aZ P FT T) g as0 [] ⟨v,hh,[]⟩/\fD hh v v1/\v1.top=0/\cf v1=v0
def WX (P:Program)(FT:FuncId->Option dv)(T:List (Nat×Spec))(g:Nat)(as:List AV)(h:aa)(r:HR):Prop:=∃as0 v0,gE h as as0/\KC P FT T g as0 v0/\r=⟨v0,h,[]⟩
noncomputable def tw (P:Program)(FT:FuncId->Option dv)(T:List (Nat×Spec))(g:Nat):Spec:=py (WX P FT T g)
theorem WY (hs:kG P gl FT){T:List (Nat×Spec)}(hT:cD P gl (bk T)){g:Nat}:aT P gl g (tw P FT T g):=Dv fun as h r ⟨as0,v0,hf,⟨v,hh,v1,hr,hn,ht,hc⟩,e⟩=>by
 subst e;subst hc;exact KB (fun _ _ _ h=>h.cf) (WS hs hT hr hf.fr hn ht)
theorem kL {T:List (Nat×Spec)}{g:Nat}{as0:List AV}{v0:AV}(hf:gE h as as0)(hr:KC P FT T g as0 v0):tw P FT T g as h=some ⟨v0,h,[]⟩:=
 Dw ⟨as0,v0,hf,hr,rfl⟩ fun r' ⟨as0',v0',hf',hr',e⟩=>by
  cases hf.uniq hf';obtain⟨v,hh,v1,r1,⟨B,f1,_⟩,t1,c1⟩:=hr;obtain⟨v',hh',v1',r2,⟨B',f2,_⟩,t2,c2⟩:=hr';cases r1.DA r2;rw[e,←c1,←c2,f1.can t1 f2 t2]
def DC (P:Program)(FT:FuncId->Option dv)(T:List (Nat×Spec))(g:Nat)(as:List AV)(v0:AV):Prop:=∃v hh v1,aV (aZ P FT T) g as [] ⟨v,hh,[]⟩/\eH hh v v1/\bc as=0/\v1.top=0/\bL v1=v0
def WZ (P:Program)(FT:FuncId->Option dv)(T:List (Nat×Spec))(g:Nat)(as:List AV)(h:aa)(r:HR):Prop:=∃v0,DC P FT T g as v0/\r=⟨v0,h,[]⟩
noncomputable def rk (P:Program)(FT:FuncId->Option dv)(T:List (Nat×Spec))(g:Nat):Spec:=py (WZ P FT T g)
theorem Xa (hs:kG P gl FT){T:List (Nat×Spec)}(hT:cD P gl (bk T)){g:Nat}:aT P gl g (rk P FT T g):=Dv fun as h r ⟨v0,⟨v,hh,v1,hr,hf,ha,ht,hc⟩,e⟩=>by
 subst e;subst hc;exact KB (fun _ _ _ h=>h.bL) (WM hs hT hr ha hf.fr ht)
theorem tx {T:List (Nat×Spec)}{g:Nat}{v0:AV}(hr:DC P FT T g as v0):rk P FT T g as h=some ⟨v0,h,[]⟩:=
 Dw ⟨v0,hr,rfl⟩ fun r' ⟨v0',hr',e⟩=>by
  obtain⟨v,hh,v1,r1,f1,_,t1,c1⟩:=hr;obtain⟨v',hh',v1',r2,f2,_,t2,c2⟩:=hr';cases r1.DA r2;rw[e,←c1,←c2,f1.can t1 f2 t2]
theorem eH.Xb {α:Type}{f:α->List AV}{v:AV}{l:List α}(hf:∀a,bc (f a)=0)(hs:Sl f h v l):v = .ab/\l=[]\/∃cap,eH h v (.vs (arr f l) l.length cap):=by
 rcases hs with ⟨rfl,rfl⟩|⟨c,rfl⟩|⟨b,off,ez,cap,c,e,rfl,hb,hc⟩
 . simp
 . exact .inr ⟨c,.same (jK hf l)⟩
 . exact .inr ⟨none,.sl hb hc rfl fun i x y hx hy=>by
    rw[hx]at hy;cases hy;exact .same (cO (jK hf l) hx)⟩
end Go.Ab
namespace Go.Ab
variable {FT:FuncId->Option dv} {T:List (Nat×Spec)} {g:Nat} {as:List AV} {h:aa} {v:AV} {c:List AV->Prop} {s1 s2:Spec}
variable {M:aw} {P:Program} {gl:Nat->Option AV}
def Xc (P:Program)(FT:FuncId->Option dv)(T:List (Nat×Spec))(g:Nat)(as:List AV)(h:aa)(r:HR):Prop:=aV (aZ P FT T) g as h r/\r.h=h/\r.wr=[]
noncomputable def DD (P:Program)(FT:FuncId->Option dv)(T:List (Nat×Spec))(g:Nat):Spec:=py (Xc P FT T g)
theorem Xd (hs:kG P gl FT){T:List (Nat×Spec)}(hT:cD P gl (bk T)){g:Nat}:aT P gl g (DD P FT T g):=Dv fun as h r ⟨hr,hh,hw⟩=>
 qU hs hT hr ⟨bS,fun b _ _=>by rw[hh]⟩
theorem Xe (hr:aV (aZ P FT T) g as h ⟨v,h,[]⟩):DD P FT T g as h=some ⟨v,h,[]⟩:=
 Dw ⟨hr,rfl,rfl⟩ fun _r' ⟨hr',_,_⟩=>hr'.DA hr
noncomputable def tz (c:List AV->Prop)(s1 s2:Spec):Spec:=fun as h=>open Classical in if c as then s1 as h else s2 as h
theorem Xf (h1:aT P gl g s1)(h2:aT P gl g s2):aT P gl g (tz c s1 s2):=by
 intro as h r hq;unfold tz at hq;split at hq
 . exact h1 as h r hq
 . exact h2 as h r hq
theorem Xg (hc:c as):tz c s1 s2 as h=s1 as h:=if_pos hc
theorem Xh (hc:¬c as):tz c s1 s2 as h=s2 as h:=if_neg hc
theorem fD.two {hh:aa}{x y x1 y1:AV}(hx:fD hh x x1)(hy:fD hh y y1):fD hh (.au [x,y]) (.au [x1,y1]):=by
 obtain⟨B1,f1,n1,g1⟩:=hx;obtain⟨B2,f2,n2,g2⟩:=hy;refine⟨B1++B2,.au rfl (fun i a b ha hb=>?_),by simp[de,fj,n1,n2],fun b l e hb hl=>?_⟩
 . match i with
   | 0=>cases ha;cases hb;exact f1.mono bS
   | 1=>cases ha;cases hb;exact f2.mono bS
   | i+2=>cases ha
 grind
theorem bO (hr:aV (aZ P FT T) g as [] ⟨v,[],[]⟩)(ha:bc as=0)(ht:v.top=0)(hc:bL v=v)(h:aa):rk P FT T g as h=some ⟨v,h,[]⟩:=
 tx ⟨v,[],v,hr,.same ht,ha,ht,hc⟩
theorem rl {as0:List AV}(hr:aV (aZ P FT T) g as0 [] ⟨v,[],[]⟩)(ht:v.top=0)(hn:de v=true)(hc:cf v=v){h:aa}(hf:gE h as as0):tw P FT T g as h=some ⟨v,h,[]⟩:=
 kL hf ⟨v,[],v,hr,.same ht hn,ht,hc⟩
end Go.Ab
namespace Go.Ab
variable {n:Nat}
variable {M:aw} {t:Nat} {x y:ay} {l:List aX} {pe:List AV} {lo:List (Nat×AV)} {hp:aa} {df wr:List Nat} {k:IntKind} {a b:Int} {Q:aq->Prop}
theorem pC (a:Int):IntKind.u64.wrap a=a%18446744073709551616:=by
 rfl
theorem rm {a:Int}(h:0<=a/\a<18446744073709551616):IntKind.u64.wrap a=a:=by rw[pC];omega
theorem amn (hx:(St.mk pe lo hp df).ae x=some (.int .u64 a))(hy:(St.mk pe lo hp df).ae y=some (.int .u64 b))
 (h:WO M l ⟨⟨pe,(t,.int .u64 ((a+b)%18446744073709551616))::lo,hp,df⟩,wr⟩ Q):WO M (⟨.l t,.bin .add x y,none⟩::l) ⟨⟨pe,lo,hp,df⟩,wr⟩ Q:=
 abL (v:=.int .u64 ((a+b)%18446744073709551616)) (by simp[aY,hx,hy,cU,pC]) rfl h
theorem alw (hx:(St.mk pe lo hp df).ae x=some (.int .u64 a))(hy:(St.mk pe lo hp df).ae y=some (.int .u64 b))(hr:0<=a+b/\a+b<18446744073709551616)
 (h:WO M l ⟨⟨pe,(t,.int .u64 (a+b))::lo,hp,df⟩,wr⟩ Q):WO M (⟨.l t,.bin .add x y,none⟩::l) ⟨⟨pe,lo,hp,df⟩,wr⟩ Q:=
 abL (v:=.int .u64 (a+b)) (by simp[aY,hx,hy,cU,rm hr]) rfl h
theorem amN (hx:(St.mk pe lo hp df).ae x=some (.int .u64 a))(hy:(St.mk pe lo hp df).ae y=some (.int .u64 b))
 (h:WO M l ⟨⟨pe,(t,.int .u64 ((a-b)%18446744073709551616))::lo,hp,df⟩,wr⟩ Q):WO M (⟨.l t,.bin .sub x y,none⟩::l) ⟨⟨pe,lo,hp,df⟩,wr⟩ Q:=
 abL (v:=.int .u64 ((a-b)%18446744073709551616)) (by simp[aY,hx,hy,cU,pC]) rfl h
theorem alZ (hx:(St.mk pe lo hp df).ae x=some (.int .u64 a))(hy:(St.mk pe lo hp df).ae y=some (.int .u64 b))(hr:0<=a-b/\a-b<18446744073709551616)
 (h:WO M l ⟨⟨pe,(t,.int .u64 (a-b))::lo,hp,df⟩,wr⟩ Q):WO M (⟨.l t,.bin .sub x y,none⟩::l) ⟨⟨pe,lo,hp,df⟩,wr⟩ Q:=
 abL (v:=.int .u64 (a-b)) (by simp[aY,hx,hy,cU,rm hr]) rfl h
theorem amo (hx:(St.mk pe lo hp df).ae x=some (.int .u64 a))(hy:(St.mk pe lo hp df).ae y=some (.int .u64 b))
 (h:WO M l ⟨⟨pe,(t,.int .u64 ((a*b)%18446744073709551616))::lo,hp,df⟩,wr⟩ Q):WO M (⟨.l t,.bin .mul x y,none⟩::l) ⟨⟨pe,lo,hp,df⟩,wr⟩ Q:=
 abL (v:=.int .u64 ((a*b)%18446744073709551616)) (by simp[aY,hx,hy,cU,pC]) rfl h
theorem akw (hx:(St.mk pe lo hp df).ae x=some (.int .u64 a))(hy:(St.mk pe lo hp df).ae y=some (.int .u64 b))(hr:0<=a*b/\a*b<18446744073709551616)
 (h:WO M l ⟨⟨pe,(t,.int .u64 (a*b))::lo,hp,df⟩,wr⟩ Q):WO M (⟨.l t,.bin .mul x y,none⟩::l) ⟨⟨pe,lo,hp,df⟩,wr⟩ Q:=
 abL (v:=.int .u64 (a*b)) (by simp[aY,hx,hy,cU,rm hr]) rfl h
theorem alU (hx:(St.mk pe lo hp df).ae x=some (.int .u64 a))(hy:(St.mk pe lo hp df).ae y=some (.int .u64 b))(ha:0<=a/\a<18446744073709551616)(hb:0<b)
 (h:WO M l ⟨⟨pe,(t,.int .u64 (a/b))::lo,hp,df⟩,wr⟩ Q):WO M (⟨.l t,.bin .quo x y,none⟩::l) ⟨⟨pe,lo,hp,df⟩,wr⟩ Q:=by
 refine abL (v:=.int .u64 (a/b)) ?_ rfl h;have h1:0<=a/b:=Int.ediv_nonneg ha.1 ac;have h2:a/b<=a:=Int.ediv_le_self _ ha.1;have h3:¬b=0:=by omega
 simp only[aY,hx,hy,cU,if_true,if_neg h3];grind[Int.tdiv_eq_ediv_of_nonneg,rm]
theorem amB (hx:(St.mk pe lo hp df).ae x=some (.int .u64 a))(hy:(St.mk pe lo hp df).ae y=some (.int .u64 b))(ha:0<=a)(hb:0<b)
 (h:WO M l ⟨⟨pe,(t,.int .u64 (a%b))::lo,hp,df⟩,wr⟩ Q):WO M (⟨.l t,.bin .rem x y,none⟩::l) ⟨⟨pe,lo,hp,df⟩,wr⟩ Q:=by
 refine abL (v:=.int .u64 (a%b)) ?_ rfl h;have h3:¬b=0:=by omega
 simp only[aY,hx,hy,cU,if_true,if_neg h3]<;>grind
theorem alF (hx:(St.mk pe lo hp df).ae x=some (.int .u64 a))(hy:(St.mk pe lo hp df).ae y=some (.int k b))(hb:b=n)(hn:n<=64)
 (h:WO M l ⟨⟨pe,(t,.int .u64 (a/2^n))::lo,hp,df⟩,wr⟩ Q):WO M (⟨.l t,.bin .shr x y,none⟩::l) ⟨⟨pe,lo,hp,df⟩,wr⟩ Q:=by
 refine abL (v:=.int .u64 (a/2^n)) ?_ rfl h;subst hb;have h3:¬((n:Int)<0):=by omega
 have h4:min ((n:Int).toNat) IntKind.u64.bits=n:=by
  show min ((n:Int).toNat) 64=n;omega
 simp only[aY,hx,hy,cU,if_neg h3,h4]<;>grind
theorem amc (hx:(St.mk pe lo hp df).ae x=some (.int .u64 a))(hy:(St.mk pe lo hp df).ae y=some (.int k b))(hb:b=n)(hn:n<=64)
 (h:WO M l ⟨⟨pe,(t,.int .u64 ((a*2^n)%18446744073709551616))::lo,hp,df⟩,wr⟩ Q):WO M (⟨.l t,.bin .shl x y,none⟩::l) ⟨⟨pe,lo,hp,df⟩,wr⟩ Q:=by
 refine abL (v:=.int .u64 ((a*2^n)%18446744073709551616)) ?_ rfl h;subst hb;have h3:¬((n:Int)<0):=by omega
 have h4:min ((n:Int).toNat) IntKind.u64.bits=n:=by
  show min ((n:Int).toNat) 64=n;omega
 simp only[aY,hx,hy,cU,if_neg h3,h4,pC]
theorem alK {c:Int}(hx:(St.mk pe lo hp df).ae x=some (.int .u64 a))(hy:(St.mk pe lo hp df).ae y=some (.int k b))(hb:b=n)(hn:n<=64)(hc:(2:Int)^n=c)
 (h:WO M l ⟨⟨pe,(t,.int .u64 (a/c))::lo,hp,df⟩,wr⟩ Q):WO M (⟨.l t,.bin .shr x y,none⟩::l) ⟨⟨pe,lo,hp,df⟩,wr⟩ Q:=by
 subst hc;exact alF hx hy hb hn h
theorem rn:BitVec.ofInt 64 (n:Int)=BitVec.ofNat 64 n:=by
 rfl
theorem amO (hx:(St.mk pe lo hp df).ae x=some (.int .u64 a))(hy:(St.mk pe lo hp df).ae y=some (.int .u64 4294967295))(ha:0<=a/\a<18446744073709551616)
 (h:WO M l ⟨⟨pe,(t,.int .u64 (a%4294967296))::lo,hp,df⟩,wr⟩ Q):WO M (⟨.l t,.bin .and x y,none⟩::l) ⟨⟨pe,lo,hp,df⟩,wr⟩ Q:=by
 refine abL (v:=.int .u64 (a%4294967296)) ?_ rfl h;obtain⟨n,rfl⟩:=c9 ha.1;have e:(BitVec.ofInt 64 (n:Int) &&& BitVec.ofInt 64 4294967295).toNat=n%4294967296:=by
  rw[rn,show (4294967295:Int)=((4294967295:Nat):Int) from rfl,rn,BitVec.toNat_and,BitVec.toNat_ofNat,BitVec.toNat_ofNat,c7 ac,c7 be];exact Nat.and_two_pow_sub_one_eq_mod n 32
 simp only[aY,hx,hy,cU,if_true];show some (AV.int .u64 (IntKind.u64.wrap ((BitVec.ofInt 64 (n:Int) &&& BitVec.ofInt 64 4294967295).toNat:Int)))=_;rw[e,rm ac];rfl
theorem amP (m:Nat)(hx:(St.mk pe lo hp df).ae x=some (.int .u64 a))(hy:(St.mk pe lo hp df).ae y=some (.int .u64 b))(ha:0<=a/\a<18446744073709551616)(hb:0<=b/\b<2^m)(hm:m<=64)(hd:a%2^m=0)
 (h:WO M l ⟨⟨pe,(t,.int .u64 (a+b))::lo,hp,df⟩,wr⟩ Q):WO M (⟨.l t,.bin .or x y,none⟩::l) ⟨⟨pe,lo,hp,df⟩,wr⟩ Q:=by
 refine abL (v:=.int .u64 (a+b)) ?_ rfl h;obtain⟨n,rfl⟩:=c9 ha.1;obtain⟨p,rfl⟩:=c9 hb.1;have hp2:p<2^m:=by have:=hb.2;exact_mod_cast this
 have h64:2^m<=2^64:=Nat.pow_le_pow_right am hm;have hd':n%2^m=0:=by exact_mod_cast hd
 obtain⟨q,hq⟩:∃q,n=2^m*q:=⟨n/2^m,by grind[i5]⟩;have hsum:n+p<2^64:=by
  have h1:n<2^64:=by omega
  obtain⟨r,hr⟩:∃r,2^64=2^m*2^r:=⟨64-m,by rw[←Nat.pow_add];grind⟩;rw[hq,hr]at h1;have h2:q<2^r:=Nat.lt_of_mul_lt_mul_left h1;have h3:2^m*(q+1)<=2^m*2^r:=Nat.mul_le_mul_left _ h2;rw[Nat.mul_add]at h3;omega
 have e:(BitVec.ofInt 64 (n:Int) ||| BitVec.ofInt 64 (p:Int)).toNat=n+p:=by
  rw[rn,rn,BitVec.toNat_or,BitVec.toNat_ofNat,BitVec.toNat_ofNat,c7 ac,c7 ac,hq];exact(Nat.two_pow_add_eq_or_of_lt hp2 q).symm
 simp only[aY,hx,hy,cU,if_true];show some (AV.int .u64 (IntKind.u64.wrap ((BitVec.ofInt 64 (n:Int) ||| BitVec.ofInt 64 (p:Int)).toNat:Int)))=_;rw[e,rm ac];rfl
theorem anb (hx:(St.mk pe lo hp df).ae x=some (.int k a))(h:WO M l ⟨⟨pe,(t,.int .u64 (a%18446744073709551616))::lo,hp,df⟩,wr⟩ Q):WO M (⟨.l t,.dM .u64 x,none⟩::l) ⟨⟨pe,lo,hp,df⟩,wr⟩ Q:=
 abL (v:=.int .u64 (a%18446744073709551616)) (by simp only[aY,hx,ce,mT,pC]) rfl h
theorem Xi {a:Int}:IntKind.u8.wrap a=a%256:=by
 rfl
theorem amE (hx:(St.mk pe lo hp df).ae x=some (.int k a))(h:WO M l ⟨⟨pe,(t,.int .u8 (a%256))::lo,hp,df⟩,wr⟩ Q):WO M (⟨.l t,.dM .u8 x,none⟩::l) ⟨⟨pe,lo,hp,df⟩,wr⟩ Q:=
 abL (v:=.int .u8 (a%256)) (by simp only[aY,hx,ce,mT,Xi]) rfl h
end Go.Ab
namespace Go.Ab
open Go.RowKit
variable {P:Program} {gl:Nat->Option AV} {ρ:az} {h:aa} {w w':World}
end Go.Ab
