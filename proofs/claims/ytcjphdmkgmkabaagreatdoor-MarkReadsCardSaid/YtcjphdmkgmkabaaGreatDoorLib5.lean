/-
  Own work: contracts by contents: what a run on the empty heap hands back is the contract itself; no relation is told a second time.
-/
import Derived.Test.YtcjphdmkgmkabaaGreatDoorLib4
import Derived.Below
set_option maxHeartbeats 8000000
set_option maxRecDepth 20000
namespace Go.Ab
variable {h:ab} {l:List AV} {x:AV}
variable {M:au} {P:Program} {gl:Nat->Option AV}
theorem aJ.CE {f:FuncId}{as:List AV}{r r':HR}(h1:aJ M f as h r)(h2:aJ M f as h r'):r=r':=by
 obtain⟨n,hn⟩:=h1;obtain⟨m,hm⟩:=h2;have a1:=mU (mV (Nat.le_max_left n m)) hn;have a2:=mU (mV (Nat.le_max_right n m)) hm;exact Option.some.inj (a1.symm.trans a2)
mutual
def bD:AV->AV
 | .ak=>.vs [] 0 none
 | .vs l n _=>.vs (eF l) n none
 | .vp l=>.vp (eF l)
 | .agg l=>.agg (eF l)
 | .aq l=>.aq (eF l)
 | .fn f a b=>.fn f (eF a) (eF b)
 | .iface t v=>.iface t (bD v)
 | v=>v
def eF:List AV->List AV
 | []=>[]
 | v::r=>bD v::eF r
end
theorem fG:∀{l m:List AV},l.length=m.length->(∀(i:Nat) x y,l[i]? = some x->m[i]? = some y->bD x=bD y)->eF l=eF m
 | [],[],_,_=>rfl
 | x::l,y::m,hl,h=>by
  rw[eF,eF,h 0 x y rfl rfl,fG (by simpa using hl) fun i a b ha hb=>h (i+1) a b ha hb]
theorem iY {m m':List AV}(h1:l.length=m.length)(h2:l.length=m'.length)(h:∀(i:Nat) a x y,l[i]? = some a->m[i]? = some x->m'[i]? = some y->bD x=bD y):eF m=eF m':=
 fG (h1.symm.trans h2) fun i x y hx hy=>by
  have hi:i<l.length:=by rw[h1];exact(List.getElem?_eq_some_iff.1 hx).1
  exact h i l[i] x y (List.getElem?_eq_getElem hi) hx hy
theorem bK (h:aY l=0){i:Nat}{x:AV}(hx:l[i]? = some x):x.top=0:=by
 have:=dS (n:=0) (by omega) i x hx;omega
theorem Fr.fS {S:List Nat}{a:AV}(hr:Fr h S a x):a.top=0->bD a=bD x:=by
 induction hr with
 | same ht=>exact fun _=>rfl
 | nil hc=>exact fun _=>by simp[bD,eF]
 | sl=>intro ht;simp[AV.top]at ht
 | ptr=>intro ht;simp[AV.top]at ht
 | vs hl hg ih=>intro ht;rw[bD,bD,fG hl fun i x y hx hy=>ih i x y hx hy (bK ht hx)]
 | agg hl hg ih=>intro ht;rw[bD,bD,fG hl fun i x y hx hy=>ih i x y hx hy (bK ht hx)]
 | aq hl hg ih=>intro ht;rw[bD,bD,fG hl fun i x y hx hy=>ih i x y hx hy (bK ht hx)]
 | fn hf h1 h2 g1 g2 i1 i2=>
  intro ht;simp only[AV.top]at ht;rw[bD,bD,fG h1 fun i x y hx hy=>i1 i x y hx hy (bK (by omega) hx),fG h2 fun i x y hx hy=>i2 i x y hx hy (bK (by omega) hx)]
theorem Fr.can {S:List Nat}{a:AV}(hr:Fr h S a x):x.top=0->∀{S':List Nat} {y:AV},Fr h S' a y->y.top=0->bD x=bD y:=by
 induction hr with
 | same ht=>exact fun _ S' y hy _=>hy.fS ht
 | nil hc=>exact fun _ S' y hy _=>by cases hy <;> simp[bD,eF]
 | sl hb ha hc hl hg hcc ih=>
  intro hx S' y hy hyt;cases hy with
  | same ht=>simp[AV.top]at ht
  | sl hb' ha' hc' hl' hg' hcc'=>
   rw[ha]at ha';cases ha';rw[hc]at hc';cases hc';rw[bD,bD,iY hl hl' fun i a x y h1 h2 h3=>ih i a x h1 h2 (bK hx h2) (hg' i a y h1 h3) (bK hyt h3)]
 | ptr hb ha hl hg ih=>
  intro hx S' y hy hyt;cases hy with
  | same ht=>simp[AV.top]at ht
  | ptr hb' ha' hl' hg'=>
   rw[ha]at ha';cases ha';rw[bD,bD,iY hl hl' fun i a x y h1 h2 h3=>ih i a x h1 h2 (bK hx h2) (hg' i a y h1 h3) (bK hyt h3)]
 | vs hl hg ih=>
  intro hx S' y hy hyt;cases hy with
  | same ht=>rw[bD,bD,fG hl.symm fun i x y hx' hy'=>((hg i y x hy' hx').fS (bK ht hy')).symm]
  | vs hl' hg'=>rw[bD,bD,iY hl hl' fun i a x y h1 h2 h3=>ih i a x h1 h2 (bK hx h2) (hg' i a y h1 h3) (bK hyt h3)]
 | agg hl hg ih=>
  intro hx S' y hy hyt;cases hy with
  | same ht=>rw[bD,bD,fG hl.symm fun i x y hx' hy'=>((hg i y x hy' hx').fS (bK ht hy')).symm]
  | agg hl' hg'=>rw[bD,bD,iY hl hl' fun i a x y h1 h2 h3=>ih i a x h1 h2 (bK hx h2) (hg' i a y h1 h3) (bK hyt h3)]
 | aq hl hg ih=>
  intro hx S' y hy hyt;cases hy with
  | same ht=>rw[bD,bD,fG hl.symm fun i x y hx' hy'=>((hg i y x hy' hx').fS (bK ht hy')).symm]
  | aq hl' hg'=>rw[bD,bD,iY hl hl' fun i a x y h1 h2 h3=>ih i a x h1 h2 (bK hx h2) (hg' i a y h1 h3) (bK hyt h3)]
 | fn hf h1 h2 g1 g2 i1 i2=>
  intro hx S' y hy hyt;simp only[AV.top]at hx;cases hy with
  | same ht=>
   simp only[AV.top]at ht;rw[bD,bD,fG h1.symm fun i x y hx' hy'=>((g1 i y x hy' hx').fS (bK (by omega) hy')).symm,fG h2.symm fun i x y hx' hy'=>((g2 i y x hy' hx').fS (bK (by omega) hy')).symm]
  | fn hf' h1' h2' g1' g2'=>
   simp only[AV.top]at hyt;rw[bD,bD,iY h1 h1' fun i a x y e1 e2 e3=>i1 i a x e1 e2 (bK (by omega) e2) (g1' i a y e1 e3) (bK (by omega) e3),
     iY h2 h2' fun i a x y e1 e2 e3=>i2 i a x e1 e2 (bK (by omega) e2) (g2' i a y e1 e3) (bK (by omega) e3)]
def CF:AV->Bool
 | .int _ _=>true
 | .bool _=>true
 | .str _=>true
 | .fn f [] []=>match f with | .yield _=>false|_=>true
 | _=>false
inductive gk (h:ab):AV->AV->Prop
 | atom {a:AV} (ha:CF a=true):gk h a a
 | nil:gk h .ak (.vs [] 0 none)
 | sl {b off len esz:Nat} {cap:Option Nat} {l m m0:List AV} {e:TypeId} (ha:h.at b=some (.cells l e)) (hc:cut l off (len*esz)=some m) (hl:m.length=m0.length)
     (hg:∀(i:Nat) x y,m[i]? = some x->m0[i]? = some y->gk h x y):gk h (.sl b off len esz cap) (.vs m0 len none)
 | vs {l l0:List AV} {n:Nat} {cap:Option Nat} (hl:l.length=l0.length) (hg:∀(i:Nat) x y,l[i]? = some x->l0[i]? = some y->gk h x y):gk h (.vs l n cap) (.vs l0 n cap)
 | agg {l l0:List AV} (hl:l.length=l0.length) (hg:∀(i:Nat) x y,l[i]? = some x->l0[i]? = some y->gk h x y):gk h (.agg l) (.agg l0)
def lj (h:ab)(l l0:List AV):Prop:=l.length=l0.length/\∀(i:Nat) x y,l[i]? = some x->l0[i]? = some y->gk h x y
theorem lj.nil:lj h [] []:=⟨rfl,by simp⟩
theorem lj.cons {y:AV}{m:List AV}(h1:gk h x y)(h2:lj h l m):lj h (x::l) (y::m):=by
 refine⟨by simp[h2.1],fun i a b ha hb=>?_⟩;cases i with
 | zero=>simp at ha hb;subst ha;subst hb;exact h1
 | succ i=>simp at ha hb;exact h2.2 i a b ha hb
theorem enter:(∀(f:Nat -> AV) a l,(a::l).map f=f a::l.map f) /\ (∀f:Nat -> AV,[].map f=[]) /\ (∀(a:AV) (l:List AV),(a::l)[0]? = some a) /\ (∀(a:AV) (l:List AV) (n:Nat),(a::l)[n+1]? = l[n]?) /\ (∀n:Nat,([]:List AV)[n]? = none) /\ (∀a b:AV,(some a).getD b=a) /\ ∀b:AV,none.getD b=b:=
  ⟨fun _ _ _=>rfl,fun _=>rfl,fun _ _=>rfl,fun _ _ _=>rfl,fun _=>rfl,fun _ _=>rfl,fun _=>rfl⟩
end Go.Ab
namespace Go.Ab
variable {h:ab} {x:AV}
variable {M:au} {P:Program} {gl:Nat->Option AV}
mutual
def bz:AV->AV
 | .vs l n _=>.vs (cE l) n none
 | .vp l=>.vp (cE l)
 | .agg l=>.agg (cE l)
 | .aq l=>.aq (cE l)
 | .fn f a b=>.fn f (cE a) (cE b)
 | .iface t v=>.iface t (bz v)
 | v=>v
def cE:List AV->List AV
 | []=>[]
 | v::r=>bz v::cE r
end
theorem ir:∀{l m:List AV},l.length=m.length->(∀(i:Nat) x y,l[i]? = some x->m[i]? = some y->bz x=bz y)->cE l=cE m
 | [],[],_,_=>rfl
 | x::l,y::m,hl,h=>by
  rw[cE,cE,h 0 x y rfl rfl,ir (by simpa using hl) fun i a b ha hb=>h (i+1) a b ha hb]
theorem ng {l m m':List AV}(h1:l.length=m.length)(h2:l.length=m'.length)(h:∀(i:Nat) a x y,l[i]? = some a->m[i]? = some x->m'[i]? = some y->bz x=bz y):cE m=cE m':=
 ir (h1.symm.trans h2) fun i x y hx hy=>by
  have hi:i<l.length:=by rw[h1];exact(List.getElem?_eq_some_iff.1 hx).1
  exact h i l[i] x y (List.getElem?_eq_getElem hi) hx hy
theorem uB:∀(l m:List AV),cE (l++m)=cE l++cE m
 | [],m=>rfl
 | x::l,m=>by rw[List.cons_append,cE,cE,uB l m];rfl
theorem pV {α:Type}{f:α->List AV}(hf:∀a,cE (f a)=f a):∀l,cE (arr f l)=arr f l
 | []=>rfl
 | a::l=>by rw[iS,uB,hf,pV hf l]
inductive ec (h:ab):AV->AV->Prop
 | same {v:AV} (ht:v.top=0):ec h v v
 | sl {b off len esz:Nat} {cap:Option Nat} {l m m0:List AV} {e:TypeId} (ha:h.at b=some (.cells l e)) (hc:cut l off (len*esz)=some m) (hl:m.length=m0.length)
     (hg:∀(i:Nat) x y,m[i]? = some x->m0[i]? = some y->ec h x y):ec h (.sl b off len esz cap) (.vs m0 len none)
 | vs {l l0:List AV} {n:Nat} {cap:Option Nat} (hl:l.length=l0.length) (hg:∀(i:Nat) x y,l[i]? = some x->l0[i]? = some y->ec h x y):ec h (.vs l n cap) (.vs l0 n cap)
 | agg {l l0:List AV} (hl:l.length=l0.length) (hg:∀(i:Nat) x y,l[i]? = some x->l0[i]? = some y->ec h x y):ec h (.agg l) (.agg l0)
 | aq {l l0:List AV} (hl:l.length=l0.length) (hg:∀(i:Nat) x y,l[i]? = some x->l0[i]? = some y->ec h x y):ec h (.aq l) (.aq l0)
theorem ec.fr {a:AV}(hr:ec h a x):Fr h (List.range h.length) a x:=by
 induction hr with
 | same ht=>exact .same ht
 | sl ha hc hl hg ih=>exact .sl (List.mem_range.2 (na ha)) ha hc hl ih (.inr rfl)
 | vs hl hg ih=>exact .vs hl ih
 | agg hl hg ih=>exact .agg hl ih
 | aq hl hg ih=>exact .aq hl ih
theorem ec.fS {a:AV}(hr:ec h a x):a.top=0->bz a=bz x:=by
 induction hr with
 | same ht=>exact fun _=>rfl
 | sl=>intro ht;simp[AV.top]at ht
 | vs hl hg ih=>intro ht;rw[bz,bz,ir hl fun i x y hx hy=>ih i x y hx hy (bK ht hx)]
 | agg hl hg ih=>intro ht;rw[bz,bz,ir hl fun i x y hx hy=>ih i x y hx hy (bK ht hx)]
 | aq hl hg ih=>intro ht;rw[bz,bz,ir hl fun i x y hx hy=>ih i x y hx hy (bK ht hx)]
theorem ec.can {a:AV}(hr:ec h a x):x.top=0->∀{y:AV},ec h a y->y.top=0->bz x=bz y:=by
 induction hr with
 | same ht=>exact fun _ y hy _=>hy.fS ht
 | sl ha hc hl hg ih=>
  intro hx y hy hyt;cases hy with
  | same ht=>simp[AV.top]at ht
  | sl ha' hc' hl' hg'=>
   rw[ha]at ha';cases ha';rw[hc]at hc';cases hc';rw[bz,bz,ng hl hl' fun i a x y h1 h2 h3=>ih i a x h1 h2 (bK hx h2) (hg' i a y h1 h3) (bK hyt h3)]
 | vs hl hg ih=>
  intro hx y hy hyt;cases hy with
  | same ht=>rw[bz,bz,ir hl.symm fun i x y hx' hy'=>((hg i y x hy' hx').fS (bK ht hy')).symm]
  | vs hl' hg'=>rw[bz,bz,ng hl hl' fun i a x y h1 h2 h3=>ih i a x h1 h2 (bK hx h2) (hg' i a y h1 h3) (bK hyt h3)]
 | agg hl hg ih=>
  intro hx y hy hyt;cases hy with
  | same ht=>rw[bz,bz,ir hl.symm fun i x y hx' hy'=>((hg i y x hy' hx').fS (bK ht hy')).symm]
  | agg hl' hg'=>rw[bz,bz,ng hl hl' fun i a x y h1 h2 h3=>ih i a x h1 h2 (bK hx h2) (hg' i a y h1 h3) (bK hyt h3)]
 | aq hl hg ih=>
  intro hx y hy hyt;cases hy with
  | same ht=>rw[bz,bz,ir hl.symm fun i x y hx' hy'=>((hg i y x hy' hx').fS (bK ht hy')).symm]
  | aq hl' hg'=>rw[bz,bz,ng hl hl' fun i a x y h1 h2 h3=>ih i a x h1 h2 (bK hx h2) (hg' i a y h1 h3) (bK hyt h3)]
theorem jV {l:List AV}{i:Nat}(h:(cE l)[i]? = some x):∃y,l[i]? = some y/\x=bz y:=by
 induction l generalizing i with
 | nil=>simp[cE]at h
 | cons a l ih=>
  rw[cE]at h;cases i with
  | zero=>simp at h;exact⟨a,rfl,h.symm⟩
  | succ i=>exact ih (by simpa using h)
theorem iZ:∀l:List AV,(cE l).length=l.length
 | []=>rfl
 | a::l=>by rw[cE,List.length_cons,List.length_cons,iZ l]
section
variable {ρ:al} {w:World} {a:AV} {v:Value}
theorem V.bz (hv:V ρ w a v):V ρ w (bz a) v:=by
 induction hv with
 | bI v=>exact .bI v
 | bool b=>exact .bool b
 | int k n=>exact .int k n
 | str s=>exact .str s
 | cK=>exact .cK
 | ptr o h=>exact .ptr o h
 | cQ o c o' h=>exact .cQ o c o' h
 | vp c o g hf hc hg ih=>
  exact .vp c o g (fun h=>hf fun e=>h (by rw[e];rfl)) (fun i hi=>hc i (by rwa [iZ]at hi)) fun i x hx=>by
   obtain⟨y,hy,rfl⟩:=jV hx;exact ih i y hy
 | ak=>exact .ak
 | sl h hl hcap hb=>exact .sl h hl hcap hb
 | dK h=>exact .dK h
 | di c o' h hl hcap=>exact .di c o' h hl hcap
 | dD h=>exact .dD h
 | dL a h=>exact .dL a h
 | vs c o g hf hl hcap hc hg ih=>
  exact .vs c o g (fun h=>hf fun e=>h (by rw[e];rfl)) hl (fun n hn=>by cases hn) (fun i hi=>hc i (by rwa [iZ]at hi)) fun i x hx=>by
   obtain⟨y,hy,rfl⟩:=jV hx;exact ih i y hy
 | dE hcap=>exact .dE (fun n hn=>by cases hn)
 | dR a hcap=>exact .dR a (fun n hn=>by cases hn)
 | bY=>exact .bY
 | map h=>exact .map h
 | eU c h=>exact .eU c h
 | yield h=>exact .yield h
 | fn hf h1 h2 g1 g2 i1 i2=>
  exact .fn hf (by rw[iZ];exact h1) (by rw[iZ];exact h2) (fun i x y hx hy=>by
   obtain⟨z,hz,rfl⟩:=jV hx;exact i1 i z y hz hy) fun i x y hx hy=>by
   obtain⟨z,hz,rfl⟩:=jV hx;exact i2 i z y hz hy
 | eV c h=>exact .eV c h
 | cH=>exact .cH
 | iface h ih=>exact .iface ih
 | bZ=>exact .bZ
 | agg h g ih=>
  exact .agg (by rw[iZ];exact h) fun i x y hx hy=>by
   obtain⟨z,hz,rfl⟩:=jV hx;exact ih i z y hz hy
 | aq h g ih=>
  exact .aq (by rw[iZ];exact h) fun i x y hx hy=>by
   obtain⟨z,hz,rfl⟩:=jV hx;exact ih i z y hz hy
end
theorem CG {f:Nat}{as:List AV}{h':ab}{v v':AV}{wr:List Nat}(hv:∀ρ w x,V ρ w v x->V ρ w v' x)(he:aS P gl ⟨f,as,h,⟨v,h',wr⟩⟩):aS P gl ⟨f,as,h,⟨v',h',wr⟩⟩:=by
 refine⟨he.1,fun ρ w as' m ha=>?_⟩;obtain⟨nx,w1,g1,g2⟩:=he.2 ρ w as' m ha;refine⟨nx,w1,g1,g2.mono fun x w' hd=>?_⟩;obtain⟨ρ',h1,h2,h3⟩:=hd;exact⟨ρ',hv _ _ _ h1,h2,h3⟩
def pW (P:Program)(FT:FuncId->Option bJ)(T:List (Nat×Spec))(g:Nat)(as:List AV)(v0:AV):Prop:=∃v hh v1,aJ (bA P FT T) g as [] ⟨v,hh,[]⟩/\ec hh v v1/\aY as=0/\v1.top=0/\bz v1=v0
def CH (P:Program)(FT:FuncId->Option bJ)(T:List (Nat×Spec))(g:Nat)(as:List AV)(h:ab)(r:HR):Prop:=∃v0,pW P FT T g as v0/\r=⟨v0,h,[]⟩
noncomputable def lk (P:Program)(FT:FuncId->Option bJ)(T:List (Nat×Spec))(g:Nat):Spec:=lh (CH P FT T g)
theorem CI {FT:FuncId->Option bJ}(hs:iR P gl FT){T:List (Nat×Spec)}(hT:cR P gl (cT T)){g:Nat}:aV P gl g (lk P FT T g):=Cw fun as h r ⟨v0,⟨v,hh,v1,hr,hf,ha,ht,hc⟩,e⟩=>by
 subst e;subst hc;exact CG (fun _ _ _ h=>h.bz) (CC hs hT hr ha hf.fr ht)
theorem uD {FT:FuncId->Option bJ}{T:List (Nat×Spec)}{g:Nat}{as:List AV}{v0:AV}(hr:pW P FT T g as v0):lk P FT T g as h=some ⟨v0,h,[]⟩:=
 Cy ⟨v0,hr,rfl⟩ fun r' ⟨v0',hr',e⟩=>by
  obtain⟨v,hh,v1,r1,f1,_,t1,c1⟩:=hr;obtain⟨v',hh',v1',r2,f2,_,t2,c2⟩:=hr';cases r1.CE r2;rw[e,←c1,←c2,f1.can t1 f2 t2]
end Go.Ab
namespace Go.Ab
variable {M:au} {P:Program} {gl:Nat->Option AV}
theorem bQ {FT:FuncId->Option bJ}{T:List (Nat×Spec)}{g:Nat}{as:List AV}{v:AV}(hr:aJ (bA P FT T) g as [] ⟨v,[],[]⟩)(ha:aY as=0)(ht:v.top=0)(hc:bz v=v)(h:ab):lk P FT T g as h=some ⟨v,h,[]⟩:=
 uD ⟨v,[],v,hr,.same ht,ha,ht,hc⟩
end Go.Ab
namespace Go.Ab
variable {n:Nat}
variable {M:au} {t:Nat} {x y:an} {l:List aw} {pe:List AV} {lo:List (Nat×AV)} {hp:ab} {df wr:List Nat} {k:IntKind} {a b:Int} {Q:ah->Prop}
theorem nh (a:Int):IntKind.u64.wrap a=a%18446744073709551616:=by
 simp only[IntKind.wrap,IntKind.bits,IntKind.signed];simp
theorem ni {a:Int}(h:0<=a/\a<18446744073709551616):IntKind.u64.wrap a=a:=by rw[nh];omega
theorem LK (hx:(St.mk pe lo hp df).aa x=some (.int .u64 a))(hy:(St.mk pe lo hp df).aa y=some (.int .u64 b))(hr:0<=a+b/\a+b<18446744073709551616)
 (h:WO M l ⟨⟨pe,(t,.int .u64 (a+b))::lo,hp,df⟩,wr⟩ Q):WO M (⟨.l t,.bin .add x y,none⟩::l) ⟨⟨pe,lo,hp,df⟩,wr⟩ Q:=
 Kd (v:=.int .u64 (a+b)) (by simp[aC,hx,hy,cf,ni hr]) rfl h
theorem LL (hx:(St.mk pe lo hp df).aa x=some (.int .u64 a))(hy:(St.mk pe lo hp df).aa y=some (.int .u64 b))
 (h:WO M l ⟨⟨pe,(t,.int .u64 ((a*b)%18446744073709551616))::lo,hp,df⟩,wr⟩ Q):WO M (⟨.l t,.bin .mul x y,none⟩::l) ⟨⟨pe,lo,hp,df⟩,wr⟩ Q:=
 Kd (v:=.int .u64 ((a*b)%18446744073709551616)) (by simp[aC,hx,hy,cf,nh]) rfl h
theorem LM (hx:(St.mk pe lo hp df).aa x=some (.int .u64 a))(hy:(St.mk pe lo hp df).aa y=some (.int .u64 b))(hr:0<=a*b/\a*b<18446744073709551616)
 (h:WO M l ⟨⟨pe,(t,.int .u64 (a*b))::lo,hp,df⟩,wr⟩ Q):WO M (⟨.l t,.bin .mul x y,none⟩::l) ⟨⟨pe,lo,hp,df⟩,wr⟩ Q:=
 Kd (v:=.int .u64 (a*b)) (by simp[aC,hx,hy,cf,ni hr]) rfl h
theorem LN (hx:(St.mk pe lo hp df).aa x=some (.int .u64 a))(hy:(St.mk pe lo hp df).aa y=some (.int .u64 b))(ha:0<=a/\a<18446744073709551616)(hb:0<b)
 (h:WO M l ⟨⟨pe,(t,.int .u64 (a/b))::lo,hp,df⟩,wr⟩ Q):WO M (⟨.l t,.bin .quo x y,none⟩::l) ⟨⟨pe,lo,hp,df⟩,wr⟩ Q:=by
 refine Kd (v:=.int .u64 (a/b)) ?_ rfl h;have h1:0<=a/b:=Int.ediv_nonneg ha.1 (Int.le_of_lt hb);have h2:a/b<=a:=Int.ediv_le_self _ ha.1;have h3:¬b=0:=by omega
 simp only[aC,hx,hy,cf,if_true,if_neg h3];rw[Int.tdiv_eq_ediv_of_nonneg ha.1,ni ⟨h1,by omega⟩]
theorem LO (hx:(St.mk pe lo hp df).aa x=some (.int .u64 a))(hy:(St.mk pe lo hp df).aa y=some (.int .u64 b))(ha:0<=a)(hb:0<b)
 (h:WO M l ⟨⟨pe,(t,.int .u64 (a%b))::lo,hp,df⟩,wr⟩ Q):WO M (⟨.l t,.bin .rem x y,none⟩::l) ⟨⟨pe,lo,hp,df⟩,wr⟩ Q:=by
 refine Kd (v:=.int .u64 (a%b)) ?_ rfl h;have h3:¬b=0:=by omega
 simp only[aC,hx,hy,cf,if_true,if_neg h3];rw[Int.tmod_eq_emod_of_nonneg ha]
theorem WO.CP (hx:(St.mk pe lo hp df).aa x=some (.int .u64 a))(hy:(St.mk pe lo hp df).aa y=some (.int k b))(hb:b=n)(hn:n<=64)
 (h:WO M l ⟨⟨pe,(t,.int .u64 (a/2^n))::lo,hp,df⟩,wr⟩ Q):WO M (⟨.l t,.bin .shr x y,none⟩::l) ⟨⟨pe,lo,hp,df⟩,wr⟩ Q:=by
 refine Kd (v:=.int .u64 (a/2^n)) ?_ rfl h;subst hb;have h3:¬((n:Int)<0):=by omega
 have h4:min ((n:Int).toNat) IntKind.u64.bits=n:=by
  show min ((n:Int).toNat) 64=n;omega
 simp only[aC,hx,hy,cf,if_neg h3,h4];rw[Int.fdiv_eq_ediv_of_nonneg _ (Int.le_of_lt (Int.pow_pos (by decide)))]
theorem Lr {c:Int}(hx:(St.mk pe lo hp df).aa x=some (.int .u64 a))(hy:(St.mk pe lo hp df).aa y=some (.int k b))(hb:b=n)(hn:n<=64)(hc:(2:Int)^n=c)
 (h:WO M l ⟨⟨pe,(t,.int .u64 (a/c))::lo,hp,df⟩,wr⟩ Q):WO M (⟨.l t,.bin .shr x y,none⟩::l) ⟨⟨pe,lo,hp,df⟩,wr⟩ Q:=by
 subst hc;exact WO.CP hx hy hb hn h
theorem uE:BitVec.ofInt 64 (n:Int)=BitVec.ofNat 64 n:=by
 apply BitVec.eq_of_toNat_eq;simp[]
theorem LP (hx:(St.mk pe lo hp df).aa x=some (.int .u64 a))(hy:(St.mk pe lo hp df).aa y=some (.int .u64 4294967295))(ha:0<=a/\a<18446744073709551616)
 (h:WO M l ⟨⟨pe,(t,.int .u64 (a%4294967296))::lo,hp,df⟩,wr⟩ Q):WO M (⟨.l t,.bin .and x y,none⟩::l) ⟨⟨pe,lo,hp,df⟩,wr⟩ Q:=by
 refine Kd (v:=.int .u64 (a%4294967296)) ?_ rfl h;obtain⟨n,rfl⟩:=Int.eq_ofNat_of_zero_le ha.1;have e:(BitVec.ofInt 64 (n:Int) &&& BitVec.ofInt 64 4294967295).toNat=n%4294967296:=by
  rw[uE,show (4294967295:Int)=((4294967295:Nat):Int) from rfl,uE,BitVec.toNat_and,BitVec.toNat_ofNat,BitVec.toNat_ofNat,Nat.mod_eq_of_lt (show n<2^64 by omega),Nat.mod_eq_of_lt (show 4294967295<2^64 by decide)];exact Nat.and_two_pow_sub_one_eq_mod n 32
 simp only[aC,hx,hy,cf,if_true];show some (AV.int .u64 (IntKind.u64.wrap ((BitVec.ofInt 64 (n:Int) &&& BitVec.ofInt 64 4294967295).toNat:Int)))=_;rw[e,ni (by omega)];rfl
theorem LR (hx:(St.mk pe lo hp df).aa x=some (.int k a))(h:WO M l ⟨⟨pe,(t,.int .u64 (a%18446744073709551616))::lo,hp,df⟩,wr⟩ Q):WO M (⟨.l t,.de .u64 x,none⟩::l) ⟨⟨pe,lo,hp,df⟩,wr⟩ Q:=
 Kd (v:=.int .u64 (a%18446744073709551616)) (by simp only[aC,hx,Option.bind_some,gR,nh]) rfl h
theorem CS {a:Int}:IntKind.u8.wrap a=a%256:=by
 simp only[IntKind.wrap,IntKind.bits,IntKind.signed];simp
theorem LD (hx:(St.mk pe lo hp df).aa x=some (.int k a))(h:WO M l ⟨⟨pe,(t,.int .u8 (a%256))::lo,hp,df⟩,wr⟩ Q):WO M (⟨.l t,.de .u8 x,none⟩::l) ⟨⟨pe,lo,hp,df⟩,wr⟩ Q:=
 Kd (v:=.int .u8 (a%256)) (by simp only[aC,hx,Option.bind_some,gR,CS]) rfl h
end Go.Ab
namespace Go.Ab
open Go.RowKit
variable {P:Program} {gl:Nat->Option AV} {ρ:al} {h:ab} {w w':World}
end Go.Ab
