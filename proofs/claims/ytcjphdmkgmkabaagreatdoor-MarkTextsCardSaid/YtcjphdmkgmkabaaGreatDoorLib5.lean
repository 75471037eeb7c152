/-
  Own work: appends to empty literals in drawn regions: what they make is new.
-/
import Derived.Test.YtcjphdmkgmkabaaGreatDoorLib4
import Derived.Below
set_option maxHeartbeats 8000000
set_option maxRecDepth 20000
namespace Go.Ab
variable {M:ay}
theorem dX.one {α:Type}{f:α->List AV}{esz:Nat}{e:TypeId}{hp:ae}{o:AV}{acc:List α}{S:List Nat}(h:dX f esz e hp o acc S):AV.cells o=some [o]/\cF o=true:=by
 rcases h with ⟨_,rfl⟩|⟨c,cap,_,rfl,_,_⟩ <;> exact⟨rfl,rfl⟩
end Go.Ab
namespace Go.Ab
variable {M:ay}
end Go.Ab
namespace Go.Ab
variable {h:ae} {l:List AV} {x:AV}
variable {M:ay} {P:Program} {gl:Nat->Option AV}
theorem aG.DD {f:FuncId}{as:List AV}{r r':HR}(h1:aG M f as h r)(h2:aG M f as h r'):r=r':=by
 obtain⟨n,hn⟩:=h1;obtain⟨m,hm⟩:=h2;have a1:=nf (ng (Nat.le_max_left n m)) hn;have a2:=nf (ng (Nat.le_max_right n m)) hm;exact Option.some.inj (a1.symm.trans a2)
mutual
def bN:AV->AV
 | .al=>.vs [] 0 none
 | .vs l n _=>.vs (eV l) n none
 | .vp l=>.vp (eV l)
 | .agg l=>.agg (eV l)
 | .ar l=>.ar (eV l)
 | .fn f a b=>.fn f (eV a) (eV b)
 | .iface t v=>.iface t (bN v)
 | v=>v
def eV:List AV->List AV
 | []=>[]
 | v::r=>bN v::eV r
end
theorem fO:∀{l m:List AV},l.length=m.length->(∀(i:Nat) x y,l[i]? = some x->m[i]? = some y->bN x=bN y)->eV l=eV m
 | [],[],_,_=>rfl
 | x::l,y::m,hl,h=>by
  rw[eV,eV,h 0 x y rfl rfl,fO (by simpa using hl) fun i a b ha hb=>h (i+1) a b ha hb]
theorem jn {m m':List AV}(h1:l.length=m.length)(h2:l.length=m'.length)(h:∀(i:Nat) a x y,l[i]? = some a->m[i]? = some x->m'[i]? = some y->bN x=bN y):eV m=eV m':=
 fO (h1.symm.trans h2) fun i x y hx hy=>by
  have hi:i<l.length:=by rw[h1];exact(List.getElem?_eq_some_iff.1 hx).1
  exact h i l[i] x y (List.getElem?_eq_getElem hi) hx hy
theorem bS (h:bg l=0){i:Nat}{x:AV}(hx:l[i]? = some x):x.top=0:=by
 have:=dR (n:=0) (by omega) i x hx;omega
theorem Fr.gg {S:List Nat}{a:AV}(hr:Fr h S a x):a.top=0->bN a=bN x:=by
 induction hr with
 | same ht=>exact fun _=>rfl
 | nil hc=>exact fun _=>by simp[bN,eV]
 | sl=>intro ht;simp[AV.top]at ht
 | ptr=>intro ht;simp[AV.top]at ht
 | vs hl hg ih=>intro ht;rw[bN,bN,fO hl fun i x y hx hy=>ih i x y hx hy (bS ht hx)]
 | agg hl hg ih=>intro ht;rw[bN,bN,fO hl fun i x y hx hy=>ih i x y hx hy (bS ht hx)]
 | ar hl hg ih=>intro ht;rw[bN,bN,fO hl fun i x y hx hy=>ih i x y hx hy (bS ht hx)]
 | fn hf h1 h2 g1 g2 i1 i2=>
  intro ht;simp only[AV.top]at ht;rw[bN,bN,fO h1 fun i x y hx hy=>i1 i x y hx hy (bS (by omega) hx),fO h2 fun i x y hx hy=>i2 i x y hx hy (bS (by omega) hx)]
theorem Fr.can {S:List Nat}{a:AV}(hr:Fr h S a x):x.top=0->∀{S':List Nat} {y:AV},Fr h S' a y->y.top=0->bN x=bN y:=by
 induction hr with
 | same ht=>exact fun _ S' y hy _=>hy.gg ht
 | nil hc=>exact fun _ S' y hy _=>by cases hy <;> simp[bN,eV]
 | sl hb ha hc hl hg hcc ih=>
  intro hx S' y hy hyt;cases hy with
  | same ht=>simp[AV.top]at ht
  | sl hb' ha' hc' hl' hg' hcc'=>
   rw[ha]at ha';cases ha';rw[hc]at hc';cases hc';rw[bN,bN,jn hl hl' fun i a x y h1 h2 h3=>ih i a x h1 h2 (bS hx h2) (hg' i a y h1 h3) (bS hyt h3)]
 | ptr hb ha hl hg ih=>
  intro hx S' y hy hyt;cases hy with
  | same ht=>simp[AV.top]at ht
  | ptr hb' ha' hl' hg'=>
   rw[ha]at ha';cases ha';rw[bN,bN,jn hl hl' fun i a x y h1 h2 h3=>ih i a x h1 h2 (bS hx h2) (hg' i a y h1 h3) (bS hyt h3)]
 | vs hl hg ih=>
  intro hx S' y hy hyt;cases hy with
  | same ht=>rw[bN,bN,fO hl.symm fun i x y hx' hy'=>((hg i y x hy' hx').gg (bS ht hy')).symm]
  | vs hl' hg'=>rw[bN,bN,jn hl hl' fun i a x y h1 h2 h3=>ih i a x h1 h2 (bS hx h2) (hg' i a y h1 h3) (bS hyt h3)]
 | agg hl hg ih=>
  intro hx S' y hy hyt;cases hy with
  | same ht=>rw[bN,bN,fO hl.symm fun i x y hx' hy'=>((hg i y x hy' hx').gg (bS ht hy')).symm]
  | agg hl' hg'=>rw[bN,bN,jn hl hl' fun i a x y h1 h2 h3=>ih i a x h1 h2 (bS hx h2) (hg' i a y h1 h3) (bS hyt h3)]
 | ar hl hg ih=>
  intro hx S' y hy hyt;cases hy with
  | same ht=>rw[bN,bN,fO hl.symm fun i x y hx' hy'=>((hg i y x hy' hx').gg (bS ht hy')).symm]
  | ar hl' hg'=>rw[bN,bN,jn hl hl' fun i a x y h1 h2 h3=>ih i a x h1 h2 (bS hx h2) (hg' i a y h1 h3) (bS hyt h3)]
 | fn hf h1 h2 g1 g2 i1 i2=>
  intro hx S' y hy hyt;simp only[AV.top]at hx;cases hy with
  | same ht=>
   simp only[AV.top]at ht;rw[bN,bN,fO h1.symm fun i x y hx' hy'=>((g1 i y x hy' hx').gg (bS (by omega) hy')).symm,fO h2.symm fun i x y hx' hy'=>((g2 i y x hy' hx').gg (bS (by omega) hy')).symm]
  | fn hf' h1' h2' g1' g2'=>
   simp only[AV.top]at hyt;rw[bN,bN,jn h1 h1' fun i a x y e1 e2 e3=>i1 i a x e1 e2 (bS (by omega) e2) (g1' i a y e1 e3) (bS (by omega) e3),
     jn h2 h2' fun i a x y e1 e2 e3=>i2 i a x e1 e2 (bS (by omega) e2) (g2' i a y e1 e3) (bS (by omega) e3)]
def DE:AV->Bool
 | .int _ _=>true
 | .bool _=>true
 | .str _=>true
 | .fn f [] []=>match f with | .yield _=>false|_=>true
 | _=>false
inductive gC (h:ae):AV->AV->Prop
 | atom {a:AV} (ha:DE a=true):gC h a a
 | nil:gC h .al (.vs [] 0 none)
 | sl {b off len esz:Nat} {cap:Option Nat} {l m m0:List AV} {e:TypeId} (ha:h.at b=some (.cells l e)) (hc:cut l off (len*esz)=some m) (hl:m.length=m0.length)
     (hg:∀(i:Nat) x y,m[i]? = some x->m0[i]? = some y->gC h x y):gC h (.sl b off len esz cap) (.vs m0 len none)
 | vs {l l0:List AV} {n:Nat} {cap:Option Nat} (hl:l.length=l0.length) (hg:∀(i:Nat) x y,l[i]? = some x->l0[i]? = some y->gC h x y):gC h (.vs l n cap) (.vs l0 n cap)
 | agg {l l0:List AV} (hl:l.length=l0.length) (hg:∀(i:Nat) x y,l[i]? = some x->l0[i]? = some y->gC h x y):gC h (.agg l) (.agg l0)
def ly (h:ae)(l l0:List AV):Prop:=l.length=l0.length/\∀(i:Nat) x y,l[i]? = some x->l0[i]? = some y->gC h x y
theorem ly.nil:ly h [] []:=⟨rfl,by simp⟩
theorem ly.cons {y:AV}{m:List AV}(h1:gC h x y)(h2:ly h l m):ly h (x::l) (y::m):=by
 refine⟨by simp[h2.1],fun i a b ha hb=>?_⟩;cases i with
 | zero=>simp at ha hb;subst ha;subst hb;exact h1
 | succ i=>simp at ha hb;exact h2.2 i a b ha hb
theorem enter:(∀(f:Nat -> AV) a l,(a::l).map f=f a::l.map f) /\ (∀f:Nat -> AV,[].map f=[]) /\ (∀(a:AV) (l:List AV),(a::l)[0]? = some a) /\ (∀(a:AV) (l:List AV) (n:Nat),(a::l)[n+1]? = l[n]?) /\ (∀n:Nat,([]:List AV)[n]? = none) /\ (∀a b:AV,(some a).getD b=a) /\ ∀b:AV,none.getD b=b:=
  ⟨fun _ _ _=>rfl,fun _=>rfl,fun _ _=>rfl,fun _ _ _=>rfl,fun _=>rfl,fun _ _=>rfl,fun _=>rfl⟩
end Go.Ab
namespace Go.Ab
variable {h:ae} {x:AV}
variable {M:ay} {P:Program} {gl:Nat->Option AV}
mutual
def bE:AV->AV
 | .vs l n _=>.vs (cI l) n none
 | .vp l=>.vp (cI l)
 | .agg l=>.agg (cI l)
 | .ar l=>.ar (cI l)
 | .fn f a b=>.fn f (cI a) (cI b)
 | .iface t v=>.iface t (bE v)
 | v=>v
def cI:List AV->List AV
 | []=>[]
 | v::r=>bE v::cI r
end
theorem iI:∀{l m:List AV},l.length=m.length->(∀(i:Nat) x y,l[i]? = some x->m[i]? = some y->bE x=bE y)->cI l=cI m
 | [],[],_,_=>rfl
 | x::l,y::m,hl,h=>by
  rw[cI,cI,h 0 x y rfl rfl,iI (by simpa using hl) fun i a b ha hb=>h (i+1) a b ha hb]
theorem nz {l m m':List AV}(h1:l.length=m.length)(h2:l.length=m'.length)(h:∀(i:Nat) a x y,l[i]? = some a->m[i]? = some x->m'[i]? = some y->bE x=bE y):cI m=cI m':=
 iI (h1.symm.trans h2) fun i x y hx hy=>by
  have hi:i<l.length:=by rw[h1];exact(List.getElem?_eq_some_iff.1 hx).1
  exact h i l[i] x y (List.getElem?_eq_getElem hi) hx hy
theorem uW:∀(l m:List AV),cI (l++m)=cI l++cI m
 | [],m=>rfl
 | x::l,m=>by rw[List.cons_append,cI,cI,uW l m];rfl
theorem nA {α:Type}{f:α->List AV}(hf:∀a,cI (f a)=f a):∀l,cI (arr f l)=arr f l
 | []=>rfl
 | a::l=>by rw[jk,uW,hf,nA hf l]
inductive eg (h:ae):AV->AV->Prop
 | same {v:AV} (ht:v.top=0):eg h v v
 | sl {b off len esz:Nat} {cap:Option Nat} {l m m0:List AV} {e:TypeId} (ha:h.at b=some (.cells l e)) (hc:cut l off (len*esz)=some m) (hl:m.length=m0.length)
     (hg:∀(i:Nat) x y,m[i]? = some x->m0[i]? = some y->eg h x y):eg h (.sl b off len esz cap) (.vs m0 len none)
 | vs {l l0:List AV} {n:Nat} {cap:Option Nat} (hl:l.length=l0.length) (hg:∀(i:Nat) x y,l[i]? = some x->l0[i]? = some y->eg h x y):eg h (.vs l n cap) (.vs l0 n cap)
 | agg {l l0:List AV} (hl:l.length=l0.length) (hg:∀(i:Nat) x y,l[i]? = some x->l0[i]? = some y->eg h x y):eg h (.agg l) (.agg l0)
 | ar {l l0:List AV} (hl:l.length=l0.length) (hg:∀(i:Nat) x y,l[i]? = some x->l0[i]? = some y->eg h x y):eg h (.ar l) (.ar l0)
theorem eg.fr {a:AV}(hr:eg h a x):Fr h (List.range h.length) a x:=by
 induction hr with
 | same ht=>exact .same ht
 | sl ha hc hl hg ih=>exact .sl (List.mem_range.2 (ni ha)) ha hc hl ih (.inr rfl)
 | vs hl hg ih=>exact .vs hl ih
 | agg hl hg ih=>exact .agg hl ih
 | ar hl hg ih=>exact .ar hl ih
theorem eg.gg {a:AV}(hr:eg h a x):a.top=0->bE a=bE x:=by
 induction hr with
 | same ht=>exact fun _=>rfl
 | sl=>intro ht;simp[AV.top]at ht
 | vs hl hg ih=>intro ht;rw[bE,bE,iI hl fun i x y hx hy=>ih i x y hx hy (bS ht hx)]
 | agg hl hg ih=>intro ht;rw[bE,bE,iI hl fun i x y hx hy=>ih i x y hx hy (bS ht hx)]
 | ar hl hg ih=>intro ht;rw[bE,bE,iI hl fun i x y hx hy=>ih i x y hx hy (bS ht hx)]
theorem eg.can {a:AV}(hr:eg h a x):x.top=0->∀{y:AV},eg h a y->y.top=0->bE x=bE y:=by
 induction hr with
 | same ht=>exact fun _ y hy _=>hy.gg ht
 | sl ha hc hl hg ih=>
  intro hx y hy hyt;cases hy with
  | same ht=>simp[AV.top]at ht
  | sl ha' hc' hl' hg'=>
   rw[ha]at ha';cases ha';rw[hc]at hc';cases hc';rw[bE,bE,nz hl hl' fun i a x y h1 h2 h3=>ih i a x h1 h2 (bS hx h2) (hg' i a y h1 h3) (bS hyt h3)]
 | vs hl hg ih=>
  intro hx y hy hyt;cases hy with
  | same ht=>rw[bE,bE,iI hl.symm fun i x y hx' hy'=>((hg i y x hy' hx').gg (bS ht hy')).symm]
  | vs hl' hg'=>rw[bE,bE,nz hl hl' fun i a x y h1 h2 h3=>ih i a x h1 h2 (bS hx h2) (hg' i a y h1 h3) (bS hyt h3)]
 | agg hl hg ih=>
  intro hx y hy hyt;cases hy with
  | same ht=>rw[bE,bE,iI hl.symm fun i x y hx' hy'=>((hg i y x hy' hx').gg (bS ht hy')).symm]
  | agg hl' hg'=>rw[bE,bE,nz hl hl' fun i a x y h1 h2 h3=>ih i a x h1 h2 (bS hx h2) (hg' i a y h1 h3) (bS hyt h3)]
 | ar hl hg ih=>
  intro hx y hy hyt;cases hy with
  | same ht=>rw[bE,bE,iI hl.symm fun i x y hx' hy'=>((hg i y x hy' hx').gg (bS ht hy')).symm]
  | ar hl' hg'=>rw[bE,bE,nz hl hl' fun i a x y h1 h2 h3=>ih i a x h1 h2 (bS hx h2) (hg' i a y h1 h3) (bS hyt h3)]
theorem kd {l:List AV}{i:Nat}(h:(cI l)[i]? = some x):∃y,l[i]? = some y/\x=bE y:=by
 induction l generalizing i with
 | nil=>simp[cI]at h
 | cons a l ih=>
  rw[cI]at h;cases i with
  | zero=>simp at h;exact⟨a,rfl,h.symm⟩
  | succ i=>exact ih (by simpa using h)
theorem jo:∀l:List AV,(cI l).length=l.length
 | []=>rfl
 | a::l=>by rw[cI,List.length_cons,List.length_cons,jo l]
section
variable {ρ:an} {w:World} {a:AV} {v:Value}
theorem V.bE (hv:V ρ w a v):V ρ w (bE a) v:=by
 induction hv with
 | bP v=>exact .bP v
 | bool b=>exact .bool b
 | int k n=>exact .int k n
 | str s=>exact .str s
 | cT=>exact .cT
 | ptr o h=>exact .ptr o h
 | da o c o' h=>exact .da o c o' h
 | vp c o g hf hc hg ih=>
  exact .vp c o g (fun h=>hf fun e=>h (by rw[e];rfl)) (fun i hi=>hc i (by rwa [jo]at hi)) fun i x hx=>by
   obtain⟨y,hy,rfl⟩:=kd hx;exact ih i y hy
 | al=>exact .al
 | sl h hl hcap hb=>exact .sl h hl hcap hb
 | dP h=>exact .dP h
 | dr c o' h hl hcap=>exact .dr c o' h hl hcap
 | dK h=>exact .dK h
 | dQ a h=>exact .dQ a h
 | vs c o g hf hl hcap hc hg ih=>
  exact .vs c o g (fun h=>hf fun e=>h (by rw[e];rfl)) hl (fun n hn=>by cases hn) (fun i hi=>hc i (by rwa [jo]at hi)) fun i x hx=>by
   obtain⟨y,hy,rfl⟩:=kd hx;exact ih i y hy
 | dL hcap=>exact .dL (fun n hn=>by cases hn)
 | dV a hcap=>exact .dV a (fun n hn=>by cases hn)
 | cf=>exact .cf
 | map h=>exact .map h
 | fh c h=>exact .fh c h
 | yield h=>exact .yield h
 | fn hf h1 h2 g1 g2 i1 i2=>
  exact .fn hf (by rw[jo];exact h1) (by rw[jo];exact h2) (fun i x y hx hy=>by
   obtain⟨z,hz,rfl⟩:=kd hx;exact i1 i z y hz hy) fun i x y hx hy=>by
   obtain⟨z,hz,rfl⟩:=kd hx;exact i2 i z y hz hy
 | fj c h=>exact .fj c h
 | cN=>exact .cN
 | iface h ih=>exact .iface ih
 | cg=>exact .cg
 | agg h g ih=>
  exact .agg (by rw[jo];exact h) fun i x y hx hy=>by
   obtain⟨z,hz,rfl⟩:=kd hx;exact ih i z y hz hy
 | ar h g ih=>
  exact .ar (by rw[jo];exact h) fun i x y hx hy=>by
   obtain⟨z,hz,rfl⟩:=kd hx;exact ih i z y hz hy
end
theorem DG {f:Nat}{as:List AV}{h':ae}{v v':AV}{wr:List Nat}(hv:∀ρ w x,V ρ w v x->V ρ w v' x)(he:aX P gl ⟨f,as,h,⟨v,h',wr⟩⟩):aX P gl ⟨f,as,h,⟨v',h',wr⟩⟩:=by
 refine⟨he.1,fun ρ w as' m ha=>?_⟩;obtain⟨nx,w1,g1,g2⟩:=he.2 ρ w as' m ha;refine⟨nx,w1,g1,g2.mono fun x w' hd=>?_⟩;obtain⟨ρ',h1,h2,h3⟩:=hd;exact⟨ρ',hv _ _ _ h1,h2,h3⟩
def qB (P:Program)(FT:FuncId->Option bQ)(T:List (Nat×Spec))(g:Nat)(as:List AV)(v0:AV):Prop:=∃v hh v1,aG (bq P FT T) g as [] ⟨v,hh,[]⟩/\eg hh v v1/\bg as=0/\v1.top=0/\bE v1=v0
def DH (P:Program)(FT:FuncId->Option bQ)(T:List (Nat×Spec))(g:Nat)(as:List AV)(h:ae)(r:HR):Prop:=∃v0,qB P FT T g as v0/\r=⟨v0,h,[]⟩
noncomputable def lz (P:Program)(FT:FuncId->Option bQ)(T:List (Nat×Spec))(g:Nat):Spec:=lx (DH P FT T g)
theorem DI {FT:FuncId->Option bQ}(hs:jj P gl FT){T:List (Nat×Spec)}(hT:cQ P gl (cR T)){g:Nat}:aQ P gl g (lz P FT T g):=Dy fun as h r ⟨v0,⟨v,hh,v1,hr,hf,ha,ht,hc⟩,e⟩=>by
 subst e;subst hc;exact DG (fun _ _ _ h=>h.bE) (DC hs hT hr ha hf.fr ht)
theorem uX {FT:FuncId->Option bQ}{T:List (Nat×Spec)}{g:Nat}{as:List AV}{v0:AV}(hr:qB P FT T g as v0):lz P FT T g as h=some ⟨v0,h,[]⟩:=
 Dz ⟨v0,hr,rfl⟩ fun r' ⟨v0',hr',e⟩=>by
  obtain⟨v,hh,v1,r1,f1,_,t1,c1⟩:=hr;obtain⟨v',hh',v1',r2,f2,_,t2,c2⟩:=hr';cases r1.DD r2;rw[e,←c1,←c2,f1.can t1 f2 t2]
end Go.Ab
namespace Go.Ab
variable {M:ay} {P:Program} {gl:Nat->Option AV}
theorem bC {FT:FuncId->Option bQ}{T:List (Nat×Spec)}{g:Nat}{as:List AV}{v:AV}(hr:aG (bq P FT T) g as [] ⟨v,[],[]⟩)(ha:bg as=0)(ht:v.top=0)(hc:bE v=v)(h:ae):lz P FT T g as h=some ⟨v,h,[]⟩:=
 uX ⟨v,[],v,hr,.same ht,ha,ht,hc⟩
end Go.Ab
namespace Go.Ab
variable {n:Nat}
variable {M:ay} {t:Nat} {x y:aq} {l:List az} {pe:List AV} {lo:List (Nat×AV)} {hp:ae} {df wr:List Nat} {k:IntKind} {a b:Int} {Q:ak->Prop}
theorem nB (a:Int):IntKind.u64.wrap a=a%18446744073709551616:=by
 simp only[IntKind.wrap,IntKind.bits,IntKind.signed];simp
theorem nC {a:Int}(h:0<=a/\a<18446744073709551616):IntKind.u64.wrap a=a:=by rw[nB];omega
theorem Nt (hx:(St.mk pe lo hp df).aa x=some (.int .u64 a))(hy:(St.mk pe lo hp df).aa y=some (.int .u64 b))(hr:0<=a+b/\a+b<18446744073709551616)
 (h:WO M l ⟨⟨pe,(t,.int .u64 (a+b))::lo,hp,df⟩,wr⟩ Q):WO M (⟨.l t,.bin .add x y,none⟩::l) ⟨⟨pe,lo,hp,df⟩,wr⟩ Q:=
 LK (v:=.int .u64 (a+b)) (by simp[aE,hx,hy,cj,nC hr]) rfl h
theorem Nu (hx:(St.mk pe lo hp df).aa x=some (.int .u64 a))(hy:(St.mk pe lo hp df).aa y=some (.int .u64 b))
 (h:WO M l ⟨⟨pe,(t,.int .u64 ((a*b)%18446744073709551616))::lo,hp,df⟩,wr⟩ Q):WO M (⟨.l t,.bin .mul x y,none⟩::l) ⟨⟨pe,lo,hp,df⟩,wr⟩ Q:=
 LK (v:=.int .u64 ((a*b)%18446744073709551616)) (by simp[aE,hx,hy,cj,nB]) rfl h
theorem Nv (hx:(St.mk pe lo hp df).aa x=some (.int .u64 a))(hy:(St.mk pe lo hp df).aa y=some (.int .u64 b))(hr:0<=a*b/\a*b<18446744073709551616)
 (h:WO M l ⟨⟨pe,(t,.int .u64 (a*b))::lo,hp,df⟩,wr⟩ Q):WO M (⟨.l t,.bin .mul x y,none⟩::l) ⟨⟨pe,lo,hp,df⟩,wr⟩ Q:=
 LK (v:=.int .u64 (a*b)) (by simp[aE,hx,hy,cj,nC hr]) rfl h
theorem Nw (hx:(St.mk pe lo hp df).aa x=some (.int .u64 a))(hy:(St.mk pe lo hp df).aa y=some (.int .u64 b))(ha:0<=a/\a<18446744073709551616)(hb:0<b)
 (h:WO M l ⟨⟨pe,(t,.int .u64 (a/b))::lo,hp,df⟩,wr⟩ Q):WO M (⟨.l t,.bin .quo x y,none⟩::l) ⟨⟨pe,lo,hp,df⟩,wr⟩ Q:=by
 refine LK (v:=.int .u64 (a/b)) ?_ rfl h;have h1:0<=a/b:=Int.ediv_nonneg ha.1 (Int.le_of_lt hb);have h2:a/b<=a:=Int.ediv_le_self _ ha.1;have h3:¬b=0:=by omega
 simp only[aE,hx,hy,cj,if_true,if_neg h3];rw[Int.tdiv_eq_ediv_of_nonneg ha.1,nC ⟨h1,by omega⟩]
theorem Nx (hx:(St.mk pe lo hp df).aa x=some (.int .u64 a))(hy:(St.mk pe lo hp df).aa y=some (.int .u64 b))(ha:0<=a)(hb:0<b)
 (h:WO M l ⟨⟨pe,(t,.int .u64 (a%b))::lo,hp,df⟩,wr⟩ Q):WO M (⟨.l t,.bin .rem x y,none⟩::l) ⟨⟨pe,lo,hp,df⟩,wr⟩ Q:=by
 refine LK (v:=.int .u64 (a%b)) ?_ rfl h;have h3:¬b=0:=by omega
 simp only[aE,hx,hy,cj,if_true,if_neg h3];rw[Int.tmod_eq_emod_of_nonneg ha]
theorem WO.DO (hx:(St.mk pe lo hp df).aa x=some (.int .u64 a))(hy:(St.mk pe lo hp df).aa y=some (.int k b))(hb:b=n)(hn:n<=64)
 (h:WO M l ⟨⟨pe,(t,.int .u64 (a/2^n))::lo,hp,df⟩,wr⟩ Q):WO M (⟨.l t,.bin .shr x y,none⟩::l) ⟨⟨pe,lo,hp,df⟩,wr⟩ Q:=by
 refine LK (v:=.int .u64 (a/2^n)) ?_ rfl h;subst hb;have h3:¬((n:Int)<0):=by omega
 have h4:min ((n:Int).toNat) IntKind.u64.bits=n:=by
  show min ((n:Int).toNat) 64=n;omega
 simp only[aE,hx,hy,cj,if_neg h3,h4];rw[Int.fdiv_eq_ediv_of_nonneg _ (Int.le_of_lt (Int.pow_pos (by decide)))]
theorem Nb {c:Int}(hx:(St.mk pe lo hp df).aa x=some (.int .u64 a))(hy:(St.mk pe lo hp df).aa y=some (.int k b))(hb:b=n)(hn:n<=64)(hc:(2:Int)^n=c)
 (h:WO M l ⟨⟨pe,(t,.int .u64 (a/c))::lo,hp,df⟩,wr⟩ Q):WO M (⟨.l t,.bin .shr x y,none⟩::l) ⟨⟨pe,lo,hp,df⟩,wr⟩ Q:=by
 subst hc;exact WO.DO hx hy hb hn h
theorem uY:BitVec.ofInt 64 (n:Int)=BitVec.ofNat 64 n:=by
 apply BitVec.eq_of_toNat_eq;simp[]
theorem Ny (hx:(St.mk pe lo hp df).aa x=some (.int .u64 a))(hy:(St.mk pe lo hp df).aa y=some (.int .u64 4294967295))(ha:0<=a/\a<18446744073709551616)
 (h:WO M l ⟨⟨pe,(t,.int .u64 (a%4294967296))::lo,hp,df⟩,wr⟩ Q):WO M (⟨.l t,.bin .and x y,none⟩::l) ⟨⟨pe,lo,hp,df⟩,wr⟩ Q:=by
 refine LK (v:=.int .u64 (a%4294967296)) ?_ rfl h;obtain⟨n,rfl⟩:=Int.eq_ofNat_of_zero_le ha.1;have e:(BitVec.ofInt 64 (n:Int) &&& BitVec.ofInt 64 4294967295).toNat=n%4294967296:=by
  rw[uY,show (4294967295:Int)=((4294967295:Nat):Int) from rfl,uY,BitVec.toNat_and,BitVec.toNat_ofNat,BitVec.toNat_ofNat,Nat.mod_eq_of_lt (show n<2^64 by omega),Nat.mod_eq_of_lt (show 4294967295<2^64 by decide)];exact Nat.and_two_pow_sub_one_eq_mod n 32
 simp only[aE,hx,hy,cj,if_true];show some (AV.int .u64 (IntKind.u64.wrap ((BitVec.ofInt 64 (n:Int) &&& BitVec.ofInt 64 4294967295).toNat:Int)))=_;rw[e,nC (by omega)];rfl
theorem Nz (hx:(St.mk pe lo hp df).aa x=some (.int k a))(h:WO M l ⟨⟨pe,(t,.int .u64 (a%18446744073709551616))::lo,hp,df⟩,wr⟩ Q):WO M (⟨.l t,.dh .u64 x,none⟩::l) ⟨⟨pe,lo,hp,df⟩,wr⟩ Q:=
 LK (v:=.int .u64 (a%18446744073709551616)) (by simp only[aE,hx,Option.bind_some,hZ,nB]) rfl h
theorem DR {a:Int}:IntKind.u8.wrap a=a%256:=by
 simp only[IntKind.wrap,IntKind.bits,IntKind.signed];simp
theorem Nn (hx:(St.mk pe lo hp df).aa x=some (.int k a))(h:WO M l ⟨⟨pe,(t,.int .u8 (a%256))::lo,hp,df⟩,wr⟩ Q):WO M (⟨.l t,.dh .u8 x,none⟩::l) ⟨⟨pe,lo,hp,df⟩,wr⟩ Q:=
 LK (v:=.int .u8 (a%256)) (by simp only[aE,hx,Option.bind_some,hZ,DR]) rfl h
end Go.Ab
namespace Go.Ab
open Go.RowKit
variable {P:Program} {gl:Nat->Option AV} {ρ:an} {h:ae} {w w':World}
end Go.Ab
