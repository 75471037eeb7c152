/-
  Own work: loops by an invariant; parts of lists; lists that grow, of elements that refer to blocks.
-/
import Derived.Test.YtmngppcmhfhgaaaGreatDoorLib1
import Derived.Below
open Int renaming eq_ofNat_of_zero_le→aW
open List renaming getElem?_eq_getElem→az,length_cons→aZ,cons_append→bj,drop_zero→b6,range→b7
open Nat renaming mod_eq_of_lt→bc,zero_mul→be
open Option renaming map_some→b5
set_option maxHeartbeats 8000000
set_option maxRecDepth 20000
namespace Go.Ab
variable {I:au->Prop} {s:au}
variable {M:ax}
structure LI (I:au->Prop)(Q:Ex->au->Prop)(e:Ex)(s:au):Prop where
 out:match e with
  | .normal=>I s
  | e=>Q e s
theorem cW {Q:Ex->au->Prop}(h:I s):LI I Q .normal s:=⟨h⟩
theorem cX {Q:Ex->au->Prop}{i:Nat}(h:Q (.exit i) s):LI I Q (.exit i) s:=⟨h⟩
theorem uH {Q:Ex->au->Prop}(h:Q .ret s):LI I Q .ret s:=⟨h⟩
theorem W.gH {c:ao}{Q:Ex->au->Prop}(I:Nat->au->Prop)(hs:∀m s,I m s->W M c s (LI (fun s'=>∃m',m'<m/\I m' s') Q)):∀{m:Nat} {s:au},I m s->W M (.loop c) s Q:=by
 intro m;induction m using Nat.strongRecOn with
 | ind m ih=>
  intro s h;refine W.loop ((hs m s h).mono fun e s' he=>?_);cases e with
  | normal=>
   obtain⟨m',hm,hI⟩:=he.out;exact⟨ih m' hm hI⟩
  | exit i=>exact⟨he.out⟩
  | ret=>exact⟨he.out⟩
theorem W.gn {c:ao}{Q:Ex->au->Prop}(n:Nat)(I:Nat->au->Prop)(hs:∀i s,i<n->I i s->W M c s (LI (I (i+1)) Q))(he:∀s,I n s->W M c s (LI (fun _=>False) Q)){i:Nat}{s:au}(hi:i<=n)(h:I i s):W M (.loop c) s Q:=by
 refine W.gH (fun m s=>m<=n/\I (n-m) s) (fun m s ⟨hm,h⟩=>?_) (m:=n-i) ⟨Nat.sub_le _ _,aw⟩;rcases Nat.eq_zero_or_pos m with rfl|h0
 . exact(he s h).mono aq
 . refine(hs (n-m) s ac h).mono fun e s' he=>⟨?_⟩
   cases e with
   | normal=>exact⟨m-1,ac,ac,by have:=he.out;grind⟩
   | exit i=>exact he.out
   | ret=>exact he.out
section
variable {α:Type} {f:α->List AV} {esz t:Nat} {x y:aO} {L:List aY} {pe:List AV} {lo:List (Nat×AV)} {hp:ae} {df wr:List Nat} {l:List α} {cap:Option Nat} {k:IntKind} {n:Int} {Q:au->Prop}
theorem afm (hx:(St.mk pe lo hp df).ah x=some (.vs (arr f l) l.length cap))(hy:(St.mk pe lo hp df).ah y=some (.int k n))(hf:∀a,(f a).length=esz)(hn:0<=n/\n<=l.length)
 (h:WO M L ⟨⟨pe,(t,.vs (arr f (l.take n.toNat)) (l.take n.toNat).length cap)::lo,hp,df⟩,wr⟩ Q):WO M (⟨.l t,.slice .sl esz x none (some y) none,none⟩::L) ⟨⟨pe,lo,hp,df⟩,wr⟩ Q:=by
 refine abh (v:=.vs (arr f (l.take n.toNat)) (l.take n.toNat).length cap) ?_ rfl h;have hle:n.toNat<=l.length:=by omega
 have hl:(l.take n.toNat).length=n.toNat:=by rw[List.length_take];omega
 have hc:cap.map (fun x=>x)=cap:=by cases cap <;> rfl
 have h0:(0:Int)<=n/\n<=(l.length:Int):=by omega
 simp only[bk,hx,St.dY,hy,b5,jD,bZ,Option.isNone_none,Option.isSome_some,Bool.true_or,if_true,if_pos h0];simp only[be,b6,Nat.sub_zero,Ak hf,hl,hc]
end
theorem Rf {α:Type}{f:α->List AV}{esz:Nat}{e:TypeId}{hp:ae}{c n:Nat}{cap:Option Nat}{l:List α}(hf:∀a,(f a).length=esz)(ht:∀a,bz (f a)=0)(h:hp.at c=some (.cells (arr f l) e))(hn:l.length=n):Fr hp [c] (.sl c 0 n esz cap) (.vs (arr f l) l.length none):=by
 subst hn;have:=kO hf (l:=l) (i:=0) (n:=l.length) ac;rw[be]at this;refine .sl aq h this aq (fun i x y hx hy=>?_) (.inr rfl);simp at hx;rw[hx]at hy;cases hy;exact .same (by have:=fx (n:=0) (Nat.le_of_eq (jL ht l)) i x hx;omega)
end Go.Ab
namespace Go.Ab
variable {M:ax} {α:Type} {f:α->List AV} {esz:Nat} {e:TypeId} {hp H:ae} {o y:AV} {acc m:List α} {S S':List Nat}
theorem Sl.cells (_hf:∀a,(f a).length=esz)(h:Sl f hp y m):gN hp y=some (arr f m,m.length):=by
 rcases h with ⟨rfl,rfl⟩|⟨cap,rfl⟩|⟨b,off,ez,cap,c,e,rfl,h1,h2⟩
 . rfl
 . rfl
 . simp only[gN,h1,h2,b5]
def bC (f:α->List AV)(esz:Nat)(e:TypeId)(hp:ae)(o:AV)(acc:List α)(S:List Nat):Prop:=
 (acc=[]/\o = .ab)\/∃c cap,c∉S/\o = .sl c 0 acc.length esz cap/\hp.at c=some (.cells (arr f acc) e)/\(cap=none\/acc=[]/\cap=some 0)
theorem bC.kj:bC f esz e hp .ab ([]:List α) S:=.inl ⟨rfl,rfl⟩
theorem bC.sl (hf:∀a,(f a).length=esz)(h:bC f esz e hp o acc S):Sl f hp o acc:=by
 rcases h with ⟨rfl,rfl⟩|⟨c,cap,_,rfl,h1,_⟩
 . exact .kj
 . exact .iZ hf h1 rfl
def iA (o:AV):List Nat:=jM (some o)
theorem bC.eu (h:bC f esz e hp o acc S)(hk:∀b x,b∈iA o->hp.at b=some x->H.at b=some x)(hs:∀b,b∈iA o->b∉S->b∉S'):bC f esz e H o acc S':=by
 rcases h with h|⟨c,cap,h0,rfl,h1,h2⟩
 . exact .inl h
 . exact .inr ⟨c,cap,hs c (by simp[iA,jM]) h0,rfl,hk _ _ (by simp[iA,jM]) h1,h2⟩
theorem bC.lt (h:bC f esz e hp o acc S):∀b∈iA o,b<hp.length:=by
 rcases h with ⟨_,rfl⟩|⟨c,cap,h0,rfl,h1,h2⟩
 . intro b hb;simp[iA,jM]at hb
 . intro b hb;simp only[iA,jM,List.mem_singleton]at hb;subst hb;exact gG h1
theorem bC.grow (h:bC f esz e hp o acc S)(J:ae):bC f esz e (hp++J) o acc S:=h.eu (by grind[cm]) aq
theorem bC.app {bytes t:Nat}{l:List aY}{pe:List AV}{lo:List (Nat×AV)}{df wr:List Nat}{a b:aO}{Q:au->Prop}(hf:∀a,(f a).length=esz)(h1:∀a,(f a).all cI=true)(hb0:0<bytes)
 (h:bC f esz e hp o acc S) (hS:∀x∈S,x<hp.length) (ha:(St.mk pe lo hp df).ah a=some o) (hb:(St.mk pe lo hp df).ah b=some y) (hy:Sl f hp y m)
 (hn:(acc.length+m.length)*bytes<=dO) (hQ:∀(H:ae) (w':List Nat) o',bC f esz e H o' (acc++m) S->(∀x v,x∈S->hp.at x=some v->H.at x=some v)->hp.length<=H.length->WO M l ⟨⟨pe,(t,o')::lo,H,df⟩,w'⟩ Q):WO M (⟨.l t,.append e esz bytes a b,none⟩::l) ⟨⟨pe,lo,hp,df⟩,wr⟩ Q:=by
 have hs:=hy.cells hf;have hone:(arr f m).all cI=true:=Hp h1 m;have hcond:(arr f m).length=m.length*esz/\0<bytes/\(arr f m).all cI=true:=⟨pA hf m,hb0,hone⟩;by_cases hm:m=[]
 . subst hm;rw[List.append_nil]at hQ;refine acn (v:=o) (h':=hp) (w':=[]) ?_ rfl rfl (hQ hp _ o h aq (Nat.le_refl _));simp only[bU,ha,hb,kC,hs,if_pos hcond];rcases h with ⟨_,rfl⟩|⟨c,cap,_,rfl,_,_⟩ <;> simp
 . have hp0:m.length≠0:=aw;rcases h with ⟨rfl,rfl⟩|⟨c,cap,hc,rfl,hat,hcap⟩
   . refine acn (v:=.sl hp.length 0 m.length esz none) (h':=hp++[some (.cells (arr f m) e)]) (w':=[]) ?_ rfl rfl (hQ _ _ _ (.inr ⟨hp.length,none,fun h=>by grind,aq,bS,.inl rfl⟩) (by grind[cm]) aq);simp only[bU,ha,hb,kC,hs,if_pos hcond,if_neg hp0]<;>grind
   . rcases hcap with rfl|⟨rfl,rfl⟩
     . refine acn (v:=.sl hp.length 0 (acc.length+m.length) esz none) (h':=hp.put c none++[some (.cells (arr f acc++arr f m) e)]) (w':=[c]) ?_ rfl rfl (hQ _ _ _ (.inr ⟨hp.length,none,fun h=>by grind,aq,?_,.inl rfl⟩) (by grind[cm,Al]) (by simp[ny]))
       . simp only[bU,ha,hb,kC,hs,if_pos hcond,if_neg hp0,hat];rw[if_pos ⟨trivial,hn⟩,if_pos ⟨by grind[pA],trivial⟩,b6]
       grind[ny,bS,Qz]
     . refine acn (v:=.sl hp.length 0 m.length esz none) (h':=hp++[some (.cells (arr f m) e)]) (w':=[]) ?_ rfl rfl (hQ _ _ _ (.inr ⟨hp.length,none,fun h=>by grind,aq,by rw[List.nil_append];exact bS,.inl rfl⟩) (by grind[cm]) aq);simp only[bU,ha,hb,kC,hs,if_pos hcond,if_neg hp0,hat,List.length_nil,Nat.zero_add,be];rw[if_pos ⟨trivial,aw⟩,if_neg ac];rfl
theorem bC.Rg (hf:∀a,(f a).length=esz)(ht:∀a,bz (f a)=0)(hn:∀a,fE (f a)=true)(h:bC f esz e hp o acc S):kl (if (aV [o]).top<=0 then [] else hp) o (.vs (arr f acc) acc.length none):=by
 rcases h with ⟨rfl,rfl⟩|⟨c,cap,_,rfl,h4,_⟩
 . exact .nil
 . rw[if_neg (by simp[aV,AV.top])];refine⟨[c],Rf hf ht h4 rfl,rfl,fun b l e' hb hl=>?_⟩;grind[pz]
end Go.Ab
namespace Go.Ab
variable {M:ax}
theorem bC.one {α:Type}{f:α->List AV}{esz:Nat}{e:TypeId}{hp:ae}{o:AV}{acc:List α}{S:List Nat}(h:bC f esz e hp o acc S):AV.cells o=some [o]/\cI o=true:=by
 rcases h with ⟨_,rfl⟩|⟨c,cap,_,rfl,_,_⟩ <;> exact⟨rfl,rfl⟩
end Go.Ab
namespace Go.Ab
variable {M:ax}
end Go.Ab
namespace Go.Ab
variable {h:ae} {l m m':List AV} {a x:AV}
variable {M:ax} {P:Program} {gl:Nat->Option AV}
theorem bg.Hy {f:FuncId}{as:List AV}{r r':HR}(h1:bg M f as h r)(h2:bg M f as h r'):r=r':=by
 obtain⟨n,hn⟩:=h1;obtain⟨m,hm⟩:=h2;have a1:=uu (uv (Nat.le_max_left n m)) hn;have a2:=uu (uv (Nat.le_max_right n m)) hm;grind
mutual
def cw:AV->AV
 | .ab=>.vs [] 0 none
 | .vs l n _=>.vs (eA l) n none
 | .vp l=>.vp (eA l)
 | .agg l=>.agg (eA l)
 | .ay l=>.ay (eA l)
 | .fn f a b=>.fn f (eA a) (eA b)
 | .iface t v=>.iface t (cw v)
 | v=>v
def eA:List AV->List AV
 | []=>[]
 | v::r=>cw v::eA r
end
theorem jr:∀{l m:List AV},l.length=m.length->(∀(i:Nat) x y,l[i]? = some x->m[i]? = some y->cw x=cw y)->eA l=eA m
 | [],[],_,_=>rfl
 | x::l,y::m,hl,h=>by
  rw[eA,eA,h 0 x y rfl rfl,jr aw fun i a b ha hb=>h (i+1) a b ha hb]
theorem nC (h1:l.length=m.length)(h2:l.length=m'.length)(h:∀(i:Nat) a x y,l[i]? = some a->m[i]? = some x->m'[i]? = some y->cw x=cw y):eA m=eA m':=
 jr ac fun i x y hx hy=>by
  grind
theorem Hz (hl:l.length=m.length)(h:∀(i:Nat) x y,l[i]? = some x->m[i]? = some y->x=y):l=m:=
 List.ext_getElem hl fun i h1 h2=>h i _ _ (az h1) (az h2)
theorem Ar (h1:l.length=m.length)(h2:l.length=m'.length)(h:∀(i:Nat) a x y,l[i]? = some a->m[i]? = some x->m'[i]? = some y->x=y):m=m':=
 Hz ac fun i x y hx hy=>by
  grind
theorem HA:∀(l m:List AV),eA (l++m)=eA l++eA m
 | [],m=>rfl
 | x::l,m=>by rw[bj,eA,eA,HA l m];rfl
theorem As {α:Type}{f:α->List AV}(hf:∀a,eA (f a)=f a):∀l,eA (arr f l)=arr f l
 | []=>rfl
 | a::l=>by rw[kN,HA,hf,As hf l]
theorem cR (h:bz l=0){i:Nat}{x:AV}(hx:l[i]? = some x):x.top=0:=by
 have:=fx (n:=0) ac i x hx;omega
theorem Fr.jO {S:List Nat}(hr:Fr h S a x):a.top=0->cw a=cw x:=by
 induction hr with
 | same ht=>simp
 | nil hc=>exact fun _=>by rfl
 | sl=>intro ht;simp[AV.top]at ht
 | ptr=>intro ht;simp[AV.top]at ht
 | vs hl hg ih=>intro ht;rw[cw,cw,jr hl fun i x y hx hy=>ih i x y hx hy (cR ht hx)]
 | agg hl hg ih=>intro ht;rw[cw,cw,jr hl fun i x y hx hy=>ih i x y hx hy (cR ht hx)]
 | ay hl hg ih=>intro ht;rw[cw,cw,jr hl fun i x y hx hy=>ih i x y hx hy (cR ht hx)]
 | fn hf h1 h2 g1 g2 i1 i2=>
  intro ht;simp only[AV.top]at ht;rw[cw,cw,jr h1 (by grind[cR]),jr h2 (by grind[cR])]
theorem Fr.can {S:List Nat}(hr:Fr h S a x):x.top=0->∀{S':List Nat} {y:AV},Fr h S' a y->y.top=0->cw x=cw y:=by
 induction hr with
 | same ht=>exact fun _ S' y hy _=>hy.jO ht
 | nil hc=>exact fun _ S' y hy _=>by cases hy <;> simp[cw,eA]
 | sl hb ha hc hl hg hcc ih=>
  intro hx S' y hy hyt;cases hy with
  | same ht=>simp[AV.top]at ht
  | sl hb' ha' hc' hl' hg' hcc'=>
   rw[ha]at ha';cases ha';rw[hc]at hc';cases hc';rw[cw,cw,nC hl hl' fun i a x y h1 h2 h3=>ih i a x h1 h2 (cR hx h2) (hg' i a y h1 h3) (cR hyt h3)]
 | ptr hb ha hl hg ih=>
  intro hx S' y hy hyt;cases hy with
  | same ht=>simp[AV.top]at ht
  | ptr hb' ha' hl' hg'=>
   rw[ha]at ha';cases ha';rw[cw,cw,nC hl hl' fun i a x y h1 h2 h3=>ih i a x h1 h2 (cR hx h2) (hg' i a y h1 h3) (cR hyt h3)]
 | vs hl hg ih=>
  intro hx S' y hy hyt;cases hy with
  | same ht=>rw[cw,cw,jr hl.symm fun i x y hx' hy'=>((hg i y x hy' hx').jO (cR ht hy')).symm]
  | vs hl' hg'=>rw[cw,cw,nC hl hl' fun i a x y h1 h2 h3=>ih i a x h1 h2 (cR hx h2) (hg' i a y h1 h3) (cR hyt h3)]
 | agg hl hg ih=>
  intro hx S' y hy hyt;cases hy with
  | same ht=>rw[cw,cw,jr hl.symm fun i x y hx' hy'=>((hg i y x hy' hx').jO (cR ht hy')).symm]
  | agg hl' hg'=>rw[cw,cw,nC hl hl' fun i a x y h1 h2 h3=>ih i a x h1 h2 (cR hx h2) (hg' i a y h1 h3) (cR hyt h3)]
 | ay hl hg ih=>
  intro hx S' y hy hyt;cases hy with
  | same ht=>rw[cw,cw,jr hl.symm fun i x y hx' hy'=>((hg i y x hy' hx').jO (cR ht hy')).symm]
  | ay hl' hg'=>rw[cw,cw,nC hl hl' fun i a x y h1 h2 h3=>ih i a x h1 h2 (cR hx h2) (hg' i a y h1 h3) (cR hyt h3)]
 | fn hf h1 h2 g1 g2 i1 i2=>
  intro hx S' y hy hyt;simp only[AV.top]at hx;cases hy with
  | same ht=>
   simp only[AV.top]at ht;rw[cw,cw,jr h1.symm fun i x y hx' hy'=>((g1 i y x hy' hx').jO (cR ac hy')).symm,jr h2.symm fun i x y hx' hy'=>((g2 i y x hy' hx').jO (cR ac hy')).symm]
  | fn hf' h1' h2' g1' g2'=>
   simp only[AV.top]at hyt;rw[cw,cw,nC h1 h1' (by grind[cR,cR]),
     nC h2 h2' (by grind[cR,cR])]
def rA:AV->Bool
 | .int _ _=>true
 | .bool _=>true
 | .str _=>true
 | .fn f [] []=>match f with | .yield _=>false|_=>true
 | _=>false
inductive dv (h:ae):AV->AV->Prop
 | atom {a:AV} (ha:rA a=true):dv h a a
 | nil:dv h .ab (.vs [] 0 none)
 | sl {b off len esz:Nat} {cap:Option Nat} {l m m0:List AV} {e:TypeId} (ha:h.at b=some (.cells l e)) (hc:cut l off (len*esz)=some m) (hl:m.length=m0.length)
     (hg:∀(i:Nat) x y,m[i]? = some x->m0[i]? = some y->dv h x y):dv h (.sl b off len esz cap) (.vs m0 len none)
 | vs {l l0:List AV} {n:Nat} {cap:Option Nat} (hl:l.length=l0.length) (hg:∀(i:Nat) x y,l[i]? = some x->l0[i]? = some y->dv h x y):dv h (.vs l n cap) (.vs l0 n cap)
 | agg {l l0:List AV} (hl:l.length=l0.length) (hg:∀(i:Nat) x y,l[i]? = some x->l0[i]? = some y->dv h x y):dv h (.agg l) (.agg l0)
def gp (h:ae)(l l0:List AV):Prop:=l.length=l0.length/\∀(i:Nat) x y,l[i]? = some x->l0[i]? = some y->dv h x y
theorem gp.nil:gp h [] []:=⟨rfl,aq⟩
theorem gp.cons {y:AV}(h1:dv h x y)(h2:gp h l m):gp h (x::l) (y::m):=by
 refine⟨by simp[h2.1],fun i a b ha hb=>?_⟩;cases i with
 | zero=>grind
 | succ i=>simp at ha hb;exact h2.2 i a b ha hb
theorem Rh (h:rA a=true):a.top=0:=by
 cases a with
 | fn f fi ca=>
  cases fi <;> cases ca <;> first|(simp[rA]at h;done)|skip
  cases f <;> first|rfl|cases h
 | _=>first|rfl|cases h
theorem dv.fr (hr:dv h a x):Fr h (b7 h.length) a x:=by
 induction hr with
 | atom ha=>exact .same (Rh ha)
 | nil=>exact .nil aq
 | sl ha hc hl hg ih=>exact .sl (by grind[gG]) ha hc hl ih (.inr rfl)
 | vs hl hg ih=>exact .vs hl ih
 | agg hl hg ih=>exact .agg hl ih
theorem gp.fr {l0:List AV}(hr:gp h l l0):gE h (b7 h.length) l l0:=⟨hr.1,fun i x y hx hy=>(hr.2 i x y hx hy).fr⟩
theorem dv.uniq (hr:dv h a x):∀{y:AV},dv h a y->x=y:=by
 induction hr with
 | atom ha=>intro y hy;cases hy <;> first|rfl|cases ha
 | nil=>intro y hy;cases hy with
   | atom ha=>cases ha
   | nil=>rfl
 | sl ha hc hl hg ih=>
  intro y hy;cases hy with
  | atom ha=>cases ha
  | sl ha' hc' hl' hg'=>
   grind[Ar]
 | vs hl hg ih=>
  intro y hy;cases hy with
  | atom ha=>cases ha
  | vs hl' hg'=>grind[Ar]
 | agg hl hg ih=>
  intro y hy;cases hy with
  | atom ha=>cases ha
  | agg hl' hg'=>grind[Ar]
theorem gp.uniq (h1:gp h l m)(h2:gp h l m'):m=m':=
 Hz (h1.1.symm.trans h2.1) fun i x y hx hy=>by
  have hi:i<l.length:=by rw[h1.1];exact(List.getElem?_eq_some_iff.1 hx).1
  exact(h1.2 i l[i] x (az hi) hx).uniq (h2.2 i l[i] y (az hi) hy)
theorem gp.app:∀{l m l' m':List AV},gp h l m->gp h l' m'->gp h (l++l') (m++m')
 | [],[],_,_,_,h2=>h2
 | x::l,y::m,l',m',h1,h2=>.cons (h1.2 0 x y rfl rfl) (gp.app ⟨by simpa using h1.1,fun i a b ha hb=>h1.2 (i+1) a b ha hb⟩ h2)
 | [],y::m,_,_,h1,_=>by have:=h1.1;grind
 | x::l,[],_,_,h1,_=>by have:=h1.1;grind
abbrev rB (h:ae)(l:List AV):Prop:=gp h l l
theorem uI {α:Type}{f:α->List AV}{h:ae}(hf:∀a,rB h (f a)):∀l,rB h (arr f l)
 | []=>.nil
 | a::l=>by rw[kN];exact(hf a).app (uI hf l)
theorem dv.pF {n:Nat}{cap:Option Nat}(hl:rB h l):dv h (.vs l n cap) (.vs l n cap):=.vs rfl hl.2
theorem enter:(∀(f:Nat -> AV) a l,(a::l).map f=f a::l.map f) /\ (∀f:Nat -> AV,[].map f=[]) /\ (∀(a:AV) (l:List AV),(a::l)[0]? = some a) /\ (∀(a:AV) (l:List AV) (n:Nat),(a::l)[n+1]? = l[n]?) /\ (∀n:Nat,([]:List AV)[n]? = none) /\ (∀a b:AV,(some a).getD b=a) /\ ∀b:AV,none.getD b=b:=
  ⟨fun _ _ _=>rfl,fun _=>rfl,fun _ _=>rfl,fun _ _ _=>rfl,fun _=>rfl,fun _ _=>rfl,fun _=>rfl⟩
end Go.Ab
namespace Go.Ab
variable {l as:List AV} {h:ae} {x:AV} {FT:FuncId->Option cU}
variable {M:ax} {P:Program} {gl:Nat->Option AV}
mutual
def bD:AV->AV
 | .vs l n _=>.vs (cC l) n none
 | .vp l=>.vp (cC l)
 | .agg l=>.agg (cC l)
 | .ay l=>.ay (cC l)
 | .fn f a b=>.fn f (cC a) (cC b)
 | .iface t v=>.iface t (bD v)
 | v=>v
def cC:List AV->List AV
 | []=>[]
 | v::r=>bD v::cC r
end
theorem mj:∀{l m:List AV},l.length=m.length->(∀(i:Nat) x y,l[i]? = some x->m[i]? = some y->bD x=bD y)->cC l=cC m
 | [],[],_,_=>rfl
 | x::l,y::m,hl,h=>by
  rw[cC,cC,h 0 x y rfl rfl,mj aw fun i a b ha hb=>h (i+1) a b ha hb]
theorem uJ {m m':List AV}(h1:l.length=m.length)(h2:l.length=m'.length)(h:∀(i:Nat) a x y,l[i]? = some a->m[i]? = some x->m'[i]? = some y->bD x=bD y):cC m=cC m':=
 mj ac fun i x y hx hy=>by
  grind
theorem HB:∀(l m:List AV),cC (l++m)=cC l++cC m
 | [],m=>rfl
 | x::l,m=>by rw[bj,cC,cC,HB l m];rfl
theorem uK {α:Type}{f:α->List AV}(hf:∀a,cC (f a)=f a):∀l,cC (arr f l)=arr f l
 | []=>rfl
 | a::l=>by rw[kN,HB,hf,uK hf l]
inductive eC (h:ae):AV->AV->Prop
 | same {v:AV} (ht:v.top=0):eC h v v
 | sl {b off len esz:Nat} {cap:Option Nat} {l m m0:List AV} {e:TypeId} (ha:h.at b=some (.cells l e)) (hc:cut l off (len*esz)=some m) (hl:m.length=m0.length)
     (hg:∀(i:Nat) x y,m[i]? = some x->m0[i]? = some y->eC h x y):eC h (.sl b off len esz cap) (.vs m0 len none)
 | vs {l l0:List AV} {n:Nat} {cap:Option Nat} (hl:l.length=l0.length) (hg:∀(i:Nat) x y,l[i]? = some x->l0[i]? = some y->eC h x y):eC h (.vs l n cap) (.vs l0 n cap)
 | agg {l l0:List AV} (hl:l.length=l0.length) (hg:∀(i:Nat) x y,l[i]? = some x->l0[i]? = some y->eC h x y):eC h (.agg l) (.agg l0)
 | ay {l l0:List AV} (hl:l.length=l0.length) (hg:∀(i:Nat) x y,l[i]? = some x->l0[i]? = some y->eC h x y):eC h (.ay l) (.ay l0)
theorem eC.fr {a:AV}(hr:eC h a x):Fr h (b7 h.length) a x:=by
 induction hr with
 | same ht=>exact .same ht
 | sl ha hc hl hg ih=>exact .sl (by grind[gG]) ha hc hl ih (.inr rfl)
 | vs hl hg ih=>exact .vs hl ih
 | agg hl hg ih=>exact .agg hl ih
 | ay hl hg ih=>exact .ay hl ih
theorem eC.jO {a:AV}(hr:eC h a x):a.top=0->bD a=bD x:=by
 induction hr with
 | same ht=>simp
 | sl=>intro ht;simp[AV.top]at ht
 | vs hl hg ih=>intro ht;rw[bD,bD,mj hl fun i x y hx hy=>ih i x y hx hy (cR ht hx)]
 | agg hl hg ih=>intro ht;rw[bD,bD,mj hl fun i x y hx hy=>ih i x y hx hy (cR ht hx)]
 | ay hl hg ih=>intro ht;rw[bD,bD,mj hl fun i x y hx hy=>ih i x y hx hy (cR ht hx)]
theorem eC.can {a:AV}(hr:eC h a x):x.top=0->∀{y:AV},eC h a y->y.top=0->bD x=bD y:=by
 induction hr with
 | same ht=>exact fun _ y hy _=>hy.jO ht
 | sl ha hc hl hg ih=>
  intro hx y hy hyt;cases hy with
  | same ht=>simp[AV.top]at ht
  | sl ha' hc' hl' hg'=>
   rw[ha]at ha';cases ha';rw[hc]at hc';cases hc';rw[bD,bD,uJ hl hl' fun i a x y h1 h2 h3=>ih i a x h1 h2 (cR hx h2) aw (cR hyt h3)]
 | vs hl hg ih=>
  intro hx y hy hyt;cases hy with
  | same ht=>rw[bD,bD,mj hl.symm fun i x y hx' hy'=>((hg i y x hy' hx').jO (cR ht hy')).symm]
  | vs hl' hg'=>rw[bD,bD,uJ hl hl' fun i a x y h1 h2 h3=>ih i a x h1 h2 (cR hx h2) aw (cR hyt h3)]
 | agg hl hg ih=>
  intro hx y hy hyt;cases hy with
  | same ht=>rw[bD,bD,mj hl.symm fun i x y hx' hy'=>((hg i y x hy' hx').jO (cR ht hy')).symm]
  | agg hl' hg'=>rw[bD,bD,uJ hl hl' fun i a x y h1 h2 h3=>ih i a x h1 h2 (cR hx h2) aw (cR hyt h3)]
 | ay hl hg ih=>
  intro hx y hy hyt;cases hy with
  | same ht=>rw[bD,bD,mj hl.symm fun i x y hx' hy'=>((hg i y x hy' hx').jO (cR ht hy')).symm]
  | ay hl' hg'=>rw[bD,bD,uJ hl hl' fun i a x y h1 h2 h3=>ih i a x h1 h2 (cR hx h2) aw (cR hyt h3)]
theorem pG {i:Nat}(h:(eA l)[i]? = some x):∃y,l[i]? = some y/\x=cw y:=by
 induction l generalizing i with
 | nil=>simp[eA]at h
 | cons a l ih=>
  rw[eA]at h;grind
theorem nD:∀l:List AV,(eA l).length=l.length
 | []=>rfl
 | a::l=>by rw[eA,aZ,aZ,nD l]
theorem pH {i:Nat}(h:(cC l)[i]? = some x):∃y,l[i]? = some y/\x=bD y:=by
 induction l generalizing i with
 | nil=>simp[cC]at h
 | cons a l ih=>
  rw[cC]at h;grind
theorem nE:∀l:List AV,(cC l).length=l.length
 | []=>rfl
 | a::l=>by rw[cC,aZ,aZ,nE l]
section
variable {ρ:aM} {w:World} {a:AV} {v:Value}
theorem V.bD (hv:V ρ w a v):V ρ w (bD a) v:=by
 induction hv with
 | dj v=>exact .dj v
 | bool b=>exact .bool b
 | int k n=>exact .int k n
 | str s=>exact .str s
 | eK=>exact .eK
 | ptr o h=>exact .ptr o h
 | eM o c o' h=>exact .eM o c o' h
 | vp c o g hf hc hg ih=>
  exact .vp c o g (fun h=>hf fun e=>h (by rw[e];rfl)) (by grind[nE]) (by grind[pH])
 | ab=>exact .ab
 | sl h hl hcap hb=>exact .sl h hl hcap hb
 | fX h=>exact .fX h
 | fm c o' h hl hcap=>exact .fm c o' h hl hcap
 | fJ h=>exact .fJ h
 | fY a h=>exact .fY a h
 | vs c o g hf hl hcap hc hg ih=>
  exact .vs c o g (fun h=>hf fun e=>h (by rw[e];rfl)) hl aq (by grind[nE]) (by grind[pH])
 | fa hcap=>exact .fa aq
 | fK a hcap=>exact .fK a aq
 | eO=>exact .eO
 | map h=>exact .map h
 | iw c h=>exact .iw c h
 | yield h=>exact .yield h
 | fn hf h1 h2 g1 g2 i1 i2=>
  exact .fn hf (by grind[nE]) (by grind[nE]) (by grind[pH]) (by grind[pH])
 | gY c h=>exact .gY c h
 | fH=>exact .fH
 | iface h ih=>exact .iface ih
 | dN=>exact .dN
 | agg h g ih=>
  exact .agg (by grind[nE]) (by grind[pH])
 | ay h g ih=>
  exact .ay (by grind[nE]) (by grind[pH])
theorem V.cw (hv:V ρ w a v):V ρ w (cw a) v:=by
 induction hv with
 | dj v=>exact .dj v
 | bool b=>exact .bool b
 | int k n=>exact .int k n
 | str s=>exact .str s
 | eK=>exact .eK
 | ptr o h=>exact .ptr o h
 | eM o c o' h=>exact .eM o c o' h
 | vp c o g hf hc hg ih=>
  exact .vp c o g (fun h=>hf fun e=>h (by rw[e];rfl)) (by grind[nD]) (by grind[pG])
 | ab=>exact .fa aq
 | sl h hl hcap hb=>exact .sl h hl hcap hb
 | fX h=>exact .fX h
 | fm c o' h hl hcap=>exact .fm c o' h hl hcap
 | fJ h=>exact .fJ h
 | fY a h=>exact .fY a h
 | vs c o g hf hl hcap hc hg ih=>
  exact .vs c o g (fun h=>hf fun e=>h (by rw[e];rfl)) hl aq (by grind[nD]) (by grind[pG])
 | fa hcap=>exact .fa aq
 | fK a hcap=>exact .fK a aq
 | eO=>exact .eO
 | map h=>exact .map h
 | iw c h=>exact .iw c h
 | yield h=>exact .yield h
 | fn hf h1 h2 g1 g2 i1 i2=>
  exact .fn hf (by grind[nD]) (by grind[nD]) (by grind[pG]) (by grind[pG])
 | gY c h=>exact .gY c h
 | fH=>exact .fH
 | iface h ih=>exact .iface ih
 | dN=>exact .dN
 | agg h g ih=>
  exact .agg (by grind[nD]) (by grind[pG])
 | ay h g ih=>
  exact .ay (by grind[nD]) (by grind[pG])
end
theorem HC {f:Nat}{h':ae}{v v':AV}{wr:List Nat}(hv:∀ρ w x,V ρ w v x->V ρ w v' x)(he:bl P gl ⟨f,as,h,⟨v,h',wr⟩⟩):bl P gl ⟨f,as,h,⟨v',h',wr⟩⟩:=by
 refine⟨he.1,fun ρ w as' m ha=>?_⟩;obtain⟨nx,w1,g1,g2⟩:=he.2 ρ w as' m ha;refine⟨nx,w1,g1,g2.mono fun x w' hd=>?_⟩;obtain⟨ρ',h1,h2,h3⟩:=hd;exact⟨ρ',hv _ _ _ h1,h2,h3⟩
def HD (P:Program)(FT:FuncId->Option cU)(T:List (Nat×Spec))(g:Nat)(as0:List AV)(v0:AV):Prop:=∃v hh v1,bg (bx P FT T) g as0 [] ⟨v,hh,[]⟩/\kl hh v v1/\v1.top=0/\cw v1=v0
def Ri (P:Program)(FT:FuncId->Option cU)(T:List (Nat×Spec))(g:Nat)(as:List AV)(h:ae)(r:HR):Prop:=∃as0 v0,gp h as as0/\HD P FT T g as0 v0/\r=⟨v0,h,[]⟩
noncomputable def rC (P:Program)(FT:FuncId->Option cU)(T:List (Nat×Spec))(g:Nat):Spec:=pE (Ri P FT T g)
theorem Rj (hs:jK P gl FT){T:List (Nat×Spec)}(hT:cB P gl (bB T)){g:Nat}:ba P gl g (rC P FT T g):=Hr fun as h r ⟨as0,v0,hf,⟨v,hh,v1,hr,hn,ht,hc⟩,e⟩=>by
 subst e;subst hc;exact HC (fun _ _ _ h=>h.cw) (Rc hs hT hr hf.fr hn ht)
theorem ml {T:List (Nat×Spec)}{g:Nat}{as0:List AV}{v0:AV}(hf:gp h as as0)(hr:HD P FT T g as0 v0):rC P FT T g as h=some ⟨v0,h,[]⟩:=
 Hs ⟨as0,v0,hf,hr,rfl⟩ fun r' ⟨as0',v0',hf',hr',e⟩=>by
  cases hf.uniq hf';obtain⟨v,hh,v1,r1,⟨B,f1,_⟩,t1,c1⟩:=hr;obtain⟨v',hh',v1',r2,⟨B',f2,_⟩,t2,c2⟩:=hr';cases r1.Hy r2;rw[e,←c1,←c2,f1.can t1 f2 t2]
def Au (P:Program)(FT:FuncId->Option cU)(T:List (Nat×Spec))(g:Nat)(as:List AV)(v0:AV):Prop:=∃v hh v1,bg (bx P FT T) g as [] ⟨v,hh,[]⟩/\eC hh v v1/\bz as=0/\v1.top=0/\bD v1=v0
def Rk (P:Program)(FT:FuncId->Option cU)(T:List (Nat×Spec))(g:Nat)(as:List AV)(h:ae)(r:HR):Prop:=∃v0,Au P FT T g as v0/\r=⟨v0,h,[]⟩
noncomputable def pI (P:Program)(FT:FuncId->Option cU)(T:List (Nat×Spec))(g:Nat):Spec:=pE (Rk P FT T g)
theorem Rl (hs:jK P gl FT){T:List (Nat×Spec)}(hT:cB P gl (bB T)){g:Nat}:ba P gl g (pI P FT T g):=Hr fun as h r ⟨v0,⟨v,hh,v1,hr,hf,ha,ht,hc⟩,e⟩=>by
 subst e;subst hc;exact HC (fun _ _ _ h=>h.bD) (QY hs hT hr ha hf.fr ht)
theorem rD {T:List (Nat×Spec)}{g:Nat}{v0:AV}(hr:Au P FT T g as v0):pI P FT T g as h=some ⟨v0,h,[]⟩:=
 Hs ⟨v0,hr,rfl⟩ fun r' ⟨v0',hr',e⟩=>by
  obtain⟨v,hh,v1,r1,f1,_,t1,c1⟩:=hr;obtain⟨v',hh',v1',r2,f2,_,t2,c2⟩:=hr';cases r1.Hy r2;rw[e,←c1,←c2,f1.can t1 f2 t2]
theorem eC.Rm {α:Type}{f:α->List AV}{v:AV}{l:List α}(hf:∀a,bz (f a)=0)(hs:Sl f h v l):v = .ab/\l=[]\/∃cap,eC h v (.vs (arr f l) l.length cap):=by
 rcases hs with ⟨rfl,rfl⟩|⟨c,rfl⟩|⟨b,off,ez,cap,c,e,rfl,hb,hc⟩
 . simp
 . exact .inr ⟨c,.same (jL hf l)⟩
 . exact .inr ⟨none,.sl hb hc rfl fun i x y hx hy=>by
    rw[hx]at hy;cases hy;exact .same (cR (jL hf l) hx)⟩
end Go.Ab
namespace Go.Ab
variable {M:ax} {P:Program} {gl:Nat->Option AV}
theorem cz {FT:FuncId->Option cU}{T:List (Nat×Spec)}{g:Nat}{as:List AV}{v:AV}(hr:bg (bx P FT T) g as [] ⟨v,[],[]⟩)(ha:bz as=0)(ht:v.top=0)(hc:bD v=v)(h:ae):pI P FT T g as h=some ⟨v,h,[]⟩:=
 rD ⟨v,[],v,hr,.same ht,ha,ht,hc⟩
theorem pJ {FT:FuncId->Option cU}{T:List (Nat×Spec)}{g:Nat}{as as0:List AV}{v:AV}(hr:bg (bx P FT T) g as0 [] ⟨v,[],[]⟩)(ht:v.top=0)(hn:dI v=true)(hc:cw v=v){h:ae}(hf:gp h as as0):rC P FT T g as h=some ⟨v,h,[]⟩:=
 ml hf ⟨v,[],v,hr,.same ht hn,ht,hc⟩
end Go.Ab
namespace Go.Ab
variable {n:Nat}
variable {M:ax} {t:Nat} {x y:aO} {l:List aY} {pe:List AV} {lo:List (Nat×AV)} {hp:ae} {df wr:List Nat} {k:IntKind} {a b:Int} {Q:au->Prop}
theorem rE (a:Int):IntKind.u64.wrap a=a%18446744073709551616:=by
 rfl
theorem pK {a:Int}(h:0<=a/\a<18446744073709551616):IntKind.u64.wrap a=a:=by rw[rE];omega
theorem aeH (hx:(St.mk pe lo hp df).ah x=some (.int .u64 a))(hy:(St.mk pe lo hp df).ah y=some (.int .u64 b))
 (h:WO M l ⟨⟨pe,(t,.int .u64 ((a+b)%18446744073709551616))::lo,hp,df⟩,wr⟩ Q):WO M (⟨.l t,.bin .add x y,none⟩::l) ⟨⟨pe,lo,hp,df⟩,wr⟩ Q:=
 abh (v:=.int .u64 ((a+b)%18446744073709551616)) (by simp[bk,hx,hy,dy,rE]) rfl h
theorem aed (hx:(St.mk pe lo hp df).ah x=some (.int .u64 a))(hy:(St.mk pe lo hp df).ah y=some (.int .u64 b))(hr:0<=a+b/\a+b<18446744073709551616)
 (h:WO M l ⟨⟨pe,(t,.int .u64 (a+b))::lo,hp,df⟩,wr⟩ Q):WO M (⟨.l t,.bin .add x y,none⟩::l) ⟨⟨pe,lo,hp,df⟩,wr⟩ Q:=
 abh (v:=.int .u64 (a+b)) (by simp[bk,hx,hy,dy,pK hr]) rfl h
theorem afd (hx:(St.mk pe lo hp df).ah x=some (.int .u64 a))(hy:(St.mk pe lo hp df).ah y=some (.int .u64 b))
 (h:WO M l ⟨⟨pe,(t,.int .u64 ((a-b)%18446744073709551616))::lo,hp,df⟩,wr⟩ Q):WO M (⟨.l t,.bin .sub x y,none⟩::l) ⟨⟨pe,lo,hp,df⟩,wr⟩ Q:=
 abh (v:=.int .u64 ((a-b)%18446744073709551616)) (by simp[bk,hx,hy,dy,rE]) rfl h
theorem aef (hx:(St.mk pe lo hp df).ah x=some (.int .u64 a))(hy:(St.mk pe lo hp df).ah y=some (.int .u64 b))(hr:0<=a-b/\a-b<18446744073709551616)
 (h:WO M l ⟨⟨pe,(t,.int .u64 (a-b))::lo,hp,df⟩,wr⟩ Q):WO M (⟨.l t,.bin .sub x y,none⟩::l) ⟨⟨pe,lo,hp,df⟩,wr⟩ Q:=
 abh (v:=.int .u64 (a-b)) (by simp[bk,hx,hy,dy,pK hr]) rfl h
theorem aeI (hx:(St.mk pe lo hp df).ah x=some (.int .u64 a))(hy:(St.mk pe lo hp df).ah y=some (.int .u64 b))
 (h:WO M l ⟨⟨pe,(t,.int .u64 ((a*b)%18446744073709551616))::lo,hp,df⟩,wr⟩ Q):WO M (⟨.l t,.bin .mul x y,none⟩::l) ⟨⟨pe,lo,hp,df⟩,wr⟩ Q:=
 abh (v:=.int .u64 ((a*b)%18446744073709551616)) (by simp[bk,hx,hy,dy,rE]) rfl h
theorem aeb (hx:(St.mk pe lo hp df).ah x=some (.int .u64 a))(hy:(St.mk pe lo hp df).ah y=some (.int .u64 b))(hr:0<=a*b/\a*b<18446744073709551616)
 (h:WO M l ⟨⟨pe,(t,.int .u64 (a*b))::lo,hp,df⟩,wr⟩ Q):WO M (⟨.l t,.bin .mul x y,none⟩::l) ⟨⟨pe,lo,hp,df⟩,wr⟩ Q:=
 abh (v:=.int .u64 (a*b)) (by simp[bk,hx,hy,dy,pK hr]) rfl h
theorem aeJ (hx:(St.mk pe lo hp df).ah x=some (.int .u64 a))(hy:(St.mk pe lo hp df).ah y=some (.int .u64 b))(ha:0<=a/\a<18446744073709551616)(hb:0<b)
 (h:WO M l ⟨⟨pe,(t,.int .u64 (a/b))::lo,hp,df⟩,wr⟩ Q):WO M (⟨.l t,.bin .quo x y,none⟩::l) ⟨⟨pe,lo,hp,df⟩,wr⟩ Q:=by
 refine abh (v:=.int .u64 (a/b)) ?_ rfl h;have h1:0<=a/b:=Int.ediv_nonneg ha.1 ac;have h2:a/b<=a:=Int.ediv_le_self _ ha.1;have h3:¬b=0:=by omega
 simp only[bk,hx,hy,dy,if_true,if_neg h3];grind[Int.tdiv_eq_ediv_of_nonneg,pK]
theorem afn (hx:(St.mk pe lo hp df).ah x=some (.int .u64 a))(hy:(St.mk pe lo hp df).ah y=some (.int .u64 b))(ha:0<=a)(hb:0<b)
 (h:WO M l ⟨⟨pe,(t,.int .u64 (a%b))::lo,hp,df⟩,wr⟩ Q):WO M (⟨.l t,.bin .rem x y,none⟩::l) ⟨⟨pe,lo,hp,df⟩,wr⟩ Q:=by
 refine abh (v:=.int .u64 (a%b)) ?_ rfl h;have h3:¬b=0:=by omega
 simp only[bk,hx,hy,dy,if_true,if_neg h3]<;>grind
theorem aew (hx:(St.mk pe lo hp df).ah x=some (.int .u64 a))(hy:(St.mk pe lo hp df).ah y=some (.int k b))(hb:b=n)(hn:n<=64)
 (h:WO M l ⟨⟨pe,(t,.int .u64 (a/2^n))::lo,hp,df⟩,wr⟩ Q):WO M (⟨.l t,.bin .shr x y,none⟩::l) ⟨⟨pe,lo,hp,df⟩,wr⟩ Q:=by
 refine abh (v:=.int .u64 (a/2^n)) ?_ rfl h;subst hb;have h3:¬((n:Int)<0):=by omega
 have h4:min ((n:Int).toNat) IntKind.u64.bits=n:=by
  show min ((n:Int).toNat) 64=n;omega
 simp only[bk,hx,hy,dy,if_neg h3,h4]<;>grind
theorem aeE (hx:(St.mk pe lo hp df).ah x=some (.int .u64 a))(hy:(St.mk pe lo hp df).ah y=some (.int k b))(hb:b=n)(hn:n<=64)
 (h:WO M l ⟨⟨pe,(t,.int .u64 ((a*2^n)%18446744073709551616))::lo,hp,df⟩,wr⟩ Q):WO M (⟨.l t,.bin .shl x y,none⟩::l) ⟨⟨pe,lo,hp,df⟩,wr⟩ Q:=by
 refine abh (v:=.int .u64 ((a*2^n)%18446744073709551616)) ?_ rfl h;subst hb;have h3:¬((n:Int)<0):=by omega
 have h4:min ((n:Int).toNat) IntKind.u64.bits=n:=by
  show min ((n:Int).toNat) 64=n;omega
 simp only[bk,hx,hy,dy,if_neg h3,h4,rE]
theorem aeB {c:Int}(hx:(St.mk pe lo hp df).ah x=some (.int .u64 a))(hy:(St.mk pe lo hp df).ah y=some (.int k b))(hb:b=n)(hn:n<=64)(hc:(2:Int)^n=c)
 (h:WO M l ⟨⟨pe,(t,.int .u64 (a/c))::lo,hp,df⟩,wr⟩ Q):WO M (⟨.l t,.bin .shr x y,none⟩::l) ⟨⟨pe,lo,hp,df⟩,wr⟩ Q:=by
 subst hc;exact aew hx hy hb hn h
theorem pM:BitVec.ofInt 64 (n:Int)=BitVec.ofNat 64 n:=by
 rfl
theorem afe (hx:(St.mk pe lo hp df).ah x=some (.int .u64 a))(hy:(St.mk pe lo hp df).ah y=some (.int .u64 4294967295))(ha:0<=a/\a<18446744073709551616)
 (h:WO M l ⟨⟨pe,(t,.int .u64 (a%4294967296))::lo,hp,df⟩,wr⟩ Q):WO M (⟨.l t,.bin .and x y,none⟩::l) ⟨⟨pe,lo,hp,df⟩,wr⟩ Q:=by
 refine abh (v:=.int .u64 (a%4294967296)) ?_ rfl h;obtain⟨n,rfl⟩:=aW ha.1;have e:(BitVec.ofInt 64 (n:Int) &&& BitVec.ofInt 64 4294967295).toNat=n%4294967296:=by
  rw[pM,show (4294967295:Int)=((4294967295:Nat):Int) from rfl,pM,BitVec.toNat_and,BitVec.toNat_ofNat,BitVec.toNat_ofNat,bc ac,bc aq];exact Nat.and_two_pow_sub_one_eq_mod n 32
 simp only[bk,hx,hy,dy,if_true];show some (AV.int .u64 (IntKind.u64.wrap ((BitVec.ofInt 64 (n:Int) &&& BitVec.ofInt 64 4294967295).toNat:Int)))=_;rw[e,pK ac];rfl
theorem aff (m:Nat)(hx:(St.mk pe lo hp df).ah x=some (.int .u64 a))(hy:(St.mk pe lo hp df).ah y=some (.int .u64 b))(ha:0<=a/\a<18446744073709551616)(hb:0<=b/\b<2^m)(hm:m<=64)(hd:a%2^m=0)
 (h:WO M l ⟨⟨pe,(t,.int .u64 (a+b))::lo,hp,df⟩,wr⟩ Q):WO M (⟨.l t,.bin .or x y,none⟩::l) ⟨⟨pe,lo,hp,df⟩,wr⟩ Q:=by
 refine abh (v:=.int .u64 (a+b)) ?_ rfl h;obtain⟨n,rfl⟩:=aW ha.1;obtain⟨p,rfl⟩:=aW hb.1;have hp2:p<2^m:=by have:=hb.2;exact_mod_cast this
 have h64:2^m<=2^64:=Nat.pow_le_pow_right am hm;have hd':n%2^m=0:=by exact_mod_cast hd
 obtain⟨q,hq⟩:∃q,n=2^m*q:=⟨n/2^m,by grind[Nat.div_add_mod]⟩;have hsum:n+p<2^64:=by
  have h1:n<2^64:=by omega
  obtain⟨r,hr⟩:∃r,2^64=2^m*2^r:=⟨64-m,by rw[←Nat.pow_add];grind⟩;rw[hq,hr]at h1;have h2:q<2^r:=Nat.lt_of_mul_lt_mul_left h1;have h3:2^m*(q+1)<=2^m*2^r:=Nat.mul_le_mul_left _ h2;rw[Nat.mul_add]at h3;omega
 have e:(BitVec.ofInt 64 (n:Int) ||| BitVec.ofInt 64 (p:Int)).toNat=n+p:=by
  rw[pM,pM,BitVec.toNat_or,BitVec.toNat_ofNat,BitVec.toNat_ofNat,bc ac,bc ac,hq];exact(Nat.two_pow_add_eq_or_of_lt hp2 q).symm
 simp only[bk,hx,hy,dy,if_true];show some (AV.int .u64 (IntKind.u64.wrap ((BitVec.ofInt 64 (n:Int) ||| BitVec.ofInt 64 (p:Int)).toNat:Int)))=_;rw[e,pK ac];rfl
theorem Rp {a:Int}:IntKind.u8.wrap a=a%256:=by
 rfl
theorem afo (hx:(St.mk pe lo hp df).ah x=some (.int k a))(h:WO M l ⟨⟨pe,(t,.int .u8 (a%256))::lo,hp,df⟩,wr⟩ Q):WO M (⟨.l t,.gW .u8 x,none⟩::l) ⟨⟨pe,lo,hp,df⟩,wr⟩ Q:=
 abh (v:=.int .u8 (a%256)) (by simp only[bk,hx,Option.bind_some,oK,Rp]) rfl h
end Go.Ab
namespace Go.Ab
open Go.RowKit
variable {P:Program} {gl:Nat->Option AV} {ρ:aM} {h:ae} {w w':World}
end Go.Ab
