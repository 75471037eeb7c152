/-
  Own work: what a call has made is handed back by its contents: no block of the caller's is added.
-/
import Derived.Test.YtmngppcmhfhgaaaGreatDoorLib1
import Derived.Below
open Int renaming eq_ofNat_of_zero_le→aY
open List renaming getElem?_eq_getElem→aL,getElem?_eq_some_iff→aR,length_cons→ba,cons_append→bN,drop_zero→bW,range→b6
open Nat renaming mod_eq_of_lt→be,le_refl→bA,zero_mul→bI
open Option renaming map_some→bP
open Go.World renaming cell?→b7
set_option maxHeartbeats 8000000
set_option maxRecDepth 20000
namespace Go.Ab
variable {FT:FuncId->Option dh}
variable {P:Program} {gl:Nat->Option AV}
def jJ (ρ:aO):aO:=⟨fun _=>.fresh,ρ.X⟩
theorem dv.jJ {ρ:aO}{c:Nat}(h:¬ρ.X c):dv (jJ ρ) c:=⟨fun b d hb=>by simp[Go.Ab.jJ]at hb,h⟩
theorem Ru (hgl:∀g v,gl g=some v->v.top=0){w:World}{ρ:aO}{T:List Nat}{v v1:AV}{hh:ae}{v':Value}{w':World}(hf:Fr hh T v v1)(ht:v1.top=0)(hd:fo P gl (dZ ρ []) [] w ⟨v,hh,[]⟩ v' w'):fo P gl (dZ ρ []) [] w ⟨v1,[],[]⟩ v' w':=by
 obtain⟨ρ',hv,m',x⟩:=hd;have hF:∀c,dv (dZ ρ' T) c->dv (jJ ρ') c:=fun c hc=>dv.jJ fun hx=>hc.2 (.inl hx)
 have hF':∀c,dv ρ' c->dv (jJ ρ') c:=fun c hc=>dv.jJ hc.2
 refine⟨jJ ρ',(hf.view m' hv).gM (n:=0) am hF ac,?_,?_⟩
 . refine⟨am,fun b _=>rfl,fun b b' c d d' h1=>by simp[jJ]at h1,fun b c d h1=>by simp[jJ]at h1,m'.xb,fun b c d h1=>by simp[jJ]at h1,fun g v hg=>?_⟩;exact(m'.gl g v hg).gM (n:=0) am hF' au
 . refine⟨x.os,x.tape,x.output,x.size,bA _,x.X,am,am,fun b c d hb=>by simp[dZ]at hb,fun b hb=>by simp[dZ]at hb,fun b hb=>by simp[dZ]at hb,fun c hc _=>x.dc c hc ac,fun b c d hb _=>by simp[jJ]at hb,x.shape⟩
theorem Rv (hgl:∀g v,gl g=some v->v.top=0){f:Nat}{as:List AV}{h:ae}{v v1:AV}{hh:ae}{T:List Nat}(ha:bG as=0)(hf:Fr hh T v v1)(ht:v1.top=0)(hloc:bw P gl ⟨f,as,[],⟨v,hh,[]⟩⟩):bw P gl ⟨f,as,h,⟨v1,h,[]⟩⟩:=by
 refine⟨⟨bA _,fun _ _ _=>rfl⟩,fun ρ w as' m hl=>?_⟩;obtain⟨nx,w1,h1,h2⟩:=hloc.2 (dZ ρ []) w as' (m.dZ hgl []) ((fA.same ha).view m hl);refine⟨nx,w1,h1,h2.mono fun v w' hd=>?_⟩;have:=Hc (S:=[]) (ks:=[]) (bs:=[]) m am (.same ht) rfl am (.inl rfl) (Ru hgl hf ht hd)<;>grind
theorem Rw (hs:kh P gl FT){T:List (Nat×Spec)}(hT:cY P gl (bE T)){f:Nat}{as:List AV}{h hh:ae}{B:List Nat}{v v1:AV}(hr:bg (bz P FT T) f as [] ⟨v,hh,[]⟩)(ha:bG as=0)(hf:Fr hh B v v1)(ht:v1.top=0):bw P gl ⟨f,as,h,⟨v1,h,[]⟩⟩:=
 Rv hs.gl ha hf ht (rE hs hT hr ⟨Nat.zero_le _,fun _ hb=>au⟩)
def mL (N:Nat):aO:=⟨fun _=>.fresh,fun c=>c<N⟩
theorem dv.mL {N c:Nat}(h:N<=c):dv (mL N) c:=⟨fun b d hb=>by simp[Go.Ab.mL]at hb,fun hx=>absurd hx (by show ¬c<N;omega)⟩
theorem Fr.Rx {ρ:aO}{h:ae}{w:World}(m:Mem P gl ρ h w){N:Nat}(hnew:∀b c d,ρ b = .live c d->N<=c){T:List Nat}(hT:∀b l e,b∈T->h.at b=some (.cells l e)->fP l=true){a a0:AV}(hr:Fr h T a a0):dV a=true->a0.top=0->∀{v:Value},V ρ w a v->V (mL N) w a0 v:=by
 have hat:∀{b o},h.at b=some o->h[b]? = some (some o):=fun {b o} hb=>by
  unfold ae.at at hb;grind
 have cutN:∀{l m':List AV} {off n:Nat},fP l=true->cut l off n=some m'->∀(i:Nat) x,m'[i]? = some x->dV x=true:=fun {l m' off n} hn hc i x hx=>by
  simp only[cut]at hc;grind[gY]
 induction hr with
 | same ht=>grind[Hb]
 | nil hc=>
  intro _ _ v hv;cases hv;exact .fm hc
 | @sl b off len esz cap cap' l m' m0 e hb ha hc hl hg hcc ih=>
  intro _ ht v hv;simp only[AV.top]at ht;have ih':∀(i:Nat) x y,m'[i]? = some x->m0[i]? = some y->∀{v:Value},V ρ w x v->V (mL N) w y v:=fun i x y hx hy {v} hv=>
   ih i x y hx hy au (by have:=fF (n:=0) ac i y hy;omega) hv
  have hB:=m.dJ b _ (hat ha);have hcut:m'.length=len*esz/\∀i,i<m'.length->m'[i]? = l[off+i]? := by
   simp only[cut]at hc;split at hc
   . grind
   . cases hc
  cases hv with
  | @sl _ c d _ _ _ capC _ h1 h2 h3 h4=>
   have h3:∀n,cap'=some n->capC=n:=au;rcases hB with ⟨c',d',cs,fr,g1,g2,g3,g4,g5⟩|⟨g1,_⟩
   . rw[h1]at g1;cases g1;refine .vs c (off+d) (fun i=>cs.getD (off+d+i) (.bool false)) (by grind[dv.mL]) h2 h3 (fun i hi=>?_) (fun i y hy=>?_)
     . have hi':i<m'.length:=by omega
       have hlt:off+i<l.length:=by
        have:=hcut.2 i hi';rw[aL hi']at this;exact(aR.1 this.symm).1
       have:off+d+i<cs.size:=by have:=g3.1;omega
       simp only[b7,g2]<;>simp_all
     . have hi:i<m0.length:=(aR.1 hy).1;have hi':i<m'.length:=by omega
       have hx:=hcut.2 i hi';rw[aL hi']at hx;have hlt:off+i<l.length:=(aR.1 hx.symm).1;have hs:off+d+i<cs.size:=by have:=g3.1;omega
       refine ih' i m'[i] y (aL hi') hy ?_;refine g5 (off+i) _ _ hx.symm ?_;rw[show off+i+d=off+d+i from by omega];simp_all
   grind
  | @gn _ _ h1=>
   rcases hB with ⟨c',d',cs,fr,g1,_⟩|⟨g1,g2⟩
   . grind
   . have:m0=[]:=au;subst this;exact .fm au
  | fE c o' h1 _ _=>
   rcases hB with ⟨c',d',cs,fr,g1,_⟩|⟨g1,g2⟩ <;> (rw[h1]at g1;cases g1)
  | gp a h1=>
   rcases hB with ⟨c',d',cs,fr,g1,_⟩|⟨g1,g2⟩ <;> (rw[h1]at g1;cases g1)
  | fS h1=>
   rcases hB with ⟨c',d',cs,fr,g1,_⟩|⟨g1,g2⟩ <;> (rw[h1]at g1;cases g1)
 | @ptr b off l m0 e hb ha hl hg ih=>
  intro _ ht v hv;simp only[AV.top]at ht;have hB:=m.dJ b _ (hat ha);cases hv with
  | @ptr _ c d _ h1=>
   rcases hB with ⟨c',d',cs,fr,g1,g2,g3,g4,g5⟩|⟨g1,_⟩
   . rw[h1]at g1;cases g1;refine .vp c (off+d) (fun i=>cs.getD (off+d+i) (.bool false)) (by grind[dv.mL]) (fun i hi=>?_) (fun i y hy=>?_)
     . have:off+d+i<cs.size:=by have:=g3.1;simp at hl;omega
       simp only[b7,g2]<;>simp_all
     . have hi:i<m0.length:=(aR.1 hy).1;have hi':i<(l.drop off).length:=by omega
       have hlt:off+i<l.length:=by simp at hi';omega
       have hs:off+d+i<cs.size:=by have:=g3.1;omega
       refine ih i _ y (aL hi') hy ?_ (by have:=fF (n:=0) ac i y hy;omega) ?_
       . rw[List.getElem_drop];exact gY au (aL hlt)
       . refine g5 (off+i) _ _ am ?_;rw[show off+i+d=off+d+i from by omega];simp_all
   grind
  | fj _ c o' h1=>
   rcases hB with ⟨c',d',cs,fr,g1,_⟩|⟨g1,g2⟩ <;> (rw[h1]at g1;cases g1)
 | @vs l l0 n cap hl hg ih=>
  intro hn _ v hv;simp only[dV,List.isEmpty_iff]at hn;subst hn;have:l0=[]:=au;subst this;cases hv with
  | vs c o g hf h2 h3 h4 h5=>exact .vs c o g am h2 h3 am am
  | fm hc=>exact .fm hc
  | fT a hc=>exact .fT a hc
 | @agg l l0 hl hg ih=>
  intro hn ht v hv;simp only[dV]at hn;simp only[AV.top]at ht;cases hv with
  | @agg _ mm h1 h2=>
   refine .agg ac fun i y z hy hz=>?_
   have hi:i<l.length:=by have:=(aR.1 hy).1;omega
   exact ih i _ y (aL hi) hy (gY hn (aL hi)) (by have:=fF (n:=0) ac i y hy;omega) (h2 i _ z (aL hi) hz)
 | @ay l l0 hl hg ih=>
  intro hn ht v hv;simp only[dV]at hn;simp only[AV.top]at ht;cases hv with
  | @ay _ mm h1 h2=>
   refine .ay ac fun i y z hy hz=>?_
   have hi:i<l.length:=by have:=(aR.1 hy).1;omega
   exact ih i _ y (aL hi) hy (gY hn (aL hi)) (by have:=fF (n:=0) ac i y hy;omega) (h2 i _ z (aL hi) hz)
 | @fn f fi fi0 ca ca0 hf h1 h2 g1 g2 ih1 ih2=>
  intro hn ht v hv;simp only[dV,Bool.and_eq_true]at hn;have hh:bG fi0<=0/\bG ca0<=0:=by
   cases f <;> simp only[AV.top]at ht <;> exact⟨ac,ac⟩
  cases hv with
  | fn hf' a1 a2 a3 a4=>
   refine .fn hf ac ac (fun i y z hy hz=>?_) (fun i y z hy hz=>?_)
   . have hi:i<fi.length:=by have:=(aR.1 hy).1;omega
     exact ih1 i _ y (aL hi) hy (gY hn.1 (aL hi)) (by have:=fF hh.1 i y hy;omega) (a3 i _ z (aL hi) hz)
   . have hi:i<ca.length:=by have:=(aR.1 hy).1;omega
     exact ih2 i _ y (aL hi) hy (gY hn.2 (aL hi)) (by have:=fF hh.2 i y hy;omega) (a4 i _ z (aL hi) hz)
  | yield _=>grind
  | iq _ _=>grind
theorem Ry {w:World}{ρ:aO}{h:ae}(m:Mem P gl ρ h w){S T:List Nat}{v v1:AV}{hh:ae}{v':Value}{w':World}(hf:Fr hh T v v1)(hn:dV v=true)(hT:∀b l e,b∈T->hh.at b=some (.cells l e)->fP l=true)(ht:v1.top=0)(hd:fo P gl (dZ ρ S) [] w ⟨v,hh,[]⟩ v' w'):fo P gl ρ h w ⟨v1,h,[]⟩ v' w':=by
 obtain⟨ρ',hv,m',x⟩:=hd;have dc:∀c,c<w.heap.size->w'.heap[c]? = w.heap[c]? := fun c hc=>x.dc c hc fun b d hb=>by simp[Go.Ab.dZ]at hb
 have new:∀b c d,ρ' b = .live c d->w.heap.size<=c:=fun b c d hb=>by
  rcases Nat.lt_or_ge c w.heap.size with hc|hc
  . rcases x.back b c d hb hc with h1|⟨b0,d0,h1,_⟩ <;> simp[Go.Ab.dZ]at h1
  omega
 have hV:=hf.Rx m' new hT hn ht hv;have hF:∀c,dv (mL w.heap.size) c->dv ρ c:=fun c hc=>by
  have hge:w.heap.size<=c:=by
   rcases Nat.lt_or_ge c w.heap.size with h|h
   . exact absurd h hc.2
   . exact h
  exact⟨fun b d hb=>by have:=m.bound b c d hb;omega,fun hx=>by have:=m.xb c hx;omega⟩
 have E:Ext h h ρ ρ w w':=⟨x.os,x.tape,x.output,x.size,bA _,rfl,fun _ h=>h,fun _ _=>rfl,au,fun _ h=>h,au,au,au,x.shape⟩;refine⟨ρ,hV.gM (n:=0) am hF ac,m.ext E ?_ m.fresh m.inj ?_,E⟩
 . intro b o hb;exact(m.dJ b o hb).mono E rfl fun c d hl=>dc c (m.bound b c d hl)
 . intro b c d hb;exact Nat.lt_of_lt_of_le (m.bound b c d hb) x.size
theorem Rz (hs:kh P gl FT){T:List (Nat×Spec)}(hT:cY P gl (bE T)){f:Nat}{as as0:List AV}{h hh:ae}{S B:List Nat}{v v1:AV}(hr:bg (bz P FT T) f as0 [] ⟨v,hh,[]⟩)(hv:fA h S as as0)(hf:Fr hh B v v1)(hn:dV v=true)(hB:∀b l e,b∈B->hh.at b=some (.cells l e)->fP l=true)(ht:v1.top=0):bw P gl ⟨f,as,h,⟨v1,h,[]⟩⟩:=by
 have hloc:=rE hs hT hr ⟨Nat.zero_le _,fun _ hb=>au⟩;refine⟨⟨bA _,fun _ _ _=>rfl⟩,fun ρ w as' m hl=>?_⟩;obtain⟨nx,w1,h1,h2⟩:=hloc.2 (dZ ρ S) w as' (m.dZ hs.gl S) (hv.view m hl);exact⟨nx,w1,h1,h2.mono (by grind[Ry])⟩
def kK (hh:ae)(v v1:AV):Prop:=∃B,Fr hh B v v1/\dV v=true/\∀b l e,b∈B->hh.at b=some (.cells l e)->fP l=true
theorem kK.same {hh:ae}{v:AV}(ht:v.top=0)(hn:dV v=true):kK hh v v:=⟨[],.same ht,hn,am⟩
theorem kK.nil {hh:ae}:kK hh .ab (.vs [] 0 none):=⟨[],.nil am,rfl,am⟩
theorem RA (hs:kh P gl FT){T:List (Nat×Spec)}(hT:cY P gl (bE T)){f:Nat}{as as0:List AV}{h hh:ae}{S:List Nat}{v v1:AV}(hr:bg (bz P FT T) f as0 [] ⟨v,hh,[]⟩)(hv:fA h S as as0)(hf:kK hh v v1)(ht:v1.top=0):bw P gl ⟨f,as,h,⟨v1,h,[]⟩⟩:=by
 obtain⟨B,h1,h2,h3⟩:=hf;grind[Rz]
end Go.Ab
namespace Go.Ab
variable {I:aw->Prop} {s:aw}
variable {M:az}
structure LI (I:aw->Prop)(Q:Ex->aw->Prop)(e:Ex)(s:aw):Prop where
 out:match e with
  | .normal=>I s
  | e=>Q e s
theorem ek {Q:Ex->aw->Prop}(h:I s):LI I Q .normal s:=⟨h⟩
theorem bF {Q:Ex->aw->Prop}{i:Nat}(h:Q (.exit i) s):LI I Q (.exit i) s:=⟨h⟩
theorem cH {Q:Ex->aw->Prop}(h:Q .ret s):LI I Q .ret s:=⟨h⟩
theorem W.gP {c:ao}{Q:Ex->aw->Prop}(I:Nat->aw->Prop)(hs:∀m s,I m s->W M c s (LI (fun s'=>∃m',m'<m/\I m' s') Q)):∀{m:Nat} {s:aw},I m s->W M (.loop c) s Q:=by
 intro m;induction m using Nat.strongRecOn with
 | ind m ih=>
  intro s h;refine W.loop ((hs m s h).mono fun e s' he=>?_);cases e with
  | normal=>
   obtain⟨m',hm,hI⟩:=he.out;exact⟨ih m' hm hI⟩
  | exit i=>exact⟨he.out⟩
  | ret=>exact⟨he.out⟩
theorem W.jq {c:ao}{Q:Ex->aw->Prop}(n:Nat)(I:Nat->aw->Prop)(hs:∀i s,i<n->I i s->W M c s (LI (I (i+1)) Q))(he:∀s,I n s->W M c s (LI (fun _=>False) Q)){i:Nat}{s:aw}(hi:i<=n)(h:I i s):W M (.loop c) s Q:=by
 refine W.gP (fun m s=>m<=n/\I (n-m) s) (fun m s ⟨hm,h⟩=>?_) (m:=n-i) ⟨Nat.sub_le _ _,au⟩;rcases Nat.eq_zero_or_pos m with rfl|h0
 . exact(he s h).mono am
 . refine(hs (n-m) s ac h).mono fun e s' he=>⟨?_⟩
   cases e with
   | normal=>exact⟨m-1,ac,ac,by have:=he.out;grind⟩
   | exit i=>exact he.out
   | ret=>exact he.out
section
variable {α:Type} {f:α->List AV} {esz t:Nat} {x y:aS} {L:List bj} {pe:List AV} {lo:List (Nat×AV)} {hp:ae} {df wr:List Nat} {l:List α} {cap:Option Nat} {k:IntKind} {n:Int} {Q:aw->Prop}
theorem agC (hx:(St.mk pe lo hp df).ah x=some (.vs (arr f l) l.length cap))(hy:(St.mk pe lo hp df).ah y=some (.int k n))(hf:∀a,(f a).length=esz)(hn:0<=n/\n<=l.length)
 (h:WO M L ⟨⟨pe,(t,.vs (arr f (l.take n.toNat)) (l.take n.toNat).length cap)::lo,hp,df⟩,wr⟩ Q):WO M (⟨.l t,.slice .sl esz x none (some y) none,none⟩::L) ⟨⟨pe,lo,hp,df⟩,wr⟩ Q:=by
 refine abx (v:=.vs (arr f (l.take n.toNat)) (l.take n.toNat).length cap) ?_ rfl h;have hle:n.toNat<=l.length:=by omega
 have hl:(l.take n.toNat).length=n.toNat:=by rw[List.length_take];omega
 have hc:cap.map (fun x=>x)=cap:=by cases cap <;> rfl
 have h0:(0:Int)<=n/\n<=(l.length:Int):=by omega
 simp only[br,hx,St.eK,hy,bP,jW,cA,Option.isNone_none,Option.isSome_some,Bool.true_or,if_true,if_pos h0];simp only[bI,bW,Nat.sub_zero,AD hf,hl,hc]
end
theorem RC {α:Type}{f:α->List AV}{esz:Nat}{e:TypeId}{hp:ae}{c n:Nat}{cap:Option Nat}{l:List α}(hf:∀a,(f a).length=esz)(ht:∀a,bG (f a)=0)(h:hp.at c=some (.cells (arr f l) e))(hn:l.length=n):Fr hp [c] (.sl c 0 n esz cap) (.vs (arr f l) l.length none):=by
 subst hn;have:=lJ hf (l:=l) (i:=0) (n:=l.length) ac;rw[bI]at this;refine .sl am h this am (fun i x y hx hy=>?_) (.inr rfl);simp at hx;rw[hx]at hy;cases hy;exact .same (by have:=fF (n:=0) (Nat.le_of_eq (pO ht l)) i x hx;omega)
end Go.Ab
namespace Go.Ab
variable {M:az} {α:Type} {f:α->List AV} {esz:Nat} {e:TypeId} {hp H:ae} {o y:AV} {acc m:List α} {S S':List Nat}
theorem Sl.cells (_hf:∀a,(f a).length=esz)(h:Sl f hp y m):gJ hp y=some (arr f m,m.length):=by
 rcases h with ⟨rfl,rfl⟩|⟨cap,rfl⟩|⟨b,off,ez,cap,c,e,rfl,h1,h2⟩
 . rfl
 . rfl
 . simp only[gJ,h1,h2,bP]
def de (f:α->List AV)(esz:Nat)(e:TypeId)(hp:ae)(o:AV)(acc:List α)(S:List Nat):Prop:=
 (acc=[]/\o = .ab)\/∃c cap,c∉S/\o = .sl c 0 acc.length esz cap/\hp.at c=some (.cells (arr f acc) e)/\(cap=none\/acc=[]/\cap=some 0)
theorem de.pU:de f esz e hp .ab ([]:List α) S:=.inl ⟨rfl,rfl⟩
theorem de.sl (hf:∀a,(f a).length=esz)(h:de f esz e hp o acc S):Sl f hp o acc:=by
 rcases h with ⟨rfl,rfl⟩|⟨c,cap,_,rfl,h1,_⟩
 . exact .pU
 . exact .kJ hf h1 rfl
def uZ (o:AV):List Nat:=lK (some o)
theorem de.fh (h:de f esz e hp o acc S)(hk:∀b x,b∈uZ o->hp.at b=some x->H.at b=some x)(hs:∀b,b∈uZ o->b∉S->b∉S'):de f esz e H o acc S':=by
 rcases h with h|⟨c,cap,h0,rfl,h1,h2⟩
 . exact .inl h
 . exact .inr ⟨c,cap,hs c (by simp[uZ,lK]) h0,rfl,hk _ _ (by simp[uZ,lK]) h1,h2⟩
theorem de.grow (h:de f esz e hp o acc S)(J:ae):de f esz e (hp++J) o acc S:=h.fh (by grind[cW]) am
theorem de.app {bytes t:Nat}{l:List bj}{pe:List AV}{lo:List (Nat×AV)}{df wr:List Nat}{a b:aS}{Q:aw->Prop}(hf:∀a,(f a).length=esz)(h1:∀a,(f a).all db=true)(hb0:0<bytes)
 (h:de f esz e hp o acc S) (hS:∀x∈S,x<hp.length) (ha:(St.mk pe lo hp df).ah a=some o) (hb:(St.mk pe lo hp df).ah b=some y) (hy:Sl f hp y m)
 (hn:(acc.length+m.length)*bytes<=fl) (hQ:∀(H:ae) (w':List Nat) o',de f esz e H o' (acc++m) S->(∀x v,x∈S->hp.at x=some v->H.at x=some v)->hp.length<=H.length->WO M l ⟨⟨pe,(t,o')::lo,H,df⟩,w'⟩ Q):WO M (⟨.l t,.append e esz bytes a b,none⟩::l) ⟨⟨pe,lo,hp,df⟩,wr⟩ Q:=by
 have hs:=hy.cells hf;have hone:(arr f m).all db=true:=Hy h1 m;have hcond:(arr f m).length=m.length*esz/\0<bytes/\(arr f m).all db=true:=⟨pP hf m,hb0,hone⟩;by_cases hm:m=[]
 . subst hm;rw[List.append_nil]at hQ;refine acH (v:=o) (h':=hp) (w':=[]) ?_ rfl rfl (hQ hp _ o h am (bA _));simp only[cg,ha,hb,lf,hs,if_pos hcond];rcases h with ⟨_,rfl⟩|⟨c,cap,_,rfl,_,_⟩ <;> simp
 . have hp0:m.length≠0:=au;rcases h with ⟨rfl,rfl⟩|⟨c,cap,hc,rfl,hat,hcap⟩
   . refine acH (v:=.sl hp.length 0 m.length esz none) (h':=hp++[some (.cells (arr f m) e)]) (w':=[]) ?_ rfl rfl (hQ _ _ _ (.inr ⟨hp.length,none,fun h=>by grind,am,cC,.inl rfl⟩) (by grind[cW]) am);simp only[cg,ha,hb,lf,hs,if_pos hcond,if_neg hp0]<;>grind
   . rcases hcap with rfl|⟨rfl,rfl⟩
     . refine acH (v:=.sl hp.length 0 (acc.length+m.length) esz none) (h':=hp.put c none++[some (.cells (arr f acc++arr f m) e)]) (w':=[c]) ?_ rfl rfl (hQ _ _ _ (.inr ⟨hp.length,none,fun h=>by grind,am,?_,.inl rfl⟩) (by grind[cW,AE]) (by simp[nT]))
       . simp only[cg,ha,hb,lf,hs,if_pos hcond,if_neg hp0,hat];rw[if_pos ⟨trivial,hn⟩,if_pos ⟨by grind[pP],trivial⟩,bW]
       grind[nT,cC,QY]
     . refine acH (v:=.sl hp.length 0 m.length esz none) (h':=hp++[some (.cells (arr f m) e)]) (w':=[]) ?_ rfl rfl (hQ _ _ _ (.inr ⟨hp.length,none,fun h=>by grind,am,by rw[List.nil_append];exact cC,.inl rfl⟩) (by grind[cW]) am);simp only[cg,ha,hb,lf,hs,if_pos hcond,if_neg hp0,hat,List.length_nil,Nat.zero_add,bI];rw[if_pos ⟨trivial,au⟩,if_neg ac];rfl
theorem de.RD (hf:∀a,(f a).length=esz)(ht:∀a,bG (f a)=0)(hn:∀a,fP (f a)=true)(h:de f esz e hp o acc S):kK (if (aT [o]).top<=0 then [] else hp) o (.vs (arr f acc) acc.length none):=by
 rcases h with ⟨rfl,rfl⟩|⟨c,cap,_,rfl,h4,_⟩
 . exact .nil
 . rw[if_neg (by simp[aT,AV.top])];refine⟨[c],RC hf ht h4 rfl,rfl,fun b l e' hb hl=>?_⟩;grind[pN]
end Go.Ab
namespace Go.Ab
variable {M:az}
theorem de.one {α:Type}{f:α->List AV}{esz:Nat}{e:TypeId}{hp:ae}{o:AV}{acc:List α}{S:List Nat}(h:de f esz e hp o acc S):AV.cells o=some [o]/\db o=true:=by
 rcases h with ⟨_,rfl⟩|⟨c,cap,_,rfl,_,_⟩ <;> exact⟨rfl,rfl⟩
end Go.Ab
namespace Go.Ab
variable {M:az}
end Go.Ab
namespace Go.Ab
variable {h:ae} {l m m':List AV} {a x:AV}
variable {M:az} {P:Program} {gl:Nat->Option AV}
theorem bg.HG {f:FuncId}{as:List AV}{r r':HR}(h1:bg M f as h r)(h2:bg M f as h r'):r=r':=by
 obtain⟨n,hn⟩:=h1;obtain⟨m,hm⟩:=h2;have a1:=uN (uO (Nat.le_max_left n m)) hn;have a2:=uN (uO (Nat.le_max_right n m)) hm;grind
mutual
def cN:AV->AV
 | .ab=>.vs [] 0 none
 | .vs l n _=>.vs (fe l) n none
 | .vp l=>.vp (fe l)
 | .agg l=>.agg (fe l)
 | .ay l=>.ay (fe l)
 | .fn f a b=>.fn f (fe a) (fe b)
 | .iface t v=>.iface t (cN v)
 | v=>v
def fe:List AV->List AV
 | []=>[]
 | v::r=>cN v::fe r
end
theorem jK:∀{l m:List AV},l.length=m.length->(∀(i:Nat) x y,l[i]? = some x->m[i]? = some y->cN x=cN y)->fe l=fe m
 | [],[],_,_=>rfl
 | x::l,y::m,hl,h=>by
  rw[fe,fe,h 0 x y rfl rfl,jK au fun i a b ha hb=>h (i+1) a b ha hb]
theorem nX (h1:l.length=m.length)(h2:l.length=m'.length)(h:∀(i:Nat) a x y,l[i]? = some a->m[i]? = some x->m'[i]? = some y->cN x=cN y):fe m=fe m':=
 jK ac fun i x y hx hy=>by
  grind
theorem HH (hl:l.length=m.length)(h:∀(i:Nat) x y,l[i]? = some x->m[i]? = some y->x=y):l=m:=
 List.ext_getElem hl fun i h1 h2=>h i _ _ (aL h1) (aL h2)
theorem AO (h1:l.length=m.length)(h2:l.length=m'.length)(h:∀(i:Nat) a x y,l[i]? = some a->m[i]? = some x->m'[i]? = some y->x=y):m=m':=
 HH ac fun i x y hx hy=>by
  grind
theorem HI:∀(l m:List AV),fe (l++m)=fe l++fe m
 | [],m=>rfl
 | x::l,m=>by rw[bN,fe,fe,HI l m];rfl
theorem AP {α:Type}{f:α->List AV}(hf:∀a,fe (f a)=f a):∀l,fe (arr f l)=arr f l
 | []=>rfl
 | a::l=>by rw[mH,HI,hf,AP hf l]
theorem dg (h:bG l=0){i:Nat}{x:AV}(hx:l[i]? = some x):x.top=0:=by
 have:=fF (n:=0) ac i x hx;omega
theorem Fr.kj {S:List Nat}(hr:Fr h S a x):a.top=0->cN a=cN x:=by
 induction hr with
 | same ht=>simp
 | nil hc=>exact fun _=>by rfl
 | sl=>intro ht;simp[AV.top]at ht
 | ptr=>intro ht;simp[AV.top]at ht
 | vs hl hg ih=>intro ht;rw[cN,cN,jK hl fun i x y hx hy=>ih i x y hx hy (dg ht hx)]
 | agg hl hg ih=>intro ht;rw[cN,cN,jK hl fun i x y hx hy=>ih i x y hx hy (dg ht hx)]
 | ay hl hg ih=>intro ht;rw[cN,cN,jK hl fun i x y hx hy=>ih i x y hx hy (dg ht hx)]
 | fn hf h1 h2 g1 g2 i1 i2=>
  intro ht;simp only[AV.top]at ht;rw[cN,cN,jK h1 (by grind[dg]),jK h2 (by grind[dg])]
theorem Fr.can {S:List Nat}(hr:Fr h S a x):x.top=0->∀{S':List Nat} {y:AV},Fr h S' a y->y.top=0->cN x=cN y:=by
 induction hr with
 | same ht=>exact fun _ S' y hy _=>hy.kj ht
 | nil hc=>exact fun _ S' y hy _=>by cases hy <;> simp[cN,fe]
 | sl hb ha hc hl hg hcc ih=>
  intro hx S' y hy hyt;cases hy with
  | same ht=>simp[AV.top]at ht
  | sl hb' ha' hc' hl' hg' hcc'=>
   rw[ha]at ha';cases ha';rw[hc]at hc';cases hc';rw[cN,cN,nX hl hl' fun i a x y h1 h2 h3=>ih i a x h1 h2 (dg hx h2) (hg' i a y h1 h3) (dg hyt h3)]
 | ptr hb ha hl hg ih=>
  intro hx S' y hy hyt;cases hy with
  | same ht=>simp[AV.top]at ht
  | ptr hb' ha' hl' hg'=>
   rw[ha]at ha';cases ha';rw[cN,cN,nX hl hl' fun i a x y h1 h2 h3=>ih i a x h1 h2 (dg hx h2) (hg' i a y h1 h3) (dg hyt h3)]
 | vs hl hg ih=>
  intro hx S' y hy hyt;cases hy with
  | same ht=>rw[cN,cN,jK hl.symm fun i x y hx' hy'=>((hg i y x hy' hx').kj (dg ht hy')).symm]
  | vs hl' hg'=>rw[cN,cN,nX hl hl' fun i a x y h1 h2 h3=>ih i a x h1 h2 (dg hx h2) (hg' i a y h1 h3) (dg hyt h3)]
 | agg hl hg ih=>
  intro hx S' y hy hyt;cases hy with
  | same ht=>rw[cN,cN,jK hl.symm fun i x y hx' hy'=>((hg i y x hy' hx').kj (dg ht hy')).symm]
  | agg hl' hg'=>rw[cN,cN,nX hl hl' fun i a x y h1 h2 h3=>ih i a x h1 h2 (dg hx h2) (hg' i a y h1 h3) (dg hyt h3)]
 | ay hl hg ih=>
  intro hx S' y hy hyt;cases hy with
  | same ht=>rw[cN,cN,jK hl.symm fun i x y hx' hy'=>((hg i y x hy' hx').kj (dg ht hy')).symm]
  | ay hl' hg'=>rw[cN,cN,nX hl hl' fun i a x y h1 h2 h3=>ih i a x h1 h2 (dg hx h2) (hg' i a y h1 h3) (dg hyt h3)]
 | fn hf h1 h2 g1 g2 i1 i2=>
  intro hx S' y hy hyt;simp only[AV.top]at hx;cases hy with
  | same ht=>
   simp only[AV.top]at ht;rw[cN,cN,jK h1.symm fun i x y hx' hy'=>((g1 i y x hy' hx').kj (dg ac hy')).symm,jK h2.symm fun i x y hx' hy'=>((g2 i y x hy' hx').kj (dg ac hy')).symm]
  | fn hf' h1' h2' g1' g2'=>
   simp only[AV.top]at hyt;rw[cN,cN,nX h1 h1' (by grind[dg,dg]),
     nX h2 h2' (by grind[dg,dg])]
def rK:AV->Bool
 | .int _ _=>true
 | .bool _=>true
 | .str _=>true
 | .fn f [] []=>match f with | .yield _=>false|_=>true
 | _=>false
inductive dx (h:ae):AV->AV->Prop
 | atom {a:AV} (ha:rK a=true):dx h a a
 | nil:dx h .ab (.vs [] 0 none)
 | sl {b off len esz:Nat} {cap:Option Nat} {l m m0:List AV} {e:TypeId} (ha:h.at b=some (.cells l e)) (hc:cut l off (len*esz)=some m) (hl:m.length=m0.length)
     (hg:∀(i:Nat) x y,m[i]? = some x->m0[i]? = some y->dx h x y):dx h (.sl b off len esz cap) (.vs m0 len none)
 | vs {l l0:List AV} {n:Nat} {cap:Option Nat} (hl:l.length=l0.length) (hg:∀(i:Nat) x y,l[i]? = some x->l0[i]? = some y->dx h x y):dx h (.vs l n cap) (.vs l0 n cap)
 | agg {l l0:List AV} (hl:l.length=l0.length) (hg:∀(i:Nat) x y,l[i]? = some x->l0[i]? = some y->dx h x y):dx h (.agg l) (.agg l0)
def gC (h:ae)(l l0:List AV):Prop:=l.length=l0.length/\∀(i:Nat) x y,l[i]? = some x->l0[i]? = some y->dx h x y
theorem gC.nil:gC h [] []:=⟨rfl,am⟩
theorem gC.cons {y:AV}(h1:dx h x y)(h2:gC h l m):gC h (x::l) (y::m):=by
 refine⟨by simp[h2.1],fun i a b ha hb=>?_⟩;cases i with
 | zero=>grind
 | succ i=>simp at ha hb;exact h2.2 i a b ha hb
theorem RE (h:rK a=true):a.top=0:=by
 cases a with
 | fn f fi ca=>
  cases fi <;> cases ca <;> first|(simp[rK]at h;done)|skip
  cases f <;> first|rfl|cases h
 | _=>first|rfl|cases h
theorem dx.fr (hr:dx h a x):Fr h (b6 h.length) a x:=by
 induction hr with
 | atom ha=>exact .same (RE ha)
 | nil=>exact .nil am
 | sl ha hc hl hg ih=>exact .sl (by grind[gZ]) ha hc hl ih (.inr rfl)
 | vs hl hg ih=>exact .vs hl ih
 | agg hl hg ih=>exact .agg hl ih
theorem gC.fr {l0:List AV}(hr:gC h l l0):fA h (b6 h.length) l l0:=⟨hr.1,fun i x y hx hy=>(hr.2 i x y hx hy).fr⟩
theorem dx.uniq (hr:dx h a x):∀{y:AV},dx h a y->x=y:=by
 induction hr with
 | atom ha=>intro y hy;cases hy <;> first|rfl|cases ha
 | nil=>intro y hy;cases hy with
   | atom ha=>cases ha
   | nil=>rfl
 | sl ha hc hl hg ih=>
  intro y hy;cases hy with
  | atom ha=>cases ha
  | sl ha' hc' hl' hg'=>
   grind[AO]
 | vs hl hg ih=>
  intro y hy;cases hy with
  | atom ha=>cases ha
  | vs hl' hg'=>grind[AO]
 | agg hl hg ih=>
  intro y hy;cases hy with
  | atom ha=>cases ha
  | agg hl' hg'=>grind[AO]
theorem gC.uniq (h1:gC h l m)(h2:gC h l m'):m=m':=
 HH (h1.1.symm.trans h2.1) fun i x y hx hy=>by
  have hi:i<l.length:=by rw[h1.1];exact(aR.1 hx).1
  exact(h1.2 i l[i] x (aL hi) hx).uniq (h2.2 i l[i] y (aL hi) hy)
theorem gC.app:∀{l m l' m':List AV},gC h l m->gC h l' m'->gC h (l++l') (m++m')
 | [],[],_,_,_,h2=>h2
 | x::l,y::m,l',m',h1,h2=>.cons (h1.2 0 x y rfl rfl) (gC.app ⟨by simpa using h1.1,fun i a b ha hb=>h1.2 (i+1) a b ha hb⟩ h2)
 | [],y::m,_,_,h1,_=>by have:=h1.1;grind
 | x::l,[],_,_,h1,_=>by have:=h1.1;grind
abbrev rL (h:ae)(l:List AV):Prop:=gC h l l
theorem vd {α:Type}{f:α->List AV}{h:ae}(hf:∀a,rL h (f a)):∀l,rL h (arr f l)
 | []=>.nil
 | a::l=>by rw[mH];exact(hf a).app (vd hf l)
theorem dx.pW {n:Nat}{cap:Option Nat}(hl:rL h l):dx h (.vs l n cap) (.vs l n cap):=.vs rfl hl.2
theorem enter:(∀(f:Nat -> AV) a l,(a::l).map f=f a::l.map f) /\ (∀f:Nat -> AV,[].map f=[]) /\ (∀(a:AV) (l:List AV),(a::l)[0]? = some a) /\ (∀(a:AV) (l:List AV) (n:Nat),(a::l)[n+1]? = l[n]?) /\ (∀n:Nat,([]:List AV)[n]? = none) /\ (∀a b:AV,(some a).getD b=a) /\ ∀b:AV,none.getD b=b:=
  ⟨fun _ _ _=>rfl,fun _=>rfl,fun _ _=>rfl,fun _ _ _=>rfl,fun _=>rfl,fun _ _=>rfl,fun _=>rfl⟩
end Go.Ab
namespace Go.Ab
variable {l as:List AV} {h:ae} {x:AV} {FT:FuncId->Option dh}
variable {M:az} {P:Program} {gl:Nat->Option AV}
mutual
def bR:AV->AV
 | .vs l n _=>.vs (da l) n none
 | .vp l=>.vp (da l)
 | .agg l=>.agg (da l)
 | .ay l=>.ay (da l)
 | .fn f a b=>.fn f (da a) (da b)
 | .iface t v=>.iface t (bR v)
 | v=>v
def da:List AV->List AV
 | []=>[]
 | v::r=>bR v::da r
end
theorem mM:∀{l m:List AV},l.length=m.length->(∀(i:Nat) x y,l[i]? = some x->m[i]? = some y->bR x=bR y)->da l=da m
 | [],[],_,_=>rfl
 | x::l,y::m,hl,h=>by
  rw[da,da,h 0 x y rfl rfl,mM au fun i a b ha hb=>h (i+1) a b ha hb]
theorem ve {m m':List AV}(h1:l.length=m.length)(h2:l.length=m'.length)(h:∀(i:Nat) a x y,l[i]? = some a->m[i]? = some x->m'[i]? = some y->bR x=bR y):da m=da m':=
 mM ac fun i x y hx hy=>by
  grind
theorem HJ:∀(l m:List AV),da (l++m)=da l++da m
 | [],m=>rfl
 | x::l,m=>by rw[bN,da,da,HJ l m];rfl
theorem AQ {α:Type}{f:α->List AV}(hf:∀a,da (f a)=f a):∀l,da (arr f l)=arr f l
 | []=>rfl
 | a::l=>by rw[mH,HJ,hf,AQ hf l]
inductive fG (h:ae):AV->AV->Prop
 | same {v:AV} (ht:v.top=0):fG h v v
 | sl {b off len esz:Nat} {cap:Option Nat} {l m m0:List AV} {e:TypeId} (ha:h.at b=some (.cells l e)) (hc:cut l off (len*esz)=some m) (hl:m.length=m0.length)
     (hg:∀(i:Nat) x y,m[i]? = some x->m0[i]? = some y->fG h x y):fG h (.sl b off len esz cap) (.vs m0 len none)
 | vs {l l0:List AV} {n:Nat} {cap:Option Nat} (hl:l.length=l0.length) (hg:∀(i:Nat) x y,l[i]? = some x->l0[i]? = some y->fG h x y):fG h (.vs l n cap) (.vs l0 n cap)
 | agg {l l0:List AV} (hl:l.length=l0.length) (hg:∀(i:Nat) x y,l[i]? = some x->l0[i]? = some y->fG h x y):fG h (.agg l) (.agg l0)
 | ay {l l0:List AV} (hl:l.length=l0.length) (hg:∀(i:Nat) x y,l[i]? = some x->l0[i]? = some y->fG h x y):fG h (.ay l) (.ay l0)
theorem fG.fr {a:AV}(hr:fG h a x):Fr h (b6 h.length) a x:=by
 induction hr with
 | same ht=>exact .same ht
 | sl ha hc hl hg ih=>exact .sl (by grind[gZ]) ha hc hl ih (.inr rfl)
 | vs hl hg ih=>exact .vs hl ih
 | agg hl hg ih=>exact .agg hl ih
 | ay hl hg ih=>exact .ay hl ih
theorem fG.kj {a:AV}(hr:fG h a x):a.top=0->bR a=bR x:=by
 induction hr with
 | same ht=>simp
 | sl=>intro ht;simp[AV.top]at ht
 | vs hl hg ih=>intro ht;rw[bR,bR,mM hl fun i x y hx hy=>ih i x y hx hy (dg ht hx)]
 | agg hl hg ih=>intro ht;rw[bR,bR,mM hl fun i x y hx hy=>ih i x y hx hy (dg ht hx)]
 | ay hl hg ih=>intro ht;rw[bR,bR,mM hl fun i x y hx hy=>ih i x y hx hy (dg ht hx)]
theorem fG.can {a:AV}(hr:fG h a x):x.top=0->∀{y:AV},fG h a y->y.top=0->bR x=bR y:=by
 induction hr with
 | same ht=>exact fun _ y hy _=>hy.kj ht
 | sl ha hc hl hg ih=>
  intro hx y hy hyt;cases hy with
  | same ht=>simp[AV.top]at ht
  | sl ha' hc' hl' hg'=>
   rw[ha]at ha';cases ha';rw[hc]at hc';cases hc';rw[bR,bR,ve hl hl' fun i a x y h1 h2 h3=>ih i a x h1 h2 (dg hx h2) au (dg hyt h3)]
 | vs hl hg ih=>
  intro hx y hy hyt;cases hy with
  | same ht=>rw[bR,bR,mM hl.symm fun i x y hx' hy'=>((hg i y x hy' hx').kj (dg ht hy')).symm]
  | vs hl' hg'=>rw[bR,bR,ve hl hl' fun i a x y h1 h2 h3=>ih i a x h1 h2 (dg hx h2) au (dg hyt h3)]
 | agg hl hg ih=>
  intro hx y hy hyt;cases hy with
  | same ht=>rw[bR,bR,mM hl.symm fun i x y hx' hy'=>((hg i y x hy' hx').kj (dg ht hy')).symm]
  | agg hl' hg'=>rw[bR,bR,ve hl hl' fun i a x y h1 h2 h3=>ih i a x h1 h2 (dg hx h2) au (dg hyt h3)]
 | ay hl hg ih=>
  intro hx y hy hyt;cases hy with
  | same ht=>rw[bR,bR,mM hl.symm fun i x y hx' hy'=>((hg i y x hy' hx').kj (dg ht hy')).symm]
  | ay hl' hg'=>rw[bR,bR,ve hl hl' fun i a x y h1 h2 h3=>ih i a x h1 h2 (dg hx h2) au (dg hyt h3)]
theorem pY {i:Nat}(h:(fe l)[i]? = some x):∃y,l[i]? = some y/\x=cN y:=by
 induction l generalizing i with
 | nil=>simp[fe]at h
 | cons a l ih=>
  rw[fe]at h;grind
theorem nY:∀l:List AV,(fe l).length=l.length
 | []=>rfl
 | a::l=>by rw[fe,ba,ba,nY l]
theorem pZ {i:Nat}(h:(da l)[i]? = some x):∃y,l[i]? = some y/\x=bR y:=by
 induction l generalizing i with
 | nil=>simp[da]at h
 | cons a l ih=>
  rw[da]at h;grind
theorem nZ:∀l:List AV,(da l).length=l.length
 | []=>rfl
 | a::l=>by rw[da,ba,ba,nZ l]
section
variable {ρ:aO} {w:World} {a:AV} {v:Value}
theorem V.bR (hv:V ρ w a v):V ρ w (bR a) v:=by
 induction hv with
 | dI v=>exact .dI v
 | bool b=>exact .bool b
 | int k n=>exact .int k n
 | str s=>exact .str s
 | ff=>exact .ff
 | ptr o h=>exact .ptr o h
 | fj o c o' h=>exact .fj o c o' h
 | vp c o g hf hc hg ih=>
  exact .vp c o g (fun h=>hf fun e=>h (by rw[e];rfl)) (by grind[nZ]) (by grind[pZ])
 | ab=>exact .ab
 | sl h hl hcap hb=>exact .sl h hl hcap hb
 | gn h=>exact .gn h
 | fE c o' h hl hcap=>exact .fE c o' h hl hcap
 | fS h=>exact .fS h
 | gp a h=>exact .gp a h
 | vs c o g hf hl hcap hc hg ih=>
  exact .vs c o g (fun h=>hf fun e=>h (by rw[e];rfl)) hl am (by grind[nZ]) (by grind[pZ])
 | fm hcap=>exact .fm am
 | fT a hcap=>exact .fT a am
 | dT=>exact .dT
 | map h=>exact .map h
 | iH c h=>exact .iH c h
 | yield h=>exact .yield h
 | fn hf h1 h2 g1 g2 i1 i2=>
  exact .fn hf (by grind[nZ]) (by grind[nZ]) (by grind[pZ]) (by grind[pZ])
 | iq c h=>exact .iq c h
 | eZ=>exact .eZ
 | iface h ih=>exact .iface ih
 | eh=>exact .eh
 | agg h g ih=>
  exact .agg (by grind[nZ]) (by grind[pZ])
 | ay h g ih=>
  exact .ay (by grind[nZ]) (by grind[pZ])
theorem V.cN (hv:V ρ w a v):V ρ w (cN a) v:=by
 induction hv with
 | dI v=>exact .dI v
 | bool b=>exact .bool b
 | int k n=>exact .int k n
 | str s=>exact .str s
 | ff=>exact .ff
 | ptr o h=>exact .ptr o h
 | fj o c o' h=>exact .fj o c o' h
 | vp c o g hf hc hg ih=>
  exact .vp c o g (fun h=>hf fun e=>h (by rw[e];rfl)) (by grind[nY]) (by grind[pY])
 | ab=>exact .fm am
 | sl h hl hcap hb=>exact .sl h hl hcap hb
 | gn h=>exact .gn h
 | fE c o' h hl hcap=>exact .fE c o' h hl hcap
 | fS h=>exact .fS h
 | gp a h=>exact .gp a h
 | vs c o g hf hl hcap hc hg ih=>
  exact .vs c o g (fun h=>hf fun e=>h (by rw[e];rfl)) hl am (by grind[nY]) (by grind[pY])
 | fm hcap=>exact .fm am
 | fT a hcap=>exact .fT a am
 | dT=>exact .dT
 | map h=>exact .map h
 | iH c h=>exact .iH c h
 | yield h=>exact .yield h
 | fn hf h1 h2 g1 g2 i1 i2=>
  exact .fn hf (by grind[nY]) (by grind[nY]) (by grind[pY]) (by grind[pY])
 | iq c h=>exact .iq c h
 | eZ=>exact .eZ
 | iface h ih=>exact .iface ih
 | eh=>exact .eh
 | agg h g ih=>
  exact .agg (by grind[nY]) (by grind[pY])
 | ay h g ih=>
  exact .ay (by grind[nY]) (by grind[pY])
end
theorem HK {f:Nat}{h':ae}{v v':AV}{wr:List Nat}(hv:∀ρ w x,V ρ w v x->V ρ w v' x)(he:bw P gl ⟨f,as,h,⟨v,h',wr⟩⟩):bw P gl ⟨f,as,h,⟨v',h',wr⟩⟩:=by
 refine⟨he.1,fun ρ w as' m ha=>?_⟩;obtain⟨nx,w1,g1,g2⟩:=he.2 ρ w as' m ha;refine⟨nx,w1,g1,g2.mono fun x w' hd=>?_⟩;obtain⟨ρ',h1,h2,h3⟩:=hd;exact⟨ρ',hv _ _ _ h1,h2,h3⟩
def HL (P:Program)(FT:FuncId->Option dh)(T:List (Nat×Spec))(g:Nat)(as0:List AV)(v0:AV):Prop:=∃v hh v1,bg (bz P FT T) g as0 [] ⟨v,hh,[]⟩/\kK hh v v1/\v1.top=0/\cN v1=v0
def RF (P:Program)(FT:FuncId->Option dh)(T:List (Nat×Spec))(g:Nat)(as:List AV)(h:ae)(r:HR):Prop:=∃as0 v0,gC h as as0/\HL P FT T g as0 v0/\r=⟨v0,h,[]⟩
noncomputable def rM (P:Program)(FT:FuncId->Option dh)(T:List (Nat×Spec))(g:Nat):Spec:=pT (RF P FT T g)
theorem RG (hs:kh P gl FT){T:List (Nat×Spec)}(hT:cY P gl (bE T)){g:Nat}:aZ P gl g (rM P FT T g):=HA fun as h r ⟨as0,v0,hf,⟨v,hh,v1,hr,hn,ht,hc⟩,e⟩=>by
 subst e;subst hc;exact HK (fun _ _ _ h=>h.cN) (RA hs hT hr hf.fr hn ht)
theorem mN {T:List (Nat×Spec)}{g:Nat}{as0:List AV}{v0:AV}(hf:gC h as as0)(hr:HL P FT T g as0 v0):rM P FT T g as h=some ⟨v0,h,[]⟩:=
 HB ⟨as0,v0,hf,hr,rfl⟩ fun r' ⟨as0',v0',hf',hr',e⟩=>by
  cases hf.uniq hf';obtain⟨v,hh,v1,r1,⟨B,f1,_⟩,t1,c1⟩:=hr;obtain⟨v',hh',v1',r2,⟨B',f2,_⟩,t2,c2⟩:=hr';cases r1.HG r2;rw[e,←c1,←c2,f1.can t1 f2 t2]
def AR (P:Program)(FT:FuncId->Option dh)(T:List (Nat×Spec))(g:Nat)(as:List AV)(v0:AV):Prop:=∃v hh v1,bg (bz P FT T) g as [] ⟨v,hh,[]⟩/\fG hh v v1/\bG as=0/\v1.top=0/\bR v1=v0
def RH (P:Program)(FT:FuncId->Option dh)(T:List (Nat×Spec))(g:Nat)(as:List AV)(h:ae)(r:HR):Prop:=∃v0,AR P FT T g as v0/\r=⟨v0,h,[]⟩
noncomputable def qc (P:Program)(FT:FuncId->Option dh)(T:List (Nat×Spec))(g:Nat):Spec:=pT (RH P FT T g)
theorem RI (hs:kh P gl FT){T:List (Nat×Spec)}(hT:cY P gl (bE T)){g:Nat}:aZ P gl g (qc P FT T g):=HA fun as h r ⟨v0,⟨v,hh,v1,hr,hf,ha,ht,hc⟩,e⟩=>by
 subst e;subst hc;exact HK (fun _ _ _ h=>h.bR) (Rw hs hT hr ha hf.fr ht)
theorem rN {T:List (Nat×Spec)}{g:Nat}{v0:AV}(hr:AR P FT T g as v0):qc P FT T g as h=some ⟨v0,h,[]⟩:=
 HB ⟨v0,hr,rfl⟩ fun r' ⟨v0',hr',e⟩=>by
  obtain⟨v,hh,v1,r1,f1,_,t1,c1⟩:=hr;obtain⟨v',hh',v1',r2,f2,_,t2,c2⟩:=hr';cases r1.HG r2;rw[e,←c1,←c2,f1.can t1 f2 t2]
end Go.Ab
namespace Go.Ab
variable {M:az} {P:Program} {gl:Nat->Option AV}
theorem cE {FT:FuncId->Option dh}{T:List (Nat×Spec)}{g:Nat}{as:List AV}{v:AV}(hr:bg (bz P FT T) g as [] ⟨v,[],[]⟩)(ha:bG as=0)(ht:v.top=0)(hc:bR v=v)(h:ae):qc P FT T g as h=some ⟨v,h,[]⟩:=
 rN ⟨v,[],v,hr,.same ht,ha,ht,hc⟩
theorem qe {FT:FuncId->Option dh}{T:List (Nat×Spec)}{g:Nat}{as as0:List AV}{v:AV}(hr:bg (bz P FT T) g as0 [] ⟨v,[],[]⟩)(ht:v.top=0)(hn:dV v=true)(hc:cN v=v){h:ae}(hf:gC h as as0):rM P FT T g as h=some ⟨v,h,[]⟩:=
 mN hf ⟨v,[],v,hr,.same ht hn,ht,hc⟩
end Go.Ab
namespace Go.Ab
variable {n:Nat}
variable {M:az} {t:Nat} {x y:aS} {l:List bj} {pe:List AV} {lo:List (Nat×AV)} {hp:ae} {df wr:List Nat} {k:IntKind} {a b:Int} {Q:aw->Prop}
theorem rO (a:Int):IntKind.u64.wrap a=a%18446744073709551616:=by
 rfl
theorem qf {a:Int}(h:0<=a/\a<18446744073709551616):IntKind.u64.wrap a=a:=by rw[rO];omega
theorem agd (hx:(St.mk pe lo hp df).ah x=some (.int .u64 a))(hy:(St.mk pe lo hp df).ah y=some (.int .u64 b))
 (h:WO M l ⟨⟨pe,(t,.int .u64 ((a+b)%18446744073709551616))::lo,hp,df⟩,wr⟩ Q):WO M (⟨.l t,.bin .add x y,none⟩::l) ⟨⟨pe,lo,hp,df⟩,wr⟩ Q:=
 abx (v:=.int .u64 ((a+b)%18446744073709551616)) (by simp[br,hx,hy,dO,rO]) rfl h
theorem afF (hx:(St.mk pe lo hp df).ah x=some (.int .u64 a))(hy:(St.mk pe lo hp df).ah y=some (.int .u64 b))(hr:0<=a+b/\a+b<18446744073709551616)
 (h:WO M l ⟨⟨pe,(t,.int .u64 (a+b))::lo,hp,df⟩,wr⟩ Q):WO M (⟨.l t,.bin .add x y,none⟩::l) ⟨⟨pe,lo,hp,df⟩,wr⟩ Q:=
 abx (v:=.int .u64 (a+b)) (by simp[br,hx,hy,dO,qf hr]) rfl h
theorem agv (hx:(St.mk pe lo hp df).ah x=some (.int .u64 a))(hy:(St.mk pe lo hp df).ah y=some (.int .u64 b))
 (h:WO M l ⟨⟨pe,(t,.int .u64 ((a-b)%18446744073709551616))::lo,hp,df⟩,wr⟩ Q):WO M (⟨.l t,.bin .sub x y,none⟩::l) ⟨⟨pe,lo,hp,df⟩,wr⟩ Q:=
 abx (v:=.int .u64 ((a-b)%18446744073709551616)) (by simp[br,hx,hy,dO,rO]) rfl h
theorem afI (hx:(St.mk pe lo hp df).ah x=some (.int .u64 a))(hy:(St.mk pe lo hp df).ah y=some (.int .u64 b))(hr:0<=a-b/\a-b<18446744073709551616)
 (h:WO M l ⟨⟨pe,(t,.int .u64 (a-b))::lo,hp,df⟩,wr⟩ Q):WO M (⟨.l t,.bin .sub x y,none⟩::l) ⟨⟨pe,lo,hp,df⟩,wr⟩ Q:=
 abx (v:=.int .u64 (a-b)) (by simp[br,hx,hy,dO,qf hr]) rfl h
theorem age (hx:(St.mk pe lo hp df).ah x=some (.int .u64 a))(hy:(St.mk pe lo hp df).ah y=some (.int .u64 b))
 (h:WO M l ⟨⟨pe,(t,.int .u64 ((a*b)%18446744073709551616))::lo,hp,df⟩,wr⟩ Q):WO M (⟨.l t,.bin .mul x y,none⟩::l) ⟨⟨pe,lo,hp,df⟩,wr⟩ Q:=
 abx (v:=.int .u64 ((a*b)%18446744073709551616)) (by simp[br,hx,hy,dO,rO]) rfl h
theorem afC (hx:(St.mk pe lo hp df).ah x=some (.int .u64 a))(hy:(St.mk pe lo hp df).ah y=some (.int .u64 b))(hr:0<=a*b/\a*b<18446744073709551616)
 (h:WO M l ⟨⟨pe,(t,.int .u64 (a*b))::lo,hp,df⟩,wr⟩ Q):WO M (⟨.l t,.bin .mul x y,none⟩::l) ⟨⟨pe,lo,hp,df⟩,wr⟩ Q:=
 abx (v:=.int .u64 (a*b)) (by simp[br,hx,hy,dO,qf hr]) rfl h
theorem agf (hx:(St.mk pe lo hp df).ah x=some (.int .u64 a))(hy:(St.mk pe lo hp df).ah y=some (.int .u64 b))(ha:0<=a/\a<18446744073709551616)(hb:0<b)
 (h:WO M l ⟨⟨pe,(t,.int .u64 (a/b))::lo,hp,df⟩,wr⟩ Q):WO M (⟨.l t,.bin .quo x y,none⟩::l) ⟨⟨pe,lo,hp,df⟩,wr⟩ Q:=by
 refine abx (v:=.int .u64 (a/b)) ?_ rfl h;have h1:0<=a/b:=Int.ediv_nonneg ha.1 ac;have h2:a/b<=a:=Int.ediv_le_self _ ha.1;have h3:¬b=0:=by omega
 simp only[br,hx,hy,dO,if_true,if_neg h3];grind[Int.tdiv_eq_ediv_of_nonneg,qf]
theorem agD (hx:(St.mk pe lo hp df).ah x=some (.int .u64 a))(hy:(St.mk pe lo hp df).ah y=some (.int .u64 b))(ha:0<=a)(hb:0<b)
 (h:WO M l ⟨⟨pe,(t,.int .u64 (a%b))::lo,hp,df⟩,wr⟩ Q):WO M (⟨.l t,.bin .rem x y,none⟩::l) ⟨⟨pe,lo,hp,df⟩,wr⟩ Q:=by
 refine abx (v:=.int .u64 (a%b)) ?_ rfl h;have h3:¬b=0:=by omega
 simp only[br,hx,hy,dO,if_true,if_neg h3]<;>grind
theorem afV (hx:(St.mk pe lo hp df).ah x=some (.int .u64 a))(hy:(St.mk pe lo hp df).ah y=some (.int k b))(hb:b=n)(hn:n<=64)
 (h:WO M l ⟨⟨pe,(t,.int .u64 (a/2^n))::lo,hp,df⟩,wr⟩ Q):WO M (⟨.l t,.bin .shr x y,none⟩::l) ⟨⟨pe,lo,hp,df⟩,wr⟩ Q:=by
 refine abx (v:=.int .u64 (a/2^n)) ?_ rfl h;subst hb;have h3:¬((n:Int)<0):=by omega
 have h4:min ((n:Int).toNat) IntKind.u64.bits=n:=by
  show min ((n:Int).toNat) 64=n;omega
 simp only[br,hx,hy,dO,if_neg h3,h4]<;>grind
theorem aga (hx:(St.mk pe lo hp df).ah x=some (.int .u64 a))(hy:(St.mk pe lo hp df).ah y=some (.int k b))(hb:b=n)(hn:n<=64)
 (h:WO M l ⟨⟨pe,(t,.int .u64 ((a*2^n)%18446744073709551616))::lo,hp,df⟩,wr⟩ Q):WO M (⟨.l t,.bin .shl x y,none⟩::l) ⟨⟨pe,lo,hp,df⟩,wr⟩ Q:=by
 refine abx (v:=.int .u64 ((a*2^n)%18446744073709551616)) ?_ rfl h;subst hb;have h3:¬((n:Int)<0):=by omega
 have h4:min ((n:Int).toNat) IntKind.u64.bits=n:=by
  show min ((n:Int).toNat) 64=n;omega
 simp only[br,hx,hy,dO,if_neg h3,h4,rO]
theorem afX {c:Int}(hx:(St.mk pe lo hp df).ah x=some (.int .u64 a))(hy:(St.mk pe lo hp df).ah y=some (.int k b))(hb:b=n)(hn:n<=64)(hc:(2:Int)^n=c)
 (h:WO M l ⟨⟨pe,(t,.int .u64 (a/c))::lo,hp,df⟩,wr⟩ Q):WO M (⟨.l t,.bin .shr x y,none⟩::l) ⟨⟨pe,lo,hp,df⟩,wr⟩ Q:=by
 subst hc;exact afV hx hy hb hn h
theorem qi:BitVec.ofInt 64 (n:Int)=BitVec.ofNat 64 n:=by
 rfl
theorem agw (hx:(St.mk pe lo hp df).ah x=some (.int .u64 a))(hy:(St.mk pe lo hp df).ah y=some (.int .u64 4294967295))(ha:0<=a/\a<18446744073709551616)
 (h:WO M l ⟨⟨pe,(t,.int .u64 (a%4294967296))::lo,hp,df⟩,wr⟩ Q):WO M (⟨.l t,.bin .and x y,none⟩::l) ⟨⟨pe,lo,hp,df⟩,wr⟩ Q:=by
 refine abx (v:=.int .u64 (a%4294967296)) ?_ rfl h;obtain⟨n,rfl⟩:=aY ha.1;have e:(BitVec.ofInt 64 (n:Int) &&& BitVec.ofInt 64 4294967295).toNat=n%4294967296:=by
  rw[qi,show (4294967295:Int)=((4294967295:Nat):Int) from rfl,qi,BitVec.toNat_and,BitVec.toNat_ofNat,BitVec.toNat_ofNat,be ac,be am];exact Nat.and_two_pow_sub_one_eq_mod n 32
 simp only[br,hx,hy,dO,if_true];show some (AV.int .u64 (IntKind.u64.wrap ((BitVec.ofInt 64 (n:Int) &&& BitVec.ofInt 64 4294967295).toNat:Int)))=_;rw[e,qf ac];rfl
theorem agx (m:Nat)(hx:(St.mk pe lo hp df).ah x=some (.int .u64 a))(hy:(St.mk pe lo hp df).ah y=some (.int .u64 b))(ha:0<=a/\a<18446744073709551616)(hb:0<=b/\b<2^m)(hm:m<=64)(hd:a%2^m=0)
 (h:WO M l ⟨⟨pe,(t,.int .u64 (a+b))::lo,hp,df⟩,wr⟩ Q):WO M (⟨.l t,.bin .or x y,none⟩::l) ⟨⟨pe,lo,hp,df⟩,wr⟩ Q:=by
 refine abx (v:=.int .u64 (a+b)) ?_ rfl h;obtain⟨n,rfl⟩:=aY ha.1;obtain⟨p,rfl⟩:=aY hb.1;have hp2:p<2^m:=by have:=hb.2;exact_mod_cast this
 have h64:2^m<=2^64:=Nat.pow_le_pow_right ak hm;have hd':n%2^m=0:=by exact_mod_cast hd
 obtain⟨q,hq⟩:∃q,n=2^m*q:=⟨n/2^m,by grind[Nat.div_add_mod]⟩;have hsum:n+p<2^64:=by
  have h1:n<2^64:=by omega
  obtain⟨r,hr⟩:∃r,2^64=2^m*2^r:=⟨64-m,by rw[←Nat.pow_add];grind⟩;rw[hq,hr]at h1;have h2:q<2^r:=Nat.lt_of_mul_lt_mul_left h1;have h3:2^m*(q+1)<=2^m*2^r:=Nat.mul_le_mul_left _ h2;rw[Nat.mul_add]at h3;omega
 have e:(BitVec.ofInt 64 (n:Int) ||| BitVec.ofInt 64 (p:Int)).toNat=n+p:=by
  rw[qi,qi,BitVec.toNat_or,BitVec.toNat_ofNat,BitVec.toNat_ofNat,be ac,be ac,hq];exact(Nat.two_pow_add_eq_or_of_lt hp2 q).symm
 simp only[br,hx,hy,dO,if_true];show some (AV.int .u64 (IntKind.u64.wrap ((BitVec.ofInt 64 (n:Int) ||| BitVec.ofInt 64 (p:Int)).toNat:Int)))=_;rw[e,qf ac];rfl
theorem RK {a:Int}:IntKind.u8.wrap a=a%256:=by
 rfl
theorem agE (hx:(St.mk pe lo hp df).ah x=some (.int k a))(h:WO M l ⟨⟨pe,(t,.int .u8 (a%256))::lo,hp,df⟩,wr⟩ Q):WO M (⟨.l t,.im .u8 x,none⟩::l) ⟨⟨pe,lo,hp,df⟩,wr⟩ Q:=
 abx (v:=.int .u8 (a%256)) (by simp only[br,hx,Option.bind_some,pn,RK]) rfl h
end Go.Ab
namespace Go.Ab
open Go.RowKit
variable {P:Program} {gl:Nat->Option AV} {ρ:aO} {h:ae} {w w':World}
end Go.Ab
