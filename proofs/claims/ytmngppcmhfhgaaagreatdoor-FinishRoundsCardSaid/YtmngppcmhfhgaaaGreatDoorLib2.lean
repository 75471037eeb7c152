/-
  Own work: what a call has made is handed back by its contents: no block of the caller's is added.
-/
import Derived.Test.YtmngppcmhfhgaaaGreatDoorLib1
import Derived.Below
open Bool renaming and_eq_true→ci
open Int renaming eq_ofNat_of_zero_le→br
open List renaming getElem?_eq_getElem→be,getElem?_eq_some_iff→bj,length_cons→bA,cons_append→cC,drop_zero→cP,range→cT
open Nat renaming mod_eq_of_lt→bZ,le_refl→b9,zero_mul→ce
open Option renaming map_some→cD
open Go.World renaming cell?→cZ
set_option maxHeartbeats 8000000
set_option maxRecDepth 20000
namespace Go.Ab
variable {FT:FuncId->Option dm}
variable {P:Program} {gl:Nat->Option AV}
def kf (ρ:aW):aW:=⟨fun _=>.fresh,ρ.X⟩
theorem dy.kf {ρ:aW}{c:Nat}(h:¬ρ.X c):dy (kf ρ) c:=⟨fun b d hb=>by simp[Go.Ab.kf]at hb,h⟩
theorem Ty (hgl:∀g v,gl g=some v->v.top=0){w:World}{ρ:aW}{T:List Nat}{v v1:AV}{hh:ab}{v':Value}{w':World}(hf:Fr hh T v v1)(ht:v1.top=0)(hd:fE P gl (ew ρ []) [] w ⟨v,hh,[]⟩ v' w'):fE P gl (ew ρ []) [] w ⟨v1,[],[]⟩ v' w':=by
 obtain⟨ρ',hv,m',x⟩:=hd;have hF:∀c,dy (ew ρ' T) c->dy (kf ρ') c:=fun c hc=>dy.kf fun hx=>hc.2 (.inl hx)
 have hF':∀c,dy ρ' c->dy (kf ρ') c:=fun c hc=>dy.kf hc.2
 refine⟨kf ρ',(hf.view m' hv).ik (n:=0) ax hF ac,?_,?_⟩
 . refine⟨ax,fun b _=>rfl,fun b b' c d d' h1=>by simp[kf]at h1,fun b c d h1=>by simp[kf]at h1,m'.xb,fun b c d h1=>by simp[kf]at h1,fun g v hg=>?_⟩;exact(m'.gl g v hg).ik (n:=0) ax hF' bc
 . refine⟨x.os,x.tape,x.output,x.size,b9 _,x.X,ax,ax,fun b c d hb=>by simp[ew]at hb,fun b hb=>by simp[ew]at hb,fun b hb=>by simp[ew]at hb,fun c hc _=>x.di c hc ac,fun b c d hb _=>by simp[kf]at hb,x.shape⟩
theorem Tz (hgl:∀g v,gl g=some v->v.top=0){f:Nat}{as:List AV}{h:ab}{v v1:AV}{hh:ab}{T:List Nat}(ha:bO as=0)(hf:Fr hh T v v1)(ht:v1.top=0)(hloc:bG P gl ⟨f,as,[],⟨v,hh,[]⟩⟩):bG P gl ⟨f,as,h,⟨v1,h,[]⟩⟩:=by
 refine⟨⟨b9 _,fun _ _ _=>rfl⟩,fun ρ w as' m hl=>?_⟩;obtain⟨nx,w1,h1,h2⟩:=hloc.2 (ew ρ []) w as' (m.ew hgl []) ((fJ.same ha).view m hl);refine⟨nx,w1,h1,h2.mono fun v w' hd=>?_⟩;have:=Im (S:=[]) (ks:=[]) (bs:=[]) m ax (.same ht) rfl ax (.inl rfl) (Ty hgl hf ht hd)<;>grind
theorem TA (hs:kN P gl FT){T:List (Nat×Spec)}(hT:cW P gl (bM T)){f:Nat}{as:List AV}{h hh:ab}{B:List Nat}{v v1:AV}(hr:bm (bD P FT T) f as [] ⟨v,hh,[]⟩)(ha:bO as=0)(hf:Fr hh B v v1)(ht:v1.top=0):bG P gl ⟨f,as,h,⟨v1,h,[]⟩⟩:=
 Tz hs.gl ha hf ht (sO hs hT hr ⟨Nat.zero_le _,fun _ hb=>bc⟩)
def ny (N:Nat):aW:=⟨fun _=>.fresh,fun c=>c<N⟩
theorem dy.ny {N c:Nat}(h:N<=c):dy (ny N) c:=⟨fun b d hb=>by simp[Go.Ab.ny]at hb,fun hx=>absurd hx (by show ¬c<N;omega)⟩
theorem Fr.TB {ρ:aW}{h:ab}{w:World}(m:Mem P gl ρ h w){N:Nat}(hnew:∀b c d,ρ b = .live c d->N<=c){T:List Nat}(hT:∀b l e,b∈T->h.at b=some (.cells l e)->gm l=true){a a0:AV}(hr:Fr h T a a0):eh a=true->a0.top=0->∀{v:Value},V ρ w a v->V (ny N) w a0 v:=by
 have hat:∀{b o},h.at b=some o->h[b]? = some (some o):=fun {b o} hb=>by
  unfold ab.at at hb;grind
 have cutN:∀{l m':List AV} {off n:Nat},gm l=true->cut l off n=some m'->∀(i:Nat) x,m'[i]? = some x->eh x=true:=fun {l m' off n} hn hc i x hx=>by
  simp only[cut]at hc;grind[iG]
 induction hr with
 | same ht=>grind[Il]
 | nil hc=>
  intro _ _ v hv;cases hv;exact .fB hc
 | @sl b off len esz cap cap' l m' m0 e hb ha hc hl hg hcc ih=>
  intro _ ht v hv;simp only[AV.top]at ht;have ih':∀(i:Nat) x y,m'[i]? = some x->m0[i]? = some y->∀{v:Value},V ρ w x v->V (ny N) w y v:=fun i x y hx hy {v} hv=>
   ih i x y hx hy bc (by have:=fR (n:=0) ac i y hy;omega) hv
  have hB:=m.dP b _ (hat ha);have hcut:m'.length=len*esz/\∀i,i<m'.length->m'[i]? = l[off+i]? := by
   simp only[cut]at hc;split at hc
   . grind
   . cases hc
  cases hv with
  | @sl _ c d _ _ _ capC _ h1 h2 h3 h4=>
   have h3:∀n,cap'=some n->capC=n:=bc;rcases hB with ⟨c',d',cs,fr,g1,g2,g3,g4,g5⟩|⟨g1,_⟩
   . rw[h1]at g1;cases g1;refine .vs c (off+d) (fun i=>cs.getD (off+d+i) (.bool false)) (by grind[dy.ny]) h2 h3 (fun i hi=>?_) (fun i y hy=>?_)
     . have hi':i<m'.length:=by omega
       have hlt:off+i<l.length:=by
        have:=hcut.2 i hi';rw[be hi']at this;exact(bj.1 this.symm).1
       have:off+d+i<cs.size:=by have:=g3.1;omega
       simp only[cZ,g2]<;>simp_all
     . have hi:i<m0.length:=(bj.1 hy).1;have hi':i<m'.length:=by omega
       have hx:=hcut.2 i hi';rw[be hi']at hx;have hlt:off+i<l.length:=(bj.1 hx.symm).1;have hs:off+d+i<cs.size:=by have:=g3.1;omega
       refine ih' i m'[i] y (be hi') hy ?_;refine g5 (off+i) _ _ hx.symm ?_;rw[show off+i+d=off+d+i from by omega];simp_all
   grind
  | @gO _ _ h1=>
   rcases hB with ⟨c',d',cs,fr,g1,_⟩|⟨g1,g2⟩
   . grind
   . have:m0=[]:=bc;subst this;exact .fB bc
  | fQ c o' h1 _ _=>
   rcases hB with ⟨c',d',cs,fr,g1,_⟩|⟨g1,g2⟩ <;> (rw[h1]at g1;cases g1)
  | gP a h1=>
   rcases hB with ⟨c',d',cs,fr,g1,_⟩|⟨g1,g2⟩ <;> (rw[h1]at g1;cases g1)
  | gw h1=>
   rcases hB with ⟨c',d',cs,fr,g1,_⟩|⟨g1,g2⟩ <;> (rw[h1]at g1;cases g1)
 | @ptr b off l m0 e hb ha hl hg ih=>
  intro _ ht v hv;simp only[AV.top]at ht;have hB:=m.dP b _ (hat ha);cases hv with
  | @ptr _ c d _ h1=>
   rcases hB with ⟨c',d',cs,fr,g1,g2,g3,g4,g5⟩|⟨g1,_⟩
   . rw[h1]at g1;cases g1;refine .vp c (off+d) (fun i=>cs.getD (off+d+i) (.bool false)) (by grind[dy.ny]) (fun i hi=>?_) (fun i y hy=>?_)
     . have:off+d+i<cs.size:=by have:=g3.1;simp at hl;omega
       simp only[cZ,g2]<;>simp_all
     . have hi:i<m0.length:=(bj.1 hy).1;have hi':i<(l.drop off).length:=by omega
       have hlt:off+i<l.length:=by simp at hi';omega
       have hs:off+d+i<cs.size:=by have:=g3.1;omega
       refine ih i _ y (be hi') hy ?_ (by have:=fR (n:=0) ac i y hy;omega) ?_
       . rw[List.getElem_drop];exact iG bc (be hlt)
       . refine g5 (off+i) _ _ ax ?_;rw[show off+i+d=off+d+i from by omega];simp_all
   grind
  | fA _ c o' h1=>
   rcases hB with ⟨c',d',cs,fr,g1,_⟩|⟨g1,g2⟩ <;> (rw[h1]at g1;cases g1)
 | @vs l l0 n cap hl hg ih=>
  intro hn _ v hv;simp only[eh,List.isEmpty_iff]at hn;subst hn;have:l0=[]:=bc;subst this;cases hv with
  | vs c o g hf h2 h3 h4 h5=>exact .vs c o g ax h2 h3 ax ax
  | fB hc=>exact .fB hc
  | gA a hc=>exact .gA a hc
 | @agg l l0 hl hg ih=>
  intro hn ht v hv;simp only[eh]at hn;simp only[AV.top]at ht;cases hv with
  | @agg _ mm h1 h2=>
   refine .agg ac fun i y z hy hz=>?_
   have hi:i<l.length:=by have:=(bj.1 hy).1;omega
   exact ih i _ y (be hi) hy (iG hn (be hi)) (by have:=fR (n:=0) ac i y hy;omega) (h2 i _ z (be hi) hz)
 | @aw l l0 hl hg ih=>
  intro hn ht v hv;simp only[eh]at hn;simp only[AV.top]at ht;cases hv with
  | @aw _ mm h1 h2=>
   refine .aw ac fun i y z hy hz=>?_
   have hi:i<l.length:=by have:=(bj.1 hy).1;omega
   exact ih i _ y (be hi) hy (iG hn (be hi)) (by have:=fR (n:=0) ac i y hy;omega) (h2 i _ z (be hi) hz)
 | @fn f fi fi0 ca ca0 hf h1 h2 g1 g2 ih1 ih2=>
  intro hn ht v hv;simp only[eh,ci]at hn;have hh:bO fi0<=0/\bO ca0<=0:=by
   cases f <;> simp only[AV.top]at ht <;> exact⟨ac,ac⟩
  cases hv with
  | fn hf' a1 a2 a3 a4=>
   refine .fn hf ac ac (fun i y z hy hz=>?_) (fun i y z hy hz=>?_)
   . have hi:i<fi.length:=by have:=(bj.1 hy).1;omega
     exact ih1 i _ y (be hi) hy (iG hn.1 (be hi)) (by have:=fR hh.1 i y hy;omega) (a3 i _ z (be hi) hz)
   . have hi:i<ca.length:=by have:=(bj.1 hy).1;omega
     exact ih2 i _ y (be hi) hy (iG hn.2 (be hi)) (by have:=fR hh.2 i y hy;omega) (a4 i _ z (be hi) hz)
  | yield _=>grind
  | iN _ _=>grind
theorem TC {w:World}{ρ:aW}{h:ab}(m:Mem P gl ρ h w){S T:List Nat}{v v1:AV}{hh:ab}{v':Value}{w':World}(hf:Fr hh T v v1)(hn:eh v=true)(hT:∀b l e,b∈T->hh.at b=some (.cells l e)->gm l=true)(ht:v1.top=0)(hd:fE P gl (ew ρ S) [] w ⟨v,hh,[]⟩ v' w'):fE P gl ρ h w ⟨v1,h,[]⟩ v' w':=by
 obtain⟨ρ',hv,m',x⟩:=hd;have di:∀c,c<w.heap.size->w'.heap[c]? = w.heap[c]? := fun c hc=>x.di c hc fun b d hb=>by simp[Go.Ab.ew]at hb
 have new:∀b c d,ρ' b = .live c d->w.heap.size<=c:=fun b c d hb=>by
  rcases Nat.lt_or_ge c w.heap.size with hc|hc
  . rcases x.back b c d hb hc with h1|⟨b0,d0,h1,_⟩ <;> simp[Go.Ab.ew]at h1
  omega
 have hV:=hf.TB m' new hT hn ht hv;have hF:∀c,dy (ny w.heap.size) c->dy ρ c:=fun c hc=>by
  have hge:w.heap.size<=c:=by
   rcases Nat.lt_or_ge c w.heap.size with h|h
   . exact absurd h hc.2
   . exact h
  exact⟨fun b d hb=>by have:=m.bound b c d hb;omega,fun hx=>by have:=m.xb c hx;omega⟩
 have E:Ext h h ρ ρ w w':=⟨x.os,x.tape,x.output,x.size,b9 _,rfl,fun _ h=>h,fun _ _=>rfl,bc,fun _ h=>h,bc,bc,bc,x.shape⟩;refine⟨ρ,hV.ik (n:=0) ax hF ac,m.ext E ?_ m.fresh m.inj ?_,E⟩
 . intro b o hb;exact(m.dP b o hb).mono E rfl fun c d hl=>di c (m.bound b c d hl)
 . intro b c d hb;exact Nat.lt_of_lt_of_le (m.bound b c d hb) x.size
theorem TE (hs:kN P gl FT){T:List (Nat×Spec)}(hT:cW P gl (bM T)){f:Nat}{as as0:List AV}{h hh:ab}{S B:List Nat}{v v1:AV}(hr:bm (bD P FT T) f as0 [] ⟨v,hh,[]⟩)(hv:fJ h S as as0)(hf:Fr hh B v v1)(hn:eh v=true)(hB:∀b l e,b∈B->hh.at b=some (.cells l e)->gm l=true)(ht:v1.top=0):bG P gl ⟨f,as,h,⟨v1,h,[]⟩⟩:=by
 have hloc:=sO hs hT hr ⟨Nat.zero_le _,fun _ hb=>bc⟩;refine⟨⟨b9 _,fun _ _ _=>rfl⟩,fun ρ w as' m hl=>?_⟩;obtain⟨nx,w1,h1,h2⟩:=hloc.2 (ew ρ S) w as' (m.ew hs.gl S) (hv.view m hl);exact⟨nx,w1,h1,h2.mono (by grind[TC])⟩
def lI (hh:ab)(v v1:AV):Prop:=∃B,Fr hh B v v1/\eh v=true/\∀b l e,b∈B->hh.at b=some (.cells l e)->gm l=true
theorem lI.same {hh:ab}{v:AV}(ht:v.top=0)(hn:eh v=true):lI hh v v:=⟨[],.same ht,hn,ax⟩
theorem lI.nil {hh:ab}:lI hh .ah (.vs [] 0 none):=⟨[],.nil ax,rfl,ax⟩
theorem TH (hs:kN P gl FT){T:List (Nat×Spec)}(hT:cW P gl (bM T)){f:Nat}{as as0:List AV}{h hh:ab}{S:List Nat}{v v1:AV}(hr:bm (bD P FT T) f as0 [] ⟨v,hh,[]⟩)(hv:fJ h S as as0)(hf:lI hh v v1)(ht:v1.top=0):bG P gl ⟨f,as,h,⟨v1,h,[]⟩⟩:=by
 obtain⟨B,h1,h2,h3⟩:=hf;grind[TE]
end Go.Ab
namespace Go.Ab
variable {I:au->Prop} {s:au}
variable {M:ay}
structure LI (I:au->Prop)(Q:Ex->au->Prop)(e:Ex)(s:au):Prop where
 out:match e with
  | .normal=>I s
  | e=>Q e s
theorem dQ {Q:Ex->au->Prop}(h:I s):LI I Q .normal s:=⟨h⟩
theorem ck {Q:Ex->au->Prop}{i:Nat}(h:Q (.exit i) s):LI I Q (.exit i) s:=⟨h⟩
theorem eM {Q:Ex->au->Prop}(h:Q .ret s):LI I Q .ret s:=⟨h⟩
theorem W.ir {c:al}{Q:Ex->au->Prop}(I:Nat->au->Prop)(hs:∀m s,I m s->W M c s (LI (fun s'=>∃m',m'<m/\I m' s') Q)):∀{m:Nat} {s:au},I m s->W M (.loop c) s Q:=by
 intro m;induction m using Nat.strongRecOn with
 | ind m ih=>
  intro s h;refine W.loop ((hs m s h).mono fun e s' he=>?_);cases e with
  | normal=>
   obtain⟨m',hm,hI⟩:=he.out;exact⟨ih m' hm hI⟩
  | exit i=>exact⟨he.out⟩
  | ret=>exact⟨he.out⟩
theorem W.jf {c:al}{Q:Ex->au->Prop}(n:Nat)(I:Nat->au->Prop)(hs:∀i s,i<n->I i s->W M c s (LI (I (i+1)) Q))(he:∀s,I n s->W M c s (LI (fun _=>False) Q)){i:Nat}{s:au}(hi:i<=n)(h:I i s):W M (.loop c) s Q:=by
 refine W.ir (fun m s=>m<=n/\I (n-m) s) (fun m s ⟨hm,h⟩=>?_) (m:=n-i) ⟨Nat.sub_le _ _,bc⟩;rcases Nat.eq_zero_or_pos m with rfl|h0
 . exact(he s h).mono ax
 . refine(hs (n-m) s ac h).mono fun e s' he=>⟨?_⟩
   cases e with
   | normal=>exact⟨m-1,ac,ac,by have:=he.out;grind⟩
   | exit i=>exact he.out
   | ret=>exact he.out
section
variable {α:Type} {f:α->List AV} {esz t:Nat} {x y:aZ} {L:List bz} {pe:List AV} {lo:List (Nat×AV)} {hp:ab} {df wr:List Nat} {l:List α} {cap:Option Nat} {k:IntKind} {n:Int} {Q:au->Prop}
theorem ajH (hx:(St.mk pe lo hp df).ae x=some (.vs (arr f l) l.length cap))(hy:(St.mk pe lo hp df).ae y=some (.int k n))(hf:∀a,(f a).length=esz)(hn:0<=n/\n<=l.length)
 (h:WO M L ⟨⟨pe,(t,.vs (arr f (l.take n.toNat)) (l.take n.toNat).length cap)::lo,hp,df⟩,wr⟩ Q):WO M (⟨.l t,.slice .sl esz x none (some y) none,none⟩::L) ⟨⟨pe,lo,hp,df⟩,wr⟩ Q:=by
 refine abA (v:=.vs (arr f (l.take n.toNat)) (l.take n.toNat).length cap) ?_ rfl h;have hle:n.toNat<=l.length:=by omega
 have hl:(l.take n.toNat).length=n.toNat:=by rw[List.length_take];omega
 have hc:cap.map (fun x=>x)=cap:=by cases cap <;> rfl
 have h0:(0:Int)<=n/\n<=(l.length:Int):=by omega
 simp only[bF,hx,St.fg,hy,cD,kD,cH,Option.isNone_none,Option.isSome_some,Bool.true_or,if_true,if_pos h0];simp only[ce,cP,Nat.sub_zero,BC hf,hl,hc]
end
theorem TL {α:Type}{f:α->List AV}{esz:Nat}{e:TypeId}{hp:ab}{c n:Nat}{cap:Option Nat}{l:List α}(hf:∀a,(f a).length=esz)(ht:∀a,bO (f a)=0)(h:hp.at c=some (.cells (arr f l) e))(hn:l.length=n):Fr hp [c] (.sl c 0 n esz cap) (.vs (arr f l) l.length none):=by
 subst hn;have:=mE hf (l:=l) (i:=0) (n:=l.length) ac;rw[ce]at this;refine .sl ax h this ax (fun i x y hx hy=>?_) (.inr rfl);simp at hx;rw[hx]at hy;cases hy;exact .same (by have:=fR (n:=0) (Nat.le_of_eq (oM ht l)) i x hx;omega)
end Go.Ab
namespace Go.Ab
variable {M:ay} {α:Type} {f:α->List AV} {esz:Nat} {e:TypeId} {hp H:ab} {o y:AV} {acc m:List α} {S S':List Nat}
theorem Sl.cells (_hf:∀a,(f a).length=esz)(h:Sl f hp y m):gY hp y=some (arr f m,m.length):=by
 rcases h with ⟨rfl,rfl⟩|⟨cap,rfl⟩|⟨b,off,ez,cap,c,e,rfl,h1,h2⟩
 . rfl
 . rfl
 . simp only[gY,h1,h2,cD]
def cU (f:α->List AV)(esz:Nat)(e:TypeId)(hp:ab)(o:AV)(acc:List α)(S:List Nat):Prop:=
 (acc=[]/\o = .ah)\/∃c cap,c∉S/\o = .sl c 0 acc.length esz cap/\hp.at c=some (.cells (arr f acc) e)/\(cap=none\/acc=[]/\cap=some 0)
theorem cU.nu:cU f esz e hp .ah ([]:List α) S:=.inl ⟨rfl,rfl⟩
theorem cU.sl (hf:∀a,(f a).length=esz)(h:cU f esz e hp o acc S):Sl f hp o acc:=by
 rcases h with ⟨rfl,rfl⟩|⟨c,cap,_,rfl,h1,_⟩
 . exact .nu
 . exact .ke hf h1 rfl
def wL (o:AV):List Nat:=mF (some o)
theorem cU.fz (h:cU f esz e hp o acc S)(hk:∀b x,b∈wL o->hp.at b=some x->H.at b=some x)(hs:∀b,b∈wL o->b∉S->b∉S'):cU f esz e H o acc S':=by
 rcases h with h|⟨c,cap,h0,rfl,h1,h2⟩
 . exact .inl h
 . exact .inr ⟨c,cap,hs c (by simp[wL,mF]) h0,rfl,hk _ _ (by simp[wL,mF]) h1,h2⟩
theorem cU.grow (h:cU f esz e hp o acc S)(J:ab):cU f esz e (hp++J) o acc S:=h.fz (by grind[cB]) ax
theorem cU.app {bytes t:Nat}{l:List bz}{pe:List AV}{lo:List (Nat×AV)}{df wr:List Nat}{a b:aZ}{Q:au->Prop}(hf:∀a,(f a).length=esz)(h1:∀a,(f a).all dx=true)(hb0:0<bytes)
 (h:cU f esz e hp o acc S) (hS:∀x∈S,x<hp.length) (ha:(St.mk pe lo hp df).ae a=some o) (hb:(St.mk pe lo hp df).ae b=some y) (hy:Sl f hp y m)
 (hn:(acc.length+m.length)*bytes<=fa) (hQ:∀(H:ab) (w':List Nat) o',cU f esz e H o' (acc++m) S->(∀x v,x∈S->hp.at x=some v->H.at x=some v)->hp.length<=H.length->WO M l ⟨⟨pe,(t,o')::lo,H,df⟩,w'⟩ Q):WO M (⟨.l t,.append e esz bytes a b,none⟩::l) ⟨⟨pe,lo,hp,df⟩,wr⟩ Q:=by
 have hs:=hy.cells hf;have hone:(arr f m).all dx=true:=IG h1 m;have hcond:(arr f m).length=m.length*esz/\0<bytes/\(arr f m).all dx=true:=⟨lH hf m,hb0,hone⟩;by_cases hm:m=[]
 . subst hm;rw[List.append_nil]at hQ;refine aev (v:=o) (h':=hp) (w':=[]) ?_ rfl rfl (hQ hp _ o h ax (b9 _));simp only[cg,ha,hb,mq,hs,if_pos hcond];rcases h with ⟨_,rfl⟩|⟨c,cap,_,rfl,_,_⟩ <;> simp
 . have hp0:m.length≠0:=bc;rcases h with ⟨rfl,rfl⟩|⟨c,cap,hc,rfl,hat,hcap⟩
   . refine aev (v:=.sl hp.length 0 m.length esz none) (h':=hp++[some (.cells (arr f m) e)]) (w':=[]) ?_ rfl rfl (hQ _ _ _ (.inr ⟨hp.length,none,fun h=>by grind,ax,cj,.inl rfl⟩) (by grind[cB]) ax);simp only[cg,ha,hb,mq,hs,if_pos hcond,if_neg hp0]<;>grind
   . rcases hcap with rfl|⟨rfl,rfl⟩
     . refine aev (v:=.sl hp.length 0 (acc.length+m.length) esz none) (h':=hp.put c none++[some (.cells (arr f acc++arr f m) e)]) (w':=[c]) ?_ rfl rfl (hQ _ _ _ (.inr ⟨hp.length,none,fun h=>by grind,ax,?_,.inl rfl⟩) (by grind[cB,wC]) (by simp[jM]))
       . simp only[cg,ha,hb,mq,hs,if_pos hcond,if_neg hp0,hat];rw[if_pos ⟨trivial,hn⟩,if_pos ⟨by grind[lH],trivial⟩,cP]
       grind[jM,cj,BA]
     . refine aev (v:=.sl hp.length 0 m.length esz none) (h':=hp++[some (.cells (arr f m) e)]) (w':=[]) ?_ rfl rfl (hQ _ _ _ (.inr ⟨hp.length,none,fun h=>by grind,ax,by rw[List.nil_append];exact cj,.inl rfl⟩) (by grind[cB]) ax);simp only[cg,ha,hb,mq,hs,if_pos hcond,if_neg hp0,hat,List.length_nil,Nat.zero_add,ce];rw[if_pos ⟨trivial,bc⟩,if_neg ac];rfl
theorem cU.TM (hf:∀a,(f a).length=esz)(ht:∀a,bO (f a)=0)(hn:∀a,gm (f a)=true)(h:cU f esz e hp o acc S):lI (if (bk [o]).top<=0 then [] else hp) o (.vs (arr f acc) acc.length none):=by
 rcases h with ⟨rfl,rfl⟩|⟨c,cap,_,rfl,h4,_⟩
 . exact .nil
 . rw[if_neg (by simp[bk,AV.top])];refine⟨[c],TL hf ht h4 rfl,rfl,fun b l e' hb hl=>?_⟩;grind[qK]
end Go.Ab
namespace Go.Ab
variable {M:ay}
theorem cU.one {α:Type}{f:α->List AV}{esz:Nat}{e:TypeId}{hp:ab}{o:AV}{acc:List α}{S:List Nat}(h:cU f esz e hp o acc S):AV.cells o=some [o]/\dx o=true:=by
 rcases h with ⟨_,rfl⟩|⟨c,cap,_,rfl,_,_⟩ <;> exact⟨rfl,rfl⟩
end Go.Ab
namespace Go.Ab
variable {M:ay}
end Go.Ab
namespace Go.Ab
variable {h:ab} {l m m':List AV} {a x:AV}
variable {M:ay} {P:Program} {gl:Nat->Option AV}
theorem bm.IQ {f:FuncId}{as:List AV}{r r':HR}(h1:bm M f as h r)(h2:bm M f as h r'):r=r':=by
 obtain⟨n,hn⟩:=h1;obtain⟨m,hm⟩:=h2;have a1:=wx (wy (Nat.le_max_left n m)) hn;have a2:=wx (wy (Nat.le_max_right n m)) hm;grind
mutual
def cR:AV->AV
 | .ah=>.vs [] 0 none
 | .vs l n _=>.vs (fv l) n none
 | .vp l=>.vp (fv l)
 | .agg l=>.agg (fv l)
 | .aw l=>.aw (fv l)
 | .fn f a b=>.fn f (fv a) (fv b)
 | .iface t v=>.iface t (cR v)
 | v=>v
def fv:List AV->List AV
 | []=>[]
 | v::r=>cR v::fv r
end
theorem kh:∀{l m:List AV},l.length=m.length->(∀(i:Nat) x y,l[i]? = some x->m[i]? = some y->cR x=cR y)->fv l=fv m
 | [],[],_,_=>rfl
 | x::l,y::m,hl,h=>by
  rw[fv,fv,h 0 x y rfl rfl,kh bc fun i a b ha hb=>h (i+1) a b ha hb]
theorem pc (h1:l.length=m.length)(h2:l.length=m'.length)(h:∀(i:Nat) a x y,l[i]? = some a->m[i]? = some x->m'[i]? = some y->cR x=cR y):fv m=fv m':=
 kh ac fun i x y hx hy=>by
  grind
theorem IS (hl:l.length=m.length)(h:∀(i:Nat) x y,l[i]? = some x->m[i]? = some y->x=y):l=m:=
 List.ext_getElem hl fun i h1 h2=>h i _ _ (be h1) (be h2)
theorem BP (h1:l.length=m.length)(h2:l.length=m'.length)(h:∀(i:Nat) a x y,l[i]? = some a->m[i]? = some x->m'[i]? = some y->x=y):m=m':=
 IS ac fun i x y hx hy=>by
  grind
theorem IT:∀(l m:List AV),fv (l++m)=fv l++fv m
 | [],m=>rfl
 | x::l,m=>by rw[cC,fv,fv,IT l m];rfl
theorem BT {α:Type}{f:α->List AV}(hf:∀a,fv (f a)=f a):∀l,fv (arr f l)=arr f l
 | []=>rfl
 | a::l=>by rw[lG,IT,hf,BT hf l]
theorem dj (h:bO l=0){i:Nat}{x:AV}(hx:l[i]? = some x):x.top=0:=by
 have:=fR (n:=0) ac i x hx;omega
theorem Fr.kP {S:List Nat}(hr:Fr h S a x):a.top=0->cR a=cR x:=by
 induction hr with
 | same ht=>simp
 | nil hc=>exact fun _=>by rfl
 | sl=>intro ht;simp[AV.top]at ht
 | ptr=>intro ht;simp[AV.top]at ht
 | vs hl hg ih=>intro ht;rw[cR,cR,kh hl fun i x y hx hy=>ih i x y hx hy (dj ht hx)]
 | agg hl hg ih=>intro ht;rw[cR,cR,kh hl fun i x y hx hy=>ih i x y hx hy (dj ht hx)]
 | aw hl hg ih=>intro ht;rw[cR,cR,kh hl fun i x y hx hy=>ih i x y hx hy (dj ht hx)]
 | fn hf h1 h2 g1 g2 i1 i2=>
  intro ht;simp only[AV.top]at ht;rw[cR,cR,kh h1 (by grind[dj]),kh h2 (by grind[dj])]
theorem Fr.can {S:List Nat}(hr:Fr h S a x):x.top=0->∀{S':List Nat} {y:AV},Fr h S' a y->y.top=0->cR x=cR y:=by
 induction hr with
 | same ht=>exact fun _ S' y hy _=>hy.kP ht
 | nil hc=>exact fun _ S' y hy _=>by cases hy <;> simp[cR,fv]
 | sl hb ha hc hl hg hcc ih=>
  intro hx S' y hy hyt;cases hy with
  | same ht=>simp[AV.top]at ht
  | sl hb' ha' hc' hl' hg' hcc'=>
   rw[ha]at ha';cases ha';rw[hc]at hc';cases hc';rw[cR,cR,pc hl hl' fun i a x y h1 h2 h3=>ih i a x h1 h2 (dj hx h2) (hg' i a y h1 h3) (dj hyt h3)]
 | ptr hb ha hl hg ih=>
  intro hx S' y hy hyt;cases hy with
  | same ht=>simp[AV.top]at ht
  | ptr hb' ha' hl' hg'=>
   rw[ha]at ha';cases ha';rw[cR,cR,pc hl hl' fun i a x y h1 h2 h3=>ih i a x h1 h2 (dj hx h2) (hg' i a y h1 h3) (dj hyt h3)]
 | vs hl hg ih=>
  intro hx S' y hy hyt;cases hy with
  | same ht=>rw[cR,cR,kh hl.symm fun i x y hx' hy'=>((hg i y x hy' hx').kP (dj ht hy')).symm]
  | vs hl' hg'=>rw[cR,cR,pc hl hl' fun i a x y h1 h2 h3=>ih i a x h1 h2 (dj hx h2) (hg' i a y h1 h3) (dj hyt h3)]
 | agg hl hg ih=>
  intro hx S' y hy hyt;cases hy with
  | same ht=>rw[cR,cR,kh hl.symm fun i x y hx' hy'=>((hg i y x hy' hx').kP (dj ht hy')).symm]
  | agg hl' hg'=>rw[cR,cR,pc hl hl' fun i a x y h1 h2 h3=>ih i a x h1 h2 (dj hx h2) (hg' i a y h1 h3) (dj hyt h3)]
 | aw hl hg ih=>
  intro hx S' y hy hyt;cases hy with
  | same ht=>rw[cR,cR,kh hl.symm fun i x y hx' hy'=>((hg i y x hy' hx').kP (dj ht hy')).symm]
  | aw hl' hg'=>rw[cR,cR,pc hl hl' fun i a x y h1 h2 h3=>ih i a x h1 h2 (dj hx h2) (hg' i a y h1 h3) (dj hyt h3)]
 | fn hf h1 h2 g1 g2 i1 i2=>
  intro hx S' y hy hyt;simp only[AV.top]at hx;cases hy with
  | same ht=>
   simp only[AV.top]at ht;rw[cR,cR,kh h1.symm fun i x y hx' hy'=>((g1 i y x hy' hx').kP (dj ac hy')).symm,kh h2.symm fun i x y hx' hy'=>((g2 i y x hy' hx').kP (dj ac hy')).symm]
  | fn hf' h1' h2' g1' g2'=>
   simp only[AV.top]at hyt;rw[cR,cR,pc h1 h1' (by grind[dj,dj]),
     pc h2 h2' (by grind[dj,dj])]
def qO:AV->Bool
 | .int _ _=>true
 | .bool _=>true
 | .str _=>true
 | .fn f [] []=>match f with | .yield _=>false|_=>true
 | _=>false
inductive dL (h:ab):AV->AV->Prop
 | atom {a:AV} (ha:qO a=true):dL h a a
 | nil:dL h .ah (.vs [] 0 none)
 | sl {b off len esz:Nat} {cap:Option Nat} {l m m0:List AV} {e:TypeId} (ha:h.at b=some (.cells l e)) (hc:cut l off (len*esz)=some m) (hl:m.length=m0.length)
     (hg:∀(i:Nat) x y,m[i]? = some x->m0[i]? = some y->dL h x y):dL h (.sl b off len esz cap) (.vs m0 len none)
 | vs {l l0:List AV} {n:Nat} {cap:Option Nat} (hl:l.length=l0.length) (hg:∀(i:Nat) x y,l[i]? = some x->l0[i]? = some y->dL h x y):dL h (.vs l n cap) (.vs l0 n cap)
 | agg {l l0:List AV} (hl:l.length=l0.length) (hg:∀(i:Nat) x y,l[i]? = some x->l0[i]? = some y->dL h x y):dL h (.agg l) (.agg l0)
def gZ (h:ab)(l l0:List AV):Prop:=l.length=l0.length/\∀(i:Nat) x y,l[i]? = some x->l0[i]? = some y->dL h x y
theorem gZ.nil:gZ h [] []:=⟨rfl,ax⟩
theorem gZ.cons {y:AV}(h1:dL h x y)(h2:gZ h l m):gZ h (x::l) (y::m):=by
 refine⟨by simp[h2.1],fun i a b ha hb=>?_⟩;cases i with
 | zero=>grind
 | succ i=>simp at ha hb;exact h2.2 i a b ha hb
theorem TN (h:qO a=true):a.top=0:=by
 cases a with
 | fn f fi ca=>
  cases fi <;> cases ca <;> first|(simp[qO]at h;done)|skip
  cases f <;> first|rfl|cases h
 | _=>first|rfl|cases h
theorem dL.fr (hr:dL h a x):Fr h (cT h.length) a x:=by
 induction hr with
 | atom ha=>exact .same (TN ha)
 | nil=>exact .nil ax
 | sl ha hc hl hg ih=>exact .sl (by grind[gS]) ha hc hl ih (.inr rfl)
 | vs hl hg ih=>exact .vs hl ih
 | agg hl hg ih=>exact .agg hl ih
theorem gZ.fr {l0:List AV}(hr:gZ h l l0):fJ h (cT h.length) l l0:=⟨hr.1,fun i x y hx hy=>(hr.2 i x y hx hy).fr⟩
theorem dL.uniq (hr:dL h a x):∀{y:AV},dL h a y->x=y:=by
 induction hr with
 | atom ha=>intro y hy;cases hy <;> first|rfl|cases ha
 | nil=>intro y hy;cases hy with
   | atom ha=>cases ha
   | nil=>rfl
 | sl ha hc hl hg ih=>
  intro y hy;cases hy with
  | atom ha=>cases ha
  | sl ha' hc' hl' hg'=>
   grind[BP]
 | vs hl hg ih=>
  intro y hy;cases hy with
  | atom ha=>cases ha
  | vs hl' hg'=>grind[BP]
 | agg hl hg ih=>
  intro y hy;cases hy with
  | atom ha=>cases ha
  | agg hl' hg'=>grind[BP]
theorem gZ.uniq (h1:gZ h l m)(h2:gZ h l m'):m=m':=
 IS (h1.1.symm.trans h2.1) fun i x y hx hy=>by
  have hi:i<l.length:=by rw[h1.1];exact(bj.1 hx).1
  exact(h1.2 i l[i] x (be hi) hx).uniq (h2.2 i l[i] y (be hi) hy)
theorem gZ.app:∀{l m l' m':List AV},gZ h l m->gZ h l' m'->gZ h (l++l') (m++m')
 | [],[],_,_,_,h2=>h2
 | x::l,y::m,l',m',h1,h2=>.cons (h1.2 0 x y rfl rfl) (gZ.app ⟨by simpa using h1.1,fun i a b ha hb=>h1.2 (i+1) a b ha hb⟩ h2)
 | [],y::m,_,_,h1,_=>by have:=h1.1;grind
 | x::l,[],_,_,h1,_=>by have:=h1.1;grind
abbrev pd (h:ab)(l:List AV):Prop:=gZ h l l
theorem qP {α:Type}{f:α->List AV}{h:ab}(hf:∀a,pd h (f a)):∀l,pd h (arr f l)
 | []=>.nil
 | a::l=>by rw[lG];exact(hf a).app (qP hf l)
theorem IU {h:ab}:∀{l:List AV},l.all qO=true->pd h l
 | [],_=>.nil
 | a::l,ha=>by
  rw[List.all_cons,ci]at ha;exact .cons (.atom ha.1) (IU ha.2)
theorem dL.pf {n:Nat}{cap:Option Nat}(hl:pd h l):dL h (.vs l n cap) (.vs l n cap):=.vs rfl hl.2
theorem dL.TO {α:Type}{f:α->List AV}{v:AV}{l:List α}(hf:∀a,pd h (f a))(hs:Sl f h v l):∃cap,dL h v (.vs (arr f l) l.length cap):=by
 rcases hs with ⟨rfl,rfl⟩|⟨c,rfl⟩|⟨b,off,ez,cap,c,e,rfl,hb,hc⟩
 . exact⟨none,.nil⟩
 . exact⟨c,.pf (qP hf l)⟩
 . exact⟨none,.sl hb hc rfl (qP hf l).2⟩
theorem enter:(∀(f:Nat -> AV) a l,(a::l).map f=f a::l.map f) /\ (∀f:Nat -> AV,[].map f=[]) /\ (∀(a:AV) (l:List AV),(a::l)[0]? = some a) /\ (∀(a:AV) (l:List AV) (n:Nat),(a::l)[n+1]? = l[n]?) /\ (∀n:Nat,([]:List AV)[n]? = none) /\ (∀a b:AV,(some a).getD b=a) /\ ∀b:AV,none.getD b=b:=
  ⟨fun _ _ _=>rfl,fun _=>rfl,fun _ _=>rfl,fun _ _ _=>rfl,fun _=>rfl,fun _ _=>rfl,fun _=>rfl⟩
end Go.Ab
namespace Go.Ab
variable {l as:List AV} {h:ab} {x:AV} {FT:FuncId->Option dm}
variable {M:ay} {P:Program} {gl:Nat->Option AV}
mutual
def bS:AV->AV
 | .vs l n _=>.vs (dh l) n none
 | .vp l=>.vp (dh l)
 | .agg l=>.agg (dh l)
 | .aw l=>.aw (dh l)
 | .fn f a b=>.fn f (dh a) (dh b)
 | .iface t v=>.iface t (bS v)
 | v=>v
def dh:List AV->List AV
 | []=>[]
 | v::r=>bS v::dh r
end
theorem nz:∀{l m:List AV},l.length=m.length->(∀(i:Nat) x y,l[i]? = some x->m[i]? = some y->bS x=bS y)->dh l=dh m
 | [],[],_,_=>rfl
 | x::l,y::m,hl,h=>by
  rw[dh,dh,h 0 x y rfl rfl,nz bc fun i a b ha hb=>h (i+1) a b ha hb]
theorem wN {m m':List AV}(h1:l.length=m.length)(h2:l.length=m'.length)(h:∀(i:Nat) a x y,l[i]? = some a->m[i]? = some x->m'[i]? = some y->bS x=bS y):dh m=dh m':=
 nz ac fun i x y hx hy=>by
  grind
theorem IV:∀(l m:List AV),dh (l++m)=dh l++dh m
 | [],m=>rfl
 | x::l,m=>by rw[cC,dh,dh,IV l m];rfl
theorem BU {α:Type}{f:α->List AV}(hf:∀a,dh (f a)=f a):∀l,dh (arr f l)=arr f l
 | []=>rfl
 | a::l=>by rw[lG,IV,hf,BU hf l]
inductive fS (h:ab):AV->AV->Prop
 | same {v:AV} (ht:v.top=0):fS h v v
 | sl {b off len esz:Nat} {cap:Option Nat} {l m m0:List AV} {e:TypeId} (ha:h.at b=some (.cells l e)) (hc:cut l off (len*esz)=some m) (hl:m.length=m0.length)
     (hg:∀(i:Nat) x y,m[i]? = some x->m0[i]? = some y->fS h x y):fS h (.sl b off len esz cap) (.vs m0 len none)
 | vs {l l0:List AV} {n:Nat} {cap:Option Nat} (hl:l.length=l0.length) (hg:∀(i:Nat) x y,l[i]? = some x->l0[i]? = some y->fS h x y):fS h (.vs l n cap) (.vs l0 n cap)
 | agg {l l0:List AV} (hl:l.length=l0.length) (hg:∀(i:Nat) x y,l[i]? = some x->l0[i]? = some y->fS h x y):fS h (.agg l) (.agg l0)
 | aw {l l0:List AV} (hl:l.length=l0.length) (hg:∀(i:Nat) x y,l[i]? = some x->l0[i]? = some y->fS h x y):fS h (.aw l) (.aw l0)
theorem fS.fr {a:AV}(hr:fS h a x):Fr h (cT h.length) a x:=by
 induction hr with
 | same ht=>exact .same ht
 | sl ha hc hl hg ih=>exact .sl (by grind[gS]) ha hc hl ih (.inr rfl)
 | vs hl hg ih=>exact .vs hl ih
 | agg hl hg ih=>exact .agg hl ih
 | aw hl hg ih=>exact .aw hl ih
theorem fS.kP {a:AV}(hr:fS h a x):a.top=0->bS a=bS x:=by
 induction hr with
 | same ht=>simp
 | sl=>intro ht;simp[AV.top]at ht
 | vs hl hg ih=>intro ht;rw[bS,bS,nz hl fun i x y hx hy=>ih i x y hx hy (dj ht hx)]
 | agg hl hg ih=>intro ht;rw[bS,bS,nz hl fun i x y hx hy=>ih i x y hx hy (dj ht hx)]
 | aw hl hg ih=>intro ht;rw[bS,bS,nz hl fun i x y hx hy=>ih i x y hx hy (dj ht hx)]
theorem fS.can {a:AV}(hr:fS h a x):x.top=0->∀{y:AV},fS h a y->y.top=0->bS x=bS y:=by
 induction hr with
 | same ht=>exact fun _ y hy _=>hy.kP ht
 | sl ha hc hl hg ih=>
  intro hx y hy hyt;cases hy with
  | same ht=>simp[AV.top]at ht
  | sl ha' hc' hl' hg'=>
   rw[ha]at ha';cases ha';rw[hc]at hc';cases hc';rw[bS,bS,wN hl hl' fun i a x y h1 h2 h3=>ih i a x h1 h2 (dj hx h2) bc (dj hyt h3)]
 | vs hl hg ih=>
  intro hx y hy hyt;cases hy with
  | same ht=>rw[bS,bS,nz hl.symm fun i x y hx' hy'=>((hg i y x hy' hx').kP (dj ht hy')).symm]
  | vs hl' hg'=>rw[bS,bS,wN hl hl' fun i a x y h1 h2 h3=>ih i a x h1 h2 (dj hx h2) bc (dj hyt h3)]
 | agg hl hg ih=>
  intro hx y hy hyt;cases hy with
  | same ht=>rw[bS,bS,nz hl.symm fun i x y hx' hy'=>((hg i y x hy' hx').kP (dj ht hy')).symm]
  | agg hl' hg'=>rw[bS,bS,wN hl hl' fun i a x y h1 h2 h3=>ih i a x h1 h2 (dj hx h2) bc (dj hyt h3)]
 | aw hl hg ih=>
  intro hx y hy hyt;cases hy with
  | same ht=>rw[bS,bS,nz hl.symm fun i x y hx' hy'=>((hg i y x hy' hx').kP (dj ht hy')).symm]
  | aw hl' hg'=>rw[bS,bS,wN hl hl' fun i a x y h1 h2 h3=>ih i a x h1 h2 (dj hx h2) bc (dj hyt h3)]
theorem qQ {i:Nat}(h:(fv l)[i]? = some x):∃y,l[i]? = some y/\x=cR y:=by
 induction l generalizing i with
 | nil=>simp[fv]at h
 | cons a l ih=>
  rw[fv]at h;grind
theorem pg:∀l:List AV,(fv l).length=l.length
 | []=>rfl
 | a::l=>by rw[fv,bA,bA,pg l]
theorem qR {i:Nat}(h:(dh l)[i]? = some x):∃y,l[i]? = some y/\x=bS y:=by
 induction l generalizing i with
 | nil=>simp[dh]at h
 | cons a l ih=>
  rw[dh]at h;grind
theorem ph:∀l:List AV,(dh l).length=l.length
 | []=>rfl
 | a::l=>by rw[dh,bA,bA,ph l]
section
variable {ρ:aW} {w:World} {a:AV} {v:Value}
theorem V.bS (hv:V ρ w a v):V ρ w (bS a) v:=by
 induction hv with
 | dO v=>exact .dO v
 | bool b=>exact .bool b
 | int k n=>exact .int k n
 | str s=>exact .str s
 | fx=>exact .fx
 | ptr o h=>exact .ptr o h
 | fA o c o' h=>exact .fA o c o' h
 | vp c o g hf hc hg ih=>
  exact .vp c o g (fun h=>hf fun e=>h (by rw[e];rfl)) (by grind[ph]) (by grind[qR])
 | ah=>exact .ah
 | sl h hl hcap hb=>exact .sl h hl hcap hb
 | gO h=>exact .gO h
 | fQ c o' h hl hcap=>exact .fQ c o' h hl hcap
 | gw h=>exact .gw h
 | gP a h=>exact .gP a h
 | vs c o g hf hl hcap hc hg ih=>
  exact .vs c o g (fun h=>hf fun e=>h (by rw[e];rfl)) hl ax (by grind[ph]) (by grind[qR])
 | fB hcap=>exact .fB ax
 | gA a hcap=>exact .gA a ax
 | ee=>exact .ee
 | map h=>exact .map h
 | jb c h=>exact .jb c h
 | yield h=>exact .yield h
 | fn hf h1 h2 g1 g2 i1 i2=>
  exact .fn hf (by grind[ph]) (by grind[ph]) (by grind[qR]) (by grind[qR])
 | iN c h=>exact .iN c h
 | fk=>exact .fk
 | iface h ih=>exact .iface ih
 | eH=>exact .eH
 | agg h g ih=>
  exact .agg (by grind[ph]) (by grind[qR])
 | aw h g ih=>
  exact .aw (by grind[ph]) (by grind[qR])
theorem V.cR (hv:V ρ w a v):V ρ w (cR a) v:=by
 induction hv with
 | dO v=>exact .dO v
 | bool b=>exact .bool b
 | int k n=>exact .int k n
 | str s=>exact .str s
 | fx=>exact .fx
 | ptr o h=>exact .ptr o h
 | fA o c o' h=>exact .fA o c o' h
 | vp c o g hf hc hg ih=>
  exact .vp c o g (fun h=>hf fun e=>h (by rw[e];rfl)) (by grind[pg]) (by grind[qQ])
 | ah=>exact .fB ax
 | sl h hl hcap hb=>exact .sl h hl hcap hb
 | gO h=>exact .gO h
 | fQ c o' h hl hcap=>exact .fQ c o' h hl hcap
 | gw h=>exact .gw h
 | gP a h=>exact .gP a h
 | vs c o g hf hl hcap hc hg ih=>
  exact .vs c o g (fun h=>hf fun e=>h (by rw[e];rfl)) hl ax (by grind[pg]) (by grind[qQ])
 | fB hcap=>exact .fB ax
 | gA a hcap=>exact .gA a ax
 | ee=>exact .ee
 | map h=>exact .map h
 | jb c h=>exact .jb c h
 | yield h=>exact .yield h
 | fn hf h1 h2 g1 g2 i1 i2=>
  exact .fn hf (by grind[pg]) (by grind[pg]) (by grind[qQ]) (by grind[qQ])
 | iN c h=>exact .iN c h
 | fk=>exact .fk
 | iface h ih=>exact .iface ih
 | eH=>exact .eH
 | agg h g ih=>
  exact .agg (by grind[pg]) (by grind[qQ])
 | aw h g ih=>
  exact .aw (by grind[pg]) (by grind[qQ])
end
theorem IW {f:Nat}{h':ab}{v v':AV}{wr:List Nat}(hv:∀ρ w x,V ρ w v x->V ρ w v' x)(he:bG P gl ⟨f,as,h,⟨v,h',wr⟩⟩):bG P gl ⟨f,as,h,⟨v',h',wr⟩⟩:=by
 refine⟨he.1,fun ρ w as' m ha=>?_⟩;obtain⟨nx,w1,g1,g2⟩:=he.2 ρ w as' m ha;refine⟨nx,w1,g1,g2.mono fun x w' hd=>?_⟩;obtain⟨ρ',h1,h2,h3⟩:=hd;exact⟨ρ',hv _ _ _ h1,h2,h3⟩
def IX (P:Program)(FT:FuncId->Option dm)(T:List (Nat×Spec))(g:Nat)(as0:List AV)(v0:AV):Prop:=∃v hh v1,bm (bD P FT T) g as0 [] ⟨v,hh,[]⟩/\lI hh v v1/\v1.top=0/\cR v1=v0
def TP (P:Program)(FT:FuncId->Option dm)(T:List (Nat×Spec))(g:Nat)(as:List AV)(h:ab)(r:HR):Prop:=∃as0 v0,gZ h as as0/\IX P FT T g as0 v0/\r=⟨v0,h,[]⟩
noncomputable def sX (P:Program)(FT:FuncId->Option dm)(T:List (Nat×Spec))(g:Nat):Spec:=qN (TP P FT T g)
theorem TT (hs:kN P gl FT){T:List (Nat×Spec)}(hT:cW P gl (bM T)){g:Nat}:bl P gl g (sX P FT T g):=IJ fun as h r ⟨as0,v0,hf,⟨v,hh,v1,hr,hn,ht,hc⟩,e⟩=>by
 subst e;subst hc;exact IW (fun _ _ _ h=>h.cR) (TH hs hT hr hf.fr hn ht)
theorem nC {T:List (Nat×Spec)}{g:Nat}{as0:List AV}{v0:AV}(hf:gZ h as as0)(hr:IX P FT T g as0 v0):sX P FT T g as h=some ⟨v0,h,[]⟩:=
 IK ⟨as0,v0,hf,hr,rfl⟩ fun r' ⟨as0',v0',hf',hr',e⟩=>by
  cases hf.uniq hf';obtain⟨v,hh,v1,r1,⟨B,f1,_⟩,t1,c1⟩:=hr;obtain⟨v',hh',v1',r2,⟨B',f2,_⟩,t2,c2⟩:=hr';cases r1.IQ r2;rw[e,←c1,←c2,f1.can t1 f2 t2]
def BV (P:Program)(FT:FuncId->Option dm)(T:List (Nat×Spec))(g:Nat)(as:List AV)(v0:AV):Prop:=∃v hh v1,bm (bD P FT T) g as [] ⟨v,hh,[]⟩/\fS hh v v1/\bO as=0/\v1.top=0/\bS v1=v0
def TU (P:Program)(FT:FuncId->Option dm)(T:List (Nat×Spec))(g:Nat)(as:List AV)(h:ab)(r:HR):Prop:=∃v0,BV P FT T g as v0/\r=⟨v0,h,[]⟩
noncomputable def qS (P:Program)(FT:FuncId->Option dm)(T:List (Nat×Spec))(g:Nat):Spec:=qN (TU P FT T g)
theorem TV (hs:kN P gl FT){T:List (Nat×Spec)}(hT:cW P gl (bM T)){g:Nat}:bl P gl g (qS P FT T g):=IJ fun as h r ⟨v0,⟨v,hh,v1,hr,hf,ha,ht,hc⟩,e⟩=>by
 subst e;subst hc;exact IW (fun _ _ _ h=>h.bS) (TA hs hT hr ha hf.fr ht)
theorem sY {T:List (Nat×Spec)}{g:Nat}{v0:AV}(hr:BV P FT T g as v0):qS P FT T g as h=some ⟨v0,h,[]⟩:=
 IK ⟨v0,hr,rfl⟩ fun r' ⟨v0',hr',e⟩=>by
  obtain⟨v,hh,v1,r1,f1,_,t1,c1⟩:=hr;obtain⟨v',hh',v1',r2,f2,_,t2,c2⟩:=hr';cases r1.IQ r2;rw[e,←c1,←c2,f1.can t1 f2 t2]
end Go.Ab
namespace Go.Ab
variable {M:ay} {P:Program} {gl:Nat->Option AV}
theorem cS {FT:FuncId->Option dm}{T:List (Nat×Spec)}{g:Nat}{as:List AV}{v:AV}(hr:bm (bD P FT T) g as [] ⟨v,[],[]⟩)(ha:bO as=0)(ht:v.top=0)(hc:bS v=v)(h:ab):qS P FT T g as h=some ⟨v,h,[]⟩:=
 sY ⟨v,[],v,hr,.same ht,ha,ht,hc⟩
theorem pj {FT:FuncId->Option dm}{T:List (Nat×Spec)}{g:Nat}{as as0:List AV}{v:AV}(hr:bm (bD P FT T) g as0 [] ⟨v,[],[]⟩)(ht:v.top=0)(hn:eh v=true)(hc:cR v=v){h:ab}(hf:gZ h as as0):sX P FT T g as h=some ⟨v,h,[]⟩:=
 nC hf ⟨v,[],v,hr,.same ht hn,ht,hc⟩
end Go.Ab
namespace Go.Ab
variable {n:Nat}
variable {M:ay} {t:Nat} {x y:aZ} {l:List bz} {pe:List AV} {lo:List (Nat×AV)} {hp:ab} {df wr:List Nat} {k:IntKind} {a b:Int} {Q:au->Prop}
theorem sZ (a:Int):IntKind.u64.wrap a=a%18446744073709551616:=by
 rfl
theorem qT {a:Int}(h:0<=a/\a<18446744073709551616):IntKind.u64.wrap a=a:=by rw[sZ];omega
theorem ajg (hx:(St.mk pe lo hp df).ae x=some (.int .u64 a))(hy:(St.mk pe lo hp df).ae y=some (.int .u64 b))
 (h:WO M l ⟨⟨pe,(t,.int .u64 ((a+b)%18446744073709551616))::lo,hp,df⟩,wr⟩ Q):WO M (⟨.l t,.bin .add x y,none⟩::l) ⟨⟨pe,lo,hp,df⟩,wr⟩ Q:=
 abA (v:=.int .u64 ((a+b)%18446744073709551616)) (by simp[bF,hx,hy,dS,sZ]) rfl h
theorem aiC (hx:(St.mk pe lo hp df).ae x=some (.int .u64 a))(hy:(St.mk pe lo hp df).ae y=some (.int .u64 b))(hr:0<=a+b/\a+b<18446744073709551616)
 (h:WO M l ⟨⟨pe,(t,.int .u64 (a+b))::lo,hp,df⟩,wr⟩ Q):WO M (⟨.l t,.bin .add x y,none⟩::l) ⟨⟨pe,lo,hp,df⟩,wr⟩ Q:=
 abA (v:=.int .u64 (a+b)) (by simp[bF,hx,hy,dS,qT hr]) rfl h
theorem ajw (hx:(St.mk pe lo hp df).ae x=some (.int .u64 a))(hy:(St.mk pe lo hp df).ae y=some (.int .u64 b))
 (h:WO M l ⟨⟨pe,(t,.int .u64 ((a-b)%18446744073709551616))::lo,hp,df⟩,wr⟩ Q):WO M (⟨.l t,.bin .sub x y,none⟩::l) ⟨⟨pe,lo,hp,df⟩,wr⟩ Q:=
 abA (v:=.int .u64 ((a-b)%18446744073709551616)) (by simp[bF,hx,hy,dS,sZ]) rfl h
theorem aiG (hx:(St.mk pe lo hp df).ae x=some (.int .u64 a))(hy:(St.mk pe lo hp df).ae y=some (.int .u64 b))(hr:0<=a-b/\a-b<18446744073709551616)
 (h:WO M l ⟨⟨pe,(t,.int .u64 (a-b))::lo,hp,df⟩,wr⟩ Q):WO M (⟨.l t,.bin .sub x y,none⟩::l) ⟨⟨pe,lo,hp,df⟩,wr⟩ Q:=
 abA (v:=.int .u64 (a-b)) (by simp[bF,hx,hy,dS,qT hr]) rfl h
theorem ajh (hx:(St.mk pe lo hp df).ae x=some (.int .u64 a))(hy:(St.mk pe lo hp df).ae y=some (.int .u64 b))
 (h:WO M l ⟨⟨pe,(t,.int .u64 ((a*b)%18446744073709551616))::lo,hp,df⟩,wr⟩ Q):WO M (⟨.l t,.bin .mul x y,none⟩::l) ⟨⟨pe,lo,hp,df⟩,wr⟩ Q:=
 abA (v:=.int .u64 ((a*b)%18446744073709551616)) (by simp[bF,hx,hy,dS,sZ]) rfl h
theorem aiA (hx:(St.mk pe lo hp df).ae x=some (.int .u64 a))(hy:(St.mk pe lo hp df).ae y=some (.int .u64 b))(hr:0<=a*b/\a*b<18446744073709551616)
 (h:WO M l ⟨⟨pe,(t,.int .u64 (a*b))::lo,hp,df⟩,wr⟩ Q):WO M (⟨.l t,.bin .mul x y,none⟩::l) ⟨⟨pe,lo,hp,df⟩,wr⟩ Q:=
 abA (v:=.int .u64 (a*b)) (by simp[bF,hx,hy,dS,qT hr]) rfl h
theorem aji (hx:(St.mk pe lo hp df).ae x=some (.int .u64 a))(hy:(St.mk pe lo hp df).ae y=some (.int .u64 b))(ha:0<=a/\a<18446744073709551616)(hb:0<b)
 (h:WO M l ⟨⟨pe,(t,.int .u64 (a/b))::lo,hp,df⟩,wr⟩ Q):WO M (⟨.l t,.bin .quo x y,none⟩::l) ⟨⟨pe,lo,hp,df⟩,wr⟩ Q:=by
 refine abA (v:=.int .u64 (a/b)) ?_ rfl h;have h1:0<=a/b:=Int.ediv_nonneg ha.1 ac;have h2:a/b<=a:=Int.ediv_le_self _ ha.1;have h3:¬b=0:=by omega
 simp only[bF,hx,hy,dS,if_true,if_neg h3];grind[Int.tdiv_eq_ediv_of_nonneg,qT]
theorem ajI (hx:(St.mk pe lo hp df).ae x=some (.int .u64 a))(hy:(St.mk pe lo hp df).ae y=some (.int .u64 b))(ha:0<=a)(hb:0<b)
 (h:WO M l ⟨⟨pe,(t,.int .u64 (a%b))::lo,hp,df⟩,wr⟩ Q):WO M (⟨.l t,.bin .rem x y,none⟩::l) ⟨⟨pe,lo,hp,df⟩,wr⟩ Q:=by
 refine abA (v:=.int .u64 (a%b)) ?_ rfl h;have h3:¬b=0:=by omega
 simp only[bF,hx,hy,dS,if_true,if_neg h3]<;>grind
theorem aiT (hx:(St.mk pe lo hp df).ae x=some (.int .u64 a))(hy:(St.mk pe lo hp df).ae y=some (.int k b))(hb:b=n)(hn:n<=64)
 (h:WO M l ⟨⟨pe,(t,.int .u64 (a/2^n))::lo,hp,df⟩,wr⟩ Q):WO M (⟨.l t,.bin .shr x y,none⟩::l) ⟨⟨pe,lo,hp,df⟩,wr⟩ Q:=by
 refine abA (v:=.int .u64 (a/2^n)) ?_ rfl h;subst hb;have h3:¬((n:Int)<0):=by omega
 have h4:min ((n:Int).toNat) IntKind.u64.bits=n:=by
  show min ((n:Int).toNat) 64=n;omega
 simp only[bF,hx,hy,dS,if_neg h3,h4]<;>grind
theorem aje (hx:(St.mk pe lo hp df).ae x=some (.int .u64 a))(hy:(St.mk pe lo hp df).ae y=some (.int k b))(hb:b=n)(hn:n<=64)
 (h:WO M l ⟨⟨pe,(t,.int .u64 ((a*2^n)%18446744073709551616))::lo,hp,df⟩,wr⟩ Q):WO M (⟨.l t,.bin .shl x y,none⟩::l) ⟨⟨pe,lo,hp,df⟩,wr⟩ Q:=by
 refine abA (v:=.int .u64 ((a*2^n)%18446744073709551616)) ?_ rfl h;subst hb;have h3:¬((n:Int)<0):=by omega
 have h4:min ((n:Int).toNat) IntKind.u64.bits=n:=by
  show min ((n:Int).toNat) 64=n;omega
 simp only[bF,hx,hy,dS,if_neg h3,h4,sZ]
theorem aiX {c:Int}(hx:(St.mk pe lo hp df).ae x=some (.int .u64 a))(hy:(St.mk pe lo hp df).ae y=some (.int k b))(hb:b=n)(hn:n<=64)(hc:(2:Int)^n=c)
 (h:WO M l ⟨⟨pe,(t,.int .u64 (a/c))::lo,hp,df⟩,wr⟩ Q):WO M (⟨.l t,.bin .shr x y,none⟩::l) ⟨⟨pe,lo,hp,df⟩,wr⟩ Q:=by
 subst hc;exact aiT hx hy hb hn h
theorem qV:BitVec.ofInt 64 (n:Int)=BitVec.ofNat 64 n:=by
 rfl
theorem ajx (hx:(St.mk pe lo hp df).ae x=some (.int .u64 a))(hy:(St.mk pe lo hp df).ae y=some (.int .u64 4294967295))(ha:0<=a/\a<18446744073709551616)
 (h:WO M l ⟨⟨pe,(t,.int .u64 (a%4294967296))::lo,hp,df⟩,wr⟩ Q):WO M (⟨.l t,.bin .and x y,none⟩::l) ⟨⟨pe,lo,hp,df⟩,wr⟩ Q:=by
 refine abA (v:=.int .u64 (a%4294967296)) ?_ rfl h;obtain⟨n,rfl⟩:=br ha.1;have e:(BitVec.ofInt 64 (n:Int) &&& BitVec.ofInt 64 4294967295).toNat=n%4294967296:=by
  rw[qV,show (4294967295:Int)=((4294967295:Nat):Int) from rfl,qV,BitVec.toNat_and,BitVec.toNat_ofNat,BitVec.toNat_ofNat,bZ ac,bZ ax];exact Nat.and_two_pow_sub_one_eq_mod n 32
 simp only[bF,hx,hy,dS,if_true];show some (AV.int .u64 (IntKind.u64.wrap ((BitVec.ofInt 64 (n:Int) &&& BitVec.ofInt 64 4294967295).toNat:Int)))=_;rw[e,qT ac];rfl
theorem ajy (m:Nat)(hx:(St.mk pe lo hp df).ae x=some (.int .u64 a))(hy:(St.mk pe lo hp df).ae y=some (.int .u64 b))(ha:0<=a/\a<18446744073709551616)(hb:0<=b/\b<2^m)(hm:m<=64)(hd:a%2^m=0)
 (h:WO M l ⟨⟨pe,(t,.int .u64 (a+b))::lo,hp,df⟩,wr⟩ Q):WO M (⟨.l t,.bin .or x y,none⟩::l) ⟨⟨pe,lo,hp,df⟩,wr⟩ Q:=by
 refine abA (v:=.int .u64 (a+b)) ?_ rfl h;obtain⟨n,rfl⟩:=br ha.1;obtain⟨p,rfl⟩:=br hb.1;have hp2:p<2^m:=by have:=hb.2;exact_mod_cast this
 have h64:2^m<=2^64:=Nat.pow_le_pow_right ao hm;have hd':n%2^m=0:=by exact_mod_cast hd
 obtain⟨q,hq⟩:∃q,n=2^m*q:=⟨n/2^m,by grind[Nat.div_add_mod]⟩;have hsum:n+p<2^64:=by
  have h1:n<2^64:=by omega
  obtain⟨r,hr⟩:∃r,2^64=2^m*2^r:=⟨64-m,by rw[←Nat.pow_add];grind⟩;rw[hq,hr]at h1;have h2:q<2^r:=Nat.lt_of_mul_lt_mul_left h1;have h3:2^m*(q+1)<=2^m*2^r:=Nat.mul_le_mul_left _ h2;rw[Nat.mul_add]at h3;omega
 have e:(BitVec.ofInt 64 (n:Int) ||| BitVec.ofInt 64 (p:Int)).toNat=n+p:=by
  rw[qV,qV,BitVec.toNat_or,BitVec.toNat_ofNat,BitVec.toNat_ofNat,bZ ac,bZ ac,hq];exact(Nat.two_pow_add_eq_or_of_lt hp2 q).symm
 simp only[bF,hx,hy,dS,if_true];show some (AV.int .u64 (IntKind.u64.wrap ((BitVec.ofInt 64 (n:Int) ||| BitVec.ofInt 64 (p:Int)).toNat:Int)))=_;rw[e,qT ac];rfl
theorem TX {a:Int}:IntKind.u8.wrap a=a%256:=by
 rfl
theorem ajJ (hx:(St.mk pe lo hp df).ae x=some (.int k a))(h:WO M l ⟨⟨pe,(t,.int .u8 (a%256))::lo,hp,df⟩,wr⟩ Q):WO M (⟨.l t,.gW .u8 x,none⟩::l) ⟨⟨pe,lo,hp,df⟩,wr⟩ Q:=
 abA (v:=.int .u8 (a%256)) (by simp only[bF,hx,Option.bind_some,nZ,TX]) rfl h
end Go.Ab
namespace Go.Ab
open Go.RowKit
variable {P:Program} {gl:Nat->Option AV} {ρ:aW} {h:ab} {w w':World}
end Go.Ab
