/-
  Own work: the calculus: a heap that is known by facts, its newest block; lists that grow, of any elements.
-/
import Derived.Test.YtcjphdmkgmkabaaGreatDoorLib4
import Derived.Deep.Slices
import Derived.Deep.Strs
import Derived.OpenShut
import Derived.Below
set_option maxHeartbeats 8000000
set_option maxRecDepth 20000
namespace Go.Ab
variable {e:TypeId}
variable {M:ao}
theorem abU {u n b off:Nat}{ag:Bool}{x:ax}{L:List aO}{pe:List AV}{lo:List (Nat×AV)}{hp:ab}{df wr:List Nat}{c:List AV}{v:AV}{Q:al->Prop}(hx:(St.mk pe lo hp df).aa x=some (.ptr b off))(hb:hp.at b=some (.cells c e))(hv:partOf (c.drop off) 0 n ag=some v)
 (h:WO M L ⟨⟨pe,(u,v)::lo,hp,df⟩,wr⟩ Q):WO M (⟨.l u,.load n ag x,none⟩::L) ⟨⟨pe,lo,hp,df⟩,wr⟩ Q:=
 aaD (v:=v) (h':=hp) (w':=[]) (by simp only[bg,hx,Option.bind_some,ew,hb,hv]) rfl rfl h
theorem acH {n:Nat}{x y:ax}{L:List aO}{pe:List AV}{lo:List (Nat×AV)}{K:ab}{df wr:List Nat}{c c' new:List AV}{Q:al->Prop}(hx:(St.mk pe lo (K++[some (.cells c e)]) df).aa x=some (.ptr K.length 0))(hy:((St.mk pe lo (K++[some (.cells c e)]) df).aa y).bind AV.cells=some new)
 (hn:new.length=n/\n<=c.length/\new.all cw=true) (ho:overwrite c 0 new=c') (h:WO M L ⟨⟨pe,lo,K++[some (.cells c' e)],df⟩,K.length::wr⟩ Q):WO M (⟨.no,.store n x y,none⟩::L) ⟨⟨pe,lo,K++[some (.cells c e)],df⟩,wr⟩ Q:=by
 obtain⟨h1,h2,h3⟩:=hn;refine abf (v:=bJ) (h':=K++[some (.cells c' e)]) (w':=[K.length]) ?_ rfl rfl h;simp only[bg,hx,hy,cN,Nat.zero_add];rw[if_pos ⟨h1,h2,h3⟩,ho];simp[ab.put]
def jS {α:Type}(f:α->List AV)(esz:Nat)(e:TypeId)(hp:ab)(o:AV)(acc:List α)(S:List Nat):Prop:=(acc=[]/\o = .ae)\/∃c,acc≠[]/\c∉S/\o = .sl c 0 acc.length esz none/\hp.at c=some (.cells (arr f acc) e)
theorem jS.fin {α:Type}{f:α->List AV}{esz:Nat}{hp:ab}{o:AV}{acc:List α}{S:List Nat}(h:jS f esz e hp o acc S):jS f esz e (if (aQ [o]).top<=0 then [] else hp) o acc S:=by
 rcases h with ⟨h1,rfl⟩|⟨c,h0,h1,rfl,h2⟩
 . exact .inl ⟨h1,rfl⟩
 . refine .inr ⟨c,h0,h1,rfl,?_⟩;rw[if_neg (by simp[aQ,AV.top])];exact h2
end Go.Ab
namespace Go.Ab
variable {h:ab}
variable {M:ao} {P:Program} {gl:Nat->Option AV}
open Classical in
noncomputable def nG (R:List AV->ab->HR->Prop):Spec:=fun as h=>if e:∃r,R as h r then some (Classical.choose e) else none
theorem FH {f:Nat}{R:List AV->ab->HR->Prop}(hR:∀as h r,R as h r->bz P gl ⟨f,as,h,r⟩):bQ P gl f (nG R):=by
 intro as h r hq;unfold nG at hq;split at hq
 . rename_i e;cases hq;exact hR _ _ _ (Classical.choose_spec e)
 . cases hq
theorem FI {R:List AV->ab->HR->Prop}{as:List AV}{r:HR}(hr:R as h r)(hd:∀r',R as h r'->r'=r):nG R as h=some r:=by
 unfold nG;rw[dif_pos ⟨r,hr⟩];exact congrArg some (hd _ (Classical.choose_spec (p:=fun r=>R as h r) ⟨r,hr⟩))
section
variable {α:Type} {f:α->List AV} {esz:Nat}
theorem Sl.lZ {l:List α}{cap:Option Nat}:Sl f h (.vs (arr f l) l.length cap) l:=.inr (.inl ⟨cap,rfl⟩)
theorem Sl.nH:Sl f h .ae ([]:List α):=.inl ⟨rfl,rfl⟩
theorem Sl.ir (hf:∀a,(f a).length=esz){h:ab}{l:List α}{b n:Nat}{e:TypeId}{cap:Option Nat}(hb:h.at b=some (.cells (arr f l) e))(hn:l.length=n):Sl f h (.sl b 0 n esz cap) l:=by
 subst hn;refine .inr (.inr ⟨b,0,esz,cap,_,e,rfl,hb,?_⟩);have:=jQ hf (l:=l) (i:=0) (n:=l.length) (by omega);rw[Nat.zero_mul]at this;rw[this];simp
end
end Go.Ab
namespace Go.Ab
open Go.ChangeShapes Go.WideShapes Go.RowKit
inductive CellT
 | bool
 | int (k:IntKind)
 | str
 | slice (es:List CellT)
mutual
def Has:CellT->AV->Prop
 | .bool,x=>∃b,x = .bool b
 | .int k,x=>∃n,x = .int k n/\(Lit.int k n).wf=true
 | .str,x=>∃s:List UInt8,x = .str s/\s.length<=maxLen
 | .slice es,x=>∃ls:List (List AV),x = .vs ls.flatten ls.length none/\ls.length<=maxLen/\∀c∈ls,HasL es c
def HasL:List CellT->List AV->Prop
 | [],l=>l=[]
 | t::ts,l=>∃x r,l=x::r/\Has t x/\HasL ts r
end
theorem HasL.length:∀{ts:List CellT} {l:List AV},HasL ts l->l.length=ts.length
 | [],l,h=>by simp only[HasL]at h;subst h;rfl
 | t::ts,l,h=>by
  simp only[HasL]at h;obtain⟨x,r,rfl,_,h2⟩:=h;simp[h2.length]
section
variable (P:Program)
end
variable {H:Type} {enc:TypeId×Value->H} {P:Program} {W:World}
end Go.Ab
namespace Go.Ab
variable {FT:FuncId->Option cK}
variable {P:Program} {gl:Nat->Option AV}
def iA (ρ:au):au:=⟨fun _=>.fresh,ρ.X⟩
theorem cn.iA {ρ:au}{c:Nat}(h:¬ρ.X c):cn (iA ρ) c:=⟨fun b d hb=>by simp[Go.Ab.iA]at hb,h⟩
theorem PO (hgl:∀g v,gl g=some v->v.top=0){w:World}{ρ:au}{T:List Nat}{v v1:AV}{hh:ab}{v':Value}{w':World}(hf:Fr hh T v v1)(ht:v1.top=0)(hd:dP P gl (cV ρ []) [] w ⟨v,hh,[]⟩ v' w'):dP P gl (cV ρ []) [] w ⟨v1,[],[]⟩ v' w':=by
 obtain⟨ρ',hv,m',x⟩:=hd;have hF:∀c,cn (cV ρ' T) c->cn (iA ρ') c:=fun c hc=>cn.iA fun hx=>hc.2 (.inl hx)
 have hF':∀c,cn ρ' c->cn (iA ρ') c:=fun c hc=>cn.iA hc.2
 refine⟨iA ρ',(hf.view m' hv).fF (n:=0) (fun b hb=>by omega) hF (by omega),?_,?_⟩
 . refine⟨fun b o hb=>by simp at hb,fun b _=>rfl,fun b b' c d d' h1=>by simp[iA]at h1,fun b c d h1=>by simp[iA]at h1,m'.xb,fun b c d h1=>by simp[iA]at h1,fun g v hg=>?_⟩;exact(m'.gl g v hg).fF (n:=0) (fun b hb=>by omega) hF' (by rw[hgl g v hg];exact Nat.le_refl _)
 . refine⟨x.os,x.tape,x.output,x.size,Nat.le_refl _,x.X,fun b hb=>by simp at hb,fun b hb=>by simp at hb,fun b c d hb=>by simp[cV]at hb,fun b hb=>by simp[cV]at hb,fun b hb=>by simp[cV]at hb,fun c hc _=>x.bB c hc (fun b d hb=>by simp[cV]at hb),fun b c d hb _=>by simp[iA]at hb,x.shape⟩
theorem PQ (hgl:∀g v,gl g=some v->v.top=0){f:Nat}{as:List AV}{h:ab}{v v1:AV}{hh:ab}{T:List Nat}(ha:aY as=0)(hf:Fr hh T v v1)(ht:v1.top=0)(hloc:bz P gl ⟨f,as,[],⟨v,hh,[]⟩⟩):bz P gl ⟨f,as,h,⟨v1,h,[]⟩⟩:=by
 refine⟨⟨Nat.le_refl _,fun _ _ _=>rfl⟩,fun ρ w as' m hl=>?_⟩;obtain⟨nx,w1,h1,h2⟩:=hloc.2 (cV ρ []) w as' (m.cV hgl []) ((eO.same ha).view m hl);refine⟨nx,w1,h1,h2.mono fun v w' hd=>?_⟩;have:=Fo (S:=[]) (ks:=[]) (bs:=[]) m (by simp) (.same ht) rfl (by simp) (.inl rfl) (PO hgl hf ht hd);simpa using this
theorem PR (hs:iQ P gl FT){T:List (Nat×Spec)}(hT:dg P gl (bj T)){f:Nat}{as:List AV}{h hh:ab}{B:List Nat}{v v1:AV}(hr:aU (aZ P FT T) f as [] ⟨v,hh,[]⟩)(ha:aY as=0)(hf:Fr hh B v v1)(ht:v1.top=0):bz P gl ⟨f,as,h,⟨v1,h,[]⟩⟩:=
 PQ hs.gl ha hf ht (qc hs hT hr ⟨Nat.zero_le _,fun _ hb=>absurd hb (Nat.not_lt_zero _)⟩)
def kE (N:Nat):au:=⟨fun _=>.fresh,fun c=>c<N⟩
theorem cn.kE {N c:Nat}(h:N<=c):cn (kE N) c:=⟨fun b d hb=>by simp[Go.Ab.kE]at hb,fun hx=>absurd hx (by show ¬c<N;omega)⟩
theorem Fr.PS {ρ:au}{h:ab}{w:World}(m:Mem P gl ρ h w){N:Nat}(hnew:∀b c d,ρ b = .live c d->N<=c){T:List Nat}(hT:∀b l e,b∈T->h.at b=some (.cells l e)->dV l=true){a a0:AV}(hr:Fr h T a a0):cM a=true->a0.top=0->∀{v:Value},V ρ w a v->V (kE N) w a0 v:=by
 have hat:∀{b o},h.at b=some o->h[b]? = some (some o):=fun {b o} hb=>by
  unfold ab.at at hb;cases hz:h[b]? with
  | none=>rw[hz]at hb;cases hb
  | some z=>rw[hz]at hb;simp only[Option.join_some]at hb;rw[hb]
 have cutN:∀{l m':List AV} {off n:Nat},dV l=true->cut l off n=some m'->∀(i:Nat) x,m'[i]? = some x->cM x=true:=fun {l m' off n} hn hc i x hx=>by
  simp only[cut]at hc;split at hc
  . cases hc;rw[List.getElem?_take]at hx;split at hx
    . rw[List.getElem?_drop]at hx;exact fP hn hx
    . cases hx
  . cases hc
 induction hr with
 | same ht=>exact fun hn _ v hv=>Fm ht hn hv
 | nil hc=>
  intro _ _ v hv;cases hv;exact .dz hc
 | @sl b off len esz cap cap' l m' m0 e hb ha hc hl hg hcc ih=>
  intro _ ht v hv;simp only[AV.top]at ht;have ih':∀(i:Nat) x y,m'[i]? = some x->m0[i]? = some y->∀{v:Value},V ρ w x v->V (kE N) w y v:=fun i x y hx hy {v} hv=>
   ih i x y hx hy (cutN (hT b l e hb ha) hc i x hx) (by have:=dZ (n:=0) (by omega) i y hy;omega) hv
  have hB:=m.cF b _ (hat ha);have hcut:m'.length=len*esz/\∀i,i<m'.length->m'[i]? = l[off+i]? := by
   simp only[cut]at hc;split at hc
   . rename_i hlen;cases hc;refine⟨hlen,fun i hi=>?_⟩;rw[List.getElem?_take,if_pos (by omega),List.getElem?_drop]
   . cases hc
  cases hv with
  | @sl _ c d _ _ _ capC _ h1 h2 h3 h4=>
   have h3:∀n,cap'=some n->capC=n:=fun n hn=>by
    rcases hcc with rfl|rfl
    . exact h3 n hn
    . cases hn
   rcases hB with ⟨c',d',cs,fr,g1,g2,g3,g4,g5⟩|⟨g1,_⟩
   . rw[h1]at g1;cases g1;refine .vs c (off+d) (fun i=>cs.getD (off+d+i) (.bool false)) (fun _=>cn.kE (hnew _ _ _ h1)) h2 h3 (fun i hi=>?_) (fun i y hy=>?_)
     . have hi':i<m'.length:=by omega
       have hlt:off+i<l.length:=by
        have:=hcut.2 i hi';rw[List.getElem?_eq_getElem hi']at this;exact(List.getElem?_eq_some_iff.1 this.symm).1
       have:off+d+i<cs.size:=by have:=g3.1;omega
       simp only[World.cell?,g2];simp[this,Array.getD]
     . have hi:i<m0.length:=(List.getElem?_eq_some_iff.1 hy).1;have hi':i<m'.length:=by omega
       have hx:=hcut.2 i hi';rw[List.getElem?_eq_getElem hi']at hx;have hlt:off+i<l.length:=(List.getElem?_eq_some_iff.1 hx.symm).1;have hs:off+d+i<cs.size:=by have:=g3.1;omega
       refine ih' i m'[i] y (List.getElem?_eq_getElem hi') hy ?_;refine g5 (off+i) _ _ hx.symm ?_;rw[show off+i+d=off+d+i from by omega];simp[hs,Array.getD]
   . rw[h1]at g1;cases g1
  | @eC _ _ h1=>
   rcases hB with ⟨c',d',cs,fr,g1,_⟩|⟨g1,g2⟩
   . rw[h1]at g1;cases g1
   . have:m0=[]:=List.eq_nil_of_length_eq_zero (by omega);subst this;exact .dz (by rcases hcc with rfl|rfl <;> simp)
  | dO c o' h1 _ _=>
   rcases hB with ⟨c',d',cs,fr,g1,_⟩|⟨g1,g2⟩ <;> (rw[h1]at g1;cases g1)
  | eE a h1=>
   rcases hB with ⟨c',d',cs,fr,g1,_⟩|⟨g1,g2⟩ <;> (rw[h1]at g1;cases g1)
  | eA h1=>
   rcases hB with ⟨c',d',cs,fr,g1,_⟩|⟨g1,g2⟩ <;> (rw[h1]at g1;cases g1)
 | @ptr b off l m0 e hb ha hl hg ih=>
  intro _ ht v hv;simp only[AV.top]at ht;have hB:=m.cF b _ (hat ha);cases hv with
  | @ptr _ c d _ h1=>
   rcases hB with ⟨c',d',cs,fr,g1,g2,g3,g4,g5⟩|⟨g1,_⟩
   . rw[h1]at g1;cases g1;refine .vp c (off+d) (fun i=>cs.getD (off+d+i) (.bool false)) (fun _=>cn.kE (hnew _ _ _ h1)) (fun i hi=>?_) (fun i y hy=>?_)
     . have:off+d+i<cs.size:=by have:=g3.1;simp at hl;omega
       simp only[World.cell?,g2];simp[this,Array.getD]
     . have hi:i<m0.length:=(List.getElem?_eq_some_iff.1 hy).1;have hi':i<(l.drop off).length:=by omega
       have hlt:off+i<l.length:=by simp at hi';omega
       have hs:off+d+i<cs.size:=by have:=g3.1;omega
       refine ih i _ y (List.getElem?_eq_getElem hi') hy ?_ (by have:=dZ (n:=0) (by omega) i y hy;omega) ?_
       . rw[List.getElem_drop];exact fP (hT b l e hb ha) (List.getElem?_eq_getElem hlt)
       . refine g5 (off+i) _ _ (by rw[List.getElem_drop];exact List.getElem?_eq_getElem hlt) ?_;rw[show off+i+d=off+d+i from by omega];simp[hs,Array.getD]
   . rw[h1]at g1;cases g1
  | dy _ c o' h1=>
   rcases hB with ⟨c',d',cs,fr,g1,_⟩|⟨g1,g2⟩ <;> (rw[h1]at g1;cases g1)
 | @vs l l0 n cap hl hg ih=>
  intro hn _ v hv;simp only[cM,List.isEmpty_iff]at hn;subst hn;have:l0=[]:=List.eq_nil_of_length_eq_zero (by simp at hl;omega);subst this;cases hv with
  | vs c o g hf h2 h3 h4 h5=>exact .vs c o g (fun h=>absurd rfl h) h2 h3 (by simp) (by simp)
  | dz hc=>exact .dz hc
  | eK a hc=>exact .eK a hc
 | @agg l l0 hl hg ih=>
  intro hn ht v hv;simp only[cM]at hn;simp only[AV.top]at ht;cases hv with
  | @agg _ mm h1 h2=>
   refine .agg (by omega) fun i y z hy hz=>?_
   have hi:i<l.length:=by have:=(List.getElem?_eq_some_iff.1 hy).1;omega
   exact ih i _ y (List.getElem?_eq_getElem hi) hy (fP hn (List.getElem?_eq_getElem hi)) (by have:=dZ (n:=0) (by omega) i y hy;omega) (h2 i _ z (List.getElem?_eq_getElem hi) hz)
 | @aq l l0 hl hg ih=>
  intro hn ht v hv;simp only[cM]at hn;simp only[AV.top]at ht;cases hv with
  | @aq _ mm h1 h2=>
   refine .aq (by omega) fun i y z hy hz=>?_
   have hi:i<l.length:=by have:=(List.getElem?_eq_some_iff.1 hy).1;omega
   exact ih i _ y (List.getElem?_eq_getElem hi) hy (fP hn (List.getElem?_eq_getElem hi)) (by have:=dZ (n:=0) (by omega) i y hy;omega) (h2 i _ z (List.getElem?_eq_getElem hi) hz)
 | @fn f fi fi0 ca ca0 hf h1 h2 g1 g2 ih1 ih2=>
  intro hn ht v hv;simp only[cM,Bool.and_eq_true]at hn;have hh:aY fi0<=0/\aY ca0<=0:=by
   cases f <;> simp only[AV.top]at ht <;> exact⟨by omega,by omega⟩
  cases hv with
  | fn hf' a1 a2 a3 a4=>
   refine .fn hf (by omega) (by omega) (fun i y z hy hz=>?_) (fun i y z hy hz=>?_)
   . have hi:i<fi.length:=by have:=(List.getElem?_eq_some_iff.1 hy).1;omega
     exact ih1 i _ y (List.getElem?_eq_getElem hi) hy (fP hn.1 (List.getElem?_eq_getElem hi)) (by have:=dZ hh.1 i y hy;omega) (a3 i _ z (List.getElem?_eq_getElem hi) hz)
   . have hi:i<ca.length:=by have:=(List.getElem?_eq_some_iff.1 hy).1;omega
     exact ih2 i _ y (List.getElem?_eq_getElem hi) hy (fP hn.2 (List.getElem?_eq_getElem hi)) (by have:=dZ hh.2 i y hy;omega) (a4 i _ z (List.getElem?_eq_getElem hi) hz)
  | yield _=>exact absurd rfl (hf _)
  | fU _ _=>exact absurd rfl (hf _)
theorem PT {w:World}{ρ:au}{h:ab}(m:Mem P gl ρ h w){S T:List Nat}{v v1:AV}{hh:ab}{v':Value}{w':World}(hf:Fr hh T v v1)(hn:cM v=true)(hT:∀b l e,b∈T->hh.at b=some (.cells l e)->dV l=true)(ht:v1.top=0)(hd:dP P gl (cV ρ S) [] w ⟨v,hh,[]⟩ v' w'):dP P gl ρ h w ⟨v1,h,[]⟩ v' w':=by
 obtain⟨ρ',hv,m',x⟩:=hd;have bB:∀c,c<w.heap.size->w'.heap[c]? = w.heap[c]? := fun c hc=>x.bB c hc fun b d hb=>by simp[Go.Ab.cV]at hb
 have new:∀b c d,ρ' b = .live c d->w.heap.size<=c:=fun b c d hb=>by
  rcases Nat.lt_or_ge c w.heap.size with hc|hc
  . rcases x.back b c d hb hc with h1|⟨b0,d0,h1,_⟩ <;> simp[Go.Ab.cV]at h1
  . exact hc
 have hV:=hf.PS m' new hT hn ht hv;have hF:∀c,cn (kE w.heap.size) c->cn ρ c:=fun c hc=>by
  have hge:w.heap.size<=c:=by
   rcases Nat.lt_or_ge c w.heap.size with h|h
   . exact absurd h hc.2
   . exact h
  exact⟨fun b d hb=>by have:=m.bound b c d hb;omega,fun hx=>by have:=m.xb c hx;omega⟩
 have E:Ext h h ρ ρ w w':=⟨x.os,x.tape,x.output,x.size,Nat.le_refl _,rfl,fun _ h=>h,fun _ _=>rfl,fun _ _ _ h=>.inl h,fun _ h=>h,fun _ h=>.inl h,fun c hc _=>bB c hc,fun b c d hb _=>.inl hb,x.shape⟩;refine⟨ρ,hV.fF (n:=0) (fun b hb=>by omega) hF (by omega),m.ext E ?_ m.fresh m.inj ?_,E⟩
 . intro b o hb;exact(m.cF b o hb).mono E rfl fun c d hl=>bB c (m.bound b c d hl)
 . intro b c d hb;exact Nat.lt_of_lt_of_le (m.bound b c d hb) x.size
theorem PU (hs:iQ P gl FT){T:List (Nat×Spec)}(hT:dg P gl (bj T)){f:Nat}{as as0:List AV}{h hh:ab}{S B:List Nat}{v v1:AV}(hr:aU (aZ P FT T) f as0 [] ⟨v,hh,[]⟩)(hv:eO h S as as0)(hf:Fr hh B v v1)(hn:cM v=true)(hB:∀b l e,b∈B->hh.at b=some (.cells l e)->dV l=true)(ht:v1.top=0):bz P gl ⟨f,as,h,⟨v1,h,[]⟩⟩:=by
 have hloc:=qc hs hT hr ⟨Nat.zero_le _,fun _ hb=>absurd hb (Nat.not_lt_zero _)⟩;refine⟨⟨Nat.le_refl _,fun _ _ _=>rfl⟩,fun ρ w as' m hl=>?_⟩;obtain⟨nx,w1,h1,h2⟩:=hloc.2 (cV ρ S) w as' (m.cV hs.gl S) (hv.view m hl);exact⟨nx,w1,h1,h2.mono fun v w' hd=>PT m hf hn hB ht hd⟩
def iB (hh:ab)(v v1:AV):Prop:=∃B,Fr hh B v v1/\cM v=true/\∀b l e,b∈B->hh.at b=some (.cells l e)->dV l=true
theorem iB.same {hh:ab}{v:AV}(ht:v.top=0)(hn:cM v=true):iB hh v v:=⟨[],.same ht,hn,by simp⟩
theorem iB.nil {hh:ab}:iB hh .ae (.vs [] 0 none):=⟨[],.nil (fun n hn=>by cases hn),rfl,by simp⟩
theorem PV (hs:iQ P gl FT){T:List (Nat×Spec)}(hT:dg P gl (bj T)){f:Nat}{as as0:List AV}{h hh:ab}{S:List Nat}{v v1:AV}(hr:aU (aZ P FT T) f as0 [] ⟨v,hh,[]⟩)(hv:eO h S as as0)(hf:iB hh v v1)(ht:v1.top=0):bz P gl ⟨f,as,h,⟨v1,h,[]⟩⟩:=by
 obtain⟨B,h1,h2,h3⟩:=hf;exact PU hs hT hr hv h1 h2 h3 ht
end Go.Ab
namespace Go.Ab
variable {I:al->Prop} {s:al} {S:List Nat} {e:TypeId}
variable {M:ao}
structure LI (I:al->Prop)(Q:Ex->al->Prop)(e:Ex)(s:al):Prop where
 out:match e with
  | .normal=>I s
  | e=>Q e s
theorem cL {Q:Ex->al->Prop}(h:I s):LI I Q .normal s:=⟨h⟩
theorem LX {Q:Ex->al->Prop}{i:Nat}(h:Q (.exit i) s):LI I Q (.exit i) s:=⟨h⟩
theorem FJ {Q:Ex->al->Prop}(h:Q .ret s):LI I Q .ret s:=⟨h⟩
theorem W.fH {c:an}{Q:Ex->al->Prop}(I:Nat->al->Prop)(hs:∀m s,I m s->W M c s (LI (fun s'=>∃m',m'<m/\I m' s') Q)):∀{m:Nat} {s:al},I m s->W M (.loop c) s Q:=by
 intro m;induction m using Nat.strongRecOn with
 | ind m ih=>
  intro s h;refine W.loop ((hs m s h).mono fun e s' he=>?_);cases e with
  | normal=>
   obtain⟨m',hm,hI⟩:=he.out;exact⟨ih m' hm hI⟩
  | exit i=>exact⟨he.out⟩
  | ret=>exact⟨he.out⟩
theorem W.gB {c:an}{Q:Ex->al->Prop}(n:Nat)(I:Nat->al->Prop)(hs:∀i s,i<n->I i s->W M c s (LI (I (i+1)) Q))(he:∀s,I n s->W M c s (LI (fun _=>False) Q)){i:Nat}{s:al}(hi:i<=n)(h:I i s):W M (.loop c) s Q:=by
 refine W.fH (fun m s=>m<=n/\I (n-m) s) (fun m s ⟨hm,h⟩=>?_) (m:=n-i) ⟨Nat.sub_le _ _,by rwa [Nat.sub_sub_self hi]⟩;rcases Nat.eq_zero_or_pos m with rfl|h0
 . exact(he s h).mono fun e s' he=>⟨by
    cases e with
    | normal=>exact he.out.elim
    | exit i=>exact he.out
    | ret=>exact he.out⟩
 . refine(hs (n-m) s (by omega) h).mono fun e s' he=>⟨?_⟩
   cases e with
   | normal=>exact⟨m-1,by omega,by omega,by have:=he.out;rwa [show n-m+1=n-(m-1) by omega]at this⟩
   | exit i=>exact he.out
   | ret=>exact he.out
section
variable {α:Type} {f:α->List AV} {esz t:Nat} {x y:ax} {L:List aO} {pe:List AV} {lo:List (Nat×AV)} {hp:ab} {df wr:List Nat} {l:List α} {cap:Option Nat} {k:IntKind} {n:Int} {Q:al->Prop}
theorem acM (hx:(St.mk pe lo hp df).aa x=some (.vs (arr f l) l.length cap))(hy:(St.mk pe lo hp df).aa y=some (.int k n))(hf:∀a,(f a).length=esz)(hn:0<=n/\n<=l.length)
 (h:WO M L ⟨⟨pe,(t,.vs (arr f (l.take n.toNat)) (l.take n.toNat).length cap)::lo,hp,df⟩,wr⟩ Q):WO M (⟨.l t,.slice .sl esz x none (some y) none,none⟩::L) ⟨⟨pe,lo,hp,df⟩,wr⟩ Q:=by
 refine aac (v:=.vs (arr f (l.take n.toNat)) (l.take n.toNat).length cap) ?_ rfl h;have hle:n.toNat<=l.length:=by omega
 have hl:(l.take n.toNat).length=n.toNat:=by rw[List.length_take];omega
 have hc:cap.map (fun x=>x)=cap:=by cases cap <;> rfl
 have h0:(0:Int)<=n/\n<=(l.length:Int):=by omega
 simp only[aP,hx,St.cE,hy,Option.map_some,gP,br,Option.isNone_none,Option.isSome_some,Bool.true_or,if_true,if_pos h0];simp only[Nat.zero_mul,List.drop_zero,Nat.sub_zero,yD hf,hl,hc]
end
theorem eO.mono {h:ab}{S':List Nat}(hs:∀b∈S,b∈S'){x y:List AV}(hf:eO h S x y):eO h S' x y:=⟨hf.1,fun i a b ha hb=>(hf.2 i a b ha hb).mono hs⟩
def FK {α:Type}(f:α->List AV)(esz:Nat)(e:TypeId)(hp:ab)(o:AV)(acc:List α)(S:List Nat):Prop:=
 (acc=[]/\o = .ae)\/∃c cs,acc≠[]/\c∉S/\o = .sl c 0 acc.length esz none/\hp.at c=some (.cells cs e)/\cs.length=acc.length*esz/\cs.all cw=true/\eO hp S cs (arr f acc)
theorem FK.nil {α:Type}{f:α->List AV}{esz:Nat}{hp:ab}:FK f esz e hp .ae ([]:List α) S:=.inl ⟨rfl,rfl⟩
theorem jS.grow {α:Type}{f:α->List AV}{esz:Nat}{hp:ab}{o:AV}{acc:List α}(h:jS f esz e hp o acc [])(x:Option bc):jS f esz e (hp++[x]) o acc [hp.length]:=by
 rcases h with h|⟨c,h0,h1,h2,h3⟩
 . exact .inl h
 . exact .inr ⟨c,h0,by have:=dQ h3;simp;omega,h2,de h3⟩
theorem jS.less {α:Type}{f:α->List AV}{esz:Nat}{hp:ab}{o:AV}{acc:List α}(h:jS f esz e hp o acc S):jS f esz e hp o acc []:=by
 rcases h with h|⟨c,h0,h1,h2,h3⟩
 . exact .inl h
 . exact .inr ⟨c,h0,by simp,h2,h3⟩
theorem PW {α:Type}{f:α->List AV}{esz:Nat}{hp:ab}{c n:Nat}{cap:Option Nat}{l:List α}(hf:∀a,(f a).length=esz)(ht:∀a,aY (f a)=0)(h:hp.at c=some (.cells (arr f l) e))(hn:l.length=n):Fr hp [c] (.sl c 0 n esz cap) (.vs (arr f l) l.length none):=by
 subst hn;have:=jQ hf (l:=l) (i:=0) (n:=l.length) (by omega);rw[Nat.zero_mul]at this;refine .sl (List.mem_singleton.2 rfl) h this (by simp) (fun i x y hx hy=>?_) (.inr rfl);simp at hx;rw[hx]at hy;cases hy;exact .same (by have:=dZ (n:=0) (Nat.le_of_eq (kB ht l)) i x hx;omega)
end Go.Ab
namespace Go.Ab
variable {M:ao} {α:Type} {f:α->List AV} {esz:Nat} {e:TypeId} {hp H:ab} {o y:AV} {acc m:List α} {S S':List Nat}
theorem Sl.cells (_hf:∀a,(f a).length=esz)(h:Sl f hp y m):dF hp y=some (arr f m,m.length):=by
 rcases h with ⟨rfl,rfl⟩|⟨cap,rfl⟩|⟨b,off,ez,cap,c,e,rfl,h1,h2⟩
 . rfl
 . rfl
 . simp only[dF,h1,h2,Option.map_some]
def bP (f:α->List AV)(esz:Nat)(e:TypeId)(hp:ab)(o:AV)(acc:List α)(S:List Nat):Prop:=
 (acc=[]/\o = .ae)\/∃c cap,c∉S/\o = .sl c 0 acc.length esz cap/\hp.at c=some (.cells (arr f acc) e)/\(cap=none\/acc=[]/\cap=some 0)
theorem bP.nH:bP f esz e hp .ae ([]:List α) S:=.inl ⟨rfl,rfl⟩
theorem bP.new:bP f esz e (hp++[some (.cells [] e)]) (.sl hp.length 0 0 esz (some 0)) ([]:List α) (S.filter (· < hp.length)):=by
 refine .inr ⟨hp.length,some 0,?_,rfl,cN,.inr ⟨rfl,rfl⟩⟩;simp
theorem bP.sl (hf:∀a,(f a).length=esz)(h:bP f esz e hp o acc S):Sl f hp o acc:=by
 rcases h with ⟨rfl,rfl⟩|⟨c,cap,_,rfl,h1,_⟩
 . exact .nH
 . exact .ir hf h1 rfl
def mc (o:AV):List Nat:=dI (some o)
theorem bP.bW (h:bP f esz e hp o acc S)(hk:∀b x,b∈mc o->hp.at b=some x->H.at b=some x)(hs:∀b,b∈mc o->b∉S->b∉S'):bP f esz e H o acc S':=by
 rcases h with h|⟨c,cap,h0,rfl,h1,h2⟩
 . exact .inl h
 . exact .inr ⟨c,cap,hs c (by simp[mc,dI]) h0,rfl,hk _ _ (by simp[mc,dI]) h1,h2⟩
theorem bP.lt (h:bP f esz e hp o acc S):∀b∈mc o,b<hp.length:=by
 rcases h with ⟨_,rfl⟩|⟨c,cap,h0,rfl,h1,h2⟩
 . intro b hb;simp[mc,dI]at hb
 . intro b hb;simp only[mc,dI,List.mem_singleton]at hb;subst hb;exact dQ h1
theorem bP.grow (h:bP f esz e hp o acc S)(J:ab):bP f esz e (hp++J) o acc S:=h.bW (fun _b _x _ hx=>de hx) (fun _b _ h=>h)
theorem bP.app {bytes t:Nat}{l:List aO}{pe:List AV}{lo:List (Nat×AV)}{df wr:List Nat}{a b:ax}{Q:al->Prop}(hf:∀a,(f a).length=esz)(h1:∀a,(f a).all cw=true)(hb0:0<bytes)
 (h:bP f esz e hp o acc S) (hS:∀x∈S,x<hp.length) (ha:(St.mk pe lo hp df).aa a=some o) (hb:(St.mk pe lo hp df).aa b=some y) (hy:Sl f hp y m)
 (hn:(acc.length+m.length)*bytes<=dh) (hQ:∀(H:ab) (w':List Nat) o',bP f esz e H o' (acc++m) S->(∀x v,x∈S->hp.at x=some v->H.at x=some v)->hp.length<=H.length->WO M l ⟨⟨pe,(t,o')::lo,H,df⟩,w'⟩ Q):WO M (⟨.l t,.append e esz bytes a b,none⟩::l) ⟨⟨pe,lo,hp,df⟩,wr⟩ Q:=by
 have hs:=hy.cells hf;have hone:(arr f m).all cw=true:=FF h1 m;have hcond:(arr f m).length=m.length*esz/\0<bytes/\(arr f m).all cw=true:=⟨js hf m,hb0,hone⟩;by_cases hm:m=[]
 . subst hm;rw[List.append_nil]at hQ;refine aaD (v:=o) (h':=hp) (w':=[]) ?_ rfl rfl (hQ hp _ o h (fun _ _ _ hx=>hx) (Nat.le_refl _));simp only[bg,ha,hb,fM,hs,if_pos hcond];rcases h with ⟨_,rfl⟩|⟨c,cap,_,rfl,_,_⟩ <;> simp
 . have hp0:m.length≠0:=fun h=>hm (List.eq_nil_of_length_eq_zero h)
   rcases h with ⟨rfl,rfl⟩|⟨c,cap,hc,rfl,hat,hcap⟩
   . refine aaD (v:=.sl hp.length 0 m.length esz none) (h':=hp++[some (.cells (arr f m) e)]) (w':=[]) ?_ rfl rfl (hQ _ _ _ (.inr ⟨hp.length,none,fun h=>by have:=hS _ h;omega,by simp,cN,.inl rfl⟩) (fun x v _ hx=>de hx) (by simp));simp only[bg,ha,hb,fM,hs,if_pos hcond,if_neg hp0];rw[if_pos (by simpa using hn)]
   . rcases hcap with rfl|⟨rfl,rfl⟩
     . refine aaD (v:=.sl hp.length 0 (acc.length+m.length) esz none) (h':=hp.put c none++[some (.cells (arr f acc++arr f m) e)]) (w':=[c]) ?_ rfl rfl (hQ _ _ _ (.inr ⟨hp.length,none,fun h=>by have:=hS _ h;omega,by simp,?_,.inl rfl⟩) (fun x v hx hv=>de (jR (fun ee=>hc (ee ▸ hx)) hv)) (by simp[gG]))
       . simp only[bg,ha,hb,fM,hs,if_pos hcond,if_neg hp0,hat];rw[if_pos ⟨trivial,hn⟩,if_pos ⟨by rw[js hf];omega,trivial⟩,List.drop_zero]
       . have:(hp.put c none).length=hp.length:=gG;rw[←this,cN,yB]
     . refine aaD (v:=.sl hp.length 0 m.length esz none) (h':=hp++[some (.cells (arr f m) e)]) (w':=[]) ?_ rfl rfl (hQ _ _ _ (.inr ⟨hp.length,none,fun h=>by have:=hS _ h;omega,by simp,by rw[List.nil_append];exact cN,.inl rfl⟩) (fun x v _ hx=>de hx) (by simp));simp only[bg,ha,hb,fM,hs,if_pos hcond,if_neg hp0,hat,List.length_nil,Nat.zero_add,Nat.zero_mul];rw[if_pos ⟨trivial,by simpa using hn⟩,if_neg (by omega)];simp[cut,arr]
theorem bP.PX (hf:∀a,(f a).length=esz)(ht:∀a,aY (f a)=0)(hn:∀a,dV (f a)=true)(h:bP f esz e hp o acc S):iB (if (aQ [o]).top<=0 then [] else hp) o (.vs (arr f acc) acc.length none):=by
 rcases h with ⟨rfl,rfl⟩|⟨c,cap,_,rfl,h4,_⟩
 . exact .nil
 . rw[if_neg (by simp[aQ,AV.top])];refine⟨[c],PW hf ht h4 rfl,rfl,fun b l e' hb hl=>?_⟩;rw[List.mem_singleton.1 hb,h4]at hl;cases hl;exact lT hn acc
end Go.Ab
namespace Go.Ab
variable {M:ao}
theorem bP.one {α:Type}{f:α->List AV}{esz:Nat}{e:TypeId}{hp:ab}{o:AV}{acc:List α}{S:List Nat}(h:bP f esz e hp o acc S):AV.cells o=some [o]/\cw o=true:=by
 rcases h with ⟨_,rfl⟩|⟨c,cap,_,rfl,_,_⟩ <;> exact⟨rfl,rfl⟩
end Go.Ab
namespace Go.Ab
variable {M:ao}
end Go.Ab
namespace Go.Ab
variable {h:ab} {l m m':List AV} {a x:AV}
variable {M:ao} {P:Program} {gl:Nat->Option AV}
theorem aU.FL {f:FuncId}{as:List AV}{r r':HR}(h1:aU M f as h r)(h2:aU M f as h r'):r=r':=by
 obtain⟨n,hn⟩:=h1;obtain⟨m,hm⟩:=h2;have a1:=tr (tu (Nat.le_max_left n m)) hn;have a2:=tr (tu (Nat.le_max_right n m)) hm;exact Option.some.inj (a1.symm.trans a2)
mutual
def bI:AV->AV
 | .ae=>.vs [] 0 none
 | .vs l n _=>.vs (dx l) n none
 | .vp l=>.vp (dx l)
 | .agg l=>.agg (dx l)
 | .aq l=>.aq (dx l)
 | .fn f a b=>.fn f (dx a) (dx b)
 | .iface t v=>.iface t (bI v)
 | v=>v
def dx:List AV->List AV
 | []=>[]
 | v::r=>bI v::dx r
end
theorem iD:∀{l m:List AV},l.length=m.length->(∀(i:Nat) x y,l[i]? = some x->m[i]? = some y->bI x=bI y)->dx l=dx m
 | [],[],_,_=>rfl
 | x::l,y::m,hl,h=>by
  rw[dx,dx,h 0 x y rfl rfl,iD (by simpa using hl) fun i a b ha hb=>h (i+1) a b ha hb]
theorem me (h1:l.length=m.length)(h2:l.length=m'.length)(h:∀(i:Nat) a x y,l[i]? = some a->m[i]? = some x->m'[i]? = some y->bI x=bI y):dx m=dx m':=
 iD (h1.symm.trans h2) fun i x y hx hy=>by
  have hi:i<l.length:=by rw[h1];exact(List.getElem?_eq_some_iff.1 hx).1
  exact h i l[i] x y (List.getElem?_eq_getElem hi) hx hy
theorem FM (hl:l.length=m.length)(h:∀(i:Nat) x y,l[i]? = some x->m[i]? = some y->x=y):l=m:=
 List.ext_getElem hl fun i h1 h2=>h i _ _ (List.getElem?_eq_getElem h1) (List.getElem?_eq_getElem h2)
theorem yJ (h1:l.length=m.length)(h2:l.length=m'.length)(h:∀(i:Nat) a x y,l[i]? = some a->m[i]? = some x->m'[i]? = some y->x=y):m=m':=
 FM (h1.symm.trans h2) fun i x y hx hy=>by
  have hi:i<l.length:=by rw[h1];exact(List.getElem?_eq_some_iff.1 hx).1
  exact h i l[i] x y (List.getElem?_eq_getElem hi) hx hy
theorem FN:∀(l m:List AV),dx (l++m)=dx l++dx m
 | [],m=>rfl
 | x::l,m=>by rw[List.cons_append,dx,dx,FN l m];rfl
theorem yK {α:Type}{f:α->List AV}(hf:∀a,dx (f a)=f a):∀l,dx (arr f l)=arr f l
 | []=>rfl
 | a::l=>by rw[jr,FN,hf,yK hf l]
theorem bZ (h:aY l=0){i:Nat}{x:AV}(hx:l[i]? = some x):x.top=0:=by
 have:=dZ (n:=0) (by omega) i x hx;omega
theorem Fr.iR {S:List Nat}(hr:Fr h S a x):a.top=0->bI a=bI x:=by
 induction hr with
 | same ht=>exact fun _=>rfl
 | nil hc=>exact fun _=>by simp[bI,dx]
 | sl=>intro ht;simp[AV.top]at ht
 | ptr=>intro ht;simp[AV.top]at ht
 | vs hl hg ih=>intro ht;rw[bI,bI,iD hl fun i x y hx hy=>ih i x y hx hy (bZ ht hx)]
 | agg hl hg ih=>intro ht;rw[bI,bI,iD hl fun i x y hx hy=>ih i x y hx hy (bZ ht hx)]
 | aq hl hg ih=>intro ht;rw[bI,bI,iD hl fun i x y hx hy=>ih i x y hx hy (bZ ht hx)]
 | fn hf h1 h2 g1 g2 i1 i2=>
  intro ht;simp only[AV.top]at ht;rw[bI,bI,iD h1 fun i x y hx hy=>i1 i x y hx hy (bZ (by omega) hx),iD h2 fun i x y hx hy=>i2 i x y hx hy (bZ (by omega) hx)]
theorem Fr.can {S:List Nat}(hr:Fr h S a x):x.top=0->∀{S':List Nat} {y:AV},Fr h S' a y->y.top=0->bI x=bI y:=by
 induction hr with
 | same ht=>exact fun _ S' y hy _=>hy.iR ht
 | nil hc=>exact fun _ S' y hy _=>by cases hy <;> simp[bI,dx]
 | sl hb ha hc hl hg hcc ih=>
  intro hx S' y hy hyt;cases hy with
  | same ht=>simp[AV.top]at ht
  | sl hb' ha' hc' hl' hg' hcc'=>
   rw[ha]at ha';cases ha';rw[hc]at hc';cases hc';rw[bI,bI,me hl hl' fun i a x y h1 h2 h3=>ih i a x h1 h2 (bZ hx h2) (hg' i a y h1 h3) (bZ hyt h3)]
 | ptr hb ha hl hg ih=>
  intro hx S' y hy hyt;cases hy with
  | same ht=>simp[AV.top]at ht
  | ptr hb' ha' hl' hg'=>
   rw[ha]at ha';cases ha';rw[bI,bI,me hl hl' fun i a x y h1 h2 h3=>ih i a x h1 h2 (bZ hx h2) (hg' i a y h1 h3) (bZ hyt h3)]
 | vs hl hg ih=>
  intro hx S' y hy hyt;cases hy with
  | same ht=>rw[bI,bI,iD hl.symm fun i x y hx' hy'=>((hg i y x hy' hx').iR (bZ ht hy')).symm]
  | vs hl' hg'=>rw[bI,bI,me hl hl' fun i a x y h1 h2 h3=>ih i a x h1 h2 (bZ hx h2) (hg' i a y h1 h3) (bZ hyt h3)]
 | agg hl hg ih=>
  intro hx S' y hy hyt;cases hy with
  | same ht=>rw[bI,bI,iD hl.symm fun i x y hx' hy'=>((hg i y x hy' hx').iR (bZ ht hy')).symm]
  | agg hl' hg'=>rw[bI,bI,me hl hl' fun i a x y h1 h2 h3=>ih i a x h1 h2 (bZ hx h2) (hg' i a y h1 h3) (bZ hyt h3)]
 | aq hl hg ih=>
  intro hx S' y hy hyt;cases hy with
  | same ht=>rw[bI,bI,iD hl.symm fun i x y hx' hy'=>((hg i y x hy' hx').iR (bZ ht hy')).symm]
  | aq hl' hg'=>rw[bI,bI,me hl hl' fun i a x y h1 h2 h3=>ih i a x h1 h2 (bZ hx h2) (hg' i a y h1 h3) (bZ hyt h3)]
 | fn hf h1 h2 g1 g2 i1 i2=>
  intro hx S' y hy hyt;simp only[AV.top]at hx;cases hy with
  | same ht=>
   simp only[AV.top]at ht;rw[bI,bI,iD h1.symm fun i x y hx' hy'=>((g1 i y x hy' hx').iR (bZ (by omega) hy')).symm,iD h2.symm fun i x y hx' hy'=>((g2 i y x hy' hx').iR (bZ (by omega) hy')).symm]
  | fn hf' h1' h2' g1' g2'=>
   simp only[AV.top]at hyt;rw[bI,bI,me h1 h1' fun i a x y e1 e2 e3=>i1 i a x e1 e2 (bZ (by omega) e2) (g1' i a y e1 e3) (bZ (by omega) e3),
     me h2 h2' fun i a x y e1 e2 e3=>i2 i a x e1 e2 (bZ (by omega) e2) (g2' i a y e1 e3) (bZ (by omega) e3)]
def nI:AV->Bool
 | .int _ _=>true
 | .bool _=>true
 | .str _=>true
 | .fn f [] []=>match f with | .yield _=>false|_=>true
 | _=>false
inductive cX (h:ab):AV->AV->Prop
 | atom {a:AV} (ha:nI a=true):cX h a a
 | nil:cX h .ae (.vs [] 0 none)
 | sl {b off len esz:Nat} {cap:Option Nat} {l m m0:List AV} {e:TypeId} (ha:h.at b=some (.cells l e)) (hc:cut l off (len*esz)=some m) (hl:m.length=m0.length)
     (hg:∀(i:Nat) x y,m[i]? = some x->m0[i]? = some y->cX h x y):cX h (.sl b off len esz cap) (.vs m0 len none)
 | vs {l l0:List AV} {n:Nat} {cap:Option Nat} (hl:l.length=l0.length) (hg:∀(i:Nat) x y,l[i]? = some x->l0[i]? = some y->cX h x y):cX h (.vs l n cap) (.vs l0 n cap)
 | agg {l l0:List AV} (hl:l.length=l0.length) (hg:∀(i:Nat) x y,l[i]? = some x->l0[i]? = some y->cX h x y):cX h (.agg l) (.agg l0)
def fw (h:ab)(l l0:List AV):Prop:=l.length=l0.length/\∀(i:Nat) x y,l[i]? = some x->l0[i]? = some y->cX h x y
theorem fw.nil:fw h [] []:=⟨rfl,by simp⟩
theorem fw.cons {y:AV}(h1:cX h x y)(h2:fw h l m):fw h (x::l) (y::m):=by
 refine⟨by simp[h2.1],fun i a b ha hb=>?_⟩;cases i with
 | zero=>simp at ha hb;subst ha;subst hb;exact h1
 | succ i=>simp at ha hb;exact h2.2 i a b ha hb
theorem yL (h:nI a=true):a.top=0:=by
 cases a with
 | fn f fi ca=>
  cases fi <;> cases ca <;> first|(simp[nI]at h;done)|skip
  cases f <;> first|rfl|cases h
 | _=>first|rfl|cases h
theorem PY (h:nI a=true):cM a=true:=by
 cases a with
 | fn f fi ca=>cases fi <;> cases ca <;> first|rfl|cases h
 | _=>first|rfl|cases h
theorem PZ (h:nI a=true):bI a=a:=by
 cases a with
 | fn f fi ca=>cases fi <;> cases ca <;> first|rfl|cases h
 | _=>first|rfl|cases h
theorem cX.fr (hr:cX h a x):Fr h (List.range h.length) a x:=by
 induction hr with
 | atom ha=>exact .same (yL ha)
 | nil=>exact .nil (fun n hn=>by cases hn)
 | sl ha hc hl hg ih=>exact .sl (List.mem_range.2 (dQ ha)) ha hc hl ih (.inr rfl)
 | vs hl hg ih=>exact .vs hl ih
 | agg hl hg ih=>exact .agg hl ih
theorem fw.fr {l0:List AV}(hr:fw h l l0):eO h (List.range h.length) l l0:=⟨hr.1,fun i x y hx hy=>(hr.2 i x y hx hy).fr⟩
theorem cX.uniq (hr:cX h a x):∀{y:AV},cX h a y->x=y:=by
 induction hr with
 | atom ha=>intro y hy;cases hy <;> first|rfl|cases ha
 | nil=>intro y hy;cases hy with
   | atom ha=>cases ha
   | nil=>rfl
 | sl ha hc hl hg ih=>
  intro y hy;cases hy with
  | atom ha=>cases ha
  | sl ha' hc' hl' hg'=>
   rw[ha]at ha';cases ha';rw[hc]at hc';cases hc';rw[yJ hl hl' fun i a x y h1 h2 h3=>ih i a x h1 h2 (hg' i a y h1 h3)]
 | vs hl hg ih=>
  intro y hy;cases hy with
  | atom ha=>cases ha
  | vs hl' hg'=>rw[yJ hl hl' fun i a x y h1 h2 h3=>ih i a x h1 h2 (hg' i a y h1 h3)]
 | agg hl hg ih=>
  intro y hy;cases hy with
  | atom ha=>cases ha
  | agg hl' hg'=>rw[yJ hl hl' fun i a x y h1 h2 h3=>ih i a x h1 h2 (hg' i a y h1 h3)]
theorem fw.uniq (h1:fw h l m)(h2:fw h l m'):m=m':=
 FM (h1.1.symm.trans h2.1) fun i x y hx hy=>by
  have hi:i<l.length:=by rw[h1.1];exact(List.getElem?_eq_some_iff.1 hx).1
  exact(h1.2 i l[i] x (List.getElem?_eq_getElem hi) hx).uniq (h2.2 i l[i] y (List.getElem?_eq_getElem hi) hy)
theorem fw.app:∀{l m l' m':List AV},fw h l m->fw h l' m'->fw h (l++l') (m++m')
 | [],[],_,_,_,h2=>h2
 | x::l,y::m,l',m',h1,h2=>.cons (h1.2 0 x y rfl rfl) (fw.app ⟨by simpa using h1.1,fun i a b ha hb=>h1.2 (i+1) a b ha hb⟩ h2)
 | [],y::m,_,_,h1,_=>by have:=h1.1;simp at this
 | x::l,[],_,_,h1,_=>by have:=h1.1;simp at this
abbrev qi (h:ab)(l:List AV):Prop:=fw h l l
theorem tH {α:Type}{f:α->List AV}{h:ab}(hf:∀a,qi h (f a)):∀l,qi h (arr f l)
 | []=>.nil
 | a::l=>by rw[jr];exact(hf a).app (tH hf l)
theorem cX.lZ {n:Nat}{cap:Option Nat}(hl:qi h l):cX h (.vs l n cap) (.vs l n cap):=.vs rfl hl.2
def tI (P:Program)(FT:FuncId->Option cK)(T:List (Nat×Spec))(g:Nat)(as0:List AV)(v1:AV):Prop:=∃v hh,aU (aZ P FT T) g as0 [] ⟨v,hh,[]⟩/\iB hh v v1/\v1.top=0/\bI v1=v1
theorem tI.of {FT:FuncId->Option cK}{T:List (Nat×Spec)}{g:Nat}{as0:List AV}{v:AV}{hh:ab}(hr:aU (aZ P FT T) g as0 [] ⟨v,hh,[]⟩)(ha:nI v=true:=by rfl):tI P FT T g as0 v:=
 ⟨v,hh,hr,.same (yL ha) (PY ha),yL ha,PZ ha⟩
theorem tI.new {FT:FuncId->Option cK}{T:List (Nat×Spec)}{g:Nat}{as0:List AV}{v1:AV}(hr:∃v hh,iB hh v v1/\aU (aZ P FT T) g as0 [] ⟨v,hh,[]⟩)(ht:v1.top=0)(hc:bI v1=v1):tI P FT T g as0 v1:=by
 obtain⟨v,hh,h1,h2⟩:=hr;exact⟨v,hh,h2,h1,ht,hc⟩
theorem enter:(∀(f:Nat -> AV) a l,(a::l).map f=f a::l.map f) /\ (∀f:Nat -> AV,[].map f=[]) /\ (∀(a:AV) (l:List AV),(a::l)[0]? = some a) /\ (∀(a:AV) (l:List AV) (n:Nat),(a::l)[n+1]? = l[n]?) /\ (∀n:Nat,([]:List AV)[n]? = none) /\ (∀a b:AV,(some a).getD b=a) /\ ∀b:AV,none.getD b=b:=
  ⟨fun _ _ _=>rfl,fun _=>rfl,fun _ _=>rfl,fun _ _ _=>rfl,fun _=>rfl,fun _ _=>rfl,fun _=>rfl⟩
end Go.Ab
namespace Go.Ab
variable {l as:List AV} {h:ab} {x:AV} {FT:FuncId->Option cK} {T:List (Nat×Spec)} {g:Nat}
variable {M:ao} {P:Program} {gl:Nat->Option AV}
mutual
def bx:AV->AV
 | .vs l n _=>.vs (cB l) n none
 | .vp l=>.vp (cB l)
 | .agg l=>.agg (cB l)
 | .aq l=>.aq (cB l)
 | .fn f a b=>.fn f (cB a) (cB b)
 | .iface t v=>.iface t (bx v)
 | v=>v
def cB:List AV->List AV
 | []=>[]
 | v::r=>bx v::cB r
end
theorem kG:∀{l m:List AV},l.length=m.length->(∀(i:Nat) x y,l[i]? = some x->m[i]? = some y->bx x=bx y)->cB l=cB m
 | [],[],_,_=>rfl
 | x::l,y::m,hl,h=>by
  rw[cB,cB,h 0 x y rfl rfl,kG (by simpa using hl) fun i a b ha hb=>h (i+1) a b ha hb]
theorem tJ {m m':List AV}(h1:l.length=m.length)(h2:l.length=m'.length)(h:∀(i:Nat) a x y,l[i]? = some a->m[i]? = some x->m'[i]? = some y->bx x=bx y):cB m=cB m':=
 kG (h1.symm.trans h2) fun i x y hx hy=>by
  have hi:i<l.length:=by rw[h1];exact(List.getElem?_eq_some_iff.1 hx).1
  exact h i l[i] x y (List.getElem?_eq_getElem hi) hx hy
theorem FO:∀(l m:List AV),cB (l++m)=cB l++cB m
 | [],m=>rfl
 | x::l,m=>by rw[List.cons_append,cB,cB,FO l m];rfl
theorem yM {α:Type}{f:α->List AV}(hf:∀a,cB (f a)=f a):∀l,cB (arr f l)=arr f l
 | []=>rfl
 | a::l=>by rw[jr,FO,hf,yM hf l]
inductive eh (h:ab):AV->AV->Prop
 | same {v:AV} (ht:v.top=0):eh h v v
 | sl {b off len esz:Nat} {cap:Option Nat} {l m m0:List AV} {e:TypeId} (ha:h.at b=some (.cells l e)) (hc:cut l off (len*esz)=some m) (hl:m.length=m0.length)
     (hg:∀(i:Nat) x y,m[i]? = some x->m0[i]? = some y->eh h x y):eh h (.sl b off len esz cap) (.vs m0 len none)
 | vs {l l0:List AV} {n:Nat} {cap:Option Nat} (hl:l.length=l0.length) (hg:∀(i:Nat) x y,l[i]? = some x->l0[i]? = some y->eh h x y):eh h (.vs l n cap) (.vs l0 n cap)
 | agg {l l0:List AV} (hl:l.length=l0.length) (hg:∀(i:Nat) x y,l[i]? = some x->l0[i]? = some y->eh h x y):eh h (.agg l) (.agg l0)
 | aq {l l0:List AV} (hl:l.length=l0.length) (hg:∀(i:Nat) x y,l[i]? = some x->l0[i]? = some y->eh h x y):eh h (.aq l) (.aq l0)
theorem eh.fr {a:AV}(hr:eh h a x):Fr h (List.range h.length) a x:=by
 induction hr with
 | same ht=>exact .same ht
 | sl ha hc hl hg ih=>exact .sl (List.mem_range.2 (dQ ha)) ha hc hl ih (.inr rfl)
 | vs hl hg ih=>exact .vs hl ih
 | agg hl hg ih=>exact .agg hl ih
 | aq hl hg ih=>exact .aq hl ih
theorem eh.iR {a:AV}(hr:eh h a x):a.top=0->bx a=bx x:=by
 induction hr with
 | same ht=>exact fun _=>rfl
 | sl=>intro ht;simp[AV.top]at ht
 | vs hl hg ih=>intro ht;rw[bx,bx,kG hl fun i x y hx hy=>ih i x y hx hy (bZ ht hx)]
 | agg hl hg ih=>intro ht;rw[bx,bx,kG hl fun i x y hx hy=>ih i x y hx hy (bZ ht hx)]
 | aq hl hg ih=>intro ht;rw[bx,bx,kG hl fun i x y hx hy=>ih i x y hx hy (bZ ht hx)]
theorem eh.can {a:AV}(hr:eh h a x):x.top=0->∀{y:AV},eh h a y->y.top=0->bx x=bx y:=by
 induction hr with
 | same ht=>exact fun _ y hy _=>hy.iR ht
 | sl ha hc hl hg ih=>
  intro hx y hy hyt;cases hy with
  | same ht=>simp[AV.top]at ht
  | sl ha' hc' hl' hg'=>
   rw[ha]at ha';cases ha';rw[hc]at hc';cases hc';rw[bx,bx,tJ hl hl' fun i a x y h1 h2 h3=>ih i a x h1 h2 (bZ hx h2) (hg' i a y h1 h3) (bZ hyt h3)]
 | vs hl hg ih=>
  intro hx y hy hyt;cases hy with
  | same ht=>rw[bx,bx,kG hl.symm fun i x y hx' hy'=>((hg i y x hy' hx').iR (bZ ht hy')).symm]
  | vs hl' hg'=>rw[bx,bx,tJ hl hl' fun i a x y h1 h2 h3=>ih i a x h1 h2 (bZ hx h2) (hg' i a y h1 h3) (bZ hyt h3)]
 | agg hl hg ih=>
  intro hx y hy hyt;cases hy with
  | same ht=>rw[bx,bx,kG hl.symm fun i x y hx' hy'=>((hg i y x hy' hx').iR (bZ ht hy')).symm]
  | agg hl' hg'=>rw[bx,bx,tJ hl hl' fun i a x y h1 h2 h3=>ih i a x h1 h2 (bZ hx h2) (hg' i a y h1 h3) (bZ hyt h3)]
 | aq hl hg ih=>
  intro hx y hy hyt;cases hy with
  | same ht=>rw[bx,bx,kG hl.symm fun i x y hx' hy'=>((hg i y x hy' hx').iR (bZ ht hy')).symm]
  | aq hl' hg'=>rw[bx,bx,tJ hl hl' fun i a x y h1 h2 h3=>ih i a x h1 h2 (bZ hx h2) (hg' i a y h1 h3) (bZ hyt h3)]
theorem nJ {i:Nat}(h:(dx l)[i]? = some x):∃y,l[i]? = some y/\x=bI y:=by
 induction l generalizing i with
 | nil=>simp[dx]at h
 | cons a l ih=>
  rw[dx]at h;cases i with
  | zero=>simp at h;exact⟨a,rfl,h.symm⟩
  | succ i=>exact ih (by simpa using h)
theorem mf:∀l:List AV,(dx l).length=l.length
 | []=>rfl
 | a::l=>by rw[dx,List.length_cons,List.length_cons,mf l]
theorem nK {i:Nat}(h:(cB l)[i]? = some x):∃y,l[i]? = some y/\x=bx y:=by
 induction l generalizing i with
 | nil=>simp[cB]at h
 | cons a l ih=>
  rw[cB]at h;cases i with
  | zero=>simp at h;exact⟨a,rfl,h.symm⟩
  | succ i=>exact ih (by simpa using h)
theorem mg:∀l:List AV,(cB l).length=l.length
 | []=>rfl
 | a::l=>by rw[cB,List.length_cons,List.length_cons,mg l]
section
variable {ρ:au} {w:World} {a:AV} {v:Value}
theorem V.bx (hv:V ρ w a v):V ρ w (bx a) v:=by
 induction hv with
 | cz v=>exact .cz v
 | bool b=>exact .bool b
 | int k n=>exact .int k n
 | str s=>exact .str s
 | dE=>exact .dE
 | ptr o h=>exact .ptr o h
 | dy o c o' h=>exact .dy o c o' h
 | vp c o g hf hc hg ih=>
  exact .vp c o g (fun h=>hf fun e=>h (by rw[e];rfl)) (fun i hi=>hc i (by rwa [mg]at hi)) fun i x hx=>by
   obtain⟨y,hy,rfl⟩:=nK hx;exact ih i y hy
 | ae=>exact .ae
 | sl h hl hcap hb=>exact .sl h hl hcap hb
 | eC h=>exact .eC h
 | dO c o' h hl hcap=>exact .dO c o' h hl hcap
 | eA h=>exact .eA h
 | eE a h=>exact .eE a h
 | vs c o g hf hl hcap hc hg ih=>
  exact .vs c o g (fun h=>hf fun e=>h (by rw[e];rfl)) hl (fun n hn=>by cases hn) (fun i hi=>hc i (by rwa [mg]at hi)) fun i x hx=>by
   obtain⟨y,hy,rfl⟩:=nK hx;exact ih i y hy
 | dz hcap=>exact .dz (fun n hn=>by cases hn)
 | eK a hcap=>exact .eK a (fun n hn=>by cases hn)
 | dL=>exact .dL
 | map h=>exact .map h
 | gr c h=>exact .gr c h
 | yield h=>exact .yield h
 | fn hf h1 h2 g1 g2 i1 i2=>
  exact .fn hf (by rw[mg];exact h1) (by rw[mg];exact h2) (fun i x y hx hy=>by
   obtain⟨z,hz,rfl⟩:=nK hx;exact i1 i z y hz hy) fun i x y hx hy=>by
   obtain⟨z,hz,rfl⟩:=nK hx;exact i2 i z y hz hy
 | fU c h=>exact .fU c h
 | fa=>exact .fa
 | iface h ih=>exact .iface ih
 | cZ=>exact .cZ
 | agg h g ih=>
  exact .agg (by rw[mg];exact h) fun i x y hx hy=>by
   obtain⟨z,hz,rfl⟩:=nK hx;exact ih i z y hz hy
 | aq h g ih=>
  exact .aq (by rw[mg];exact h) fun i x y hx hy=>by
   obtain⟨z,hz,rfl⟩:=nK hx;exact ih i z y hz hy
theorem V.bI (hv:V ρ w a v):V ρ w (bI a) v:=by
 induction hv with
 | cz v=>exact .cz v
 | bool b=>exact .bool b
 | int k n=>exact .int k n
 | str s=>exact .str s
 | dE=>exact .dE
 | ptr o h=>exact .ptr o h
 | dy o c o' h=>exact .dy o c o' h
 | vp c o g hf hc hg ih=>
  exact .vp c o g (fun h=>hf fun e=>h (by rw[e];rfl)) (fun i hi=>hc i (by rwa [mf]at hi)) fun i x hx=>by
   obtain⟨y,hy,rfl⟩:=nJ hx;exact ih i y hy
 | ae=>exact .dz (fun n hn=>by cases hn)
 | sl h hl hcap hb=>exact .sl h hl hcap hb
 | eC h=>exact .eC h
 | dO c o' h hl hcap=>exact .dO c o' h hl hcap
 | eA h=>exact .eA h
 | eE a h=>exact .eE a h
 | vs c o g hf hl hcap hc hg ih=>
  exact .vs c o g (fun h=>hf fun e=>h (by rw[e];rfl)) hl (fun n hn=>by cases hn) (fun i hi=>hc i (by rwa [mf]at hi)) fun i x hx=>by
   obtain⟨y,hy,rfl⟩:=nJ hx;exact ih i y hy
 | dz hcap=>exact .dz (fun n hn=>by cases hn)
 | eK a hcap=>exact .eK a (fun n hn=>by cases hn)
 | dL=>exact .dL
 | map h=>exact .map h
 | gr c h=>exact .gr c h
 | yield h=>exact .yield h
 | fn hf h1 h2 g1 g2 i1 i2=>
  exact .fn hf (by rw[mf];exact h1) (by rw[mf];exact h2) (fun i x y hx hy=>by
   obtain⟨z,hz,rfl⟩:=nJ hx;exact i1 i z y hz hy) fun i x y hx hy=>by
   obtain⟨z,hz,rfl⟩:=nJ hx;exact i2 i z y hz hy
 | fU c h=>exact .fU c h
 | fa=>exact .fa
 | iface h ih=>exact .iface ih
 | cZ=>exact .cZ
 | agg h g ih=>
  exact .agg (by rw[mf];exact h) fun i x y hx hy=>by
   obtain⟨z,hz,rfl⟩:=nJ hx;exact ih i z y hz hy
 | aq h g ih=>
  exact .aq (by rw[mf];exact h) fun i x y hx hy=>by
   obtain⟨z,hz,rfl⟩:=nJ hx;exact ih i z y hz hy
end
theorem FP {f:Nat}{h':ab}{v v':AV}{wr:List Nat}(hv:∀ρ w x,V ρ w v x->V ρ w v' x)(he:bz P gl ⟨f,as,h,⟨v,h',wr⟩⟩):bz P gl ⟨f,as,h,⟨v',h',wr⟩⟩:=by
 refine⟨he.1,fun ρ w as' m ha=>?_⟩;obtain⟨nx,w1,g1,g2⟩:=he.2 ρ w as' m ha;refine⟨nx,w1,g1,g2.mono fun x w' hd=>?_⟩;obtain⟨ρ',h1,h2,h3⟩:=hd;exact⟨ρ',hv _ _ _ h1,h2,h3⟩
def FQ (P:Program)(FT:FuncId->Option cK)(T:List (Nat×Spec))(g:Nat)(as0:List AV)(v0:AV):Prop:=∃v hh v1,aU (aZ P FT T) g as0 [] ⟨v,hh,[]⟩/\iB hh v v1/\v1.top=0/\bI v1=v0
def Qa (P:Program)(FT:FuncId->Option cK)(T:List (Nat×Spec))(g:Nat)(as:List AV)(h:ab)(r:HR):Prop:=∃as0 v0,fw h as as0/\FQ P FT T g as0 v0/\r=⟨v0,h,[]⟩
noncomputable def qj (P:Program)(FT:FuncId->Option cK)(T:List (Nat×Spec))(g:Nat):Spec:=nG (Qa P FT T g)
theorem Qb (hs:iQ P gl FT){T:List (Nat×Spec)}(hT:dg P gl (bj T)){g:Nat}:bQ P gl g (qj P FT T g):=FH fun as h r ⟨as0,v0,hf,⟨v,hh,v1,hr,hn,ht,hc⟩,e⟩=>by
 subst e;subst hc;exact FP (fun _ _ _ h=>h.bI) (PV hs hT hr hf.fr hn ht)
theorem kH {as0:List AV}{v0:AV}(hf:fw h as as0)(hr:FQ P FT T g as0 v0):qj P FT T g as h=some ⟨v0,h,[]⟩:=
 FI ⟨as0,v0,hf,hr,rfl⟩ fun r' ⟨as0',v0',hf',hr',e⟩=>by
  cases hf.uniq hf';obtain⟨v,hh,v1,r1,⟨B,f1,_⟩,t1,c1⟩:=hr;obtain⟨v',hh',v1',r2,⟨B',f2,_⟩,t2,c2⟩:=hr';cases r1.FL r2;rw[e,←c1,←c2,f1.can t1 f2 t2]
def qk (P:Program)(FT:FuncId->Option cK)(T:List (Nat×Spec))(g:Nat)(as:List AV)(v0:AV):Prop:=∃v hh v1,aU (aZ P FT T) g as [] ⟨v,hh,[]⟩/\eh hh v v1/\aY as=0/\v1.top=0/\bx v1=v0
def Qc (P:Program)(FT:FuncId->Option cK)(T:List (Nat×Spec))(g:Nat)(as:List AV)(h:ab)(r:HR):Prop:=∃v0,qk P FT T g as v0/\r=⟨v0,h,[]⟩
noncomputable def nL (P:Program)(FT:FuncId->Option cK)(T:List (Nat×Spec))(g:Nat):Spec:=nG (Qc P FT T g)
theorem Qd (hs:iQ P gl FT){T:List (Nat×Spec)}(hT:dg P gl (bj T)){g:Nat}:bQ P gl g (nL P FT T g):=FH fun as h r ⟨v0,⟨v,hh,v1,hr,hf,ha,ht,hc⟩,e⟩=>by
 subst e;subst hc;exact FP (fun _ _ _ h=>h.bx) (PR hs hT hr ha hf.fr ht)
theorem tK {v0:AV}(hr:qk P FT T g as v0):nL P FT T g as h=some ⟨v0,h,[]⟩:=
 FI ⟨v0,hr,rfl⟩ fun r' ⟨v0',hr',e⟩=>by
  obtain⟨v,hh,v1,r1,f1,_,t1,c1⟩:=hr;obtain⟨v',hh',v1',r2,f2,_,t2,c2⟩:=hr';cases r1.FL r2;rw[e,←c1,←c2,f1.can t1 f2 t2]
theorem qk.of {v:AV}{hh:ab}(hr:aU (aZ P FT T) g as [] ⟨v,hh,[]⟩)(ha:aY as=0)(ht:v.top=0):qk P FT T g as (bx v):=
 ⟨v,hh,v,hr,.same ht,ha,ht,rfl⟩
end Go.Ab
namespace Go.Ab
variable {M:ao} {P:Program} {gl:Nat->Option AV}
theorem da {FT:FuncId->Option cK}{T:List (Nat×Spec)}{g:Nat}{as:List AV}{v:AV}(hr:aU (aZ P FT T) g as [] ⟨v,[],[]⟩)(ha:aY as=0)(ht:v.top=0)(hc:bx v=v)(h:ab):nL P FT T g as h=some ⟨v,h,[]⟩:=
 tK ⟨v,[],v,hr,.same ht,ha,ht,hc⟩
theorem ql {FT:FuncId->Option cK}{T:List (Nat×Spec)}{g:Nat}{as as0:List AV}{v:AV}(hr:aU (aZ P FT T) g as0 [] ⟨v,[],[]⟩)(ht:v.top=0)(hn:cM v=true)(hc:bI v=v){h:ab}(hf:fw h as as0):qj P FT T g as h=some ⟨v,h,[]⟩:=
 kH hf ⟨v,[],v,hr,.same ht hn,ht,hc⟩
end Go.Ab
namespace Go.Ab
variable {n:Nat}
variable {M:ao} {t:Nat} {x y:ax} {l:List aO} {pe:List AV} {lo:List (Nat×AV)} {hp:ab} {df wr:List Nat} {k:IntKind} {a b:Int} {Q:al->Prop}
theorem mh (a:Int):IntKind.u64.wrap a=a%18446744073709551616:=by
 simp only[IntKind.wrap,IntKind.bits,IntKind.signed];simp
theorem nM {a:Int}(h:0<=a/\a<18446744073709551616):IntKind.u64.wrap a=a:=by rw[mh];omega
theorem abO (hx:(St.mk pe lo hp df).aa x=some (.int .u64 a))(hy:(St.mk pe lo hp df).aa y=some (.int .u64 b))
 (h:WO M l ⟨⟨pe,(t,.int .u64 ((a+b)%18446744073709551616))::lo,hp,df⟩,wr⟩ Q):WO M (⟨.l t,.bin .add x y,none⟩::l) ⟨⟨pe,lo,hp,df⟩,wr⟩ Q:=
 aac (v:=.int .u64 ((a+b)%18446744073709551616)) (by simp[aP,hx,hy,ck,mh]) rfl h
theorem abh (hx:(St.mk pe lo hp df).aa x=some (.int .u64 a))(hy:(St.mk pe lo hp df).aa y=some (.int .u64 b))(hr:0<=a+b/\a+b<18446744073709551616)
 (h:WO M l ⟨⟨pe,(t,.int .u64 (a+b))::lo,hp,df⟩,wr⟩ Q):WO M (⟨.l t,.bin .add x y,none⟩::l) ⟨⟨pe,lo,hp,df⟩,wr⟩ Q:=
 aac (v:=.int .u64 (a+b)) (by simp[aP,hx,hy,ck,nM hr]) rfl h
theorem acn (hx:(St.mk pe lo hp df).aa x=some (.int .u64 a))(hy:(St.mk pe lo hp df).aa y=some (.int .u64 b))
 (h:WO M l ⟨⟨pe,(t,.int .u64 ((a-b)%18446744073709551616))::lo,hp,df⟩,wr⟩ Q):WO M (⟨.l t,.bin .sub x y,none⟩::l) ⟨⟨pe,lo,hp,df⟩,wr⟩ Q:=
 aac (v:=.int .u64 ((a-b)%18446744073709551616)) (by simp[aP,hx,hy,ck,mh]) rfl h
theorem abA (hx:(St.mk pe lo hp df).aa x=some (.int .u64 a))(hy:(St.mk pe lo hp df).aa y=some (.int .u64 b))(hr:0<=a-b/\a-b<18446744073709551616)
 (h:WO M l ⟨⟨pe,(t,.int .u64 (a-b))::lo,hp,df⟩,wr⟩ Q):WO M (⟨.l t,.bin .sub x y,none⟩::l) ⟨⟨pe,lo,hp,df⟩,wr⟩ Q:=
 aac (v:=.int .u64 (a-b)) (by simp[aP,hx,hy,ck,nM hr]) rfl h
theorem abP (hx:(St.mk pe lo hp df).aa x=some (.int .u64 a))(hy:(St.mk pe lo hp df).aa y=some (.int .u64 b))
 (h:WO M l ⟨⟨pe,(t,.int .u64 ((a*b)%18446744073709551616))::lo,hp,df⟩,wr⟩ Q):WO M (⟨.l t,.bin .mul x y,none⟩::l) ⟨⟨pe,lo,hp,df⟩,wr⟩ Q:=
 aac (v:=.int .u64 ((a*b)%18446744073709551616)) (by simp[aP,hx,hy,ck,mh]) rfl h
theorem aaU (hx:(St.mk pe lo hp df).aa x=some (.int .u64 a))(hy:(St.mk pe lo hp df).aa y=some (.int .u64 b))(hr:0<=a*b/\a*b<18446744073709551616)
 (h:WO M l ⟨⟨pe,(t,.int .u64 (a*b))::lo,hp,df⟩,wr⟩ Q):WO M (⟨.l t,.bin .mul x y,none⟩::l) ⟨⟨pe,lo,hp,df⟩,wr⟩ Q:=
 aac (v:=.int .u64 (a*b)) (by simp[aP,hx,hy,ck,nM hr]) rfl h
theorem abF (hx:(St.mk pe lo hp df).aa x=some (.int .u64 a))(hy:(St.mk pe lo hp df).aa y=some (.int .u64 b))(ha:0<=a/\a<18446744073709551616)(hb:0<b)
 (h:WO M l ⟨⟨pe,(t,.int .u64 (a/b))::lo,hp,df⟩,wr⟩ Q):WO M (⟨.l t,.bin .quo x y,none⟩::l) ⟨⟨pe,lo,hp,df⟩,wr⟩ Q:=by
 refine aac (v:=.int .u64 (a/b)) ?_ rfl h;have h1:0<=a/b:=Int.ediv_nonneg ha.1 (Int.le_of_lt hb);have h2:a/b<=a:=Int.ediv_le_self _ ha.1;have h3:¬b=0:=by omega
 simp only[aP,hx,hy,ck,if_true,if_neg h3];rw[Int.tdiv_eq_ediv_of_nonneg ha.1,nM ⟨h1,by omega⟩]
theorem acO (hx:(St.mk pe lo hp df).aa x=some (.int .u64 a))(hy:(St.mk pe lo hp df).aa y=some (.int .u64 b))(ha:0<=a)(hb:0<b)
 (h:WO M l ⟨⟨pe,(t,.int .u64 (a%b))::lo,hp,df⟩,wr⟩ Q):WO M (⟨.l t,.bin .rem x y,none⟩::l) ⟨⟨pe,lo,hp,df⟩,wr⟩ Q:=by
 refine aac (v:=.int .u64 (a%b)) ?_ rfl h;have h3:¬b=0:=by omega
 simp only[aP,hx,hy,ck,if_true,if_neg h3];rw[Int.tmod_eq_emod_of_nonneg ha]
theorem abi (hx:(St.mk pe lo hp df).aa x=some (.int .u64 a))(hy:(St.mk pe lo hp df).aa y=some (.int k b))(hb:b=n)(hn:n<=64)
 (h:WO M l ⟨⟨pe,(t,.int .u64 (a/2^n))::lo,hp,df⟩,wr⟩ Q):WO M (⟨.l t,.bin .shr x y,none⟩::l) ⟨⟨pe,lo,hp,df⟩,wr⟩ Q:=by
 refine aac (v:=.int .u64 (a/2^n)) ?_ rfl h;subst hb;have h3:¬((n:Int)<0):=by omega
 have h4:min ((n:Int).toNat) IntKind.u64.bits=n:=by
  show min ((n:Int).toNat) 64=n;omega
 simp only[aP,hx,hy,ck,if_neg h3,h4];rw[Int.fdiv_eq_ediv_of_nonneg _ (Int.le_of_lt (Int.pow_pos (by decide)))]
theorem abJ (hx:(St.mk pe lo hp df).aa x=some (.int .u64 a))(hy:(St.mk pe lo hp df).aa y=some (.int k b))(hb:b=n)(hn:n<=64)
 (h:WO M l ⟨⟨pe,(t,.int .u64 ((a*2^n)%18446744073709551616))::lo,hp,df⟩,wr⟩ Q):WO M (⟨.l t,.bin .shl x y,none⟩::l) ⟨⟨pe,lo,hp,df⟩,wr⟩ Q:=by
 refine aac (v:=.int .u64 ((a*2^n)%18446744073709551616)) ?_ rfl h;subst hb;have h3:¬((n:Int)<0):=by omega
 have h4:min ((n:Int).toNat) IntKind.u64.bits=n:=by
  show min ((n:Int).toNat) 64=n;omega
 simp only[aP,hx,hy,ck,if_neg h3,h4,mh]
theorem abl {c:Int}(hx:(St.mk pe lo hp df).aa x=some (.int .u64 a))(hy:(St.mk pe lo hp df).aa y=some (.int k b))(hb:b=n)(hn:n<=64)(hc:(2:Int)^n=c)
 (h:WO M l ⟨⟨pe,(t,.int .u64 (a/c))::lo,hp,df⟩,wr⟩ Q):WO M (⟨.l t,.bin .shr x y,none⟩::l) ⟨⟨pe,lo,hp,df⟩,wr⟩ Q:=by
 subst hc;exact abi hx hy hb hn h
theorem nN:BitVec.ofInt 64 (n:Int)=BitVec.ofNat 64 n:=by
 apply BitVec.eq_of_toNat_eq;simp[]
theorem aco (hx:(St.mk pe lo hp df).aa x=some (.int .u64 a))(hy:(St.mk pe lo hp df).aa y=some (.int .u64 4294967295))(ha:0<=a/\a<18446744073709551616)
 (h:WO M l ⟨⟨pe,(t,.int .u64 (a%4294967296))::lo,hp,df⟩,wr⟩ Q):WO M (⟨.l t,.bin .and x y,none⟩::l) ⟨⟨pe,lo,hp,df⟩,wr⟩ Q:=by
 refine aac (v:=.int .u64 (a%4294967296)) ?_ rfl h;obtain⟨n,rfl⟩:=Int.eq_ofNat_of_zero_le ha.1;have e:(BitVec.ofInt 64 (n:Int) &&& BitVec.ofInt 64 4294967295).toNat=n%4294967296:=by
  rw[nN,show (4294967295:Int)=((4294967295:Nat):Int) from rfl,nN,BitVec.toNat_and,BitVec.toNat_ofNat,BitVec.toNat_ofNat,Nat.mod_eq_of_lt (show n<2^64 by omega),Nat.mod_eq_of_lt (show 4294967295<2^64 by decide)];exact Nat.and_two_pow_sub_one_eq_mod n 32
 simp only[aP,hx,hy,ck,if_true];show some (AV.int .u64 (IntKind.u64.wrap ((BitVec.ofInt 64 (n:Int) &&& BitVec.ofInt 64 4294967295).toNat:Int)))=_;rw[e,nM (by omega)];rfl
theorem acp (m:Nat)(hx:(St.mk pe lo hp df).aa x=some (.int .u64 a))(hy:(St.mk pe lo hp df).aa y=some (.int .u64 b))(ha:0<=a/\a<18446744073709551616)(hb:0<=b/\b<2^m)(hm:m<=64)(hd:a%2^m=0)
 (h:WO M l ⟨⟨pe,(t,.int .u64 (a+b))::lo,hp,df⟩,wr⟩ Q):WO M (⟨.l t,.bin .or x y,none⟩::l) ⟨⟨pe,lo,hp,df⟩,wr⟩ Q:=by
 refine aac (v:=.int .u64 (a+b)) ?_ rfl h;obtain⟨n,rfl⟩:=Int.eq_ofNat_of_zero_le ha.1;obtain⟨p,rfl⟩:=Int.eq_ofNat_of_zero_le hb.1;have hp2:p<2^m:=by have:=hb.2;exact_mod_cast this
 have h64:2^m<=2^64:=Nat.pow_le_pow_right (by decide) hm;have hd':n%2^m=0:=by exact_mod_cast hd
 obtain⟨q,hq⟩:∃q,n=2^m*q:=⟨n/2^m,by have:=Nat.div_add_mod n (2^m);omega⟩;have hsum:n+p<2^64:=by
  have h1:n<2^64:=by omega
  obtain⟨r,hr⟩:∃r,2^64=2^m*2^r:=⟨64-m,by rw[←Nat.pow_add];congr 1;omega⟩;rw[hq,hr]at h1;have h2:q<2^r:=Nat.lt_of_mul_lt_mul_left h1;have h3:2^m*(q+1)<=2^m*2^r:=Nat.mul_le_mul_left _ h2;rw[Nat.mul_add]at h3;omega
 have e:(BitVec.ofInt 64 (n:Int) ||| BitVec.ofInt 64 (p:Int)).toNat=n+p:=by
  rw[nN,nN,BitVec.toNat_or,BitVec.toNat_ofNat,BitVec.toNat_ofNat,Nat.mod_eq_of_lt (show n<2^64 by omega),Nat.mod_eq_of_lt (show p<2^64 by omega),hq];exact(Nat.two_pow_add_eq_or_of_lt hp2 q).symm
 simp only[aP,hx,hy,ck,if_true];show some (AV.int .u64 (IntKind.u64.wrap ((BitVec.ofInt 64 (n:Int) ||| BitVec.ofInt 64 (p:Int)).toNat:Int)))=_;rw[e,nM (by omega)];rfl
theorem acQ (hx:(St.mk pe lo hp df).aa x=some (.int k a))(h:WO M l ⟨⟨pe,(t,.int .u64 (a%18446744073709551616))::lo,hp,df⟩,wr⟩ Q):WO M (⟨.l t,.dM .u64 x,none⟩::l) ⟨⟨pe,lo,hp,df⟩,wr⟩ Q:=
 aac (v:=.int .u64 (a%18446744073709551616)) (by simp only[aP,hx,Option.bind_some,kY,mh]) rfl h
theorem Qe {a:Int}:IntKind.u8.wrap a=a%256:=by
 simp only[IntKind.wrap,IntKind.bits,IntKind.signed];simp
theorem aci (hx:(St.mk pe lo hp df).aa x=some (.int k a))(h:WO M l ⟨⟨pe,(t,.int .u8 (a%256))::lo,hp,df⟩,wr⟩ Q):WO M (⟨.l t,.dM .u8 x,none⟩::l) ⟨⟨pe,lo,hp,df⟩,wr⟩ Q:=
 aac (v:=.int .u8 (a%256)) (by simp only[aP,hx,Option.bind_some,kY,Qe]) rfl h
end Go.Ab
namespace Go.Ab
open Go.RowKit
variable {P:Program} {gl:Nat->Option AV} {ρ:au} {h:ab} {w w':World}
end Go.Ab
