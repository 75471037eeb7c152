/-
  Own work: a call that was shown on the empty heap, of arguments that hold their contents: it holds on every heap, of arguments that lie in blocks of the caller's own; new blocks get the next numbers.
-/
import Derived.Test.YtcjphdmkgmkabaaGreatDoorLib3
import Derived.Test.YtcjphdmkgmkabaaGreatDoorLib1
import Derived.OpenShut
import Derived.Laws.RangeString
import Derived.Lib.DecodeN
set_option maxHeartbeats 8000000
set_option maxRecDepth 20000
namespace Go.Ab
variable {ks:List Nat} {N:Nat}
variable {P:Program} {gl:Nat->Option AV} {ρ:au} {w:World} {h:ab}
mutual
def cM:AV->Bool
 | .vp l=>l.isEmpty
 | .vs l _ _=>l.isEmpty
 | .fn _ a b=>dV a && dV b
 | .iface _ v=>cM v
 | .agg l=>dV l
 | .aq l=>dV l
 | _=>true
def dV:List AV->Bool
 | []=>true
 | v::r=>cM v && dV r
end
theorem fP:∀{l:List AV} {i:Nat} {x:AV},dV l=true->l[i]? = some x->cM x=true
 | [],i,x,_,h=>by simp at h
 | v::r,0,x,h,hx=>by simp only[dV,Bool.and_eq_true]at h;simp at hx;subst hx;exact h.1
 | v::r,i+1,x,h,hx=>by simp only[dV,Bool.and_eq_true]at h;simp at hx;exact fP h.2 hx
inductive Rn (ks:List Nat) (N:Nat):AV->AV->Prop
 | same {v:AV} (ht:v.top=0):Rn ks N v v
 | sl {i b off len esz:Nat} {cap:Option Nat} (hi:ks[i]? = some b):Rn ks N (.sl b off len esz cap) (.sl (N+i) off len esz cap)
 | ptr {i b off:Nat} (hi:ks[i]? = some b):Rn ks N (.ptr b off) (.ptr (N+i) off)
 | map {i b:Nat} (hi:ks[i]? = some b):Rn ks N (.map b) (.map (N+i))
 | vs {l l0:List AV} {n:Nat} {cap:Option Nat} (hl:l.length=l0.length) (hg:∀(i:Nat) x y,l[i]? = some x->l0[i]? = some y->Rn ks N x y):Rn ks N (.vs l n cap) (.vs l0 n cap)
 | agg {l l0:List AV} (hl:l.length=l0.length) (hg:∀(i:Nat) x y,l[i]? = some x->l0[i]? = some y->Rn ks N x y):Rn ks N (.agg l) (.agg l0)
 | aq {l l0:List AV} (hl:l.length=l0.length) (hg:∀(i:Nat) x y,l[i]? = some x->l0[i]? = some y->Rn ks N x y):Rn ks N (.aq l) (.aq l0)
 | fn {f:Fn} {fi fi0 ca ca0:List AV} (hf:∀l,f≠.yield l) (h1:fi.length=fi0.length) (h2:ca.length=ca0.length) (g1:∀(i:Nat) x y,fi[i]? = some x->fi0[i]? = some y->Rn ks N x y)
     (g2:∀(i:Nat) x y,ca[i]? = some x->ca0[i]? = some y->Rn ks N x y):Rn ks N (.fn f fi ca) (.fn f fi0 ca0)
def jq (ks:List Nat)(N:Nat)(l l0:List AV):Prop:=l.length=l0.length/\∀(i:Nat) x y,l[i]? = some x->l0[i]? = some y->Rn ks N x y
inductive qf (ks:List Nat) (N:Nat):bc->bc->Prop
 | cells {l l0:List AV} {e:TypeId} (h:jq ks N l l0):qf ks N (.cells l e) (.cells l0 e)
 | map {es es0:List (AV×AV)} (h1:jq ks N (es.map (·.1)) (es0.map (·.1))) (h2:jq ks N (es.map (·.2)) (es0.map (·.2))):qf ks N (.map es) (.map es0)
def tv:bc->Bool
 | .cells l _=>dV l
 | .map es=>dV (es.map (·.1)) && dV (es.map (·.2))
 | _=>true
theorem jq.nil:jq ks N [] []:=⟨rfl,by simp⟩
theorem jq.cons {x y:AV}{l m:List AV}(h1:Rn ks N x y)(h2:jq ks N l m):jq ks N (x::l) (y::m):=by
 refine⟨by simp[h2.1],fun i a b ha hb=>?_⟩;cases i with
 | zero=>simp at ha hb;subst ha;subst hb;exact h1
 | succ i=>simp at ha hb;exact h2.2 i a b ha hb
theorem jq.same {l:List AV}(ht:aY l=0):jq ks N l l:=
 ⟨rfl,fun i x y hx hy=>by rw[hx]at hy;cases hy;exact .same (by have:=dZ (n:=0) (by omega) i x hx;omega)⟩
theorem Fm {ρ' ρ1:au}{a:AV}{v:Value}(ht:a.top=0)(hn:cM a=true)(hv:V ρ' w a v):V ρ1 w a v:=by
 have key:∀{a v},V ρ' w a v->a.top=0->cM a=true->V ρ1 w a v:=by
  intro a v hv;induction hv with
  | cz v=>exact fun _ _=>.cz v
  | bool b=>exact fun _ _=>.bool b
  | int k n=>exact fun _ _=>.int k n
  | str s=>exact fun _ _=>.str s
  | dE=>exact fun _ _=>.dE
  | ptr o hb=>exact fun h _=>by simp[AV.top]at h
  | dy o c o' hb=>exact fun h _=>by simp[AV.top]at h
  | @vp l c o g hf hc _ ih=>intro _ hn;simp only[cM,List.isEmpty_iff]at hn;subst hn;exact .vp c o g (fun h=>absurd rfl h) (by simp) (by simp)
  | ae=>exact fun _ _=>.ae
  | sl hb hl hcap hs=>exact fun h _=>by simp[AV.top]at h
  | eC hb=>exact fun h _=>by simp[AV.top]at h
  | dO c o' hb hl hcap=>exact fun h _=>by simp[AV.top]at h
  | eA hb=>exact fun h _=>by simp[AV.top]at h
  | eE a hb=>exact fun h _=>by simp[AV.top]at h
  | @vs l len capC cap c o g hf hl hcap hc _ ih=>intro _ hn;simp only[cM,List.isEmpty_iff]at hn;subst hn;exact .vs c o g (fun h=>absurd rfl h) hl hcap (by simp) (by simp)
  | dz hcap=>exact fun _ _=>.dz hcap
  | eK a hcap=>exact fun _ _=>.eK a hcap
  | dL=>exact fun _ _=>.dL
  | map hb=>exact fun h _=>by simp[AV.top]at h
  | gr v hb=>exact fun h _=>by simp[AV.top]at h
  | yield hb=>exact fun h _=>by simp[AV.top]at h
  | @fn f fi ca _ _ hf h1 h2 _ _ ih1 ih2=>
   intro h hn;have hh:aY fi<=0/\aY ca<=0:=by
    cases f <;> simp only[AV.top]at h <;> exact⟨by omega,by omega⟩
   simp only[cM,Bool.and_eq_true]at hn;exact .fn hf h1 h2 (fun i x y a b=>ih1 i x y a b (by have:=dZ hh.1 i x a;omega) (fP hn.1 a)) (fun i x y a b=>ih2 i x y a b (by have:=dZ hh.2 i x a;omega) (fP hn.2 a))
  | fU v hb=>exact fun h _=>by simp[AV.top]at h
  | fa=>exact fun _ _=>.fa
  | iface _ ih=>exact fun h hn=>.iface (ih (by simpa only[AV.top] using h) (by simpa only[cM] using hn))
  | cZ=>exact fun _ _=>.cZ
  | agg hl _ ih=>exact fun h hn=>.agg hl (fun i x y a b=>ih i x y a b (by have:=dZ (n:=0) (by simpa only[AV.top,Nat.le_zero] using h) i x a;omega) (fP (by simpa only[cM] using hn) a))
  | aq hl _ ih=>exact fun h hn=>.aq hl (fun i x y a b=>ih i x y a b (by have:=dZ (n:=0) (by simpa only[AV.top,Nat.le_zero] using h) i x a;omega) (fP (by simpa only[cM] using hn) a))
 exact key hv ht hn
theorem Rn.view {ρ' ρ1:au}(hρ:∀(i b:Nat),ks[i]? = some b->ρ1 (N+i)=ρ' b){a a1:AV}(hr:Rn ks N a a1) :
 (cM a=true\/∀c,cn ρ' c->cn ρ1 c)->∀{v:Value},V ρ' w a v->V ρ1 w a1 v:=by
 induction hr with
 | @same a ht=>
  intro hF v hv;rcases hF with hF|hF
  . exact Fm ht hF hv
  . exact hv.fF (n:=0) (fun b hb=>by omega) hF (by omega)
 | sl hi=>
  intro _ v hv;cases hv with
  | sl h1 h2 h3 h4=>exact .sl ((hρ _ _ hi).trans h1) h2 h3 h4
  | eC h1=>exact .eC ((hρ _ _ hi).trans h1)
  | dO c o' h1 h2 h3=>exact .dO c o' ((hρ _ _ hi).trans h1) h2 h3
  | eA h1=>exact .eA ((hρ _ _ hi).trans h1)
  | eE a h1=>exact .eE a ((hρ _ _ hi).trans h1)
 | ptr hi=>
  intro _ v hv;cases hv with
  | ptr _ h1=>exact .ptr _ ((hρ _ _ hi).trans h1)
  | dy _ _ _ h1=>exact .dy _ _ _ ((hρ _ _ hi).trans h1)
 | map hi=>
  intro _ v hv;cases hv with
  | map h1=>exact .map ((hρ _ _ hi).trans h1)
  | gr c h1=>exact .gr c ((hρ _ _ hi).trans h1)
 | @vs l l0 n cap hl hg ih=>
  intro hF v hv;cases hv with
  | vs c o g hf h2 h3 h4 h5=>
   by_cases hn:l=[]
   . subst hn;have:l0=[]:=List.eq_nil_of_length_eq_zero (by simp at hl;omega);subst this;exact .vs c o g (fun h=>absurd rfl h) h2 h3 (by simp) (by simp)
   . have hF':∀c,cn ρ' c->cn ρ1 c:=by
      rcases hF with hF|hF
      . simp only[cM,List.isEmpty_iff]at hF;exact absurd hF hn
      . exact hF
     refine .vs c o g (fun _=>hF' _ (hf hn)) h2 h3 (fun i hi=>h4 i (by omega)) (fun i y hy=>?_);have hi:i<l.length:=by have:=(List.getElem?_eq_some_iff.1 hy).1;omega
     exact ih i _ y (List.getElem?_eq_getElem hi) hy (.inr hF') (h5 i _ (List.getElem?_eq_getElem hi))
  | dz hc=>
   have:l0=[]:=List.eq_nil_of_length_eq_zero (by simp at hl;omega);subst this;exact .dz hc
  | eK a hc=>
   have:l0=[]:=List.eq_nil_of_length_eq_zero (by simp at hl;omega);subst this;exact .eK a hc
 | @agg l l0 hl hg ih=>
  intro hF v hv;cases hv with
  | @agg _ mm h1 h2=>
   refine .agg (by omega) fun i y z hy hz=>?_
   have hi:i<l.length:=by have:=(List.getElem?_eq_some_iff.1 hy).1;omega
   exact ih i _ y (List.getElem?_eq_getElem hi) hy (hF.imp (fun h=>by simp only[cM]at h;exact fP h (List.getElem?_eq_getElem hi)) id) (h2 i _ z (List.getElem?_eq_getElem hi) hz)
 | @aq l l0 hl hg ih=>
  intro hF v hv;cases hv with
  | @aq _ mm h1 h2=>
   refine .aq (by omega) fun i y z hy hz=>?_
   have hi:i<l.length:=by have:=(List.getElem?_eq_some_iff.1 hy).1;omega
   exact ih i _ y (List.getElem?_eq_getElem hi) hy (hF.imp (fun h=>by simp only[cM]at h;exact fP h (List.getElem?_eq_getElem hi)) id) (h2 i _ z (List.getElem?_eq_getElem hi) hz)
 | @fn f fi fi0 ca ca0 hf h1 h2 g1 g2 ih1 ih2=>
  intro hF v hv;cases hv with
  | fn hf' a1 a2 a3 a4=>
   refine .fn hf (by omega) (by omega) (fun i y z hy hz=>?_) (fun i y z hy hz=>?_)
   . have hi:i<fi.length:=by have:=(List.getElem?_eq_some_iff.1 hy).1;omega
     exact ih1 i _ y (List.getElem?_eq_getElem hi) hy (hF.imp (fun h=>by simp only[cM,Bool.and_eq_true]at h;exact fP h.1 (List.getElem?_eq_getElem hi)) id) (a3 i _ z (List.getElem?_eq_getElem hi) hz)
   . have hi:i<ca.length:=by have:=(List.getElem?_eq_some_iff.1 hy).1;omega
     exact ih2 i _ y (List.getElem?_eq_getElem hi) hy (hF.imp (fun h=>by simp only[cM,Bool.and_eq_true]at h;exact fP h.2 (List.getElem?_eq_getElem hi)) id) (a4 i _ z (List.getElem?_eq_getElem hi) hz)
  | yield _=>exact absurd rfl (hf _)
  | fU _ _=>exact absurd rfl (hf _)
inductive Fr (h:ab) (S:List Nat):AV->AV->Prop
 | same {v:AV} (ht:v.top=0):Fr h S v v
 | nil {cap:Option Nat} (hc:∀n,cap=some n->n=0):Fr h S .ae (.vs [] 0 cap)
 | sl {b off len esz:Nat} {cap cap':Option Nat} {l m m0:List AV} {e:TypeId} (hb:b∈S) (ha:h.at b=some (.cells l e)) (hc:cut l off (len*esz)=some m) (hl:m.length=m0.length)
     (hg:∀(i:Nat) x y,m[i]? = some x->m0[i]? = some y->Fr h S x y) (hcc:cap'=cap\/cap'=none:=by exact .inl rfl):Fr h S (.sl b off len esz cap) (.vs m0 len cap')
 | ptr {b off:Nat} {l m0:List AV} {e:TypeId} (hb:b∈S) (ha:h.at b=some (.cells l e)) (hl:(l.drop off).length=m0.length)
     (hg:∀(i:Nat) x y,(l.drop off)[i]? = some x->m0[i]? = some y->Fr h S x y):Fr h S (.ptr b off) (.vp m0)
 | vs {l l0:List AV} {n:Nat} {cap:Option Nat} (hl:l.length=l0.length) (hg:∀(i:Nat) x y,l[i]? = some x->l0[i]? = some y->Fr h S x y):Fr h S (.vs l n cap) (.vs l0 n cap)
 | agg {l l0:List AV} (hl:l.length=l0.length) (hg:∀(i:Nat) x y,l[i]? = some x->l0[i]? = some y->Fr h S x y):Fr h S (.agg l) (.agg l0)
 | aq {l l0:List AV} (hl:l.length=l0.length) (hg:∀(i:Nat) x y,l[i]? = some x->l0[i]? = some y->Fr h S x y):Fr h S (.aq l) (.aq l0)
 | fn {f:Fn} {fi fi0 ca ca0:List AV} (hf:∀l,f≠.yield l) (h1:fi.length=fi0.length) (h2:ca.length=ca0.length) (g1:∀(i:Nat) x y,fi[i]? = some x->fi0[i]? = some y->Fr h S x y)
     (g2:∀(i:Nat) x y,ca[i]? = some x->ca0[i]? = some y->Fr h S x y):Fr h S (.fn f fi ca) (.fn f fi0 ca0)
def eO (h:ab)(S:List Nat)(l l0:List AV):Prop:=l.length=l0.length/\∀(i:Nat) x y,l[i]? = some x->l0[i]? = some y->Fr h S x y
def cV (ρ:au)(S:List Nat):au:=⟨fun _=>.fresh,fun c=>ρ.X c\/∃b d,ρ b = .live c d/\b∉S⟩
theorem cn.cV {c:Nat}(S:List Nat)(hf:cn ρ c):cn (cV ρ S) c:=by
 refine⟨fun b d hb=>by simp[Go.Ab.cV]at hb,?_⟩;rintro(hx|⟨b,d,hb,_⟩)
 . exact hf.2 hx
 . exact hf.1 b d hb
theorem Fr.view (m:Mem P gl ρ h w){S:List Nat}{a a0:AV}(hr:Fr h S a a0):∀{v:Value},V ρ w a v->V (cV ρ S) w a0 v:=by
 have hfree:∀{b c d},b∈S->ρ b = .live c d->cn (cV ρ S) c:=fun {b c d} hb hl=>by
  refine⟨fun b d hb=>by simp[Go.Ab.cV]at hb,?_⟩;rintro(hx|⟨b',d',hb',hn⟩)
  . exact m.xo _ _ _ hl hx
  . exact hn (m.inj _ _ _ _ _ hb' hl ▸ hb)
 have hat:∀{b o},h.at b=some o->h[b]? = some (some o):=fun {b o} hb=>by
  unfold ab.at at hb;cases hz:h[b]? with
  | none=>rw[hz]at hb;cases hb
  | some z=>rw[hz]at hb;simp only[Option.join_some]at hb;rw[hb]
 induction hr with
 | same ht=>exact fun hv=>hv.fF (n:=0) (fun b hb=>by omega) (fun c hc=>hc.cV S) (by omega)
 | nil hc=>
  intro v hv;cases hv;exact .dz hc
 | @sl b off len esz cap cap' l m' m0 e hb ha hc hl hg hcc ih=>
  intro v hv;have hB:=m.cF b _ (hat ha);have hcut:m'.length=len*esz/\∀i,i<m'.length->m'[i]? = l[off+i]? := by
   simp only[cut]at hc;split at hc
   . rename_i hlen;cases hc;refine⟨hlen,fun i hi=>?_⟩;rw[List.getElem?_take,if_pos (by omega),List.getElem?_drop]
   . cases hc
  cases hv with
  | @sl _ c d _ _ _ capC _ h1 h2 h3 h4=>
   have h3:∀n,cap'=some n->capC=n:=fun n hn=>by
    rcases hcc with rfl|rfl
    . exact h3 n hn
    . cases hn
   rcases hB with ⟨c',d',cs,fr,g1,g2,g3,g4,g5⟩|⟨g1,_⟩
   . rw[h1]at g1;cases g1;refine .vs c (off+d) (fun i=>cs.getD (off+d+i) (.bool false)) (fun _=>hfree hb h1) h2 h3 (fun i hi=>?_) (fun i y hy=>?_)
     . have hi':i<m'.length:=by omega
       have hlt:off+i<l.length:=by
        have:=hcut.2 i hi';rw[List.getElem?_eq_getElem hi']at this;exact(List.getElem?_eq_some_iff.1 this.symm).1
       have:off+d+i<cs.size:=by have:=g3.1;omega
       simp only[World.cell?,g2];simp[this,Array.getD]
     . have hi:i<m0.length:=(List.getElem?_eq_some_iff.1 hy).1;have hi':i<m'.length:=by omega
       have hx:=hcut.2 i hi';rw[List.getElem?_eq_getElem hi']at hx;have hlt:off+i<l.length:=(List.getElem?_eq_some_iff.1 hx.symm).1;have hs:off+d+i<cs.size:=by have:=g3.1;omega
       refine ih i m'[i] y (List.getElem?_eq_getElem hi') hy ?_;refine g5 (off+i) _ _ hx.symm ?_;rw[show off+i+d=off+d+i from by omega];simp[hs,Array.getD]
   . rw[h1]at g1;cases g1
  | @eC _ _ h1=>
   rcases hB with ⟨c',d',cs,fr,g1,_⟩|⟨g1,g2⟩
   . rw[h1]at g1;cases g1
   . have:m0=[]:=List.eq_nil_of_length_eq_zero (by omega);subst this;exact .dz (by rcases hcc with rfl|rfl <;> simp)
  | dO c o' h1 _ _=>
   rcases hB with ⟨c',d',cs,fr,g1,_⟩|⟨g1,g2⟩ <;> (rw[h1]at g1;cases g1)
  | eE a h1=>
   rcases hB with ⟨c',d',cs,fr,g1,_⟩|⟨g1,g2⟩ <;> (rw[h1]at g1;cases g1)
  | eA h1=>
   rcases hB with ⟨c',d',cs,fr,g1,_⟩|⟨g1,g2⟩ <;> (rw[h1]at g1;cases g1)
 | @ptr b off l m0 e hb ha hl hg ih=>
  intro v hv;have hB:=m.cF b _ (hat ha);cases hv with
  | @ptr _ c d _ h1=>
   rcases hB with ⟨c',d',cs,fr,g1,g2,g3,g4,g5⟩|⟨g1,_⟩
   . rw[h1]at g1;cases g1;refine .vp c (off+d) (fun i=>cs.getD (off+d+i) (.bool false)) (fun _=>hfree hb h1) (fun i hi=>?_) (fun i y hy=>?_)
     . have:off+d+i<cs.size:=by have:=g3.1;simp at hl;omega
       simp only[World.cell?,g2];simp[this,Array.getD]
     . have hi:i<m0.length:=(List.getElem?_eq_some_iff.1 hy).1;have hi':i<(l.drop off).length:=by omega
       have hlt:off+i<l.length:=by simp at hi';omega
       have hs:off+d+i<cs.size:=by have:=g3.1;omega
       refine ih i _ y (List.getElem?_eq_getElem hi') hy ?_;refine g5 (off+i) _ _ (by rw[List.getElem_drop];exact List.getElem?_eq_getElem hlt) ?_;rw[show off+i+d=off+d+i from by omega];simp[hs,Array.getD]
   . rw[h1]at g1;cases g1
  | dy _ c o' h1=>
   rcases hB with ⟨c',d',cs,fr,g1,_⟩|⟨g1,g2⟩ <;> (rw[h1]at g1;cases g1)
 | @vs l l0 n cap hl hg ih=>
  intro v hv;cases hv with
  | vs c o g hf h2 h3 h4 h5=>
   refine .vs c o g (fun hn=>(hf fun e=>?_).cV S) h2 h3 (fun i hi=>h4 i (by omega)) (fun i y hy=>?_)
   . subst e;exact hn (List.eq_nil_of_length_eq_zero (by simp at hl;omega))
   . have hi:i<l.length:=by have:=(List.getElem?_eq_some_iff.1 hy).1;omega
     exact ih i _ y (List.getElem?_eq_getElem hi) hy (h5 i _ (List.getElem?_eq_getElem hi))
  | dz hc=>
   have:l0=[]:=List.eq_nil_of_length_eq_zero (by simp at hl;omega);subst this;exact .dz hc
  | eK a hc=>
   have:l0=[]:=List.eq_nil_of_length_eq_zero (by simp at hl;omega);subst this;exact .eK a hc
 | @agg l l0 hl hg ih=>
  intro v hv;cases hv with
  | @agg _ mm h1 h2=>
   refine .agg (by omega) fun i y z hy hz=>?_
   have hi:i<l.length:=by have:=(List.getElem?_eq_some_iff.1 hy).1;omega
   exact ih i _ y (List.getElem?_eq_getElem hi) hy (h2 i _ z (List.getElem?_eq_getElem hi) hz)
 | @aq l l0 hl hg ih=>
  intro v hv;cases hv with
  | @aq _ mm h1 h2=>
   refine .aq (by omega) fun i y z hy hz=>?_
   have hi:i<l.length:=by have:=(List.getElem?_eq_some_iff.1 hy).1;omega
   exact ih i _ y (List.getElem?_eq_getElem hi) hy (h2 i _ z (List.getElem?_eq_getElem hi) hz)
 | @fn f fi fi0 ca ca0 hf h1 h2 g1 g2 ih1 ih2=>
  intro v hv;cases hv with
  | fn hf' a1 a2 a3 a4=>
   refine .fn hf (by omega) (by omega) (fun i y z hy hz=>?_) (fun i y z hy hz=>?_)
   . have hi:i<fi.length:=by have:=(List.getElem?_eq_some_iff.1 hy).1;omega
     exact ih1 i _ y (List.getElem?_eq_getElem hi) hy (a3 i _ z (List.getElem?_eq_getElem hi) hz)
   . have hi:i<ca.length:=by have:=(List.getElem?_eq_some_iff.1 hy).1;omega
     exact ih2 i _ y (List.getElem?_eq_getElem hi) hy (a4 i _ z (List.getElem?_eq_getElem hi) hz)
  | yield _=>exact absurd rfl (hf _)
  | fU _ _=>exact absurd rfl (hf _)
theorem eO.view (m:Mem P gl ρ h w){S:List Nat}{l l0:List AV}(hr:eO h S l l0){vs:List Value}(hv:VL ρ w l vs):VL (cV ρ S) w l0 vs:=
 ⟨by rw[←hr.1];exact hv.1,fun i y z hy hz=>by
  have hi:i<l.length:=by have:=(List.getElem?_eq_some_iff.1 hy).1;have:=hr.1;omega
  exact(hr.2 i _ y (List.getElem?_eq_getElem hi) hy).view m (hv.2 i _ z (List.getElem?_eq_getElem hi) hz)⟩
theorem Mem.cV (hgl:∀g v,gl g=some v->v.top=0)(m:Mem P gl ρ h w)(S:List Nat):Mem P gl (cV ρ S) [] w:=by
 refine⟨fun b o hb=>by simp at hb,fun b _=>rfl,?_,?_,?_,?_,fun g v hg=>?_⟩
 . intro b b' c d d' h1;simp[Go.Ab.cV]at h1
 . intro b c d h1;simp[Go.Ab.cV]at h1
 . rintro c (hc|⟨b,d,hb,_⟩)
   . exact m.xb c hc
   . exact m.bound b c d hb
 . intro b c d h1;simp[Go.Ab.cV]at h1
 . exact(m.gl g v hg).fF (n:=0) (fun b hb=>by omega) (fun c hc=>hc.cV S) (by rw[hgl g v hg];exact Nat.le_refl _)
theorem Fo (m:Mem P gl ρ h w){S ks:List Nat}{v v1:AV}{hh:ab}{bs:List bc}{v':Value}{w':World}(hnd:ks.Nodup)(hv1:Rn ks h.length v v1)(hlen:ks.length=bs.length)
 (hbs:∀(i b:Nat) o1,ks[i]? = some b->bs[i]? = some o1->∃o,hh.at b=some o/\qf ks h.length o o1/\(S=[]\/tv o=true)) (hn:S=[]\/cM v=true) (hd:dP P gl (cV ρ S) [] w ⟨v,hh,[]⟩ v' w') :
 dP P gl ρ h w ⟨v1,h++bs.map some,[]⟩ v' w':=by
 obtain⟨ρ',hv,m',x⟩:=hd;have bB:∀c,c<w.heap.size->w'.heap[c]? = w.heap[c]? := fun c hc=>x.bB c hc fun b d hb=>by simp[Go.Ab.cV]at hb
 have new:∀b c d,ρ' b = .live c d->w.heap.size<=c:=fun b c d hb=>by
  rcases Nat.lt_or_ge c w.heap.size with hc|hc
  . rcases x.back b c d hb hc with h1|⟨b0,d0,h1,_⟩ <;> simp[Go.Ab.cV]at h1
  . exact hc
 have hat:∀{b o},hh.at b=some o->hh[b]? = some (some o):=fun {b o} hb=>by
  unfold ab.at at hb;cases hz:hh[b]? with
  | none=>rw[hz]at hb;cases hb
  | some z=>rw[hz]at hb;simp only[Option.join_some]at hb;rw[hb]
 let ρ1:au:=⟨fun b=>if b<h.length then ρ b else match ks[b-h.length]? with|some k=>ρ' k|none=>.fresh,ρ.X⟩
 have hlt:∀b,b<h.length->ρ1 b=ρ b:=fun b hb=>by show (if _ then _ else _)=_;rw[if_pos hb]
 have hge:∀(i k:Nat),ks[i]? = some k->ρ1 (h.length+i)=ρ' k:=fun i k hk=>by show (if _ then _ else _)=_;rw[if_neg (by omega)];simp[hk]
 have hback:∀b c d,h.length<=b->ρ1 b = .live c d->∃k:Nat,ks[b-h.length]? = some k/\ρ' k = .live c d:=fun b c d hb hl=>by
  have:ρ1 b=match ks[b-h.length]? with|some k=>ρ' k|none=>.fresh:=by show (if _ then _ else _)=_;rw[if_neg (by omega)]
  rw[this]at hl;cases hk:ks[b-h.length]? with
  | none=>rw[hk]at hl;cases hl
  | some k=>rw[hk]at hl;exact⟨k,rfl,hl⟩
 have hfr:∀b,ρ b≠.fresh->b<h.length:=fun b hb=>by
  rcases Nat.lt_or_ge b h.length with h1|h1
  . exact h1
  . exact absurd (m.fresh b h1) hb
 have E:Ext h (h++bs.map some) ρ ρ1 w w':=by
  refine⟨x.os,x.tape,x.output,x.size,by simp,rfl,?_,?_,?_,?_,?_,?_,?_,x.shape⟩
  . intro b hb;have:=(List.getElem?_eq_some_iff.1 hb).1;rw[List.getElem?_append_left this];exact hb
  . intro b hb;exact hlt b (List.getElem?_eq_some_iff.1 hb).1
  . intro b c d hb;exact .inl ((hlt b (hfr b (by rw[hb];simp))).trans hb)
  . intro b hb;exact(hlt b (hfr b (by rw[hb];simp))).trans hb
  . intro b hb;exact .inl ((hlt b (hfr b (by rw[hb];simp))).trans hb)
  . intro c hc _;exact bB c hc
  . intro b c d hb hc;rcases Nat.lt_or_ge b h.length with h1|h1
    . rw[hlt b h1]at hb;exact .inl hb
    . obtain⟨k,_,hk⟩:=hback b c d h1 hb;have:=new _ _ _ hk;omega
 have hF:S=[]->∀c,cn ρ' c->cn ρ1 c:=by
  intro hS c hc;have hX:ρ'.X=(cV ρ S).X:=x.X;have h2:=hc.2;rw[hX]at h2;refine⟨fun b d hb=>?_,fun hx=>h2 (.inl hx)⟩;rcases Nat.lt_or_ge b h.length with h1|h1
  . rw[hlt b h1]at hb;exact h2 (.inr ⟨b,d,hb,by rw[hS];simp⟩)
  . obtain⟨k,_,hk⟩:=hback b c d h1 hb;exact hc.1 _ _ hk
 have hvs:∀{a a1:AV} {u:Value},(S=[]\/cM a=true)->Rn ks h.length a a1->V ρ' w' a u->V ρ1 w' a1 u:=fun {a a1 u} hc hr hu=>
  hr.view hge (hc.elim (fun h=>.inr (hF h)) .inl) hu
 refine⟨ρ1,hvs hn hv1 hv,m.ext E ?_ ?_ ?_ ?_,E⟩
 . intro b o hb;rcases Nat.lt_or_ge b h.length with h1|h1
   . rw[List.getElem?_append_left h1]at hb;exact(m.cF b o hb).mono E (hlt b h1) fun c d hl=>bB c (m.bound b c d hl)
   . rw[List.getElem?_append_right h1]at hb;obtain⟨o1,hq,rfl⟩:∃o1,bs[b-h.length]? = some o1/\o1=o:=by simpa using hb
     have hi:b-h.length<ks.length:=by have:=(List.getElem?_eq_some_iff.1 hq).1;omega
     have hk:ks[b-h.length]? = some ks[b-h.length]:=List.getElem?_eq_getElem hi;obtain⟨o,ho,hB,hnb⟩:=hbs _ _ _ hk hq;have hB':=m'.cF _ _ (hat ho);have hb1:ρ1 b=ρ' ks[b-h.length]:=by have:=hge _ _ hk;rwa [show h.length+(b-h.length)=b from by omega]at this
     cases hB with
     | @cells l l0 e hl=>
      rcases hB' with ⟨c,d,cs,fr,g1,g2,g3,g4,g5⟩|⟨g1,g2⟩
      . refine .inl ⟨c,d,cs,fr,hb1.trans g1,g2,⟨by have:=hl.1;have:=g3.1;omega,fun he=>⟨(g3.2 he).1,by have:=hl.1;have:=(g3.2 he).2;omega⟩⟩,g4,fun i y z hy hz=>?_⟩;have hi:i<l.length:=by have:=(List.getElem?_eq_some_iff.1 hy).1;have:=hl.1;omega
        exact hvs (hnb.imp id fun hh'=>fP hh' (List.getElem?_eq_getElem hi)) (hl.2 i _ y (List.getElem?_eq_getElem hi) hy) (g5 i _ z (List.getElem?_eq_getElem hi) hz)
      . refine .inr ⟨hb1.trans g1,?_⟩;have:=hl.1;rw[g2]at this;exact List.eq_nil_of_length_eq_zero (by simp at this;omega)
     | @map es es0 hl1 hl2=>
      obtain⟨c,ms,clk,g1,g2,g3,g4⟩:=hB';have hle:es.length=es0.length:=by have:=hl1.1;simpa using this
      refine⟨c,ms,clk,hb1.trans g1,g2,by omega,fun i kx vx mm hx hm=>?_⟩;have hi:i<es.length:=by have:=(List.getElem?_eq_some_iff.1 hx).1;omega
      have he:es[i]? = some (es[i].1,es[i].2):=List.getElem?_eq_getElem hi;obtain⟨q1,q2⟩:=g4 i _ _ mm he hm;have r1:=hl1.2 i es[i].1 kx (by simp[he]) (by simp[hx]);have r2:=hl2.2 i es[i].2 vx (by simp[he]) (by simp[hx]);have hnn:S=[]\/(cM es[i].1=true/\cM es[i].2=true):=hnb.imp id fun hh'=>by
       simp only[tv,Bool.and_eq_true]at hh';exact⟨fP hh'.1 (i:=i) (by simp[he]),fP hh'.2 (i:=i) (by simp[he])⟩
      exact⟨hvs (hnn.imp id (·.1)) r1 q1,hvs (hnn.imp id (·.2)) r2 q2⟩
 . intro b hb;simp at hb;show (if _ then _ else _)=_;rw[if_neg (by omega),List.getElem?_eq_none (by omega)]
 . intro b b' c d d' h1 h2;rcases Nat.lt_or_ge b h.length with hb|hb <;> rcases Nat.lt_or_ge b' h.length with hb'|hb'
   . rw[hlt b hb]at h1;rw[hlt b' hb']at h2;exact m.inj _ _ _ _ _ h1 h2
   . obtain⟨k,_,hk⟩:=hback _ _ _ hb' h2;rw[hlt b hb]at h1;have:=m.bound _ _ _ h1;have:=new _ _ _ hk;omega
   . obtain⟨k,_,hk⟩:=hback _ _ _ hb h1;rw[hlt b' hb']at h2;have:=m.bound _ _ _ h2;have:=new _ _ _ hk;omega
   . obtain⟨k,e1,hk⟩:=hback _ _ _ hb h1;obtain⟨k',e2,hk'⟩:=hback _ _ _ hb' h2;have:=m'.inj _ _ _ _ _ hk hk';subst this;obtain⟨l1,q1⟩:=List.getElem?_eq_some_iff.1 e1;obtain⟨l2,q2⟩:=List.getElem?_eq_some_iff.1 e2;have:=(List.getElem_inj hnd).1 (q1.trans q2.symm);omega
 . intro b c d hb;rcases Nat.lt_or_ge b h.length with h1|h1
   . rw[hlt b h1]at hb;exact Nat.lt_of_lt_of_le (m.bound _ _ _ hb) x.size
   . obtain⟨k,_,hk⟩:=hback _ _ _ h1 hb;exact m'.bound _ _ _ hk
theorem Fp (hgl:∀g v,gl g=some v->v.top=0){f:Nat}{as as0:List AV}{v v1:AV}{hh:ab}{bs:List bc}{S ks:List Nat}(hr:eO h S as as0)(hnd:ks.Nodup)(hv1:Rn ks h.length v v1)(hlen:ks.length=bs.length)
 (hbs:∀(i b:Nat) o1,ks[i]? = some b->bs[i]? = some o1->∃o,hh.at b=some o/\qf ks h.length o o1/\(S=[]\/tv o=true)) (hn:S=[]\/cM v=true)
 (hloc:bz P gl ⟨f,as0,[],⟨v,hh,[]⟩⟩):bz P gl ⟨f,as,h,⟨v1,h++bs.map some,[]⟩⟩:=by
 refine⟨yd _ _ _,fun ρ w as' m hl=>?_⟩;obtain⟨nx,w1,h1,h2⟩:=hloc.2 (cV ρ S) w as' (m.cV hgl S) (hr.view m hl);exact⟨nx,w1,h1,h2.mono fun v w' hd=>Fo m hnd hv1 hlen hbs hn hd⟩
end Go.Ab
namespace Go.Ab
variable {c:an} {s:al} {Q:al->Prop} {l:List aO} {a b n:Int} {x y i:ax} {t:Nat} {pe as fi ca:List AV} {lo:List (Nat×AV)} {hp:ab} {df wr:List Nat} {d:dU} {v:AV} {r:HR} {k:IntKind}
structure ao where
 ext:FuncId->List AV->ab->Option HR
 inv:fe
 FT:FuncId->Option cK
abbrev ao.ev (M:ao)(n:Nat):=aV M.ext M.inv M.FT n
abbrev ao.call (M:ao)(n:Nat):=fN (M.ev n) M.ext M.FT
structure W (M:ao)(c:an)(s:al)(Q:Ex->al->Prop):Prop where
 out:∃n e s',M.ev n c s=some (e,s')/\Q e s'
structure WO (M:ao)(l:List aO)(s:al)(Q:al->Prop):Prop where
 out:∃n s',dN (M.call n) M.inv l s=some s'/\Q s'
structure WD (M:ao)(l:List (aO×List Nat))(s:al)(ds:List bK)(Q:al->Prop):Prop where
 out:∃n s',dc (M.call n) M.inv l s ds=some s'/\Q s'
structure WC (M:ao)(g:AV)(as:List AV)(h:ab)(Q:HR->Prop):Prop where
 out:∃n r,M.call n g as h=some r/\Q r
def aU (M:ao)(f:FuncId)(as:List AV)(h:ab)(r:HR):Prop:=∃n,gN (M.ev n) M.FT f as h=some r
variable {M:ao}
theorem tw {n m:Nat}(h:n<=m){c:an}{s:al}{x:Ex×al}(hx:M.ev n c s=some x):M.ev m c s=some x:=tu h c s x hx
theorem iz {n m:Nat}(h:n<=m):nD (M.call n) (M.call m):=Fk (tu h)
theorem W.mono {Q R:Ex->al->Prop}(h:W M c s Q)(hr:∀e s',Q e s'->R e s'):W M c s R:=by
 obtain⟨⟨n,e,s',h1,h2⟩⟩:=h;exact⟨⟨n,e,s',h1,hr _ _ h2⟩⟩
theorem WO.mono {R:al->Prop}(h:WO M l s Q)(hr:∀s',Q s'->R s'):WO M l s R:=by
 obtain⟨⟨n,s',h1,h2⟩⟩:=h;exact⟨⟨n,s',h1,hr _ h2⟩⟩
structure SQ (M:ao)(b:an)(Q:Ex->al->Prop)(e:Ex)(s:al):Prop where
 out:match e with
  | .normal=>W M b s Q
  | e=>Q e s
structure BQ (id:Nat)(Q:Ex->al->Prop)(e:Ex)(s:al):Prop where
 out:match e with
  | .exit i=>if i=id then Q .normal s else Q (.exit i) s
  | e=>Q e s
structure LQ (M:ao)(c:an)(Q:Ex->al->Prop)(e:Ex)(s:al):Prop where
 out:match e with
  | .normal=>W M (.loop c) s Q
  | e=>Q e s
theorem aaR {Q:Ex->al->Prop}(h:Q .normal s):W M .skip s Q:=⟨⟨1,.normal,s,rfl,h⟩⟩
theorem aaQ {Q:Ex->al->Prop}(h:Q .ret s):W M .ret s Q:=⟨⟨1,.ret,s,rfl,h⟩⟩
theorem acr {i:Nat}{Q:Ex->al->Prop}(h:Q (.exit i) s):W M (.exit i) s Q:=⟨⟨1,.exit i,s,rfl,h⟩⟩
theorem aaK {a b:an}{Q:Ex->al->Prop}(h:W M a s (SQ M b Q)):W M (.seq a b) s Q:=by
 obtain⟨⟨n,e,s1,h1,⟨h2⟩⟩⟩:=h;cases e with
 | normal=>
  obtain⟨⟨m,e,s2,h3,h4⟩⟩:=h2;refine⟨⟨max n m+1,e,s2,?_,h4⟩⟩;show aV _ _ _ _ _ _=_;rw[aV,show aV M.ext M.inv M.FT (max n m) _ s=_ from tw (Nat.le_max_left n m) h1];exact tw (Nat.le_max_right n m) h3
 | exit i=>refine⟨⟨n+1,.exit i,s1,?_,h2⟩⟩;show aV _ _ _ _ _ _=_;rw[aV,show aV _ _ _ n a s=_ from h1]
 | ret=>refine⟨⟨n+1,.ret,s1,?_,h2⟩⟩;show aV _ _ _ _ _ _=_;rw[aV,show aV _ _ _ n a s=_ from h1]
theorem abw {id:Nat}{Q:Ex->al->Prop}(h:W M c s (BQ id Q)):W M (.block id c) s Q:=by
 obtain⟨⟨n,e,s1,h1,⟨h2⟩⟩⟩:=h;have h1':aV M.ext M.inv M.FT n c s=some (e,s1):=h1;cases e with
 | normal=>refine⟨⟨n+1,.normal,s1,?_,h2⟩⟩;show aV _ _ _ _ _ _=_;rw[aV,h1']
 | ret=>refine⟨⟨n+1,.ret,s1,?_,h2⟩⟩;show aV _ _ _ _ _ _=_;rw[aV,h1']
 | exit i=>
  simp only at h2;split at h2
  . rename_i hi;refine⟨⟨n+1,.normal,s1,?_,h2⟩⟩;show aV _ _ _ _ _ _=_;rw[aV,h1'];simp only[if_pos hi]
  . rename_i hi;refine⟨⟨n+1,.exit i,s1,?_,h2⟩⟩;show aV _ _ _ _ _ _=_;rw[aV,h1'];simp only[if_neg hi]
theorem W.loop {Q:Ex->al->Prop}(h:W M c s (LQ M c Q)):W M (.loop c) s Q:=by
 obtain⟨⟨n,e,s1,h1,⟨h2⟩⟩⟩:=h;have h1':aV M.ext M.inv M.FT n c s=some (e,s1):=h1;cases e with
 | normal=>
  obtain⟨⟨m,e,s2,h3,h4⟩⟩:=h2;refine⟨⟨max n m+1,e,s2,?_,h4⟩⟩;show aV _ _ _ _ _ _=_;rw[aV,show aV M.ext M.inv M.FT (max n m) _ s=_ from tw (Nat.le_max_left n m) h1];exact tw (Nat.le_max_right n m) h3
 | exit i=>refine⟨⟨n+1,.exit i,s1,?_,h2⟩⟩;show aV _ _ _ _ _ _=_;rw[aV,h1']
 | ret=>refine⟨⟨n+1,.ret,s1,?_,h2⟩⟩;show aV _ _ _ _ _ _=_;rw[aV,h1']
theorem W.cond {t:Bool}{a b:an}{Q:Ex->al->Prop}(h:s.s.aa x=some (.bool t))(h1:t=true->W M a s Q)(h2:t=false->W M b s Q):W M (.cond x a b) s Q:=by
 cases t with
 | true=>
  obtain⟨⟨n,e,s',h3,h4⟩⟩:=h1 rfl;refine⟨⟨n+1,e,s',?_,h4⟩⟩;show aV _ _ _ _ _ _=_;rw[aV,h];exact h3
 | false=>
  obtain⟨⟨n,e,s',h3,h4⟩⟩:=h2 rfl;refine⟨⟨n+1,e,s',?_,h4⟩⟩;show aV _ _ _ _ _ _=_;rw[aV,h];exact h3
theorem abb {a b:an}{Q:Ex->al->Prop}(h:s.s.aa x=some (.bool true))(h1:W M a s Q):W M (.cond x a b) s Q:=W.cond h (fun _=>h1) (fun h=>by cases h)
theorem aaS {a b:an}{Q:Ex->al->Prop}(h:s.s.aa x=some (.bool false))(h1:W M b s Q):W M (.cond x a b) s Q:=W.cond h (fun h=>by cases h) (fun _=>h1)
theorem aaN {Q:Ex->al->Prop}(h:WO M l ⟨⟨pe,[],hp,df⟩,wr⟩ (Q .normal)):W M (.region l) ⟨⟨pe,lo,hp,df⟩,wr⟩ Q:=by
 obtain⟨⟨n,s',h1,h2⟩⟩:=h;refine⟨⟨n+1,.normal,s',?_,h2⟩⟩;show aV _ _ _ _ _ _=_;rw[aV,h1]
theorem aaX {l:List (aO×List Nat)}{Q:Ex->al->Prop}(h:WD M l ⟨⟨pe,[],hp,df⟩,wr⟩ [] (Q .normal)):W M (.draw l) ⟨⟨pe,lo,hp,df⟩,wr⟩ Q:=by
 obtain⟨⟨n,s',h1,h2⟩⟩:=h;refine⟨⟨n+1,.normal,s',?_,h2⟩⟩;show aV _ _ _ _ _ _=_;rw[aV,h1]
theorem aaO (h:Q s):WO M [] s Q:=⟨⟨0,s,rfl,h⟩⟩
def aS.nE:aS->Bool
 | .call .. | .invoke .. => false
 | _=>true
structure WP (M:ao)(s:St)(op:aS)(Q:HR->Prop):Prop where
 out:∃n r,bw (M.call n) M.inv s op=some r/\Q r
theorem WO.op {d:dU}{op:aS}{l:List aO}{s:al}{Q:al->Prop}(h:WP M s.s op fun r=>WO M l ⟨{ s.s.put d r.v with hp:=r.h },r.wr++s.wr⟩ Q):WO M (⟨d,op,none⟩::l) s Q:=by
 obtain⟨⟨n,r,h1,⟨⟨m,s',h2,h3⟩⟩⟩⟩:=h;refine⟨⟨max n m,s',?_,h3⟩⟩;simp only[dN,di];rw[tq (iz (Nat.le_max_left n m)) h1];exact kA (iz (Nat.le_max_right n m)) _ _ _ h2
theorem WO.skip {op:aS}{t want:Bool}(hx:s.s.aa x=some (.bool t))(ht:(t == want)=false)(h:WO M l ⟨s.s.put d bJ,s.wr⟩ Q):WO M (⟨d,op,some (x,want)⟩::l) s Q:=by
 obtain⟨⟨n,s',h1,h2⟩⟩:=h;refine⟨⟨n,s',?_,h2⟩⟩;simp only[dN,di,hx,ht];exact h1
theorem WO.take {op:aS}{t want:Bool}(hx:s.s.aa x=some (.bool t))(ht:(t == want)=true)(h:WO M (⟨d,op,none⟩::l) s Q):WO M (⟨d,op,some (x,want)⟩::l) s Q:=by
 obtain⟨⟨n,s',h1,h2⟩⟩:=h;refine⟨⟨n,s',?_,h2⟩⟩;simp only[dN,di,hx,ht]at h1 ⊢;exact h1
theorem WO.Ph {op:aS}(hx:s.s.aa x=some (.aq [])){want:Bool}(h:WO M l ⟨s.s.put d bJ,s.wr⟩ Q):WO M (⟨d,op,some (x,want)⟩::l) s Q:=by
 obtain⟨⟨n,s',h1,h2⟩⟩:=h;refine⟨⟨n,s',?_,h2⟩⟩;simp only[dN,di,hx];exact h1
theorem acu {op:aS}(hx:s.s.aa x=some (.bool true))(h:WO M (⟨d,op,none⟩::l) s Q):WO M (⟨d,op,some (x,true)⟩::l) s Q:=WO.take hx rfl h
theorem abc {op:aS}(hx:s.s.aa x=some (.bool false))(h:WO M (⟨d,op,none⟩::l) s Q):WO M (⟨d,op,some (x,false)⟩::l) s Q:=WO.take hx rfl h
theorem acv {op:aS}(hx:(St.mk pe lo hp df).aa x=some (.bool false))(h:WO M l ⟨⟨pe,(t,bJ)::lo,hp,df⟩,wr⟩ Q):WO M (⟨.l t,op,some (x,true)⟩::l) ⟨⟨pe,lo,hp,df⟩,wr⟩ Q:=WO.skip hx rfl h
theorem acw {op:aS}(hx:(St.mk pe lo hp df).aa x=some (.bool true))(h:WO M l ⟨⟨pe,(t,bJ)::lo,hp,df⟩,wr⟩ Q):WO M (⟨.l t,op,some (x,false)⟩::l) ⟨⟨pe,lo,hp,df⟩,wr⟩ Q:=WO.skip hx rfl h
theorem WP.pure {s:St}{op:aS}{Q:HR->Prop}(hh:op.bh=false)(hv:aP s op=some v)(h:Q ⟨v,s.hp,[]⟩):WP M s op Q:=by
 refine⟨⟨0,_,?_,h⟩⟩;cases op <;> first|(cases hh;done)|simp only[bw,aS.bh,hv,Bool.false_eq_true,if_false,Option.map_some]
theorem WP.heap {s:St}{op:aS}{Q:HR->Prop}(hh:op.bh=true)(hc:op.nE=true)(hv:bg s op s.hp=some r)(h:Q r):WP M s op Q:=by
 refine⟨⟨0,_,?_,h⟩⟩;cases op <;> first|(cases hh;done)|(cases hc;done)|(simp only[bw,aS.bh,if_true];exact hv)
theorem WP.call {s:St}{f:ax}{args:List ax}{g:AV}{Q:HR->Prop}(hf:s.aa f=some g)(ha:s.bY args=some as)(h:WC M g as s.hp Q):WP M s (.call f args) Q:=by
 obtain⟨⟨n,r,h1,h2⟩⟩:=h;refine⟨⟨n,r,?_,h2⟩⟩;simp only[bw,hf,ha];exact h1
theorem WC.ext {f:FuncId}{h:ab}{Q:HR->Prop}(he:M.ext f (fi++as++ca) h=some r)(hq:Q r):WC M (.fn (.func f) fi ca) as h Q:=
 ⟨⟨0,r,by simp only[fN,he],hq⟩⟩
theorem WC.run {f:FuncId}{h:ab}{Q:HR->Prop}(he:M.ext f (fi++as++ca) h=none)(hr:aU M f (fi++as++ca) h r)(hq:Q r):WC M (.fn (.func f) fi ca) as h Q:=by
 obtain⟨n,hn⟩:=hr;exact⟨⟨n,r,by simp only[fN,he];exact hn,hq⟩⟩
theorem WO.Pj {f:ax}{args:List ax}{g:FuncId}(hf:s.s.aa f=some (.fn (.func g) fi ca))(ha:s.s.bY args=some as)(he:M.ext g (fi++as++ca) s.s.hp=some r)
 (h:WO M l ⟨{ s.s.put d r.v with hp:=r.h },r.wr++s.wr⟩ Q):WO M (⟨d,.call f args,none⟩::l) s Q:=WO.op (WP.call hf ha (WC.ext he h))
theorem aac {op:aS}(hv:aP ⟨pe,lo,hp,df⟩ op=some v)(hh:op.bh=false)(h:WO M l ⟨⟨pe,(t,v)::lo,hp,df⟩,wr⟩ Q) :
 WO M (⟨.l t,op,none⟩::l) ⟨⟨pe,lo,hp,df⟩,wr⟩ Q:=WO.op (WP.pure hh hv h)
theorem aaL {i:Nat}{op:aS}(hv:aP ⟨pe,lo,hp,df⟩ op=some v)(hh:op.bh=false)(h:WO M l ⟨⟨pe.set i v,lo,hp,df⟩,wr⟩ Q) :
 WO M (⟨.p i,op,none⟩::l) ⟨⟨pe,lo,hp,df⟩,wr⟩ Q:=WO.op (WP.pure hh hv h)
theorem WO.hl {op:aS}(hv:bg ⟨pe,lo,hp,df⟩ op hp=some r)(hh:op.bh=true)(hc:op.nE=true)
 (h:WO M l ⟨⟨pe,(t,r.v)::lo,r.h,df⟩,r.wr++wr⟩ Q):WO M (⟨.l t,op,none⟩::l) ⟨⟨pe,lo,hp,df⟩,wr⟩ Q:=WO.op (WP.heap hh hc hv h)
theorem WO.hn {op:aS}(hv:bg ⟨pe,lo,hp,df⟩ op hp=some r)(hh:op.bh=true)(hc:op.nE=true)
 (h:WO M l ⟨⟨pe,lo,r.h,df⟩,r.wr++wr⟩ Q):WO M (⟨.no,op,none⟩::l) ⟨⟨pe,lo,hp,df⟩,wr⟩ Q:=WO.op (WP.heap hh hc hv h)
theorem aab (hx:(St.mk pe lo hp df).aa x=some (.int k a))(hy:(St.mk pe lo hp df).aa y=some (.int k b))
 (h1:a<b->WO M l ⟨⟨pe,(t,.bool true)::lo,hp,df⟩,wr⟩ Q) (h2:b<=a->WO M l ⟨⟨pe,(t,.bool false)::lo,hp,df⟩,wr⟩ Q):WO M (⟨.l t,.bin .lss x y,none⟩::l) ⟨⟨pe,lo,hp,df⟩,wr⟩ Q:=by
 refine WO.op (WP.pure (v:=.bool (decide (a<b))) rfl (by simp[aP,hx,hy,ck]) ?_);by_cases h:a<b
 . rw[decide_eq_true h];exact h1 h
 . rw[decide_eq_false h];exact h2 (by omega)
theorem aaG (hx:(St.mk pe lo hp df).aa x=some (.int k a))(hy:(St.mk pe lo hp df).aa y=some (.int k b))
 (h1:a<=b->WO M l ⟨⟨pe,(t,.bool true)::lo,hp,df⟩,wr⟩ Q) (h2:b<a->WO M l ⟨⟨pe,(t,.bool false)::lo,hp,df⟩,wr⟩ Q):WO M (⟨.l t,.bin .leq x y,none⟩::l) ⟨⟨pe,lo,hp,df⟩,wr⟩ Q:=by
 refine WO.op (WP.pure (v:=.bool (decide (a<=b))) rfl (by simp[aP,hx,hy,ck]) ?_);by_cases h:a<=b
 . rw[decide_eq_true h];exact h1 h
 . rw[decide_eq_false h];exact h2 (by omega)
theorem aah (hx:(St.mk pe lo hp df).aa x=some (.int k a))(hy:(St.mk pe lo hp df).aa y=some (.int k b))
 (h1:b<a->WO M l ⟨⟨pe,(t,.bool true)::lo,hp,df⟩,wr⟩ Q) (h2:a<=b->WO M l ⟨⟨pe,(t,.bool false)::lo,hp,df⟩,wr⟩ Q):WO M (⟨.l t,.bin .gtr x y,none⟩::l) ⟨⟨pe,lo,hp,df⟩,wr⟩ Q:=by
 refine WO.op (WP.pure (v:=.bool (decide (a > b))) rfl (by simp[aP,hx,hy,ck]) ?_);by_cases h:b<a
 . rw[decide_eq_true h];exact h1 h
 . rw[decide_eq_false h];exact h2 (by omega)
theorem aaE (hx:(St.mk pe lo hp df).aa x=some (.int k a))(hy:(St.mk pe lo hp df).aa y=some (.int k b))
 (h1:b<=a->WO M l ⟨⟨pe,(t,.bool true)::lo,hp,df⟩,wr⟩ Q) (h2:a<b->WO M l ⟨⟨pe,(t,.bool false)::lo,hp,df⟩,wr⟩ Q):WO M (⟨.l t,.bin .geq x y,none⟩::l) ⟨⟨pe,lo,hp,df⟩,wr⟩ Q:=by
 refine WO.op (WP.pure (v:=.bool (decide (a>=b))) rfl (by simp[aP,hx,hy,ck]) ?_);by_cases h:b<=a
 . rw[decide_eq_true h];exact h1 h
 . rw[decide_eq_false h];exact h2 (by omega)
theorem aak (hx:(St.mk pe lo hp df).aa x=some (.int k a))(hy:(St.mk pe lo hp df).aa y=some (.int k b))
 (h1:a=b->WO M l ⟨⟨pe,(t,.bool true)::lo,hp,df⟩,wr⟩ Q) (h2:a≠b->WO M l ⟨⟨pe,(t,.bool false)::lo,hp,df⟩,wr⟩ Q):WO M (⟨.l t,.bin .eql x y,none⟩::l) ⟨⟨pe,lo,hp,df⟩,wr⟩ Q:=by
 refine WO.op (WP.pure (v:=.bool (a == b)) rfl (by simp[aP,hx,hy,ck]) ?_);by_cases h:a=b
 . rw[beq_iff_eq.2 h];exact h1 h
 . rw[beq_eq_false_iff_ne.2 h];exact h2 h
theorem aaF (hx:(St.mk pe lo hp df).aa x=some (.int k a))(hy:(St.mk pe lo hp df).aa y=some (.int k b))
 (h1:a≠b->WO M l ⟨⟨pe,(t,.bool true)::lo,hp,df⟩,wr⟩ Q) (h2:a=b->WO M l ⟨⟨pe,(t,.bool false)::lo,hp,df⟩,wr⟩ Q):WO M (⟨.l t,.bin .neq x y,none⟩::l) ⟨⟨pe,lo,hp,df⟩,wr⟩ Q:=by
 refine WO.op (WP.pure (v:=.bool (a != b)) rfl (by simp[aP,hx,hy,ck]) ?_);by_cases h:a=b
 . rw[bne_eq_false_iff_eq.2 h];exact h2 h
 . rw[bne_iff_ne.2 h];exact h1 h
theorem aaP {a b:List UInt8}(hx:(St.mk pe lo hp df).aa x=some (.str a))(hy:(St.mk pe lo hp df).aa y=some (.str b))
 (h1:a=b->WO M l ⟨⟨pe,(t,.bool true)::lo,hp,df⟩,wr⟩ Q) (h2:a≠b->WO M l ⟨⟨pe,(t,.bool false)::lo,hp,df⟩,wr⟩ Q):WO M (⟨.l t,.bin .eql x y,none⟩::l) ⟨⟨pe,lo,hp,df⟩,wr⟩ Q:=by
 refine WO.op (WP.pure (v:=.bool (a == b)) rfl (by simp[aP,hx,hy,ck]) ?_);by_cases h:a=b
 . rw[beq_iff_eq.2 h];exact h1 h
 . rw[beq_eq_false_iff_ne.2 h];exact h2 h
theorem acN {a b:List UInt8}(hx:(St.mk pe lo hp df).aa x=some (.str a))(hy:(St.mk pe lo hp df).aa y=some (.str b))
 (h1:a≠b->WO M l ⟨⟨pe,(t,.bool true)::lo,hp,df⟩,wr⟩ Q) (h2:a=b->WO M l ⟨⟨pe,(t,.bool false)::lo,hp,df⟩,wr⟩ Q):WO M (⟨.l t,.bin .neq x y,none⟩::l) ⟨⟨pe,lo,hp,df⟩,wr⟩ Q:=by
 refine WO.op (WP.pure (v:=.bool !(a == b)) rfl (by simp[aP,hx,hy,ck]) ?_);by_cases h:a=b
 . rw[beq_iff_eq.2 h];exact h2 h
 . rw[beq_eq_false_iff_ne.2 h];exact h1 h
theorem lS (h : -9223372036854775808<=n/\n<9223372036854775808):IntKind.i64.wrap n=n:=IntWalk.i64_in _ (by omega)
theorem abn (hx:(St.mk pe lo hp df).aa x=some (.int .i64 a))(hy:(St.mk pe lo hp df).aa y=some (.int .i64 b))
 (hr : -9223372036854775808<=a+b/\a+b<9223372036854775808) (h:WO M l ⟨⟨pe,(t,.int .i64 (a+b))::lo,hp,df⟩,wr⟩ Q):WO M (⟨.l t,.bin .add x y,none⟩::l) ⟨⟨pe,lo,hp,df⟩,wr⟩ Q:=
 WO.op (WP.pure (v:=.int .i64 (a+b)) rfl (by simp[aP,hx,hy,ck,lS hr]) h)
theorem aaY (hx:(St.mk pe lo hp df).aa x=some (.int .i64 a))(hy:(St.mk pe lo hp df).aa y=some (.int .i64 b))
 (hr : -9223372036854775808<=a-b/\a-b<9223372036854775808) (h:WO M l ⟨⟨pe,(t,.int .i64 (a-b))::lo,hp,df⟩,wr⟩ Q):WO M (⟨.l t,.bin .sub x y,none⟩::l) ⟨⟨pe,lo,hp,df⟩,wr⟩ Q:=
 WO.op (WP.pure (v:=.int .i64 (a-b)) rfl (by simp[aP,hx,hy,ck,lS hr]) h)
theorem acA (hx:(St.mk pe lo hp df).aa x=some (.int .i64 a))(hy:(St.mk pe lo hp df).aa y=some (.int .i64 b))
 (hr : -9223372036854775808<=a*b/\a*b<9223372036854775808) (h:WO M l ⟨⟨pe,(t,.int .i64 (a*b))::lo,hp,df⟩,wr⟩ Q):WO M (⟨.l t,.bin .mul x y,none⟩::l) ⟨⟨pe,lo,hp,df⟩,wr⟩ Q:=
 WO.op (WP.pure (v:=.int .i64 (a*b)) rfl (by simp[aP,hx,hy,ck,lS hr]) h)
theorem abj (hx:(St.mk pe lo hp df).aa x=some (.int .i64 a))(hy:(St.mk pe lo hp df).aa y=some (.int .i64 b))
 (hb:0<b) (hr : -9223372036854775808<=a/\a<9223372036854775808) (h:WO M l ⟨⟨pe,(t,.int .i64 (a.tdiv b))::lo,hp,df⟩,wr⟩ Q):WO M (⟨.l t,.bin .quo x y,none⟩::l) ⟨⟨pe,lo,hp,df⟩,wr⟩ Q:=by
 have hb':b≠0:=by omega
 have h1:(a.tdiv b).natAbs<=a.natAbs:=by rw[Int.natAbs_tdiv];exact Nat.div_le_self _ _
 have h2 : -9223372036854775808<=a.tdiv b/\a.tdiv b<9223372036854775808:=by
  rcases Int.le_total 0 a with h0|h0
  . have:=Int.tdiv_nonneg h0 (Int.le_of_lt hb);omega
  . have:a.tdiv b<=0:=by
     have:=Int.tdiv_nonneg (a:=-a) (b:=b) (by omega) (Int.le_of_lt hb);rw[Int.neg_tdiv]at this;omega
    omega
 exact WO.op (WP.pure (v:=.int .i64 (a.tdiv b)) rfl (by simp[aP,hx,hy,ck,hb',lS h2]) h)
theorem abk (hx:(St.mk pe lo hp df).aa x=some (.int k a))(hy:(St.mk pe lo hp df).aa y=some (.int k b))
 (hb:b≠0) (h:WO M l ⟨⟨pe,(t,.int k (a.tmod b))::lo,hp,df⟩,wr⟩ Q):WO M (⟨.l t,.bin .rem x y,none⟩::l) ⟨⟨pe,lo,hp,df⟩,wr⟩ Q:=
 WO.op (WP.pure (v:=.int k (a.tmod b)) rfl (by simp[aP,hx,hy,ck,hb]) h)
theorem acC {esz:Nat}{c:List AV}{len:Nat}{cap:Option Nat}(hx:(St.mk pe lo hp df).aa x=some (.vs c len cap))(hy:(St.mk pe lo hp df).aa i=some (.int k n))
 (hb:0<=n/\n<len) (h:WO M l ⟨⟨pe,(t,.vp (c.drop (n.toNat*esz)))::lo,hp,df⟩,wr⟩ Q):WO M (⟨.l t,.dX none esz x i,none⟩::l) ⟨⟨pe,lo,hp,df⟩,wr⟩ Q:=
 WO.op (WP.pure (v:=.vp (c.drop (n.toNat*esz))) rfl (by simp[aP,hx,hy,mS,hb]) h)
theorem abS {esz b o len:Nat}{cap:Option Nat}(hx:(St.mk pe lo hp df).aa x=some (.sl b o len esz cap))(hy:(St.mk pe lo hp df).aa i=some (.int k n))
 (hb:0<=n/\n<len) (h:WO M l ⟨⟨pe,(t,.ptr b (o+n.toNat*esz))::lo,hp,df⟩,wr⟩ Q):WO M (⟨.l t,.dX none esz x i,none⟩::l) ⟨⟨pe,lo,hp,df⟩,wr⟩ Q:=
 WO.op (WP.pure (v:=.ptr b (o+n.toNat*esz)) rfl (by simp[aP,hx,hy,mS,hb]) h)
theorem abz {s:List UInt8}(hx:(St.mk pe lo hp df).aa x=some (.str s))(hy:(St.mk pe lo hp df).aa i=some (.int k n))
 (hb:0<=n/\n<s.length) (h:WO M l ⟨⟨pe,(t,.int .u8 (s[n.toNat]!).toNat)::lo,hp,df⟩,wr⟩ Q):WO M (⟨.l t,.index x i,none⟩::l) ⟨⟨pe,lo,hp,df⟩,wr⟩ Q:=by
 have h1:n.toNat<s.length:=by omega
 refine WO.op (WP.pure (v:=.int .u8 (s[n.toNat]!).toNat) rfl ?_ h);simp[aP,hx,hy,rX,hb.1,h1]
theorem iI {b:an}{s:al}{Q}(h:W M b s Q):SQ M b Q .normal s:=⟨h⟩
theorem LP {b:an}{s:al}{Q}{i:Nat}(h:Q (.exit i) s):SQ M b Q (.exit i) s:=⟨h⟩
theorem LO {b:an}{s:al}{Q}(h:Q .ret s):SQ M b Q .ret s:=⟨h⟩
theorem wU {b:Nat}{s:al}{Q}(h:Q .normal s):BQ b Q .normal s:=⟨h⟩
theorem LR {b:Nat}{s:al}{Q}(h:Q .ret s):BQ b Q .ret s:=⟨h⟩
theorem LS {b:Nat}{s:al}{Q}(h:Q .normal s):BQ b Q (.exit b) s:=⟨by simp only[if_true];exact h⟩
theorem LU {b i:Nat}{s:al}{Q}(hn:Nat.beq i b=false)(h:Q (.exit i) s):BQ b Q (.exit i) s:=
 ⟨by simp only;rw[if_neg (fun e=>by subst e;simp at hn)];exact h⟩
theorem cW {b:an}{s:al}{Q}(h:W M (.loop b) s Q):LQ M b Q .normal s:=⟨h⟩
theorem LV {b:an}{s:al}{Q}{i:Nat}(h:Q (.exit i) s):LQ M b Q (.exit i) s:=⟨h⟩
theorem LW {b:an}{s:al}{Q}(h:Q .ret s):LQ M b Q .ret s:=⟨h⟩
theorem bO {f N:Nat}{az:List Nat}{res:List fc}{body:an}{hh:ab}(hft:M.FT f=some ⟨N,az,res,body⟩)(hN:as.length<=N)
 (h:W M body ⟨⟨az.map (fun t=>(as[t]?).getD bJ),[],[],[]⟩,[]⟩ fun e s=>(e = .normal\/e = .ret)/\s.s.bA=[]/\∃vs,cU s.s res=some vs/\aQ vs=v/\(if v.top<=0 then [] else s.s.hp)=hh):aU M f as [] ⟨v,hh,[]⟩:=by
 obtain⟨⟨n,e,s,h1,h2,h3,vs,h4,h5,h6⟩⟩:=h;refine⟨n,?_⟩;have h1':aV M.ext M.inv M.FT n body ⟨⟨az.map (fun t=>(as[t]?).getD bJ),[],[],[]⟩,[]⟩=some (e,s):=h1;simp only[gN,hft];rw[if_neg (by omega)];simp only[ao.ev,h1',if_pos h2,h3,jH,h4];subst h5;subst h6;have ht:tight s.s.hp 0 s.wr=true:=by
  simp only[tight,List.all_eq_true];intro b _;split <;> simp
 have hf:s.wr.filter (fun b=>decide (b<0))=[]:=by simp
 simp only[eB,List.length_nil,ht,Bool.and_true,hf,List.take_zero,decide_eq_true_eq];split <;> rfl
end Go.Ab
namespace Go.Ab
variable {FT:FuncId->Option cK} {h:ab} {S:List Nat}
variable {P:Program} {gl:Nat->Option AV}
abbrev Spec:=List AV->ab->Option HR
def bj:List (Nat×Spec)->FuncId->List AV->ab->Option HR
 | [],_,_,_=>none
 | (g,sp)::T,f,as,h=>if Nat.beq g f then sp as h else bj T f as h
def bQ (P:Program)(gl:Nat->Option AV)(f:Nat)(sp:Spec):Prop:=∀as h r,sp as h=some r->bz P gl ⟨f,as,h,r⟩
theorem cQ:dg P gl (bj []):=fun _ _ _ _ h=>by cases h
theorem bF {f:Nat}{sp:Spec}{T:List (Nat×Spec)}(h:bQ P gl f sp)(hT:dg P gl (bj T)):dg P gl (bj ((f,sp)::T)):=by
 intro g all hp r hq;simp only[bj]at hq;split at hq
 . rename_i e;have e':=Nat.eq_of_beq_eq_true e;subst e';exact h _ _ _ hq
 . exact hT g all hp r hq
def qg (k:XK):Spec:=fun as h=>(k.run as).map fun v=>⟨v,h,[]⟩
def yA (as0:List AV)(v:AV):Spec:=fun as h=>if tg as as0 then some ⟨v,h,[]⟩ else none
theorem Pk (hgl:∀g v,gl g=some v->v.top=0){f:Nat}{as0:List AV}{v:AV}(hv:v.top=0)(htop:aY as0=0)(hloc:bz P gl ⟨f,as0,[],⟨v,[],[]⟩⟩):bQ P gl f (yA as0 v):=by
 intro as h r hq;simp only[yA]at hq;split at hq
 . rename_i e;have e':=Fc e;subst e';cases hq;have:=Fp (h:=h) (S:=[]) (ks:=[]) (bs:=[]) hgl (as:=as) ⟨rfl,fun i x y hx hy=>by rw[hx]at hy;cases hy;exact .same (by have:=dZ (n:=0) (by omega) i x hx;omega)⟩ (by simp) (.same hv) rfl (by simp) (.inl rfl) hloc;simpa using this
 . cases hq
structure iQ (P:Program)(gl:Nat->Option AV)(FT:FuncId->Option cK):Prop where
 mix:P.follows .mixedOrders=true
 ft:kr P gl FT
 gl:∀g v,gl g=some v->v.top=0
abbrev aZ (P:Program)(FT:FuncId->Option cK)(T:List (Nat×Spec)):ao:=⟨bj T,dY P,FT⟩
theorem qc (hs:iQ P gl FT){T:List (Nat×Spec)}(hT:dg P gl (bj T)){f:Nat}{as:List AV}{h:ab}{r:HR}(hr:aU (aZ P FT T) f as h r)(hw:eM h r):bz P gl ⟨f,as,h,r⟩:=by
 obtain⟨n,hn⟩:=hr;refine⟨hw,fun ρ w as' m hv=>?_⟩;obtain⟨h1,h2⟩:=sZ (yw hs.mix hT hs.ft n) hs.ft hn m hv;refine⟨_,_,h1,?_⟩;refine CallsIn.mono h2 fun e w' he=>?_
 cases e with
 | returned v=>exact he
 | panicked _=>exact he
 | outgrown=>exact he
theorem Fq (hs:iQ P gl FT){T:List (Nat×Spec)}(hT:dg P gl (bj T)){f:Nat}{as as0:List AV}{h:ab}{S ks:List Nat}{v v1:AV}{hh:ab}{bs:List bc}(hr:aU (aZ P FT T) f as0 [] ⟨v,hh,[]⟩)
 (hv:eO h S as as0) (hnd:ks.Nodup) (hv1:Rn ks h.length v v1) (hlen:ks.length=bs.length)
 (hbs:∀(i b:Nat) o1,ks[i]? = some b->bs[i]? = some o1->∃o,hh.at b=some o/\qf ks h.length o o1/\(S=[]\/tv o=true)) (hn:S=[]\/cM v=true):bz P gl ⟨f,as,h,⟨v1,h++bs.map some,[]⟩⟩:=
 Fp hs.gl hv hnd hv1 hlen hbs hn (qc hs hT hr ⟨Nat.zero_le _,fun _ hb=>absurd hb (Nat.not_lt_zero _)⟩)
theorem nF (hs:iQ P gl FT){T:List (Nat×Spec)}(hT:dg P gl (bj T)){f:Nat}{as as0:List AV}{h hh:ab}{S:List Nat}{v:AV}(hr:aU (aZ P FT T) f as0 [] ⟨v,hh,[]⟩)
 (hv:eO h S as as0) (ht:v.top=0) (hn:S=[]\/cM v=true):bz P gl ⟨f,as,h,⟨v,h,[]⟩⟩:=by
 have:=Fq hs hT (ks:=[]) (bs:=[]) hr hv (by simp) (.same ht) rfl (by simp) hn;simpa using this
theorem Pl (hs:iQ P gl FT){T:List (Nat×Spec)}(hT:dg P gl (bj T)){f:Nat}{as as0:List AV}{h hh:ab}{S:List Nat}{k:Nat}{v v1:AV}{l:List AV}{e:TypeId}(hr:aU (aZ P FT T) f as0 [] ⟨v,hh,[]⟩)
 (hv:eO h S as as0) (hv1:Rn [k] h.length v v1) (hat:hh.at k=some (.cells l e)) (hl:aY l=0) (hnl:S=[]\/dV l=true) (hn:S=[]\/cM v=true):bz P gl ⟨f,as,h,⟨v1,h++[some (.cells l e)],[]⟩⟩:=by
 refine Fq hs hT (ks:=[k]) (bs:=[.cells l e]) hr hv (by simp) hv1 rfl ?_ hn;intro i b o1 hi ho;cases i with
 | zero=>simp at hi ho;subst hi;subst ho;exact⟨_,hat,.cells (.same hl),hnl⟩
 | succ i=>simp at hi
theorem eO.nil:eO h S [] []:=⟨rfl,by simp⟩
theorem eO.cons {x y:AV}{l m:List AV}(h1:Fr h S x y)(h2:eO h S l m):eO h S (x::l) (y::m):=by
 refine⟨by simp[h2.1],fun i a b ha hb=>?_⟩;cases i with
 | zero=>simp at ha hb;subst ha;subst hb;exact h1
 | succ i=>simp at ha hb;exact h2.2 i a b ha hb
theorem eO.same {l:List AV}(ht:aY l=0):eO h S l l:=
 ⟨rfl,fun i x y hx hy=>by rw[hx]at hy;cases hy;exact .same (by have:=dZ (n:=0) (by omega) i x hx;omega)⟩
theorem Fr.mono {S':List Nat}(hs:∀b∈S,b∈S'){x y:AV}(hf:Fr h S x y):Fr h S' x y:=by
 induction hf with
 | same ht=>exact .same ht
 | nil hc=>exact .nil hc
 | sl hb ha hc hl _ hcc ih=>exact .sl (hs _ hb) ha hc hl ih hcc
 | ptr hb ha hl _ ih=>exact .ptr (hs _ hb) ha hl ih
 | vs hl _ ih=>exact .vs hl ih
 | agg hl _ ih=>exact .agg hl ih
 | aq hl _ ih=>exact .aq hl ih
 | fn hf h1 h2 _ _ ih1 ih2=>exact .fn hf h1 h2 ih1 ih2
def arr {α:Type}(f:α->List AV)(l:List α):List AV:=l.flatMap f
def ints (l:List Int):List AV:=arr (fun x=>[.int .i64 x]) l
theorem Pm {a b:List AV}:dV (a++b)=(dV a && dV b):=by
 induction a with
 | nil=>simp[dV]
 | cons x a ih=>simp only[List.cons_append,dV,ih,Bool.and_assoc]
theorem lT {α:Type}{f:α->List AV}(hf:∀a,dV (f a)=true):∀l:List α,dV (arr f l)=true
 | []=>rfl
 | a::l=>by
  have:=lT hf l;simp only[arr,List.flatMap_cons,Pm,hf]at this ⊢;simpa using this
def Sl {α:Type}(f:α->List AV)(h:ab)(v:AV)(l:List α):Prop:=
 (v = .ae/\l=[])\/(∃cap,v = .vs (arr f l) l.length cap)\/(∃b off esz cap c e,v = .sl b off l.length esz cap/\h.at b=some (.cells c e)/\cut c off (l.length*esz)=some (arr f l))
theorem Pn {a b:List AV}:aY (a++b)=max (aY a) (aY b):=by
 induction a with
 | nil=>simp[aY]
 | cons x a ih=>simp only[List.cons_append,aY,ih];omega
theorem kB {α:Type}{f:α->List AV}(hf:∀a,aY (f a)=0):∀l:List α,aY (arr f l)=0
 | []=>rfl
 | a::l=>by
  have:=kB hf l;simp only[arr,List.flatMap_cons,Pn,hf]at this ⊢;omega
theorem Sl.fr {α:Type}{f:α->List AV}(hf:∀a,aY (f a)=0){h:ab}{v:AV}{l:List α}(hs:Sl f h v l):∃S cap,Fr h S v (.vs (arr f l) l.length cap):=by
 rcases hs with ⟨rfl,rfl⟩|⟨cap,rfl⟩|⟨b,off,esz,cap,c,e,rfl,h1,h2⟩
 . exact⟨[],none,.nil (by simp)⟩
 . exact⟨[],cap,.same (by simp only[AV.top];exact kB hf l)⟩
 . refine⟨[b],cap,.sl (List.mem_singleton.2 rfl) h1 h2 rfl fun i x y hx hy=>?_⟩;rw[hx]at hy;cases hy;exact .same (by have:=dZ (n:=0) (Nat.le_of_eq (kB hf l)) i x hx;omega)
end Go.Ab
namespace Go.Ab
variable {t i j n b:Nat} {l:List aO} {pe a new:List AV} {lo:List (Nat×AV)} {hp h' h:ab} {df wr w':List Nat} {v:AV} {Q:al->Prop} {op:aS} {ag:Bool} {x y:ax} {e:TypeId} {o:Option bc}
variable {M:ao}
theorem acz {c a b:ax}(hc:(St.mk pe lo hp df).aa c=some (.bool true))(ha:(St.mk pe lo hp df).aa a=some v)
 (h:WO M l ⟨⟨pe,(t,v)::lo,hp,df⟩,wr⟩ Q):WO M (⟨.l t,.pick c a b,none⟩::l) ⟨⟨pe,lo,hp,df⟩,wr⟩ Q:=
 WO.op (WP.pure (v:=v) rfl (by simp only[aP,hc,ha];cases (St.mk pe lo hp df).aa b <;> simp) h)
theorem abd {c a b:ax}(hc:(St.mk pe lo hp df).aa c=some (.bool false))(hb:(St.mk pe lo hp df).aa b=some v)
 (h:WO M l ⟨⟨pe,(t,v)::lo,hp,df⟩,wr⟩ Q):WO M (⟨.l t,.pick c a b,none⟩::l) ⟨⟨pe,lo,hp,df⟩,wr⟩ Q:=
 WO.op (WP.pure (v:=v) rfl (by simp only[aP,hc,hb];cases (St.mk pe lo hp df).aa a <;> simp) h)
theorem aaD (hv:bg ⟨pe,lo,hp,df⟩ op hp=some ⟨v,h',w'⟩)(hh:op.bh=true)(hc:op.nE=true)
 (h:WO M l ⟨⟨pe,(t,v)::lo,h',df⟩,w'++wr⟩ Q):WO M (⟨.l t,op,none⟩::l) ⟨⟨pe,lo,hp,df⟩,wr⟩ Q:=WO.op (WP.heap hh hc hv h)
theorem abe (hv:bg ⟨pe,lo,hp,df⟩ op hp=some ⟨v,h',w'⟩)(hh:op.bh=true)(hc:op.nE=true)
 (h:WO M l ⟨⟨pe.set i v,lo,h',df⟩,w'++wr⟩ Q):WO M (⟨.p i,op,none⟩::l) ⟨⟨pe,lo,hp,df⟩,wr⟩ Q:=WO.op (WP.heap hh hc hv h)
theorem abf (hv:bg ⟨pe,lo,hp,df⟩ op hp=some ⟨v,h',w'⟩)(hh:op.bh=true)(hc:op.nE=true)
 (h:WO M l ⟨⟨pe,lo,h',df⟩,w'++wr⟩ Q):WO M (⟨.no,op,none⟩::l) ⟨⟨pe,lo,hp,df⟩,wr⟩ Q:=WO.op (WP.heap hh hc hv h)
theorem jr {α:Type}{f:α->List AV}(a:α)(l:List α):arr f (a::l)=f a++arr f l:=rfl
theorem yB {α:Type}{f:α->List AV}(l m:List α):arr f (l++m)=arr f l++arr f m:=by simp[arr]
section
variable {α:Type} {f:α->List AV} {esz:Nat}
theorem js (hf:∀a,(f a).length=esz):∀l:List α,(arr f l).length=l.length*esz
 | []=>by simp[arr]
 | a::l=>by rw[jr,List.length_append,hf,js hf l,List.length_cons,Nat.add_mul];omega
theorem yC (hf:∀a,(f a).length=esz):∀(l:List α) (i:Nat),(arr f l).drop (i*esz)=arr f (l.drop i)
 | [],i=>by simp[arr]
 | a::l,0=>by simp
 | a::l,i+1=>by
  rw[jr,List.drop_append,show (i+1)*esz=esz+i*esz from by rw[Nat.add_mul];omega,hf,Nat.add_sub_cancel_left,yC hf l i,List.drop_succ_cons,List.drop_eq_nil_of_le (by rw[hf];omega)];rfl
theorem yD (hf:∀a,(f a).length=esz):∀(l:List α) (i:Nat),(arr f l).take (i*esz)=arr f (l.take i)
 | [],i=>by simp[arr]
 | a::l,0=>by simp[arr]
 | a::l,i+1=>by
  rw[jr,List.take_append,show (i+1)*esz=esz+i*esz from by rw[Nat.add_mul];omega,hf,Nat.add_sub_cancel_left,yD hf l i,List.take_succ_cons,List.take_of_length_le (by rw[hf];omega)];rfl
theorem jQ (hf:∀a,(f a).length=esz){l:List α}{i n:Nat}(h:i+n<=l.length):cut (arr f l) (i*esz) (n*esz)=some (arr f ((l.drop i).take n)):=by
 simp only[cut,yC hf,yD hf,js hf];rw[if_pos (by rw[List.length_take,List.length_drop];congr 1;omega)]
theorem Po [ia:Inhabited α](hf:∀a,(f a).length=esz){l:List α}{i:Nat}(h:i<l.length):∃r,(arr f l).drop (i*esz)=f l[i]! ++ r:=by
 refine⟨arr f (l.drop (i+1)),?_⟩;rw[yC hf,List.drop_eq_getElem_cons h,jr,getElem!_pos l i h]
theorem Pp {r:List AV}(h:j+n<=a.length)(hn:ag=true\/0<n):partOf (a++r) j n ag=partOf a j n ag:=by
 cases ag with
 | true => 
   simp only[partOf,if_true,cut];rw[List.drop_append,List.take_append_of_le_length (by simp;omega)]
 | false=>
  simp only[partOf,Bool.false_eq_true,if_false];have:0<n:=by simpa using hn
  rw[List.getElem?_append_left (by omega)]
theorem Pq:partOf (a.drop j) 0 n ag=partOf a j n ag:=by
 cases ag <;> simp[partOf,cut]
theorem Fs [ia:Inhabited α](hf:∀a,(f a).length=esz){l:List α}{i j n:Nat}{ag:Bool}(h:i<l.length)(hj:j+n<=esz)(hn:0<n):partOf ((arr f l).drop (i*esz)) j n ag=partOf (f l[i]!) j n ag:=by
 obtain⟨r,hr⟩:=Po hf h;rw[hr,Pp (by rw[hf];exact hj) (.inr hn)]
theorem Pr {b r:List AV}(h:j+new.length<=b.length):overwrite (a++(b++r)) (a.length+j) new=a++(overwrite b j new++r):=by
 have h1:(a++(b++r)).take (a.length+j)=a++b.take j:=by
  rw[List.take_append,List.take_of_length_le (by omega),Nat.add_sub_cancel_left,List.take_append_of_le_length (by omega)]
 have h2:(a++(b++r)).drop (a.length+j+new.length)=b.drop (j+new.length)++r:=by
  rw[List.drop_append,List.drop_eq_nil_of_le (by omega),List.nil_append,show a.length+j+new.length-a.length=j+new.length from by omega,List.drop_append_of_le_length h]
 simp only[overwrite,h1,h2,List.append_assoc]
theorem Ps [ia:Inhabited α](hf:∀a,(f a).length=esz){l:List α}{i j:Nat}{new:List AV}{a:α}(h:i<l.length)(hj:j+new.length<=esz)(ha:overwrite (f l[i]!) j new=f a):overwrite (arr f l) (i*esz+j) new=arr f (l.set i a):=by
 have e:arr f l=arr f (l.take i)++(f l[i]! ++ arr f (l.drop (i+1))):=by
  rw[←jr,←yB,getElem!_pos l i h,←List.drop_eq_getElem_cons h,List.take_append_drop]
 have hl:(arr f (l.take i)).length=i*esz:=by rw[js hf,List.length_take];congr 1;omega
 rw[e,←hl,Pr (by rw[hf];exact hj),ha,←jr,←yB,List.set_eq_take_append_cons_drop,if_pos h]
theorem Ft (a:α):∀n:Nat,fB (f a) n=arr f (List.replicate n a)
 | 0=>rfl
 | n+1=>by rw[fB,Ft a n,List.replicate_succ,jr]
end
variable {α:Type} {ia:Inhabited α} {f:α->List AV} {esz:Nat}
theorem abT {c:List α}(hx:(St.mk pe lo hp df).aa x=some (.vp ((arr f c).drop (i*esz))))
 (hf:∀a,(f a).length=esz) (hi:i<c.length) (hn:0<n/\0+n<=esz) (hv:partOf (f c[i]!) 0 n ag=some v) (h:WO M l ⟨⟨pe,(t,v)::lo,hp,df⟩,wr⟩ Q):WO M (⟨.l t,.load n ag x,none⟩::l) ⟨⟨pe,lo,hp,df⟩,wr⟩ Q:=
 aaD (v:=v) (h':=hp) (w':=[]) (by simp only[bg,hx,Option.bind_some,ew,Fs hf hi hn.2 hn.1,hv]) rfl rfl h
theorem acE {c:List α}(hx:(St.mk pe lo hp df).aa x=some (.ptr b (0+i*esz)))(hb:hp.at b=some (.cells (arr f c) e))
 (hf:∀a,(f a).length=esz) (hi:i<c.length) (hn:0<n/\0+n<=esz) (hv:partOf (f c[i]!) 0 n ag=some v) (h:WO M l ⟨⟨pe,(t,v)::lo,hp,df⟩,wr⟩ Q):WO M (⟨.l t,.load n ag x,none⟩::l) ⟨⟨pe,lo,hp,df⟩,wr⟩ Q:=
 aaD (v:=v) (h':=hp) (w':=[]) (by simp only[bg,hx,Option.bind_some,ew,hb,Nat.zero_add,Fs hf hi hn.2 hn.1,hv]) rfl rfl h
theorem aaV {a:AV}{c:List AV}(hx:(St.mk pe lo hp df).aa x=some a)(hb:ew hp a=some c)(hv:partOf c 0 n ag=some v)
 (h:WO M l ⟨⟨pe,(t,v)::lo,hp,df⟩,wr⟩ Q):WO M (⟨.l t,.load n ag x,none⟩::l) ⟨⟨pe,lo,hp,df⟩,wr⟩ Q:=
 aaD (v:=v) (h':=hp) (w':=[]) (by simp only[bg,hx,Option.bind_some,hb,hv]) rfl rfl h
theorem WO.Pt {c:List α}{a:α}(hx:(St.mk pe lo hp df).aa x=some (.ptr b (0+i*esz+j)))(hy:((St.mk pe lo hp df).aa y).bind AV.cells=some new)(hb:hp.at b=some (.cells (arr f c) e))
 (hf:∀a,(f a).length=esz) (hi:i<c.length) (hn:new.length=n/\j+n<=esz/\new.all cw=true) (ha:overwrite (f c[i]!) j new=f a) (h:WO M l ⟨⟨pe,lo,hp.put b (some (.cells (arr f (c.set i a)) e)),df⟩,b::wr⟩ Q):WO M (⟨.no,.store n x y,none⟩::l) ⟨⟨pe,lo,hp,df⟩,wr⟩ Q:=by
 obtain⟨h1,h2,h3⟩:=hn;have hle:i*esz+esz<=c.length*esz:=by rw[←Nat.succ_mul];exact Nat.mul_le_mul_right _ hi
 refine abf (v:=bJ) (h':=hp.put b (some (.cells (arr f (c.set i a)) e))) (w':=[b]) ?_ rfl rfl h;simp only[bg,hx,hy,hb,Nat.zero_add];rw[if_pos ⟨h1,by rw[js hf];omega,h3⟩,Ps hf hi (by omega) ha]
theorem acF {c:List α}{a:α}(hx:(St.mk pe lo hp df).aa x=some (.ptr b (0+i*esz)))(hy:((St.mk pe lo hp df).aa y).bind AV.cells=some new)(hb:hp.at b=some (.cells (arr f c) e))
 (hf:∀a,(f a).length=esz) (hi:i<c.length) (hn:new.length=n/\0+n<=esz/\new.all cw=true) (ha:overwrite (f c[i]!) 0 new=f a) (h:WO M l ⟨⟨pe,lo,hp.put b (some (.cells (arr f (c.set i a)) e)),df⟩,b::wr⟩ Q):WO M (⟨.no,.store n x y,none⟩::l) ⟨⟨pe,lo,hp,df⟩,wr⟩ Q:=
 WO.Pt (j:=0) hx hy hb hf hi hn ha h
theorem WO.Pu {esz0 bytes:Nat}{elem:TypeId}{zero:List AV}{k k':IntKind}{a b:Int}(hx:(St.mk pe lo hp df).aa x=some (.int k a))(hy:(St.mk pe lo hp df).aa y=some (.int k' b))
 (hc:0<=a/\a<=b/\b.toNat*bytes<=dh/\b<=2^46/\zero.length=esz0) (h:WO M l ⟨⟨pe,(t,.sl hp.length 0 a.toNat esz0 (some b.toNat))::lo,hp++[some (.cells (fB zero b.toNat) elem)],df⟩,wr⟩ Q) :
 WO M (⟨.l t,.fK elem esz0 bytes zero x y,none⟩::l) ⟨⟨pe,lo,hp,df⟩,wr⟩ Q:=
 aaD (v:=.sl hp.length 0 a.toNat esz0 (some b.toNat)) (h':=hp++[some (.cells (fB zero b.toNat) elem)]) (w':=[]) (by simp only[bg,hx,hy,Option.bind_some,pq];rw[if_pos hc]) rfl rfl h
theorem dQ {o:bc}(hb:h.at b=some o):b<h.length:=by
 unfold ab.at at hb;cases hz:h[b]? with
 | none=>rw[hz]at hb;cases hb
 | some z=>exact(List.getElem?_eq_some_iff.1 hz).1
theorem cN {x:Option bc}:ab.at (h++[x]) h.length=x:=by simp[ab.at]
theorem de {l:ab}{o:bc}(hb:h.at b=some o):ab.at (h++l) b=some o:=by
 have:=dQ hb;simp only[ab.at]at hb ⊢;rw[List.getElem?_append_left this];exact hb
theorem gg (hb:b<h.length):ab.at (h.put b o) b=o:=by
 simp[ab.at,ab.put,hb]
theorem jR {a:Nat}{x:bc}(hn:a≠b)(ha:h.at a=some x):ab.at (h.put b o) a=some x:=by
 have:¬b=a:=fun e=>hn e.symm
 simp only[ab.at,ab.put,List.getElem?_set,if_neg this]at ha ⊢;exact ha
theorem gG:(h.put b o).length=h.length:=by simp[ab.put]
theorem acL {esz0 bytes:Nat}{elem:TypeId}{b:AV}(hx:(St.mk pe lo hp df).aa x=some .ae)(hy:(St.mk pe lo hp df).aa y=some b)(hs:dF hp b=some (new,n))
 (hc:new.length=n*esz0/\0<bytes/\new.all cw=true) (hn:0<n/\n*bytes<=dh) (h:WO M l ⟨⟨pe,(t,.sl hp.length 0 n esz0 none)::lo,hp++[some (.cells new elem)],df⟩,wr⟩ Q):WO M (⟨.l t,.append elem esz0 bytes x y,none⟩::l) ⟨⟨pe,lo,hp,df⟩,wr⟩ Q:=by
 refine aaD (v:=.sl hp.length 0 n esz0 none) (h':=hp++[some (.cells new elem)]) (w':=[]) ?_ rfl rfl h;simp only[bg,hx,hy,fM,hs,if_pos hc];rw[if_neg (by omega),if_pos hn.2]
def aS.ro:aS->Bool
 | .load .. => true
 | op=>!op.bh
def bK.clean (d:bK):Prop:=d.wr=[]/\d.hi=d.lo
theorem tz {T:List Nat}:ab.at (bW T h 0) b=if T.contains b then h.at b else none:=by
 unfold ab.at;rw[kq];cases h[b]? <;> simp
theorem qh {T:List Nat}:dv [] h (bW T h 0) 0=h:=by
 apply List.ext_getElem?;intro b;rw[gZ _ _ _ _ _ (by rw[dA];exact Nat.le_refl _)];split
 . simp
 . rename_i hb;rw[List.getElem?_eq_none (by rw[dA];omega),List.getElem?_eq_none (by omega)]
def dI:Option AV->List Nat
 | some (.ptr b _)=>[b]
 | some (.sl b _ _ _ _)=>[b]
 | some (.map b)=>[b]
 | _=>[]
theorem Fu {s:St}:iH s (.load n ag x)=some (dI (s.aa x)):=by
 simp only[iH];cases s.aa x with
 | none=>rfl
 | some a=>cases a <;> rfl
theorem Fv {a:AV}:ew (bW (dI (some a)) h 0) a=ew h a:=by
 cases a <;> first|rfl|skip
 simp[ew,dI,tz]
theorem tA {call:du}{inv:fe}{s:St}{a:AV}(ha:s.aa x=some a)(hp':ab):bw call inv { s with hp:=hp' } (.load n ag x)=(ew hp' a).bind fun l=>(partOf l 0 n ag).map fun v=>⟨v,hp',[]⟩:=by
 have hx':St.aa { s with hp:=hp' } x=some a:=by rw[←ha];cases x <;> rfl
 simp only[bw,aS.bh,if_true,bg,hx',Option.bind_some];cases ew hp' a with
 | none=>rfl
 | some l=>simp only[Option.bind_some];cases partOf l 0 n ag <;> rfl
theorem tB {call:du}{inv:fe}:∀(l:List (aO×List Nat)) (s:al) (ds:List bK),l.all (fun p=>p.1.op.ro)=true->(∀d∈ds,d.clean)->dc call inv l s ds=dN call inv (l.map (·.1)) s
 | [],s,ds,_,_=>rfl
 | (o,un)::l,s,ds,hl,hd=>by
  simp only[List.all_cons,Bool.and_eq_true]at hl;obtain⟨ho,hl⟩:=hl;have hcl:∀t,(∀d∈ds++[(⟨t,[],s.s.hp.length,s.s.hp.length⟩:bK)],d.clean):=fun t d hm=>by
   rcases List.mem_append.1 hm with h1|h1
   . exact hd d h1
   . simp only[List.mem_singleton]at h1;subst h1;exact⟨rfl,rfl⟩
  simp only[dc,List.map_cons,dN];split
  . by_cases hh:o.op.bh=true
    . have hop:∃n ag x,o.op = .load n ag x:=by
       cases hq:o.op <;> rw[hq]at ho hh <;> first|(cases hh;done)|(cases ho;done)|exact⟨_,_,_,rfl⟩
      obtain⟨n,ag,x,hop⟩:=hop;have hU:un.flatMap (fun j=>(ds[j]?).elim [] bK.own)=[]:=by
       rw[List.flatMap_eq_nil_iff];intro j _;cases hj:ds[j]? with
       | none=>rfl
       | some d=>
        obtain⟨c1,c2⟩:=hd d (List.mem_of_getElem? hj);simp[bK.own,c1,c2]
      simp only[hop,aS.bh,if_true,Fu,hU];have hdis:∀T,fZ T []=true:=fun T=>by simp[fZ]
      simp only[hdis,if_true];cases ha:s.s.aa x with
      | none=>
       have e1:∀hp',bw call inv { s.s with hp:=hp' } (.load n ag x)=none:=fun hp'=>by
        have hx':St.aa { s.s with hp:=hp' } x=none:=by rw[←ha];cases x <;> rfl
        simp only[bw,aS.bh,if_true,bg,hx',Option.bind_none]
       rw[e1,show bw call inv s.s (.load n ag x)=none from e1 s.s.hp]
      | some a=>
       have e2:=tA (call:=call) (inv:=inv) (n:=n) (ag:=ag) ha s.s.hp;rw[tA ha,Fv,show bw call inv s.s (.load n ag x)=_ from e2];cases ew s.s.hp a with
       | none=>rfl
       | some c=>
        simp only[Option.bind_some];cases partOf c 0 n ag with
        | none=>rfl
        | some v=>
         simp only[Option.map_some,List.all_nil,List.isEmpty_nil,Bool.true_or,Bool.and_true,if_true,qh,List.nil_append];have:=tB (call:=call) (inv:=inv) l ⟨{ s.s.put o.dst v with hp:=s.s.hp },s.wr⟩ (ds++[⟨some (dI (some a)),[],s.s.hp.length,s.s.hp.length⟩]) hl (hcl _);rw[←this];simp[dA]
    . have hh':o.op.bh=false:=by simpa using hh
      rw[if_neg hh];have e2:bw call inv s.s o.op=(aP s.s o.op).map fun v=>⟨v,s.s.hp,[]⟩:=by
       cases hq:o.op <;> rw[hq]at hh' <;> first|(cases hh';done)|simp only[bw,aS.bh,Bool.false_eq_true,if_false]
      rw[e2];cases aP s.s o.op with
      | none=>rfl
      | some v=>
       simp only[Option.map_some,List.nil_append];have hput:({ s.s.put o.dst v with hp:=s.s.hp }:St)=s.s.put o.dst v:=by cases o.dst <;> rfl
       rw[hput];exact tB l _ _ hl (hcl _)
  . exact tB l _ _ hl (hcl _)
  . rfl
theorem acs {l:List (aO×List Nat)}{Q:Ex->al->Prop}(hl:l.all (fun p=>p.1.op.ro)=true)(h:WO M (l.map (·.1)) ⟨⟨pe,[],hp,df⟩,wr⟩ (Q .normal)):W M (.draw l) ⟨⟨pe,lo,hp,df⟩,wr⟩ Q:=by
 obtain⟨⟨n,s',h1,h2⟩⟩:=h;exact aaX ⟨⟨n,s',by rw[tB l _ _ hl (by simp)];exact h1,h2⟩⟩
end Go.Ab
namespace Go.Ab
variable {t n:Nat} {x y:ax} {l:List (aO×List Nat)} {pe:List AV} {lo:List (Nat×AV)} {hp:ab} {df wr un T:List Nat} {a b:Int} {Q:al->Prop} {s:al} {ds:List bK} {d:dU}
variable {M:ao}
theorem abZ {l:List aO}(hx:(St.mk pe lo hp df).aa x=some (.int .i64 a))(hy:(St.mk pe lo hp df).aa y=some (.int .i64 b))
 (ha:0<=a/\0<b) (hr:a<9223372036854775808) (h:0<=a/b->a/b<=a->WO M l ⟨⟨pe,(t,.int .i64 (a/b))::lo,hp,df⟩,wr⟩ Q):WO M (⟨.l t,.bin .quo x y,none⟩::l) ⟨⟨pe,lo,hp,df⟩,wr⟩ Q:=by
 refine abj hx hy ha.2 ⟨by omega,hr⟩ ?_;rw[Int.tdiv_eq_ediv_of_nonneg ha.1];exact h (Int.ediv_nonneg ha.1 (Int.le_of_lt ha.2)) (Int.ediv_le_self _ ha.1)
theorem abC {l:List aO}{k:IntKind}(hx:(St.mk pe lo hp df).aa x=some (.int k a))(hy:(St.mk pe lo hp df).aa y=some (.int k b))
 (ha:0<=a/\0<b) (h:0<=a%b->a%b<b->WO M l ⟨⟨pe,(t,.int k (a%b))::lo,hp,df⟩,wr⟩ Q):WO M (⟨.l t,.bin .rem x y,none⟩::l) ⟨⟨pe,lo,hp,df⟩,wr⟩ Q:=by
 refine abk hx hy (by omega) ?_;rw[Int.tmod_eq_emod_of_nonneg ha.1];exact h (Int.emod_nonneg _ (by omega)) (Int.emod_lt_of_pos _ ha.2)
theorem aaJ {f:ax}{args:List ax}{l:List aO}{h':ab}{wr':List Nat}{g:FuncId}{fi ca as:List AV}{v:AV}(hf:(St.mk pe lo hp df).aa f=some (.fn (.func g) fi ca))(ha:(St.mk pe lo hp df).bY args=some as)
 (he:M.ext g (fi++as++ca) hp=some ⟨v,h',wr'⟩) (h:WO M l ⟨⟨pe,(t,v)::lo,h',df⟩,wr'++wr⟩ Q):WO M (⟨.l t,.call f args,none⟩::l) ⟨⟨pe,lo,hp,df⟩,wr⟩ Q:=WO.Pj hf ha he h
theorem acD {bytes:Nat}{elem:TypeId}{l:List aO}{k k':IntKind}{z:Int}{kz:IntKind}(hx:(St.mk pe lo hp df).aa x=some (.int k a))(hy:(St.mk pe lo hp df).aa y=some (.int k' b))
 (hc:0<=a/\a<=b/\b.toNat*bytes<=70368744177664/\b<=70368744177664) (h:WO M l ⟨⟨pe,(t,.sl hp.length 0 a.toNat 1 (some b.toNat))::lo,hp++[some (.cells (arr (fun x=>[.int kz x]) (List.replicate b.toNat z)) elem)],df⟩,wr⟩ Q) :
 WO M (⟨.l t,.fK elem 1 bytes [.int kz z] x y,none⟩::l) ⟨⟨pe,lo,hp,df⟩,wr⟩ Q:=by
 refine WO.Pu hx hy ⟨hc.1,hc.2.1,by simp only[dh];omega,by omega,rfl⟩ ?_;have e:=Ft (f:=fun x=>[AV.int kz x]) z b.toNat;rw[show fB [AV.int kz z] b.toNat=_ from e];exact h
theorem aaZ (h:Q s):WD M [] s ds Q:=⟨⟨0,s,rfl,h⟩⟩
def bK.key (d:bK):Option (List Nat)×List Nat:=(d.je,d.own)
theorem Pv {α:Type}{l:List α}{f g:α->Bool}(h:∀x,f x=g x):l.all f=l.all g:=by rw[show f=g from funext h]
theorem Fw {call:du}{inv:fe}:∀(l:List (aO×List Nat)) (s:al) (ds ds':List bK),ds.map bK.key=ds'.map bK.key->dc call inv l s ds=dc call inv l s ds'
 | [],_,_,_,_=>rfl
 | (o,un)::l,s,ds,ds',hk=>by
  have h1:∀j:Nat,(ds[j]?).elim [] bK.own=(ds'[j]?).elim [] bK.own:=fun j=>by
   have:=congrArg (fun x:List (Option (List Nat)×List Nat)=>x[j]?) hk;simp only[List.getElem?_map]at this;cases h3:ds[j]? <;> cases h4:ds'[j]? <;> rw[h3,h4]at this <;> simp[bK.key]at this ⊢;exact this.2
  have h2:∀j:Nat,(ds[j]?).map bK.je=(ds'[j]?).map bK.je:=fun j=>by
   have:=congrArg (fun x:List (Option (List Nat)×List Nat)=>x[j]?) hk;simp only[List.getElem?_map]at this;cases h3:ds[j]? <;> cases h4:ds'[j]? <;> rw[h3,h4]at this <;> simp[bK.key]at this ⊢;exact this.1
  have h7:(fun j:Nat=>(ds[j]?).elim [] bK.own)=(fun j:Nat=>(ds'[j]?).elim [] bK.own):=funext h1;have h8:∀d s,dc call inv l s (ds++[d])=dc call inv l s (ds'++[d]):=fun d s=>Fw l s _ _ (by simp[hk])
  unfold dc;simp only[h7,h8];cases di s.s o.guard with
  | none=>rfl
  | some t=>
   cases t with
   | false=>rfl
   | true=>
    refine ite_congr rfl (fun _=>ite_congr rfl (fun _=>?_) (fun _=>rfl)) (fun _=>rfl);split
    . refine ite_congr (congrArg (fun b=>b=true) (congrArg (fun b=>_ && b) (congrArg (fun b=>_ || b) (Pv ?_)))) (fun _=>rfl) (fun _=>rfl);intro j;have:=h2 j;cases h3:ds[j]? <;> cases h4:ds'[j]? <;> rw[h3,h4]at this <;> simp at this ⊢;rw[this]
    . rfl
theorem WD.norm {d d':bK}(hk:d.key=d'.key)(h:WD M l s (ds++[d]) Q):WD M l s (ds++[d']) Q:=by
 obtain⟨⟨n,s',h1,h2⟩⟩:=h;exact⟨⟨n,s',by rw[Fw l s (ds++[d']) (ds++[d]) (by simp[hk])];exact h1,h2⟩⟩
theorem WD.Pw {o:aO}(hh:o.op.bh=false)(h:WO M [o] s fun s'=>WD M l s' (ds++[⟨some [],[],s.s.hp.length,s.s.hp.length⟩]) Q):WD M ((o,un)::l) s ds Q:=by
 obtain⟨⟨n,s1,h1,⟨⟨m,s',h2,h3⟩⟩⟩⟩:=h;refine⟨⟨max n m,s',?_,h3⟩⟩;have h1':=kA (inv:=M.inv) (iz (Nat.le_max_left n m)) _ _ _ h1;have h2':=jo (inv:=M.inv) (iz (Nat.le_max_right n m)) _ _ _ _ h2;simp only[dN]at h1';have e2:bw (M.call (max n m)) M.inv s.s o.op=(aP s.s o.op).map fun v=>⟨v,s.s.hp,[]⟩:=by
  cases hq:o.op <;> rw[hq]at hh <;> first|(cases hh;done)|simp only[bw,aS.bh,Bool.false_eq_true,if_false]
 rw[e2]at h1';cases hw:di s.s o.guard with
 | none=>rw[hw]at h1';cases h1'
 | some t=>
  rw[hw]at h1';cases t with
  | true=>
   simp only[dc,hw,hh,Bool.false_eq_true,if_false];cases hp:aP s.s o.op with
   | none=>rw[hp]at h1';cases h1'
   | some v=>
    rw[hp]at h1';simp only[Option.map_some,List.nil_append,Option.some.injEq]at h1';have hput:({ s.s.put o.dst v with hp:=s.s.hp }:St)=s.s.put o.dst v:=by cases o.dst <;> rfl
    rw[hput]at h1';subst h1';exact h2'
  | false=>
   simp only[Option.some.injEq]at h1';simp only[dc,hw];subst h1';exact h2'
theorem Fx {h:ab}{b:Nat}{o:Option bc}:dv [b] h (ab.put (bW T h 0) b o) 0=ab.put h b o:=by
 apply List.ext_getElem?;intro c;rw[gZ _ _ _ _ _ (by simp[ab.put,dA])];simp only[ab.put,List.getElem?_set,dA,kq];by_cases hc:c<h.length
 . rw[if_pos hc];by_cases e:b=c
   . subst e;simp[hc]
   . have:c≠b:=fun x=>e x.symm
     simp[e,this]
 . rw[if_neg hc,List.getElem?_eq_none (Nat.le_of_not_lt hc)];by_cases e:b=c
   . subst e;simp[hc]
   . simp[e]
theorem WD.Px {ag:Bool}{a:AV}(ha:s.s.aa x=some a)(hT:dI (some a)=T)(hd:fZ T (un.flatMap fun j=>(ds[j]?).elim [] bK.own)=true)
 (h:WO M [⟨d,.load n ag x,none⟩] s fun s'=>WD M l s' (ds++[⟨some T,[],s.s.hp.length,s.s.hp.length⟩]) Q):WD M ((⟨d,.load n ag x,none⟩,un)::l) s ds Q:=by
 obtain⟨⟨k,s1,h1,⟨⟨m,s',h2,h3⟩⟩⟩⟩:=h;refine⟨⟨max k m,s',?_,h3⟩⟩;have h1':=kA (inv:=M.inv) (iz (Nat.le_max_left k m)) _ _ _ h1;have h2':=jo (inv:=M.inv) (iz (Nat.le_max_right k m)) _ _ _ _ h2;simp only[dN,di]at h1';subst hT;simp only[dc,di,aS.bh,if_true,Fu,ha,hd];rw[tA ha,Fv];rw[show bw (M.call (max k m)) M.inv s.s (.load n ag x)=_ from tA ha s.s.hp]at h1';cases hr:ew s.s.hp a with
 | none=>rw[hr]at h1';cases h1'
 | some c=>
  rw[hr]at h1';simp only[Option.bind_some]at h1' ⊢;cases hp:partOf c 0 n ag with
  | none=>rw[hp]at h1';cases h1'
  | some v=>
   rw[hp]at h1';simp only[Option.map_some,List.nil_append,Option.some.injEq]at h1';simp only[Option.map_some,List.all_nil,List.isEmpty_nil,Bool.true_or,Bool.and_true,if_true,qh,List.nil_append,dA];subst h1';exact h2'
theorem WD.Py {b off:Nat}(ha:s.s.aa x=some (.ptr b off))(hd:fZ [b] (un.flatMap fun j=>(ds[j]?).elim [] bK.own)=true)
 (hu:un.all (fun j=>match ds[j]? with|some d=>(match d.je with|some T=>fZ [b] T|none=>false)|none=>false)=true)
 (h:WO M [⟨.no,.store n x y,none⟩] s fun s'=>WD M l s' (ds++[⟨some [b],[b],s.s.hp.length,s.s.hp.length⟩]) Q):WD M ((⟨.no,.store n x y,none⟩,un)::l) s ds Q:=by
 obtain⟨⟨k,s1,h1,⟨⟨m,s',h2,h3⟩⟩⟩⟩:=h;refine⟨⟨max k m,s',?_,h3⟩⟩;have h1':=kA (inv:=M.inv) (iz (Nat.le_max_left k m)) _ _ _ h1;have h2':=jo (inv:=M.inv) (iz (Nat.le_max_right k m)) _ _ _ _ h2;simp only[dN,di,bw,aS.bh,if_true,bg,ha]at h1';have hx':∀hp',St.aa { s.s with hp:=hp' } x=some (.ptr b off):=fun hp'=>by rw[←ha];cases x <;> rfl
 have hy':∀hp',St.aa { s.s with hp:=hp' } y=s.s.aa y:=fun hp'=>by cases y <;> rfl
 have hk:ab.at (bW [b] s.s.hp 0) b=s.s.hp.at b:=by simp[tz]
 simp only[dc,di,aS.bh,if_true,iH,ha,hd,bw,bg,hx',hy'];cases hy:s.s.aa y with
 | none=>rw[hy]at h1';cases h1'
 | some yv=>
  rw[hy]at h1';simp only[Option.bind_some]at h1' ⊢;cases hc:yv.cells with
  | none=>rw[hc]at h1';cases h1'
  | some new=>
   rw[hc]at h1';simp only at h1' ⊢;cases hb:s.s.hp.at b with
   | none=>rw[hb]at h1';cases h1'
   | some o=>
    rw[hb]at h1';cases o with
    | cells c e=>
     simp only at h1' ⊢;by_cases hcond:new.length=n/\off+n<=c.length/\new.all cw=true
     . simp only[if_pos hcond,Option.some.injEq]at h1';simp only[if_pos hcond,List.all_cons,List.all_nil,Bool.and_true,List.isEmpty_cons,Bool.false_or,hk,hb,Option.isSome_some,Fx,gG,dA];subst h1';rw[if_pos (show _=true by rw[Bool.true_and];exact hu)];exact h2'
     . simp only[if_neg hcond]at h1';cases h1'
    | map _=>cases h1'
    | iter _ _=>cases h1'
    | fA=>cases h1'
    | hole=>cases h1'
    | loop _ _ _ _ _ _=>cases h1'
theorem WD.Pz {f:ax}{args:List ax}{g:FuncId}{fi ca as:List AV}{v:AV}{hn:ab}(hf:s.s.aa f=some (.fn (.func g) fi ca))(ha:s.s.bY args=some as)
 (hU:(un.flatMap fun j=>(ds[j]?).elim [] bK.own)=[]) (he:M.ext g (fi++as++ca) s.s.hp=some ⟨v,s.s.hp++hn,[]⟩)
 (h:WD M l ⟨{ s.s.put d v with hp:=s.s.hp++hn },s.wr⟩ (ds++[⟨none,[],s.s.hp.length,s.s.hp.length+hn.length⟩]) Q):WD M ((⟨d,.call f args,none⟩,un)::l) s ds Q:=by
 obtain⟨⟨m,s',h2,h3⟩⟩:=h;refine⟨⟨m,s',?_,h3⟩⟩;have hm:mask s.s.hp []=s.s.hp:=rfl;have hcall:bw (M.call m) M.inv { s.s with hp:=s.s.hp } (.call f args)=some ⟨v,s.s.hp++hn,[]⟩:=by
  simp only[bw,hf,ha,fN,he]
 have hmerge:dv [] s.s.hp (s.s.hp++hn) 0=s.s.hp++hn:=by
  apply List.ext_getElem?;intro c;rw[gZ _ _ _ _ _ (by simp)];split
  . rename_i hc;simp[List.getElem?_append_left hc]
  . rfl
 simp only[dc,di,aS.bh,if_true,iH,hU,hm];rw[hcall];simp only[List.all_nil,List.isEmpty_nil,Bool.true_or,Bool.and_true,if_true,hmerge,List.nil_append,List.length_append];exact h2
theorem tC {t:Option (List Nat)}{w:List Nat}:bK.key ⟨t,w,n,n⟩=bK.key ⟨t,w,0,0⟩:=by simp[bK.key,bK.own]
theorem aba {o:aO}(hh:o.op.bh=false)(h:WO M [o] s fun s'=>WD M l s' (ds++[⟨some [],[],0,0⟩]) Q):WD M ((o,un)::l) s ds Q:=
 WD.Pw hh (h.mono fun _ h=>h.norm tC.symm)
theorem abm {ag:Bool}{a:AV}(ha:s.s.aa x=some a)(hT:dI (some a)=T)(hd:fZ T (un.flatMap fun j=>(ds[j]?).elim [] bK.own)=true)
 (h:WO M [⟨d,.load n ag x,none⟩] s fun s'=>WD M l s' (ds++[⟨some T,[],0,0⟩]) Q):WD M ((⟨d,.load n ag x,none⟩,un)::l) s ds Q:=
 WD.Px ha hT hd (h.mono fun _ h=>h.norm tC.symm)
theorem abx {b off:Nat}(ha:s.s.aa x=some (.ptr b off))(hd:fZ [b] (un.flatMap fun j=>(ds[j]?).elim [] bK.own)=true)
 (hu:un.all (fun j=>match ds[j]? with|some d=>(match d.je with|some T=>fZ [b] T|none=>false)|none=>false)=true)
 (h:WO M [⟨.no,.store n x y,none⟩] s fun s'=>WD M l s' (ds++[⟨some [b],[b],0,0⟩]) Q):WD M ((⟨.no,.store n x y,none⟩,un)::l) s ds Q:=
 WD.Py ha hd hu (h.mono fun _ h=>h.norm tC.symm)
end Go.Ab
namespace Go.Ab
variable {t:Nat} {op:aS} {x:ax} {want:Bool} {pe:List AV} {lo:List (Nat×AV)} {hp h:ab} {df wr un:List Nat} {Q:al->Prop} {d:dU} {l:List (aO×List Nat)} {s:al} {ds:List bK} {v:AV}
variable {M:ao}
theorem acx {l:List aO}(hx:(St.mk pe lo hp df).aa x=some (.aq []))(h:WO M l ⟨⟨pe,(t,bJ)::lo,hp,df⟩,wr⟩ Q):WO M (⟨.l t,op,some (x,want)⟩::l) ⟨⟨pe,lo,hp,df⟩,wr⟩ Q:=WO.Ph hx h
theorem acG {l:List aO}{a:Int}(hx:(St.mk pe lo hp df).aa x=some (.int .i64 a))
 (hr : -9223372036854775808<a/\a<=9223372036854775808) (h:WO M l ⟨⟨pe,(t,.int .i64 (-a))::lo,hp,df⟩,wr⟩ Q):WO M (⟨.l t,.un .neg x,none⟩::l) ⟨⟨pe,lo,hp,df⟩,wr⟩ Q:=
 WO.op (WP.pure (v:=.int .i64 (-a)) rfl (by
  have:IntKind.i64.wrap (0-a) = -a:=by rw[show 0-a = -a from by omega];exact lS (by omega)
  simp[aP,hx,pr]at this ⊢;exact this) h)
theorem WD.PA {f:ax}{args:List ax}{g:FuncId}{fi ca as:List AV}(hf:s.s.aa f=some (.fn (.func g) fi ca))(ha:s.s.bY args=some as)
 (hU:(un.flatMap fun j=>(ds[j]?).elim [] bK.own)=[]) (he:M.ext g (fi++as++ca) s.s.hp=some ⟨v,s.s.hp,[]⟩)
 (h:WD M l ⟨s.s.put d v,s.wr⟩ (ds++[⟨none,[],0,0⟩]) Q):WD M ((⟨d,.call f args,none⟩,un)::l) s ds Q:=by
 have hp:({ s.s.put d v with hp:=s.s.hp++[] }:St)=s.s.put d v:=by cases d <;> simp[St.put]
 refine WD.Pz (hn:=[]) hf ha hU (by simpa using he) ?_;rw[hp];exact h.norm (by simp[bK.key,bK.own])
theorem abg {f:ax}{args:List ax}{g:FuncId}{fi ca as:List AV}(hf:(St.mk pe lo hp df).aa f=some (.fn (.func g) fi ca))(ha:(St.mk pe lo hp df).bY args=some as)
 (hU:(un.flatMap fun j=>(ds[j]?).elim [] bK.own)=[]) (he:M.ext g (fi++as++ca) hp=some ⟨v,hp,[]⟩)
 (h:WD M l ⟨⟨pe,(t,v)::lo,hp,df⟩,wr⟩ (ds++[⟨none,[],0,0⟩]) Q):WD M ((⟨.l t,.call f args,none⟩,un)::l) ⟨⟨pe,lo,hp,df⟩,wr⟩ ds Q:=WD.PA hf ha hU he h
theorem WD.take {t:Bool}(hx:s.s.aa x=some (.bool t))(ht:(t == want)=true)(h:WD M ((⟨d,op,none⟩,un)::l) s ds Q):WD M ((⟨d,op,some (x,want)⟩,un)::l) s ds Q:=by
 obtain⟨⟨n,s',h1,h2⟩⟩:=h;refine⟨⟨n,s',?_,h2⟩⟩;simp only[dc,di,hx,ht]at h1 ⊢;exact h1
theorem WD.skip (hx:s.s.aa x=some v)(ht:v = .bool !want\/v = .aq [])(h:WD M l ⟨s.s.put d bJ,s.wr⟩ (ds++[⟨some [],[],0,0⟩]) Q):WD M ((⟨d,op,some (x,want)⟩,un)::l) s ds Q:=by
 obtain⟨⟨n,s',h1,h2⟩⟩:=h.norm (d':=⟨some [],[],s.s.hp.length,s.s.hp.length⟩) tC.symm;refine⟨⟨n,s',?_,h2⟩⟩;have hw:di s.s (some (x,want))=some false:=by
  rcases ht with rfl|rfl
  . simp only[di,hx];cases want <;> rfl
  . simp only[di,hx]
 simp only[dc,hw];exact h1
theorem abW (hx:s.s.aa x=some (.bool true))(h:WD M ((⟨d,op,none⟩,un)::l) s ds Q):WD M ((⟨d,op,some (x,true)⟩,un)::l) s ds Q:=WD.take hx rfl h
theorem WD.gF (hx:s.s.aa x=some (.bool false))(h:WD M ((⟨d,op,none⟩,un)::l) s ds Q):WD M ((⟨d,op,some (x,false)⟩,un)::l) s ds Q:=WD.take hx rfl h
theorem ada (hx:(St.mk pe lo hp df).aa x=some (.bool false))(h:WD M l ⟨⟨pe,(t,bJ)::lo,hp,df⟩,wr⟩ (ds++[⟨some [],[],0,0⟩]) Q):WD M ((⟨.l t,op,some (x,true)⟩,un)::l) ⟨⟨pe,lo,hp,df⟩,wr⟩ ds Q:=WD.skip hx (.inl rfl) h
theorem WD.sF (hx:(St.mk pe lo hp df).aa x=some (.bool true))(h:WD M l ⟨⟨pe,(t,bJ)::lo,hp,df⟩,wr⟩ (ds++[⟨some [],[],0,0⟩]) Q):WD M ((⟨.l t,op,some (x,false)⟩,un)::l) ⟨⟨pe,lo,hp,df⟩,wr⟩ ds Q:=WD.skip hx (.inl rfl) h
theorem WD.sU (hx:(St.mk pe lo hp df).aa x=some (.aq []))(h:WD M l ⟨⟨pe,(t,bJ)::lo,hp,df⟩,wr⟩ (ds++[⟨some [],[],0,0⟩]) Q):WD M ((⟨.l t,op,some (x,want)⟩,un)::l) ⟨⟨pe,lo,hp,df⟩,wr⟩ ds Q:=WD.skip hx (.inr rfl) h
def aS.Fy:aS->Bool
 | .alloc .. | .box .. | .dT .. | .fK .. | .kX=>true
 | _=>false
theorem yE {s:St}{hp':ab}(x:ax):St.aa { s with hp:=hp' } x=s.aa x:=by cases x <;> rfl
theorem Fz {s:St}{hp':ab}:∀(ps:List (Nat×Nat×ax)),St.parts { s with hp:=hp' } ps=s.parts ps
 | []=>rfl
 | (o,n,x)::r=>by simp only[St.parts,yE,Fz r]
theorem PB {call:du}{inv:fe}{s:St}(hn:op.Fy=true){r:HR}(hq:bw call inv s op=some r):∃o,r.h=s.hp++[o]/\r.wr=[]/\∀hp':ab,hp'.length=s.hp.length->bw call inv { s with hp:=hp' } op=some ⟨r.v,hp'++[o],[]⟩:=by
 cases op <;> first|(cases hn;done)|skip
 case alloc e z=>
  simp only[bw,aS.bh,if_true,bg]at hq;cases hq;exact⟨_,rfl,rfl,fun hp' hl=>by simp only[bw,aS.bh,if_true,bg,hl]⟩
 case box e n x=>
  simp only[bw,aS.bh,if_true,bg]at hq;split at hq
  . rename_i c hc;split at hq
    . rename_i hlen;cases hq;exact⟨_,rfl,rfl,fun hp' hl=>by simp only[bw,aS.bh,if_true,bg,yE,hc,hl,if_pos hlen]⟩
    . cases hq
  . cases hq
 case dT e len esz z ps=>
  simp only[bw,aS.bh,if_true,bg]at hq;split at hq
  . rename_i vs hvs;split at hq
    . rename_i c hc;split at hq
      . rename_i hlen;cases hq;exact⟨_,rfl,rfl,fun hp' hl=>by simp only[bw,aS.bh,if_true,bg,Fz,hvs,hc,hl,if_pos hlen]⟩
      . cases hq
    . cases hq
  . cases hq
 case kX=>
  simp only[bw,aS.bh,if_true,bg]at hq;cases hq;exact⟨_,rfl,rfl,fun hp' hl=>by simp only[bw,aS.bh,if_true,bg,hl]⟩
 case fK e esz by' z a b=>
  simp only[bw,aS.bh,if_true,bg]at hq;split at hq
  . rename_i x y hx hy;split at hq
    . rename_i hc;cases hq;exact⟨_,rfl,rfl,fun hp' hl=>by simp only[bw,aS.bh,if_true,bg,yE,hx,hy,hl,if_pos hc]⟩
    . cases hq
  . cases hq
theorem aby (hn:op.Fy=true)(h:WO M [⟨d,op,none⟩] s fun s'=>WD M l s' (ds++[⟨some [],[],s.s.hp.length,s.s.hp.length+1⟩]) Q):WD M ((⟨d,op,none⟩,un)::l) s ds Q:=by
 obtain⟨⟨k,s1,h1,⟨⟨m,s',h2,h3⟩⟩⟩⟩:=h;refine⟨⟨max k m,s',?_,h3⟩⟩;have h1':=kA (inv:=M.inv) (iz (Nat.le_max_left k m)) _ _ _ h1;have h2':=jo (inv:=M.inv) (iz (Nat.le_max_right k m)) _ _ _ _ h2;simp only[dN,di]at h1';have ht:iH s.s op=some []:=by cases op <;> first|(cases hn;done)|rfl
 have hh:op.bh=true:=by cases op <;> first|(cases hn;done)|rfl
 have hd:∀U,fZ [] U=true:=fun U=>rfl
 cases hq:bw (M.call (max k m)) M.inv s.s op with
 | none=>rw[hq]at h1';cases h1'
 | some r=>
  rw[hq]at h1';obtain⟨o,e1,e2,e3⟩:=PB hn hq;simp only[Option.some.injEq]at h1';simp only[dc,di,hh,if_true,ht,hd,e3 (bW [] s.s.hp 0) (dA _ _ _)];have hm:dv [] s.s.hp (bW [] s.s.hp 0++[o]) 0=s.s.hp++[o]:=by
   apply List.ext_getElem?;intro c;rw[gZ _ _ _ _ _ (by simp[dA])];split
   . rename_i hc;rw[List.getElem?_append_left hc];simp
   . rename_i hc;rw[List.getElem?_append_right (by rw[dA];omega),List.getElem?_append_right (by omega),dA]
  simp only[List.all_nil,List.isEmpty_nil,Bool.true_or,Bool.and_true,if_true,hm,List.nil_append,List.length_append,List.length_singleton,dA];rw[e1,e2]at h1';subst h1';exact h2'
def tD (h:ab):AV->Option (List AV×Nat)
 | .str _=>none
 | .sl b off n esz _=>match h.at b with
   | some (.cells l _)=>(cut l off (n*esz)).map (·,n)
   | _=>none
 | v=>dF h v
def lW:List AV->Option (List Int)
 | []=>some []
 | .int .i64 n::r=>match lW r with
   | some l=>some (n::l)
   | none=>none
 | _=>none
theorem FA:∀{c:List AV} {l:List Int},lW c=some l->c=ints l
 | [],l,h=>by cases h;rfl
 | v::r,l,h=>by
  unfold lW at h;split at h
  . rename_i e;cases e
  . rename_i n r' e;cases e;split at h
    . rename_i l' hl;cases h;rw[FA hl];rfl
    . cases h
  . cases h
theorem FB:∀l:List Int,lW (ints l)=some l
 | []=>rfl
 | n::l=>by
  have:=FB l;show lW (.int .i64 n::ints l)=_;rw[lW,this]
def fv (h:ab)(v:AV):Option (List Int):=match tD h v with
 | some (c,n)=>match lW c with
   | some l=>if l.length=n then some l else none
   | none=>none
 | none=>none
theorem PC {α:Type}{f:α->List AV}{l:List α}(hc:tD h v=some (arr f l,l.length)):Sl f h v l:=by
 cases v <;> simp only[tD,dF]at hc <;> try (cases hc;done)
 case ae=>
  simp only[Option.some.injEq,Prod.mk.injEq]at hc;exact .inl ⟨rfl,List.eq_nil_of_length_eq_zero hc.2.symm⟩
 case sl b off len esz cap=>
  split at hc
  . rename_i c e hb;simp only[Option.map_eq_some_iff,Prod.mk.injEq]at hc;obtain⟨c',h1,h2,h3⟩:=hc;subst h3;subst h2;exact .inr (.inr ⟨b,off,esz,cap,c,e,rfl,hb,h1⟩)
  . cases hc
 case vs c len cap=>
  simp only[Option.some.injEq,Prod.mk.injEq]at hc;obtain⟨rfl,rfl⟩:=hc;exact .inr (.inl ⟨cap,rfl⟩)
theorem tE {l:List Int}(hi:fv h v=some l):Sl (fun x=>[.int .i64 x]) h v l:=by
 unfold fv at hi;split at hi
 . rename_i c n hc;split at hi
   . rename_i l' hl;split at hi
     . rename_i hn;cases hi;subst hn;rw[FA hl]at hc;exact PC hc
     . cases hi
   . cases hi
 . cases hi
theorem FC {l:List Int}{cap:Option Nat}:fv h (.vs (ints l) l.length cap)=some l:=by
 simp only[fv,tD,dF,FB,if_true]
end Go.Ab
namespace Go.Ab
variable {ars pe:List AV} {h hp:ab} {r:HR} {f x:ax} {args:List ax} {l:List aO} {s:al} {Q:al->Prop} {g v:AV} {t b:Nat} {lo:List (Nat×AV)} {df wr:List Nat} {k:IntKind} {a:Int}
variable {M:ao}
def CT (M:ao)(g:AV)(ars:List AV)(h:ab)(r:HR):Prop:=∃n,M.call n g ars h=some r
theorem CT.ext {f:FuncId}{fi ca:List AV}(he:M.ext f (fi++ars++ca) h=some r):CT M (.fn (.func f) fi ca) ars h r:=⟨0,by simp only[fN,he]⟩
theorem CT.run {f:FuncId}{fi ca:List AV}(he:M.ext f (fi++ars++ca) h=none)(hr:aU M f (fi++ars++ca) h r):CT M (.fn (.func f) fi ca) ars h r:=by
 obtain⟨n,hn⟩:=hr;exact⟨n,by simp only[fN,he];exact hn⟩
theorem WO.yF {d:dU}(hf:s.s.aa f=some g)(ha:s.s.bY args=some ars)(hc:CT M g ars s.s.hp r)
 (h:WO M l ⟨{ s.s.put d r.v with hp:=r.h },r.wr++s.wr⟩ Q):WO M (⟨d,.call f args,none⟩::l) s Q:=
 WO.op (WP.call hf ha (by obtain⟨n,hn⟩:=hc;exact⟨⟨n,r,hn,h⟩⟩))
theorem aaC {h':ab}{wr':List Nat}(hf:(St.mk pe lo hp df).aa f=some g)(ha:(St.mk pe lo hp df).bY args=some ars)
 (hc:CT M g ars hp ⟨v,h',wr'⟩) (h:WO M l ⟨⟨pe,(t,v)::lo,h',df⟩,wr'++wr⟩ Q):WO M (⟨.l t,.call f args,none⟩::l) ⟨⟨pe,lo,hp,df⟩,wr⟩ Q:=WO.yF hf ha hc h
theorem WD.yF {d:dU}{un:List Nat}{l:List (aO×List Nat)}{ds:List bK}(hf:s.s.aa f=some g)(ha:s.s.bY args=some ars)
 (hU:(un.flatMap fun j=>(ds[j]?).elim [] bK.own)=[]) (he:CT M g ars s.s.hp ⟨v,s.s.hp,[]⟩)
 (h:WD M l ⟨s.s.put d v,s.wr⟩ (ds++[⟨none,[],0,0⟩]) Q):WD M ((⟨d,.call f args,none⟩,un)::l) s ds Q:=by
 obtain⟨⟨m,s',h2,h3⟩⟩:=h.norm (d':=⟨none,[],s.s.hp.length,s.s.hp.length⟩) (by simp[bK.key,bK.own]);obtain⟨n,hn⟩:=he;refine⟨⟨max n m,s',?_,h3⟩⟩;have h2':=jo (inv:=M.inv) (iz (Nat.le_max_right n m)) _ _ _ _ h2;have hn':=iz (M:=M) (Nat.le_max_left n m) _ _ _ _ hn;have hm:mask s.s.hp []=s.s.hp:=rfl;have hcall:bw (M.call (max n m)) M.inv { s.s with hp:=s.s.hp } (.call f args)=some ⟨v,s.s.hp,[]⟩:=by
  simp only[bw,hf,ha];exact hn'
 have hmerge:dv [] s.s.hp s.s.hp 0=s.s.hp:=by
  apply List.ext_getElem?;intro c;rw[gZ _ _ _ _ _ (Nat.le_refl _)];split
  . rfl
  . rfl
 simp only[dc,di,aS.bh,if_true,iH,hU,hm];rw[hcall];have hp:({ s.s.put d v with hp:=s.s.hp }:St)=s.s.put d v:=by cases d <;> rfl
 simp only[List.all_nil,List.isEmpty_nil,Bool.true_or,Bool.and_true,if_true,hmerge,List.nil_append,hp];exact h2'
theorem abB {un:List Nat}{l:List (aO×List Nat)}{ds:List bK}(hf:(St.mk pe lo hp df).aa f=some g)(ha:(St.mk pe lo hp df).bY args=some ars)
 (hU:(un.flatMap fun j=>(ds[j]?).elim [] bK.own)=[]) (he:CT M g ars hp ⟨v,hp,[]⟩)
 (h:WD M l ⟨⟨pe,(t,v)::lo,hp,df⟩,wr⟩ (ds++[⟨none,[],0,0⟩]) Q):WD M ((⟨.l t,.call f args,none⟩,un)::l) ⟨⟨pe,lo,hp,df⟩,wr⟩ ds Q:=WD.yF hf ha hU he h
theorem yG {f N:Nat}{az:List Nat}{res:List fc}{body:an}(hft:M.FT f=some ⟨N,az,res,body⟩)(hN:ars.length<=N)
 (hW:W M body ⟨⟨az.map (fun t=>(ars[t]?).getD bJ),[],h,[]⟩,[]⟩ fun e s=>(e = .normal\/e = .ret)/\s.s.bA=[]/\∃vs,cU s.s res=some vs/\eB (aQ vs) h.length s=r):aU M f ars h r:=by
 obtain⟨⟨n,e,s,h1,h2,h3,vs,h4,h5⟩⟩:=hW;refine⟨n,?_⟩;have h1':aV M.ext M.inv M.FT n body ⟨⟨az.map (fun t=>(ars[t]?).getD bJ),[],h,[]⟩,[]⟩=some (e,s):=h1;simp only[gN,hft];rw[if_neg (by omega)];simp only[ao.ev,h1',if_pos h2,h3,jH,h4,h5]
def bG (b:Nat)(wr:List Nat):Prop:=∀x∈wr,x=b
theorem bG.nil:bG b []:=fun _ h=>by cases h
theorem bG.cons (h:bG b wr):bG b (b::wr):=fun x hx=>by
 rcases List.mem_cons.1 hx with e|e
 . exact e
 . exact h x e
theorem bG.app {v:List Nat}(h':bG b v)(h:bG b wr):bG b (v++wr):=fun x hx=>by
 rcases List.mem_append.1 hx with e|e
 . exact h' x e
 . exact h x e
theorem jt {x y:Option bc}:(h.put b x).put b y=h.put b y:=by simp[ab.put]
theorem PD {c c0:List AV}{e:TypeId}(hb:b<h.length)(hh:s.s.hp=h.put b (some (.cells c e)))(hw:bG b s.wr)(hc:aY c=0) :
 ∃wr,bG b wr/\eB (.aq []) (h.put b (some (.cells c0 e))).length s=⟨.aq [],h.put b (some (.cells c e)),wr⟩:=by
 refine⟨s.wr.filter (· < h.length),fun x hx=>hw x (List.mem_filter.1 hx).1,?_⟩;have hl:(h.put b (some (.cells c0 e))).length=h.length:=gG;have ht:tight s.s.hp h.length s.wr=true:=by
  simp only[tight,List.all_eq_true];intro x hx;rw[hw x hx,hh,gg hb];simp[bc.top,hc]
 have hk:(h.put b (some (.cells c e))).take h.length=h.put b (some (.cells c e)):=List.take_of_length_le (by rw[gG];exact Nat.le_refl _);simp only[eB,hl,ht,Bool.and_true];rw[hh,hk];split <;> rfl
theorem kC {α:Type}{f:α->List AV}{l:List α}{e:TypeId}{g N:Nat}{az:List Nat}{body:an}{P:List α->Prop}(hft:M.FT g=some ⟨N,az,[],body⟩)(hN:ars.length<=N)(hb:b<h.length)(hf:∀a,aY (f a)=0)
 (hW:W M body ⟨⟨az.map (fun t=>(ars[t]?).getD bJ),[],h.put b (some (.cells (arr f l) e)),[]⟩,[]⟩ fun x s=>(x = .normal\/x = .ret)/\s.s.bA=[]/\∃l',s.s.hp=h.put b (some (.cells (arr f l') e))/\bG b s.wr/\P l') :
 ∃l' wr,bG b wr/\P l'/\aU M g ars (h.put b (some (.cells (arr f l) e))) ⟨.aq [],h.put b (some (.cells (arr f l') e)),wr⟩:=by
 obtain⟨⟨n,x,s,h1,h2,h3,l',h4,h5,h6⟩⟩:=hW;obtain⟨wr,hw,hr⟩:=PD (c0:=arr f l) hb h4 h5 (kB hf l');refine⟨l',wr,hw,h6,yG hft hN ⟨⟨n,x,s,h1,h2,h3,[],rfl,hr⟩⟩⟩
theorem abQ (hx:(St.mk pe lo hp df).aa x=some (.int k a))(hr:0<=a/\a<18446744073709551616)
 (h:WO M l ⟨⟨pe,(t,.int .u64 a)::lo,hp,df⟩,wr⟩ Q):WO M (⟨.l t,.dM .u64 x,none⟩::l) ⟨⟨pe,lo,hp,df⟩,wr⟩ Q:=
 WO.op (WP.pure (v:=.int .u64 a) rfl (by
  have:IntKind.u64.wrap a=a:=by simp only[IntKind.wrap,IntKind.bits,IntKind.signed];simp;omega
  simp only[aP,hx,Option.bind_some,kY,this]) h)
theorem abR (hx:(St.mk pe lo hp df).aa x=some (.int k a))(hr : -9223372036854775808<=a/\a<9223372036854775808)
 (h:WO M l ⟨⟨pe,(t,.int .i64 a)::lo,hp,df⟩,wr⟩ Q):WO M (⟨.l t,.dM .i64 x,none⟩::l) ⟨⟨pe,lo,hp,df⟩,wr⟩ Q:=
 WO.op (WP.pure (v:=.int .i64 a) rfl (by simp only[aP,hx,Option.bind_some,kY,lS hr]) h)
theorem acy (hx:(St.mk pe lo hp df).aa x=some (.int .u64 a))
 (h:WO M l ⟨⟨pe,(t,.int .u64 (a/2))::lo,hp,df⟩,wr⟩ Q):WO M (⟨.l t,.bin .shr x (.c (.int k 1)),none⟩::l) ⟨⟨pe,lo,hp,df⟩,wr⟩ Q:=by
 refine WO.op (WP.pure (v:=.int .u64 (a/2)) rfl ?_ h);have:a.fdiv (2^min (Int.toNat 1) IntKind.u64.bits)=a/2:=by
  show a.fdiv 2=a/2;rw[Int.fdiv_eq_ediv_of_nonneg _ (by omega)]
 have e:(St.mk pe lo hp df).aa (.c (.int k 1))=some (.int k 1):=rfl;simp only[aP,hx,e,ck,this];rfl
end Go.Ab
namespace Go.Ab
variable {h:ab} {v:AV}
variable {M:ao}
theorem PE {s:al}(hh:s.s.hp=h)(hw:s.wr=[]):eB v h.length s=⟨v,h,[]⟩:=by
 have hk:h.take h.length=h:=List.take_length;simp only[eB,hh,hw,tight,List.all_nil,Bool.and_true,List.filter_nil,hk];split <;> rfl
theorem tF {g N:Nat}{az:List Nat}{res:List fc}{body:an}{ars:List AV}(hft:M.FT g=some ⟨N,az,res,body⟩)(hN:ars.length<=N)
 (hW:W M body ⟨⟨az.map (fun t=>(ars[t]?).getD bJ),[],h,[]⟩,[]⟩ fun x s=>(x = .normal\/x = .ret)/\s.s.bA=[]/\s.s.hp=h/\s.wr=[]/\∃vs,cU s.s res=some vs/\aQ vs=v):aU M g ars h ⟨v,h,[]⟩:=by
 refine yG hft hN (hW.mono fun x s ⟨h1,h2,h3,h4,vs,h5,h6⟩=>⟨h1,h2,vs,h5,?_⟩);subst h6;exact PE h3 h4
theorem WO.FD {t len c:Nat}{elem:TypeId}{x y:ax}{l:List aO}{pe:List AV}{lo:List (Nat×AV)}{hp:ab}{df wr:List Nat}{bB:List AV}{cap:Option Nat}{Q:al->Prop}(hx:(St.mk pe lo (hp++[some (.cells [v] elem)]) df).aa x=some (.sl c 0 len 1 cap))(hy:(St.mk pe lo (hp++[some (.cells [v] elem)]) df).aa y=some (.sl hp.length 0 1 1 (some 1)))
 (hv:cw v=true) (hb:hp.at c=some (.cells bB elem)) (ho:bB.length=len) (hcap:cap=none\/cap=some 0/\len=0) (hn:len<1000000)
 (h:∀(H:ab) (w':List Nat),H.length=hp.length+2->H.at (hp.length+1)=some (.cells (bB++[v]) elem)->(∀a o,a≠c->hp.at a=some o->H.at a=some o)->WO M l ⟨⟨pe,(t,.sl (hp.length+1) 0 (len+1) 1 none)::lo,H,df⟩,w'⟩ Q) :
 WO M (⟨.l t,.append elem 1 8 x y,none⟩::l) ⟨⟨pe,lo,hp++[some (.cells [v] elem)],df⟩,wr⟩ Q:=by
 have hs:dF (hp++[some (.cells [v] elem)]) (.sl hp.length 0 1 1 (some 1))=some ([v],1):=by
  simp[dF,cN,cut]
 have hc:=dQ hb;have hb':ab.at (hp++[some (.cells [v] elem)]) c=some (.cells bB elem):=de hb;have hroom:(len+1)*8<=dh:=by unfold dh;omega
 rcases hcap with rfl|⟨rfl,rfl⟩
 . refine aaD (v:=.sl (hp.length+1) 0 (len+1) 1 none) (h':=(hp++[some (bc.cells [v] elem)]).put c none++[some (bc.cells (bB++[v]) elem)]) (w':=[c]) ?_ rfl rfl (h _ _ (by simp[gG]) ?_ fun a o hn ha=>?_)
   . simp only[bg,hx,hy,fM,hs];rw[if_pos ⟨by simp,by omega,by simp[hv]⟩,if_neg (by omega),if_pos ⟨trivial,hroom⟩,hb'];simp only;rw[if_pos ⟨by omega,trivial⟩];simp
   . have:((hp++[some (bc.cells [v] elem)]).put c none).length=hp.length+1:=by simp[gG]
     rw[←this];exact cN
   . exact de (jR hn (de ha))
 . have hold:bB=[]:=List.length_eq_zero_iff.1 ho;subst hold;refine aaD (v:=.sl (hp.length+1) 0 (0+1) 1 none) (h':=hp++[some (bc.cells [v] elem)]++[some (bc.cells ([]++[v]) elem)]) (w':=[]) ?_ rfl rfl (h _ _ (by simp) ?_ fun a o hn ha=>de (de ha))
   . simp only[bg,hx,hy,fM,hs];rw[if_pos ⟨by simp,by omega,by simp[hv]⟩,if_neg (by omega),if_pos ⟨trivial,hroom⟩,hb'];simp[cut]
   . have:(hp++[some (bc.cells [v] elem)]).length=hp.length+1:=by simp
     rw[←this];exact cN
theorem yH {b:Nat}{o:bc}(hb:h.at b=some o):h.put b (some o)=h:=by
 have hl:=dQ hb;apply List.ext_getElem?;intro i;simp only[ab.put,List.getElem?_set];split
 . rename_i e;subst e;unfold ab.at at hb;rw[List.getElem?_eq_getElem hl]at hb ⊢;simp at hb ⊢;simp[hb]
 . rfl
theorem adb {i b o len:Nat}{x y:ax}{l:List aO}{pe:List AV}{lo:List (Nat×AV)}{hp:ab}{df wr:List Nat}{k:IntKind}{n:Int}{Q:al->Prop}(hx:(St.mk pe lo hp df).aa x=some (.sl b o len 1 none))(hy:(St.mk pe lo hp df).aa y=some (.int k n))(hn:0<n/\n<=len)
 (h:WO M l ⟨⟨pe.set i (.sl b o n.toNat 1 none),lo,hp,df⟩,wr⟩ Q):WO M (⟨.p i,.slice .sl 1 x none (some y) none,none⟩::l) ⟨⟨pe,lo,hp,df⟩,wr⟩ Q:=by
 refine aaL ?_ rfl h;simp only[aP,hx,St.cE,hy,Option.map_some,gP,br,Option.getD_none];have h1:0<=n/\n<=len:=⟨by omega,hn.2⟩;have:0<n.toNat:=by omega
 simp[h1,this]
end Go.Ab
namespace Go.Ab
variable {b n:Nat} {wr df:List Nat} {x:ax} {l:List aO} {pe:List AV} {lo:List (Nat×AV)} {hp:ab} {Q:al->Prop}
variable {M:ao}
def gO (b n:Nat)(wr:List Nat):Prop:=∀x∈wr,x=b\/n<=x
theorem gO.nil:gO b n []:=fun _ h=>by cases h
theorem gO.only(h:bG b wr):gO b n wr:=fun x hx=>.inl (h x hx)
theorem gO.cons (h:gO b n wr):gO b n (b::wr):=fun x hx=>by
 rcases List.mem_cons.1 hx with e|e
 . exact .inl e
 . exact h x e
theorem gO.new {a:Nat}(h:gO b n wr)(ha:n<=a):gO b n (a::wr):=fun x hx=>by
 rcases List.mem_cons.1 hx with e|e
 . exact .inr (by omega)
 . exact h x e
theorem gO.app {v:List Nat}(h':gO b n v)(h:gO b n wr):gO b n (v++wr):=fun x hx=>by
 rcases List.mem_append.1 hx with e|e
 . exact h' x e
 . exact h x e
theorem gA {f N:Nat}{az:List Nat}{res:List fc}{body:an}{ars:List AV}{P:AV->ab->Prop}(hft:M.FT f=some ⟨N,az,res,body⟩)(hN:ars.length<=N)
 (h:W M body ⟨⟨az.map (fun t=>(ars[t]?).getD bJ),[],[],[]⟩,[]⟩ fun e s=>(e = .normal\/e = .ret)/\s.s.bA=[]/\∃vs,cU s.s res=some vs/\P (aQ vs) (if (aQ vs).top<=0 then [] else s.s.hp)):∃v hh,P v hh/\aU M f ars [] ⟨v,hh,[]⟩:=by
 obtain⟨⟨n,e,s,h1,h2,h3,vs,h4,h5⟩⟩:=h;exact⟨_,_,h5,bO hft hN ⟨⟨n,e,s,h1,h2,h3,vs,h4,rfl,rfl⟩⟩⟩
theorem abq {t o:Nat}{ag:Bool}{c:List AV}{e:TypeId}{v:AV}(hx:(St.mk pe lo hp df).aa x=some (.ptr b o))(hb:hp.at b=some (.cells c e))(hv:partOf (c.drop o) 0 n ag=some v)
 (h:WO M l ⟨⟨pe,(t,v)::lo,hp,df⟩,wr⟩ Q):WO M (⟨.l t,.load n ag x,none⟩::l) ⟨⟨pe,lo,hp,df⟩,wr⟩ Q:=
 aaV hx (show ew hp (.ptr b o)=some (c.drop o) by simp only[ew,hb]) hv h
theorem aaT {y:ax}{c new:List AV}{e:TypeId}(hx:(St.mk pe lo hp df).aa x=some (.ptr b 0))(hy:((St.mk pe lo hp df).aa y).bind AV.cells=some new)(hb:hp.at b=some (.cells c e))
 (hn:new.length=n/\c.length=n/\new.all cw=true) (h:WO M l ⟨⟨pe,lo,hp.put b (some (.cells new e)),df⟩,b::wr⟩ Q):WO M (⟨.no,.store n x y,none⟩::l) ⟨⟨pe,lo,hp,df⟩,wr⟩ Q:=by
 obtain⟨h1,h2,h3⟩:=hn;refine abf (v:=bJ) (h':=hp.put b (some (.cells new e))) (w':=[b]) ?_ rfl rfl h;have ho:overwrite c 0 new=new:=by simp[overwrite,h1,h2]
 simp only[bg,hx,hy,hb];rw[if_pos ⟨h1,by omega,h3⟩,ho]
theorem PG {n:Int}(h:0<=n/\n<18446744073709551616):IntKind.u64.wrap n=n:=by
 simp only[IntKind.wrap,IntKind.bits,IntKind.signed];simp;omega
theorem acm {t L:Nat}{y:ax}{k:IntKind}{a:Int}(hx:(St.mk pe lo hp df).aa x=some (.int .u64 a))(hy:(St.mk pe lo hp df).aa y=some (.int k L))(hL:L<=64)
 (hr:0<=a*2^L/\a*2^L<18446744073709551616) (h:WO M l ⟨⟨pe,(t,.int .u64 (a*2^L))::lo,hp,df⟩,wr⟩ Q):WO M (⟨.l t,.bin .shl x y,none⟩::l) ⟨⟨pe,lo,hp,df⟩,wr⟩ Q:=
 aac (v:=.int .u64 (a*2^L)) (by
  have e:min ((L:Int)).toNat IntKind.u64.bits=L:=by simp only[IntKind.bits];omega
  simp only[aP,hx,hy,ck,e,PG hr];rw[if_neg (by omega)]) rfl h
theorem FF {α:Type}{f:α->List AV}(hf:∀a,(f a).all cw=true):∀l:List α,(arr f l).all cw=true
 | []=>rfl
 | a::l=>by
  have:=FF hf l;simp only[arr]at this;simp only[arr,List.flatMap_cons,List.all_append,hf a,this,Bool.and_self]
end Go.Ab
namespace Go.Ab
variable {T:List Nat} {h:ab}
variable {M:ao}
theorem yI {o:Option bc}:dv [] h (bW T h 0++[o]) 0=h++[o]:=by
 apply List.ext_getElem?;intro c;rw[gZ _ _ _ _ _ (by simp[dA])];split
 . rename_i hc;rw[List.getElem?_append_left hc];simp
 . rename_i hc;rw[List.getElem?_append_right (by rw[dA];omega),List.getElem?_append_right (by omega),dA]
theorem PH {b:Nat}{o:Option bc}:dv [b] h (ab.put (bW T h 0) b none++[o]) 0=ab.put h b none++[o]:=by
 have hl:(ab.put (bW T h 0) b none).length=h.length:=by rw[gG,dA]
 apply List.ext_getElem?;intro c;rw[gZ _ _ _ _ _ (by simp[hl])];split
 . rename_i hc;rw[List.getElem?_append_left (by rw[hl];exact hc),List.getElem?_append_left (by rw[gG];exact hc)];simp only[ab.put,List.getElem?_set,dA,kq];by_cases e:b=c
   . subst e;simp[hc]
   . rw[if_neg e,if_neg e];have e':¬c=b:=fun h=>e h.symm
     simp[e']
 . rename_i hc;rw[List.getElem?_append_right (by rw[hl];omega),List.getElem?_append_right (by rw[gG];omega),hl,gG]
theorem PI {y:AV}(hT:∀b,b∈dI (some y)->b∈T):dF (bW T h 0) y=dF h y:=by
 cases y with
 | sl b off n esz cap=>
  simp only[dF];rw[tz,if_pos (by simpa using hT b (by simp[dI]))]
 | _=>rfl
theorem PJ {elem:TypeId}{esz bytes:Nat}{x y:AV}(hx:∀b,b∈dI (some x)->b∈T)(hy:∀b,b∈dI (some y)->b∈T){r:HR}(hr:fM elem esz bytes h x y=some r) :
 ∃h',fM elem esz bytes (bW T h 0) x y=some ⟨r.v,h',r.wr⟩/\dv r.wr h h' 0=r.h/\(∀b∈r.wr,((bW T h 0).at b).isSome=true):=by
 unfold fM at hr ⊢;rw[PI hy];split at hr
 . cases hr
 . rename_i new n hs;split at hr
   . rename_i hc;rw[if_pos hc];split at hr
     . split at hr
       . rename_i h0;cases hr;exact⟨bW T h 0,by rw[if_pos h0],qh,by simp⟩
       . rename_i h0;split at hr
         . rename_i h1;cases hr;exact⟨_,by rw[if_neg h0,if_pos h1,dA],yI,by simp⟩
         . cases hr
     . rename_i l len cap;split at hr
       . rename_i h0;cases hr;exact⟨bW T h 0,by rw[if_pos h0],qh,by simp⟩
       . rename_i h0;split at hr
         . rename_i c;split at hr
           . rename_i h1;cases hr;refine⟨bW T h 0++[some (.cells (l++new) elem)],?_,yI,by simp⟩;simp only[if_neg h0,if_pos h1,dA]
           . cases hr
         . cases hr
     . rename_i b off len e cap;have hbT:T.contains b=true:=by simpa using hx b (by simp[dI])
       have hk:(bW T h 0).at b=h.at b:=by rw[tz,if_pos hbT]
       split at hr
       . rename_i h0;cases hr;exact⟨bW T h 0,by rw[if_pos h0],qh,by simp⟩
       . rename_i h0;split at hr
         . rename_i h1;split at hr
           . rename_i l el hat;have hlt:=dQ hat;have hsome:((bW T h 0).at b).isSome=true:=by rw[hk,hat];rfl
             split at hr
             . rename_i c;split at hr
               . rename_i h2;split at hr
                 . rename_i h3;cases hr;refine⟨ab.put (bW T h 0) b (some (.cells (overwrite l (off+len*esz) new) el)),?_,Fx,by simpa using hsome⟩;simp only[if_neg h0,if_pos h1,hk,hat,if_pos h2,if_pos h3]
                 . cases hr
               . rename_i h2;split at hr
                 . rename_i bB hcut;cases hr;refine⟨bW T h 0++[some (.cells (bB++new) elem)],?_,yI,by simp⟩;simp only[if_neg h0,if_pos h1,hk,hat,if_neg h2,hcut,dA]
                 . cases hr
             . split at hr
               . rename_i h2;cases hr;refine⟨ab.put (bW T h 0) b none++[some (.cells (l.drop off++new) elem)],?_,PH,by simpa using hsome⟩;simp only[if_neg h0,if_pos h1,hk,hat,if_pos h2,dA]
               . cases hr
           . cases hr
         . cases hr
     . cases hr
   . cases hr
theorem WD.app {d:dU}{elem:TypeId}{esz bytes:Nat}{x y:ax}{l:List (aO×List Nat)}{s:al}{ds:List bK}{a b:AV}{Q:al->Prop}(ha:s.s.aa x=some a)(hb:s.s.aa y=some b)
 (h:∀dn,WO M [⟨d,.append elem esz bytes x y,none⟩] s fun s'=>WD M l s' (ds++[dn]) Q):WD M ((⟨d,.append elem esz bytes x y,none⟩,[])::l) s ds Q:=by
 have key:∀h0,bw (M.call 0) M.inv { s.s with hp:=h0 } (.append elem esz bytes x y)=fM elem esz bytes h0 a b:=fun h0=>by
  have hx':(St.mk s.s.pe s.s.lo h0 s.s.bA).aa x=some a:=by rw[←ha];cases x <;> rfl
  have hy':(St.mk s.s.pe s.s.lo h0 s.s.bA).aa y=some b:=by rw[←hb];cases y <;> rfl
  simp only[bw,aS.bh,if_true,bg,hx',hy']
 have keyn:∀n h0,bw (M.call n) M.inv { s.s with hp:=h0 } (.append elem esz bytes x y)=fM elem esz bytes h0 a b:=fun n h0=>by
  have hx':(St.mk s.s.pe s.s.lo h0 s.s.bA).aa x=some a:=by rw[←ha];cases x <;> rfl
  have hy':(St.mk s.s.pe s.s.lo h0 s.s.bA).aa y=some b:=by rw[←hb];cases y <;> rfl
  simp only[bw,aS.bh,if_true,bg,hx',hy']
 cases hq:fM elem esz bytes s.s.hp a b with
 | none=>
  obtain⟨⟨k,s1,h1,_⟩⟩:=h ⟨none,[],0,0⟩;simp only[dN,di]at h1;rw[show bw (M.call k) M.inv s.s (.append elem esz bytes x y)=none from(keyn k s.s.hp).trans hq]at h1;cases h1
 | some r=>
  obtain⟨h',e1,e2,e3⟩:=PJ (T:=dI (some a)++dI (some b)) (fun c hc=>List.mem_append_left _ hc) (fun c hc=>List.mem_append_right _ hc) hq;obtain⟨⟨k,s1,h1,⟨⟨m,s',h2,h3⟩⟩⟩⟩:=h ⟨some (dI (some a)++dI (some b)),r.wr,s.s.hp.length,h'.length⟩;refine⟨⟨m,s',?_,h3⟩⟩;simp only[dN,di]at h1;rw[show bw (M.call k) M.inv s.s (.append elem esz bytes x y)=some r from(keyn k s.s.hp).trans hq]at h1;simp only[Option.some.injEq]at h1;have ht:iH s.s (.append elem esz bytes x y)=some (dI (some a)++dI (some b)):=by
   simp only[iH,ha,hb];congr 1
  have hd:fZ (dI (some a)++dI (some b)) []=true:=by simp[fZ]
  simp only[dc,di,aS.bh,if_true,ht,List.flatMap_nil,hd];rw[show bw (M.call m) M.inv { s.s with hp:=bW (dI (some a)++dI (some b)) s.s.hp 0 } (.append elem esz bytes x y)=some ⟨r.v,h',r.wr⟩ from(keyn m _).trans e1];have hw:(r.wr.all fun c=>((bW (dI (some a)++dI (some b)) s.s.hp 0).at c).isSome)=true:=by
   rw[List.all_eq_true];exact e3
  simp only[List.all_nil,Bool.or_true,Bool.and_true,e2];rw[←h1]at h2;first
    | (rw[if_pos e3];exact h2)
    | (rw[if_pos hw];exact h2)
    | (simp only[hw,if_true];exact h2)
end Go.Ab
namespace Go.Ab
variable {P:Program} {gl:Nat->Option AV}
end Go.Ab
namespace Go.Ab
open Go.ChangeShapes Go.WideShapes Go.RowKit
variable {H:Type} {enc:TypeId×Value->H} {P:Program} {W:World} {base:Nat} {sp:Nat->Bool} {t e:TypeId} {v:Value} {d:DataW H} {ps:List MemPlace}
theorem PK {c:Nat}:cn bare c:=⟨fun b d hb=>by simp[bare]at hb,fun hx=>hx⟩
theorem PL (ht:P.underlying t=some (.slice e))(he:P.underlying e=some (.int .i64))(hc:P.cellsOf e=1)(hval:Value.okWide P W .any base t v)(h:DataW.Trod enc P W 0 sp true t v d ps):∃l:List Int,V bare W (.vs (ints l) l.length none) v:=by
 obtain⟨a0,len0,cap0,rfl⟩:=okWide_slice ht hval;obtain⟨fuel,hf⟩:=h;rcases open_ints ht he hc hf with ⟨hcs,_⟩|⟨a,len,cap,zs,hcs,_,hle,_,hall,_,hcell,_⟩
 . simp only[Value.cells,List.cons.injEq,Value.slice.injEq,and_true]at hcs;obtain⟨rfl,rfl,rfl⟩:=hcs;exact⟨[],.dz (fun n hn=>by cases hn)⟩
 . simp only[Value.cells,List.cons.injEq,Value.slice.injEq,and_true]at hcs;obtain⟨rfl,rfl,rfl⟩:=hcs;have hs:a.spot=none:=by
    simp only[Value.okWide,ht,Cell.okWide,Cell.ok,World.has]at hval;exact hval.2.2.2.1
   obtain⟨b,off,spot⟩:=a;simp only at hs;subst hs;have hlen:len0<=zs.length:=by rw[hall];split <;> omega
   have hl:(zs.take len0).length=len0:=by rw[List.length_take];omega
   refine⟨zs.take len0,?_⟩;rw[hl];refine .vs b off (fun i=>.int .i64 (zs.getD i 0)) (fun _=>PK) hle (fun n hn=>by cases hn) (fun i hi=>?_) (fun i x hx=>?_)
   . have hi':i<len0:=by
      have:(ints (zs.take len0)).length=len0:=by
       have:=js (f:=fun x:Int=>[AV.int .i64 x]) (esz:=1) (fun _=>rfl) (zs.take len0);rw[hl,Nat.mul_one]at this;exact this
      omega
     have:=hcell i (by omega);rw[add_plain]at this;exact this
   . have hx':(ints (zs.take len0))[i]? = some x:=hx;have e1:ints (zs.take len0)=(zs.take len0).map fun x=>AV.int .i64 x:=by
      simp only[ints,arr];induction zs.take len0 with
      | nil=>rfl
      | cons y l ih=>simp only[List.flatMap_cons,List.map_cons,ih];rfl
     rw[e1,List.getElem?_map,Option.map_eq_some_iff]at hx';obtain⟨z,hz,rfl⟩:=hx';rw[List.getElem?_take]at hz;split at hz
     . rw[show zs.getD i 0=z from by rw[List.getD_eq_getElem?_getD,hz];rfl];exact .int _ _
     . cases hz
end Go.Ab
namespace Go.Ab
variable {M:ao}
abbrev aM:=List UInt8
theorem acT {i pos:Nat}{x:ax}{l:List aO}{pe:List AV}{lo:List (Nat×AV)}{hp:ab}{df wr:List Nat}{t:List UInt8}{Q:al->Prop}(hx:(St.mk pe lo (hp++[some (.iter t pos)]) df).aa x=some (.ptr hp.length 0))(hp0:¬pos<t.length)
 (h:WO M l ⟨⟨pe.set i (.aq [.bool false]),lo,hp++[some (.iter t pos)],df⟩,wr⟩ Q):WO M (⟨.p i,.next x,none⟩::l) ⟨⟨pe,lo,hp++[some (.iter t pos)],df⟩,wr⟩ Q:=by
 refine abe (v:=.aq [.bool false]) (h':=hp++[some (.iter t pos)]) (w':=[]) ?_ rfl rfl h;simp only[bg,hx,cN,if_neg hp0]
def fO:List Int->Int
 | []=>0
 | e::r=>if e=0 then fO r else e
end Go.Ab
namespace Go.Ab
variable {h:ab} {v:AV} {n:Nat}
variable {M:ao}
structure tG (M:ao)(f:FuncId)(as:List AV)(h:ab)(K:HR->Prop):Prop where
 out:∃r,aU M f as h r/\K r
theorem tG.FG {f N:Nat}{az:List Nat}{res:List fc}{body:an}{ars:List AV}{K:HR->Prop}(hft:M.FT f=some ⟨N,az,res,body⟩)(hN:ars.length<=N)
 (hW:W M body ⟨⟨az.map (fun t=>(ars[t]?).getD bJ),[],h,[]⟩,[]⟩ fun e s=>(e = .normal\/e = .ret)/\∃s',jH s.s.bA s=some s'/\∃vs,cU s'.s res=some vs/\K (eB (aQ vs) h.length s')):tG M f ars h K:=by
 obtain⟨⟨n,e,s,h1,h2,s',h3,vs,h4,h5⟩⟩:=hW;refine⟨_,⟨n,?_⟩,h5⟩;have h1':aV M.ext M.inv M.FT n body ⟨⟨az.map (fun t=>(ars[t]?).getD bJ),[],h,[]⟩,[]⟩=some (e,s):=h1;simp only[gN,hft];rw[if_neg (by omega)];simp only[h1',if_pos h2,h3,h4]
theorem PM {s:al}(hv:v.top<=n)(ht:tight s.s.hp n s.wr=true):eB v n s=⟨v,s.s.hp.take n,s.wr.filter (· < n)⟩:=by
 unfold eB;rw[if_pos (by simp[hv,ht])]
theorem acB {t:Nat}{x y:ax}{l:List aO}{pe:List AV}{lo:List (Nat×AV)}{hp:ab}{df wr:List Nat}{a b:aM}{Q:al->Prop}(hx:(St.mk pe lo hp df).aa x=some (.str a))(hy:(St.mk pe lo hp df).aa y=some (.str b))(hr:a.length+b.length<4611686018427387904)
 (h:WO M l ⟨⟨pe,(t,.str (a++b))::lo,hp,df⟩,wr⟩ Q):WO M (⟨.l t,.bin .add x y,none⟩::l) ⟨⟨pe,lo,hp,df⟩,wr⟩ Q:=
 aac (v:=.str (a++b)) (by simp only[aP,hx,hy,ck];rw[if_pos (by omega)]) rfl h
theorem PN {J:ab}{s:al}(hh:s.s.hp=h++J)(hw:∀x∈s.wr,h.length<=x)(hv:v.top<=h.length):eB v h.length s=⟨v,h,[]⟩:=by
 have hf:s.wr.filter (· < h.length)=[]:=by
  rw[List.filter_eq_nil_iff];intro x hx;have:=hw x hx;simp;omega
 have ht:tight s.s.hp h.length s.wr=true:=by
  simp only[tight,List.all_eq_true];intro x hx;have:=hw x hx;split <;> simp[this]
 have hk:s.s.hp.take h.length=h:=by rw[hh];simp
 rw[PM hv ht,hf,hk]
theorem kD {g N:Nat}{az:List Nat}{res:List fc}{body:an}{ars:List AV}(hft:M.FT g=some ⟨N,az,res,body⟩)(hN:ars.length<=N)(hv:v.top<=h.length)
 (hW:W M body ⟨⟨az.map (fun t=>(ars[t]?).getD bJ),[],h,[]⟩,[]⟩ fun x s=>(x = .normal\/x = .ret)/\s.s.bA=[]/\(∃J,s.s.hp=h++J)/\(∀x∈s.wr,h.length<=x)/\∃vs,cU s.s res=some vs/\aQ vs=v):aU M g ars h ⟨v,h,[]⟩:=by
 refine yG hft hN (hW.mono fun x s ⟨h1,h2,⟨J,h3⟩,h4,vs,h5,h6⟩=>⟨h1,h2,vs,h5,?_⟩);subst h6;exact PN h3 h4 hv
section
variable {t b j:Nat} {x y:ax} {l:List aO} {pe:List AV} {lo:List (Nat×AV)} {hp:ab} {df wr:List Nat} {c:List AV} {e:TypeId} {Q:al->Prop}
theorem abt {ag:Bool}(hx:(St.mk pe lo hp df).aa x=some (.ptr b j))(hb:hp.at b=some (.cells c e))(hv:partOf (c.drop j) 0 n ag=some v)
 (h:WO M l ⟨⟨pe,(t,v)::lo,hp,df⟩,wr⟩ Q):WO M (⟨.l t,.load n ag x,none⟩::l) ⟨⟨pe,lo,hp,df⟩,wr⟩ Q:=
 aaD (v:=v) (h':=hp) (w':=[]) (by simp only[bg,hx,Option.bind_some,ew,hb,hv]) rfl rfl h
theorem aaq {new:List AV}(hx:(St.mk pe lo hp df).aa x=some (.ptr b j))(hy:((St.mk pe lo hp df).aa y).bind AV.cells=some new)(hb:hp.at b=some (.cells c e))(hn:new.length=n/\j+n<=c.length/\new.all cw=true){c':List AV}(hc:overwrite c j new=c')
 (h:WO M l ⟨⟨pe,lo,hp.put b (some (.cells c' e)),df⟩,b::wr⟩ Q):WO M (⟨.no,.store n x y,none⟩::l) ⟨⟨pe,lo,hp,df⟩,wr⟩ Q:=by
 subst hc;refine abf (v:=bJ) (h':=hp.put b (some (.cells (overwrite c j new) e))) (w':=[b]) ?_ rfl rfl h;simp only[bg,hx,hy,hb];rw[if_pos hn]
theorem acK {neg:Bool}(hx:(St.mk pe lo hp df).aa x=some (.ptr b j))(hy:(St.mk pe lo hp df).aa y=some (.ptr b j))(hb:hp.at b=some (.cells c e))
 (h:WO M l ⟨⟨pe,(t,.bool !neg)::lo,hp,df⟩,wr⟩ Q):WO M (⟨.l t,.mQ neg x y,none⟩::l) ⟨⟨pe,lo,hp,df⟩,wr⟩ Q:=
 aaD (v:=.bool !neg) (h':=hp) (w':=[]) (by simp[bg,hx,hy,hb]) rfl rfl h
end
end Go.Ab
namespace Go.Ab
variable {M:ao} {t:Nat} {x y z:ax} {l:List aO} {pe:List AV} {lo:List (Nat×AV)} {hp:ab} {df wr:List Nat} {s r:aM} {k k':IntKind} {a b:Int} {Q:al->Prop}
theorem aaH (hx:(St.mk pe lo hp df).aa x=some (.str s))(hy:(St.mk pe lo hp df).aa y=some (.int k a))(ha:0<=a/\a<=s.length)(hr:s.drop a.toNat=r)
 (h:WO M l ⟨⟨pe,(t,.str r)::lo,hp,df⟩,wr⟩ Q):WO M (⟨.l t,.slice .str 1 x (some y) none none,none⟩::l) ⟨⟨pe,lo,hp,df⟩,wr⟩ Q:=by
 subst hr;refine aac (v:=.str (s.drop a.toNat)) ?_ rfl h;simp only[aP,hx,St.cE,hy,Option.map_some,gP,br];rw[if_pos ha];have:(s.drop a.toNat).take (s.length-a.toNat)=s.drop a.toNat:=List.take_of_length_le (by simp);simp[this]
theorem aaI (hx:(St.mk pe lo hp df).aa x=some (.str s))(hy:(St.mk pe lo hp df).aa y=some (.int k a))(ha:0<=a/\a<=s.length)(hr:s.take a.toNat=r)
 (h:WO M l ⟨⟨pe,(t,.str r)::lo,hp,df⟩,wr⟩ Q):WO M (⟨.l t,.slice .str 1 x none (some y) none,none⟩::l) ⟨⟨pe,lo,hp,df⟩,wr⟩ Q:=by
 subst hr;refine aac (v:=.str (s.take a.toNat)) ?_ rfl h;simp only[aP,hx,St.cE,hy,Option.map_some,gP,br];rw[if_pos ha];simp
theorem acZ (hx:(St.mk pe lo hp df).aa x=some (.str s))(hy:(St.mk pe lo hp df).aa y=some (.int k a))(hz:(St.mk pe lo hp df).aa z=some (.int k' b))(ha:0<=a/\a<=b/\b<=s.length)(hr:(s.drop a.toNat).take (b.toNat-a.toNat)=r)
 (h:WO M l ⟨⟨pe,(t,.str r)::lo,hp,df⟩,wr⟩ Q):WO M (⟨.l t,.slice .str 1 x (some y) (some z) none,none⟩::l) ⟨⟨pe,lo,hp,df⟩,wr⟩ Q:=by
 subst hr;refine aac (v:=.str ((s.drop a.toNat).take (b.toNat-a.toNat))) ?_ rfl h;have h1:0<=b/\b<=(s.length:Int):=⟨by omega,ha.2.2⟩;have h2:0<=a/\a<=(b.toNat:Int):=⟨ha.1,by omega⟩;simp only[aP,hx,St.cE,hy,hz,Option.map_some,gP,br];simp only[Option.isNone_none,Bool.true_or,if_true,if_pos h1,if_pos h2]
theorem ade {m:Int}(hx:(St.mk pe lo hp df).aa x=some (.int k a))(hy:(St.mk pe lo hp df).aa y=some (.int k b))(hm:m=a/\a<=b\/m=b/\b<=a)
 (h:WO M l ⟨⟨pe,(t,.int k m)::lo,hp,df⟩,wr⟩ Q):WO M (⟨.l t,.mm false [x,y],none⟩::l) ⟨⟨pe,lo,hp,df⟩,wr⟩ Q:=by
 refine aac (v:=.int k m) ?_ rfl h;simp only[aP,St.bY,hx,hy];have e:(if b<a then b else a)=m:=by split <;> omega
 simp[kZ,e]
end Go.Ab
