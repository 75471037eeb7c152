/-
  Own work: a call that was shown on the empty heap, of arguments that hold their contents: it holds on every heap, of arguments that lie in blocks of the caller's own; new blocks get the next numbers.
-/
import Derived.Test.YtcjphdmkgmkabaaGreatDoorLib3
import Derived.Test.YtcjphdmkgmkabaaGreatDoorLib1
import Derived.OpenShut
import Derived.Laws.RangeString
import Derived.Lib.DecodeN
import Derived.Deep.Slices
import Derived.Deep.Strs
set_option maxHeartbeats 8000000
set_option maxRecDepth 20000
namespace Go.Ab
variable {ks:List Nat} {N:Nat}
variable {P:Program} {gl:Nat->Option AV} {ρ:al} {w:World} {h:ab}
mutual
def cS:AV->Bool
 | .vp l=>l.isEmpty
 | .vs l _ _=>l.isEmpty
 | .fn _ a b=>fz a && fz b
 | .iface _ v=>cS v
 | .agg l=>fz l
 | .aq l=>fz l
 | _=>true
def fz:List AV->Bool
 | []=>true
 | v::r=>cS v && fz r
end
theorem fA:∀{l:List AV} {i:Nat} {x:AV},fz l=true->l[i]? = some x->cS x=true
 | [],i,x,_,h=>by simp at h
 | v::r,0,x,h,hx=>by simp only[fz,Bool.and_eq_true]at h;simp at hx;subst hx;exact h.1
 | v::r,i+1,x,h,hx=>by simp only[fz,Bool.and_eq_true]at h;simp at hx;exact fA h.2 hx
inductive Rn (ks:List Nat) (N:Nat):AV->AV->Prop
 | same {v:AV} (ht:v.top=0):Rn ks N v v
 | sl {i b off len esz:Nat} {cap:Option Nat} (hi:ks[i]? = some b):Rn ks N (.sl b off len esz cap) (.sl (N+i) off len esz cap)
 | ptr {i b off:Nat} (hi:ks[i]? = some b):Rn ks N (.ptr b off) (.ptr (N+i) off)
 | map {i b:Nat} (hi:ks[i]? = some b):Rn ks N (.map b) (.map (N+i))
 | vs {l l0:List AV} {n:Nat} {cap:Option Nat} (hl:l.length=l0.length) (hg:∀(i:Nat) x y,l[i]? = some x->l0[i]? = some y->Rn ks N x y):Rn ks N (.vs l n cap) (.vs l0 n cap)
 | agg {l l0:List AV} (hl:l.length=l0.length) (hg:∀(i:Nat) x y,l[i]? = some x->l0[i]? = some y->Rn ks N x y):Rn ks N (.agg l) (.agg l0)
 | aq {l l0:List AV} (hl:l.length=l0.length) (hg:∀(i:Nat) x y,l[i]? = some x->l0[i]? = some y->Rn ks N x y):Rn ks N (.aq l) (.aq l0)
 | fn {f:Fn} {fi fi0 ca ca0:List AV} (hf:∀l,f≠.yield l) (h1:fi.length=fi0.length) (h2:ca.length=ca0.length) (g1:∀(i:Nat) x y,fi[i]? = some x->fi0[i]? = some y->Rn ks N x y)
     (g2:∀(i:Nat) x y,ca[i]? = some x->ca0[i]? = some y->Rn ks N x y):Rn ks N (.fn f fi ca) (.fn f fi0 ca0)
def fR (ks:List Nat)(N:Nat)(l l0:List AV):Prop:=l.length=l0.length/\∀(i:Nat) x y,l[i]? = some x->l0[i]? = some y->Rn ks N x y
inductive kX (ks:List Nat) (N:Nat):aK->aK->Prop
 | cells {l l0:List AV} {e:TypeId} (h:fR ks N l l0):kX ks N (.cells l e) (.cells l0 e)
 | map {es es0:List (AV×AV)} (h1:fR ks N (es.map (·.1)) (es0.map (·.1))) (h2:fR ks N (es.map (·.2)) (es0.map (·.2))):kX ks N (.map es) (.map es0)
def mW:aK->Bool
 | .cells l _=>fz l
 | .map es=>fz (es.map (·.1)) && fz (es.map (·.2))
 | _=>true
theorem fR.nil:fR ks N [] []:=⟨rfl,by simp⟩
theorem fR.cons {x y:AV}{l m:List AV}(h1:Rn ks N x y)(h2:fR ks N l m):fR ks N (x::l) (y::m):=by
 refine⟨by simp[h2.1],fun i a b ha hb=>?_⟩;cases i with
 | zero=>simp at ha hb;subst ha;subst hb;exact h1
 | succ i=>simp at ha hb;exact h2.2 i a b ha hb
theorem fR.same {l:List AV}(ht:aY l=0):fR ks N l l:=
 ⟨rfl,fun i x y hx hy=>by rw[hx]at hy;cases hy;exact .same (by have:=dS (n:=0) (by omega) i x hx;omega)⟩
theorem BX {ρ' ρ1:al}{a:AV}{v:Value}(ht:a.top=0)(hn:cS a=true)(hv:V ρ' w a v):V ρ1 w a v:=by
 have key:∀{a v},V ρ' w a v->a.top=0->cS a=true->V ρ1 w a v:=by
  intro a v hv;induction hv with
  | bI v=>exact fun _ _=>.bI v
  | bool b=>exact fun _ _=>.bool b
  | int k n=>exact fun _ _=>.int k n
  | str s=>exact fun _ _=>.str s
  | cK=>exact fun _ _=>.cK
  | ptr o hb=>exact fun h _=>by simp[AV.top]at h
  | cQ o c o' hb=>exact fun h _=>by simp[AV.top]at h
  | @vp l c o g hf hc _ ih=>intro _ hn;simp only[cS,List.isEmpty_iff]at hn;subst hn;exact .vp c o g (fun h=>absurd rfl h) (by simp) (by simp)
  | ak=>exact fun _ _=>.ak
  | sl hb hl hcap hs=>exact fun h _=>by simp[AV.top]at h
  | dK hb=>exact fun h _=>by simp[AV.top]at h
  | di c o' hb hl hcap=>exact fun h _=>by simp[AV.top]at h
  | dD hb=>exact fun h _=>by simp[AV.top]at h
  | dL a hb=>exact fun h _=>by simp[AV.top]at h
  | @vs l len capC cap c o g hf hl hcap hc _ ih=>intro _ hn;simp only[cS,List.isEmpty_iff]at hn;subst hn;exact .vs c o g (fun h=>absurd rfl h) hl hcap (by simp) (by simp)
  | dE hcap=>exact fun _ _=>.dE hcap
  | dR a hcap=>exact fun _ _=>.dR a hcap
  | bY=>exact fun _ _=>.bY
  | map hb=>exact fun h _=>by simp[AV.top]at h
  | eU v hb=>exact fun h _=>by simp[AV.top]at h
  | yield hb=>exact fun h _=>by simp[AV.top]at h
  | @fn f fi ca _ _ hf h1 h2 _ _ ih1 ih2=>
   intro h hn;have hh:aY fi<=0/\aY ca<=0:=by
    cases f <;> simp only[AV.top]at h <;> exact⟨by omega,by omega⟩
   simp only[cS,Bool.and_eq_true]at hn;exact .fn hf h1 h2 (fun i x y a b=>ih1 i x y a b (by have:=dS hh.1 i x a;omega) (fA hn.1 a)) (fun i x y a b=>ih2 i x y a b (by have:=dS hh.2 i x a;omega) (fA hn.2 a))
  | eV v hb=>exact fun h _=>by simp[AV.top]at h
  | cH=>exact fun _ _=>.cH
  | iface _ ih=>exact fun h hn=>.iface (ih (by simpa only[AV.top] using h) (by simpa only[cS] using hn))
  | bZ=>exact fun _ _=>.bZ
  | agg hl _ ih=>exact fun h hn=>.agg hl (fun i x y a b=>ih i x y a b (by have:=dS (n:=0) (by simpa only[AV.top,Nat.le_zero] using h) i x a;omega) (fA (by simpa only[cS] using hn) a))
  | aq hl _ ih=>exact fun h hn=>.aq hl (fun i x y a b=>ih i x y a b (by have:=dS (n:=0) (by simpa only[AV.top,Nat.le_zero] using h) i x a;omega) (fA (by simpa only[cS] using hn) a))
 exact key hv ht hn
theorem Rn.view {ρ' ρ1:al}(hρ:∀(i b:Nat),ks[i]? = some b->ρ1 (N+i)=ρ' b){a a1:AV}(hr:Rn ks N a a1) :
 (cS a=true\/∀c,bT ρ' c->bT ρ1 c)->∀{v:Value},V ρ' w a v->V ρ1 w a1 v:=by
 induction hr with
 | @same a ht=>
  intro hF v hv;rcases hF with hF|hF
  . exact BX ht hF hv
  . exact hv.dY (n:=0) (fun b hb=>by omega) hF (by omega)
 | sl hi=>
  intro _ v hv;cases hv with
  | sl h1 h2 h3 h4=>exact .sl ((hρ _ _ hi).trans h1) h2 h3 h4
  | dK h1=>exact .dK ((hρ _ _ hi).trans h1)
  | di c o' h1 h2 h3=>exact .di c o' ((hρ _ _ hi).trans h1) h2 h3
  | dD h1=>exact .dD ((hρ _ _ hi).trans h1)
  | dL a h1=>exact .dL a ((hρ _ _ hi).trans h1)
 | ptr hi=>
  intro _ v hv;cases hv with
  | ptr _ h1=>exact .ptr _ ((hρ _ _ hi).trans h1)
  | cQ _ _ _ h1=>exact .cQ _ _ _ ((hρ _ _ hi).trans h1)
 | map hi=>
  intro _ v hv;cases hv with
  | map h1=>exact .map ((hρ _ _ hi).trans h1)
  | eU c h1=>exact .eU c ((hρ _ _ hi).trans h1)
 | @vs l l0 n cap hl hg ih=>
  intro hF v hv;cases hv with
  | vs c o g hf h2 h3 h4 h5=>
   by_cases hn:l=[]
   . subst hn;have:l0=[]:=List.eq_nil_of_length_eq_zero (by simp at hl;omega);subst this;exact .vs c o g (fun h=>absurd rfl h) h2 h3 (by simp) (by simp)
   . have hF':∀c,bT ρ' c->bT ρ1 c:=by
      rcases hF with hF|hF
      . simp only[cS,List.isEmpty_iff]at hF;exact absurd hF hn
      . exact hF
     refine .vs c o g (fun _=>hF' _ (hf hn)) h2 h3 (fun i hi=>h4 i (by omega)) (fun i y hy=>?_);have hi:i<l.length:=by have:=(List.getElem?_eq_some_iff.1 hy).1;omega
     exact ih i _ y (List.getElem?_eq_getElem hi) hy (.inr hF') (h5 i _ (List.getElem?_eq_getElem hi))
  | dE hc=>
   have:l0=[]:=List.eq_nil_of_length_eq_zero (by simp at hl;omega);subst this;exact .dE hc
  | dR a hc=>
   have:l0=[]:=List.eq_nil_of_length_eq_zero (by simp at hl;omega);subst this;exact .dR a hc
 | @agg l l0 hl hg ih=>
  intro hF v hv;cases hv with
  | @agg _ mm h1 h2=>
   refine .agg (by omega) fun i y z hy hz=>?_
   have hi:i<l.length:=by have:=(List.getElem?_eq_some_iff.1 hy).1;omega
   exact ih i _ y (List.getElem?_eq_getElem hi) hy (hF.imp (fun h=>by simp only[cS]at h;exact fA h (List.getElem?_eq_getElem hi)) id) (h2 i _ z (List.getElem?_eq_getElem hi) hz)
 | @aq l l0 hl hg ih=>
  intro hF v hv;cases hv with
  | @aq _ mm h1 h2=>
   refine .aq (by omega) fun i y z hy hz=>?_
   have hi:i<l.length:=by have:=(List.getElem?_eq_some_iff.1 hy).1;omega
   exact ih i _ y (List.getElem?_eq_getElem hi) hy (hF.imp (fun h=>by simp only[cS]at h;exact fA h (List.getElem?_eq_getElem hi)) id) (h2 i _ z (List.getElem?_eq_getElem hi) hz)
 | @fn f fi fi0 ca ca0 hf h1 h2 g1 g2 ih1 ih2=>
  intro hF v hv;cases hv with
  | fn hf' a1 a2 a3 a4=>
   refine .fn hf (by omega) (by omega) (fun i y z hy hz=>?_) (fun i y z hy hz=>?_)
   . have hi:i<fi.length:=by have:=(List.getElem?_eq_some_iff.1 hy).1;omega
     exact ih1 i _ y (List.getElem?_eq_getElem hi) hy (hF.imp (fun h=>by simp only[cS,Bool.and_eq_true]at h;exact fA h.1 (List.getElem?_eq_getElem hi)) id) (a3 i _ z (List.getElem?_eq_getElem hi) hz)
   . have hi:i<ca.length:=by have:=(List.getElem?_eq_some_iff.1 hy).1;omega
     exact ih2 i _ y (List.getElem?_eq_getElem hi) hy (hF.imp (fun h=>by simp only[cS,Bool.and_eq_true]at h;exact fA h.2 (List.getElem?_eq_getElem hi)) id) (a4 i _ z (List.getElem?_eq_getElem hi) hz)
  | yield _=>exact absurd rfl (hf _)
  | eV _ _=>exact absurd rfl (hf _)
inductive Fr (h:ab) (S:List Nat):AV->AV->Prop
 | same {v:AV} (ht:v.top=0):Fr h S v v
 | nil {cap:Option Nat} (hc:∀n,cap=some n->n=0):Fr h S .ak (.vs [] 0 cap)
 | sl {b off len esz:Nat} {cap cap':Option Nat} {l m m0:List AV} {e:TypeId} (hb:b∈S) (ha:h.at b=some (.cells l e)) (hc:cut l off (len*esz)=some m) (hl:m.length=m0.length)
     (hg:∀(i:Nat) x y,m[i]? = some x->m0[i]? = some y->Fr h S x y) (hcc:cap'=cap\/cap'=none:=by exact .inl rfl):Fr h S (.sl b off len esz cap) (.vs m0 len cap')
 | ptr {b off:Nat} {l m0:List AV} {e:TypeId} (hb:b∈S) (ha:h.at b=some (.cells l e)) (hl:(l.drop off).length=m0.length)
     (hg:∀(i:Nat) x y,(l.drop off)[i]? = some x->m0[i]? = some y->Fr h S x y):Fr h S (.ptr b off) (.vp m0)
 | vs {l l0:List AV} {n:Nat} {cap:Option Nat} (hl:l.length=l0.length) (hg:∀(i:Nat) x y,l[i]? = some x->l0[i]? = some y->Fr h S x y):Fr h S (.vs l n cap) (.vs l0 n cap)
 | agg {l l0:List AV} (hl:l.length=l0.length) (hg:∀(i:Nat) x y,l[i]? = some x->l0[i]? = some y->Fr h S x y):Fr h S (.agg l) (.agg l0)
 | aq {l l0:List AV} (hl:l.length=l0.length) (hg:∀(i:Nat) x y,l[i]? = some x->l0[i]? = some y->Fr h S x y):Fr h S (.aq l) (.aq l0)
 | fn {f:Fn} {fi fi0 ca ca0:List AV} (hf:∀l,f≠.yield l) (h1:fi.length=fi0.length) (h2:ca.length=ca0.length) (g1:∀(i:Nat) x y,fi[i]? = some x->fi0[i]? = some y->Fr h S x y)
     (g2:∀(i:Nat) x y,ca[i]? = some x->ca0[i]? = some y->Fr h S x y):Fr h S (.fn f fi ca) (.fn f fi0 ca0)
def dj (h:ab)(S:List Nat)(l l0:List AV):Prop:=l.length=l0.length/\∀(i:Nat) x y,l[i]? = some x->l0[i]? = some y->Fr h S x y
def cA (ρ:al)(S:List Nat):al:=⟨fun _=>.fresh,fun c=>ρ.X c\/∃b d,ρ b = .live c d/\b∉S⟩
theorem bT.cA {c:Nat}(S:List Nat)(hf:bT ρ c):bT (cA ρ S) c:=by
 refine⟨fun b d hb=>by simp[Go.Ab.cA]at hb,?_⟩;rintro(hx|⟨b,d,hb,_⟩)
 . exact hf.2 hx
 . exact hf.1 b d hb
theorem Fr.view (m:Mem P gl ρ h w){S:List Nat}{a a0:AV}(hr:Fr h S a a0):∀{v:Value},V ρ w a v->V (cA ρ S) w a0 v:=by
 have hfree:∀{b c d},b∈S->ρ b = .live c d->bT (cA ρ S) c:=fun {b c d} hb hl=>by
  refine⟨fun b d hb=>by simp[Go.Ab.cA]at hb,?_⟩;rintro(hx|⟨b',d',hb',hn⟩)
  . exact m.xo _ _ _ hl hx
  . exact hn (m.inj _ _ _ _ _ hb' hl ▸ hb)
 have hat:∀{b o},h.at b=some o->h[b]? = some (some o):=fun {b o} hb=>by
  unfold ab.at at hb;cases hz:h[b]? with
  | none=>rw[hz]at hb;cases hb
  | some z=>rw[hz]at hb;simp only[Option.join_some]at hb;rw[hb]
 induction hr with
 | same ht=>exact fun hv=>hv.dY (n:=0) (fun b hb=>by omega) (fun c hc=>hc.cA S) (by omega)
 | nil hc=>
  intro v hv;cases hv;exact .dE hc
 | @sl b off len esz cap cap' l m' m0 e hb ha hc hl hg hcc ih=>
  intro v hv;have hB:=m.bN b _ (hat ha);have hcut:m'.length=len*esz/\∀i,i<m'.length->m'[i]? = l[off+i]? := by
   simp only[cut]at hc;split at hc
   . rename_i hlen;cases hc;refine⟨hlen,fun i hi=>?_⟩;rw[List.getElem?_take,if_pos (by omega),List.getElem?_drop]
   . cases hc
  cases hv with
  | @sl _ c d _ _ _ capC _ h1 h2 h3 h4=>
   have h3:∀n,cap'=some n->capC=n:=fun n hn=>by
    rcases hcc with rfl|rfl
    . exact h3 n hn
    . cases hn
   rcases hB with ⟨c',d',cs,fr,g1,g2,g3,g4,g5⟩|⟨g1,_⟩
   . rw[h1]at g1;cases g1;refine .vs c (off+d) (fun i=>cs.getD (off+d+i) (.bool false)) (fun _=>hfree hb h1) h2 h3 (fun i hi=>?_) (fun i y hy=>?_)
     . have hi':i<m'.length:=by omega
       have hlt:off+i<l.length:=by
        have:=hcut.2 i hi';rw[List.getElem?_eq_getElem hi']at this;exact(List.getElem?_eq_some_iff.1 this.symm).1
       have:off+d+i<cs.size:=by have:=g3.1;omega
       simp only[World.cell?,g2];simp[this,Array.getD]
     . have hi:i<m0.length:=(List.getElem?_eq_some_iff.1 hy).1;have hi':i<m'.length:=by omega
       have hx:=hcut.2 i hi';rw[List.getElem?_eq_getElem hi']at hx;have hlt:off+i<l.length:=(List.getElem?_eq_some_iff.1 hx.symm).1;have hs:off+d+i<cs.size:=by have:=g3.1;omega
       refine ih i m'[i] y (List.getElem?_eq_getElem hi') hy ?_;refine g5 (off+i) _ _ hx.symm ?_;rw[show off+i+d=off+d+i from by omega];simp[hs,Array.getD]
   . rw[h1]at g1;cases g1
  | @dK _ _ h1=>
   rcases hB with ⟨c',d',cs,fr,g1,_⟩|⟨g1,g2⟩
   . rw[h1]at g1;cases g1
   . have:m0=[]:=List.eq_nil_of_length_eq_zero (by omega);subst this;exact .dE (by rcases hcc with rfl|rfl <;> simp)
  | di c o' h1 _ _=>
   rcases hB with ⟨c',d',cs,fr,g1,_⟩|⟨g1,g2⟩ <;> (rw[h1]at g1;cases g1)
  | dL a h1=>
   rcases hB with ⟨c',d',cs,fr,g1,_⟩|⟨g1,g2⟩ <;> (rw[h1]at g1;cases g1)
  | dD h1=>
   rcases hB with ⟨c',d',cs,fr,g1,_⟩|⟨g1,g2⟩ <;> (rw[h1]at g1;cases g1)
 | @ptr b off l m0 e hb ha hl hg ih=>
  intro v hv;have hB:=m.bN b _ (hat ha);cases hv with
  | @ptr _ c d _ h1=>
   rcases hB with ⟨c',d',cs,fr,g1,g2,g3,g4,g5⟩|⟨g1,_⟩
   . rw[h1]at g1;cases g1;refine .vp c (off+d) (fun i=>cs.getD (off+d+i) (.bool false)) (fun _=>hfree hb h1) (fun i hi=>?_) (fun i y hy=>?_)
     . have:off+d+i<cs.size:=by have:=g3.1;simp at hl;omega
       simp only[World.cell?,g2];simp[this,Array.getD]
     . have hi:i<m0.length:=(List.getElem?_eq_some_iff.1 hy).1;have hi':i<(l.drop off).length:=by omega
       have hlt:off+i<l.length:=by simp at hi';omega
       have hs:off+d+i<cs.size:=by have:=g3.1;omega
       refine ih i _ y (List.getElem?_eq_getElem hi') hy ?_;refine g5 (off+i) _ _ (by rw[List.getElem_drop];exact List.getElem?_eq_getElem hlt) ?_;rw[show off+i+d=off+d+i from by omega];simp[hs,Array.getD]
   . rw[h1]at g1;cases g1
  | cQ _ c o' h1=>
   rcases hB with ⟨c',d',cs,fr,g1,_⟩|⟨g1,g2⟩ <;> (rw[h1]at g1;cases g1)
 | @vs l l0 n cap hl hg ih=>
  intro v hv;cases hv with
  | vs c o g hf h2 h3 h4 h5=>
   refine .vs c o g (fun hn=>(hf fun e=>?_).cA S) h2 h3 (fun i hi=>h4 i (by omega)) (fun i y hy=>?_)
   . subst e;exact hn (List.eq_nil_of_length_eq_zero (by simp at hl;omega))
   . have hi:i<l.length:=by have:=(List.getElem?_eq_some_iff.1 hy).1;omega
     exact ih i _ y (List.getElem?_eq_getElem hi) hy (h5 i _ (List.getElem?_eq_getElem hi))
  | dE hc=>
   have:l0=[]:=List.eq_nil_of_length_eq_zero (by simp at hl;omega);subst this;exact .dE hc
  | dR a hc=>
   have:l0=[]:=List.eq_nil_of_length_eq_zero (by simp at hl;omega);subst this;exact .dR a hc
 | @agg l l0 hl hg ih=>
  intro v hv;cases hv with
  | @agg _ mm h1 h2=>
   refine .agg (by omega) fun i y z hy hz=>?_
   have hi:i<l.length:=by have:=(List.getElem?_eq_some_iff.1 hy).1;omega
   exact ih i _ y (List.getElem?_eq_getElem hi) hy (h2 i _ z (List.getElem?_eq_getElem hi) hz)
 | @aq l l0 hl hg ih=>
  intro v hv;cases hv with
  | @aq _ mm h1 h2=>
   refine .aq (by omega) fun i y z hy hz=>?_
   have hi:i<l.length:=by have:=(List.getElem?_eq_some_iff.1 hy).1;omega
   exact ih i _ y (List.getElem?_eq_getElem hi) hy (h2 i _ z (List.getElem?_eq_getElem hi) hz)
 | @fn f fi fi0 ca ca0 hf h1 h2 g1 g2 ih1 ih2=>
  intro v hv;cases hv with
  | fn hf' a1 a2 a3 a4=>
   refine .fn hf (by omega) (by omega) (fun i y z hy hz=>?_) (fun i y z hy hz=>?_)
   . have hi:i<fi.length:=by have:=(List.getElem?_eq_some_iff.1 hy).1;omega
     exact ih1 i _ y (List.getElem?_eq_getElem hi) hy (a3 i _ z (List.getElem?_eq_getElem hi) hz)
   . have hi:i<ca.length:=by have:=(List.getElem?_eq_some_iff.1 hy).1;omega
     exact ih2 i _ y (List.getElem?_eq_getElem hi) hy (a4 i _ z (List.getElem?_eq_getElem hi) hz)
  | yield _=>exact absurd rfl (hf _)
  | eV _ _=>exact absurd rfl (hf _)
theorem dj.view (m:Mem P gl ρ h w){S:List Nat}{l l0:List AV}(hr:dj h S l l0){vs:List Value}(hv:VL ρ w l vs):VL (cA ρ S) w l0 vs:=
 ⟨by rw[←hr.1];exact hv.1,fun i y z hy hz=>by
  have hi:i<l.length:=by have:=(List.getElem?_eq_some_iff.1 hy).1;have:=hr.1;omega
  exact(hr.2 i _ y (List.getElem?_eq_getElem hi) hy).view m (hv.2 i _ z (List.getElem?_eq_getElem hi) hz)⟩
theorem Mem.cA (hgl:∀g v,gl g=some v->v.top=0)(m:Mem P gl ρ h w)(S:List Nat):Mem P gl (cA ρ S) [] w:=by
 refine⟨fun b o hb=>by simp at hb,fun b _=>rfl,?_,?_,?_,?_,fun g v hg=>?_⟩
 . intro b b' c d d' h1;simp[Go.Ab.cA]at h1
 . intro b c d h1;simp[Go.Ab.cA]at h1
 . rintro c (hc|⟨b,d,hb,_⟩)
   . exact m.xb c hc
   . exact m.bound b c d hb
 . intro b c d h1;simp[Go.Ab.cA]at h1
 . exact(m.gl g v hg).dY (n:=0) (fun b hb=>by omega) (fun c hc=>hc.cA S) (by rw[hgl g v hg];exact Nat.le_refl _)
theorem tT (m:Mem P gl ρ h w){S ks:List Nat}{v v1:AV}{hh:ab}{bs:List aK}{v':Value}{w':World}(hnd:ks.Nodup)(hv1:Rn ks h.length v v1)(hlen:ks.length=bs.length)
 (hbs:∀(i b:Nat) o1,ks[i]? = some b->bs[i]? = some o1->∃o,hh.at b=some o/\kX ks h.length o o1/\(S=[]\/mW o=true)) (hn:S=[]\/cS v=true) (hd:cZ P gl (cA ρ S) [] w ⟨v,hh,[]⟩ v' w') :
 cZ P gl ρ h w ⟨v1,h++bs.map some,[]⟩ v' w':=by
 obtain⟨ρ',hv,m',x⟩:=hd;have bh:∀c,c<w.heap.size->w'.heap[c]? = w.heap[c]? := fun c hc=>x.bh c hc fun b d hb=>by simp[Go.Ab.cA]at hb
 have new:∀b c d,ρ' b = .live c d->w.heap.size<=c:=fun b c d hb=>by
  rcases Nat.lt_or_ge c w.heap.size with hc|hc
  . rcases x.back b c d hb hc with h1|⟨b0,d0,h1,_⟩ <;> simp[Go.Ab.cA]at h1
  . exact hc
 have hat:∀{b o},hh.at b=some o->hh[b]? = some (some o):=fun {b o} hb=>by
  unfold ab.at at hb;cases hz:hh[b]? with
  | none=>rw[hz]at hb;cases hb
  | some z=>rw[hz]at hb;simp only[Option.join_some]at hb;rw[hb]
 let ρ1:al:=⟨fun b=>if b<h.length then ρ b else match ks[b-h.length]? with|some k=>ρ' k|none=>.fresh,ρ.X⟩
 have hlt:∀b,b<h.length->ρ1 b=ρ b:=fun b hb=>by show (if _ then _ else _)=_;rw[if_pos hb]
 have hge:∀(i k:Nat),ks[i]? = some k->ρ1 (h.length+i)=ρ' k:=fun i k hk=>by show (if _ then _ else _)=_;rw[if_neg (by omega)];simp[hk]
 have hback:∀b c d,h.length<=b->ρ1 b = .live c d->∃k:Nat,ks[b-h.length]? = some k/\ρ' k = .live c d:=fun b c d hb hl=>by
  have:ρ1 b=match ks[b-h.length]? with|some k=>ρ' k|none=>.fresh:=by show (if _ then _ else _)=_;rw[if_neg (by omega)]
  rw[this]at hl;cases hk:ks[b-h.length]? with
  | none=>rw[hk]at hl;cases hl
  | some k=>rw[hk]at hl;exact⟨k,rfl,hl⟩
 have hfr:∀b,ρ b≠.fresh->b<h.length:=fun b hb=>by
  rcases Nat.lt_or_ge b h.length with h1|h1
  . exact h1
  . exact absurd (m.fresh b h1) hb
 have E:Ext h (h++bs.map some) ρ ρ1 w w':=by
  refine⟨x.os,x.tape,x.output,x.size,by simp,rfl,?_,?_,?_,?_,?_,?_,?_,x.shape⟩
  . intro b hb;have:=(List.getElem?_eq_some_iff.1 hb).1;rw[List.getElem?_append_left this];exact hb
  . intro b hb;exact hlt b (List.getElem?_eq_some_iff.1 hb).1
  . intro b c d hb;exact .inl ((hlt b (hfr b (by rw[hb];simp))).trans hb)
  . intro b hb;exact(hlt b (hfr b (by rw[hb];simp))).trans hb
  . intro b hb;exact .inl ((hlt b (hfr b (by rw[hb];simp))).trans hb)
  . intro c hc _;exact bh c hc
  . intro b c d hb hc;rcases Nat.lt_or_ge b h.length with h1|h1
    . rw[hlt b h1]at hb;exact .inl hb
    . obtain⟨k,_,hk⟩:=hback b c d h1 hb;have:=new _ _ _ hk;omega
 have hF:S=[]->∀c,bT ρ' c->bT ρ1 c:=by
  intro hS c hc;have hX:ρ'.X=(cA ρ S).X:=x.X;have h2:=hc.2;rw[hX]at h2;refine⟨fun b d hb=>?_,fun hx=>h2 (.inl hx)⟩;rcases Nat.lt_or_ge b h.length with h1|h1
  . rw[hlt b h1]at hb;exact h2 (.inr ⟨b,d,hb,by rw[hS];simp⟩)
  . obtain⟨k,_,hk⟩:=hback b c d h1 hb;exact hc.1 _ _ hk
 have hvs:∀{a a1:AV} {u:Value},(S=[]\/cS a=true)->Rn ks h.length a a1->V ρ' w' a u->V ρ1 w' a1 u:=fun {a a1 u} hc hr hu=>
  hr.view hge (hc.elim (fun h=>.inr (hF h)) .inl) hu
 refine⟨ρ1,hvs hn hv1 hv,m.ext E ?_ ?_ ?_ ?_,E⟩
 . intro b o hb;rcases Nat.lt_or_ge b h.length with h1|h1
   . rw[List.getElem?_append_left h1]at hb;exact(m.bN b o hb).mono E (hlt b h1) fun c d hl=>bh c (m.bound b c d hl)
   . rw[List.getElem?_append_right h1]at hb;obtain⟨o1,hq,rfl⟩:∃o1,bs[b-h.length]? = some o1/\o1=o:=by simpa using hb
     have hi:b-h.length<ks.length:=by have:=(List.getElem?_eq_some_iff.1 hq).1;omega
     have hk:ks[b-h.length]? = some ks[b-h.length]:=List.getElem?_eq_getElem hi;obtain⟨o,ho,hB,hnb⟩:=hbs _ _ _ hk hq;have hB':=m'.bN _ _ (hat ho);have hb1:ρ1 b=ρ' ks[b-h.length]:=by have:=hge _ _ hk;rwa [show h.length+(b-h.length)=b from by omega]at this
     cases hB with
     | @cells l l0 e hl=>
      rcases hB' with ⟨c,d,cs,fr,g1,g2,g3,g4,g5⟩|⟨g1,g2⟩
      . refine .inl ⟨c,d,cs,fr,hb1.trans g1,g2,⟨by have:=hl.1;have:=g3.1;omega,fun he=>⟨(g3.2 he).1,by have:=hl.1;have:=(g3.2 he).2;omega⟩⟩,g4,fun i y z hy hz=>?_⟩;have hi:i<l.length:=by have:=(List.getElem?_eq_some_iff.1 hy).1;have:=hl.1;omega
        exact hvs (hnb.imp id fun hh'=>fA hh' (List.getElem?_eq_getElem hi)) (hl.2 i _ y (List.getElem?_eq_getElem hi) hy) (g5 i _ z (List.getElem?_eq_getElem hi) hz)
      . refine .inr ⟨hb1.trans g1,?_⟩;have:=hl.1;rw[g2]at this;exact List.eq_nil_of_length_eq_zero (by simp at this;omega)
     | @map es es0 hl1 hl2=>
      obtain⟨c,ms,clk,g1,g2,g3,g4⟩:=hB';have hle:es.length=es0.length:=by have:=hl1.1;simpa using this
      refine⟨c,ms,clk,hb1.trans g1,g2,by omega,fun i kx vx mm hx hm=>?_⟩;have hi:i<es.length:=by have:=(List.getElem?_eq_some_iff.1 hx).1;omega
      have he:es[i]? = some (es[i].1,es[i].2):=List.getElem?_eq_getElem hi;obtain⟨q1,q2⟩:=g4 i _ _ mm he hm;have r1:=hl1.2 i es[i].1 kx (by simp[he]) (by simp[hx]);have r2:=hl2.2 i es[i].2 vx (by simp[he]) (by simp[hx]);have hnn:S=[]\/(cS es[i].1=true/\cS es[i].2=true):=hnb.imp id fun hh'=>by
       simp only[mW,Bool.and_eq_true]at hh';exact⟨fA hh'.1 (i:=i) (by simp[he]),fA hh'.2 (i:=i) (by simp[he])⟩
      exact⟨hvs (hnn.imp id (·.1)) r1 q1,hvs (hnn.imp id (·.2)) r2 q2⟩
 . intro b hb;simp at hb;show (if _ then _ else _)=_;rw[if_neg (by omega),List.getElem?_eq_none (by omega)]
 . intro b b' c d d' h1 h2;rcases Nat.lt_or_ge b h.length with hb|hb <;> rcases Nat.lt_or_ge b' h.length with hb'|hb'
   . rw[hlt b hb]at h1;rw[hlt b' hb']at h2;exact m.inj _ _ _ _ _ h1 h2
   . obtain⟨k,_,hk⟩:=hback _ _ _ hb' h2;rw[hlt b hb]at h1;have:=m.bound _ _ _ h1;have:=new _ _ _ hk;omega
   . obtain⟨k,_,hk⟩:=hback _ _ _ hb h1;rw[hlt b' hb']at h2;have:=m.bound _ _ _ h2;have:=new _ _ _ hk;omega
   . obtain⟨k,e1,hk⟩:=hback _ _ _ hb h1;obtain⟨k',e2,hk'⟩:=hback _ _ _ hb' h2;have:=m'.inj _ _ _ _ _ hk hk';subst this;obtain⟨l1,q1⟩:=List.getElem?_eq_some_iff.1 e1;obtain⟨l2,q2⟩:=List.getElem?_eq_some_iff.1 e2;have:=(List.getElem_inj hnd).1 (q1.trans q2.symm);omega
 . intro b c d hb;rcases Nat.lt_or_ge b h.length with h1|h1
   . rw[hlt b h1]at hb;exact Nat.lt_of_lt_of_le (m.bound _ _ _ hb) x.size
   . obtain⟨k,_,hk⟩:=hback _ _ _ h1 hb;exact m'.bound _ _ _ hk
theorem tU (hgl:∀g v,gl g=some v->v.top=0){f:Nat}{as as0:List AV}{v v1:AV}{hh:ab}{bs:List aK}{S ks:List Nat}(hr:dj h S as as0)(hnd:ks.Nodup)(hv1:Rn ks h.length v v1)(hlen:ks.length=bs.length)
 (hbs:∀(i b:Nat) o1,ks[i]? = some b->bs[i]? = some o1->∃o,hh.at b=some o/\kX ks h.length o o1/\(S=[]\/mW o=true)) (hn:S=[]\/cS v=true)
 (hloc:aS P gl ⟨f,as0,[],⟨v,hh,[]⟩⟩):aS P gl ⟨f,as,h,⟨v1,h++bs.map some,[]⟩⟩:=by
 refine⟨ph _ _ _,fun ρ w as' m hl=>?_⟩;obtain⟨nx,w1,h1,h2⟩:=hloc.2 (cA ρ S) w as' (m.cA hgl S) (hr.view m hl);exact⟨nx,w1,h1,h2.mono fun v w' hd=>tT m hnd hv1 hlen hbs hn hd⟩
end Go.Ab
namespace Go.Ab
variable {c:ao} {s:ah} {Q:ah->Prop} {l:List aw} {a b n:Int} {x y i:an} {t:Nat} {pe as:List AV} {lo:List (Nat×AV)} {hp:ab} {df wr:List Nat} {d:cN} {v:AV} {r:HR} {k:IntKind}
structure au where
 ext:FuncId->List AV->ab->Option HR
 inv:cI
 FT:FuncId->Option bJ
abbrev au.ev (M:au)(n:Nat):=az M.ext M.inv M.FT n
abbrev au.call (M:au)(n:Nat):=ef (M.ev n) M.ext M.FT
structure W (M:au)(c:ao)(s:ah)(Q:Ex->ah->Prop):Prop where
 out:∃n e s',M.ev n c s=some (e,s')/\Q e s'
structure WO (M:au)(l:List aw)(s:ah)(Q:ah->Prop):Prop where
 out:∃n s',cX (M.call n) M.inv l s=some s'/\Q s'
structure WD (M:au)(l:List (aw×List Nat))(s:ah)(ds:List bf)(Q:ah->Prop):Prop where
 out:∃n s',cm (M.call n) M.inv l s ds=some s'/\Q s'
structure WC (M:au)(g:AV)(as:List AV)(h:ab)(Q:HR->Prop):Prop where
 out:∃n r,M.call n g as h=some r/\Q r
def aJ (M:au)(f:FuncId)(as:List AV)(h:ab)(r:HR):Prop:=∃n,dP (M.ev n) M.FT f as h=some r
variable {M:au}
theorem jN {n m:Nat}(h:n<=m){c:ao}{s:ah}{x:Ex×ah}(hx:M.ev n c s=some x):M.ev m c s=some x:=mV h c s x hx
theorem fB {n m:Nat}(h:n<=m):jM (M.call n) (M.call m):=tR (mV h)
theorem W.mono {Q R:Ex->ah->Prop}(h:W M c s Q)(hr:∀e s',Q e s'->R e s'):W M c s R:=by
 obtain⟨⟨n,e,s',h1,h2⟩⟩:=h;exact⟨⟨n,e,s',h1,hr _ _ h2⟩⟩
theorem WO.mono {R:ah->Prop}(h:WO M l s Q)(hr:∀s',Q s'->R s'):WO M l s R:=by
 obtain⟨⟨n,s',h1,h2⟩⟩:=h;exact⟨⟨n,s',h1,hr _ h2⟩⟩
structure SQ (M:au)(b:ao)(Q:Ex->ah->Prop)(e:Ex)(s:ah):Prop where
 out:match e with
  | .normal=>W M b s Q
  | e=>Q e s
structure BQ (id:Nat)(Q:Ex->ah->Prop)(e:Ex)(s:ah):Prop where
 out:match e with
  | .exit i=>if i=id then Q .normal s else Q (.exit i) s
  | e=>Q e s
structure LQ (M:au)(c:ao)(Q:Ex->ah->Prop)(e:Ex)(s:ah):Prop where
 out:match e with
  | .normal=>W M (.loop c) s Q
  | e=>Q e s
theorem Kl {Q:Ex->ah->Prop}(h:Q .normal s):W M .skip s Q:=⟨⟨1,.normal,s,rfl,h⟩⟩
theorem Ki {Q:Ex->ah->Prop}(h:Q .ret s):W M .ret s Q:=⟨⟨1,.ret,s,rfl,h⟩⟩
theorem Kx {i:Nat}{Q:Ex->ah->Prop}(h:Q (.exit i) s):W M (.exit i) s Q:=⟨⟨1,.exit i,s,rfl,h⟩⟩
theorem Ke {a b:ao}{Q:Ex->ah->Prop}(h:W M a s (SQ M b Q)):W M (.seq a b) s Q:=by
 obtain⟨⟨n,e,s1,h1,⟨h2⟩⟩⟩:=h;cases e with
 | normal=>
  obtain⟨⟨m,e,s2,h3,h4⟩⟩:=h2;refine⟨⟨max n m+1,e,s2,?_,h4⟩⟩;show az _ _ _ _ _ _=_;rw[az,show az M.ext M.inv M.FT (max n m) _ s=_ from jN (Nat.le_max_left n m) h1];exact jN (Nat.le_max_right n m) h3
 | exit i=>refine⟨⟨n+1,.exit i,s1,?_,h2⟩⟩;show az _ _ _ _ _ _=_;rw[az,show az _ _ _ n a s=_ from h1]
 | ret=>refine⟨⟨n+1,.ret,s1,?_,h2⟩⟩;show az _ _ _ _ _ _=_;rw[az,show az _ _ _ n a s=_ from h1]
theorem Kn {id:Nat}{Q:Ex->ah->Prop}(h:W M c s (BQ id Q)):W M (.block id c) s Q:=by
 obtain⟨⟨n,e,s1,h1,⟨h2⟩⟩⟩:=h;have h1':az M.ext M.inv M.FT n c s=some (e,s1):=h1;cases e with
 | normal=>refine⟨⟨n+1,.normal,s1,?_,h2⟩⟩;show az _ _ _ _ _ _=_;rw[az,h1']
 | ret=>refine⟨⟨n+1,.ret,s1,?_,h2⟩⟩;show az _ _ _ _ _ _=_;rw[az,h1']
 | exit i=>
  simp only at h2;split at h2
  . rename_i hi;refine⟨⟨n+1,.normal,s1,?_,h2⟩⟩;show az _ _ _ _ _ _=_;rw[az,h1'];simp only[if_pos hi]
  . rename_i hi;refine⟨⟨n+1,.exit i,s1,?_,h2⟩⟩;show az _ _ _ _ _ _=_;rw[az,h1'];simp only[if_neg hi]
theorem W.loop {Q:Ex->ah->Prop}(h:W M c s (LQ M c Q)):W M (.loop c) s Q:=by
 obtain⟨⟨n,e,s1,h1,⟨h2⟩⟩⟩:=h;have h1':az M.ext M.inv M.FT n c s=some (e,s1):=h1;cases e with
 | normal=>
  obtain⟨⟨m,e,s2,h3,h4⟩⟩:=h2;refine⟨⟨max n m+1,e,s2,?_,h4⟩⟩;show az _ _ _ _ _ _=_;rw[az,show az M.ext M.inv M.FT (max n m) _ s=_ from jN (Nat.le_max_left n m) h1];exact jN (Nat.le_max_right n m) h3
 | exit i=>refine⟨⟨n+1,.exit i,s1,?_,h2⟩⟩;show az _ _ _ _ _ _=_;rw[az,h1']
 | ret=>refine⟨⟨n+1,.ret,s1,?_,h2⟩⟩;show az _ _ _ _ _ _=_;rw[az,h1']
theorem KG {t:Bool}{a b:ao}{Q:Ex->ah->Prop}(h:s.s.aa x=some (.bool t))(h1:t=true->W M a s Q)(h2:t=false->W M b s Q):W M (.cond x a b) s Q:=by
 cases t with
 | true=>
  obtain⟨⟨n,e,s',h3,h4⟩⟩:=h1 rfl;refine⟨⟨n+1,e,s',?_,h4⟩⟩;show az _ _ _ _ _ _=_;rw[az,h];exact h3
 | false=>
  obtain⟨⟨n,e,s',h3,h4⟩⟩:=h2 rfl;refine⟨⟨n+1,e,s',?_,h4⟩⟩;show az _ _ _ _ _ _=_;rw[az,h];exact h3
theorem Kj {a b:ao}{Q:Ex->ah->Prop}(h:s.s.aa x=some (.bool true))(h1:W M a s Q):W M (.cond x a b) s Q:=KG h (fun _=>h1) (fun h=>by cases h)
theorem Kk {a b:ao}{Q:Ex->ah->Prop}(h:s.s.aa x=some (.bool false))(h1:W M b s Q):W M (.cond x a b) s Q:=KG h (fun h=>by cases h) (fun _=>h1)
theorem Kf {Q:Ex->ah->Prop}(h:WO M l ⟨⟨pe,[],hp,df⟩,wr⟩ (Q .normal)):W M (.region l) ⟨⟨pe,lo,hp,df⟩,wr⟩ Q:=by
 obtain⟨⟨n,s',h1,h2⟩⟩:=h;refine⟨⟨n+1,.normal,s',?_,h2⟩⟩;show az _ _ _ _ _ _=_;rw[az,h1]
theorem KE {l:List (aw×List Nat)}{Q:Ex->ah->Prop}(h:WD M l ⟨⟨pe,[],hp,df⟩,wr⟩ [] (Q .normal)):W M (.draw l) ⟨⟨pe,lo,hp,df⟩,wr⟩ Q:=by
 obtain⟨⟨n,s',h1,h2⟩⟩:=h;refine⟨⟨n+1,.normal,s',?_,h2⟩⟩;show az _ _ _ _ _ _=_;rw[az,h1]
theorem Kg (h:Q s):WO M [] s Q:=⟨⟨0,s,rfl,h⟩⟩
def aB.jO:aB->Bool
 | .call .. | .invoke .. => false
 | _=>true
structure WP (M:au)(s:St)(op:aB)(Q:HR->Prop):Prop where
 out:∃n r,aQ (M.call n) M.inv s op=some r/\Q r
theorem WO.op {d:cN}{op:aB}{l:List aw}{s:ah}{Q:ah->Prop}(h:WP M s.s op fun r=>WO M l ⟨{ s.s.put d r.v with hp:=r.h },r.wr++s.wr⟩ Q):WO M (⟨d,op,none⟩::l) s Q:=by
 obtain⟨⟨n,r,h1,⟨⟨m,s',h2,h3⟩⟩⟩⟩:=h;refine⟨⟨max n m,s',?_,h3⟩⟩;simp only[cX,cJ];rw[mT (fB (Nat.le_max_left n m)) h1];exact gI (fB (Nat.le_max_right n m)) _ _ _ h2
theorem WO.skip {op:aB}{t want:Bool}(hx:s.s.aa x=some (.bool t))(ht:(t == want)=false)(h:WO M l ⟨s.s.put d aW,s.wr⟩ Q):WO M (⟨d,op,some (x,want)⟩::l) s Q:=by
 obtain⟨⟨n,s',h1,h2⟩⟩:=h;refine⟨⟨n,s',?_,h2⟩⟩;simp only[cX,cJ,hx,ht];exact h1
theorem WO.take {op:aB}{t want:Bool}(hx:s.s.aa x=some (.bool t))(ht:(t == want)=true)(h:WO M (⟨d,op,none⟩::l) s Q):WO M (⟨d,op,some (x,want)⟩::l) s Q:=by
 obtain⟨⟨n,s',h1,h2⟩⟩:=h;refine⟨⟨n,s',?_,h2⟩⟩;simp only[cX,cJ,hx,ht]at h1 ⊢;exact h1
theorem WO.BY {op:aB}(hx:s.s.aa x=some (.aq [])){want:Bool}(h:WO M l ⟨s.s.put d aW,s.wr⟩ Q):WO M (⟨d,op,some (x,want)⟩::l) s Q:=by
 obtain⟨⟨n,s',h1,h2⟩⟩:=h;refine⟨⟨n,s',?_,h2⟩⟩;simp only[cX,cJ,hx];exact h1
theorem Ky {op:aB}(hx:s.s.aa x=some (.bool true))(h:WO M (⟨d,op,none⟩::l) s Q):WO M (⟨d,op,some (x,true)⟩::l) s Q:=WO.take hx rfl h
theorem Kv {op:aB}(hx:s.s.aa x=some (.bool false))(h:WO M (⟨d,op,none⟩::l) s Q):WO M (⟨d,op,some (x,false)⟩::l) s Q:=WO.take hx rfl h
theorem KB {op:aB}(hx:(St.mk pe lo hp df).aa x=some (.bool false))(h:WO M l ⟨⟨pe,(t,aW)::lo,hp,df⟩,wr⟩ Q):WO M (⟨.l t,op,some (x,true)⟩::l) ⟨⟨pe,lo,hp,df⟩,wr⟩ Q:=WO.skip hx rfl h
theorem KD {op:aB}(hx:(St.mk pe lo hp df).aa x=some (.bool true))(h:WO M l ⟨⟨pe,(t,aW)::lo,hp,df⟩,wr⟩ Q):WO M (⟨.l t,op,some (x,false)⟩::l) ⟨⟨pe,lo,hp,df⟩,wr⟩ Q:=WO.skip hx rfl h
theorem WP.pure {s:St}{op:aB}{Q:HR->Prop}(hh:op.aI=false)(hv:aC s op=some v)(h:Q ⟨v,s.hp,[]⟩):WP M s op Q:=by
 refine⟨⟨0,_,?_,h⟩⟩;cases op <;> first|(cases hh;done)|simp only[aQ,aB.aI,hv,Bool.false_eq_true,if_false,Option.map_some]
theorem WP.heap {s:St}{op:aB}{Q:HR->Prop}(hh:op.aI=true)(hc:op.jO=true)(hv:aP s op s.hp=some r)(h:Q r):WP M s op Q:=by
 refine⟨⟨0,_,?_,h⟩⟩;cases op <;> first|(cases hh;done)|(cases hc;done)|(simp only[aQ,aB.aI,if_true];exact hv)
theorem WP.call {s:St}{f:an}{args:List an}{g:AV}{Q:HR->Prop}(hf:s.aa f=some g)(ha:s.bp args=some as)(h:WC M g as s.hp Q):WP M s (.call f args) Q:=by
 obtain⟨⟨n,r,h1,h2⟩⟩:=h;refine⟨⟨n,r,?_,h2⟩⟩;simp only[aQ,hf,ha];exact h1
theorem WC.ext {f:FuncId}{fi ca:List AV}{h:ab}{Q:HR->Prop}(he:M.ext f (fi++as++ca) h=some r)(hq:Q r):WC M (.fn (.func f) fi ca) as h Q:=
 ⟨⟨0,r,by simp only[ef,he],hq⟩⟩
theorem WO.pJ {f:an}{args:List an}{g:FuncId}{fi ca:List AV}(hf:s.s.aa f=some (.fn (.func g) fi ca))(ha:s.s.bp args=some as)(he:M.ext g (fi++as++ca) s.s.hp=some r)
 (h:WO M l ⟨{ s.s.put d r.v with hp:=r.h },r.wr++s.wr⟩ Q):WO M (⟨d,.call f args,none⟩::l) s Q:=WO.op (WP.call hf ha (WC.ext he h))
theorem Kd {op:aB}(hv:aC ⟨pe,lo,hp,df⟩ op=some v)(hh:op.aI=false)(h:WO M l ⟨⟨pe,(t,v)::lo,hp,df⟩,wr⟩ Q) :
 WO M (⟨.l t,op,none⟩::l) ⟨⟨pe,lo,hp,df⟩,wr⟩ Q:=WO.op (WP.pure hh hv h)
theorem Kh {i:Nat}{op:aB}(hv:aC ⟨pe,lo,hp,df⟩ op=some v)(hh:op.aI=false)(h:WO M l ⟨⟨pe.set i v,lo,hp,df⟩,wr⟩ Q) :
 WO M (⟨.p i,op,none⟩::l) ⟨⟨pe,lo,hp,df⟩,wr⟩ Q:=WO.op (WP.pure hh hv h)
theorem WO.hl {op:aB}(hv:aP ⟨pe,lo,hp,df⟩ op hp=some r)(hh:op.aI=true)(hc:op.jO=true)
 (h:WO M l ⟨⟨pe,(t,r.v)::lo,r.h,df⟩,r.wr++wr⟩ Q):WO M (⟨.l t,op,none⟩::l) ⟨⟨pe,lo,hp,df⟩,wr⟩ Q:=WO.op (WP.heap hh hc hv h)
theorem WO.hn {op:aB}(hv:aP ⟨pe,lo,hp,df⟩ op hp=some r)(hh:op.aI=true)(hc:op.jO=true)
 (h:WO M l ⟨⟨pe,lo,r.h,df⟩,r.wr++wr⟩ Q):WO M (⟨.no,op,none⟩::l) ⟨⟨pe,lo,hp,df⟩,wr⟩ Q:=WO.op (WP.heap hh hc hv h)
theorem Kz (hx:(St.mk pe lo hp df).aa x=some (.int k a))(hy:(St.mk pe lo hp df).aa y=some (.int k b))
 (h1:a<b->WO M l ⟨⟨pe,(t,.bool true)::lo,hp,df⟩,wr⟩ Q) (h2:b<=a->WO M l ⟨⟨pe,(t,.bool false)::lo,hp,df⟩,wr⟩ Q):WO M (⟨.l t,.bin .lss x y,none⟩::l) ⟨⟨pe,lo,hp,df⟩,wr⟩ Q:=by
 refine WO.op (WP.pure (v:=.bool (decide (a<b))) rfl (by simp[aC,hx,hy,cf]) ?_);by_cases h:a<b
 . rw[decide_eq_true h];exact h1 h
 . rw[decide_eq_false h];exact h2 (by omega)
theorem Le (hx:(St.mk pe lo hp df).aa x=some (.int k a))(hy:(St.mk pe lo hp df).aa y=some (.int k b))
 (h1:a<=b->WO M l ⟨⟨pe,(t,.bool true)::lo,hp,df⟩,wr⟩ Q) (h2:b<a->WO M l ⟨⟨pe,(t,.bool false)::lo,hp,df⟩,wr⟩ Q):WO M (⟨.l t,.bin .leq x y,none⟩::l) ⟨⟨pe,lo,hp,df⟩,wr⟩ Q:=by
 refine WO.op (WP.pure (v:=.bool (decide (a<=b))) rfl (by simp[aC,hx,hy,cf]) ?_);by_cases h:a<=b
 . rw[decide_eq_true h];exact h1 h
 . rw[decide_eq_false h];exact h2 (by omega)
theorem Ku (hx:(St.mk pe lo hp df).aa x=some (.int k a))(hy:(St.mk pe lo hp df).aa y=some (.int k b))
 (h1:b<a->WO M l ⟨⟨pe,(t,.bool true)::lo,hp,df⟩,wr⟩ Q) (h2:a<=b->WO M l ⟨⟨pe,(t,.bool false)::lo,hp,df⟩,wr⟩ Q):WO M (⟨.l t,.bin .gtr x y,none⟩::l) ⟨⟨pe,lo,hp,df⟩,wr⟩ Q:=by
 refine WO.op (WP.pure (v:=.bool (decide (a > b))) rfl (by simp[aC,hx,hy,cf]) ?_);by_cases h:b<a
 . rw[decide_eq_true h];exact h1 h
 . rw[decide_eq_false h];exact h2 (by omega)
theorem KJ (hx:(St.mk pe lo hp df).aa x=some (.int k a))(hy:(St.mk pe lo hp df).aa y=some (.int k b))
 (h1:b<=a->WO M l ⟨⟨pe,(t,.bool true)::lo,hp,df⟩,wr⟩ Q) (h2:a<b->WO M l ⟨⟨pe,(t,.bool false)::lo,hp,df⟩,wr⟩ Q):WO M (⟨.l t,.bin .geq x y,none⟩::l) ⟨⟨pe,lo,hp,df⟩,wr⟩ Q:=by
 refine WO.op (WP.pure (v:=.bool (decide (a>=b))) rfl (by simp[aC,hx,hy,cf]) ?_);by_cases h:b<=a
 . rw[decide_eq_true h];exact h1 h
 . rw[decide_eq_false h];exact h2 (by omega)
theorem Ks (hx:(St.mk pe lo hp df).aa x=some (.int k a))(hy:(St.mk pe lo hp df).aa y=some (.int k b))
 (h1:a=b->WO M l ⟨⟨pe,(t,.bool true)::lo,hp,df⟩,wr⟩ Q) (h2:a≠b->WO M l ⟨⟨pe,(t,.bool false)::lo,hp,df⟩,wr⟩ Q):WO M (⟨.l t,.bin .eql x y,none⟩::l) ⟨⟨pe,lo,hp,df⟩,wr⟩ Q:=by
 refine WO.op (WP.pure (v:=.bool (a == b)) rfl (by simp[aC,hx,hy,cf]) ?_);by_cases h:a=b
 . rw[beq_iff_eq.2 h];exact h1 h
 . rw[beq_eq_false_iff_ne.2 h];exact h2 h
theorem Kw (hx:(St.mk pe lo hp df).aa x=some (.int k a))(hy:(St.mk pe lo hp df).aa y=some (.int k b))
 (h1:a≠b->WO M l ⟨⟨pe,(t,.bool true)::lo,hp,df⟩,wr⟩ Q) (h2:a=b->WO M l ⟨⟨pe,(t,.bool false)::lo,hp,df⟩,wr⟩ Q):WO M (⟨.l t,.bin .neq x y,none⟩::l) ⟨⟨pe,lo,hp,df⟩,wr⟩ Q:=by
 refine WO.op (WP.pure (v:=.bool (a != b)) rfl (by simp[aC,hx,hy,cf]) ?_);by_cases h:a=b
 . rw[bne_eq_false_iff_eq.2 h];exact h2 h
 . rw[bne_iff_ne.2 h];exact h1 h
theorem KA {a b:List UInt8}(hx:(St.mk pe lo hp df).aa x=some (.str a))(hy:(St.mk pe lo hp df).aa y=some (.str b))
 (h1:a=b->WO M l ⟨⟨pe,(t,.bool true)::lo,hp,df⟩,wr⟩ Q) (h2:a≠b->WO M l ⟨⟨pe,(t,.bool false)::lo,hp,df⟩,wr⟩ Q):WO M (⟨.l t,.bin .eql x y,none⟩::l) ⟨⟨pe,lo,hp,df⟩,wr⟩ Q:=by
 refine WO.op (WP.pure (v:=.bool (a == b)) rfl (by simp[aC,hx,hy,cf]) ?_);by_cases h:a=b
 . rw[beq_iff_eq.2 h];exact h1 h
 . rw[beq_eq_false_iff_ne.2 h];exact h2 h
theorem KM {a b:List UInt8}(hx:(St.mk pe lo hp df).aa x=some (.str a))(hy:(St.mk pe lo hp df).aa y=some (.str b))
 (h1:a≠b->WO M l ⟨⟨pe,(t,.bool true)::lo,hp,df⟩,wr⟩ Q) (h2:a=b->WO M l ⟨⟨pe,(t,.bool false)::lo,hp,df⟩,wr⟩ Q):WO M (⟨.l t,.bin .neq x y,none⟩::l) ⟨⟨pe,lo,hp,df⟩,wr⟩ Q:=by
 refine WO.op (WP.pure (v:=.bool !(a == b)) rfl (by simp[aC,hx,hy,cf]) ?_);by_cases h:a=b
 . rw[beq_iff_eq.2 h];exact h2 h
 . rw[beq_eq_false_iff_ne.2 h];exact h1 h
theorem iP (h : -9223372036854775808<=n/\n<9223372036854775808):IntKind.i64.wrap n=n:=IntWalk.i64_in _ (by omega)
theorem KC (hx:(St.mk pe lo hp df).aa x=some (.int .i64 a))(hy:(St.mk pe lo hp df).aa y=some (.int .i64 b))
 (hr : -9223372036854775808<=a+b/\a+b<9223372036854775808) (h:WO M l ⟨⟨pe,(t,.int .i64 (a+b))::lo,hp,df⟩,wr⟩ Q):WO M (⟨.l t,.bin .add x y,none⟩::l) ⟨⟨pe,lo,hp,df⟩,wr⟩ Q:=
 WO.op (WP.pure (v:=.int .i64 (a+b)) rfl (by simp[aC,hx,hy,cf,iP hr]) h)
theorem KU (hx:(St.mk pe lo hp df).aa x=some (.int .i64 a))(hy:(St.mk pe lo hp df).aa y=some (.int .i64 b))
 (hr : -9223372036854775808<=a-b/\a-b<9223372036854775808) (h:WO M l ⟨⟨pe,(t,.int .i64 (a-b))::lo,hp,df⟩,wr⟩ Q):WO M (⟨.l t,.bin .sub x y,none⟩::l) ⟨⟨pe,lo,hp,df⟩,wr⟩ Q:=
 WO.op (WP.pure (v:=.int .i64 (a-b)) rfl (by simp[aC,hx,hy,cf,iP hr]) h)
theorem Ll (hx:(St.mk pe lo hp df).aa x=some (.int .i64 a))(hy:(St.mk pe lo hp df).aa y=some (.int .i64 b))
 (hr : -9223372036854775808<=a*b/\a*b<9223372036854775808) (h:WO M l ⟨⟨pe,(t,.int .i64 (a*b))::lo,hp,df⟩,wr⟩ Q):WO M (⟨.l t,.bin .mul x y,none⟩::l) ⟨⟨pe,lo,hp,df⟩,wr⟩ Q:=
 WO.op (WP.pure (v:=.int .i64 (a*b)) rfl (by simp[aC,hx,hy,cf,iP hr]) h)
theorem WO.quo (hx:(St.mk pe lo hp df).aa x=some (.int .i64 a))(hy:(St.mk pe lo hp df).aa y=some (.int .i64 b))
 (hb:0<b) (hr : -9223372036854775808<=a/\a<9223372036854775808) (h:WO M l ⟨⟨pe,(t,.int .i64 (a.tdiv b))::lo,hp,df⟩,wr⟩ Q):WO M (⟨.l t,.bin .quo x y,none⟩::l) ⟨⟨pe,lo,hp,df⟩,wr⟩ Q:=by
 have hb':b≠0:=by omega
 have h1:(a.tdiv b).natAbs<=a.natAbs:=by rw[Int.natAbs_tdiv];exact Nat.div_le_self _ _
 have h2 : -9223372036854775808<=a.tdiv b/\a.tdiv b<9223372036854775808:=by
  rcases Int.le_total 0 a with h0|h0
  . have:=Int.tdiv_nonneg h0 (Int.le_of_lt hb);omega
  . have:a.tdiv b<=0:=by
     have:=Int.tdiv_nonneg (a:=-a) (b:=b) (by omega) (Int.le_of_lt hb);rw[Int.neg_tdiv]at this;omega
    omega
 exact WO.op (WP.pure (v:=.int .i64 (a.tdiv b)) rfl (by simp[aC,hx,hy,cf,hb',iP h2]) h)
theorem WO.rem (hx:(St.mk pe lo hp df).aa x=some (.int k a))(hy:(St.mk pe lo hp df).aa y=some (.int k b))
 (hb:b≠0) (h:WO M l ⟨⟨pe,(t,.int k (a.tmod b))::lo,hp,df⟩,wr⟩ Q):WO M (⟨.l t,.bin .rem x y,none⟩::l) ⟨⟨pe,lo,hp,df⟩,wr⟩ Q:=
 WO.op (WP.pure (v:=.int k (a.tmod b)) rfl (by simp[aC,hx,hy,cf,hb]) h)
theorem Lo {esz:Nat}{c:List AV}{len:Nat}{cap:Option Nat}(hx:(St.mk pe lo hp df).aa x=some (.vs c len cap))(hy:(St.mk pe lo hp df).aa i=some (.int k n))
 (hb:0<=n/\n<len) (h:WO M l ⟨⟨pe,(t,.vp (c.drop (n.toNat*esz)))::lo,hp,df⟩,wr⟩ Q):WO M (⟨.l t,.ee none esz x i,none⟩::l) ⟨⟨pe,lo,hp,df⟩,wr⟩ Q:=
 WO.op (WP.pure (v:=.vp (c.drop (n.toNat*esz))) rfl (by simp[aC,hx,hy,iA,hb]) h)
theorem KZ {esz b o len:Nat}{cap:Option Nat}(hx:(St.mk pe lo hp df).aa x=some (.sl b o len esz cap))(hy:(St.mk pe lo hp df).aa i=some (.int k n))
 (hb:0<=n/\n<len) (h:WO M l ⟨⟨pe,(t,.ptr b (o+n.toNat*esz))::lo,hp,df⟩,wr⟩ Q):WO M (⟨.l t,.ee none esz x i,none⟩::l) ⟨⟨pe,lo,hp,df⟩,wr⟩ Q:=
 WO.op (WP.pure (v:=.ptr b (o+n.toNat*esz)) rfl (by simp[aC,hx,hy,iA,hb]) h)
theorem KP {s:List UInt8}(hx:(St.mk pe lo hp df).aa x=some (.str s))(hy:(St.mk pe lo hp df).aa i=some (.int k n))
 (hb:0<=n/\n<s.length) (h:WO M l ⟨⟨pe,(t,.int .u8 (s[n.toNat]!).toNat)::lo,hp,df⟩,wr⟩ Q):WO M (⟨.l t,.index x i,none⟩::l) ⟨⟨pe,lo,hp,df⟩,wr⟩ Q:=by
 have h1:n.toNat<s.length:=by omega
 refine WO.op (WP.pure (v:=.int .u8 (s[n.toNat]!).toNat) rfl ?_ h);simp[aC,hx,hy,lS,hb.1,h1]
theorem aj {b:ao}{s:ah}{Q}(h:W M b s Q):SQ M b Q .normal s:=⟨h⟩
theorem bX {b:ao}{s:ah}{Q}{i:Nat}(h:Q (.exit i) s):SQ M b Q (.exit i) s:=⟨h⟩
theorem aF {b:ao}{s:ah}{Q}(h:Q .ret s):SQ M b Q .ret s:=⟨h⟩
theorem bn {b:Nat}{s:ah}{Q}(h:Q .normal s):BQ b Q .normal s:=⟨h⟩
theorem cD {b:Nat}{s:ah}{Q}(h:Q .ret s):BQ b Q .ret s:=⟨h⟩
theorem cg {b:Nat}{s:ah}{Q}(h:Q .normal s):BQ b Q (.exit b) s:=⟨by simp only[if_true];exact h⟩
theorem dk {b i:Nat}{s:ah}{Q}(hn:Nat.beq i b=false)(h:Q (.exit i) s):BQ b Q (.exit i) s:=
 ⟨by simp only;rw[if_neg (fun e=>by subst e;simp at hn)];exact h⟩
theorem iQ {b:ao}{s:ah}{Q}(h:W M (.loop b) s Q):LQ M b Q .normal s:=⟨h⟩
theorem cB {b:ao}{s:ah}{Q}{i:Nat}(h:Q (.exit i) s):LQ M b Q (.exit i) s:=⟨h⟩
theorem dr {b:ao}{s:ah}{Q}(h:Q .ret s):LQ M b Q .ret s:=⟨h⟩
theorem bq {f N:Nat}{ar:List Nat}{res:List fW}{body:ao}{hh:ab}(hft:M.FT f=some ⟨N,ar,res,body⟩)(hN:as.length<=N)
 (h:W M body ⟨⟨ar.map (fun t=>(as[t]?).getD aW),[],[],[]⟩,[]⟩ fun e s=>(e = .normal\/e = .ret)/\s.s.bC=[]/\∃vs,dX s.s res=some vs/\dh vs=v/\(if v.top<=0 then [] else s.s.hp)=hh):aJ M f as [] ⟨v,hh,[]⟩:=by
 obtain⟨⟨n,e,s,h1,h2,h3,vs,h4,h5,h6⟩⟩:=h;refine⟨n,?_⟩;have h1':az M.ext M.inv M.FT n body ⟨⟨ar.map (fun t=>(as[t]?).getD aW),[],[],[]⟩,[]⟩=some (e,s):=h1;simp only[dP,hft];rw[if_neg (by omega)];simp only[au.ev,h1',if_pos h2,h3,eT,h4];subst h5;subst h6;have ht:tight s.s.hp 0 s.wr=true:=by
  simp only[tight,List.all_eq_true];intro b _;split <;> simp
 have hf:s.wr.filter (fun b=>decide (b<0))=[]:=by simp
 simp only[cz,List.length_nil,ht,Bool.and_true,hf,List.take_zero,decide_eq_true_eq];split <;> rfl
end Go.Ab
namespace Go.Ab
variable {FT:FuncId->Option bJ} {h:ab} {S:List Nat}
variable {P:Program} {gl:Nat->Option AV}
abbrev Spec:=List AV->ab->Option HR
def cT:List (Nat×Spec)->FuncId->List AV->ab->Option HR
 | [],_,_,_=>none
 | (g,sp)::T,f,as,h=>if Nat.beq g f then sp as h else cT T f as h
def aV (P:Program)(gl:Nat->Option AV)(f:Nat)(sp:Spec):Prop:=∀as h r,sp as h=some r->aS P gl ⟨f,as,h,r⟩
theorem br:cR P gl (cT []):=fun _ _ _ _ h=>by cases h
theorem aL {f:Nat}{sp:Spec}{T:List (Nat×Spec)}(h:aV P gl f sp)(hT:cR P gl (cT T)):cR P gl (cT ((f,sp)::T)):=by
 intro g all hp r hq;simp only[cT]at hq;split at hq
 . rename_i e;have e':=Nat.eq_of_beq_eq_true e;subst e';exact h _ _ _ hq
 . exact hT g all hp r hq
def kY (k:XK):Spec:=fun as h=>(k.run as).map fun v=>⟨v,h,[]⟩
theorem pK {f:Nat}{k:XK}(h:jK P f k):aV P gl f (kY k):=by
 intro as hp r hq;have:=pG (P:=P) (gl:=gl) (L:=[(f,k)]) (fun p hp=>by simp only[List.mem_singleton]at hp;subst hp;exact h) f as hp r;simp only[iM,Nat.beq_refl,if_true]at this;simp only[kY,Option.map_eq_some_iff]at hq;obtain⟨v,hv,rfl⟩:=hq;exact this (by simp only[hv])
def pL (as0:List AV)(v:AV):Spec:=fun as h=>if mJ as as0 then some ⟨v,h,[]⟩ else none
theorem BZ (hgl:∀g v,gl g=some v->v.top=0){f:Nat}{as0:List AV}{v:AV}(hv:v.top=0)(htop:aY as0=0)(hloc:aS P gl ⟨f,as0,[],⟨v,[],[]⟩⟩):aV P gl f (pL as0 v):=by
 intro as h r hq;simp only[pL]at hq;split at hq
 . rename_i e;have e':=tL e;subst e';cases hq;have:=tU (h:=h) (S:=[]) (ks:=[]) (bs:=[]) hgl (as:=as) ⟨rfl,fun i x y hx hy=>by rw[hx]at hy;cases hy;exact .same (by have:=dS (n:=0) (by omega) i x hx;omega)⟩ (by simp) (.same hv) rfl (by simp) (.inl rfl) hloc;simpa using this
 . cases hq
structure iR (P:Program)(gl:Nat->Option AV)(FT:FuncId->Option bJ):Prop where
 mix:P.follows .mixedOrders=true
 ft:hZ P gl FT
 gl:∀g v,gl g=some v->v.top=0
abbrev bA (P:Program)(FT:FuncId->Option bJ)(T:List (Nat×Spec)):au:=⟨cT T,cY P,FT⟩
theorem mM (hs:iR P gl FT){T:List (Nat×Spec)}(hT:cR P gl (cT T)){f:Nat}{as:List AV}{h:ab}{r:HR}(hr:aJ (bA P FT T) f as h r)(hw:dq h r):aS P gl ⟨f,as,h,r⟩:=by
 obtain⟨n,hn⟩:=hr;refine⟨hw,fun ρ w as' m hv=>?_⟩;obtain⟨h1,h2⟩:=mF (pE hs.mix hT hs.ft n) hs.ft hn m hv;refine⟨_,_,h1,?_⟩;refine CallsIn.mono h2 fun e w' he=>?_
 cases e with
 | returned v=>exact he
 | panicked _=>exact he
 | outgrown=>exact he
theorem tV (hs:iR P gl FT){T:List (Nat×Spec)}(hT:cR P gl (cT T)){f:Nat}{as as0:List AV}{h:ab}{S ks:List Nat}{v v1:AV}{hh:ab}{bs:List aK}(hr:aJ (bA P FT T) f as0 [] ⟨v,hh,[]⟩)
 (hv:dj h S as as0) (hnd:ks.Nodup) (hv1:Rn ks h.length v v1) (hlen:ks.length=bs.length)
 (hbs:∀(i b:Nat) o1,ks[i]? = some b->bs[i]? = some o1->∃o,hh.at b=some o/\kX ks h.length o o1/\(S=[]\/mW o=true)) (hn:S=[]\/cS v=true):aS P gl ⟨f,as,h,⟨v1,h++bs.map some,[]⟩⟩:=
 tU hs.gl hv hnd hv1 hlen hbs hn (mM hs hT hr ⟨Nat.zero_le _,fun _ hb=>absurd hb (Nat.not_lt_zero _)⟩)
theorem fC (hs:iR P gl FT){T:List (Nat×Spec)}(hT:cR P gl (cT T)){f:Nat}{as as0:List AV}{h hh:ab}{S:List Nat}{v:AV}(hr:aJ (bA P FT T) f as0 [] ⟨v,hh,[]⟩)
 (hv:dj h S as as0) (ht:v.top=0) (hn:S=[]\/cS v=true):aS P gl ⟨f,as,h,⟨v,h,[]⟩⟩:=by
 have:=tV hs hT (ks:=[]) (bs:=[]) hr hv (by simp) (.same ht) rfl (by simp) hn;simpa using this
theorem dj.nil:dj h S [] []:=⟨rfl,by simp⟩
theorem dj.cons {x y:AV}{l m:List AV}(h1:Fr h S x y)(h2:dj h S l m):dj h S (x::l) (y::m):=by
 refine⟨by simp[h2.1],fun i a b ha hb=>?_⟩;cases i with
 | zero=>simp at ha hb;subst ha;subst hb;exact h1
 | succ i=>simp at ha hb;exact h2.2 i a b ha hb
theorem dj.same {l:List AV}(ht:aY l=0):dj h S l l:=
 ⟨rfl,fun i x y hx hy=>by rw[hx]at hy;cases hy;exact .same (by have:=dS (n:=0) (by omega) i x hx;omega)⟩
def arr {α:Type}(f:α->List AV)(l:List α):List AV:=l.flatMap f
def ints (l:List Int):List AV:=arr (fun x=>[.int .i64 x]) l
def Sl {α:Type}(f:α->List AV)(h:ab)(v:AV)(l:List α):Prop:=
 (v = .ak/\l=[])\/(∃cap,v = .vs (arr f l) l.length cap)\/(∃b off esz cap c e,v = .sl b off l.length esz cap/\h.at b=some (.cells c e)/\cut c off (l.length*esz)=some (arr f l))
theorem Ca {a b:List AV}:aY (a++b)=max (aY a) (aY b):=by
 induction a with
 | nil=>simp[aY]
 | cons x a ih=>simp only[List.cons_append,aY,ih];omega
theorem jP {α:Type}{f:α->List AV}(hf:∀a,aY (f a)=0):∀l:List α,aY (arr f l)=0
 | []=>rfl
 | a::l=>by
  have:=jP hf l;simp only[arr,List.flatMap_cons,Ca,hf]at this ⊢;omega
theorem Sl.fr {α:Type}{f:α->List AV}(hf:∀a,aY (f a)=0){h:ab}{v:AV}{l:List α}(hs:Sl f h v l):∃S cap,Fr h S v (.vs (arr f l) l.length cap):=by
 rcases hs with ⟨rfl,rfl⟩|⟨cap,rfl⟩|⟨b,off,esz,cap,c,e,rfl,h1,h2⟩
 . exact⟨[],none,.nil (by simp)⟩
 . exact⟨[],cap,.same (by simp only[AV.top];exact jP hf l)⟩
 . refine⟨[b],cap,.sl (List.mem_singleton.2 rfl) h1 h2 rfl fun i x y hx hy=>?_⟩;rw[hx]at hy;cases hy;exact .same (by have:=dS (n:=0) (Nat.le_of_eq (jP hf l)) i x hx;omega)
end Go.Ab
namespace Go.Ab
variable {t i j n b:Nat} {l:List aw} {pe a new:List AV} {lo:List (Nat×AV)} {hp h' h:ab} {df wr w':List Nat} {v:AV} {Q:ah->Prop} {op:aB} {ag:Bool} {x y:an}
variable {M:au}
theorem Kp {c a b:an}(hc:(St.mk pe lo hp df).aa c=some (.bool true))(ha:(St.mk pe lo hp df).aa a=some v)
 (h:WO M l ⟨⟨pe,(t,v)::lo,hp,df⟩,wr⟩ Q):WO M (⟨.l t,.pick c a b,none⟩::l) ⟨⟨pe,lo,hp,df⟩,wr⟩ Q:=
 WO.op (WP.pure (v:=v) rfl (by simp only[aC,hc,ha];cases (St.mk pe lo hp df).aa b <;> simp) h)
theorem Kq {c a b:an}(hc:(St.mk pe lo hp df).aa c=some (.bool false))(hb:(St.mk pe lo hp df).aa b=some v)
 (h:WO M l ⟨⟨pe,(t,v)::lo,hp,df⟩,wr⟩ Q):WO M (⟨.l t,.pick c a b,none⟩::l) ⟨⟨pe,lo,hp,df⟩,wr⟩ Q:=
 WO.op (WP.pure (v:=v) rfl (by simp only[aC,hc,hb];cases (St.mk pe lo hp df).aa a <;> simp) h)
theorem Kr (hv:aP ⟨pe,lo,hp,df⟩ op hp=some ⟨v,h',w'⟩)(hh:op.aI=true)(hc:op.jO=true)
 (h:WO M l ⟨⟨pe,(t,v)::lo,h',df⟩,w'++wr⟩ Q):WO M (⟨.l t,op,none⟩::l) ⟨⟨pe,lo,hp,df⟩,wr⟩ Q:=WO.op (WP.heap hh hc hv h)
theorem Ko (hv:aP ⟨pe,lo,hp,df⟩ op hp=some ⟨v,h',w'⟩)(hh:op.aI=true)(hc:op.jO=true)
 (h:WO M l ⟨⟨pe.set i v,lo,h',df⟩,w'++wr⟩ Q):WO M (⟨.p i,op,none⟩::l) ⟨⟨pe,lo,hp,df⟩,wr⟩ Q:=WO.op (WP.heap hh hc hv h)
theorem Kt (hv:aP ⟨pe,lo,hp,df⟩ op hp=some ⟨v,h',w'⟩)(hh:op.aI=true)(hc:op.jO=true)
 (h:WO M l ⟨⟨pe,lo,h',df⟩,w'++wr⟩ Q):WO M (⟨.no,op,none⟩::l) ⟨⟨pe,lo,hp,df⟩,wr⟩ Q:=WO.op (WP.heap hh hc hv h)
theorem iS {α:Type}{f:α->List AV}(a:α)(l:List α):arr f (a::l)=f a++arr f l:=rfl
theorem tW {α:Type}{f:α->List AV}(l m:List α):arr f (l++m)=arr f l++arr f m:=by simp[arr]
section
variable {α:Type} {f:α->List AV} {esz:Nat}
theorem mY (hf:∀a,(f a).length=esz):∀l:List α,(arr f l).length=l.length*esz
 | []=>by simp[arr]
 | a::l=>by rw[iS,List.length_append,hf,mY hf l,List.length_cons,Nat.add_mul];omega
theorem pM (hf:∀a,(f a).length=esz):∀(l:List α) (i:Nat),(arr f l).drop (i*esz)=arr f (l.drop i)
 | [],i=>by simp[arr]
 | a::l,0=>by simp
 | a::l,i+1=>by
  rw[iS,List.drop_append,show (i+1)*esz=esz+i*esz from by rw[Nat.add_mul];omega,hf,Nat.add_sub_cancel_left,pM hf l i,List.drop_succ_cons,List.drop_eq_nil_of_le (by rw[hf];omega)];rfl
theorem tX (hf:∀a,(f a).length=esz):∀(l:List α) (i:Nat),(arr f l).take (i*esz)=arr f (l.take i)
 | [],i=>by simp[arr]
 | a::l,0=>by simp[arr]
 | a::l,i+1=>by
  rw[iS,List.take_append,show (i+1)*esz=esz+i*esz from by rw[Nat.add_mul];omega,hf,Nat.add_sub_cancel_left,tX hf l i,List.take_succ_cons,List.take_of_length_le (by rw[hf];omega)];rfl
theorem tY (hf:∀a,(f a).length=esz){l:List α}{i n:Nat}(h:i+n<=l.length):cut (arr f l) (i*esz) (n*esz)=some (arr f ((l.drop i).take n)):=by
 simp only[cut,pM hf,tX hf,mY hf];rw[if_pos (by rw[List.length_take,List.length_drop];congr 1;omega)]
theorem Cb [ia:Inhabited α](hf:∀a,(f a).length=esz){l:List α}{i:Nat}(h:i<l.length):∃r,(arr f l).drop (i*esz)=f l[i]! ++ r:=by
 refine⟨arr f (l.drop (i+1)),?_⟩;rw[pM hf,List.drop_eq_getElem_cons h,iS,getElem!_pos l i h]
theorem Cc {r:List AV}(h:j+n<=a.length)(hn:ag=true\/0<n):partOf (a++r) j n ag=partOf a j n ag:=by
 cases ag with
 | true => 
   simp only[partOf,if_true,cut];rw[List.drop_append,List.take_append_of_le_length (by simp;omega)]
 | false=>
  simp only[partOf,Bool.false_eq_true,if_false];have:0<n:=by simpa using hn
  rw[List.getElem?_append_left (by omega)]
theorem tZ:partOf (a.drop j) 0 n ag=partOf a j n ag:=by
 cases ag <;> simp[partOf,cut]
theorem Cd [ia:Inhabited α](hf:∀a,(f a).length=esz){l:List α}{i j n:Nat}{ag:Bool}(h:i<l.length)(hj:j+n<=esz)(hn:0<n):partOf ((arr f l).drop (i*esz)) j n ag=partOf (f l[i]!) j n ag:=by
 obtain⟨r,hr⟩:=Cb hf h;rw[hr,Cc (by rw[hf];exact hj) (.inr hn)]
theorem Ce {b r:List AV}(h:j+new.length<=b.length):overwrite (a++(b++r)) (a.length+j) new=a++(overwrite b j new++r):=by
 have h1:(a++(b++r)).take (a.length+j)=a++b.take j:=by
  rw[List.take_append,List.take_of_length_le (by omega),Nat.add_sub_cancel_left,List.take_append_of_le_length (by omega)]
 have h2:(a++(b++r)).drop (a.length+j+new.length)=b.drop (j+new.length)++r:=by
  rw[List.drop_append,List.drop_eq_nil_of_le (by omega),List.nil_append,show a.length+j+new.length-a.length=j+new.length from by omega,List.drop_append_of_le_length h]
 simp only[overwrite,h1,h2,List.append_assoc]
theorem Cf [ia:Inhabited α](hf:∀a,(f a).length=esz){l:List α}{i j:Nat}{new:List AV}{a:α}(h:i<l.length)(hj:j+new.length<=esz)(ha:overwrite (f l[i]!) j new=f a):overwrite (arr f l) (i*esz+j) new=arr f (l.set i a):=by
 have e:arr f l=arr f (l.take i)++(f l[i]! ++ arr f (l.drop (i+1))):=by
  rw[←iS,←tW,getElem!_pos l i h,←List.drop_eq_getElem_cons h,List.take_append_drop]
 have hl:(arr f (l.take i)).length=i*esz:=by rw[mY hf,List.length_take];congr 1;omega
 rw[e,←hl,Ce (by rw[hf];exact hj),ha,←iS,←tW,List.set_eq_take_append_cons_drop,if_pos h]
end
variable {α:Type} {ia:Inhabited α} {f:α->List AV} {esz:Nat}
theorem Lp {c:List α}(hx:(St.mk pe lo hp df).aa x=some (.vp ((arr f c).drop (i*esz))))
 (hf:∀a,(f a).length=esz) (hi:i<c.length) (hn:0<n/\0+n<=esz) (hv:partOf (f c[i]!) 0 n ag=some v) (h:WO M l ⟨⟨pe,(t,v)::lo,hp,df⟩,wr⟩ Q):WO M (⟨.l t,.load n ag x,none⟩::l) ⟨⟨pe,lo,hp,df⟩,wr⟩ Q:=
 Kr (v:=v) (h':=hp) (w':=[]) (by simp only[aP,hx,Option.bind_some,dO,Cd hf hi hn.2 hn.1,hv]) rfl rfl h
theorem WO.Cg {c:List α}{a:α}{e:TypeId}(hx:(St.mk pe lo hp df).aa x=some (.ptr b (0+i*esz+j)))(hy:((St.mk pe lo hp df).aa y).bind AV.cells=some new)(hb:hp.at b=some (.cells (arr f c) e))
 (hf:∀a,(f a).length=esz) (hi:i<c.length) (hn:new.length=n/\j+n<=esz/\new.all dg=true) (ha:overwrite (f c[i]!) j new=f a) (h:WO M l ⟨⟨pe,lo,hp.put b (some (.cells (arr f (c.set i a)) e)),df⟩,b::wr⟩ Q):WO M (⟨.no,.store n x y,none⟩::l) ⟨⟨pe,lo,hp,df⟩,wr⟩ Q:=by
 obtain⟨h1,h2,h3⟩:=hn;have hle:i*esz+esz<=c.length*esz:=by rw[←Nat.succ_mul];exact Nat.mul_le_mul_right _ hi
 refine Kt (v:=aW) (h':=hp.put b (some (.cells (arr f (c.set i a)) e))) (w':=[b]) ?_ rfl rfl h;simp only[aP,hx,hy,hb,Nat.zero_add];rw[if_pos ⟨h1,by rw[mY hf];omega,h3⟩,Cf hf hi (by omega) ha]
theorem LA {c:List α}{a:α}{e:TypeId}(hx:(St.mk pe lo hp df).aa x=some (.ptr b (0+i*esz)))(hy:((St.mk pe lo hp df).aa y).bind AV.cells=some new)(hb:hp.at b=some (.cells (arr f c) e))
 (hf:∀a,(f a).length=esz) (hi:i<c.length) (hn:new.length=n/\0+n<=esz/\new.all dg=true) (ha:overwrite (f c[i]!) 0 new=f a) (h:WO M l ⟨⟨pe,lo,hp.put b (some (.cells (arr f (c.set i a)) e)),df⟩,b::wr⟩ Q):WO M (⟨.no,.store n x y,none⟩::l) ⟨⟨pe,lo,hp,df⟩,wr⟩ Q:=
 WO.Cg (j:=0) hx hy hb hf hi hn ha h
theorem WO.Ch {esz0 bytes:Nat}{elem:TypeId}{zero:List AV}{k k':IntKind}{a b:Int}(hx:(St.mk pe lo hp df).aa x=some (.int k a))(hy:(St.mk pe lo hp df).aa y=some (.int k' b))
 (hc:0<=a/\a<=b/\b.toNat*bytes<=fv/\b<=2^46/\zero.length=esz0) (h:WO M l ⟨⟨pe,(t,.sl hp.length 0 a.toNat esz0 (some b.toNat))::lo,hp++[some (.cells (dW zero b.toNat) elem)],df⟩,wr⟩ Q) :
 WO M (⟨.l t,.fV elem esz0 bytes zero x y,none⟩::l) ⟨⟨pe,lo,hp,df⟩,wr⟩ Q:=
 Kr (v:=.sl hp.length 0 a.toNat esz0 (some b.toNat)) (h':=hp++[some (.cells (dW zero b.toNat) elem)]) (w':=[]) (by simp only[aP,hx,hy,Option.bind_some,kz];rw[if_pos hc]) rfl rfl h
theorem na {o:aK}(hb:h.at b=some o):b<h.length:=by
 unfold ab.at at hb;cases hz:h[b]? with
 | none=>rw[hz]at hb;cases hb
 | some z=>exact(List.getElem?_eq_some_iff.1 hz).1
theorem dt {x:Option aK}:ab.at (h++[x]) h.length=x:=by simp[ab.at]
theorem aG {l:ab}{o:aK}(hb:h.at b=some o):ab.at (h++l) b=some o:=by
 have:=na hb;simp only[ab.at]at hb ⊢;rw[List.getElem?_append_left this];exact hb
theorem dG {o:Option aK}(hb:b<h.length):ab.at (h.put b o) b=o:=by
 simp[ab.at,ab.put,hb]
theorem iT {o:Option aK}:(h.put b o).length=h.length:=by simp[ab.put]
def aB.ro:aB->Bool
 | .load .. => true
 | op=>!op.aI
def bf.clean (d:bf):Prop:=d.wr=[]/\d.hi=d.lo
theorem pN {T:List Nat}:ab.at (cL T h 0) b=if T.contains b then h.at b else none:=by
 unfold ab.at;rw[iK];cases h[b]? <;> simp
theorem pO {T:List Nat}:cP [] h (cL T h 0) 0=h:=by
 apply List.ext_getElem?;intro b;rw[gi _ _ _ _ _ (by rw[dF];exact Nat.le_refl _)];split
 . simp
 . rename_i hb;rw[List.getElem?_eq_none (by rw[dF];omega),List.getElem?_eq_none (by omega)]
def jQ:Option AV->List Nat
 | some (.ptr b _)=>[b]
 | some (.sl b _ _ _ _)=>[b]
 | some (.map b)=>[b]
 | _=>[]
theorem ub {s:St}:gA s (.load n ag x)=some (jQ (s.aa x)):=by
 simp only[gA];cases s.aa x with
 | none=>rfl
 | some a=>cases a <;> rfl
theorem uc {a:AV}:dO (cL (jQ (some a)) h 0) a=dO h a:=by
 cases a <;> first|rfl|skip
 simp[dO,jQ,pN]
theorem nb {call:ck}{inv:cI}{s:St}{a:AV}(ha:s.aa x=some a)(hp':ab):aQ call inv { s with hp:=hp' } (.load n ag x)=(dO hp' a).bind fun l=>(partOf l 0 n ag).map fun v=>⟨v,hp',[]⟩:=by
 have hx':St.aa { s with hp:=hp' } x=some a:=by rw[←ha];cases x <;> rfl
 simp only[aQ,aB.aI,if_true,aP,hx',Option.bind_some];cases dO hp' a with
 | none=>rfl
 | some l=>simp only[Option.bind_some];cases partOf l 0 n ag <;> rfl
theorem nc {call:ck}{inv:cI}:∀(l:List (aw×List Nat)) (s:ah) (ds:List bf),l.all (fun p=>p.1.op.ro)=true->(∀d∈ds,d.clean)->cm call inv l s ds=cX call inv (l.map (·.1)) s
 | [],s,ds,_,_=>rfl
 | (o,un)::l,s,ds,hl,hd=>by
  simp only[List.all_cons,Bool.and_eq_true]at hl;obtain⟨ho,hl⟩:=hl;have hcl:∀t,(∀d∈ds++[(⟨t,[],s.s.hp.length,s.s.hp.length⟩:bf)],d.clean):=fun t d hm=>by
   rcases List.mem_append.1 hm with h1|h1
   . exact hd d h1
   . simp only[List.mem_singleton]at h1;subst h1;exact⟨rfl,rfl⟩
  simp only[cm,List.map_cons,cX];split
  . by_cases hh:o.op.aI=true
    . have hop:∃n ag x,o.op = .load n ag x:=by
       cases hq:o.op <;> rw[hq]at ho hh <;> first|(cases hh;done)|(cases ho;done)|exact⟨_,_,_,rfl⟩
      obtain⟨n,ag,x,hop⟩:=hop;have hU:un.flatMap (fun j=>(ds[j]?).elim [] bf.own)=[]:=by
       rw[List.flatMap_eq_nil_iff];intro j _;cases hj:ds[j]? with
       | none=>rfl
       | some d=>
        obtain⟨c1,c2⟩:=hd d (List.mem_of_getElem? hj);simp[bf.own,c1,c2]
      simp only[hop,aB.aI,if_true,ub,hU];have hdis:∀T,eC T []=true:=fun T=>by simp[eC]
      simp only[hdis,if_true];cases ha:s.s.aa x with
      | none=>
       have e1:∀hp',aQ call inv { s.s with hp:=hp' } (.load n ag x)=none:=fun hp'=>by
        have hx':St.aa { s.s with hp:=hp' } x=none:=by rw[←ha];cases x <;> rfl
        simp only[aQ,aB.aI,if_true,aP,hx',Option.bind_none]
       rw[e1,show aQ call inv s.s (.load n ag x)=none from e1 s.s.hp]
      | some a=>
       have e2:=nb (call:=call) (inv:=inv) (n:=n) (ag:=ag) ha s.s.hp;rw[nb ha,uc,show aQ call inv s.s (.load n ag x)=_ from e2];cases dO s.s.hp a with
       | none=>rfl
       | some c=>
        simp only[Option.bind_some];cases partOf c 0 n ag with
        | none=>rfl
        | some v=>
         simp only[Option.map_some,List.all_nil,List.isEmpty_nil,Bool.true_or,Bool.and_true,if_true,pO,List.nil_append];have:=nc (call:=call) (inv:=inv) l ⟨{ s.s.put o.dst v with hp:=s.s.hp },s.wr⟩ (ds++[⟨some (jQ (some a)),[],s.s.hp.length,s.s.hp.length⟩]) hl (hcl _);rw[←this];simp[dF]
    . have hh':o.op.aI=false:=by simpa using hh
      rw[if_neg hh];have e2:aQ call inv s.s o.op=(aC s.s o.op).map fun v=>⟨v,s.s.hp,[]⟩:=by
       cases hq:o.op <;> rw[hq]at hh' <;> first|(cases hh';done)|simp only[aQ,aB.aI,Bool.false_eq_true,if_false]
      rw[e2];cases aC s.s o.op with
      | none=>rfl
      | some v=>
       simp only[Option.map_some,List.nil_append];have hput:({ s.s.put o.dst v with hp:=s.s.hp }:St)=s.s.put o.dst v:=by cases o.dst <;> rfl
       rw[hput];exact nc l _ _ hl (hcl _)
  . exact nc l _ _ hl (hcl _)
  . rfl
theorem KV {l:List (aw×List Nat)}{Q:Ex->ah->Prop}(hl:l.all (fun p=>p.1.op.ro)=true)(h:WO M (l.map (·.1)) ⟨⟨pe,[],hp,df⟩,wr⟩ (Q .normal)):W M (.draw l) ⟨⟨pe,lo,hp,df⟩,wr⟩ Q:=by
 obtain⟨⟨n,s',h1,h2⟩⟩:=h;exact KE ⟨⟨n,s',by rw[nc l _ _ hl (by simp)];exact h1,h2⟩⟩
end Go.Ab
namespace Go.Ab
variable {t b n:Nat} {x y:an} {l:List (aw×List Nat)} {pe:List AV} {lo:List (Nat×AV)} {hp:ab} {df wr un T:List Nat} {Q:ah->Prop} {s:ah} {ds:List bf} {d:cN}
variable {M:au}
theorem LB {l:List aw}{a b:Int}(hx:(St.mk pe lo hp df).aa x=some (.int .i64 a))(hy:(St.mk pe lo hp df).aa y=some (.int .i64 b))
 (ha:0<=a/\0<b) (hr:a<9223372036854775808) (h:0<=a/b->a/b<=a->WO M l ⟨⟨pe,(t,.int .i64 (a/b))::lo,hp,df⟩,wr⟩ Q):WO M (⟨.l t,.bin .quo x y,none⟩::l) ⟨⟨pe,lo,hp,df⟩,wr⟩ Q:=by
 refine WO.quo hx hy ha.2 ⟨by omega,hr⟩ ?_;rw[Int.tdiv_eq_ediv_of_nonneg ha.1];exact h (Int.ediv_nonneg ha.1 (Int.le_of_lt ha.2)) (Int.ediv_le_self _ ha.1)
theorem Lk {l:List aw}{k:IntKind}{a b:Int}(hx:(St.mk pe lo hp df).aa x=some (.int k a))(hy:(St.mk pe lo hp df).aa y=some (.int k b))
 (ha:0<=a/\0<b) (h:0<=a%b->a%b<b->WO M l ⟨⟨pe,(t,.int k (a%b))::lo,hp,df⟩,wr⟩ Q):WO M (⟨.l t,.bin .rem x y,none⟩::l) ⟨⟨pe,lo,hp,df⟩,wr⟩ Q:=by
 refine WO.rem hx hy (by omega) ?_;rw[Int.tmod_eq_emod_of_nonneg ha.1];exact h (Int.emod_nonneg _ (by omega)) (Int.emod_lt_of_pos _ ha.2)
theorem Km {f:an}{args:List an}{l:List aw}{h':ab}{wr':List Nat}{g:FuncId}{fi ca as:List AV}{v:AV}(hf:(St.mk pe lo hp df).aa f=some (.fn (.func g) fi ca))(ha:(St.mk pe lo hp df).bp args=some as)
 (he:M.ext g (fi++as++ca) hp=some ⟨v,h',wr'⟩) (h:WO M l ⟨⟨pe,(t,v)::lo,h',df⟩,wr'++wr⟩ Q):WO M (⟨.l t,.call f args,none⟩::l) ⟨⟨pe,lo,hp,df⟩,wr⟩ Q:=WO.pJ hf ha he h
theorem KH (h:Q s):WD M [] s ds Q:=⟨⟨0,s,rfl,h⟩⟩
def bf.key (d:bf):Option (List Nat)×List Nat:=(d.fX,d.own)
theorem Ci {α:Type}{l:List α}{f g:α->Bool}(h:∀x,f x=g x):l.all f=l.all g:=by rw[show f=g from funext h]
theorem ue {call:ck}{inv:cI}:∀(l:List (aw×List Nat)) (s:ah) (ds ds':List bf),ds.map bf.key=ds'.map bf.key->cm call inv l s ds=cm call inv l s ds'
 | [],_,_,_,_=>rfl
 | (o,un)::l,s,ds,ds',hk=>by
  have h1:∀j:Nat,(ds[j]?).elim [] bf.own=(ds'[j]?).elim [] bf.own:=fun j=>by
   have:=congrArg (fun x:List (Option (List Nat)×List Nat)=>x[j]?) hk;simp only[List.getElem?_map]at this;cases h3:ds[j]? <;> cases h4:ds'[j]? <;> rw[h3,h4]at this <;> simp[bf.key]at this ⊢;exact this.2
  have h2:∀j:Nat,(ds[j]?).map bf.fX=(ds'[j]?).map bf.fX:=fun j=>by
   have:=congrArg (fun x:List (Option (List Nat)×List Nat)=>x[j]?) hk;simp only[List.getElem?_map]at this;cases h3:ds[j]? <;> cases h4:ds'[j]? <;> rw[h3,h4]at this <;> simp[bf.key]at this ⊢;exact this.1
  have h7:(fun j:Nat=>(ds[j]?).elim [] bf.own)=(fun j:Nat=>(ds'[j]?).elim [] bf.own):=funext h1;have h8:∀d s,cm call inv l s (ds++[d])=cm call inv l s (ds'++[d]):=fun d s=>ue l s _ _ (by simp[hk])
  unfold cm;simp only[h7,h8];cases cJ s.s o.guard with
  | none=>rfl
  | some t=>
   cases t with
   | false=>rfl
   | true=>
    refine ite_congr rfl (fun _=>ite_congr rfl (fun _=>?_) (fun _=>rfl)) (fun _=>rfl);split
    . refine ite_congr (congrArg (fun b=>b=true) (congrArg (fun b=>_ && b) (congrArg (fun b=>_ || b) (Ci ?_)))) (fun _=>rfl) (fun _=>rfl);intro j;have:=h2 j;cases h3:ds[j]? <;> cases h4:ds'[j]? <;> rw[h3,h4]at this <;> simp at this ⊢;rw[this]
    . rfl
theorem WD.norm {d d':bf}(hk:d.key=d'.key)(h:WD M l s (ds++[d]) Q):WD M l s (ds++[d']) Q:=by
 obtain⟨⟨n,s',h1,h2⟩⟩:=h;exact⟨⟨n,s',by rw[ue l s (ds++[d']) (ds++[d]) (by simp[hk])];exact h1,h2⟩⟩
theorem WD.Cj {o:aw}(hh:o.op.aI=false)(h:WO M [o] s fun s'=>WD M l s' (ds++[⟨some [],[],s.s.hp.length,s.s.hp.length⟩]) Q):WD M ((o,un)::l) s ds Q:=by
 obtain⟨⟨n,s1,h1,⟨⟨m,s',h2,h3⟩⟩⟩⟩:=h;refine⟨⟨max n m,s',?_,h3⟩⟩;have h1':=gI (inv:=M.inv) (fB (Nat.le_max_left n m)) _ _ _ h1;have h2':=gj (inv:=M.inv) (fB (Nat.le_max_right n m)) _ _ _ _ h2;simp only[cX]at h1';have e2:aQ (M.call (max n m)) M.inv s.s o.op=(aC s.s o.op).map fun v=>⟨v,s.s.hp,[]⟩:=by
  cases hq:o.op <;> rw[hq]at hh <;> first|(cases hh;done)|simp only[aQ,aB.aI,Bool.false_eq_true,if_false]
 rw[e2]at h1';cases hw:cJ s.s o.guard with
 | none=>rw[hw]at h1';cases h1'
 | some t=>
  rw[hw]at h1';cases t with
  | true=>
   simp only[cm,hw,hh,Bool.false_eq_true,if_false];cases hp:aC s.s o.op with
   | none=>rw[hp]at h1';cases h1'
   | some v=>
    rw[hp]at h1';simp only[Option.map_some,List.nil_append,Option.some.injEq]at h1';have hput:({ s.s.put o.dst v with hp:=s.s.hp }:St)=s.s.put o.dst v:=by cases o.dst <;> rfl
    rw[hput]at h1';subst h1';exact h2'
  | false=>
   simp only[Option.some.injEq]at h1';simp only[cm,hw];subst h1';exact h2'
theorem Ck {h:ab}{o:Option aK}:cP [b] h (ab.put (cL T h 0) b o) 0=ab.put h b o:=by
 apply List.ext_getElem?;intro c;rw[gi _ _ _ _ _ (by simp[ab.put,dF])];simp only[ab.put,List.getElem?_set,dF,iK];by_cases hc:c<h.length
 . rw[if_pos hc];by_cases e:b=c
   . subst e;simp[hc]
   . have:c≠b:=fun x=>e x.symm
     simp[e,this]
 . rw[if_neg hc,List.getElem?_eq_none (Nat.le_of_not_lt hc)];by_cases e:b=c
   . subst e;simp[hc]
   . simp[e]
theorem WD.Cl {ag:Bool}{a:AV}(ha:s.s.aa x=some a)(hT:jQ (some a)=T)(hd:eC T (un.flatMap fun j=>(ds[j]?).elim [] bf.own)=true)
 (h:WO M [⟨d,.load n ag x,none⟩] s fun s'=>WD M l s' (ds++[⟨some T,[],s.s.hp.length,s.s.hp.length⟩]) Q):WD M ((⟨d,.load n ag x,none⟩,un)::l) s ds Q:=by
 obtain⟨⟨k,s1,h1,⟨⟨m,s',h2,h3⟩⟩⟩⟩:=h;refine⟨⟨max k m,s',?_,h3⟩⟩;have h1':=gI (inv:=M.inv) (fB (Nat.le_max_left k m)) _ _ _ h1;have h2':=gj (inv:=M.inv) (fB (Nat.le_max_right k m)) _ _ _ _ h2;simp only[cX,cJ]at h1';subst hT;simp only[cm,cJ,aB.aI,if_true,ub,ha,hd];rw[nb ha,uc];rw[show aQ (M.call (max k m)) M.inv s.s (.load n ag x)=_ from nb ha s.s.hp]at h1';cases hr:dO s.s.hp a with
 | none=>rw[hr]at h1';cases h1'
 | some c=>
  rw[hr]at h1';simp only[Option.bind_some]at h1' ⊢;cases hp:partOf c 0 n ag with
  | none=>rw[hp]at h1';cases h1'
  | some v=>
   rw[hp]at h1';simp only[Option.map_some,List.nil_append,Option.some.injEq]at h1';simp only[Option.map_some,List.all_nil,List.isEmpty_nil,Bool.true_or,Bool.and_true,if_true,pO,List.nil_append,dF];subst h1';exact h2'
theorem WD.Cm {off:Nat}(ha:s.s.aa x=some (.ptr b off))(hd:eC [b] (un.flatMap fun j=>(ds[j]?).elim [] bf.own)=true)
 (hu:un.all (fun j=>match ds[j]? with|some d=>(match d.fX with|some T=>eC [b] T|none=>false)|none=>false)=true)
 (h:WO M [⟨.no,.store n x y,none⟩] s fun s'=>WD M l s' (ds++[⟨some [b],[b],s.s.hp.length,s.s.hp.length⟩]) Q):WD M ((⟨.no,.store n x y,none⟩,un)::l) s ds Q:=by
 obtain⟨⟨k,s1,h1,⟨⟨m,s',h2,h3⟩⟩⟩⟩:=h;refine⟨⟨max k m,s',?_,h3⟩⟩;have h1':=gI (inv:=M.inv) (fB (Nat.le_max_left k m)) _ _ _ h1;have h2':=gj (inv:=M.inv) (fB (Nat.le_max_right k m)) _ _ _ _ h2;simp only[cX,cJ,aQ,aB.aI,if_true,aP,ha]at h1';have hx':∀hp',St.aa { s.s with hp:=hp' } x=some (.ptr b off):=fun hp'=>by rw[←ha];cases x <;> rfl
 have hy':∀hp',St.aa { s.s with hp:=hp' } y=s.s.aa y:=fun hp'=>by cases y <;> rfl
 have hk:ab.at (cL [b] s.s.hp 0) b=s.s.hp.at b:=by simp[pN]
 simp only[cm,cJ,aB.aI,if_true,gA,ha,hd,aQ,aP,hx',hy'];cases hy:s.s.aa y with
 | none=>rw[hy]at h1';cases h1'
 | some yv=>
  rw[hy]at h1';simp only[Option.bind_some]at h1' ⊢;cases hc:yv.cells with
  | none=>rw[hc]at h1';cases h1'
  | some new=>
   rw[hc]at h1';simp only at h1' ⊢;cases hb:s.s.hp.at b with
   | none=>rw[hb]at h1';cases h1'
   | some o=>
    rw[hb]at h1';cases o with
    | cells c e=>
     simp only at h1' ⊢;by_cases hcond:new.length=n/\off+n<=c.length/\new.all dg=true
     . simp only[if_pos hcond,Option.some.injEq]at h1';simp only[if_pos hcond,List.all_cons,List.all_nil,Bool.and_true,List.isEmpty_cons,Bool.false_or,hk,hb,Option.isSome_some,Ck,iT,dF];subst h1';rw[if_pos (show _=true by rw[Bool.true_and];exact hu)];exact h2'
     . simp only[if_neg hcond]at h1';cases h1'
    | map _=>cases h1'
    | iter _ _=>cases h1'
    | cO=>cases h1'
    | hole=>cases h1'
    | loop _ _ _ _ _ _=>cases h1'
theorem WD.uf {f:an}{args:List an}{g:FuncId}{fi ca as:List AV}{v:AV}{hn:ab}(hf:s.s.aa f=some (.fn (.func g) fi ca))(ha:s.s.bp args=some as)
 (hU:(un.flatMap fun j=>(ds[j]?).elim [] bf.own)=[]) (he:M.ext g (fi++as++ca) s.s.hp=some ⟨v,s.s.hp++hn,[]⟩)
 (h:WD M l ⟨{ s.s.put d v with hp:=s.s.hp++hn },s.wr⟩ (ds++[⟨none,[],s.s.hp.length,s.s.hp.length+hn.length⟩]) Q):WD M ((⟨d,.call f args,none⟩,un)::l) s ds Q:=by
 obtain⟨⟨m,s',h2,h3⟩⟩:=h;refine⟨⟨m,s',?_,h3⟩⟩;have hm:mask s.s.hp []=s.s.hp:=rfl;have hcall:aQ (M.call m) M.inv { s.s with hp:=s.s.hp } (.call f args)=some ⟨v,s.s.hp++hn,[]⟩:=by
  simp only[aQ,hf,ha,ef,he]
 have hmerge:cP [] s.s.hp (s.s.hp++hn) 0=s.s.hp++hn:=by
  apply List.ext_getElem?;intro c;rw[gi _ _ _ _ _ (by simp)];split
  . rename_i hc;simp[List.getElem?_append_left hc]
  . rfl
 simp only[cm,cJ,aB.aI,if_true,gA,hU,hm];rw[hcall];simp only[List.all_nil,List.isEmpty_nil,Bool.true_or,Bool.and_true,if_true,hmerge,List.nil_append,List.length_append];exact h2
theorem kZ {t:Option (List Nat)}{w:List Nat}:bf.key ⟨t,w,n,n⟩=bf.key ⟨t,w,0,0⟩:=by simp[bf.key,bf.own]
theorem KI {o:aw}(hh:o.op.aI=false)(h:WO M [o] s fun s'=>WD M l s' (ds++[⟨some [],[],0,0⟩]) Q):WD M ((o,un)::l) s ds Q:=
 WD.Cj hh (h.mono fun _ h=>h.norm kZ.symm)
theorem KK {ag:Bool}{a:AV}(ha:s.s.aa x=some a)(hT:jQ (some a)=T)(hd:eC T (un.flatMap fun j=>(ds[j]?).elim [] bf.own)=true)
 (h:WO M [⟨d,.load n ag x,none⟩] s fun s'=>WD M l s' (ds++[⟨some T,[],0,0⟩]) Q):WD M ((⟨d,.load n ag x,none⟩,un)::l) s ds Q:=
 WD.Cl ha hT hd (h.mono fun _ h=>h.norm kZ.symm)
theorem Lf {off:Nat}(ha:s.s.aa x=some (.ptr b off))(hd:eC [b] (un.flatMap fun j=>(ds[j]?).elim [] bf.own)=true)
 (hu:un.all (fun j=>match ds[j]? with|some d=>(match d.fX with|some T=>eC [b] T|none=>false)|none=>false)=true)
 (h:WO M [⟨.no,.store n x y,none⟩] s fun s'=>WD M l s' (ds++[⟨some [b],[b],0,0⟩]) Q):WD M ((⟨.no,.store n x y,none⟩,un)::l) s ds Q:=
 WD.Cm ha hd hu (h.mono fun _ h=>h.norm kZ.symm)
end Go.Ab
namespace Go.Ab
variable {t b:Nat} {op:aB} {x f i:an} {want ok:Bool} {l:List (aw×List Nat)} {pe fi ca as:List AV} {lo:List (Nat×AV)} {hp h:ab} {df wr un:List Nat} {Q:ah->Prop} {args:List an} {g:FuncId} {kt:eo} {zero v:AV} {d:cN} {s:ah} {ds:List bf}
variable {M:au}
theorem KS {l:List aw}(hx:(St.mk pe lo hp df).aa x=some (.aq []))(h:WO M l ⟨⟨pe,(t,aW)::lo,hp,df⟩,wr⟩ Q):WO M (⟨.l t,op,some (x,want)⟩::l) ⟨⟨pe,lo,hp,df⟩,wr⟩ Q:=WO.BY hx h
theorem KW {l:List aw}{h':ab}{wr':List Nat}{b:Bool}(hf:(St.mk pe lo hp df).aa f=some (.fn (.func g) fi ca))(ha:(St.mk pe lo hp df).bp args=some as)
 (he:M.ext g (fi++as++ca) hp=some ⟨.bool b,h',wr'⟩) (h1:b=true->WO M l ⟨⟨pe,(t,.bool true)::lo,h',df⟩,wr'++wr⟩ Q) (h2:b=false->WO M l ⟨⟨pe,(t,.bool false)::lo,h',df⟩,wr'++wr⟩ Q):WO M (⟨.l t,.call f args,none⟩::l) ⟨⟨pe,lo,hp,df⟩,wr⟩ Q:=by
 cases b with
 | true=>exact WO.pJ hf ha he (h1 rfl)
 | false=>exact WO.pJ hf ha he (h2 rfl)
theorem Lq {y:an}{l:List aw}{k k' r r':List UInt8}{v v':Int}(hx:(St.mk pe lo hp df).aa x=some (.agg [.str k,.int .i64 v,.str r]))(hy:(St.mk pe lo hp df).aa y=some (.agg [.str k',.int .i64 v',.str r']))
 (h1:(k=k'/\v=v'/\r=r')->WO M l ⟨⟨pe,(t,.bool true)::lo,hp,df⟩,wr⟩ Q) (h2:¬(k=k'/\v=v'/\r=r')->WO M l ⟨⟨pe,(t,.bool false)::lo,hp,df⟩,wr⟩ Q) :
 WO M (⟨.l t,.eq false (.fm [(0,1,false,.str),(1,1,false,.int),(2,1,false,.str)]) x y,none⟩::l) ⟨⟨pe,lo,hp,df⟩,wr⟩ Q:=by
 have e:cd 100 (.fm [(0,1,false,.str),(1,1,false,.int),(2,1,false,.str)]) (.agg [.str k,.int .i64 v,.str r]) (.agg [.str k',.int .i64 v',.str r'])=some (k == k' && (v == v' && r == r')):=by
  cases a:(k == k') <;> cases b:(v == v') <;> cases c:(r == r') <;> simp only[cd,goEq,partOf,List.getElem?_cons_zero,List.getElem?_cons_succ,Bool.false_eq_true,if_false,if_true,a,b,c] <;> rfl
 refine WO.op (WP.pure (v:=.bool (k == k' && (v == v' && r == r'))) rfl (by simp only[aC,hx,hy,e,Bool.false_eq_true,if_false]) ?_);by_cases h:k=k'/\v=v'/\r=r'
 . rw[show (k == k' && (v == v' && r == r'))=true from by simp[h.1,h.2.1,h.2.2]];exact h1 h
 . rw[show (k == k' && (v == v' && r == r'))=false from by simpa using h];exact h2 h
theorem LJ {l:List aw}{kv:AV}{es:List (AV×AV)}(hx:(St.mk pe lo hp df).aa x=some (.map b))(hi:(St.mk pe lo hp df).aa i=some kv)
 (hk:kt.ok kv=true) (hb:hp.at b=some (.map es)) (hf:fu kv es 0=some none) (h:WO M l ⟨⟨pe,(t,if ok then .aq [zero,.bool false] else zero)::lo,hp,df⟩,wr⟩ Q):WO M (⟨.l t,.lookup kt zero x i ok,none⟩::l) ⟨⟨pe,lo,hp,df⟩,wr⟩ Q:=
 Kr (v:=if ok then .aq [zero,.bool false] else zero) (h':=hp) (w':=[]) (by simp only[aP,hx,hi,hk,hb,hf,if_true,Option.isSome_none]) rfl rfl h
theorem WD.pP (hf:s.s.aa f=some (.fn (.func g) fi ca))(ha:s.s.bp args=some as)
 (hU:(un.flatMap fun j=>(ds[j]?).elim [] bf.own)=[]) (he:M.ext g (fi++as++ca) s.s.hp=some ⟨v,s.s.hp,[]⟩)
 (h:WD M l ⟨s.s.put d v,s.wr⟩ (ds++[⟨none,[],0,0⟩]) Q):WD M ((⟨d,.call f args,none⟩,un)::l) s ds Q:=by
 have hp:({ s.s.put d v with hp:=s.s.hp++[] }:St)=s.s.put d v:=by cases d <;> simp[St.put]
 refine WD.uf (hn:=[]) hf ha hU (by simpa using he) ?_;rw[hp];exact h.norm (by simp[bf.key,bf.own])
theorem KL (hf:(St.mk pe lo hp df).aa f=some (.fn (.func g) fi ca))(ha:(St.mk pe lo hp df).bp args=some as)
 (hU:(un.flatMap fun j=>(ds[j]?).elim [] bf.own)=[]) (he:M.ext g (fi++as++ca) hp=some ⟨v,hp,[]⟩)
 (h:WD M l ⟨⟨pe,(t,v)::lo,hp,df⟩,wr⟩ (ds++[⟨none,[],0,0⟩]) Q):WD M ((⟨.l t,.call f args,none⟩,un)::l) ⟨⟨pe,lo,hp,df⟩,wr⟩ ds Q:=WD.pP hf ha hU he h
theorem KT {hn:ab}(hf:(St.mk pe lo hp df).aa f=some (.fn (.func g) fi ca))(ha:(St.mk pe lo hp df).bp args=some as)
 (hU:(un.flatMap fun j=>(ds[j]?).elim [] bf.own)=[]) (he:M.ext g (fi++as++ca) hp=some ⟨v,hp++hn,[]⟩)
 (h:WD M l ⟨⟨pe,(t,v)::lo,hp++hn,df⟩,wr⟩ (ds++[⟨none,[],hp.length,hp.length+hn.length⟩]) Q):WD M ((⟨.l t,.call f args,none⟩,un)::l) ⟨⟨pe,lo,hp,df⟩,wr⟩ ds Q:=WD.uf hf ha hU he h
theorem KY {b:Bool}(hf:(St.mk pe lo hp df).aa f=some (.fn (.func g) fi ca))(ha:(St.mk pe lo hp df).bp args=some as)
 (hU:(un.flatMap fun j=>(ds[j]?).elim [] bf.own)=[]) (he:M.ext g (fi++as++ca) hp=some ⟨.bool b,hp,[]⟩)
 (h1:b=true->WD M l ⟨⟨pe,(t,.bool true)::lo,hp,df⟩,wr⟩ (ds++[⟨none,[],0,0⟩]) Q) (h2:b=false->WD M l ⟨⟨pe,(t,.bool false)::lo,hp,df⟩,wr⟩ (ds++[⟨none,[],0,0⟩]) Q):WD M ((⟨.l t,.call f args,none⟩,un)::l) ⟨⟨pe,lo,hp,df⟩,wr⟩ ds Q:=by
 cases b with
 | true=>exact WD.pP hf ha hU he (h1 rfl)
 | false=>exact WD.pP hf ha hU he (h2 rfl)
theorem WD.take {t:Bool}(hx:s.s.aa x=some (.bool t))(ht:(t == want)=true)(h:WD M ((⟨d,op,none⟩,un)::l) s ds Q):WD M ((⟨d,op,some (x,want)⟩,un)::l) s ds Q:=by
 obtain⟨⟨n,s',h1,h2⟩⟩:=h;refine⟨⟨n,s',?_,h2⟩⟩;simp only[cm,cJ,hx,ht]at h1 ⊢;exact h1
theorem WD.skip (hx:s.s.aa x=some v)(ht:v = .bool !want\/v = .aq [])(h:WD M l ⟨s.s.put d aW,s.wr⟩ (ds++[⟨some [],[],0,0⟩]) Q):WD M ((⟨d,op,some (x,want)⟩,un)::l) s ds Q:=by
 obtain⟨⟨n,s',h1,h2⟩⟩:=h.norm (d':=⟨some [],[],s.s.hp.length,s.s.hp.length⟩) kZ.symm;refine⟨⟨n,s',?_,h2⟩⟩;have hw:cJ s.s (some (x,want))=some false:=by
  rcases ht with rfl|rfl
  . simp only[cJ,hx];cases want <;> rfl
  . simp only[cJ,hx]
 simp only[cm,hw];exact h1
theorem KQ (hx:s.s.aa x=some (.bool false))(h:WD M ((⟨d,op,none⟩,un)::l) s ds Q):WD M ((⟨d,op,some (x,false)⟩,un)::l) s ds Q:=WD.take hx rfl h
theorem KR (hx:(St.mk pe lo hp df).aa x=some (.bool true))(h:WD M l ⟨⟨pe,(t,aW)::lo,hp,df⟩,wr⟩ (ds++[⟨some [],[],0,0⟩]) Q):WD M ((⟨.l t,op,some (x,false)⟩,un)::l) ⟨⟨pe,lo,hp,df⟩,wr⟩ ds Q:=WD.skip hx (.inl rfl) h
theorem Co {call:ck}{inv:cI}{s:St}(ha:s.aa x=some (.map b))(hp':ab)(he:hp'.at b=s.hp.at b) :
 aQ call inv { s with hp:=hp' } (.lookup kt zero x i ok)=(aQ call inv s (.lookup kt zero x i ok)).map fun r=>⟨r.v,hp',[]⟩:=by
 have hx':St.aa { s with hp:=hp' } x=some (.map b):=by rw[←ha];cases x <;> rfl
 have hi':St.aa { s with hp:=hp' } i=s.aa i:=by cases i <;> rfl
 simp only[aQ,aB.aI,if_true,aP,hx',hi',ha];cases s.aa i with
 | none=>rfl
 | some k=>
  simp only;by_cases hk:kt.ok k=true
  . simp only[hk,if_true];rw[he];cases s.hp.at b with
    | none=>rfl
    | some o=>
     cases o with
     | map es=>simp only;cases fu k es 0 <;> rfl
     | _=>rfl
  . simp only[hk];rfl
theorem Lg (ha:s.s.aa x=some (.map b))(hd:eC [b] (un.flatMap fun j=>(ds[j]?).elim [] bf.own)=true)
 (h:WO M [⟨d,.lookup kt zero x i ok,none⟩] s fun s'=>WD M l s' (ds++[⟨some [b],[],0,0⟩]) Q):WD M ((⟨d,.lookup kt zero x i ok,none⟩,un)::l) s ds Q:=by
 obtain⟨⟨k,s1,h1,h2⟩⟩:=h;obtain⟨⟨m,s',h2,h3⟩⟩:=h2.norm (d':=⟨some [b],[],s.s.hp.length,s.s.hp.length⟩) kZ.symm;refine⟨⟨max k m,s',?_,h3⟩⟩;have h1':=gI (inv:=M.inv) (fB (Nat.le_max_left k m)) _ _ _ h1;have h2':=gj (inv:=M.inv) (fB (Nat.le_max_right k m)) _ _ _ _ h2;simp only[cX,cJ]at h1';have hk:ab.at (cL [b] s.s.hp 0) b=s.s.hp.at b:=by simp[pN]
 simp only[cm,cJ,aB.aI,if_true,gA,ha,hd];rw[Co ha _ hk];cases hq:aQ (M.call (max k m)) M.inv s.s (.lookup kt zero x i ok) with
 | none=>rw[hq]at h1';cases h1'
 | some r=>
  rw[hq]at h1';simp only[Option.some.injEq]at h1';have hr:r.h=s.s.hp/\r.wr=[]:=by
   simp only[aQ,aB.aI,if_true,aP,ha]at hq;repeat' (first|(cases hq;done)|split at hq)
   all_goals first|(cases hq;exact⟨rfl,rfl⟩)
  simp only[Option.map_some,List.all_nil,List.isEmpty_nil,Bool.true_or,Bool.and_true,if_true,pO,List.nil_append,dF];rw[hr.1,hr.2]at h1';subst h1';exact h2'
def aB.ug:aB->Bool
 | .alloc .. | .box .. | .fo .. | .fV .. | .fM=>true
 | _=>false
theorem pQ {s:St}{hp':ab}(x:an):St.aa { s with hp:=hp' } x=s.aa x:=by cases x <;> rfl
theorem uh {s:St}{hp':ab}:∀(ps:List (Nat×Nat×an)),St.parts { s with hp:=hp' } ps=s.parts ps
 | []=>rfl
 | (o,n,x)::r=>by simp only[St.parts,pQ,uh r]
theorem Cp {call:ck}{inv:cI}{s:St}(hn:op.ug=true){r:HR}(hq:aQ call inv s op=some r):∃o,r.h=s.hp++[o]/\r.wr=[]/\∀hp':ab,hp'.length=s.hp.length->aQ call inv { s with hp:=hp' } op=some ⟨r.v,hp'++[o],[]⟩:=by
 cases op <;> first|(cases hn;done)|skip
 case alloc e z=>
  simp only[aQ,aB.aI,if_true,aP]at hq;cases hq;exact⟨_,rfl,rfl,fun hp' hl=>by simp only[aQ,aB.aI,if_true,aP,hl]⟩
 case box e n x=>
  simp only[aQ,aB.aI,if_true,aP]at hq;split at hq
  . rename_i c hc;split at hq
    . rename_i hlen;cases hq;exact⟨_,rfl,rfl,fun hp' hl=>by simp only[aQ,aB.aI,if_true,aP,pQ,hc,hl,if_pos hlen]⟩
    . cases hq
  . cases hq
 case fo e len esz z ps=>
  simp only[aQ,aB.aI,if_true,aP]at hq;split at hq
  . rename_i vs hvs;split at hq
    . rename_i c hc;split at hq
      . rename_i hlen;cases hq;exact⟨_,rfl,rfl,fun hp' hl=>by simp only[aQ,aB.aI,if_true,aP,uh,hvs,hc,hl,if_pos hlen]⟩
      . cases hq
    . cases hq
  . cases hq
 case fM=>
  simp only[aQ,aB.aI,if_true,aP]at hq;cases hq;exact⟨_,rfl,rfl,fun hp' hl=>by simp only[aQ,aB.aI,if_true,aP,hl]⟩
 case fV e esz by' z a b=>
  simp only[aQ,aB.aI,if_true,aP]at hq;split at hq
  . rename_i x y hx hy;split at hq
    . rename_i hc;cases hq;exact⟨_,rfl,rfl,fun hp' hl=>by simp only[aQ,aB.aI,if_true,aP,pQ,hx,hy,hl,if_pos hc]⟩
    . cases hq
  . cases hq
theorem KN (hn:op.ug=true)(h:WO M [⟨d,op,none⟩] s fun s'=>WD M l s' (ds++[⟨some [],[],s.s.hp.length,s.s.hp.length+1⟩]) Q):WD M ((⟨d,op,none⟩,un)::l) s ds Q:=by
 obtain⟨⟨k,s1,h1,⟨⟨m,s',h2,h3⟩⟩⟩⟩:=h;refine⟨⟨max k m,s',?_,h3⟩⟩;have h1':=gI (inv:=M.inv) (fB (Nat.le_max_left k m)) _ _ _ h1;have h2':=gj (inv:=M.inv) (fB (Nat.le_max_right k m)) _ _ _ _ h2;simp only[cX,cJ]at h1';have ht:gA s.s op=some []:=by cases op <;> first|(cases hn;done)|rfl
 have hh:op.aI=true:=by cases op <;> first|(cases hn;done)|rfl
 have hd:∀U,eC [] U=true:=fun U=>rfl
 cases hq:aQ (M.call (max k m)) M.inv s.s op with
 | none=>rw[hq]at h1';cases h1'
 | some r=>
  rw[hq]at h1';obtain⟨o,e1,e2,e3⟩:=Cp hn hq;simp only[Option.some.injEq]at h1';simp only[cm,cJ,hh,if_true,ht,hd,e3 (cL [] s.s.hp 0) (dF _ _ _)];have hm:cP [] s.s.hp (cL [] s.s.hp 0++[o]) 0=s.s.hp++[o]:=by
   apply List.ext_getElem?;intro c;rw[gi _ _ _ _ _ (by simp[dF])];split
   . rename_i hc;rw[List.getElem?_append_left hc];simp
   . rename_i hc;rw[List.getElem?_append_right (by rw[dF];omega),List.getElem?_append_right (by omega),dF]
  simp only[List.all_nil,List.isEmpty_nil,Bool.true_or,Bool.and_true,if_true,hm,List.nil_append,List.length_append,List.length_singleton,dF];rw[e1,e2]at h1';subst h1';exact h2'
def jS (h:ab):AV->Option (List AV×Nat)
 | .str _=>none
 | .sl b off n esz _=>match h.at b with
   | some (.cells l _)=>(cut l off (n*esz)).map (·,n)
   | _=>none
 | v=>dz h v
def ld:List AV->Option (List Int)
 | []=>some []
 | .int .i64 n::r=>match ld r with
   | some l=>some (n::l)
   | none=>none
 | _=>none
def iU:List AV->Option (List (List UInt8))
 | []=>some []
 | .str n::r=>match iU r with
   | some l=>some (n::l)
   | none=>none
 | _=>none
def strs (l:List (List UInt8)):List AV:=arr (fun x=>[.str x]) l
theorem ui:∀{c:List AV} {l:List Int},ld c=some l->c=ints l
 | [],l,h=>by cases h;rfl
 | v::r,l,h=>by
  unfold ld at h;split at h
  . rename_i e;cases e
  . rename_i n r' e;cases e;split at h
    . rename_i l' hl;cases h;rw[ui hl];rfl
    . cases h
  . cases h
theorem uj:∀{c:List AV} {l:List (List UInt8)},iU c=some l->c=strs l
 | [],l,h=>by cases h;rfl
 | v::r,l,h=>by
  unfold iU at h;split at h
  . rename_i e;cases e
  . rename_i n r' e;cases e;split at h
    . rename_i l' hl;cases h;rw[uj hl];rfl
    . cases h
  . cases h
theorem uk:∀l:List (List UInt8),iU (strs l)=some l
 | []=>rfl
 | n::l=>by
  have:=uk l;show iU (.str n::strs l)=_;rw[iU,this]
def ij (h:ab)(v:AV):Option (List Int):=match jS h v with
 | some (c,n)=>match ld c with
   | some l=>if l.length=n then some l else none
   | none=>none
 | none=>none
def jT (h:ab)(v:AV):Option (List (List UInt8)):=match jS h v with
 | some (c,n)=>match iU c with
   | some l=>if l.length=n then some l else none
   | none=>none
 | none=>none
theorem um {α:Type}{f:α->List AV}{l:List α}(hc:jS h v=some (arr f l,l.length)):Sl f h v l:=by
 cases v <;> simp only[jS,dz]at hc <;> try (cases hc;done)
 case ak=>
  simp only[Option.some.injEq,Prod.mk.injEq]at hc;exact .inl ⟨rfl,List.eq_nil_of_length_eq_zero hc.2.symm⟩
 case sl b off len esz cap=>
  split at hc
  . rename_i c e hb;simp only[Option.map_eq_some_iff,Prod.mk.injEq]at hc;obtain⟨c',h1,h2,h3⟩:=hc;subst h3;subst h2;exact .inr (.inr ⟨b,off,esz,cap,c,e,rfl,hb,h1⟩)
  . cases hc
 case vs c len cap=>
  simp only[Option.some.injEq,Prod.mk.injEq]at hc;obtain⟨rfl,rfl⟩:=hc;exact .inr (.inl ⟨cap,rfl⟩)
theorem Cq {l:List Int}(hi:ij h v=some l):Sl (fun x=>[.int .i64 x]) h v l:=by
 unfold ij at hi;split at hi
 . rename_i c n hc;split at hi
   . rename_i l' hl;split at hi
     . rename_i hn;cases hi;subst hn;rw[ui hl]at hc;exact um hc
     . cases hi
   . cases hi
 . cases hi
theorem uo {l:List (List UInt8)}(hi:jT h v=some l):Sl (fun x=>[.str x]) h v l:=by
 unfold jT at hi;split at hi
 . rename_i c n hc;split at hi
   . rename_i l' hl;split at hi
     . rename_i hn;cases hi;subst hn;rw[uj hl]at hc;exact um hc
     . cases hi
   . cases hi
 . cases hi
end Go.Ab
namespace Go.Ab
variable {ars pe:List AV} {h hp:ab} {r:HR} {l:List aw} {Q:ah->Prop} {t b:Nat} {lo:List (Nat×AV)} {df wr:List Nat}
variable {M:au}
def CT (M:au)(g:AV)(ars:List AV)(h:ab)(r:HR):Prop:=∃n,M.call n g ars h=some r
theorem CT.run {f:FuncId}{fi ca:List AV}(he:M.ext f (fi++ars++ca) h=none)(hr:aJ M f (fi++ars++ca) h r):CT M (.fn (.func f) fi ca) ars h r:=by
 obtain⟨n,hn⟩:=hr;exact⟨n,by simp only[ef,he];exact hn⟩
theorem WO.Cr {d:cN}{f:an}{args:List an}{s:ah}{g:AV}(hf:s.s.aa f=some g)(ha:s.s.bp args=some ars)(hc:CT M g ars s.s.hp r)
 (h:WO M l ⟨{ s.s.put d r.v with hp:=r.h },r.wr++s.wr⟩ Q):WO M (⟨d,.call f args,none⟩::l) s Q:=
 WO.op (WP.call hf ha (by obtain⟨n,hn⟩:=hc;exact⟨⟨n,r,hn,h⟩⟩))
theorem KO {f:an}{args:List an}{h':ab}{wr':List Nat}{g v:AV}(hf:(St.mk pe lo hp df).aa f=some g)(ha:(St.mk pe lo hp df).bp args=some ars)
 (hc:CT M g ars hp ⟨v,h',wr'⟩) (h:WO M l ⟨⟨pe,(t,v)::lo,h',df⟩,wr'++wr⟩ Q):WO M (⟨.l t,.call f args,none⟩::l) ⟨⟨pe,lo,hp,df⟩,wr⟩ Q:=WO.Cr hf ha hc h
theorem lf {f N:Nat}{ar:List Nat}{res:List fW}{body:ao}(hft:M.FT f=some ⟨N,ar,res,body⟩)(hN:ars.length<=N)
 (hW:W M body ⟨⟨ar.map (fun t=>(ars[t]?).getD aW),[],h,[]⟩,[]⟩ fun e s=>(e = .normal\/e = .ret)/\s.s.bC=[]/\∃vs,dX s.s res=some vs/\cz (dh vs) h.length s=r):aJ M f ars h r:=by
 obtain⟨⟨n,e,s,h1,h2,h3,vs,h4,h5⟩⟩:=hW;refine⟨n,?_⟩;have h1':az M.ext M.inv M.FT n body ⟨⟨ar.map (fun t=>(ars[t]?).getD aW),[],h,[]⟩,[]⟩=some (e,s):=h1;simp only[dP,hft];rw[if_neg (by omega)];simp only[au.ev,h1',if_pos h2,h3,eT,h4,h5]
def eb (b:Nat)(wr:List Nat):Prop:=∀x∈wr,x=b
theorem eb.nil:eb b []:=fun _ h=>by cases h
theorem eb.cons (h:eb b wr):eb b (b::wr):=fun x hx=>by
 rcases List.mem_cons.1 hx with e|e
 . exact e
 . exact h x e
theorem Cs {c c0:List AV}{e:TypeId}{s:ah}(hb:b<h.length)(hh:s.s.hp=h.put b (some (.cells c e)))(hw:eb b s.wr)(hc:aY c=0) :
 ∃wr,eb b wr/\cz (.aq []) (h.put b (some (.cells c0 e))).length s=⟨.aq [],h.put b (some (.cells c e)),wr⟩:=by
 refine⟨s.wr.filter (· < h.length),fun x hx=>hw x (List.mem_filter.1 hx).1,?_⟩;have hl:(h.put b (some (.cells c0 e))).length=h.length:=iT;have ht:tight s.s.hp h.length s.wr=true:=by
  simp only[tight,List.all_eq_true];intro x hx;rw[hw x hx,hh,dG hb];simp[aK.top,hc]
 have hk:(h.put b (some (.cells c e))).take h.length=h.put b (some (.cells c e)):=List.take_of_length_le (by rw[iT];exact Nat.le_refl _);simp only[cz,hl,ht,Bool.and_true];rw[hh,hk];split <;> rfl
theorem Lu {x:an}{k:IntKind}{a:Int}(hx:(St.mk pe lo hp df).aa x=some (.int k a))(hr:0<=a/\a<18446744073709551616)
 (h:WO M l ⟨⟨pe,(t,.int .u64 a)::lo,hp,df⟩,wr⟩ Q):WO M (⟨.l t,.de .u64 x,none⟩::l) ⟨⟨pe,lo,hp,df⟩,wr⟩ Q:=
 WO.op (WP.pure (v:=.int .u64 a) rfl (by
  have:IntKind.u64.wrap a=a:=by simp only[IntKind.wrap,IntKind.bits,IntKind.signed];simp;omega
  simp only[aC,hx,Option.bind_some,gR,this]) h)
theorem Lv {x:an}{k:IntKind}{a:Int}(hx:(St.mk pe lo hp df).aa x=some (.int k a))(hr : -9223372036854775808<=a/\a<9223372036854775808)
 (h:WO M l ⟨⟨pe,(t,.int .i64 a)::lo,hp,df⟩,wr⟩ Q):WO M (⟨.l t,.de .i64 x,none⟩::l) ⟨⟨pe,lo,hp,df⟩,wr⟩ Q:=
 WO.op (WP.pure (v:=.int .i64 a) rfl (by simp only[aC,hx,Option.bind_some,gR,iP hr]) h)
end Go.Ab
namespace Go.Ab
variable {M:au}
theorem Ct {h:ab}{v:AV}{s:ah}(hh:s.s.hp=h)(hw:s.wr=[]):cz v h.length s=⟨v,h,[]⟩:=by
 have hk:h.take h.length=h:=List.take_length;simp only[cz,hh,hw,tight,List.all_nil,Bool.and_true,List.filter_nil,hk];split <;> rfl
theorem ik {h:ab}{g N:Nat}{ar:List Nat}{res:List fW}{body:ao}{ars:List AV}{v:AV}(hft:M.FT g=some ⟨N,ar,res,body⟩)(hN:ars.length<=N)
 (hW:W M body ⟨⟨ar.map (fun t=>(ars[t]?).getD aW),[],h,[]⟩,[]⟩ fun x s=>(x = .normal\/x = .ret)/\s.s.bC=[]/\s.s.hp=h/\s.wr=[]/\∃vs,dX s.s res=some vs/\dh vs=v):aJ M g ars h ⟨v,h,[]⟩:=by
 refine lf hft hN (hW.mono fun x s ⟨h1,h2,h3,h4,vs,h5,h6⟩=>⟨h1,h2,vs,h5,?_⟩);subst h6;exact Ct h3 h4
end Go.Ab
namespace Go.Ab
variable {b n:Nat}
variable {M:au}
def iW (b n:Nat)(wr:List Nat):Prop:=∀x∈wr,x=b\/n<=x
theorem iW.nil:iW b n []:=fun _ h=>by cases h
theorem iW.only {wr:List Nat}(h:eb b wr):iW b n wr:=fun x hx=>.inl (h x hx)
theorem iW.cons {wr:List Nat}(h:iW b n wr):iW b n (b::wr):=fun x hx=>by
 rcases List.mem_cons.1 hx with e|e
 . exact .inl e
 . exact h x e
end Go.Ab
namespace Go.Ab
variable {M:au}
end Go.Ab
namespace Go.Ab
variable {P:Program} {gl:Nat->Option AV}
end Go.Ab
namespace Go.Ab
open Go.ChangeShapes Go.WideShapes Go.RowKit
variable {H:Type} {enc:TypeId×Value->H} {P:Program} {W:World} {base:Nat} {sp:Nat->Bool} {t e:TypeId} {v:Value} {d:DataW H} {ps:List MemPlace}
end Go.Ab
namespace Go.Ab
variable {M:au}
abbrev ae:=List UInt8
def cM:List Int->Int
 | []=>0
 | e::r=>if e=0 then cM r else e
end Go.Ab
namespace Go.Ab
variable {ars:List AV} {h:ab} {K:HR->Prop} {ps:List cN} {a bd:ao} {n:Nat} {v:AV}
variable {M:au}
structure im (M:au)(f:FuncId)(as:List AV)(h:ab)(K:HR->Prop):Prop where
 out:∃r,aJ M f as h r/\K r
theorem im.pT {f N:Nat}{ar:List Nat}{res:List fW}{body:ao}(hft:M.FT f=some ⟨N,ar,res,body⟩)(hN:ars.length<=N)
 (hW:W M body ⟨⟨ar.map (fun t=>(ars[t]?).getD aW),[],h,[]⟩,[]⟩ fun e s=>(e = .normal\/e = .ret)/\∃s',eT s.s.bC s=some s'/\∃vs,dX s'.s res=some vs/\K (cz (dh vs) h.length s')):im M f ars h K:=by
 obtain⟨⟨n,e,s,h1,h2,s',h3,vs,h4,h5⟩⟩:=hW;refine⟨_,⟨n,?_⟩,h5⟩;have h1':az M.ext M.inv M.FT n body ⟨⟨ar.map (fun t=>(ars[t]?).getD aW),[],h,[]⟩,[]⟩=some (e,s):=h1;simp only[dP,hft];rw[if_neg (by omega)];simp only[h1',if_pos h2,h3,h4]
theorem W.uq {f:an}{b:ao}{pe:List AV}{lo:List (Nat×AV)}{hp:ab}{df wr:List Nat}{Q:Ex->ah->Prop}{g:FuncId}{fi ca:List AV}(hf:(St.mk pe lo hp df).aa f=some (.fn (.func g) fi ca))
 (hK:im M g (fi++[.fn (.yield (hp.length+1)) [] []]++ca) (hp++[some .cO,some (.loop .ready none pe ps a b)]) fun r=>∃st pend pe' ps' a' b',r.h.at (hp.length+1)=some (.loop st pend pe' ps' a' b')/\st≠.busy /\
   Q (pend.getD .normal) ⟨⟨pe,lo,r.h.put (hp.length+1) (some (.loop .exhausted pend pe' ps' a' b')),hp.length::df⟩,(hp.length+1)::r.wr++wr⟩):W M (.rangeFunc false f ps a b) ⟨⟨pe,lo,hp,df⟩,wr⟩ Q:=by
 obtain⟨r,⟨n,hn⟩,st,pend,pe',ps',a',b',h1,h2,h3⟩:=hK;refine⟨⟨n+1,_,_,?_,h3⟩⟩;have hn':dP (az M.ext M.inv M.FT n) M.FT g (fi++[.fn (.yield (hp.length+1)) [] []]++ca) (hp++[some .cO,some (.loop .ready none pe ps a b)])=some r:=hn;show az _ _ _ _ _ _=_;rw[az];simp only[Bool.false_eq_true,if_false,hf,hn',h1,if_neg h2]
def yo (e:Ex)(pe:List AV)(ps:List cN)(a bd:ao):aK:=if e = .normal then .loop .ready none pe ps a bd else .loop .done (some e) pe ps a bd
structure YB (b n:Nat)(K:HR->Prop)(e:Ex)(s:ah):Prop where
 out:∃pe ps a bd,s.s.hp.at b=some (.loop .busy none pe ps a bd)/\s.s.bC=[]/\K (cz (.bool (decide (e = .normal))) n ⟨{ s.s with hp:=s.s.hp.put b (some (yo e pe ps a bd)) },b::s.wr⟩)
structure YA (M:au)(b n:Nat)(bd:ao)(K:HR->Prop)(e:Ex)(s:ah):Prop where
 out:e = .normal/\∃pe ps a bd1,s.s.hp.at b=some (.loop .ready none pe ps a bd1)/\W M bd ⟨{ s.s with hp:=s.s.hp.put b (some (.loop .busy none pe ps a bd1)) },b::s.wr⟩ (YB b n K)
theorem WC.yield {b:Nat}{pe:List AV}{s0:St}(hb:h.at b=some (.loop .ready none pe ps a bd))(hs:gS ⟨pe,[],h,[]⟩ ps ars=some s0)(hW:W M a ⟨s0,[]⟩ (YA M b h.length bd K)) :
 WC M (.fn (.yield b) [] []) ars h K:=by
 obtain⟨⟨n,e,s1,h1,⟨rfl,pe1,ps1,a1,bd1,h2,⟨⟨m,e2,s2,h3,⟨pe2,ps2,a2,bd2,h4,h5,h6⟩⟩⟩⟩⟩⟩:=hW;refine⟨⟨max n m,_,?_,h6⟩⟩;have g1:az M.ext M.inv M.FT (max n m) a ⟨s0,[]⟩=some (.normal,s1):=jN (M:=M) (Nat.le_max_left n m) h1;have g3:az M.ext M.inv M.FT (max n m) bd _=some (e2,s2):=jN (M:=M) (Nat.le_max_right n m) h3;simp only[ef,hb,hs,g1,h2,g3,h4,h5];rfl
theorem WO.ur {t:Nat}{f:an}{args:List an}{l:List aw}{pe0:List AV}{lo:List (Nat×AV)}{hp:ab}{df wr:List Nat}{Q:ah->Prop}{b:Nat}{pe:List AV}{s0:St}(hf:(St.mk pe0 lo hp df).aa f=some (.fn (.yield b) [] []))(ha:(St.mk pe0 lo hp df).bp args=some ars)
 (hb:hp.at b=some (.loop .ready none pe ps a bd)) (hs:gS ⟨pe,[],hp,[]⟩ ps ars=some s0) (hW:W M a ⟨s0,[]⟩ (YA M b hp.length bd fun r=>WO M l ⟨⟨pe0,(t,r.v)::lo,r.h,df⟩,r.wr++wr⟩ Q)) :
 WO M (⟨.l t,.call f args,none⟩::l) ⟨⟨pe0,lo,hp,df⟩,wr⟩ Q:=
 WO.op (WP.call hf ha (WC.yield hb hs hW))
theorem uu {b:Nat}{pe0:List AV}{lo:List (Nat×AV)}{hp:ab}{df wr:List Nat}{pe:List AV}{bd1:ao}(hb:hp.at b=some (.loop .ready none pe ps a bd1))
 (hW:W M bd ⟨⟨pe0,lo,hp.put b (some (.loop .busy none pe ps a bd1)),df⟩,b::wr⟩ (YB b n K)):YA M b n bd K .normal ⟨⟨pe0,lo,hp,df⟩,wr⟩:=⟨⟨rfl,_,_,_,_,hb,hW⟩⟩
theorem uv {s:ah}(hv:v.top<=n)(ht:tight s.s.hp n s.wr=true):cz v n s=⟨v,s.s.hp.take n,s.wr.filter (· < n)⟩:=by
 unfold cz;rw[if_pos (by simp[hv,ht])]
theorem Li {t:Nat}{x y:an}{l:List aw}{pe:List AV}{lo:List (Nat×AV)}{hp:ab}{df wr:List Nat}{a b:ae}{Q:ah->Prop}(hx:(St.mk pe lo hp df).aa x=some (.str a))(hy:(St.mk pe lo hp df).aa y=some (.str b))(hr:a.length+b.length<4611686018427387904)
 (h:WO M l ⟨⟨pe,(t,.str (a++b))::lo,hp,df⟩,wr⟩ Q):WO M (⟨.l t,.bin .add x y,none⟩::l) ⟨⟨pe,lo,hp,df⟩,wr⟩ Q:=
 Kd (v:=.str (a++b)) (by simp only[aC,hx,hy,cf];rw[if_pos (by omega)]) rfl h
theorem Cu {J:ab}{s:ah}(hh:s.s.hp=h++J)(hw:∀x∈s.wr,h.length<=x)(hv:v.top<=h.length):cz v h.length s=⟨v,h,[]⟩:=by
 have hf:s.wr.filter (· < h.length)=[]:=by
  rw[List.filter_eq_nil_iff];intro x hx;have:=hw x hx;simp;omega
 have ht:tight s.s.hp h.length s.wr=true:=by
  simp only[tight,List.all_eq_true];intro x hx;have:=hw x hx;split <;> simp[this]
 have hk:s.s.hp.take h.length=h:=by rw[hh];simp
 rw[uv hv ht,hf,hk]
theorem Cv {g N:Nat}{ar:List Nat}{res:List fW}{body:ao}(hft:M.FT g=some ⟨N,ar,res,body⟩)(hN:ars.length<=N)(hv:v.top<=h.length)
 (hW:W M body ⟨⟨ar.map (fun t=>(ars[t]?).getD aW),[],h,[]⟩,[]⟩ fun x s=>(x = .normal\/x = .ret)/\s.s.bC=[]/\(∃J,s.s.hp=h++J)/\(∀x∈s.wr,h.length<=x)/\∃vs,dX s.s res=some vs/\dh vs=v):aJ M g ars h ⟨v,h,[]⟩:=by
 refine lf hft hN (hW.mono fun x s ⟨h1,h2,⟨J,h3⟩,h4,vs,h5,h6⟩=>⟨h1,h2,vs,h5,?_⟩);subst h6;exact Cu h3 h4 hv
section
variable {t b j:Nat} {x y:an} {l:List aw} {pe:List AV} {lo:List (Nat×AV)} {hp:ab} {df wr:List Nat} {c:List AV} {e:TypeId} {Q:ah->Prop}
theorem LC {ag:Bool}(hx:(St.mk pe lo hp df).aa x=some (.ptr b j))(hb:hp.at b=some (.cells c e))(hv:partOf (c.drop j) 0 n ag=some v)
 (h:WO M l ⟨⟨pe,(t,v)::lo,hp,df⟩,wr⟩ Q):WO M (⟨.l t,.load n ag x,none⟩::l) ⟨⟨pe,lo,hp,df⟩,wr⟩ Q:=
 Kr (v:=v) (h':=hp) (w':=[]) (by simp only[aP,hx,Option.bind_some,dO,hb,hv]) rfl rfl h
theorem KX {new:List AV}(hx:(St.mk pe lo hp df).aa x=some (.ptr b j))(hy:((St.mk pe lo hp df).aa y).bind AV.cells=some new)(hb:hp.at b=some (.cells c e))(hn:new.length=n/\j+n<=c.length/\new.all dg=true){c':List AV}(hc:overwrite c j new=c')
 (h:WO M l ⟨⟨pe,lo,hp.put b (some (.cells c' e)),df⟩,b::wr⟩ Q):WO M (⟨.no,.store n x y,none⟩::l) ⟨⟨pe,lo,hp,df⟩,wr⟩ Q:=by
 subst hc;refine Kt (v:=aW) (h':=hp.put b (some (.cells (overwrite c j new) e))) (w':=[b]) ?_ rfl rfl h;simp only[aP,hx,hy,hb];rw[if_pos hn]
end
end Go.Ab
namespace Go.Ab
variable {M:au} {t:Nat} {x y z:an} {l:List aw} {pe:List AV} {lo:List (Nat×AV)} {hp:ab} {df wr:List Nat} {s r:ae} {k k':IntKind} {a b:Int} {Q:ah->Prop}
theorem Lm (hx:(St.mk pe lo hp df).aa x=some (.str s))(hy:(St.mk pe lo hp df).aa y=some (.int k a))(ha:0<=a/\a<=s.length)(hr:s.drop a.toNat=r)
 (h:WO M l ⟨⟨pe,(t,.str r)::lo,hp,df⟩,wr⟩ Q):WO M (⟨.l t,.slice .str 1 x (some y) none none,none⟩::l) ⟨⟨pe,lo,hp,df⟩,wr⟩ Q:=by
 subst hr;refine Kd (v:=.str (s.drop a.toNat)) ?_ rfl h;simp only[aC,hx,St.bS,hy,Option.map_some,gz,aO];rw[if_pos ha];have:(s.drop a.toNat).take (s.length-a.toNat)=s.drop a.toNat:=List.take_of_length_le (by simp);simp[this]
theorem Lj (hx:(St.mk pe lo hp df).aa x=some (.str s))(hy:(St.mk pe lo hp df).aa y=some (.int k a))(ha:0<=a/\a<=s.length)(hr:s.take a.toNat=r)
 (h:WO M l ⟨⟨pe,(t,.str r)::lo,hp,df⟩,wr⟩ Q):WO M (⟨.l t,.slice .str 1 x none (some y) none,none⟩::l) ⟨⟨pe,lo,hp,df⟩,wr⟩ Q:=by
 subst hr;refine Kd (v:=.str (s.take a.toNat)) ?_ rfl h;simp only[aC,hx,St.bS,hy,Option.map_some,gz,aO];rw[if_pos ha];simp
theorem La {m:Int}(hx:(St.mk pe lo hp df).aa x=some (.int k a))(hy:(St.mk pe lo hp df).aa y=some (.int k b))(hm:m=a/\a<=b\/m=b/\b<=a)
 (h:WO M l ⟨⟨pe,(t,.int k m)::lo,hp,df⟩,wr⟩ Q):WO M (⟨.l t,.mm false [x,y],none⟩::l) ⟨⟨pe,lo,hp,df⟩,wr⟩ Q:=by
 refine Kd (v:=.int k m) ?_ rfl h;simp only[aC,St.bp,hx,hy];have e:(if b<a then b else a)=m:=by split <;> omega
 simp[iB,e]
end Go.Ab
namespace Go.Ab
variable {e:TypeId}
variable {M:au}
theorem KF {u n b off:Nat}{ag:Bool}{x:an}{L:List aw}{pe:List AV}{lo:List (Nat×AV)}{hp:ab}{df wr:List Nat}{c:List AV}{v:AV}{Q:ah->Prop}(hx:(St.mk pe lo hp df).aa x=some (.ptr b off))(hb:hp.at b=some (.cells c e))(hv:partOf (c.drop off) 0 n ag=some v)
 (h:WO M L ⟨⟨pe,(u,v)::lo,hp,df⟩,wr⟩ Q):WO M (⟨.l u,.load n ag x,none⟩::L) ⟨⟨pe,lo,hp,df⟩,wr⟩ Q:=
 Kr (v:=v) (h':=hp) (w':=[]) (by simp only[aP,hx,Option.bind_some,dO,hb,hv]) rfl rfl h
theorem Lh {n:Nat}{x y:an}{L:List aw}{pe:List AV}{lo:List (Nat×AV)}{K:ab}{df wr:List Nat}{c c' new:List AV}{Q:ah->Prop}(hx:(St.mk pe lo (K++[some (.cells c e)]) df).aa x=some (.ptr K.length 0))(hy:((St.mk pe lo (K++[some (.cells c e)]) df).aa y).bind AV.cells=some new)
 (hn:new.length=n/\n<=c.length/\new.all dg=true) (ho:overwrite c 0 new=c') (h:WO M L ⟨⟨pe,lo,K++[some (.cells c' e)],df⟩,K.length::wr⟩ Q):WO M (⟨.no,.store n x y,none⟩::L) ⟨⟨pe,lo,K++[some (.cells c e)],df⟩,wr⟩ Q:=by
 obtain⟨h1,h2,h3⟩:=hn;refine Kt (v:=aW) (h':=K++[some (.cells c' e)]) (w':=[K.length]) ?_ rfl rfl h;simp only[aP,hx,hy,dt,Nat.zero_add];rw[if_pos ⟨h1,h2,h3⟩,ho];simp[ab.put]
def pU {α:Type}(f:α->List AV)(esz:Nat)(e:TypeId)(hp:ab)(o:AV)(acc:List α)(S:List Nat):Prop:=(acc=[]/\o = .ak)\/∃c,acc≠[]/\c∉S/\o = .sl c 0 acc.length esz none/\hp.at c=some (.cells (arr f acc) e)
theorem pU.fin {α:Type}{f:α->List AV}{esz:Nat}{hp:ab}{o:AV}{acc:List α}{S:List Nat}(h:pU f esz e hp o acc S):pU f esz e (if (dh [o]).top<=0 then [] else hp) o acc S:=by
 rcases h with ⟨h1,rfl⟩|⟨c,h0,h1,rfl,h2⟩
 . exact .inl ⟨h1,rfl⟩
 . refine .inr ⟨c,h0,h1,rfl,?_⟩;rw[if_neg (by simp[dh,AV.top])];exact h2
end Go.Ab
namespace Go.Ab
variable {M:au} {P:Program} {gl:Nat->Option AV}
open Classical in
noncomputable def lh (R:List AV->ab->HR->Prop):Spec:=fun as h=>if e:∃r,R as h r then some (Classical.choose e) else none
theorem Cw {f:Nat}{R:List AV->ab->HR->Prop}(hR:∀as h r,R as h r->aS P gl ⟨f,as,h,r⟩):aV P gl f (lh R):=by
 intro as h r hq;unfold lh at hq;split at hq
 . rename_i e;cases hq;exact hR _ _ _ (Classical.choose_spec e)
 . cases hq
theorem Cy {R:List AV->ab->HR->Prop}{as:List AV}{h:ab}{r:HR}(hr:R as h r)(hd:∀r',R as h r'->r'=r):lh R as h=some r:=by
 unfold lh;rw[dif_pos ⟨r,hr⟩];exact congrArg some (hd _ (Classical.choose_spec (p:=fun r=>R as h r) ⟨r,hr⟩))
section
variable {α:Type} {f:α->List AV} {esz:Nat}
theorem Sl.ux {h:ab}:Sl f h .ak ([]:List α):=.inl ⟨rfl,rfl⟩
theorem Sl.Cz (hf:∀a,(f a).length=esz){h:ab}{l:List α}{b n:Nat}{e:TypeId}{cap:Option Nat}(hb:h.at b=some (.cells (arr f l) e))(hn:l.length=n):Sl f h (.sl b 0 n esz cap) l:=by
 subst hn;refine .inr (.inr ⟨b,0,esz,cap,_,e,rfl,hb,?_⟩);have:=tY hf (l:=l) (i:=0) (n:=l.length) (by omega);rw[Nat.zero_mul]at this;rw[this];simp
end
end Go.Ab
namespace Go.Ab
open Go.ChangeShapes Go.WideShapes Go.RowKit
section
variable (P:Program)
end
variable {H:Type} {enc:TypeId×Value->H} {P:Program} {W:World}
end Go.Ab
namespace Go.Ab
variable {P:Program} {gl:Nat->Option AV}
def fF (ρ:al):al:=⟨fun _=>.fresh,ρ.X⟩
theorem bT.fF {ρ:al}{c:Nat}(h:¬ρ.X c):bT (fF ρ) c:=⟨fun b d hb=>by simp[Go.Ab.fF]at hb,h⟩
theorem CA (hgl:∀g v,gl g=some v->v.top=0){w:World}{ρ:al}{T:List Nat}{v v1:AV}{hh:ab}{v':Value}{w':World}(hf:Fr hh T v v1)(ht:v1.top=0)(hd:cZ P gl (cA ρ []) [] w ⟨v,hh,[]⟩ v' w'):cZ P gl (cA ρ []) [] w ⟨v1,[],[]⟩ v' w':=by
 obtain⟨ρ',hv,m',x⟩:=hd;have hF:∀c,bT (cA ρ' T) c->bT (fF ρ') c:=fun c hc=>bT.fF fun hx=>hc.2 (.inl hx)
 have hF':∀c,bT ρ' c->bT (fF ρ') c:=fun c hc=>bT.fF hc.2
 refine⟨fF ρ',(hf.view m' hv).dY (n:=0) (fun b hb=>by omega) hF (by omega),?_,?_⟩
 . refine⟨fun b o hb=>by simp at hb,fun b _=>rfl,fun b b' c d d' h1=>by simp[fF]at h1,fun b c d h1=>by simp[fF]at h1,m'.xb,fun b c d h1=>by simp[fF]at h1,fun g v hg=>?_⟩;exact(m'.gl g v hg).dY (n:=0) (fun b hb=>by omega) hF' (by rw[hgl g v hg];exact Nat.le_refl _)
 . refine⟨x.os,x.tape,x.output,x.size,Nat.le_refl _,x.X,fun b hb=>by simp at hb,fun b hb=>by simp at hb,fun b c d hb=>by simp[cA]at hb,fun b hb=>by simp[cA]at hb,fun b hb=>by simp[cA]at hb,fun c hc _=>x.bh c hc (fun b d hb=>by simp[cA]at hb),fun b c d hb _=>by simp[fF]at hb,x.shape⟩
theorem CB (hgl:∀g v,gl g=some v->v.top=0){f:Nat}{as:List AV}{h:ab}{v v1:AV}{hh:ab}{T:List Nat}(ha:aY as=0)(hf:Fr hh T v v1)(ht:v1.top=0)(hloc:aS P gl ⟨f,as,[],⟨v,hh,[]⟩⟩):aS P gl ⟨f,as,h,⟨v1,h,[]⟩⟩:=by
 refine⟨⟨Nat.le_refl _,fun _ _ _=>rfl⟩,fun ρ w as' m hl=>?_⟩;obtain⟨nx,w1,h1,h2⟩:=hloc.2 (cA ρ []) w as' (m.cA hgl []) ((dj.same ha).view m hl);refine⟨nx,w1,h1,h2.mono fun v w' hd=>?_⟩;have:=tT (S:=[]) (ks:=[]) (bs:=[]) m (by simp) (.same ht) rfl (by simp) (.inl rfl) (CA hgl hf ht hd);simpa using this
theorem CC {FT:FuncId->Option bJ}(hs:iR P gl FT){T:List (Nat×Spec)}(hT:cR P gl (cT T)){f:Nat}{as:List AV}{h hh:ab}{B:List Nat}{v v1:AV}(hr:aJ (bA P FT T) f as [] ⟨v,hh,[]⟩)(ha:aY as=0)(hf:Fr hh B v v1)(ht:v1.top=0):aS P gl ⟨f,as,h,⟨v1,h,[]⟩⟩:=
 CB hs.gl ha hf ht (mM hs hT hr ⟨Nat.zero_le _,fun _ hb=>absurd hb (Nat.not_lt_zero _)⟩)
def nf (hh:ab)(v v1:AV):Prop:=∃B,Fr hh B v v1/\cS v=true/\∀b l e,b∈B->hh.at b=some (.cells l e)->fz l=true
theorem nf.same {hh:ab}{v:AV}(ht:v.top=0)(hn:cS v=true):nf hh v v:=⟨[],.same ht,hn,by simp⟩
theorem nf.nil {hh:ab}:nf hh .ak (.vs [] 0 none):=⟨[],.nil (fun n hn=>by cases hn),rfl,by simp⟩
end Go.Ab
namespace Go.Ab
variable {M:au}
structure LI (I:ah->Prop)(Q:Ex->ah->Prop)(e:Ex)(s:ah):Prop where
 out:match e with
  | .normal=>I s
  | e=>Q e s
theorem uy {I:ah->Prop}{Q:Ex->ah->Prop}{s:ah}(h:I s):LI I Q .normal s:=⟨h⟩
theorem cU {I:ah->Prop}{Q:Ex->ah->Prop}{s:ah}{i:Nat}(h:Q (.exit i) s):LI I Q (.exit i) s:=⟨h⟩
theorem W.uz {c:ao}{Q:Ex->ah->Prop}(I:Nat->ah->Prop)(hs:∀m s,I m s->W M c s (LI (fun s'=>∃m',m'<m/\I m' s') Q)):∀{m:Nat} {s:ah},I m s->W M (.loop c) s Q:=by
 intro m;induction m using Nat.strongRecOn with
 | ind m ih=>
  intro s h;refine W.loop ((hs m s h).mono fun e s' he=>?_);cases e with
  | normal=>
   obtain⟨m',hm,hI⟩:=he.out;exact⟨ih m' hm hI⟩
  | exit i=>exact⟨he.out⟩
  | ret=>exact⟨he.out⟩
theorem W.CD {c:ao}{Q:Ex->ah->Prop}(n:Nat)(I:Nat->ah->Prop)(hs:∀i s,i<n->I i s->W M c s (LI (I (i+1)) Q))(he:∀s,I n s->W M c s (LI (fun _=>False) Q)){i:Nat}{s:ah}(hi:i<=n)(h:I i s):W M (.loop c) s Q:=by
 refine W.uz (fun m s=>m<=n/\I (n-m) s) (fun m s ⟨hm,h⟩=>?_) (m:=n-i) ⟨Nat.sub_le _ _,by rwa [Nat.sub_sub_self hi]⟩;rcases Nat.eq_zero_or_pos m with rfl|h0
 . exact(he s h).mono fun e s' he=>⟨by
    cases e with
    | normal=>exact he.out.elim
    | exit i=>exact he.out
    | ret=>exact he.out⟩
 . refine(hs (n-m) s (by omega) h).mono fun e s' he=>⟨?_⟩
   cases e with
   | normal=>exact⟨m-1,by omega,by omega,by have:=he.out;rwa [show n-m+1=n-(m-1) by omega]at this⟩
   | exit i=>exact he.out
   | ret=>exact he.out
section
variable {α:Type} {f:α->List AV} {esz t:Nat} {x y:an} {L:List aw} {pe:List AV} {lo:List (Nat×AV)} {hp:ab} {df wr:List Nat} {l:List α} {cap:Option Nat} {k:IntKind} {n:Int} {Q:ah->Prop}
end
def uA {α:Type}(f:α->List AV)(esz:Nat)(e:TypeId)(hp:ab)(o:AV)(acc:List α)(S:List Nat):Prop:=
 (acc=[]/\o = .ak)\/∃c cs,acc≠[]/\c∉S/\o = .sl c 0 acc.length esz none/\hp.at c=some (.cells cs e)/\cs.length=acc.length*esz/\cs.all dg=true/\dj hp S cs (arr f acc)
theorem uA.nil {α:Type}{f:α->List AV}{esz:Nat}{e:TypeId}{hp:ab}{S:List Nat}:uA f esz e hp .ak ([]:List α) S:=.inl ⟨rfl,rfl⟩
end Go.Ab
namespace Go.Ab
variable {M:au} {α:Type} {f:α->List AV} {esz:Nat} {e:TypeId} {hp H:ab} {o y:AV} {acc m:List α} {S S':List Nat}
theorem Sl.cells (_hf:∀a,(f a).length=esz)(h:Sl f hp y m):dz hp y=some (arr f m,m.length):=by
 rcases h with ⟨rfl,rfl⟩|⟨cap,rfl⟩|⟨b,off,ez,cap,c,e,rfl,h1,h2⟩
 . rfl
 . rfl
 . simp only[dz,h1,h2,Option.map_some]
def jU (f:α->List AV)(esz:Nat)(e:TypeId)(hp:ab)(o:AV)(acc:List α)(S:List Nat):Prop:=
 (acc=[]/\o = .ak)\/∃c cap,c∉S/\o = .sl c 0 acc.length esz cap/\hp.at c=some (.cells (arr f acc) e)/\(cap=none\/acc=[]/\cap=some 0)
theorem jU.ux:jU f esz e hp .ak ([]:List α) S:=.inl ⟨rfl,rfl⟩
theorem jU.sl (hf:∀a,(f a).length=esz)(h:jU f esz e hp o acc S):Sl f hp o acc:=by
 rcases h with ⟨rfl,rfl⟩|⟨c,cap,_,rfl,h1,_⟩
 . exact .ux
 . exact .Cz hf h1 rfl
end Go.Ab
namespace Go.Ab
variable {M:au}
theorem jU.one {α:Type}{f:α->List AV}{esz:Nat}{e:TypeId}{hp:ab}{o:AV}{acc:List α}{S:List Nat}(h:jU f esz e hp o acc S):AV.cells o=some [o]/\dg o=true:=by
 rcases h with ⟨_,rfl⟩|⟨c,cap,_,rfl,_,_⟩ <;> exact⟨rfl,rfl⟩
end Go.Ab
namespace Go.Ab
variable {M:au}
end Go.Ab
