/-
  Own work: a call that was shown on the empty heap, of arguments that hold their contents: it holds on every heap, of arguments that lie in blocks of the caller's own; new blocks get the next numbers.
-/
import Derived.Test.YtcjphdmkgmkabaaGreatDoorLib3
import Derived.Test.YtcjphdmkgmkabaaGreatDoorLib1
import Derived.OpenShut
import Derived.Laws.RangeString
import Derived.Lib.DecodeN
set_option maxHeartbeats 8000000
set_option maxRecDepth 20000
namespace Go.Ab
variable {P:Program} {gl:Nat->Option AV} {ρ:ax} {w:World} {h:ab}
mutual
def dh:AV->Bool
 | .vp l=>l.isEmpty
 | .vs l _ _=>l.isEmpty
 | .fn _ a b=>fk a && fk b
 | .iface _ v=>dh v
 | .agg l=>fk l
 | .au l=>fk l
 | _=>true
def fk:List AV->Bool
 | []=>true
 | v::r=>dh v && fk r
end
theorem gG:∀{l:List AV} {i:Nat} {x:AV},fk l=true->l[i]? = some x->dh x=true
 | [],i,x,_,h=>by simp at h
 | v::r,0,x,h,hx=>by simp only[fk,Bool.and_eq_true]at h;simp at hx;subst hx;exact h.1
 | v::r,i+1,x,h,hx=>by simp only[fk,Bool.and_eq_true]at h;simp at hx;exact gG h.2 hx
inductive Rn (ks:List Nat) (N:Nat):AV->AV->Prop
 | same {v:AV} (ht:v.top=0):Rn ks N v v
 | sl {i b off len esz:Nat} {cap:Option Nat} (hi:ks[i]? = some b):Rn ks N (.sl b off len esz cap) (.sl (N+i) off len esz cap)
 | ptr {i b off:Nat} (hi:ks[i]? = some b):Rn ks N (.ptr b off) (.ptr (N+i) off)
 | map {i b:Nat} (hi:ks[i]? = some b):Rn ks N (.map b) (.map (N+i))
 | vs {l l0:List AV} {n:Nat} {cap:Option Nat} (hl:l.length=l0.length) (hg:∀(i:Nat) x y,l[i]? = some x->l0[i]? = some y->Rn ks N x y):Rn ks N (.vs l n cap) (.vs l0 n cap)
 | agg {l l0:List AV} (hl:l.length=l0.length) (hg:∀(i:Nat) x y,l[i]? = some x->l0[i]? = some y->Rn ks N x y):Rn ks N (.agg l) (.agg l0)
 | au {l l0:List AV} (hl:l.length=l0.length) (hg:∀(i:Nat) x y,l[i]? = some x->l0[i]? = some y->Rn ks N x y):Rn ks N (.au l) (.au l0)
 | fn {f:Fn} {fi fi0 ca ca0:List AV} (hf:∀l,f≠.yield l) (h1:fi.length=fi0.length) (h2:ca.length=ca0.length) (g1:∀(i:Nat) x y,fi[i]? = some x->fi0[i]? = some y->Rn ks N x y)
     (g2:∀(i:Nat) x y,ca[i]? = some x->ca0[i]? = some y->Rn ks N x y):Rn ks N (.fn f fi ca) (.fn f fi0 ca0)
def pY (ks:List Nat)(N:Nat)(l l0:List AV):Prop:=l.length=l0.length/\∀(i:Nat) x y,l[i]? = some x->l0[i]? = some y->Rn ks N x y
inductive sd (ks:List Nat) (N:Nat):bw->bw->Prop
 | cells {l l0:List AV} {e:TypeId} (h:pY ks N l l0):sd ks N (.cells l e) (.cells l0 e)
 | map {es es0:List (AV×AV)} (h1:pY ks N (es.map (·.1)) (es0.map (·.1))) (h2:pY ks N (es.map (·.2)) (es0.map (·.2))):sd ks N (.map es) (.map es0)
def vO:bw->Bool
 | .cells l _=>fk l
 | .map es=>fk (es.map (·.1)) && fk (es.map (·.2))
 | _=>true
theorem pY.cons {ks:List Nat}{N:Nat}{x y:AV}{l m:List AV}(h1:Rn ks N x y)(h2:pY ks N l m):pY ks N (x::l) (y::m):=by
 refine⟨by simp[h2.1],fun i a b ha hb=>?_⟩;cases i with
 | zero=>simp at ha hb;subst ha;subst hb;exact h1
 | succ i=>simp at ha hb;exact h2.2 i a b ha hb
theorem IA {ρ' ρ1:ax}{a:AV}{v:Value}(ht:a.top=0)(hn:dh a=true)(hv:V ρ' w a v):V ρ1 w a v:=by
 have key:∀{a v},V ρ' w a v->a.top=0->dh a=true->V ρ1 w a v:=by
  intro a v hv;induction hv with
  | cM v=>exact fun _ _=>.cM v
  | bool b=>exact fun _ _=>.bool b
  | int k n=>exact fun _ _=>.int k n
  | str s=>exact fun _ _=>.str s
  | dj=>exact fun _ _=>.dj
  | ptr o hb=>exact fun h _=>by simp[AV.top]at h
  | dX o c o' hb=>exact fun h _=>by simp[AV.top]at h
  | @vp l c o g hf hc _ ih=>intro _ hn;simp only[dh,List.isEmpty_iff]at hn;subst hn;exact .vp c o g (fun h=>absurd rfl h) (by simp) (by simp)
  | aa=>exact fun _ _=>.aa
  | sl hb hl hcap hs=>exact fun h _=>by simp[AV.top]at h
  | fy hb=>exact fun h _=>by simp[AV.top]at h
  | eK c o' hb hl hcap=>exact fun h _=>by simp[AV.top]at h
  | fu hb=>exact fun h _=>by simp[AV.top]at h
  | fz a hb=>exact fun h _=>by simp[AV.top]at h
  | @vs l len capC cap c o g hf hl hcap hc _ ih=>intro _ hn;simp only[dh,List.isEmpty_iff]at hn;subst hn;exact .vs c o g (fun h=>absurd rfl h) hl hcap (by simp) (by simp)
  | dY hcap=>exact fun _ _=>.dY hcap
  | fv a hcap=>exact fun _ _=>.fv a hcap
  | eC=>exact fun _ _=>.eC
  | map hb=>exact fun h _=>by simp[AV.top]at h
  | hJ v hb=>exact fun h _=>by simp[AV.top]at h
  | yield hb=>exact fun h _=>by simp[AV.top]at h
  | @fn f fi ca _ _ hf h1 h2 _ _ ih1 ih2=>
   intro h hn;have hh:bh fi<=0/\bh ca<=0:=by
    cases f <;> simp only[AV.top]at h <;> exact⟨by omega,by omega⟩
   simp only[dh,Bool.and_eq_true]at hn;exact .fn hf h1 h2 (fun i x y a b=>ih1 i x y a b (by have:=fw hh.1 i x a;omega) (gG hn.1 a)) (fun i x y a b=>ih2 i x y a b (by have:=fw hh.2 i x a;omega) (gG hn.2 a))
  | gN v hb=>exact fun h _=>by simp[AV.top]at h
  | fE=>exact fun _ _=>.fE
  | iface _ ih=>exact fun h hn=>.iface (ih (by simpa only[AV.top] using h) (by simpa only[dh] using hn))
  | cS=>exact fun _ _=>.cS
  | agg hl _ ih=>exact fun h hn=>.agg hl (fun i x y a b=>ih i x y a b (by have:=fw (n:=0) (by simpa only[AV.top,Nat.le_zero] using h) i x a;omega) (gG (by simpa only[dh] using hn) a))
  | au hl _ ih=>exact fun h hn=>.au hl (fun i x y a b=>ih i x y a b (by have:=fw (n:=0) (by simpa only[AV.top,Nat.le_zero] using h) i x a;omega) (gG (by simpa only[dh] using hn) a))
 exact key hv ht hn
theorem Rn.view {ks:List Nat}{N:Nat}{ρ' ρ1:ax}(hρ:∀(i b:Nat),ks[i]? = some b->ρ1 (N+i)=ρ' b){a a1:AV}(hr:Rn ks N a a1) :
 (dh a=true\/∀c,cL ρ' c->cL ρ1 c)->∀{v:Value},V ρ' w a v->V ρ1 w a1 v:=by
 induction hr with
 | @same a ht=>
  intro hF v hv;rcases hF with hF|hF
  . exact IA ht hF hv
  . exact hv.gp (n:=0) (fun b hb=>by omega) hF (by omega)
 | sl hi=>
  intro _ v hv;cases hv with
  | sl h1 h2 h3 h4=>exact .sl ((hρ _ _ hi).trans h1) h2 h3 h4
  | fy h1=>exact .fy ((hρ _ _ hi).trans h1)
  | eK c o' h1 h2 h3=>exact .eK c o' ((hρ _ _ hi).trans h1) h2 h3
  | fu h1=>exact .fu ((hρ _ _ hi).trans h1)
  | fz a h1=>exact .fz a ((hρ _ _ hi).trans h1)
 | ptr hi=>
  intro _ v hv;cases hv with
  | ptr _ h1=>exact .ptr _ ((hρ _ _ hi).trans h1)
  | dX _ _ _ h1=>exact .dX _ _ _ ((hρ _ _ hi).trans h1)
 | map hi=>
  intro _ v hv;cases hv with
  | map h1=>exact .map ((hρ _ _ hi).trans h1)
  | hJ c h1=>exact .hJ c ((hρ _ _ hi).trans h1)
 | @vs l l0 n cap hl hg ih=>
  intro hF v hv;cases hv with
  | vs c o g hf h2 h3 h4 h5=>
   by_cases hn:l=[]
   . subst hn;have:l0=[]:=List.eq_nil_of_length_eq_zero (by simp at hl;omega);subst this;exact .vs c o g (fun h=>absurd rfl h) h2 h3 (by simp) (by simp)
   . have hF':∀c,cL ρ' c->cL ρ1 c:=by
      rcases hF with hF|hF
      . simp only[dh,List.isEmpty_iff]at hF;exact absurd hF hn
      . exact hF
     refine .vs c o g (fun _=>hF' _ (hf hn)) h2 h3 (fun i hi=>h4 i (by omega)) (fun i y hy=>?_);have hi:i<l.length:=by have:=(List.getElem?_eq_some_iff.1 hy).1;omega
     exact ih i _ y (List.getElem?_eq_getElem hi) hy (.inr hF') (h5 i _ (List.getElem?_eq_getElem hi))
  | dY hc=>
   have:l0=[]:=List.eq_nil_of_length_eq_zero (by simp at hl;omega);subst this;exact .dY hc
  | fv a hc=>
   have:l0=[]:=List.eq_nil_of_length_eq_zero (by simp at hl;omega);subst this;exact .fv a hc
 | @agg l l0 hl hg ih=>
  intro hF v hv;cases hv with
  | @agg _ mm h1 h2=>
   refine .agg (by omega) fun i y z hy hz=>?_
   have hi:i<l.length:=by have:=(List.getElem?_eq_some_iff.1 hy).1;omega
   exact ih i _ y (List.getElem?_eq_getElem hi) hy (hF.imp (fun h=>by simp only[dh]at h;exact gG h (List.getElem?_eq_getElem hi)) id) (h2 i _ z (List.getElem?_eq_getElem hi) hz)
 | @au l l0 hl hg ih=>
  intro hF v hv;cases hv with
  | @au _ mm h1 h2=>
   refine .au (by omega) fun i y z hy hz=>?_
   have hi:i<l.length:=by have:=(List.getElem?_eq_some_iff.1 hy).1;omega
   exact ih i _ y (List.getElem?_eq_getElem hi) hy (hF.imp (fun h=>by simp only[dh]at h;exact gG h (List.getElem?_eq_getElem hi)) id) (h2 i _ z (List.getElem?_eq_getElem hi) hz)
 | @fn f fi fi0 ca ca0 hf h1 h2 g1 g2 ih1 ih2=>
  intro hF v hv;cases hv with
  | fn hf' a1 a2 a3 a4=>
   refine .fn hf (by omega) (by omega) (fun i y z hy hz=>?_) (fun i y z hy hz=>?_)
   . have hi:i<fi.length:=by have:=(List.getElem?_eq_some_iff.1 hy).1;omega
     exact ih1 i _ y (List.getElem?_eq_getElem hi) hy (hF.imp (fun h=>by simp only[dh,Bool.and_eq_true]at h;exact gG h.1 (List.getElem?_eq_getElem hi)) id) (a3 i _ z (List.getElem?_eq_getElem hi) hz)
   . have hi:i<ca.length:=by have:=(List.getElem?_eq_some_iff.1 hy).1;omega
     exact ih2 i _ y (List.getElem?_eq_getElem hi) hy (hF.imp (fun h=>by simp only[dh,Bool.and_eq_true]at h;exact gG h.2 (List.getElem?_eq_getElem hi)) id) (a4 i _ z (List.getElem?_eq_getElem hi) hz)
  | yield _=>exact absurd rfl (hf _)
  | gN _ _=>exact absurd rfl (hf _)
inductive Fr (h:ab) (S:List Nat):AV->AV->Prop
 | same {v:AV} (ht:v.top=0):Fr h S v v
 | nil {cap:Option Nat} (hc:∀n,cap=some n->n=0):Fr h S .aa (.vs [] 0 cap)
 | sl {b off len esz:Nat} {cap cap':Option Nat} {l m m0:List AV} {e:TypeId} (hb:b∈S) (ha:h.at b=some (.cells l e)) (hc:cut l off (len*esz)=some m) (hl:m.length=m0.length)
     (hg:∀(i:Nat) x y,m[i]? = some x->m0[i]? = some y->Fr h S x y) (hcc:cap'=cap\/cap'=none:=by exact .inl rfl):Fr h S (.sl b off len esz cap) (.vs m0 len cap')
 | ptr {b off:Nat} {l m0:List AV} {e:TypeId} (hb:b∈S) (ha:h.at b=some (.cells l e)) (hl:(l.drop off).length=m0.length)
     (hg:∀(i:Nat) x y,(l.drop off)[i]? = some x->m0[i]? = some y->Fr h S x y):Fr h S (.ptr b off) (.vp m0)
 | vs {l l0:List AV} {n:Nat} {cap:Option Nat} (hl:l.length=l0.length) (hg:∀(i:Nat) x y,l[i]? = some x->l0[i]? = some y->Fr h S x y):Fr h S (.vs l n cap) (.vs l0 n cap)
 | agg {l l0:List AV} (hl:l.length=l0.length) (hg:∀(i:Nat) x y,l[i]? = some x->l0[i]? = some y->Fr h S x y):Fr h S (.agg l) (.agg l0)
 | au {l l0:List AV} (hl:l.length=l0.length) (hg:∀(i:Nat) x y,l[i]? = some x->l0[i]? = some y->Fr h S x y):Fr h S (.au l) (.au l0)
 | fn {f:Fn} {fi fi0 ca ca0:List AV} (hf:∀l,f≠.yield l) (h1:fi.length=fi0.length) (h2:ca.length=ca0.length) (g1:∀(i:Nat) x y,fi[i]? = some x->fi0[i]? = some y->Fr h S x y)
     (g2:∀(i:Nat) x y,ca[i]? = some x->ca0[i]? = some y->Fr h S x y):Fr h S (.fn f fi ca) (.fn f fi0 ca0)
def gR (h:ab)(S:List Nat)(l l0:List AV):Prop:=l.length=l0.length/\∀(i:Nat) x y,l[i]? = some x->l0[i]? = some y->Fr h S x y
def dy (ρ:ax)(S:List Nat):ax:=⟨fun _=>.fresh,fun c=>ρ.X c\/∃b d,ρ b = .live c d/\b∉S⟩
theorem cL.dy {c:Nat}(S:List Nat)(hf:cL ρ c):cL (dy ρ S) c:=by
 refine⟨fun b d hb=>by simp[Go.Ab.dy]at hb,?_⟩;rintro(hx|⟨b,d,hb,_⟩)
 . exact hf.2 hx
 . exact hf.1 b d hb
theorem Fr.view (m:Mem P gl ρ h w){S:List Nat}{a a0:AV}(hr:Fr h S a a0):∀{v:Value},V ρ w a v->V (dy ρ S) w a0 v:=by
 have hfree:∀{b c d},b∈S->ρ b = .live c d->cL (dy ρ S) c:=fun {b c d} hb hl=>by
  refine⟨fun b d hb=>by simp[Go.Ab.dy]at hb,?_⟩;rintro(hx|⟨b',d',hb',hn⟩)
  . exact m.xo _ _ _ hl hx
  . exact hn (m.inj _ _ _ _ _ hb' hl ▸ hb)
 have hat:∀{b o},h.at b=some o->h[b]? = some (some o):=fun {b o} hb=>by
  unfold ab.at at hb;cases hz:h[b]? with
  | none=>rw[hz]at hb;cases hb
  | some z=>rw[hz]at hb;simp only[Option.join_some]at hb;rw[hb]
 induction hr with
 | same ht=>exact fun hv=>hv.gp (n:=0) (fun b hb=>by omega) (fun c hc=>hc.dy S) (by omega)
 | nil hc=>
  intro v hv;cases hv;exact .dY hc
 | @sl b off len esz cap cap' l m' m0 e hb ha hc hl hg hcc ih=>
  intro v hv;have hB:=m.cQ b _ (hat ha);have hcut:m'.length=len*esz/\∀i,i<m'.length->m'[i]? = l[off+i]? := by
   simp only[cut]at hc;split at hc
   . rename_i hlen;cases hc;refine⟨hlen,fun i hi=>?_⟩;rw[List.getElem?_take,if_pos (by omega),List.getElem?_drop]
   . cases hc
  cases hv with
  | @sl _ c d _ _ _ capC _ h1 h2 h3 h4=>
   have h3:∀n,cap'=some n->capC=n:=fun n hn=>by
    rcases hcc with rfl|rfl
    . exact h3 n hn
    . cases hn
   rcases hB with ⟨c',d',cs,fr,g1,g2,g3,g4,g5⟩|⟨g1,_⟩
   . rw[h1]at g1;cases g1;refine .vs c (off+d) (fun i=>cs.getD (off+d+i) (.bool false)) (fun _=>hfree hb h1) h2 h3 (fun i hi=>?_) (fun i y hy=>?_)
     . have hi':i<m'.length:=by omega
       have hlt:off+i<l.length:=by
        have:=hcut.2 i hi';rw[List.getElem?_eq_getElem hi']at this;exact(List.getElem?_eq_some_iff.1 this.symm).1
       have:off+d+i<cs.size:=by have:=g3.1;omega
       simp only[World.cell?,g2];simp[this,Array.getD]
     . have hi:i<m0.length:=(List.getElem?_eq_some_iff.1 hy).1;have hi':i<m'.length:=by omega
       have hx:=hcut.2 i hi';rw[List.getElem?_eq_getElem hi']at hx;have hlt:off+i<l.length:=(List.getElem?_eq_some_iff.1 hx.symm).1;have hs:off+d+i<cs.size:=by have:=g3.1;omega
       refine ih i m'[i] y (List.getElem?_eq_getElem hi') hy ?_;refine g5 (off+i) _ _ hx.symm ?_;rw[show off+i+d=off+d+i from by omega];simp[hs,Array.getD]
   . rw[h1]at g1;cases g1
  | @fy _ _ h1=>
   rcases hB with ⟨c',d',cs,fr,g1,_⟩|⟨g1,g2⟩
   . rw[h1]at g1;cases g1
   . have:m0=[]:=List.eq_nil_of_length_eq_zero (by omega);subst this;exact .dY (by rcases hcc with rfl|rfl <;> simp)
  | eK c o' h1 _ _=>
   rcases hB with ⟨c',d',cs,fr,g1,_⟩|⟨g1,g2⟩ <;> (rw[h1]at g1;cases g1)
  | fz a h1=>
   rcases hB with ⟨c',d',cs,fr,g1,_⟩|⟨g1,g2⟩ <;> (rw[h1]at g1;cases g1)
  | fu h1=>
   rcases hB with ⟨c',d',cs,fr,g1,_⟩|⟨g1,g2⟩ <;> (rw[h1]at g1;cases g1)
 | @ptr b off l m0 e hb ha hl hg ih=>
  intro v hv;have hB:=m.cQ b _ (hat ha);cases hv with
  | @ptr _ c d _ h1=>
   rcases hB with ⟨c',d',cs,fr,g1,g2,g3,g4,g5⟩|⟨g1,_⟩
   . rw[h1]at g1;cases g1;refine .vp c (off+d) (fun i=>cs.getD (off+d+i) (.bool false)) (fun _=>hfree hb h1) (fun i hi=>?_) (fun i y hy=>?_)
     . have:off+d+i<cs.size:=by have:=g3.1;simp at hl;omega
       simp only[World.cell?,g2];simp[this,Array.getD]
     . have hi:i<m0.length:=(List.getElem?_eq_some_iff.1 hy).1;have hi':i<(l.drop off).length:=by omega
       have hlt:off+i<l.length:=by simp at hi';omega
       have hs:off+d+i<cs.size:=by have:=g3.1;omega
       refine ih i _ y (List.getElem?_eq_getElem hi') hy ?_;refine g5 (off+i) _ _ (by rw[List.getElem_drop];exact List.getElem?_eq_getElem hlt) ?_;rw[show off+i+d=off+d+i from by omega];simp[hs,Array.getD]
   . rw[h1]at g1;cases g1
  | dX _ c o' h1=>
   rcases hB with ⟨c',d',cs,fr,g1,_⟩|⟨g1,g2⟩ <;> (rw[h1]at g1;cases g1)
 | @vs l l0 n cap hl hg ih=>
  intro v hv;cases hv with
  | vs c o g hf h2 h3 h4 h5=>
   refine .vs c o g (fun hn=>(hf fun e=>?_).dy S) h2 h3 (fun i hi=>h4 i (by omega)) (fun i y hy=>?_)
   . subst e;exact hn (List.eq_nil_of_length_eq_zero (by simp at hl;omega))
   . have hi:i<l.length:=by have:=(List.getElem?_eq_some_iff.1 hy).1;omega
     exact ih i _ y (List.getElem?_eq_getElem hi) hy (h5 i _ (List.getElem?_eq_getElem hi))
  | dY hc=>
   have:l0=[]:=List.eq_nil_of_length_eq_zero (by simp at hl;omega);subst this;exact .dY hc
  | fv a hc=>
   have:l0=[]:=List.eq_nil_of_length_eq_zero (by simp at hl;omega);subst this;exact .fv a hc
 | @agg l l0 hl hg ih=>
  intro v hv;cases hv with
  | @agg _ mm h1 h2=>
   refine .agg (by omega) fun i y z hy hz=>?_
   have hi:i<l.length:=by have:=(List.getElem?_eq_some_iff.1 hy).1;omega
   exact ih i _ y (List.getElem?_eq_getElem hi) hy (h2 i _ z (List.getElem?_eq_getElem hi) hz)
 | @au l l0 hl hg ih=>
  intro v hv;cases hv with
  | @au _ mm h1 h2=>
   refine .au (by omega) fun i y z hy hz=>?_
   have hi:i<l.length:=by have:=(List.getElem?_eq_some_iff.1 hy).1;omega
   exact ih i _ y (List.getElem?_eq_getElem hi) hy (h2 i _ z (List.getElem?_eq_getElem hi) hz)
 | @fn f fi fi0 ca ca0 hf h1 h2 g1 g2 ih1 ih2=>
  intro v hv;cases hv with
  | fn hf' a1 a2 a3 a4=>
   refine .fn hf (by omega) (by omega) (fun i y z hy hz=>?_) (fun i y z hy hz=>?_)
   . have hi:i<fi.length:=by have:=(List.getElem?_eq_some_iff.1 hy).1;omega
     exact ih1 i _ y (List.getElem?_eq_getElem hi) hy (a3 i _ z (List.getElem?_eq_getElem hi) hz)
   . have hi:i<ca.length:=by have:=(List.getElem?_eq_some_iff.1 hy).1;omega
     exact ih2 i _ y (List.getElem?_eq_getElem hi) hy (a4 i _ z (List.getElem?_eq_getElem hi) hz)
  | yield _=>exact absurd rfl (hf _)
  | gN _ _=>exact absurd rfl (hf _)
theorem gR.view (m:Mem P gl ρ h w){S:List Nat}{l l0:List AV}(hr:gR h S l l0){vs:List Value}(hv:VL ρ w l vs):VL (dy ρ S) w l0 vs:=
 ⟨by rw[←hr.1];exact hv.1,fun i y z hy hz=>by
  have hi:i<l.length:=by have:=(List.getElem?_eq_some_iff.1 hy).1;have:=hr.1;omega
  exact(hr.2 i _ y (List.getElem?_eq_getElem hi) hy).view m (hv.2 i _ z (List.getElem?_eq_getElem hi) hz)⟩
theorem Mem.dy (hgl:∀g v,gl g=some v->v.top=0)(m:Mem P gl ρ h w)(S:List Nat):Mem P gl (dy ρ S) [] w:=by
 refine⟨fun b o hb=>by simp at hb,fun b _=>rfl,?_,?_,?_,?_,fun g v hg=>?_⟩
 . intro b b' c d d' h1;simp[Go.Ab.dy]at h1
 . intro b c d h1;simp[Go.Ab.dy]at h1
 . rintro c (hc|⟨b,d,hb,_⟩)
   . exact m.xb c hc
   . exact m.bound b c d hb
 . intro b c d h1;simp[Go.Ab.dy]at h1
 . exact(m.gl g v hg).gp (n:=0) (fun b hb=>by omega) (fun c hc=>hc.dy S) (by rw[hgl g v hg];exact Nat.le_refl _)
theorem IB (m:Mem P gl ρ h w){S ks:List Nat}{v v1:AV}{hh:ab}{bs:List bw}{v':Value}{w':World}(hnd:ks.Nodup)(hv1:Rn ks h.length v v1)(hlen:ks.length=bs.length)
 (hbs:∀(i b:Nat) o1,ks[i]? = some b->bs[i]? = some o1->∃o,hh.at b=some o/\sd ks h.length o o1/\(S=[]\/vO o=true)) (hn:S=[]\/dh v=true) (hd:eL P gl (dy ρ S) [] w ⟨v,hh,[]⟩ v' w') :
 eL P gl ρ h w ⟨v1,h++bs.map some,[]⟩ v' w':=by
 obtain⟨ρ',hv,m',x⟩:=hd;have bR:∀c,c<w.heap.size->w'.heap[c]? = w.heap[c]? := fun c hc=>x.bR c hc fun b d hb=>by simp[Go.Ab.dy]at hb
 have new:∀b c d,ρ' b = .live c d->w.heap.size<=c:=fun b c d hb=>by
  rcases Nat.lt_or_ge c w.heap.size with hc|hc
  . rcases x.back b c d hb hc with h1|⟨b0,d0,h1,_⟩ <;> simp[Go.Ab.dy]at h1
  . exact hc
 have hat:∀{b o},hh.at b=some o->hh[b]? = some (some o):=fun {b o} hb=>by
  unfold ab.at at hb;cases hz:hh[b]? with
  | none=>rw[hz]at hb;cases hb
  | some z=>rw[hz]at hb;simp only[Option.join_some]at hb;rw[hb]
 let ρ1:ax:=⟨fun b=>if b<h.length then ρ b else match ks[b-h.length]? with|some k=>ρ' k|none=>.fresh,ρ.X⟩
 have hlt:∀b,b<h.length->ρ1 b=ρ b:=fun b hb=>by show (if _ then _ else _)=_;rw[if_pos hb]
 have hge:∀(i k:Nat),ks[i]? = some k->ρ1 (h.length+i)=ρ' k:=fun i k hk=>by show (if _ then _ else _)=_;rw[if_neg (by omega)];simp[hk]
 have hback:∀b c d,h.length<=b->ρ1 b = .live c d->∃k:Nat,ks[b-h.length]? = some k/\ρ' k = .live c d:=fun b c d hb hl=>by
  have:ρ1 b=match ks[b-h.length]? with|some k=>ρ' k|none=>.fresh:=by show (if _ then _ else _)=_;rw[if_neg (by omega)]
  rw[this]at hl;cases hk:ks[b-h.length]? with
  | none=>rw[hk]at hl;cases hl
  | some k=>rw[hk]at hl;exact⟨k,rfl,hl⟩
 have hfr:∀b,ρ b≠.fresh->b<h.length:=fun b hb=>by
  rcases Nat.lt_or_ge b h.length with h1|h1
  . exact h1
  . exact absurd (m.fresh b h1) hb
 have E:Ext h (h++bs.map some) ρ ρ1 w w':=by
  refine⟨x.os,x.tape,x.output,x.size,by simp,rfl,?_,?_,?_,?_,?_,?_,?_,x.shape⟩
  . intro b hb;have:=(List.getElem?_eq_some_iff.1 hb).1;rw[List.getElem?_append_left this];exact hb
  . intro b hb;exact hlt b (List.getElem?_eq_some_iff.1 hb).1
  . intro b c d hb;exact .inl ((hlt b (hfr b (by rw[hb];simp))).trans hb)
  . intro b hb;exact(hlt b (hfr b (by rw[hb];simp))).trans hb
  . intro b hb;exact .inl ((hlt b (hfr b (by rw[hb];simp))).trans hb)
  . intro c hc _;exact bR c hc
  . intro b c d hb hc;rcases Nat.lt_or_ge b h.length with h1|h1
    . rw[hlt b h1]at hb;exact .inl hb
    . obtain⟨k,_,hk⟩:=hback b c d h1 hb;have:=new _ _ _ hk;omega
 have hF:S=[]->∀c,cL ρ' c->cL ρ1 c:=by
  intro hS c hc;have hX:ρ'.X=(dy ρ S).X:=x.X;have h2:=hc.2;rw[hX]at h2;refine⟨fun b d hb=>?_,fun hx=>h2 (.inl hx)⟩;rcases Nat.lt_or_ge b h.length with h1|h1
  . rw[hlt b h1]at hb;exact h2 (.inr ⟨b,d,hb,by rw[hS];simp⟩)
  . obtain⟨k,_,hk⟩:=hback b c d h1 hb;exact hc.1 _ _ hk
 have hvs:∀{a a1:AV} {u:Value},(S=[]\/dh a=true)->Rn ks h.length a a1->V ρ' w' a u->V ρ1 w' a1 u:=fun {a a1 u} hc hr hu=>
  hr.view hge (hc.elim (fun h=>.inr (hF h)) .inl) hu
 refine⟨ρ1,hvs hn hv1 hv,m.ext E ?_ ?_ ?_ ?_,E⟩
 . intro b o hb;rcases Nat.lt_or_ge b h.length with h1|h1
   . rw[List.getElem?_append_left h1]at hb;exact(m.cQ b o hb).mono E (hlt b h1) fun c d hl=>bR c (m.bound b c d hl)
   . rw[List.getElem?_append_right h1]at hb;obtain⟨o1,hq,rfl⟩:∃o1,bs[b-h.length]? = some o1/\o1=o:=by simpa using hb
     have hi:b-h.length<ks.length:=by have:=(List.getElem?_eq_some_iff.1 hq).1;omega
     have hk:ks[b-h.length]? = some ks[b-h.length]:=List.getElem?_eq_getElem hi;obtain⟨o,ho,hB,hnb⟩:=hbs _ _ _ hk hq;have hB':=m'.cQ _ _ (hat ho);have hb1:ρ1 b=ρ' ks[b-h.length]:=by have:=hge _ _ hk;rwa [show h.length+(b-h.length)=b from by omega]at this
     cases hB with
     | @cells l l0 e hl=>
      rcases hB' with ⟨c,d,cs,fr,g1,g2,g3,g4,g5⟩|⟨g1,g2⟩
      . refine .inl ⟨c,d,cs,fr,hb1.trans g1,g2,⟨by have:=hl.1;have:=g3.1;omega,fun he=>⟨(g3.2 he).1,by have:=hl.1;have:=(g3.2 he).2;omega⟩⟩,g4,fun i y z hy hz=>?_⟩;have hi:i<l.length:=by have:=(List.getElem?_eq_some_iff.1 hy).1;have:=hl.1;omega
        exact hvs (hnb.imp id fun hh'=>gG hh' (List.getElem?_eq_getElem hi)) (hl.2 i _ y (List.getElem?_eq_getElem hi) hy) (g5 i _ z (List.getElem?_eq_getElem hi) hz)
      . refine .inr ⟨hb1.trans g1,?_⟩;have:=hl.1;rw[g2]at this;exact List.eq_nil_of_length_eq_zero (by simp at this;omega)
     | @map es es0 hl1 hl2=>
      obtain⟨c,ms,clk,g1,g2,g3,g4⟩:=hB';have hle:es.length=es0.length:=by have:=hl1.1;simpa using this
      refine⟨c,ms,clk,hb1.trans g1,g2,by omega,fun i kx vx mm hx hm=>?_⟩;have hi:i<es.length:=by have:=(List.getElem?_eq_some_iff.1 hx).1;omega
      have he:es[i]? = some (es[i].1,es[i].2):=List.getElem?_eq_getElem hi;obtain⟨q1,q2⟩:=g4 i _ _ mm he hm;have r1:=hl1.2 i es[i].1 kx (by simp[he]) (by simp[hx]);have r2:=hl2.2 i es[i].2 vx (by simp[he]) (by simp[hx]);have hnn:S=[]\/(dh es[i].1=true/\dh es[i].2=true):=hnb.imp id fun hh'=>by
       simp only[vO,Bool.and_eq_true]at hh';exact⟨gG hh'.1 (i:=i) (by simp[he]),gG hh'.2 (i:=i) (by simp[he])⟩
      exact⟨hvs (hnn.imp id (·.1)) r1 q1,hvs (hnn.imp id (·.2)) r2 q2⟩
 . intro b hb;simp at hb;show (if _ then _ else _)=_;rw[if_neg (by omega),List.getElem?_eq_none (by omega)]
 . intro b b' c d d' h1 h2;rcases Nat.lt_or_ge b h.length with hb|hb <;> rcases Nat.lt_or_ge b' h.length with hb'|hb'
   . rw[hlt b hb]at h1;rw[hlt b' hb']at h2;exact m.inj _ _ _ _ _ h1 h2
   . obtain⟨k,_,hk⟩:=hback _ _ _ hb' h2;rw[hlt b hb]at h1;have:=m.bound _ _ _ h1;have:=new _ _ _ hk;omega
   . obtain⟨k,_,hk⟩:=hback _ _ _ hb h1;rw[hlt b' hb']at h2;have:=m.bound _ _ _ h2;have:=new _ _ _ hk;omega
   . obtain⟨k,e1,hk⟩:=hback _ _ _ hb h1;obtain⟨k',e2,hk'⟩:=hback _ _ _ hb' h2;have:=m'.inj _ _ _ _ _ hk hk';subst this;obtain⟨l1,q1⟩:=List.getElem?_eq_some_iff.1 e1;obtain⟨l2,q2⟩:=List.getElem?_eq_some_iff.1 e2;have:=(List.getElem_inj hnd).1 (q1.trans q2.symm);omega
 . intro b c d hb;rcases Nat.lt_or_ge b h.length with h1|h1
   . rw[hlt b h1]at hb;exact Nat.lt_of_lt_of_le (m.bound _ _ _ hb) x.size
   . obtain⟨k,_,hk⟩:=hback _ _ _ h1 hb;exact m'.bound _ _ _ hk
theorem ID (hgl:∀g v,gl g=some v->v.top=0){f:Nat}{as as0:List AV}{v v1:AV}{hh:ab}{bs:List bw}{S ks:List Nat}(hr:gR h S as as0)(hnd:ks.Nodup)(hv1:Rn ks h.length v v1)(hlen:ks.length=bs.length)
 (hbs:∀(i b:Nat) o1,ks[i]? = some b->bs[i]? = some o1->∃o,hh.at b=some o/\sd ks h.length o o1/\(S=[]\/vO o=true)) (hn:S=[]\/dh v=true)
 (hloc:bN P gl ⟨f,as0,[],⟨v,hh,[]⟩⟩):bN P gl ⟨f,as,h,⟨v1,h++bs.map some,[]⟩⟩:=by
 refine⟨Bt _ _ _,fun ρ w as' m hl=>?_⟩;obtain⟨nx,w1,h1,h2⟩:=hloc.2 (dy ρ S) w as' (m.dy hgl S) (hr.view m hl);exact⟨nx,w1,h1,h2.mono fun v w' hd=>IB m hnd hv1 hlen hbs hn hd⟩
end Go.Ab
namespace Go.Ab
variable {c:an} {s:aq} {Q:aq->Prop} {l:List aT} {a b n:Int} {x y i:aN} {t:Nat} {pe as:List AV} {lo:List (Nat×AV)} {hp:ab} {df wr:List Nat} {d:eZ} {v:AV} {r:HR} {k:IntKind}
structure aw where
 ext:FuncId->List AV->ab->Option HR
 inv:fF
 FT:FuncId->Option cW
abbrev aw.ev (M:aw)(n:Nat):=bj M.ext M.inv M.FT n
abbrev aw.call (M:aw)(n:Nat):=gW (M.ev n) M.ext M.FT
structure W (M:aw)(c:an)(s:aq)(Q:Ex->aq->Prop):Prop where
 out:∃n e s',M.ev n c s=some (e,s')/\Q e s'
structure WO (M:aw)(l:List aT)(s:aq)(Q:aq->Prop):Prop where
 out:∃n s',eE (M.call n) M.inv l s=some s'/\Q s'
structure WD (M:aw)(l:List (aT×List Nat))(s:aq)(ds:List bV)(Q:aq->Prop):Prop where
 out:∃n s',dF (M.call n) M.inv l s ds=some s'/\Q s'
structure WC (M:aw)(g:AV)(as:List AV)(h:ab)(Q:HR->Prop):Prop where
 out:∃n r,M.call n g as h=some r/\Q r
def aS (M:aw)(f:FuncId)(as:List AV)(h:ab)(r:HR):Prop:=∃n,gD (M.ev n) M.FT f as h=some r
variable {M:aw}
theorem vP {n m:Nat}(h:n<=m){c:an}{s:aq}{x:Ex×aq}(hx:M.ev n c s=some x):M.ev m c s=some x:=vN h c s x hx
theorem jx {n m:Nat}(h:n<=m):pW (M.call n) (M.call m):=Iy (vN h)
theorem W.mono {Q R:Ex->aq->Prop}(h:W M c s Q)(hr:∀e s',Q e s'->R e s'):W M c s R:=by
 obtain⟨⟨n,e,s',h1,h2⟩⟩:=h;exact⟨⟨n,e,s',h1,hr _ _ h2⟩⟩
theorem WO.mono {R:aq->Prop}(h:WO M l s Q)(hr:∀s',Q s'->R s'):WO M l s R:=by
 obtain⟨⟨n,s',h1,h2⟩⟩:=h;exact⟨⟨n,s',h1,hr _ h2⟩⟩
structure SQ (M:aw)(b:an)(Q:Ex->aq->Prop)(e:Ex)(s:aq):Prop where
 out:match e with
  | .normal=>W M b s Q
  | e=>Q e s
structure BQ (id:Nat)(Q:Ex->aq->Prop)(e:Ex)(s:aq):Prop where
 out:match e with
  | .exit i=>if i=id then Q .normal s else Q (.exit i) s
  | e=>Q e s
structure LQ (M:aw)(c:an)(Q:Ex->aq->Prop)(e:Ex)(s:aq):Prop where
 out:match e with
  | .normal=>W M (.loop c) s Q
  | e=>Q e s
theorem afX {Q:Ex->aq->Prop}(h:Q .normal s):W M .skip s Q:=⟨⟨1,.normal,s,rfl,h⟩⟩
theorem afP {Q:Ex->aq->Prop}(h:Q .ret s):W M .ret s Q:=⟨⟨1,.ret,s,rfl,h⟩⟩
theorem ajF {i:Nat}{Q:Ex->aq->Prop}(h:Q (.exit i) s):W M (.exit i) s Q:=⟨⟨1,.exit i,s,rfl,h⟩⟩
theorem ads {a b:an}{Q:Ex->aq->Prop}(h:W M a s (SQ M b Q)):W M (.seq a b) s Q:=by
 obtain⟨⟨n,e,s1,h1,⟨h2⟩⟩⟩:=h;cases e with
 | normal=>
  obtain⟨⟨m,e,s2,h3,h4⟩⟩:=h2;refine⟨⟨max n m+1,e,s2,?_,h4⟩⟩;show bj _ _ _ _ _ _=_;rw[bj,show bj M.ext M.inv M.FT (max n m) _ s=_ from vP (Nat.le_max_left n m) h1];exact vP (Nat.le_max_right n m) h3
 | exit i=>refine⟨⟨n+1,.exit i,s1,?_,h2⟩⟩;show bj _ _ _ _ _ _=_;rw[bj,show bj _ _ _ n a s=_ from h1]
 | ret=>refine⟨⟨n+1,.ret,s1,?_,h2⟩⟩;show bj _ _ _ _ _ _=_;rw[bj,show bj _ _ _ n a s=_ from h1]
theorem ahQ {id:Nat}{Q:Ex->aq->Prop}(h:W M c s (BQ id Q)):W M (.block id c) s Q:=by
 obtain⟨⟨n,e,s1,h1,⟨h2⟩⟩⟩:=h;have h1':bj M.ext M.inv M.FT n c s=some (e,s1):=h1;cases e with
 | normal=>refine⟨⟨n+1,.normal,s1,?_,h2⟩⟩;show bj _ _ _ _ _ _=_;rw[bj,h1']
 | ret=>refine⟨⟨n+1,.ret,s1,?_,h2⟩⟩;show bj _ _ _ _ _ _=_;rw[bj,h1']
 | exit i=>
  simp only at h2;split at h2
  . rename_i hi;refine⟨⟨n+1,.normal,s1,?_,h2⟩⟩;show bj _ _ _ _ _ _=_;rw[bj,h1'];simp only[if_pos hi]
  . rename_i hi;refine⟨⟨n+1,.exit i,s1,?_,h2⟩⟩;show bj _ _ _ _ _ _=_;rw[bj,h1'];simp only[if_neg hi]
theorem W.loop {Q:Ex->aq->Prop}(h:W M c s (LQ M c Q)):W M (.loop c) s Q:=by
 obtain⟨⟨n,e,s1,h1,⟨h2⟩⟩⟩:=h;have h1':bj M.ext M.inv M.FT n c s=some (e,s1):=h1;cases e with
 | normal=>
  obtain⟨⟨m,e,s2,h3,h4⟩⟩:=h2;refine⟨⟨max n m+1,e,s2,?_,h4⟩⟩;show bj _ _ _ _ _ _=_;rw[bj,show bj M.ext M.inv M.FT (max n m) _ s=_ from vP (Nat.le_max_left n m) h1];exact vP (Nat.le_max_right n m) h3
 | exit i=>refine⟨⟨n+1,.exit i,s1,?_,h2⟩⟩;show bj _ _ _ _ _ _=_;rw[bj,h1']
 | ret=>refine⟨⟨n+1,.ret,s1,?_,h2⟩⟩;show bj _ _ _ _ _ _=_;rw[bj,h1']
theorem W.cond {t:Bool}{a b:an}{Q:Ex->aq->Prop}(h:s.s.ae x=some (.bool t))(h1:t=true->W M a s Q)(h2:t=false->W M b s Q):W M (.cond x a b) s Q:=by
 cases t with
 | true=>
  obtain⟨⟨n,e,s',h3,h4⟩⟩:=h1 rfl;refine⟨⟨n+1,e,s',?_,h4⟩⟩;show bj _ _ _ _ _ _=_;rw[bj,h];exact h3
 | false=>
  obtain⟨⟨n,e,s',h3,h4⟩⟩:=h2 rfl;refine⟨⟨n+1,e,s',?_,h4⟩⟩;show bj _ _ _ _ _ _=_;rw[bj,h];exact h3
theorem aff {a b:an}{Q:Ex->aq->Prop}(h:s.s.ae x=some (.bool true))(h1:W M a s Q):W M (.cond x a b) s Q:=W.cond h (fun _=>h1) (fun h=>by cases h)
theorem agf {a b:an}{Q:Ex->aq->Prop}(h:s.s.ae x=some (.bool false))(h1:W M b s Q):W M (.cond x a b) s Q:=W.cond h (fun h=>by cases h) (fun _=>h1)
theorem adt {Q:Ex->aq->Prop}(h:WO M l ⟨⟨pe,[],hp,df⟩,wr⟩ (Q .normal)):W M (.region l) ⟨⟨pe,lo,hp,df⟩,wr⟩ Q:=by
 obtain⟨⟨n,s',h1,h2⟩⟩:=h;refine⟨⟨n+1,.normal,s',?_,h2⟩⟩;show bj _ _ _ _ _ _=_;rw[bj,h1]
theorem agJ {l:List (aT×List Nat)}{Q:Ex->aq->Prop}(h:WD M l ⟨⟨pe,[],hp,df⟩,wr⟩ [] (Q .normal)):W M (.draw l) ⟨⟨pe,lo,hp,df⟩,wr⟩ Q:=by
 obtain⟨⟨n,s',h1,h2⟩⟩:=h;refine⟨⟨n+1,.normal,s',?_,h2⟩⟩;show bj _ _ _ _ _ _=_;rw[bj,h1]
theorem adP (h:Q s):WO M [] s Q:=⟨⟨0,s,rfl,h⟩⟩
def ba.pZ:ba->Bool
 | .call .. | .invoke .. => false
 | _=>true
structure WP (M:aw)(s:St)(op:ba)(Q:HR->Prop):Prop where
 out:∃n r,bI (M.call n) M.inv s op=some r/\Q r
theorem WO.op {d:eZ}{op:ba}{l:List aT}{s:aq}{Q:aq->Prop}(h:WP M s.s op fun r=>WO M l ⟨{ s.s.put d r.v with hp:=r.h },r.wr++s.wr⟩ Q):WO M (⟨d,op,none⟩::l) s Q:=by
 obtain⟨⟨n,r,h1,⟨⟨m,s',h2,h3⟩⟩⟩⟩:=h;refine⟨⟨max n m,s',?_,h3⟩⟩;simp only[eE,dI];rw[vK (jx (Nat.le_max_left n m)) h1];exact mG (jx (Nat.le_max_right n m)) _ _ _ h2
theorem WO.skip {op:ba}{t want:Bool}(hx:s.s.ae x=some (.bool t))(ht:(t == want)=false)(h:WO M l ⟨s.s.put d cm,s.wr⟩ Q):WO M (⟨d,op,some (x,want)⟩::l) s Q:=by
 obtain⟨⟨n,s',h1,h2⟩⟩:=h;refine⟨⟨n,s',?_,h2⟩⟩;simp only[eE,dI,hx,ht];exact h1
theorem WO.take {op:ba}{t want:Bool}(hx:s.s.ae x=some (.bool t))(ht:(t == want)=true)(h:WO M (⟨d,op,none⟩::l) s Q):WO M (⟨d,op,some (x,want)⟩::l) s Q:=by
 obtain⟨⟨n,s',h1,h2⟩⟩:=h;refine⟨⟨n,s',?_,h2⟩⟩;simp only[eE,dI,hx,ht]at h1 ⊢;exact h1
theorem WO.TO {op:ba}(hx:s.s.ae x=some (.au [])){want:Bool}(h:WO M l ⟨s.s.put d cm,s.wr⟩ Q):WO M (⟨d,op,some (x,want)⟩::l) s Q:=by
 obtain⟨⟨n,s',h1,h2⟩⟩:=h;refine⟨⟨n,s',?_,h2⟩⟩;simp only[eE,dI,hx];exact h1
theorem agG {op:ba}(hx:s.s.ae x=some (.bool true))(h:WO M (⟨d,op,none⟩::l) s Q):WO M (⟨d,op,some (x,true)⟩::l) s Q:=WO.take hx rfl h
theorem ahb {op:ba}(hx:s.s.ae x=some (.bool false))(h:WO M (⟨d,op,none⟩::l) s Q):WO M (⟨d,op,some (x,false)⟩::l) s Q:=WO.take hx rfl h
theorem agL {op:ba}(hx:(St.mk pe lo hp df).ae x=some (.bool false))(h:WO M l ⟨⟨pe,(t,cm)::lo,hp,df⟩,wr⟩ Q):WO M (⟨.l t,op,some (x,true)⟩::l) ⟨⟨pe,lo,hp,df⟩,wr⟩ Q:=WO.skip hx rfl h
theorem aiL {op:ba}(hx:(St.mk pe lo hp df).ae x=some (.bool true))(h:WO M l ⟨⟨pe,(t,cm)::lo,hp,df⟩,wr⟩ Q):WO M (⟨.l t,op,some (x,false)⟩::l) ⟨⟨pe,lo,hp,df⟩,wr⟩ Q:=WO.skip hx rfl h
theorem WP.pure {s:St}{op:ba}{Q:HR->Prop}(hh:op.bA=false)(hv:aV s op=some v)(h:Q ⟨v,s.hp,[]⟩):WP M s op Q:=by
 refine⟨⟨0,_,?_,h⟩⟩;cases op <;> first|(cases hh;done)|simp only[bI,ba.bA,hv,Bool.false_eq_true,if_false,Option.map_some]
theorem WP.heap {s:St}{op:ba}{Q:HR->Prop}(hh:op.bA=true)(hc:op.pZ=true)(hv:bB s op s.hp=some r)(h:Q r):WP M s op Q:=by
 refine⟨⟨0,_,?_,h⟩⟩;cases op <;> first|(cases hh;done)|(cases hc;done)|(simp only[bI,ba.bA,if_true];exact hv)
theorem WP.call {s:St}{f:aN}{args:List aN}{g:AV}{Q:HR->Prop}(hf:s.ae f=some g)(ha:s.cE args=some as)(h:WC M g as s.hp Q):WP M s (.call f args) Q:=by
 obtain⟨⟨n,r,h1,h2⟩⟩:=h;refine⟨⟨n,r,?_,h2⟩⟩;simp only[bI,hf,ha];exact h1
theorem WC.ext {f:FuncId}{fi ca:List AV}{h:ab}{Q:HR->Prop}(he:M.ext f (fi++as++ca) h=some r)(hq:Q r):WC M (.fn (.func f) fi ca) as h Q:=
 ⟨⟨0,r,by simp only[gW,he],hq⟩⟩
theorem WO.TP {f:aN}{args:List aN}{g:FuncId}{fi ca:List AV}(hf:s.s.ae f=some (.fn (.func g) fi ca))(ha:s.s.cE args=some as)(he:M.ext g (fi++as++ca) s.s.hp=some r)
 (h:WO M l ⟨{ s.s.put d r.v with hp:=r.h },r.wr++s.wr⟩ Q):WO M (⟨d,.call f args,none⟩::l) s Q:=WO.op (WP.call hf ha (WC.ext he h))
theorem aak {op:ba}(hv:aV ⟨pe,lo,hp,df⟩ op=some v)(hh:op.bA=false)(h:WO M l ⟨⟨pe,(t,v)::lo,hp,df⟩,wr⟩ Q) :
 WO M (⟨.l t,op,none⟩::l) ⟨⟨pe,lo,hp,df⟩,wr⟩ Q:=WO.op (WP.pure hh hv h)
theorem adU {i:Nat}{op:ba}(hv:aV ⟨pe,lo,hp,df⟩ op=some v)(hh:op.bA=false)(h:WO M l ⟨⟨pe.set i v,lo,hp,df⟩,wr⟩ Q) :
 WO M (⟨.p i,op,none⟩::l) ⟨⟨pe,lo,hp,df⟩,wr⟩ Q:=WO.op (WP.pure hh hv h)
theorem WO.hl {op:ba}(hv:bB ⟨pe,lo,hp,df⟩ op hp=some r)(hh:op.bA=true)(hc:op.pZ=true)
 (h:WO M l ⟨⟨pe,(t,r.v)::lo,r.h,df⟩,r.wr++wr⟩ Q):WO M (⟨.l t,op,none⟩::l) ⟨⟨pe,lo,hp,df⟩,wr⟩ Q:=WO.op (WP.heap hh hc hv h)
theorem WO.hn {op:ba}(hv:bB ⟨pe,lo,hp,df⟩ op hp=some r)(hh:op.bA=true)(hc:op.pZ=true)
 (h:WO M l ⟨⟨pe,lo,r.h,df⟩,r.wr++wr⟩ Q):WO M (⟨.no,op,none⟩::l) ⟨⟨pe,lo,hp,df⟩,wr⟩ Q:=WO.op (WP.heap hh hc hv h)
theorem abt (hx:(St.mk pe lo hp df).ae x=some (.int k a))(hy:(St.mk pe lo hp df).ae y=some (.int k b))
 (h1:a<b->WO M l ⟨⟨pe,(t,.bool true)::lo,hp,df⟩,wr⟩ Q) (h2:b<=a->WO M l ⟨⟨pe,(t,.bool false)::lo,hp,df⟩,wr⟩ Q):WO M (⟨.l t,.bin .lss x y,none⟩::l) ⟨⟨pe,lo,hp,df⟩,wr⟩ Q:=by
 refine WO.op (WP.pure (v:=.bool (decide (a<b))) rfl (by simp[aV,hx,hy,cK]) ?_);by_cases h:a<b
 . rw[decide_eq_true h];exact h1 h
 . rw[decide_eq_false h];exact h2 (by omega)
theorem agM (hx:(St.mk pe lo hp df).ae x=some (.int k a))(hy:(St.mk pe lo hp df).ae y=some (.int k b))
 (h1:a<=b->WO M l ⟨⟨pe,(t,.bool true)::lo,hp,df⟩,wr⟩ Q) (h2:b<a->WO M l ⟨⟨pe,(t,.bool false)::lo,hp,df⟩,wr⟩ Q):WO M (⟨.l t,.bin .leq x y,none⟩::l) ⟨⟨pe,lo,hp,df⟩,wr⟩ Q:=by
 refine WO.op (WP.pure (v:=.bool (decide (a<=b))) rfl (by simp[aV,hx,hy,cK]) ?_);by_cases h:a<=b
 . rw[decide_eq_true h];exact h1 h
 . rw[decide_eq_false h];exact h2 (by omega)
theorem acs (hx:(St.mk pe lo hp df).ae x=some (.int k a))(hy:(St.mk pe lo hp df).ae y=some (.int k b))
 (h1:b<a->WO M l ⟨⟨pe,(t,.bool true)::lo,hp,df⟩,wr⟩ Q) (h2:a<=b->WO M l ⟨⟨pe,(t,.bool false)::lo,hp,df⟩,wr⟩ Q):WO M (⟨.l t,.bin .gtr x y,none⟩::l) ⟨⟨pe,lo,hp,df⟩,wr⟩ Q:=by
 refine WO.op (WP.pure (v:=.bool (decide (a > b))) rfl (by simp[aV,hx,hy,cK]) ?_);by_cases h:b<a
 . rw[decide_eq_true h];exact h1 h
 . rw[decide_eq_false h];exact h2 (by omega)
theorem afd (hx:(St.mk pe lo hp df).ae x=some (.int k a))(hy:(St.mk pe lo hp df).ae y=some (.int k b))
 (h1:b<=a->WO M l ⟨⟨pe,(t,.bool true)::lo,hp,df⟩,wr⟩ Q) (h2:a<b->WO M l ⟨⟨pe,(t,.bool false)::lo,hp,df⟩,wr⟩ Q):WO M (⟨.l t,.bin .geq x y,none⟩::l) ⟨⟨pe,lo,hp,df⟩,wr⟩ Q:=by
 refine WO.op (WP.pure (v:=.bool (decide (a>=b))) rfl (by simp[aV,hx,hy,cK]) ?_);by_cases h:b<=a
 . rw[decide_eq_true h];exact h1 h
 . rw[decide_eq_false h];exact h2 (by omega)
theorem acJ (hx:(St.mk pe lo hp df).ae x=some (.int k a))(hy:(St.mk pe lo hp df).ae y=some (.int k b))
 (h1:a=b->WO M l ⟨⟨pe,(t,.bool true)::lo,hp,df⟩,wr⟩ Q) (h2:a≠b->WO M l ⟨⟨pe,(t,.bool false)::lo,hp,df⟩,wr⟩ Q):WO M (⟨.l t,.bin .eql x y,none⟩::l) ⟨⟨pe,lo,hp,df⟩,wr⟩ Q:=by
 refine WO.op (WP.pure (v:=.bool (a == b)) rfl (by simp[aV,hx,hy,cK]) ?_);by_cases h:a=b
 . rw[beq_iff_eq.2 h];exact h1 h
 . rw[beq_eq_false_iff_ne.2 h];exact h2 h
theorem adW (hx:(St.mk pe lo hp df).ae x=some (.int k a))(hy:(St.mk pe lo hp df).ae y=some (.int k b))
 (h1:a≠b->WO M l ⟨⟨pe,(t,.bool true)::lo,hp,df⟩,wr⟩ Q) (h2:a=b->WO M l ⟨⟨pe,(t,.bool false)::lo,hp,df⟩,wr⟩ Q):WO M (⟨.l t,.bin .neq x y,none⟩::l) ⟨⟨pe,lo,hp,df⟩,wr⟩ Q:=by
 refine WO.op (WP.pure (v:=.bool (a != b)) rfl (by simp[aV,hx,hy,cK]) ?_);by_cases h:a=b
 . rw[bne_eq_false_iff_eq.2 h];exact h2 h
 . rw[bne_iff_ne.2 h];exact h1 h
theorem aeX {a b:List UInt8}(hx:(St.mk pe lo hp df).ae x=some (.str a))(hy:(St.mk pe lo hp df).ae y=some (.str b))
 (h1:a=b->WO M l ⟨⟨pe,(t,.bool true)::lo,hp,df⟩,wr⟩ Q) (h2:a≠b->WO M l ⟨⟨pe,(t,.bool false)::lo,hp,df⟩,wr⟩ Q):WO M (⟨.l t,.bin .eql x y,none⟩::l) ⟨⟨pe,lo,hp,df⟩,wr⟩ Q:=by
 refine WO.op (WP.pure (v:=.bool (a == b)) rfl (by simp[aV,hx,hy,cK]) ?_);by_cases h:a=b
 . rw[beq_iff_eq.2 h];exact h1 h
 . rw[beq_eq_false_iff_ne.2 h];exact h2 h
theorem ahz {a b:List UInt8}(hx:(St.mk pe lo hp df).ae x=some (.str a))(hy:(St.mk pe lo hp df).ae y=some (.str b))
 (h1:a≠b->WO M l ⟨⟨pe,(t,.bool true)::lo,hp,df⟩,wr⟩ Q) (h2:a=b->WO M l ⟨⟨pe,(t,.bool false)::lo,hp,df⟩,wr⟩ Q):WO M (⟨.l t,.bin .neq x y,none⟩::l) ⟨⟨pe,lo,hp,df⟩,wr⟩ Q:=by
 refine WO.op (WP.pure (v:=.bool !(a == b)) rfl (by simp[aV,hx,hy,cK]) ?_);by_cases h:a=b
 . rw[beq_iff_eq.2 h];exact h2 h
 . rw[beq_eq_false_iff_ne.2 h];exact h1 h
theorem nY (h : -9223372036854775808<=n/\n<9223372036854775808):IntKind.i64.wrap n=n:=IntWalk.i64_in _ (by omega)
theorem aip (hx:(St.mk pe lo hp df).ae x=some (.int .i64 a))(hy:(St.mk pe lo hp df).ae y=some (.int .i64 b))
 (hr : -9223372036854775808<=a+b/\a+b<9223372036854775808) (h:WO M l ⟨⟨pe,(t,.int .i64 (a+b))::lo,hp,df⟩,wr⟩ Q):WO M (⟨.l t,.bin .add x y,none⟩::l) ⟨⟨pe,lo,hp,df⟩,wr⟩ Q:=
 WO.op (WP.pure (v:=.int .i64 (a+b)) rfl (by simp[aV,hx,hy,cK,nY hr]) h)
theorem ahc (hx:(St.mk pe lo hp df).ae x=some (.int .i64 a))(hy:(St.mk pe lo hp df).ae y=some (.int .i64 b))
 (hr : -9223372036854775808<=a-b/\a-b<9223372036854775808) (h:WO M l ⟨⟨pe,(t,.int .i64 (a-b))::lo,hp,df⟩,wr⟩ Q):WO M (⟨.l t,.bin .sub x y,none⟩::l) ⟨⟨pe,lo,hp,df⟩,wr⟩ Q:=
 WO.op (WP.pure (v:=.int .i64 (a-b)) rfl (by simp[aV,hx,hy,cK,nY hr]) h)
theorem ajj (hx:(St.mk pe lo hp df).ae x=some (.int .i64 a))(hy:(St.mk pe lo hp df).ae y=some (.int .i64 b))
 (hr : -9223372036854775808<=a*b/\a*b<9223372036854775808) (h:WO M l ⟨⟨pe,(t,.int .i64 (a*b))::lo,hp,df⟩,wr⟩ Q):WO M (⟨.l t,.bin .mul x y,none⟩::l) ⟨⟨pe,lo,hp,df⟩,wr⟩ Q:=
 WO.op (WP.pure (v:=.int .i64 (a*b)) rfl (by simp[aV,hx,hy,cK,nY hr]) h)
theorem aiw (hx:(St.mk pe lo hp df).ae x=some (.int .i64 a))(hy:(St.mk pe lo hp df).ae y=some (.int .i64 b))
 (hb:0<b) (hr : -9223372036854775808<=a/\a<9223372036854775808) (h:WO M l ⟨⟨pe,(t,.int .i64 (a.tdiv b))::lo,hp,df⟩,wr⟩ Q):WO M (⟨.l t,.bin .quo x y,none⟩::l) ⟨⟨pe,lo,hp,df⟩,wr⟩ Q:=by
 have hb':b≠0:=by omega
 have h1:(a.tdiv b).natAbs<=a.natAbs:=by rw[Int.natAbs_tdiv];exact Nat.div_le_self _ _
 have h2 : -9223372036854775808<=a.tdiv b/\a.tdiv b<9223372036854775808:=by
  rcases Int.le_total 0 a with h0|h0
  . have:=Int.tdiv_nonneg h0 (Int.le_of_lt hb);omega
  . have:a.tdiv b<=0:=by
     have:=Int.tdiv_nonneg (a:=-a) (b:=b) (by omega) (Int.le_of_lt hb);rw[Int.neg_tdiv]at this;omega
    omega
 exact WO.op (WP.pure (v:=.int .i64 (a.tdiv b)) rfl (by simp[aV,hx,hy,cK,hb',nY h2]) h)
theorem aix (hx:(St.mk pe lo hp df).ae x=some (.int k a))(hy:(St.mk pe lo hp df).ae y=some (.int k b))
 (hb:b≠0) (h:WO M l ⟨⟨pe,(t,.int k (a.tmod b))::lo,hp,df⟩,wr⟩ Q):WO M (⟨.l t,.bin .rem x y,none⟩::l) ⟨⟨pe,lo,hp,df⟩,wr⟩ Q:=
 WO.op (WP.pure (v:=.int k (a.tmod b)) rfl (by simp[aV,hx,hy,cK,hb]) h)
theorem aiq {esz:Nat}{c:List AV}{len:Nat}{cap:Option Nat}(hx:(St.mk pe lo hp df).ae x=some (.vs c len cap))(hy:(St.mk pe lo hp df).ae i=some (.int k n))
 (hb:0<=n/\n<len) (h:WO M l ⟨⟨pe,(t,.vp (c.drop (n.toNat*esz)))::lo,hp,df⟩,wr⟩ Q):WO M (⟨.l t,.du none esz x i,none⟩::l) ⟨⟨pe,lo,hp,df⟩,wr⟩ Q:=
 WO.op (WP.pure (v:=.vp (c.drop (n.toNat*esz))) rfl (by simp[aV,hx,hy,nz,hb]) h)
theorem ajl {esz b o len:Nat}{cap:Option Nat}(hx:(St.mk pe lo hp df).ae x=some (.sl b o len esz cap))(hy:(St.mk pe lo hp df).ae i=some (.int k n))
 (hb:0<=n/\n<len) (h:WO M l ⟨⟨pe,(t,.ptr b (o+n.toNat*esz))::lo,hp,df⟩,wr⟩ Q):WO M (⟨.l t,.du none esz x i,none⟩::l) ⟨⟨pe,lo,hp,df⟩,wr⟩ Q:=
 WO.op (WP.pure (v:=.ptr b (o+n.toNat*esz)) rfl (by simp[aV,hx,hy,nz,hb]) h)
theorem air {s:List UInt8}(hx:(St.mk pe lo hp df).ae x=some (.str s))(hy:(St.mk pe lo hp df).ae i=some (.int k n))
 (hb:0<=n/\n<s.length) (h:WO M l ⟨⟨pe,(t,.int .u8 (s[n.toNat]!).toNat)::lo,hp,df⟩,wr⟩ Q):WO M (⟨.l t,.index x i,none⟩::l) ⟨⟨pe,lo,hp,df⟩,wr⟩ Q:=by
 have h1:n.toNat<s.length:=by omega
 refine WO.op (WP.pure (v:=.int .u8 (s[n.toNat]!).toNat) rfl ?_ h);simp[aV,hx,hy,ur,hb.1,h1]
theorem dw {b:an}{s:aq}{Q}(h:W M b s Q):SQ M b Q .normal s:=⟨h⟩
theorem QH {b:an}{s:aq}{Q}{i:Nat}(h:Q (.exit i) s):SQ M b Q (.exit i) s:=⟨h⟩
theorem mf {b:an}{s:aq}{Q}(h:Q .ret s):SQ M b Q .ret s:=⟨h⟩
theorem uw {b:Nat}{s:aq}{Q}(h:Q .normal s):BQ b Q .normal s:=⟨h⟩
theorem As {b:Nat}{s:aq}{Q}(h:Q .ret s):BQ b Q .ret s:=⟨h⟩
theorem QI {b:Nat}{s:aq}{Q}(h:Q .normal s):BQ b Q (.exit b) s:=⟨by simp only[if_true];exact h⟩
theorem QJ {b i:Nat}{s:aq}{Q}(hn:Nat.beq i b=false)(h:Q (.exit i) s):BQ b Q (.exit i) s:=
 ⟨by simp only;rw[if_neg (fun e=>by subst e;simp at hn)];exact h⟩
theorem fQ {b:an}{s:aq}{Q}(h:W M (.loop b) s Q):LQ M b Q .normal s:=⟨h⟩
theorem QK {b:an}{s:aq}{Q}{i:Nat}(h:Q (.exit i) s):LQ M b Q (.exit i) s:=⟨h⟩
theorem QL {b:an}{s:aq}{Q}(h:Q .ret s):LQ M b Q .ret s:=⟨h⟩
theorem bC {f N:Nat}{aO:List Nat}{res:List fa}{body:an}{hh:ab}(hft:M.FT f=some ⟨N,aO,res,body⟩)(hN:as.length<=N)
 (h:W M body ⟨⟨aO.map (fun t=>(as[t]?).getD cm),[],[],[]⟩,[]⟩ fun e s=>(e = .normal\/e = .ret)/\s.s.bO=[]/\∃vs,cX s.s res=some vs/\aU vs=v/\(if v.top<=0 then [] else s.s.hp)=hh):aS M f as [] ⟨v,hh,[]⟩:=by
 obtain⟨⟨n,e,s,h1,h2,h3,vs,h4,h5,h6⟩⟩:=h;refine⟨n,?_⟩;have h1':bj M.ext M.inv M.FT n body ⟨⟨aO.map (fun t=>(as[t]?).getD cm),[],[],[]⟩,[]⟩=some (e,s):=h1;simp only[gD,hft];rw[if_neg (by omega)];simp only[aw.ev,h1',if_pos h2,h3,kT,h4];subst h5;subst h6;have ht:tight s.s.hp 0 s.wr=true:=by
  simp only[tight,List.all_eq_true];intro b _;split <;> simp
 have hf:s.wr.filter (fun b=>decide (b<0))=[]:=by simp
 simp only[dU,List.length_nil,ht,Bool.and_true,hf,List.take_zero,decide_eq_true_eq];split <;> rfl
end Go.Ab
namespace Go.Ab
variable {FT:FuncId->Option cW} {h:ab} {S:List Nat}
variable {P:Program} {gl:Nat->Option AV}
abbrev Spec:=List AV->ab->Option HR
def bk:List (Nat×Spec)->FuncId->List AV->ab->Option HR
 | [],_,_,_=>none
 | (g,sp)::T,f,as,h=>if Nat.beq g f then sp as h else bk T f as h
def aR (P:Program)(gl:Nat->Option AV)(f:Nat)(sp:Spec):Prop:=∀as h r,sp as h=some r->bN P gl ⟨f,as,h,r⟩
theorem bx:cf P gl (bk []):=fun _ _ _ _ h=>by cases h
theorem aL {f:Nat}{sp:Spec}{T:List (Nat×Spec)}(h:aR P gl f sp)(hT:cf P gl (bk T)):cf P gl (bk ((f,sp)::T)):=by
 intro g all hp r hq;simp only[bk]at hq;split at hq
 . rename_i e;have e':=Nat.eq_of_beq_eq_true e;subst e';exact h _ _ _ hq
 . exact hT g all hp r hq
def mH (k:XK):Spec:=fun as h=>(k.run as).map fun v=>⟨v,h,[]⟩
theorem vW {f:Nat}{k:XK}(h:nT P f k):aR P gl f (mH k):=by
 intro as hp r hq;have:=BK (P:=P) (gl:=gl) (L:=[(f,k)]) (fun p hp=>by simp only[List.mem_singleton]at hp;subst hp;exact h) f as hp r;simp only[nU,Nat.beq_refl,if_true]at this;simp only[mH,Option.map_eq_some_iff]at hq;obtain⟨v,hv,rfl⟩:=hq;exact this (by simp only[hv])
def BN (as0:List AV)(v:AV):Spec:=fun as h=>if vD as as0 then some ⟨v,h,[]⟩ else none
theorem TT (hgl:∀g v,gl g=some v->v.top=0){f:Nat}{as0:List AV}{v:AV}(hv:v.top=0)(htop:bh as0=0)(hloc:bN P gl ⟨f,as0,[],⟨v,[],[]⟩⟩):aR P gl f (BN as0 v):=by
 intro as h r hq;simp only[BN]at hq;split at hq
 . rename_i e;have e':=Is e;subst e';cases hq;have:=ID (h:=h) (S:=[]) (ks:=[]) (bs:=[]) hgl (as:=as) ⟨rfl,fun i x y hx hy=>by rw[hx]at hy;cases hy;exact .same (by have:=fw (n:=0) (by omega) i x hx;omega)⟩ (by simp) (.same hv) rfl (by simp) (.inl rfl) hloc;simpa using this
 . cases hq
structure jP (P:Program)(gl:Nat->Option AV)(FT:FuncId->Option cW):Prop where
 mix:P.follows .mixedOrders=true
 ft:mD P gl FT
 gl:∀g v,gl g=some v->v.top=0
abbrev aY (P:Program)(FT:FuncId->Option cW)(T:List (Nat×Spec)):aw:=⟨bk T,fj P,FT⟩
theorem pT (hs:jP P gl FT){T:List (Nat×Spec)}(hT:cf P gl (bk T)){f:Nat}{as:List AV}{h:ab}{r:HR}(hr:aS (aY P FT T) f as h r)(hw:fA h r):bN P gl ⟨f,as,h,r⟩:=by
 obtain⟨n,hn⟩:=hr;refine⟨hw,fun ρ w as' m hv=>?_⟩;obtain⟨h1,h2⟩:=vy (BI hs.mix hT hs.ft n) hs.ft hn m hv;refine⟨_,_,h1,?_⟩;refine CallsIn.mono h2 fun e w' he=>?_
 cases e with
 | returned v=>exact he
 | panicked _=>exact he
 | outgrown=>exact he
theorem TV (hs:jP P gl FT){T:List (Nat×Spec)}(hT:cf P gl (bk T)){f:Nat}{as as0:List AV}{h:ab}{S ks:List Nat}{v v1:AV}{hh:ab}{bs:List bw}(hr:aS (aY P FT T) f as0 [] ⟨v,hh,[]⟩)
 (hv:gR h S as as0) (hnd:ks.Nodup) (hv1:Rn ks h.length v v1) (hlen:ks.length=bs.length)
 (hbs:∀(i b:Nat) o1,ks[i]? = some b->bs[i]? = some o1->∃o,hh.at b=some o/\sd ks h.length o o1/\(S=[]\/vO o=true)) (hn:S=[]\/dh v=true):bN P gl ⟨f,as,h,⟨v1,h++bs.map some,[]⟩⟩:=
 ID hs.gl hv hnd hv1 hlen hbs hn (pT hs hT hr ⟨Nat.zero_le _,fun _ hb=>absurd hb (Nat.not_lt_zero _)⟩)
theorem IE (hs:jP P gl FT){T:List (Nat×Spec)}(hT:cf P gl (bk T)){f:Nat}{as as0:List AV}{h hh:ab}{S:List Nat}{v:AV}(hr:aS (aY P FT T) f as0 [] ⟨v,hh,[]⟩)
 (hv:gR h S as as0) (ht:v.top=0) (hn:S=[]\/dh v=true):bN P gl ⟨f,as,h,⟨v,h,[]⟩⟩:=by
 have:=TV hs hT (ks:=[]) (bs:=[]) hr hv (by simp) (.same ht) rfl (by simp) hn;simpa using this
theorem gR.nil:gR h S [] []:=⟨rfl,by simp⟩
theorem gR.cons {x y:AV}{l m:List AV}(h1:Fr h S x y)(h2:gR h S l m):gR h S (x::l) (y::m):=by
 refine⟨by simp[h2.1],fun i a b ha hb=>?_⟩;cases i with
 | zero=>simp at ha hb;subst ha;subst hb;exact h1
 | succ i=>simp at ha hb;exact h2.2 i a b ha hb
theorem gR.same {l:List AV}(ht:bh l=0):gR h S l l:=
 ⟨rfl,fun i x y hx hy=>by rw[hx]at hy;cases hy;exact .same (by have:=fw (n:=0) (by omega) i x hx;omega)⟩
theorem Fr.mono {S':List Nat}(hs:∀b∈S,b∈S'){x y:AV}(hf:Fr h S x y):Fr h S' x y:=by
 induction hf with
 | same ht=>exact .same ht
 | nil hc=>exact .nil hc
 | sl hb ha hc hl _ hcc ih=>exact .sl (hs _ hb) ha hc hl ih hcc
 | ptr hb ha hl _ ih=>exact .ptr (hs _ hb) ha hl ih
 | vs hl _ ih=>exact .vs hl ih
 | agg hl _ ih=>exact .agg hl ih
 | au hl _ ih=>exact .au hl ih
 | fn hf h1 h2 _ _ ih1 ih2=>exact .fn hf h1 h2 ih1 ih2
def arr {α:Type}(f:α->List AV)(l:List α):List AV:=l.flatMap f
def ints (l:List Int):List AV:=arr (fun x=>[.int .i64 x]) l
theorem TW {a b:List AV}:fk (a++b)=(fk a && fk b):=by
 induction a with
 | nil=>simp[fk]
 | cons x a ih=>simp only[List.cons_append,fk,ih,Bool.and_assoc]
theorem nZ {α:Type}{f:α->List AV}(hf:∀a,fk (f a)=true):∀l:List α,fk (arr f l)=true
 | []=>rfl
 | a::l=>by
  have:=nZ hf l;simp only[arr,List.flatMap_cons,TW,hf]at this ⊢;simpa using this
def Sl {α:Type}(f:α->List AV)(h:ab)(v:AV)(l:List α):Prop:=
 (v = .aa/\l=[])\/(∃cap,v = .vs (arr f l) l.length cap)\/(∃b off esz cap c e,v = .sl b off l.length esz cap/\h.at b=some (.cells c e)/\cut c off (l.length*esz)=some (arr f l))
theorem TX {a b:List AV}:bh (a++b)=max (bh a) (bh b):=by
 induction a with
 | nil=>simp[bh]
 | cons x a ih=>simp only[List.cons_append,bh,ih];omega
theorem jQ {α:Type}{f:α->List AV}(hf:∀a,bh (f a)=0):∀l:List α,bh (arr f l)=0
 | []=>rfl
 | a::l=>by
  have:=jQ hf l;simp only[arr,List.flatMap_cons,TX,hf]at this ⊢;omega
theorem Sl.fr {α:Type}{f:α->List AV}(hf:∀a,bh (f a)=0){h:ab}{v:AV}{l:List α}(hs:Sl f h v l):∃S cap,Fr h S v (.vs (arr f l) l.length cap):=by
 rcases hs with ⟨rfl,rfl⟩|⟨cap,rfl⟩|⟨b,off,esz,cap,c,e,rfl,h1,h2⟩
 . exact⟨[],none,.nil (by simp)⟩
 . exact⟨[],cap,.same (by simp only[AV.top];exact jQ hf l)⟩
 . refine⟨[b],cap,.sl (List.mem_singleton.2 rfl) h1 h2 rfl fun i x y hx hy=>?_⟩;rw[hx]at hy;cases hy;exact .same (by have:=fw (n:=0) (Nat.le_of_eq (jQ hf l)) i x hx;omega)
end Go.Ab
namespace Go.Ab
variable {t i j n b esz0 bytes:Nat} {l:List aT} {pe:List AV} {lo:List (Nat×AV)} {hp h' h:ab} {df wr w':List Nat} {v a:AV} {Q:aq->Prop} {op:ba} {ag:Bool} {x y:aN} {elem:TypeId} {o:Option bw}
variable {M:aw}
theorem agp {c a b:aN}(hc:(St.mk pe lo hp df).ae c=some (.bool true))(ha:(St.mk pe lo hp df).ae a=some v)
 (h:WO M l ⟨⟨pe,(t,v)::lo,hp,df⟩,wr⟩ Q):WO M (⟨.l t,.pick c a b,none⟩::l) ⟨⟨pe,lo,hp,df⟩,wr⟩ Q:=
 WO.op (WP.pure (v:=v) rfl (by simp only[aV,hc,ha];cases (St.mk pe lo hp df).ae b <;> simp) h)
theorem ago {c a b:aN}(hc:(St.mk pe lo hp df).ae c=some (.bool false))(hb:(St.mk pe lo hp df).ae b=some v)
 (h:WO M l ⟨⟨pe,(t,v)::lo,hp,df⟩,wr⟩ Q):WO M (⟨.l t,.pick c a b,none⟩::l) ⟨⟨pe,lo,hp,df⟩,wr⟩ Q:=
 WO.op (WP.pure (v:=v) rfl (by simp only[aV,hc,hb];cases (St.mk pe lo hp df).ae a <;> simp) h)
theorem ade (hv:bB ⟨pe,lo,hp,df⟩ op hp=some ⟨v,h',w'⟩)(hh:op.bA=true)(hc:op.pZ=true)
 (h:WO M l ⟨⟨pe,(t,v)::lo,h',df⟩,w'++wr⟩ Q):WO M (⟨.l t,op,none⟩::l) ⟨⟨pe,lo,hp,df⟩,wr⟩ Q:=WO.op (WP.heap hh hc hv h)
theorem agt (hv:bB ⟨pe,lo,hp,df⟩ op hp=some ⟨v,h',w'⟩)(hh:op.bA=true)(hc:op.pZ=true)
 (h:WO M l ⟨⟨pe.set i v,lo,h',df⟩,w'++wr⟩ Q):WO M (⟨.p i,op,none⟩::l) ⟨⟨pe,lo,hp,df⟩,wr⟩ Q:=WO.op (WP.heap hh hc hv h)
theorem aiN (hv:bB ⟨pe,lo,hp,df⟩ op hp=some ⟨v,h',w'⟩)(hh:op.bA=true)(hc:op.pZ=true)
 (h:WO M l ⟨⟨pe,lo,h',df⟩,w'++wr⟩ Q):WO M (⟨.no,op,none⟩::l) ⟨⟨pe,lo,hp,df⟩,wr⟩ Q:=WO.op (WP.heap hh hc hv h)
theorem jR {α:Type}{f:α->List AV}(a:α)(l:List α):arr f (a::l)=f a++arr f l:=rfl
theorem TY {α:Type}{f:α->List AV}(l m:List α):arr f (l++m)=arr f l++arr f m:=by simp[arr]
section
variable {α:Type} {f:α->List AV} {esz:Nat}
theorem qc (hf:∀a,(f a).length=esz):∀l:List α,(arr f l).length=l.length*esz
 | []=>by simp[arr]
 | a::l=>by rw[jR,List.length_append,hf,qc hf l,List.length_cons,Nat.add_mul];omega
theorem BO (hf:∀a,(f a).length=esz):∀(l:List α) (i:Nat),(arr f l).drop (i*esz)=arr f (l.drop i)
 | [],i=>by simp[arr]
 | a::l,0=>by simp
 | a::l,i+1=>by
  rw[jR,List.drop_append,show (i+1)*esz=esz+i*esz from by rw[Nat.add_mul];omega,hf,Nat.add_sub_cancel_left,BO hf l i,List.drop_succ_cons,List.drop_eq_nil_of_le (by rw[hf];omega)];rfl
theorem BP (hf:∀a,(f a).length=esz):∀(l:List α) (i:Nat),(arr f l).take (i*esz)=arr f (l.take i)
 | [],i=>by simp[arr]
 | a::l,0=>by simp[arr]
 | a::l,i+1=>by
  rw[jR,List.take_append,show (i+1)*esz=esz+i*esz from by rw[Nat.add_mul];omega,hf,Nat.add_sub_cancel_left,BP hf l i,List.take_succ_cons,List.take_of_length_le (by rw[hf];omega)];rfl
theorem ku (hf:∀a,(f a).length=esz){l:List α}{i n:Nat}(h:i+n<=l.length):cut (arr f l) (i*esz) (n*esz)=some (arr f ((l.drop i).take n)):=by
 simp only[cut,BO hf,BP hf,qc hf];rw[if_pos (by rw[List.length_take,List.length_drop];congr 1;omega)]
theorem TZ [ia:Inhabited α](hf:∀a,(f a).length=esz){l:List α}{i:Nat}(h:i<l.length):∃r,(arr f l).drop (i*esz)=f l[i]! ++ r:=by
 refine⟨arr f (l.drop (i+1)),?_⟩;rw[BO hf,List.drop_eq_getElem_cons h,jR,getElem!_pos l i h]
theorem Ua {a r:List AV}(h:j+n<=a.length)(hn:ag=true\/0<n):partOf (a++r) j n ag=partOf a j n ag:=by
 cases ag with
 | true => 
   simp only[partOf,if_true,cut];rw[List.drop_append,List.take_append_of_le_length (by simp;omega)]
 | false=>
  simp only[partOf,Bool.false_eq_true,if_false];have:0<n:=by simpa using hn
  rw[List.getElem?_append_left (by omega)]
theorem BT {a:List AV}:partOf (a.drop j) 0 n ag=partOf a j n ag:=by
 cases ag <;> simp[partOf,cut]
theorem BU [ia:Inhabited α](hf:∀a,(f a).length=esz){l:List α}{i j n:Nat}{ag:Bool}(h:i<l.length)(hj:j+n<=esz)(hn:0<n):partOf ((arr f l).drop (i*esz)) j n ag=partOf (f l[i]!) j n ag:=by
 obtain⟨r,hr⟩:=TZ hf h;rw[hr,Ua (by rw[hf];exact hj) (.inr hn)]
theorem IF (a:α):∀n:Nat,gh (f a) n=arr f (List.replicate n a)
 | 0=>rfl
 | n+1=>by rw[gh,IF a n,List.replicate_succ,jR]
end
variable {α:Type} {ia:Inhabited α} {f:α->List AV} {esz:Nat}
theorem aiB {c:List α}(hx:(St.mk pe lo hp df).ae x=some (.vp ((arr f c).drop (i*esz))))
 (hf:∀a,(f a).length=esz) (hi:i<c.length) (hn:0<n/\0+n<=esz) (hv:partOf (f c[i]!) 0 n ag=some v) (h:WO M l ⟨⟨pe,(t,v)::lo,hp,df⟩,wr⟩ Q):WO M (⟨.l t,.load n ag x,none⟩::l) ⟨⟨pe,lo,hp,df⟩,wr⟩ Q:=
 ade (v:=v) (h':=hp) (w':=[]) (by simp only[bB,hx,Option.bind_some,fo,BU hf hi hn.2 hn.1,hv]) rfl rfl h
theorem aiM {c:List α}(hx:(St.mk pe lo hp df).ae x=some (.vp (((arr f c).drop (i*esz)).drop j)))
 (hf:∀a,(f a).length=esz) (hi:i<c.length) (hn:0<n/\j+n<=esz) (hv:partOf (f c[i]!) j n ag=some v) (h:WO M l ⟨⟨pe,(t,v)::lo,hp,df⟩,wr⟩ Q):WO M (⟨.l t,.load n ag x,none⟩::l) ⟨⟨pe,lo,hp,df⟩,wr⟩ Q:=
 ade (v:=v) (h':=hp) (w':=[]) (by simp only[bB,hx,Option.bind_some,fo,BT,BU hf hi hn.2 hn.1,hv]) rfl rfl h
theorem ajJ {c:List α}{e:TypeId}(hx:(St.mk pe lo hp df).ae x=some (.ptr b (0+i*esz)))(hb:hp.at b=some (.cells (arr f c) e))
 (hf:∀a,(f a).length=esz) (hi:i<c.length) (hn:0<n/\0+n<=esz) (hv:partOf (f c[i]!) 0 n ag=some v) (h:WO M l ⟨⟨pe,(t,v)::lo,hp,df⟩,wr⟩ Q):WO M (⟨.l t,.load n ag x,none⟩::l) ⟨⟨pe,lo,hp,df⟩,wr⟩ Q:=
 ade (v:=v) (h':=hp) (w':=[]) (by simp only[bB,hx,Option.bind_some,fo,hb,Nat.zero_add,BU hf hi hn.2 hn.1,hv]) rfl rfl h
theorem aiv {c:List AV}(hx:(St.mk pe lo hp df).ae x=some a)(hb:fo hp a=some c)(hv:partOf c 0 n ag=some v)
 (h:WO M l ⟨⟨pe,(t,v)::lo,hp,df⟩,wr⟩ Q):WO M (⟨.l t,.load n ag x,none⟩::l) ⟨⟨pe,lo,hp,df⟩,wr⟩ Q:=
 ade (v:=v) (h':=hp) (w':=[]) (by simp only[bB,hx,Option.bind_some,hb,hv]) rfl rfl h
theorem WO.Ub {zero:List AV}{k k':IntKind}{a b:Int}(hx:(St.mk pe lo hp df).ae x=some (.int k a))(hy:(St.mk pe lo hp df).ae y=some (.int k' b))
 (hc:0<=a/\a<=b/\b.toNat*bytes<=dv/\b<=2^46/\zero.length=esz0) (h:WO M l ⟨⟨pe,(t,.sl hp.length 0 a.toNat esz0 (some b.toNat))::lo,hp++[some (.cells (gh zero b.toNat) elem)],df⟩,wr⟩ Q) :
 WO M (⟨.l t,.gA elem esz0 bytes zero x y,none⟩::l) ⟨⟨pe,lo,hp,df⟩,wr⟩ Q:=
 ade (v:=.sl hp.length 0 a.toNat esz0 (some b.toNat)) (h':=hp++[some (.cells (gh zero b.toNat) elem)]) (w':=[]) (by simp only[bB,hx,hy,Option.bind_some,rA];rw[if_pos hc]) rfl rfl h
theorem eM {o:bw}(hb:h.at b=some o):b<h.length:=by
 unfold ab.at at hb;cases hz:h[b]? with
 | none=>rw[hz]at hb;cases hb
 | some z=>exact(List.getElem?_eq_some_iff.1 hz).1
theorem cU {x:Option bw}:ab.at (h++[x]) h.length=x:=by simp[ab.at]
theorem dL {l:ab}{o:bw}(hb:h.at b=some o):ab.at (h++l) b=some o:=by
 have:=eM hb;simp only[ab.at]at hb ⊢;rw[List.getElem?_append_left this];exact hb
theorem fx (hb:b<h.length):ab.at (h.put b o) b=o:=by
 simp[ab.at,ab.put,hb]
theorem qe {a:Nat}{x:bw}(hn:a≠b)(ha:h.at a=some x):ab.at (h.put b o) a=some x:=by
 have:¬b=a:=fun e=>hn e.symm
 simp only[ab.at,ab.put,List.getElem?_set,if_neg this]at ha ⊢;exact ha
theorem eH:(h.put b o).length=h.length:=by simp[ab.put]
theorem aka {b:AV}{new:List AV}(hx:(St.mk pe lo hp df).ae x=some .aa)(hy:(St.mk pe lo hp df).ae y=some b)(hs:ek hp b=some (new,n))
 (hc:new.length=n*esz0/\0<bytes/\new.all cG=true) (hn:0<n/\n*bytes<=dv) (h:WO M l ⟨⟨pe,(t,.sl hp.length 0 n esz0 none)::lo,hp++[some (.cells new elem)],df⟩,wr⟩ Q):WO M (⟨.l t,.append elem esz0 bytes x y,none⟩::l) ⟨⟨pe,lo,hp,df⟩,wr⟩ Q:=by
 refine ade (v:=.sl hp.length 0 n esz0 none) (h':=hp++[some (.cells new elem)]) (w':=[]) ?_ rfl rfl h;simp only[bB,hx,hy,gM,hs,if_pos hc];rw[if_neg (by omega),if_pos hn.2]
theorem akb {c off len:Nat}{b:AV}{new bR:List AV}(hx:(St.mk pe lo hp df).ae x=some (.sl c off len esz0 none))(hy:(St.mk pe lo hp df).ae y=some b)(hs:ek hp b=some (new,n))
 (hc:new.length=n*esz0/\0<bytes/\new.all cG=true) (hn:0<n/\(len+n)*bytes<=dv) (hb:hp.at c=some (.cells bR elem)) (ho:bR.length=off+len*esz0)
 (h:WO M l ⟨⟨pe,(t,.sl hp.length 0 (len+n) esz0 none)::lo,hp.put c none++[some (.cells (bR.drop off++new) elem)],df⟩,c::wr⟩ Q):WO M (⟨.l t,.append elem esz0 bytes x y,none⟩::l) ⟨⟨pe,lo,hp,df⟩,wr⟩ Q:=by
 refine ade (v:=.sl hp.length 0 (len+n) esz0 none) (h':=hp.put c none++[some (.cells (bR.drop off++new) elem)]) (w':=[c]) ?_ rfl rfl h;simp only[bB,hx,hy,gM,hs,if_pos hc,hb];rw[if_neg (by omega),if_pos ⟨trivial,hn.2⟩,if_pos ⟨ho,trivial⟩]
def ba.ro:ba->Bool
 | .load .. => true
 | op=>!op.bA
def bV.clean (d:bV):Prop:=d.wr=[]/\d.hi=d.lo
theorem se {T:List Nat}:ab.at (cj T h 0) b=if T.contains b then h.at b else none:=by
 unfold ab.at;rw[mC];cases h[b]? <;> simp
theorem sf {T:List Nat}:dT [] h (cj T h 0) 0=h:=by
 apply List.ext_getElem?;intro b;rw[jb _ _ _ _ _ (by rw[dZ];exact Nat.le_refl _)];split
 . simp
 . rename_i hb;rw[List.getElem?_eq_none (by rw[dZ];omega),List.getElem?_eq_none (by omega)]
def fe:Option AV->List Nat
 | some (.ptr b _)=>[b]
 | some (.sl b _ _ _ _)=>[b]
 | some (.map b)=>[b]
 | _=>[]
theorem IG {s:St}:iP s (.load n ag x)=some (fe (s.ae x)):=by
 simp only[iP];cases s.ae x with
 | none=>rfl
 | some a=>cases a <;> rfl
theorem IH:fo (cj (fe (some a)) h 0) a=fo h a:=by
 cases a <;> first|rfl|skip
 simp[fo,fe,se]
theorem vY {call:dS}{inv:fF}{s:St}(ha:s.ae x=some a)(hp':ab):bI call inv { s with hp:=hp' } (.load n ag x)=(fo hp' a).bind fun l=>(partOf l 0 n ag).map fun v=>⟨v,hp',[]⟩:=by
 have hx':St.ae { s with hp:=hp' } x=some a:=by rw[←ha];cases x <;> rfl
 simp only[bI,ba.bA,if_true,bB,hx',Option.bind_some];cases fo hp' a with
 | none=>rfl
 | some l=>simp only[Option.bind_some];cases partOf l 0 n ag <;> rfl
theorem vZ {call:dS}{inv:fF}:∀(l:List (aT×List Nat)) (s:aq) (ds:List bV),l.all (fun p=>p.1.op.ro)=true->(∀d∈ds,d.clean)->dF call inv l s ds=eE call inv (l.map (·.1)) s
 | [],s,ds,_,_=>rfl
 | (o,un)::l,s,ds,hl,hd=>by
  simp only[List.all_cons,Bool.and_eq_true]at hl;obtain⟨ho,hl⟩:=hl;have hcl:∀t,(∀d∈ds++[(⟨t,[],s.s.hp.length,s.s.hp.length⟩:bV)],d.clean):=fun t d hm=>by
   rcases List.mem_append.1 hm with h1|h1
   . exact hd d h1
   . simp only[List.mem_singleton]at h1;subst h1;exact⟨rfl,rfl⟩
  simp only[dF,List.map_cons,eE];split
  . by_cases hh:o.op.bA=true
    . have hop:∃n ag x,o.op = .load n ag x:=by
       cases hq:o.op <;> rw[hq]at ho hh <;> first|(cases hh;done)|(cases ho;done)|exact⟨_,_,_,rfl⟩
      obtain⟨n,ag,x,hop⟩:=hop;have hU:un.flatMap (fun j=>(ds[j]?).elim [] bV.own)=[]:=by
       rw[List.flatMap_eq_nil_iff];intro j _;cases hj:ds[j]? with
       | none=>rfl
       | some d=>
        obtain⟨c1,c2⟩:=hd d (List.mem_of_getElem? hj);simp[bV.own,c1,c2]
      simp only[hop,ba.bA,if_true,IG,hU];have hdis:∀T,gC T []=true:=fun T=>by simp[gC]
      simp only[hdis,if_true];cases ha:s.s.ae x with
      | none=>
       have e1:∀hp',bI call inv { s.s with hp:=hp' } (.load n ag x)=none:=fun hp'=>by
        have hx':St.ae { s.s with hp:=hp' } x=none:=by rw[←ha];cases x <;> rfl
        simp only[bI,ba.bA,if_true,bB,hx',Option.bind_none]
       rw[e1,show bI call inv s.s (.load n ag x)=none from e1 s.s.hp]
      | some a=>
       have e2:=vY (call:=call) (inv:=inv) (n:=n) (ag:=ag) ha s.s.hp;rw[vY ha,IH,show bI call inv s.s (.load n ag x)=_ from e2];cases fo s.s.hp a with
       | none=>rfl
       | some c=>
        simp only[Option.bind_some];cases partOf c 0 n ag with
        | none=>rfl
        | some v=>
         simp only[Option.map_some,List.all_nil,List.isEmpty_nil,Bool.true_or,Bool.and_true,if_true,sf,List.nil_append];have:=vZ (call:=call) (inv:=inv) l ⟨{ s.s.put o.dst v with hp:=s.s.hp },s.wr⟩ (ds++[⟨some (fe (some a)),[],s.s.hp.length,s.s.hp.length⟩]) hl (hcl _);rw[←this];simp[dZ]
    . have hh':o.op.bA=false:=by simpa using hh
      rw[if_neg hh];have e2:bI call inv s.s o.op=(aV s.s o.op).map fun v=>⟨v,s.s.hp,[]⟩:=by
       cases hq:o.op <;> rw[hq]at hh' <;> first|(cases hh';done)|simp only[bI,ba.bA,Bool.false_eq_true,if_false]
      rw[e2];cases aV s.s o.op with
      | none=>rfl
      | some v=>
       simp only[Option.map_some,List.nil_append];have hput:({ s.s.put o.dst v with hp:=s.s.hp }:St)=s.s.put o.dst v:=by cases o.dst <;> rfl
       rw[hput];exact vZ l _ _ hl (hcl _)
  . exact vZ l _ _ hl (hcl _)
  . rfl
theorem ajG {l:List (aT×List Nat)}{Q:Ex->aq->Prop}(hl:l.all (fun p=>p.1.op.ro)=true)(h:WO M (l.map (·.1)) ⟨⟨pe,[],hp,df⟩,wr⟩ (Q .normal)):W M (.draw l) ⟨⟨pe,lo,hp,df⟩,wr⟩ Q:=by
 obtain⟨⟨n,s',h1,h2⟩⟩:=h;exact agJ ⟨⟨n,s',by rw[vZ l _ _ hl (by simp)];exact h1,h2⟩⟩
end Go.Ab
namespace Go.Ab
variable {t n:Nat} {x y:aN} {l:List (aT×List Nat)} {pe:List AV} {lo:List (Nat×AV)} {hp:ab} {df wr un T:List Nat} {a b:Int} {Q:aq->Prop} {s:aq} {ds:List bV} {d:eZ}
variable {M:aw}
theorem ajY {l:List aT}(hx:(St.mk pe lo hp df).ae x=some (.int .i64 a))(hy:(St.mk pe lo hp df).ae y=some (.int .i64 b))
 (ha:0<=a/\0<b) (hr:a<9223372036854775808) (h:0<=a/b->a/b<=a->WO M l ⟨⟨pe,(t,.int .i64 (a/b))::lo,hp,df⟩,wr⟩ Q):WO M (⟨.l t,.bin .quo x y,none⟩::l) ⟨⟨pe,lo,hp,df⟩,wr⟩ Q:=by
 refine aiw hx hy ha.2 ⟨by omega,hr⟩ ?_;rw[Int.tdiv_eq_ediv_of_nonneg ha.1];exact h (Int.ediv_nonneg ha.1 (Int.le_of_lt ha.2)) (Int.ediv_le_self _ ha.1)
theorem ajX {l:List aT}{k:IntKind}(hx:(St.mk pe lo hp df).ae x=some (.int k a))(hy:(St.mk pe lo hp df).ae y=some (.int k b))
 (ha:0<=a/\0<b) (h:0<=a%b->a%b<b->WO M l ⟨⟨pe,(t,.int k (a%b))::lo,hp,df⟩,wr⟩ Q):WO M (⟨.l t,.bin .rem x y,none⟩::l) ⟨⟨pe,lo,hp,df⟩,wr⟩ Q:=by
 refine aix hx hy (by omega) ?_;rw[Int.tmod_eq_emod_of_nonneg ha.1];exact h (Int.emod_nonneg _ (by omega)) (Int.emod_lt_of_pos _ ha.2)
theorem aal {f:aN}{args:List aN}{l:List aT}{h':ab}{wr':List Nat}{g:FuncId}{fi ca as:List AV}{v:AV}(hf:(St.mk pe lo hp df).ae f=some (.fn (.func g) fi ca))(ha:(St.mk pe lo hp df).cE args=some as)
 (he:M.ext g (fi++as++ca) hp=some ⟨v,h',wr'⟩) (h:WO M l ⟨⟨pe,(t,v)::lo,h',df⟩,wr'++wr⟩ Q):WO M (⟨.l t,.call f args,none⟩::l) ⟨⟨pe,lo,hp,df⟩,wr⟩ Q:=WO.TP hf ha he h
theorem ajI {bytes:Nat}{elem:TypeId}{l:List aT}{k k':IntKind}{z:Int}{kz:IntKind}(hx:(St.mk pe lo hp df).ae x=some (.int k a))(hy:(St.mk pe lo hp df).ae y=some (.int k' b))
 (hc:0<=a/\a<=b/\b.toNat*bytes<=70368744177664/\b<=70368744177664) (h:WO M l ⟨⟨pe,(t,.sl hp.length 0 a.toNat 1 (some b.toNat))::lo,hp++[some (.cells (arr (fun x=>[.int kz x]) (List.replicate b.toNat z)) elem)],df⟩,wr⟩ Q) :
 WO M (⟨.l t,.gA elem 1 bytes [.int kz z] x y,none⟩::l) ⟨⟨pe,lo,hp,df⟩,wr⟩ Q:=by
 refine WO.Ub hx hy ⟨hc.1,hc.2.1,by simp only[dv];omega,by omega,rfl⟩ ?_;have e:=IF (f:=fun x=>[AV.int kz x]) z b.toNat;rw[show gh [AV.int kz z] b.toNat=_ from e];exact h
theorem agV (h:Q s):WD M [] s ds Q:=⟨⟨0,s,rfl,h⟩⟩
def bV.key (d:bV):Option (List Nat)×List Nat:=(d.kj,d.own)
theorem Ue {α:Type}{l:List α}{f g:α->Bool}(h:∀x,f x=g x):l.all f=l.all g:=by rw[show f=g from funext h]
theorem II {call:dS}{inv:fF}:∀(l:List (aT×List Nat)) (s:aq) (ds ds':List bV),ds.map bV.key=ds'.map bV.key->dF call inv l s ds=dF call inv l s ds'
 | [],_,_,_,_=>rfl
 | (o,un)::l,s,ds,ds',hk=>by
  have h1:∀j:Nat,(ds[j]?).elim [] bV.own=(ds'[j]?).elim [] bV.own:=fun j=>by
   have:=congrArg (fun x:List (Option (List Nat)×List Nat)=>x[j]?) hk;simp only[List.getElem?_map]at this;cases h3:ds[j]? <;> cases h4:ds'[j]? <;> rw[h3,h4]at this <;> simp[bV.key]at this ⊢;exact this.2
  have h2:∀j:Nat,(ds[j]?).map bV.kj=(ds'[j]?).map bV.kj:=fun j=>by
   have:=congrArg (fun x:List (Option (List Nat)×List Nat)=>x[j]?) hk;simp only[List.getElem?_map]at this;cases h3:ds[j]? <;> cases h4:ds'[j]? <;> rw[h3,h4]at this <;> simp[bV.key]at this ⊢;exact this.1
  have h7:(fun j:Nat=>(ds[j]?).elim [] bV.own)=(fun j:Nat=>(ds'[j]?).elim [] bV.own):=funext h1;have h8:∀d s,dF call inv l s (ds++[d])=dF call inv l s (ds'++[d]):=fun d s=>II l s _ _ (by simp[hk])
  unfold dF;simp only[h7,h8];cases dI s.s o.guard with
  | none=>rfl
  | some t=>
   cases t with
   | false=>rfl
   | true=>
    refine ite_congr rfl (fun _=>ite_congr rfl (fun _=>?_) (fun _=>rfl)) (fun _=>rfl);split
    . refine ite_congr (congrArg (fun b=>b=true) (congrArg (fun b=>_ && b) (congrArg (fun b=>_ || b) (Ue ?_)))) (fun _=>rfl) (fun _=>rfl);intro j;have:=h2 j;cases h3:ds[j]? <;> cases h4:ds'[j]? <;> rw[h3,h4]at this <;> simp at this ⊢;rw[this]
    . rfl
theorem WD.norm {d d':bV}(hk:d.key=d'.key)(h:WD M l s (ds++[d]) Q):WD M l s (ds++[d']) Q:=by
 obtain⟨⟨n,s',h1,h2⟩⟩:=h;exact⟨⟨n,s',by rw[II l s (ds++[d']) (ds++[d]) (by simp[hk])];exact h1,h2⟩⟩
theorem WD.Uf {o:aT}(hh:o.op.bA=false)(h:WO M [o] s fun s'=>WD M l s' (ds++[⟨some [],[],s.s.hp.length,s.s.hp.length⟩]) Q):WD M ((o,un)::l) s ds Q:=by
 obtain⟨⟨n,s1,h1,⟨⟨m,s',h2,h3⟩⟩⟩⟩:=h;refine⟨⟨max n m,s',?_,h3⟩⟩;have h1':=mG (inv:=M.inv) (jx (Nat.le_max_left n m)) _ _ _ h1;have h2':=kr (inv:=M.inv) (jx (Nat.le_max_right n m)) _ _ _ _ h2;simp only[eE]at h1';have e2:bI (M.call (max n m)) M.inv s.s o.op=(aV s.s o.op).map fun v=>⟨v,s.s.hp,[]⟩:=by
  cases hq:o.op <;> rw[hq]at hh <;> first|(cases hh;done)|simp only[bI,ba.bA,Bool.false_eq_true,if_false]
 rw[e2]at h1';cases hw:dI s.s o.guard with
 | none=>rw[hw]at h1';cases h1'
 | some t=>
  rw[hw]at h1';cases t with
  | true=>
   simp only[dF,hw,hh,Bool.false_eq_true,if_false];cases hp:aV s.s o.op with
   | none=>rw[hp]at h1';cases h1'
   | some v=>
    rw[hp]at h1';simp only[Option.map_some,List.nil_append,Option.some.injEq]at h1';have hput:({ s.s.put o.dst v with hp:=s.s.hp }:St)=s.s.put o.dst v:=by cases o.dst <;> rfl
    rw[hput]at h1';subst h1';exact h2'
  | false=>
   simp only[Option.some.injEq]at h1';simp only[dF,hw];subst h1';exact h2'
theorem BV {h:ab}{b:Nat}{o:Option bw}:dT [b] h (ab.put (cj T h 0) b o) 0=ab.put h b o:=by
 apply List.ext_getElem?;intro c;rw[jb _ _ _ _ _ (by simp[ab.put,dZ])];simp only[ab.put,List.getElem?_set,dZ,mC];by_cases hc:c<h.length
 . rw[if_pos hc];by_cases e:b=c
   . subst e;simp[hc]
   . have:c≠b:=fun x=>e x.symm
     simp[e,this]
 . rw[if_neg hc,List.getElem?_eq_none (Nat.le_of_not_lt hc)];by_cases e:b=c
   . subst e;simp[hc]
   . simp[e]
theorem WD.Ug {ag:Bool}{a:AV}(ha:s.s.ae x=some a)(hT:fe (some a)=T)(hd:gC T (un.flatMap fun j=>(ds[j]?).elim [] bV.own)=true)
 (h:WO M [⟨d,.load n ag x,none⟩] s fun s'=>WD M l s' (ds++[⟨some T,[],s.s.hp.length,s.s.hp.length⟩]) Q):WD M ((⟨d,.load n ag x,none⟩,un)::l) s ds Q:=by
 obtain⟨⟨k,s1,h1,⟨⟨m,s',h2,h3⟩⟩⟩⟩:=h;refine⟨⟨max k m,s',?_,h3⟩⟩;have h1':=mG (inv:=M.inv) (jx (Nat.le_max_left k m)) _ _ _ h1;have h2':=kr (inv:=M.inv) (jx (Nat.le_max_right k m)) _ _ _ _ h2;simp only[eE,dI]at h1';subst hT;simp only[dF,dI,ba.bA,if_true,IG,ha,hd];rw[vY ha,IH];rw[show bI (M.call (max k m)) M.inv s.s (.load n ag x)=_ from vY ha s.s.hp]at h1';cases hr:fo s.s.hp a with
 | none=>rw[hr]at h1';cases h1'
 | some c=>
  rw[hr]at h1';simp only[Option.bind_some]at h1' ⊢;cases hp:partOf c 0 n ag with
  | none=>rw[hp]at h1';cases h1'
  | some v=>
   rw[hp]at h1';simp only[Option.map_some,List.nil_append,Option.some.injEq]at h1';simp only[Option.map_some,List.all_nil,List.isEmpty_nil,Bool.true_or,Bool.and_true,if_true,sf,List.nil_append,dZ];subst h1';exact h2'
theorem WD.Uh {b off:Nat}(ha:s.s.ae x=some (.ptr b off))(hd:gC [b] (un.flatMap fun j=>(ds[j]?).elim [] bV.own)=true)
 (hu:un.all (fun j=>match ds[j]? with|some d=>(match d.kj with|some T=>gC [b] T|none=>false)|none=>false)=true)
 (h:WO M [⟨.no,.store n x y,none⟩] s fun s'=>WD M l s' (ds++[⟨some [b],[b],s.s.hp.length,s.s.hp.length⟩]) Q):WD M ((⟨.no,.store n x y,none⟩,un)::l) s ds Q:=by
 obtain⟨⟨k,s1,h1,⟨⟨m,s',h2,h3⟩⟩⟩⟩:=h;refine⟨⟨max k m,s',?_,h3⟩⟩;have h1':=mG (inv:=M.inv) (jx (Nat.le_max_left k m)) _ _ _ h1;have h2':=kr (inv:=M.inv) (jx (Nat.le_max_right k m)) _ _ _ _ h2;simp only[eE,dI,bI,ba.bA,if_true,bB,ha]at h1';have hx':∀hp',St.ae { s.s with hp:=hp' } x=some (.ptr b off):=fun hp'=>by rw[←ha];cases x <;> rfl
 have hy':∀hp',St.ae { s.s with hp:=hp' } y=s.s.ae y:=fun hp'=>by cases y <;> rfl
 have hk:ab.at (cj [b] s.s.hp 0) b=s.s.hp.at b:=by simp[se]
 simp only[dF,dI,ba.bA,if_true,iP,ha,hd,bI,bB,hx',hy'];cases hy:s.s.ae y with
 | none=>rw[hy]at h1';cases h1'
 | some yv=>
  rw[hy]at h1';simp only[Option.bind_some]at h1' ⊢;cases hc:yv.cells with
  | none=>rw[hc]at h1';cases h1'
  | some new=>
   rw[hc]at h1';simp only at h1' ⊢;cases hb:s.s.hp.at b with
   | none=>rw[hb]at h1';cases h1'
   | some o=>
    rw[hb]at h1';cases o with
    | cells c e=>
     simp only at h1' ⊢;by_cases hcond:new.length=n/\off+n<=c.length/\new.all cG=true
     . simp only[if_pos hcond,Option.some.injEq]at h1';simp only[if_pos hcond,List.all_cons,List.all_nil,Bool.and_true,List.isEmpty_cons,Bool.false_or,hk,hb,Option.isSome_some,BV,eH,dZ];subst h1';rw[if_pos (show _=true by rw[Bool.true_and];exact hu)];exact h2'
     . simp only[if_neg hcond]at h1';cases h1'
    | map _=>cases h1'
    | iter _ _=>cases h1'
    | gg=>cases h1'
    | hole=>cases h1'
    | loop _ _ _ _ _ _=>cases h1'
theorem WD.Ui {f:aN}{args:List aN}{g:FuncId}{fi ca as:List AV}{v:AV}{hn:ab}(hf:s.s.ae f=some (.fn (.func g) fi ca))(ha:s.s.cE args=some as)
 (hU:(un.flatMap fun j=>(ds[j]?).elim [] bV.own)=[]) (he:M.ext g (fi++as++ca) s.s.hp=some ⟨v,s.s.hp++hn,[]⟩)
 (h:WD M l ⟨{ s.s.put d v with hp:=s.s.hp++hn },s.wr⟩ (ds++[⟨none,[],s.s.hp.length,s.s.hp.length+hn.length⟩]) Q):WD M ((⟨d,.call f args,none⟩,un)::l) s ds Q:=by
 obtain⟨⟨m,s',h2,h3⟩⟩:=h;refine⟨⟨m,s',?_,h3⟩⟩;have hm:mask s.s.hp []=s.s.hp:=rfl;have hcall:bI (M.call m) M.inv { s.s with hp:=s.s.hp } (.call f args)=some ⟨v,s.s.hp++hn,[]⟩:=by
  simp only[bI,hf,ha,gW,he]
 have hmerge:dT [] s.s.hp (s.s.hp++hn) 0=s.s.hp++hn:=by
  apply List.ext_getElem?;intro c;rw[jb _ _ _ _ _ (by simp)];split
  . rename_i hc;simp[List.getElem?_append_left hc]
  . rfl
 simp only[dF,dI,ba.bA,if_true,iP,hU,hm];rw[hcall];simp only[List.all_nil,List.isEmpty_nil,Bool.true_or,Bool.and_true,if_true,hmerge,List.nil_append,List.length_append];exact h2
theorem wc {t:Option (List Nat)}{w:List Nat}:bV.key ⟨t,w,n,n⟩=bV.key ⟨t,w,0,0⟩:=by simp[bV.key,bV.own]
theorem agW {o:aT}(hh:o.op.bA=false)(h:WO M [o] s fun s'=>WD M l s' (ds++[⟨some [],[],0,0⟩]) Q):WD M ((o,un)::l) s ds Q:=
 WD.Uf hh (h.mono fun _ h=>h.norm wc.symm)
theorem ahC {ag:Bool}{a:AV}(ha:s.s.ae x=some a)(hT:fe (some a)=T)(hd:gC T (un.flatMap fun j=>(ds[j]?).elim [] bV.own)=true)
 (h:WO M [⟨d,.load n ag x,none⟩] s fun s'=>WD M l s' (ds++[⟨some T,[],0,0⟩]) Q):WD M ((⟨d,.load n ag x,none⟩,un)::l) s ds Q:=
 WD.Ug ha hT hd (h.mono fun _ h=>h.norm wc.symm)
theorem aiz {b off:Nat}(ha:s.s.ae x=some (.ptr b off))(hd:gC [b] (un.flatMap fun j=>(ds[j]?).elim [] bV.own)=true)
 (hu:un.all (fun j=>match ds[j]? with|some d=>(match d.kj with|some T=>gC [b] T|none=>false)|none=>false)=true)
 (h:WO M [⟨.no,.store n x y,none⟩] s fun s'=>WD M l s' (ds++[⟨some [b],[b],0,0⟩]) Q):WD M ((⟨.no,.store n x y,none⟩,un)::l) s ds Q:=
 WD.Uh ha hd hu (h.mono fun _ h=>h.norm wc.symm)
end Go.Ab
namespace Go.Ab
variable {t:Nat} {op:ba} {x:aN} {want:Bool} {pe:List AV} {lo:List (Nat×AV)} {hp:ab} {df wr un:List Nat} {Q:aq->Prop} {d:eZ} {l:List (aT×List Nat)} {s:aq} {ds:List bV} {v:AV}
variable {M:aw}
theorem ajg {l:List aT}(hx:(St.mk pe lo hp df).ae x=some (.au []))(h:WO M l ⟨⟨pe,(t,cm)::lo,hp,df⟩,wr⟩ Q):WO M (⟨.l t,op,some (x,want)⟩::l) ⟨⟨pe,lo,hp,df⟩,wr⟩ Q:=WO.TO hx h
theorem ajK {l:List aT}{a:Int}(hx:(St.mk pe lo hp df).ae x=some (.int .i64 a))
 (hr : -9223372036854775808<a/\a<=9223372036854775808) (h:WO M l ⟨⟨pe,(t,.int .i64 (-a))::lo,hp,df⟩,wr⟩ Q):WO M (⟨.l t,.un .neg x,none⟩::l) ⟨⟨pe,lo,hp,df⟩,wr⟩ Q:=
 WO.op (WP.pure (v:=.int .i64 (-a)) rfl (by
  have:IntKind.i64.wrap (0-a) = -a:=by rw[show 0-a = -a from by omega];exact nY (by omega)
  simp[aV,hx,rB]at this ⊢;exact this) h)
theorem WD.Uj {f:aN}{args:List aN}{g:FuncId}{fi ca as:List AV}(hf:s.s.ae f=some (.fn (.func g) fi ca))(ha:s.s.cE args=some as)
 (hU:(un.flatMap fun j=>(ds[j]?).elim [] bV.own)=[]) (he:M.ext g (fi++as++ca) s.s.hp=some ⟨v,s.s.hp,[]⟩)
 (h:WD M l ⟨s.s.put d v,s.wr⟩ (ds++[⟨none,[],0,0⟩]) Q):WD M ((⟨d,.call f args,none⟩,un)::l) s ds Q:=by
 have hp:({ s.s.put d v with hp:=s.s.hp++[] }:St)=s.s.put d v:=by cases d <;> simp[St.put]
 refine WD.Ui (hn:=[]) hf ha hU (by simpa using he) ?_;rw[hp];exact h.norm (by simp[bV.key,bV.own])
theorem ahy {f:aN}{args:List aN}{g:FuncId}{fi ca as:List AV}(hf:(St.mk pe lo hp df).ae f=some (.fn (.func g) fi ca))(ha:(St.mk pe lo hp df).cE args=some as)
 (hU:(un.flatMap fun j=>(ds[j]?).elim [] bV.own)=[]) (he:M.ext g (fi++as++ca) hp=some ⟨v,hp,[]⟩)
 (h:WD M l ⟨⟨pe,(t,v)::lo,hp,df⟩,wr⟩ (ds++[⟨none,[],0,0⟩]) Q):WD M ((⟨.l t,.call f args,none⟩,un)::l) ⟨⟨pe,lo,hp,df⟩,wr⟩ ds Q:=WD.Uj hf ha hU he h
theorem WD.take {t:Bool}(hx:s.s.ae x=some (.bool t))(ht:(t == want)=true)(h:WD M ((⟨d,op,none⟩,un)::l) s ds Q):WD M ((⟨d,op,some (x,want)⟩,un)::l) s ds Q:=by
 obtain⟨⟨n,s',h1,h2⟩⟩:=h;refine⟨⟨n,s',?_,h2⟩⟩;simp only[dF,dI,hx,ht]at h1 ⊢;exact h1
theorem WD.skip (hx:s.s.ae x=some v)(ht:v = .bool !want\/v = .au [])(h:WD M l ⟨s.s.put d cm,s.wr⟩ (ds++[⟨some [],[],0,0⟩]) Q):WD M ((⟨d,op,some (x,want)⟩,un)::l) s ds Q:=by
 obtain⟨⟨n,s',h1,h2⟩⟩:=h.norm (d':=⟨some [],[],s.s.hp.length,s.s.hp.length⟩) wc.symm;refine⟨⟨n,s',?_,h2⟩⟩;have hw:dI s.s (some (x,want))=some false:=by
  rcases ht with rfl|rfl
  . simp only[dI,hx];cases want <;> rfl
  . simp only[dI,hx]
 simp only[dF,hw];exact h1
theorem ajH (hx:s.s.ae x=some (.bool true))(h:WD M ((⟨d,op,none⟩,un)::l) s ds Q):WD M ((⟨d,op,some (x,true)⟩,un)::l) s ds Q:=WD.take hx rfl h
theorem ajL (hx:(St.mk pe lo hp df).ae x=some (.bool false))(h:WD M l ⟨⟨pe,(t,cm)::lo,hp,df⟩,wr⟩ (ds++[⟨some [],[],0,0⟩]) Q):WD M ((⟨.l t,op,some (x,true)⟩,un)::l) ⟨⟨pe,lo,hp,df⟩,wr⟩ ds Q:=WD.skip hx (.inl rfl) h
def ba.IJ:ba->Bool
 | .alloc .. | .box .. | .dQ .. | .gA .. | .ny=>true
 | _=>false
theorem BW {s:St}{hp':ab}(x:aN):St.ae { s with hp:=hp' } x=s.ae x:=by cases x <;> rfl
theorem IK {s:St}{hp':ab}:∀(ps:List (Nat×Nat×aN)),St.parts { s with hp:=hp' } ps=s.parts ps
 | []=>rfl
 | (o,n,x)::r=>by simp only[St.parts,BW,IK r]
theorem Uk {call:dS}{inv:fF}{s:St}(hn:op.IJ=true){r:HR}(hq:bI call inv s op=some r):∃o,r.h=s.hp++[o]/\r.wr=[]/\∀hp':ab,hp'.length=s.hp.length->bI call inv { s with hp:=hp' } op=some ⟨r.v,hp'++[o],[]⟩:=by
 cases op <;> first|(cases hn;done)|skip
 case alloc e z=>
  simp only[bI,ba.bA,if_true,bB]at hq;cases hq;exact⟨_,rfl,rfl,fun hp' hl=>by simp only[bI,ba.bA,if_true,bB,hl]⟩
 case box e n x=>
  simp only[bI,ba.bA,if_true,bB]at hq;split at hq
  . rename_i c hc;split at hq
    . rename_i hlen;cases hq;exact⟨_,rfl,rfl,fun hp' hl=>by simp only[bI,ba.bA,if_true,bB,BW,hc,hl,if_pos hlen]⟩
    . cases hq
  . cases hq
 case dQ e len esz z ps=>
  simp only[bI,ba.bA,if_true,bB]at hq;split at hq
  . rename_i vs hvs;split at hq
    . rename_i c hc;split at hq
      . rename_i hlen;cases hq;exact⟨_,rfl,rfl,fun hp' hl=>by simp only[bI,ba.bA,if_true,bB,IK,hvs,hc,hl,if_pos hlen]⟩
      . cases hq
    . cases hq
  . cases hq
 case ny=>
  simp only[bI,ba.bA,if_true,bB]at hq;cases hq;exact⟨_,rfl,rfl,fun hp' hl=>by simp only[bI,ba.bA,if_true,bB,hl]⟩
 case gA e esz by' z a b=>
  simp only[bI,ba.bA,if_true,bB]at hq;split at hq
  . rename_i x y hx hy;split at hq
    . rename_i hc;cases hq;exact⟨_,rfl,rfl,fun hp' hl=>by simp only[bI,ba.bA,if_true,bB,BW,hx,hy,hl,if_pos hc]⟩
    . cases hq
  . cases hq
theorem aiA (hn:op.IJ=true)(h:WO M [⟨d,op,none⟩] s fun s'=>WD M l s' (ds++[⟨some [],[],s.s.hp.length,s.s.hp.length+1⟩]) Q):WD M ((⟨d,op,none⟩,un)::l) s ds Q:=by
 obtain⟨⟨k,s1,h1,⟨⟨m,s',h2,h3⟩⟩⟩⟩:=h;refine⟨⟨max k m,s',?_,h3⟩⟩;have h1':=mG (inv:=M.inv) (jx (Nat.le_max_left k m)) _ _ _ h1;have h2':=kr (inv:=M.inv) (jx (Nat.le_max_right k m)) _ _ _ _ h2;simp only[eE,dI]at h1';have ht:iP s.s op=some []:=by cases op <;> first|(cases hn;done)|rfl
 have hh:op.bA=true:=by cases op <;> first|(cases hn;done)|rfl
 have hd:∀U,gC [] U=true:=fun U=>rfl
 cases hq:bI (M.call (max k m)) M.inv s.s op with
 | none=>rw[hq]at h1';cases h1'
 | some r=>
  rw[hq]at h1';obtain⟨o,e1,e2,e3⟩:=Uk hn hq;simp only[Option.some.injEq]at h1';simp only[dF,dI,hh,if_true,ht,hd,e3 (cj [] s.s.hp 0) (dZ _ _ _)];have hm:dT [] s.s.hp (cj [] s.s.hp 0++[o]) 0=s.s.hp++[o]:=by
   apply List.ext_getElem?;intro c;rw[jb _ _ _ _ _ (by simp[dZ])];split
   . rename_i hc;rw[List.getElem?_append_left hc];simp
   . rename_i hc;rw[List.getElem?_append_right (by rw[dZ];omega),List.getElem?_append_right (by omega),dZ]
  simp only[List.all_nil,List.isEmpty_nil,Bool.true_or,Bool.and_true,if_true,hm,List.nil_append,List.length_append,List.length_singleton,dZ];rw[e1,e2]at h1';subst h1';exact h2'
def BX (h:ab):AV->Option (List AV×Nat)
 | .str _=>none
 | .sl b off n esz _=>match h.at b with
   | some (.cells l _)=>(cut l off (n*esz)).map (·,n)
   | _=>none
 | v=>ek h v
def we:List AV->Option (List Int)
 | []=>some []
 | .int .i64 n::r=>match we r with
   | some l=>some (n::l)
   | none=>none
 | _=>none
theorem IL:∀{c:List AV} {l:List Int},we c=some l->c=ints l
 | [],l,h=>by cases h;rfl
 | v::r,l,h=>by
  unfold we at h;split at h
  . rename_i e;cases e
  . rename_i n r' e;cases e;split at h
    . rename_i l' hl;cases h;rw[IL hl];rfl
    . cases h
  . cases h
def ie (h:ab)(v:AV):Option (List Int):=match BX h v with
 | some (c,n)=>match we c with
   | some l=>if l.length=n then some l else none
   | none=>none
 | none=>none
theorem Ul {α:Type}{f:α->List AV}{h:ab}{l:List α}(hc:BX h v=some (arr f l,l.length)):Sl f h v l:=by
 cases v <;> simp only[BX,ek]at hc <;> try (cases hc;done)
 case aa=>
  simp only[Option.some.injEq,Prod.mk.injEq]at hc;exact .inl ⟨rfl,List.eq_nil_of_length_eq_zero hc.2.symm⟩
 case sl b off len esz cap=>
  split at hc
  . rename_i c e hb;simp only[Option.map_eq_some_iff,Prod.mk.injEq]at hc;obtain⟨c',h1,h2,h3⟩:=hc;subst h3;subst h2;exact .inr (.inr ⟨b,off,esz,cap,c,e,rfl,hb,h1⟩)
  . cases hc
 case vs c len cap=>
  simp only[Option.some.injEq,Prod.mk.injEq]at hc;obtain⟨rfl,rfl⟩:=hc;exact .inr (.inl ⟨cap,rfl⟩)
theorem Um {h:ab}{l:List Int}(hi:ie h v=some l):Sl (fun x=>[.int .i64 x]) h v l:=by
 unfold ie at hi;split at hi
 . rename_i c n hc;split at hi
   . rename_i l' hl;split at hi
     . rename_i hn;cases hi;subst hn;rw[IL hl]at hc;exact Ul hc
     . cases hi
   . cases hi
 . cases hi
end Go.Ab
namespace Go.Ab
variable {ars pe:List AV} {h hp:ab} {r:HR} {f:aN} {args:List aN} {l:List aT} {s:aq} {Q:aq->Prop} {g v:AV} {t b:Nat} {lo:List (Nat×AV)} {df wr:List Nat}
variable {M:aw}
def CT (M:aw)(g:AV)(ars:List AV)(h:ab)(r:HR):Prop:=∃n,M.call n g ars h=some r
theorem CT.run {f:FuncId}{fi ca:List AV}(he:M.ext f (fi++ars++ca) h=none)(hr:aS M f (fi++ars++ca) h r):CT M (.fn (.func f) fi ca) ars h r:=by
 obtain⟨n,hn⟩:=hr;exact⟨n,by simp only[gW,he];exact hn⟩
theorem WO.BY {d:eZ}(hf:s.s.ae f=some g)(ha:s.s.cE args=some ars)(hc:CT M g ars s.s.hp r)
 (h:WO M l ⟨{ s.s.put d r.v with hp:=r.h },r.wr++s.wr⟩ Q):WO M (⟨d,.call f args,none⟩::l) s Q:=
 WO.op (WP.call hf ha (by obtain⟨n,hn⟩:=hc;exact⟨⟨n,r,hn,h⟩⟩))
theorem aeT {h':ab}{wr':List Nat}(hf:(St.mk pe lo hp df).ae f=some g)(ha:(St.mk pe lo hp df).cE args=some ars)
 (hc:CT M g ars hp ⟨v,h',wr'⟩) (h:WO M l ⟨⟨pe,(t,v)::lo,h',df⟩,wr'++wr⟩ Q):WO M (⟨.l t,.call f args,none⟩::l) ⟨⟨pe,lo,hp,df⟩,wr⟩ Q:=WO.BY hf ha hc h
theorem WD.BY {d:eZ}{un:List Nat}{l:List (aT×List Nat)}{ds:List bV}(hf:s.s.ae f=some g)(ha:s.s.cE args=some ars)
 (hU:(un.flatMap fun j=>(ds[j]?).elim [] bV.own)=[]) (he:CT M g ars s.s.hp ⟨v,s.s.hp,[]⟩)
 (h:WD M l ⟨s.s.put d v,s.wr⟩ (ds++[⟨none,[],0,0⟩]) Q):WD M ((⟨d,.call f args,none⟩,un)::l) s ds Q:=by
 obtain⟨⟨m,s',h2,h3⟩⟩:=h.norm (d':=⟨none,[],s.s.hp.length,s.s.hp.length⟩) (by simp[bV.key,bV.own]);obtain⟨n,hn⟩:=he;refine⟨⟨max n m,s',?_,h3⟩⟩;have h2':=kr (inv:=M.inv) (jx (Nat.le_max_right n m)) _ _ _ _ h2;have hn':=jx (M:=M) (Nat.le_max_left n m) _ _ _ _ hn;have hm:mask s.s.hp []=s.s.hp:=rfl;have hcall:bI (M.call (max n m)) M.inv { s.s with hp:=s.s.hp } (.call f args)=some ⟨v,s.s.hp,[]⟩:=by
  simp only[bI,hf,ha];exact hn'
 have hmerge:dT [] s.s.hp s.s.hp 0=s.s.hp:=by
  apply List.ext_getElem?;intro c;rw[jb _ _ _ _ _ (Nat.le_refl _)];split
  . rfl
  . rfl
 simp only[dF,dI,ba.bA,if_true,iP,hU,hm];rw[hcall];have hp:({ s.s.put d v with hp:=s.s.hp }:St)=s.s.put d v:=by cases d <;> rfl
 simp only[List.all_nil,List.isEmpty_nil,Bool.true_or,Bool.and_true,if_true,hmerge,List.nil_append,hp];exact h2'
theorem ajy {un:List Nat}{l:List (aT×List Nat)}{ds:List bV}(hf:(St.mk pe lo hp df).ae f=some g)(ha:(St.mk pe lo hp df).cE args=some ars)
 (hU:(un.flatMap fun j=>(ds[j]?).elim [] bV.own)=[]) (he:CT M g ars hp ⟨v,hp,[]⟩)
 (h:WD M l ⟨⟨pe,(t,v)::lo,hp,df⟩,wr⟩ (ds++[⟨none,[],0,0⟩]) Q):WD M ((⟨.l t,.call f args,none⟩,un)::l) ⟨⟨pe,lo,hp,df⟩,wr⟩ ds Q:=WD.BY hf ha hU he h
theorem sh {f N:Nat}{aO:List Nat}{res:List fa}{body:an}(hft:M.FT f=some ⟨N,aO,res,body⟩)(hN:ars.length<=N)
 (hW:W M body ⟨⟨aO.map (fun t=>(ars[t]?).getD cm),[],h,[]⟩,[]⟩ fun e s=>(e = .normal\/e = .ret)/\s.s.bO=[]/\∃vs,cX s.s res=some vs/\dU (aU vs) h.length s=r):aS M f ars h r:=by
 obtain⟨⟨n,e,s,h1,h2,h3,vs,h4,h5⟩⟩:=hW;refine⟨n,?_⟩;have h1':bj M.ext M.inv M.FT n body ⟨⟨aO.map (fun t=>(ars[t]?).getD cm),[],h,[]⟩,[]⟩=some (e,s):=h1;simp only[gD,hft];rw[if_neg (by omega)];simp only[aw.ev,h1',if_pos h2,h3,kT,h4,h5]
def gS (b:Nat)(wr:List Nat):Prop:=∀x∈wr,x=b
theorem gS.nil:gS b []:=fun _ h=>by cases h
theorem gS.cons (h:gS b wr):gS b (b::wr):=fun x hx=>by
 rcases List.mem_cons.1 hx with e|e
 . exact e
 . exact h x e
theorem IM {x y:Option bw}:(h.put b x).put b y=h.put b y:=by simp[ab.put]
theorem Un {c c0:List AV}{e:TypeId}(hb:b<h.length)(hh:s.s.hp=h.put b (some (.cells c e)))(hw:gS b s.wr)(hc:bh c=0) :
 ∃wr,gS b wr/\dU (.au []) (h.put b (some (.cells c0 e))).length s=⟨.au [],h.put b (some (.cells c e)),wr⟩:=by
 refine⟨s.wr.filter (· < h.length),fun x hx=>hw x (List.mem_filter.1 hx).1,?_⟩;have hl:(h.put b (some (.cells c0 e))).length=h.length:=eH;have ht:tight s.s.hp h.length s.wr=true:=by
  simp only[tight,List.all_eq_true];intro x hx;rw[hw x hx,hh,fx hb];simp[bw.top,hc]
 have hk:(h.put b (some (.cells c e))).take h.length=h.put b (some (.cells c e)):=List.take_of_length_le (by rw[eH];exact Nat.le_refl _);simp only[dU,hl,ht,Bool.and_true];rw[hh,hk];split <;> rfl
theorem ajh {x:aN}{k:IntKind}{a:Int}(hx:(St.mk pe lo hp df).ae x=some (.int k a))(hr:0<=a/\a<18446744073709551616)
 (h:WO M l ⟨⟨pe,(t,.int .u64 a)::lo,hp,df⟩,wr⟩ Q):WO M (⟨.l t,.dE .u64 x,none⟩::l) ⟨⟨pe,lo,hp,df⟩,wr⟩ Q:=
 WO.op (WP.pure (v:=.int .u64 a) rfl (by
  have:IntKind.u64.wrap a=a:=by simp only[IntKind.wrap,IntKind.bits,IntKind.signed];simp;omega
  simp only[aV,hx,Option.bind_some,me,this]) h)
theorem aji {x:aN}{k:IntKind}{a:Int}(hx:(St.mk pe lo hp df).ae x=some (.int k a))(hr : -9223372036854775808<=a/\a<9223372036854775808)
 (h:WO M l ⟨⟨pe,(t,.int .i64 a)::lo,hp,df⟩,wr⟩ Q):WO M (⟨.l t,.dE .i64 x,none⟩::l) ⟨⟨pe,lo,hp,df⟩,wr⟩ Q:=
 WO.op (WP.pure (v:=.int .i64 a) rfl (by simp only[aV,hx,Option.bind_some,me,nY hr]) h)
end Go.Ab
namespace Go.Ab
variable {h:ab}
variable {M:aw}
theorem Uo {v:AV}{s:aq}(hh:s.s.hp=h)(hw:s.wr=[]):dU v h.length s=⟨v,h,[]⟩:=by
 have hk:h.take h.length=h:=List.take_length;simp only[dU,hh,hw,tight,List.all_nil,Bool.and_true,List.filter_nil,hk];split <;> rfl
theorem mI {g N:Nat}{aO:List Nat}{res:List fa}{body:an}{ars:List AV}{v:AV}(hft:M.FT g=some ⟨N,aO,res,body⟩)(hN:ars.length<=N)
 (hW:W M body ⟨⟨aO.map (fun t=>(ars[t]?).getD cm),[],h,[]⟩,[]⟩ fun x s=>(x = .normal\/x = .ret)/\s.s.bO=[]/\s.s.hp=h/\s.wr=[]/\∃vs,cX s.s res=some vs/\aU vs=v):aS M g ars h ⟨v,h,[]⟩:=by
 refine sh hft hN (hW.mono fun x s ⟨h1,h2,h3,h4,vs,h5,h6⟩=>⟨h1,h2,vs,h5,?_⟩);subst h6;exact Uo h3 h4
theorem IN {b:Nat}{o:bw}(hb:h.at b=some o):h.put b (some o)=h:=by
 have hl:=eM hb;apply List.ext_getElem?;intro i;simp only[ab.put,List.getElem?_set];split
 . rename_i e;subst e;unfold ab.at at hb;rw[List.getElem?_eq_getElem hl]at hb ⊢;simp at hb ⊢;simp[hb]
 . rfl
end Go.Ab
namespace Go.Ab
variable {wr:List Nat} {v:AV}
variable {M:aw}
def BZ (b n:Nat)(wr:List Nat):Prop:=∀x∈wr,x=b\/n<=x
theorem BZ.cons {b n:Nat}(h:BZ b n wr):BZ b n (b::wr):=fun x hx=>by
 rcases List.mem_cons.1 hx with e|e
 . exact .inl e
 . exact h x e
theorem Up {h J:ab}{s:aq}(hh:s.s.hp=h++J)(hw:∀x∈s.wr,h.length<=x)(hv:v.top=0):dU v h.length s=⟨v,h,[]⟩:=by
 have hf:s.wr.filter (· < h.length)=[]:=by
  rw[List.filter_eq_nil_iff];intro x hx;have:=hw x hx;simp;omega
 have ht:tight s.s.hp h.length s.wr=true:=by
  simp only[tight,List.all_eq_true];intro x hx;have:=hw x hx;split <;> simp[this]
 have hk:s.s.hp.take h.length=h:=by rw[hh];simp
 simp only[dU,hf,ht,hk,Bool.and_true];rw[if_pos (by simp[hv])]
theorem Uq {h:ab}{g N:Nat}{aO:List Nat}{res:List fa}{body:an}{ars:List AV}(hft:M.FT g=some ⟨N,aO,res,body⟩)(hN:ars.length<=N)(hv:v.top=0)
 (hW:W M body ⟨⟨aO.map (fun t=>(ars[t]?).getD cm),[],h,[]⟩,[]⟩ fun x s=>(x = .normal\/x = .ret)/\s.s.bO=[]/\(∃J,s.s.hp=h++J)/\(∀x∈s.wr,h.length<=x)/\∃vs,cX s.s res=some vs/\aU vs=v):aS M g ars h ⟨v,h,[]⟩:=by
 refine sh hft hN (hW.mono fun x s ⟨h1,h2,⟨J,h3⟩,h4,vs,h5,h6⟩=>⟨h1,h2,vs,h5,?_⟩);subst h6;exact Up h3 h4 hv
theorem gH {f N:Nat}{aO:List Nat}{res:List fa}{body:an}{ars:List AV}{P:AV->ab->Prop}(hft:M.FT f=some ⟨N,aO,res,body⟩)(hN:ars.length<=N)
 (h:W M body ⟨⟨aO.map (fun t=>(ars[t]?).getD cm),[],[],[]⟩,[]⟩ fun e s=>(e = .normal\/e = .ret)/\s.s.bO=[]/\∃vs,cX s.s res=some vs/\P (aU vs) (if (aU vs).top<=0 then [] else s.s.hp)):∃v hh,P v hh/\aS M f ars [] ⟨v,hh,[]⟩:=by
 obtain⟨⟨n,e,s,h1,h2,h3,vs,h4,h5⟩⟩:=h;exact⟨_,_,h5,bC hft hN ⟨⟨n,e,s,h1,h2,h3,vs,h4,rfl,rfl⟩⟩⟩
theorem ahZ {t b o n:Nat}{ag:Bool}{x:aN}{l:List aT}{pe:List AV}{lo:List (Nat×AV)}{hp:ab}{df:List Nat}{c:List AV}{e:TypeId}{Q:aq->Prop}(hx:(St.mk pe lo hp df).ae x=some (.ptr b o))(hb:hp.at b=some (.cells c e))(hv:partOf (c.drop o) 0 n ag=some v)
 (h:WO M l ⟨⟨pe,(t,v)::lo,hp,df⟩,wr⟩ Q):WO M (⟨.l t,.load n ag x,none⟩::l) ⟨⟨pe,lo,hp,df⟩,wr⟩ Q:=
 aiv hx (show fo hp (.ptr b o)=some (c.drop o) by simp only[fo,hb]) hv h
theorem Ur {n:Int}(h:0<=n/\n<18446744073709551616):IntKind.u64.wrap n=n:=by
 simp only[IntKind.wrap,IntKind.bits,IntKind.signed];simp;omega
theorem ajz {t L:Nat}{x y:aN}{l:List aT}{pe:List AV}{lo:List (Nat×AV)}{hp:ab}{df:List Nat}{k:IntKind}{a:Int}{Q:aq->Prop}(hx:(St.mk pe lo hp df).ae x=some (.int .u64 a))(hy:(St.mk pe lo hp df).ae y=some (.int k L))(hL:L<=64)
 (hr:0<=a*2^L/\a*2^L<18446744073709551616) (h:WO M l ⟨⟨pe,(t,.int .u64 (a*2^L))::lo,hp,df⟩,wr⟩ Q):WO M (⟨.l t,.bin .shl x y,none⟩::l) ⟨⟨pe,lo,hp,df⟩,wr⟩ Q:=
 aak (v:=.int .u64 (a*2^L)) (by
  have e:min ((L:Int)).toNat IntKind.u64.bits=L:=by simp only[IntKind.bits];omega
  simp only[aV,hx,hy,cK,e,Ur hr];rw[if_neg (by omega)]) rfl h
theorem IQ {α:Type}{f:α->List AV}(hf:∀a,(f a).all cG=true):∀l:List α,(arr f l).all cG=true
 | []=>rfl
 | a::l=>by
  have:=IQ hf l;simp only[arr]at this;simp only[arr,List.flatMap_cons,List.all_append,hf a,this,Bool.and_self]
end Go.Ab
namespace Go.Ab
variable {T:List Nat} {h:ab}
variable {M:aw}
theorem Ca {o:Option bw}:dT [] h (cj T h 0++[o]) 0=h++[o]:=by
 apply List.ext_getElem?;intro c;rw[jb _ _ _ _ _ (by simp[dZ])];split
 . rename_i hc;rw[List.getElem?_append_left hc];simp
 . rename_i hc;rw[List.getElem?_append_right (by rw[dZ];omega),List.getElem?_append_right (by omega),dZ]
theorem Us {b:Nat}{o:Option bw}:dT [b] h (ab.put (cj T h 0) b none++[o]) 0=ab.put h b none++[o]:=by
 have hl:(ab.put (cj T h 0) b none).length=h.length:=by rw[eH,dZ]
 apply List.ext_getElem?;intro c;rw[jb _ _ _ _ _ (by simp[hl])];split
 . rename_i hc;rw[List.getElem?_append_left (by rw[hl];exact hc),List.getElem?_append_left (by rw[eH];exact hc)];simp only[ab.put,List.getElem?_set,dZ,mC];by_cases e:b=c
   . subst e;simp[hc]
   . rw[if_neg e,if_neg e];have e':¬c=b:=fun h=>e h.symm
     simp[e']
 . rename_i hc;rw[List.getElem?_append_right (by rw[hl];omega),List.getElem?_append_right (by rw[eH];omega),hl,eH]
theorem Ut {y:AV}(hT:∀b,b∈fe (some y)->b∈T):ek (cj T h 0) y=ek h y:=by
 cases y with
 | sl b off n esz cap=>
  simp only[ek];rw[se,if_pos (by simpa using hT b (by simp[fe]))]
 | _=>rfl
theorem Uu {elem:TypeId}{esz bytes:Nat}{x y:AV}(hx:∀b,b∈fe (some x)->b∈T)(hy:∀b,b∈fe (some y)->b∈T){r:HR}(hr:gM elem esz bytes h x y=some r) :
 ∃h',gM elem esz bytes (cj T h 0) x y=some ⟨r.v,h',r.wr⟩/\dT r.wr h h' 0=r.h/\(∀b∈r.wr,((cj T h 0).at b).isSome=true):=by
 unfold gM at hr ⊢;rw[Ut hy];split at hr
 . cases hr
 . rename_i new n hs;split at hr
   . rename_i hc;rw[if_pos hc];split at hr
     . split at hr
       . rename_i h0;cases hr;exact⟨cj T h 0,by rw[if_pos h0],sf,by simp⟩
       . rename_i h0;split at hr
         . rename_i h1;cases hr;exact⟨_,by rw[if_neg h0,if_pos h1,dZ],Ca,by simp⟩
         . cases hr
     . rename_i l len cap;split at hr
       . rename_i h0;cases hr;exact⟨cj T h 0,by rw[if_pos h0],sf,by simp⟩
       . rename_i h0;split at hr
         . rename_i c;split at hr
           . rename_i h1;cases hr;refine⟨cj T h 0++[some (.cells (l++new) elem)],?_,Ca,by simp⟩;simp only[if_neg h0,if_pos h1,dZ]
           . cases hr
         . cases hr
     . rename_i b off len e cap;have hbT:T.contains b=true:=by simpa using hx b (by simp[fe])
       have hk:(cj T h 0).at b=h.at b:=by rw[se,if_pos hbT]
       split at hr
       . rename_i h0;cases hr;exact⟨cj T h 0,by rw[if_pos h0],sf,by simp⟩
       . rename_i h0;split at hr
         . rename_i h1;split at hr
           . rename_i l el hat;have hlt:=eM hat;have hsome:((cj T h 0).at b).isSome=true:=by rw[hk,hat];rfl
             split at hr
             . rename_i c;split at hr
               . rename_i h2;split at hr
                 . rename_i h3;cases hr;refine⟨ab.put (cj T h 0) b (some (.cells (overwrite l (off+len*esz) new) el)),?_,BV,by simpa using hsome⟩;simp only[if_neg h0,if_pos h1,hk,hat,if_pos h2,if_pos h3]
                 . cases hr
               . rename_i h2;split at hr
                 . rename_i bR hcut;cases hr;refine⟨cj T h 0++[some (.cells (bR++new) elem)],?_,Ca,by simp⟩;simp only[if_neg h0,if_pos h1,hk,hat,if_neg h2,hcut,dZ]
                 . cases hr
             . split at hr
               . rename_i h2;cases hr;refine⟨ab.put (cj T h 0) b none++[some (.cells (l.drop off++new) elem)],?_,Us,by simpa using hsome⟩;simp only[if_neg h0,if_pos h1,hk,hat,if_pos h2,dZ]
               . cases hr
           . cases hr
         . cases hr
     . cases hr
   . cases hr
theorem akc {d:eZ}{elem:TypeId}{esz bytes:Nat}{x y:aN}{l:List (aT×List Nat)}{s:aq}{ds:List bV}{a b:AV}{Q:aq->Prop}(ha:s.s.ae x=some a)(hb:s.s.ae y=some b)
 (h:∀dn,WO M [⟨d,.append elem esz bytes x y,none⟩] s fun s'=>WD M l s' (ds++[dn]) Q):WD M ((⟨d,.append elem esz bytes x y,none⟩,[])::l) s ds Q:=by
 have key:∀h0,bI (M.call 0) M.inv { s.s with hp:=h0 } (.append elem esz bytes x y)=gM elem esz bytes h0 a b:=fun h0=>by
  have hx':(St.mk s.s.pe s.s.lo h0 s.s.bO).ae x=some a:=by rw[←ha];cases x <;> rfl
  have hy':(St.mk s.s.pe s.s.lo h0 s.s.bO).ae y=some b:=by rw[←hb];cases y <;> rfl
  simp only[bI,ba.bA,if_true,bB,hx',hy']
 have keyn:∀n h0,bI (M.call n) M.inv { s.s with hp:=h0 } (.append elem esz bytes x y)=gM elem esz bytes h0 a b:=fun n h0=>by
  have hx':(St.mk s.s.pe s.s.lo h0 s.s.bO).ae x=some a:=by rw[←ha];cases x <;> rfl
  have hy':(St.mk s.s.pe s.s.lo h0 s.s.bO).ae y=some b:=by rw[←hb];cases y <;> rfl
  simp only[bI,ba.bA,if_true,bB,hx',hy']
 cases hq:gM elem esz bytes s.s.hp a b with
 | none=>
  obtain⟨⟨k,s1,h1,_⟩⟩:=h ⟨none,[],0,0⟩;simp only[eE,dI]at h1;rw[show bI (M.call k) M.inv s.s (.append elem esz bytes x y)=none from(keyn k s.s.hp).trans hq]at h1;cases h1
 | some r=>
  obtain⟨h',e1,e2,e3⟩:=Uu (T:=fe (some a)++fe (some b)) (fun c hc=>List.mem_append_left _ hc) (fun c hc=>List.mem_append_right _ hc) hq;obtain⟨⟨k,s1,h1,⟨⟨m,s',h2,h3⟩⟩⟩⟩:=h ⟨some (fe (some a)++fe (some b)),r.wr,s.s.hp.length,h'.length⟩;refine⟨⟨m,s',?_,h3⟩⟩;simp only[eE,dI]at h1;rw[show bI (M.call k) M.inv s.s (.append elem esz bytes x y)=some r from(keyn k s.s.hp).trans hq]at h1;simp only[Option.some.injEq]at h1;have ht:iP s.s (.append elem esz bytes x y)=some (fe (some a)++fe (some b)):=by
   simp only[iP,ha,hb];congr 1
  have hd:gC (fe (some a)++fe (some b)) []=true:=by simp[gC]
  simp only[dF,dI,ba.bA,if_true,ht,List.flatMap_nil,hd];rw[show bI (M.call m) M.inv { s.s with hp:=cj (fe (some a)++fe (some b)) s.s.hp 0 } (.append elem esz bytes x y)=some ⟨r.v,h',r.wr⟩ from(keyn m _).trans e1];have hw:(r.wr.all fun c=>((cj (fe (some a)++fe (some b)) s.s.hp 0).at c).isSome)=true:=by
   rw[List.all_eq_true];exact e3
  simp only[List.all_nil,Bool.or_true,Bool.and_true,e2];rw[←h1]at h2;first
    | (rw[if_pos e3];exact h2)
    | (rw[if_pos hw];exact h2)
    | (simp only[hw,if_true];exact h2)
end Go.Ab
namespace Go.Ab
variable {P:Program} {gl:Nat->Option AV}
end Go.Ab
namespace Go.Ab
open Go.ChangeShapes Go.WideShapes Go.RowKit
variable {H:Type} {enc:TypeId×Value->H} {P:Program} {W:World} {base:Nat} {sp:Nat->Bool} {t e:TypeId} {v:Value} {d:DataW H} {ps:List MemPlace}
theorem Uv {c:Nat}:cL bare c:=⟨fun b d hb=>by simp[bare]at hb,fun hx=>hx⟩
end Go.Ab
namespace Go.Ab
variable {M:aw}
abbrev ah:=List UInt8
def dD:List Int->Int
 | []=>0
 | e::r=>if e=0 then dD r else e
end Go.Ab
namespace Go.Ab
variable {h:ab} {v:AV} {n:Nat} {s:aq}
variable {M:aw}
structure iB (M:aw)(f:FuncId)(as:List AV)(h:ab)(K:HR->Prop):Prop where
 out:∃r,aS M f as h r/\K r
theorem iB.si {f N:Nat}{aO:List Nat}{res:List fa}{body:an}{ars:List AV}{K:HR->Prop}(hft:M.FT f=some ⟨N,aO,res,body⟩)(hN:ars.length<=N)
 (hW:W M body ⟨⟨aO.map (fun t=>(ars[t]?).getD cm),[],h,[]⟩,[]⟩ fun e s=>(e = .normal\/e = .ret)/\∃s',kT s.s.bO s=some s'/\∃vs,cX s'.s res=some vs/\K (dU (aU vs) h.length s')):iB M f ars h K:=by
 obtain⟨⟨n,e,s,h1,h2,s',h3,vs,h4,h5⟩⟩:=hW;refine⟨_,⟨n,?_⟩,h5⟩;have h1':bj M.ext M.inv M.FT n body ⟨⟨aO.map (fun t=>(ars[t]?).getD cm),[],h,[]⟩,[]⟩=some (e,s):=h1;simp only[gD,hft];rw[if_neg (by omega)];simp only[h1',if_pos h2,h3,h4]
theorem Cb (hv:v.top<=n)(ht:tight s.s.hp n s.wr=true):dU v n s=⟨v,s.s.hp.take n,s.wr.filter (· < n)⟩:=by
 unfold dU;rw[if_pos (by simp[hv,ht])]
theorem Uw (ht:tight s.s.hp n s.wr=false):dU v n s=⟨v,s.s.hp,s.wr.filter (· < n)⟩:=by
 unfold dU;rw[if_neg (by simp[ht])]
theorem ajk {t:Nat}{x y:aN}{l:List aT}{pe:List AV}{lo:List (Nat×AV)}{hp:ab}{df wr:List Nat}{a b:ah}{Q:aq->Prop}(hx:(St.mk pe lo hp df).ae x=some (.str a))(hy:(St.mk pe lo hp df).ae y=some (.str b))(hr:a.length+b.length<4611686018427387904)
 (h:WO M l ⟨⟨pe,(t,.str (a++b))::lo,hp,df⟩,wr⟩ Q):WO M (⟨.l t,.bin .add x y,none⟩::l) ⟨⟨pe,lo,hp,df⟩,wr⟩ Q:=
 aak (v:=.str (a++b)) (by simp only[aV,hx,hy,cK];rw[if_pos (by omega)]) rfl h
theorem Ux {J:ab}(hh:s.s.hp=h++J)(hw:∀x∈s.wr,h.length<=x)(hv:v.top<=h.length):dU v h.length s=⟨v,h,[]⟩:=by
 have hf:s.wr.filter (· < h.length)=[]:=by
  rw[List.filter_eq_nil_iff];intro x hx;have:=hw x hx;simp;omega
 have ht:tight s.s.hp h.length s.wr=true:=by
  simp only[tight,List.all_eq_true];intro x hx;have:=hw x hx;split <;> simp[this]
 have hk:s.s.hp.take h.length=h:=by rw[hh];simp
 rw[Cb hv ht,hf,hk]
theorem lF {g N:Nat}{aO:List Nat}{res:List fa}{body:an}{ars:List AV}(hft:M.FT g=some ⟨N,aO,res,body⟩)(hN:ars.length<=N)(hv:v.top<=h.length)
 (hW:W M body ⟨⟨aO.map (fun t=>(ars[t]?).getD cm),[],h,[]⟩,[]⟩ fun x s=>(x = .normal\/x = .ret)/\s.s.bO=[]/\(∃J,s.s.hp=h++J)/\(∀x∈s.wr,h.length<=x)/\∃vs,cX s.s res=some vs/\aU vs=v):aS M g ars h ⟨v,h,[]⟩:=by
 refine sh hft hN (hW.mono fun x s ⟨h1,h2,⟨J,h3⟩,h4,vs,h5,h6⟩=>⟨h1,h2,vs,h5,?_⟩);subst h6;exact Ux h3 h4 hv
section
variable {t b j:Nat} {x y:aN} {l:List aT} {pe:List AV} {lo:List (Nat×AV)} {hp:ab} {df wr:List Nat} {c:List AV} {e:TypeId} {Q:aq->Prop}
theorem aiD {ag:Bool}(hx:(St.mk pe lo hp df).ae x=some (.ptr b j))(hb:hp.at b=some (.cells c e))(hv:partOf (c.drop j) 0 n ag=some v)
 (h:WO M l ⟨⟨pe,(t,v)::lo,hp,df⟩,wr⟩ Q):WO M (⟨.l t,.load n ag x,none⟩::l) ⟨⟨pe,lo,hp,df⟩,wr⟩ Q:=
 ade (v:=v) (h':=hp) (w':=[]) (by simp only[bB,hx,Option.bind_some,fo,hb,hv]) rfl rfl h
theorem adX {new:List AV}(hx:(St.mk pe lo hp df).ae x=some (.ptr b j))(hy:((St.mk pe lo hp df).ae y).bind AV.cells=some new)(hb:hp.at b=some (.cells c e))(hn:new.length=n/\j+n<=c.length/\new.all cG=true){c':List AV}(hc:overwrite c j new=c')
 (h:WO M l ⟨⟨pe,lo,hp.put b (some (.cells c' e)),df⟩,b::wr⟩ Q):WO M (⟨.no,.store n x y,none⟩::l) ⟨⟨pe,lo,hp,df⟩,wr⟩ Q:=by
 subst hc;refine aiN (v:=cm) (h':=hp.put b (some (.cells (overwrite c j new) e))) (w':=[b]) ?_ rfl rfl h;simp only[bB,hx,hy,hb];rw[if_pos hn]
theorem akd (hx:(St.mk pe lo hp df).ae x=some (.ptr b j))(hb:hp.at b=some (.cells c e))(hj:j<c.length)
 (h:WO M l ⟨⟨pe,(t,.ptr b j)::lo,hp,df⟩,wr⟩ Q):WO M (⟨.l t,.ki none x,none⟩::l) ⟨⟨pe,lo,hp,df⟩,wr⟩ Q:=
 ade (v:=.ptr b j) (h':=hp) (w':=[]) (by simp only[bB,hx,hb];rw[if_pos ⟨hj,trivial⟩]) rfl rfl h
theorem ake (hx:(St.mk pe lo hp df).ae x=some (.ptr b 0))(hb:hp.at b=some (.cells c e))(hj:0<n/\c.length=n)
 (h:WO M l ⟨⟨pe,(t,.ptr b 0)::lo,hp,df⟩,wr⟩ Q):WO M (⟨.l t,.ki (some (e,n)) x,none⟩::l) ⟨⟨pe,lo,hp,df⟩,wr⟩ Q:=
 ade (v:=.ptr b 0) (h':=hp) (w':=[]) (by simp only[bB,hx,hb];rw[if_pos ⟨by omega,by simp[hj.2]⟩]) rfl rfl h
theorem ajO {neg:Bool}(hx:(St.mk pe lo hp df).ae x=some (.ptr b j))(hy:(St.mk pe lo hp df).ae y=some (.ptr b j))(hb:hp.at b=some (.cells c e))
 (h:WO M l ⟨⟨pe,(t,.bool !neg)::lo,hp,df⟩,wr⟩ Q):WO M (⟨.l t,.nw neg x y,none⟩::l) ⟨⟨pe,lo,hp,df⟩,wr⟩ Q:=
 ade (v:=.bool !neg) (h':=hp) (w':=[]) (by simp[bB,hx,hy,hb]) rfl rfl h
end
theorem IS {H:ab}{wr:List Nat}(hh:s.s.hp=H)(hw:s.wr=wr)(ht:tight H n wr=false):dU v n s=⟨v,H,wr.filter (· < n)⟩:=by
 rw[Uw (by rw[hh,hw];exact ht),hh,hw]
theorem akf {t c o e:Nat}{x:aN}{l:List aT}{pe:List AV}{lo:List (Nat×AV)}{hp:ab}{df wr:List Nat}{cap:Option Nat}{Q:aq->Prop}(hx:(St.mk pe lo hp df).ae x=some (.sl c o n e cap))(hn:0<n)
 (h:WO M l ⟨⟨pe,(t,.ptr c o)::lo,hp,df⟩,wr⟩ Q):WO M (⟨.l t,.rn x,none⟩::l) ⟨⟨pe,lo,hp,df⟩,wr⟩ Q:=by
 cases n with
 | zero=>exact absurd hn (Nat.lt_irrefl _)
 | succ m=>exact aak (v:=.ptr c o) (by simp only[aV,hx]) rfl h
theorem akg {t c:Nat}{e:TypeId}{x y:aN}{l:List (aT×List Nat)}{pe:List AV}{lo:List (Nat×AV)}{hp:ab}{df wr:List Nat}{ds:List bV}{cs cs':List AV}{k:IntKind}{n:Int}{s:ah}{Q:aq->Prop}(hx:(St.mk pe lo hp df).ae x=some (.ptr c 0))(hy:(St.mk pe lo hp df).ae y=some (.int k n))
 (hb:hp.at c=some (.cells cs e)) (hn:0<n/\n<=70368744177664) (hc:cut cs 0 n.toNat=some cs') (hs:bytesOf cs'=some s) (h:∀dn,WD M l ⟨⟨pe,(t,.str s)::lo,hp.put c none,df⟩,[c]++wr⟩ (ds++[dn]) Q):WD M ((⟨.l t,.jI e x y,none⟩,[])::l) ⟨⟨pe,lo,hp,df⟩,wr⟩ ds Q:=by
 have hT:([c]:List Nat).contains c=true:=by simp
 have hk:(cj [c] hp 0).at c=hp.at c:=by rw[se,if_pos hT]
 obtain⟨⟨m,s',h2,h3⟩⟩:=h ⟨some [c],[c],hp.length,(ab.put (cj [c] hp 0) c none).length⟩;refine⟨⟨m,s',?_,h3⟩⟩;have hx':(St.mk pe lo (cj [c] hp 0) df).ae x=some (.ptr c 0):=by rw[←hx];cases x <;> rfl
 have hy':(St.mk pe lo (cj [c] hp 0) df).ae y=some (.int k n):=by rw[←hy];cases y <;> rfl
 have key:bI (M.call m) M.inv ⟨pe,lo,cj [c] hp 0,df⟩ (.jI e x y)=some ⟨.str s,ab.put (cj [c] hp 0) c none,[c]⟩:=by
  simp only[bI,ba.bA,if_true,bB,hx',hy',hk,hb,hc,hs];rw[if_pos (by omega)]
 have ht:iP ⟨pe,lo,hp,df⟩ (.jI e x y)=some [c]:=by
  simp only[iP,hx]
 have hd:gC [c] []=true:=by simp[gC]
 have hsome:((cj [c] hp 0).at c).isSome=true:=by rw[hk,hb];rfl
 simp only[dF,dI,ba.bA,if_true,ht,List.flatMap_nil,hd,key];simp only[List.all_cons,List.all_nil,hsome,Bool.and_self,Bool.or_true,if_true,BV];exact h2
theorem UB {H:ab}{wr:List Nat}(hh:s.s.hp=H)(hw:s.wr=wr)(hv:v.top<=n)(ht:tight H n wr=true):dU v n s=⟨v,H.take n,wr.filter (· < n)⟩:=by
 rw[Cb hv (by rw[hh,hw];exact ht),hh,hw]
end Go.Ab
namespace Go.Ab
variable {M:aw} {t:Nat} {x y z:aN} {l:List aT} {pe:List AV} {lo:List (Nat×AV)} {hp:ab} {df wr:List Nat} {s r:ah} {k k':IntKind} {a b:Int} {Q:aq->Prop}
theorem agq (hx:(St.mk pe lo hp df).ae x=some (.str s))(hy:(St.mk pe lo hp df).ae y=some (.int k a))(ha:0<=a/\a<=s.length)(hr:s.drop a.toNat=r)
 (h:WO M l ⟨⟨pe,(t,.str r)::lo,hp,df⟩,wr⟩ Q):WO M (⟨.l t,.slice .str 1 x (some y) none none,none⟩::l) ⟨⟨pe,lo,hp,df⟩,wr⟩ Q:=by
 subst hr;refine aak (v:=.str (s.drop a.toNat)) ?_ rfl h;simp only[aV,hx,St.cT,hy,Option.map_some,jo,bK];rw[if_pos ha];have:(s.drop a.toNat).take (s.length-a.toNat)=s.drop a.toNat:=List.take_of_length_le (by simp);simp[this]
theorem agv (hx:(St.mk pe lo hp df).ae x=some (.str s))(hy:(St.mk pe lo hp df).ae y=some (.int k a))(ha:0<=a/\a<=s.length)(hr:s.take a.toNat=r)
 (h:WO M l ⟨⟨pe,(t,.str r)::lo,hp,df⟩,wr⟩ Q):WO M (⟨.l t,.slice .str 1 x none (some y) none,none⟩::l) ⟨⟨pe,lo,hp,df⟩,wr⟩ Q:=by
 subst hr;refine aak (v:=.str (s.take a.toNat)) ?_ rfl h;simp only[aV,hx,St.cT,hy,Option.map_some,jo,bK];rw[if_pos ha];simp
theorem ajZ (hx:(St.mk pe lo hp df).ae x=some (.str s))(hy:(St.mk pe lo hp df).ae y=some (.int k a))(hz:(St.mk pe lo hp df).ae z=some (.int k' b))(ha:0<=a/\a<=b/\b<=s.length)(hr:(s.drop a.toNat).take (b.toNat-a.toNat)=r)
 (h:WO M l ⟨⟨pe,(t,.str r)::lo,hp,df⟩,wr⟩ Q):WO M (⟨.l t,.slice .str 1 x (some y) (some z) none,none⟩::l) ⟨⟨pe,lo,hp,df⟩,wr⟩ Q:=by
 subst hr;refine aak (v:=.str ((s.drop a.toNat).take (b.toNat-a.toNat))) ?_ rfl h;have h1:0<=b/\b<=(s.length:Int):=⟨by omega,ha.2.2⟩;have h2:0<=a/\a<=(b.toNat:Int):=⟨ha.1,by omega⟩;simp only[aV,hx,St.cT,hy,hz,Option.map_some,jo,bK];simp only[Option.isNone_none,Bool.true_or,if_true,if_pos h1,if_pos h2]
theorem akh {m:Int}(hx:(St.mk pe lo hp df).ae x=some (.int k a))(hy:(St.mk pe lo hp df).ae y=some (.int k b))(hm:m=a/\a<=b\/m=b/\b<=a)
 (h:WO M l ⟨⟨pe,(t,.int k m)::lo,hp,df⟩,wr⟩ Q):WO M (⟨.l t,.mm false [x,y],none⟩::l) ⟨⟨pe,lo,hp,df⟩,wr⟩ Q:=by
 refine aak (v:=.int k m) ?_ rfl h;simp only[aV,St.cE,hx,hy];have e:(if b<a then b else a)=m:=by split <;> omega
 simp[nC,e]
end Go.Ab
namespace Go.Ab
variable {e:TypeId}
variable {M:aw}
theorem aiO {u n b off:Nat}{ag:Bool}{x:aN}{L:List aT}{pe:List AV}{lo:List (Nat×AV)}{hp:ab}{df wr:List Nat}{c:List AV}{v:AV}{Q:aq->Prop}(hx:(St.mk pe lo hp df).ae x=some (.ptr b off))(hb:hp.at b=some (.cells c e))(hv:partOf (c.drop off) 0 n ag=some v)
 (h:WO M L ⟨⟨pe,(u,v)::lo,hp,df⟩,wr⟩ Q):WO M (⟨.l u,.load n ag x,none⟩::L) ⟨⟨pe,lo,hp,df⟩,wr⟩ Q:=
 ade (v:=v) (h':=hp) (w':=[]) (by simp only[bB,hx,Option.bind_some,fo,hb,hv]) rfl rfl h
theorem aiC {n:Nat}{x y:aN}{L:List aT}{pe:List AV}{lo:List (Nat×AV)}{K:ab}{df wr:List Nat}{c c' new:List AV}{Q:aq->Prop}(hx:(St.mk pe lo (K++[some (.cells c e)]) df).ae x=some (.ptr K.length 0))(hy:((St.mk pe lo (K++[some (.cells c e)]) df).ae y).bind AV.cells=some new)
 (hn:new.length=n/\n<=c.length/\new.all cG=true) (ho:overwrite c 0 new=c') (h:WO M L ⟨⟨pe,lo,K++[some (.cells c' e)],df⟩,K.length::wr⟩ Q):WO M (⟨.no,.store n x y,none⟩::L) ⟨⟨pe,lo,K++[some (.cells c e)],df⟩,wr⟩ Q:=by
 obtain⟨h1,h2,h3⟩:=hn;refine aiN (v:=cm) (h':=K++[some (.cells c' e)]) (w':=[K.length]) ?_ rfl rfl h;simp only[bB,hx,hy,cU,Nat.zero_add];rw[if_pos ⟨h1,h2,h3⟩,ho];simp[ab.put]
def Cc {α:Type}(f:α->List AV)(esz:Nat)(e:TypeId)(hp:ab)(o:AV)(acc:List α)(S:List Nat):Prop:=(acc=[]/\o = .aa)\/∃c,acc≠[]/\c∉S/\o = .sl c 0 acc.length esz none/\hp.at c=some (.cells (arr f acc) e)
theorem Cc.fin {α:Type}{f:α->List AV}{esz:Nat}{hp:ab}{o:AV}{acc:List α}{S:List Nat}(h:Cc f esz e hp o acc S):Cc f esz e (if (aU [o]).top<=0 then [] else hp) o acc S:=by
 rcases h with ⟨h1,rfl⟩|⟨c,h0,h1,rfl,h2⟩
 . exact .inl ⟨h1,rfl⟩
 . refine .inr ⟨c,h0,h1,rfl,?_⟩;rw[if_neg (by simp[aU,AV.top])];exact h2
end Go.Ab
namespace Go.Ab
variable {M:aw} {P:Program} {gl:Nat->Option AV}
open Classical in
noncomputable def oc (R:List AV->ab->HR->Prop):Spec:=fun as h=>if e:∃r,R as h r then some (Classical.choose e) else none
theorem Cd {f:Nat}{R:List AV->ab->HR->Prop}(hR:∀as h r,R as h r->bN P gl ⟨f,as,h,r⟩):aR P gl f (oc R):=by
 intro as h r hq;unfold oc at hq;split at hq
 . rename_i e;cases hq;exact hR _ _ _ (Classical.choose_spec e)
 . cases hq
theorem Ce {R:List AV->ab->HR->Prop}{as:List AV}{h:ab}{r:HR}(hr:R as h r)(hd:∀r',R as h r'->r'=r):oc R as h=some r:=by
 unfold oc;rw[dif_pos ⟨r,hr⟩];exact congrArg some (hd _ (Classical.choose_spec (p:=fun r=>R as h r) ⟨r,hr⟩))
section
variable {α:Type} {f:α->List AV} {esz:Nat}
theorem IT (hf:∀a,(f a).length=esz)(hi:∀a b,f a=f b->a=b):∀{l m:List α},l.length=m.length->arr f l=arr f m->l=m
 | [],[],_,_=>rfl
 | a::l,b::m,hl,h=>by
  rw[jR,jR]at h;have:=List.append_inj h (by rw[hf,hf]);rw[hi _ _ this.1,IT hf hi (by simpa using hl) this.2]
theorem Sl.mJ {h:ab}:Sl f h .aa ([]:List α):=.inl ⟨rfl,rfl⟩
theorem Sl.iJ (hf:∀a,(f a).length=esz){h:ab}{l:List α}{b n:Nat}{e:TypeId}{cap:Option Nat}(hb:h.at b=some (.cells (arr f l) e))(hn:l.length=n):Sl f h (.sl b 0 n esz cap) l:=by
 subst hn;refine .inr (.inr ⟨b,0,esz,cap,_,e,rfl,hb,?_⟩);have:=ku hf (l:=l) (i:=0) (n:=l.length) (by omega);rw[Nat.zero_mul]at this;rw[this];simp
end
end Go.Ab
