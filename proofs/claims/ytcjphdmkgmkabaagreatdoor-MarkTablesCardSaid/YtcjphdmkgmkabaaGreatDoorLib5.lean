/-
  Own work: arguments of any type without pointers, as the abstract machine sees them.
-/
import Derived.Test.YtcjphdmkgmkabaaGreatDoorLib4
import Derived.Deep.Slices
import Derived.Deep.Strs
import Derived.OpenShut
import Derived.Below
set_option maxHeartbeats 8000000
set_option maxRecDepth 20000
namespace Go.Ab
open Go.ChangeShapes Go.WideShapes Go.RowKit
inductive ij
 | bool
 | int (k:IntKind)
 | str
 | slice (es:List ij)
mutual
def Has:ij->AV->Prop
 | .bool,x=>∃b,x = .bool b
 | .int k,x=>∃n,x = .int k n/\(Lit.int k n).wf=true
 | .str,x=>∃s:List UInt8,x = .str s/\s.length<=maxLen
 | .slice es,x=>∃ls:List (List AV),x = .vs ls.flatten ls.length none/\ls.length<=maxLen/\∀c∈ls,dV es c
def dV:List ij->List AV->Prop
 | [],l=>l=[]
 | t::ts,l=>∃x r,l=x::r/\Has t x/\dV ts r
end
theorem dV.length:∀{ts:List ij} {l:List AV},dV ts l->l.length=ts.length
 | [],l,h=>by simp only[dV]at h;subst h;rfl
 | t::ts,l,h=>by
  simp only[dV]at h;obtain⟨x,r,rfl,_,h2⟩:=h;simp[h2.length]
theorem dV.append:∀{ts us:List ij} {l m:List AV},dV ts l->dV us m->dV (ts++us) (l++m)
 | [],us,l,m,h,h'=>by simp only[dV]at h;subst h;exact h'
 | t::ts,us,l,m,h,h'=>by
  simp only[dV]at h;obtain⟨x,r,rfl,h1,h2⟩:=h;simp only[List.cons_append,dV];exact⟨x,r++m,rfl,h1,h2.append h'⟩
section
variable (P:Program)
def wh (rec:TypeId->Option (List ij)):List Field->Nat->Option (List ij)
 | [],_=>some []
 | f::fs,o=>if f.offset=o then match rec f.type with
     | some l=>if l.length=P.cellsOf f.type then (wh rec fs (o+l.length)).map (l ++ ·) else none
     | none=>none
   else none
def mK:Nat->TypeId->Option (List ij)
 | 0,_=>none
 | n+1,t=>match P.underlying t with
   | some .bool=>some [.bool]
   | some (.int k)=>some [.int k]
   | some .string=>some [.str]
   | some (.slice e)=>match mK n e with
     | some (c::r)=>if (c::r).length=P.cellsOf e then some [.slice (c::r)] else none
     | _=>none
   | some (.struct fs)=>match wh P (mK n) fs.toList 0 with
     | some l=>if l.length=P.cellsOf t then some l else none
     | none=>none
   | some (.array m e)=>match mK n e with
     | some l=>if l.length=P.cellsOf e/\(List.replicate m l).flatten.length=P.cellsOf t then some (List.replicate m l).flatten else none
     | none=>none
   | _=>none
end
variable {H:Type} {enc:TypeId×Value->H} {P:Program} {W:World}
def Cf (H:Type)(enc:TypeId×Value->H)(P:Program)(W:World)(t:TypeId)(l:List ij):Prop:=
 ∀(fuel:Nat) (cs:List Value) (x:DataW H×List MemPlace),DataW.trod enc P W 0 (fun _=>true) true fuel t cs=some x->∃xs,dV l xs/\VL bare W xs cs
theorem IU (rec:TypeId->Option (List ij))(hrec:∀t l,rec t=some l->Cf H enc P W t l){cs:List Value}:∀(fs:List Field) (o:Nat) (l:List ij),wh P rec fs o=some l->o<=cs.length ->
 (∀(i:Nat) (f:Field),fs[i]? = some f->∃(n:Nat) (x:DataW H×List MemPlace),DataW.trod enc P W 0 (fun _=>true) true n f.type ((cs.drop f.offset).take (P.cellsOf f.type))=some x) ->
 ∃xs,dV l xs/\VL bare W xs ((cs.drop o).take l.length)
 | [],o,l,h,_,_=>by
  cases h;exact⟨[],rfl,by simpa using VL.nil⟩
 | f::fs,o,l,h,ho,hf=>by
  simp only[wh]at h;split at h
  . rename_i hoff;split at h
    . rename_i l1 hl1;split at h
      . rename_i hlen;rw[Option.map_eq_some_iff]at h;obtain⟨l2,hl2,rfl⟩:=h;obtain⟨n,x,hx⟩:=hf 0 f rfl;rw[hoff,←hlen]at hx;obtain⟨xs1,g1,g2⟩:=hrec _ _ hl1 _ _ _ hx;have e1:((cs.drop o).take l1.length).length=l1.length:=by rw[←g2.1,g1.length]
        have ho':o+l1.length<=cs.length:=by simp at e1;omega
        obtain⟨xs2,g3,g4⟩:=IU rec hrec fs (o+l1.length) l2 hl2 ho' (fun i f hi=>hf (i+1) f hi);refine⟨xs1++xs2,g1.append g3,?_⟩;have e2:(cs.drop o).take (l1++l2).length=(cs.drop o).take l1.length++(cs.drop (o+l1.length)).take l2.length:=by
         rw[List.length_append,List.take_add,List.drop_drop]
        rw[e2];exact g2.append g4
      . cases h
    . cases h
  . cases h
theorem IV (l:List ij){e:TypeId}(he:Cf H enc P W e l){cs:List Value}:∀(m o:Nat),o+m*l.length<=cs.length ->
 (∀i,i<m->∃(n:Nat) (x:DataW H×List MemPlace),DataW.trod enc P W 0 (fun _=>true) true n e ((cs.drop (o+i*l.length)).take l.length)=some x) ->
 ∃xs,dV (List.replicate m l).flatten xs/\VL bare W xs ((cs.drop o).take (m*l.length))
 | 0,o,_,_=>⟨[],rfl,by simpa using VL.nil⟩
 | m+1,o,ho,h=>by
  obtain⟨n,x,hx⟩:=h 0 (by omega);rw[Nat.zero_mul,Nat.add_zero]at hx;obtain⟨xs1,g1,g2⟩:=he _ _ _ hx;have e0:(m+1)*l.length=l.length+m*l.length:=by rw[Nat.add_mul];omega
  obtain⟨xs2,g3,g4⟩:=IV (cs:=cs) l he m (o+l.length) (by omega) (fun i hi=>by
   have:=h (i+1) (by omega);rwa [show o+(i+1)*l.length=o+l.length+i*l.length from by rw[Nat.add_mul];omega]at this)
  refine⟨xs1++xs2,?_,?_⟩
  . rw[List.replicate_succ,List.flatten_cons];exact g1.append g3
  . rw[e0,List.take_add,List.drop_drop];exact g2.append g4
theorem IW {n:Nat}:∀{ls:List (List AV)} {j:Nat} {x:AV},0<n->(∀c∈ls,c.length=n)->ls.flatten[j]? = some x->∃c,ls[j/n]? = some c/\c[j%n]? = some x
 | [],j,x,_,_,h=>by simp at h
 | a::ls,j,x,hn,hl,h=>by
  have ha:a.length=n:=hl a (by simp);rw[List.flatten_cons]at h;rcases Nat.lt_or_ge j n with hj|hj
  . rw[List.getElem?_append_left (by omega)]at h;refine⟨a,?_,?_⟩
    . rw[Nat.div_eq_of_lt hj];rfl
    . rw[Nat.mod_eq_of_lt hj];exact h
  . rw[List.getElem?_append_right (by omega),ha]at h;obtain⟨c,h1,h2⟩:=IW (j:=j-n) hn (fun c hc=>hl c (by simp[hc])) h;have e1:j/n=(j-n)/n+1:=by
     rw[←Nat.add_div_right _ hn,Nat.sub_add_cancel hj]
    have e2:j%n=(j-n)%n:=by
     rw[←Nat.mod_eq_sub_mod hj]
    rw[e1,e2];exact⟨c,h1,h2⟩
theorem IX {n:Nat}:∀{ls:List (List AV)},(∀c∈ls,c.length=n)->ls.flatten.length=ls.length*n
 | [],_=>by simp
 | a::ls,h=>by
  rw[List.flatten_cons,List.length_append,h a (by simp),IX (fun c hc=>h c (by simp[hc])),List.length_cons,Nat.add_mul];omega
theorem wi:∀(n:Nat) (t:TypeId) (l:List ij),mK P n t=some l->Cf H enc P W t l
 | 0,t,l,h=>by cases h
 | n+1,t,l,h=>by
  intro fuel cs x hx;unfold mK at h;split at h
  . rename_i hu;cases h;obtain⟨b,rfl,_⟩:=DataW.trod_bool hu hx;exact⟨[.bool b],by simp[dV,Has],.cons (.bool b) .nil⟩
  . rename_i k hu;cases h;obtain⟨z,rfl,_,hw⟩:=DataW.trod_int hu hx;refine⟨[.int k z],?_,.cons (.int k z) .nil⟩;simp only[dV,Has];exact⟨_,[],rfl,⟨z,rfl,hw⟩,rfl⟩
  . rename_i hu;cases h;obtain⟨z,rfl,_,hw⟩:=DataW.trod_string hu hx;refine⟨[.str z.data.toList],?_,.cons (.uT z) .nil⟩;simp only[dV,Has];have e:z.data.toList.length=z.size:=Array.length_toList;exact⟨_,[],rfl,⟨_,rfl,by rw[e];exact hw⟩,rfl⟩
  . rename_i e hu;split at h
    . rename_i c r hc;split at h
      . rename_i hlen;cases h;have he:=wi n e (c::r) hc;rcases Go.Deep.open_slice hu hx with ⟨rfl,_⟩|⟨a,len,cap,m,k,D,Pl,rfl,_,hle,hcap,hm,_,hall⟩
        . refine⟨[.vs [] 0 none],?_,.cons (.dY (fun n hn=>by cases hn)) .nil⟩;simp only[dV,Has];exact⟨_,[],rfl,⟨[],rfl,Nat.zero_le _,by simp⟩,rfl⟩
        . have hm':m=cap:=by simpa using hm
          subst hm';by_cases h0:m=0
          . subst h0;obtain rfl:len=0:=by omega
            refine⟨[.vs [] 0 none],?_,.cons (.fv a (fun n hn=>by cases hn)) .nil⟩;simp only[dV,Has];exact⟨_,[],rfl,⟨[],rfl,Nat.zero_le _,by simp⟩,rfl⟩
          . rw[←hlen]at hall;have hn0:0<(c::r).length:=by simp
            generalize hes:(c::r)=es at *
            have hsp:a.spot=none:=by
             obtain⟨cs',h1,_⟩:=hall 0 (by omega);obtain⟨_,hl3,hc3⟩:=World.cells?_some h1;have h5:=hc3 0 (by omega);rw[List.getElem?_eq_getElem (by omega)]at h5;have:=World.cell?_spot h5;simpa[Addr.add] using this
            obtain⟨b,off,spot⟩:=a;simp only at hsp;subst hsp;have hex:∀i,i<len->∃cx:List Value×List AV,W.cells? 0 ((Addr.mk b off none).add (i*es.length)) es.length=some cx.1/\dV es cx.2/\VL bare W cx.2 cx.1:=fun i hi=>by
             obtain⟨cs',h1,h2⟩:=hall i (by omega);obtain⟨xs,h3,h4⟩:=he _ _ _ h2;exact⟨(cs',xs),h1,h3,h4⟩
            obtain⟨f,hf⟩:=Go.Deep.choose_lt (α:=List Value×List AV) hex;have hL:∀c∈(List.range len).map (fun i=>(f i).2),dV es c:=fun c hc=>by
             rw[List.mem_map]at hc;obtain⟨i,hi,rfl⟩:=hc;exact(hf i (List.mem_range.1 hi)).2.1
            have hLl:∀c∈(List.range len).map (fun i=>(f i).2),c.length=es.length:=fun c hc=>(hL c hc).length
            refine⟨[.vs ((List.range len).map (fun i=>(f i).2)).flatten len none],?_,.cons ?_ .nil⟩
            . simp only[dV,Has];exact⟨_,[],rfl,⟨_,by simp,by simp;omega,hL⟩,rfl⟩
            . have hfl:=IX hLl;rw[List.length_map,List.length_range]at hfl;have hdiv:∀i,i<len*es.length->i/es.length<len:=fun i hi=>(Nat.div_lt_iff_lt_mul hn0).2 hi
              refine .vs b off (fun j=>((f (j/es.length)).1[j%es.length]?).getD (.bool false)) (fun _=>Uv) hle (fun n hn=>by cases hn) (fun j hj=>?_) (fun j x hx=>?_)
              . rw[hfl]at hj;obtain⟨h1,_,h3⟩:=hf _ (hdiv j hj);obtain⟨_,hl3,hc3⟩:=World.cells?_some h1;have hmod:=Nat.mod_lt j hn0;have:=hc3 (j%es.length) (by omega);rw[add_plain,add_plain]at this;have e:off+j=off+j/es.length*es.length+j%es.length:=by
                 have:=Nat.div_add_mod j es.length;rw[Nat.mul_comm]at this;omega
                rw[e,this,List.getElem?_eq_getElem (by omega)];rfl
              . obtain⟨c',h1,h2⟩:=IW hn0 hLl hx;have hlt:j<len*es.length:=by
                 rw[←hfl];exact(List.getElem?_eq_some_iff.1 hx).1
                have hd:=hdiv j hlt;rw[List.getElem?_map,List.getElem?_range hd,Option.map_some]at h1;cases h1;obtain⟨g1,g2,g3⟩:=hf _ hd;have hmod:=Nat.mod_lt j hn0;have hl3:j%es.length<(f (j/es.length)).1.length:=by rw[←g3.1,g2.length];exact hmod
                rw[List.getElem?_eq_getElem hl3];exact g3.2 _ _ _ h2 (List.getElem?_eq_getElem hl3)
      . cases h
    . cases h
  . rename_i fs hu;split at h
    . rename_i l' hl';split at h
      . rename_i hlen;cases h;obtain⟨xs,k,_,_,hcl,hxl,hall⟩:=DataW.trod_struct hu hx;have:=IU (H:=H) (enc:=enc) (W:=W) (cs:=cs) (mK P n) (fun t l ht=>wi n t l ht) fs.toList 0 _ hl' (Nat.zero_le _) (fun i f hi=>by
         have h1:=hall i f (by simpa using hi);have hi':i<xs.length:=by
          rw[hxl];have:=(List.getElem?_eq_some_iff.1 hi).1;simpa using this
         exact⟨k,xs[i],by rw[h1,List.getElem?_eq_getElem hi']⟩)
        rw[List.drop_zero,List.take_of_length_le (by omega)]at this;exact this
      . cases h
    . cases h
  . rename_i m e hu;split at h
    . rename_i l' hl';split at h
      . rename_i hlen;cases h;obtain⟨h1,h2⟩:=hlen;obtain⟨xs,k,_,_,hcl,hxl,hall⟩:=DataW.trod_array hu hx;have e2:m*l'.length=cs.length:=by rw[hcl,←h2];simp
        have:=IV (H:=H) (enc:=enc) (W:=W) (cs:=cs) l' (wi n e l' hl') m 0 (by omega) (fun i hi=>by
         rw[Nat.zero_add,h1];exact⟨k,xs[i],by rw[hall i hi,List.getElem?_eq_getElem (by omega)]⟩)
        rw[List.drop_zero,List.take_of_length_le (by omega)]at this;exact this
      . cases h
    . cases h
  . cases h
theorem UC {n:Nat}{t:TypeId}{c:ij}{base:Nat}{v:Value}{d:DataW H}{ps:List MemPlace}(hc:mK P n t=some [c])(hv:v.cells.toList=[v])(h:DataW.Trod enc P W base (fun _=>true) true t v d ps)(hb:base=0):∃x,Has c x/\V bare W x v:=by
 subst hb;obtain⟨fuel,hf⟩:=h;rw[hv]at hf;obtain⟨xs,h1,h2⟩:=wi n t _ hc _ _ _ hf;simp only[dV]at h1;obtain⟨x,r,rfl,h3,rfl⟩:=h1;exact⟨x,h3,h2.2 0 x v rfl rfl⟩
theorem IY {α:Type}{f:α->List AV}{es:List ij}(hf:∀c,dV es c->∃a,c=f a):∀ls:List (List AV),(∀c∈ls,dV es c)->∃l:List α,ls.flatten=arr f l/\ls.length=l.length
 | [],_=>⟨[],rfl,rfl⟩
 | c::ls,h=>by
  obtain⟨a,rfl⟩:=hf c (h c (by simp));obtain⟨l,h1,h2⟩:=IY hf ls (fun c hc=>h c (by simp[hc]));exact⟨a::l,by rw[List.flatten_cons,h1,jR],by simp[h2]⟩
theorem UD {α:Type}{f:α->List AV}{es:List ij}(hf:∀c,dV es c->∃a,c=f a){x:AV}(h:Has (.slice es) x):∃l:List α,x = .vs (arr f l) l.length none/\l.length<=maxLen:=by
 simp only[Has]at h;obtain⟨ls,rfl,h1,h2⟩:=h;obtain⟨l,h3,h4⟩:=IY hf ls h2;exact⟨l,by rw[h3,h4],by omega⟩
end Go.Ab
namespace Go.Ab
variable {FT:FuncId->Option cW}
variable {P:Program} {gl:Nat->Option AV}
def jy (ρ:ax):ax:=⟨fun _=>.fresh,ρ.X⟩
theorem cL.jy {ρ:ax}{c:Nat}(h:¬ρ.X c):cL (jy ρ) c:=⟨fun b d hb=>by simp[Go.Ab.jy]at hb,h⟩
theorem UE (hgl:∀g v,gl g=some v->v.top=0){w:World}{ρ:ax}{T:List Nat}{v v1:AV}{hh:ab}{v':Value}{w':World}(hf:Fr hh T v v1)(ht:v1.top=0)(hd:eL P gl (dy ρ []) [] w ⟨v,hh,[]⟩ v' w'):eL P gl (dy ρ []) [] w ⟨v1,[],[]⟩ v' w':=by
 obtain⟨ρ',hv,m',x⟩:=hd;have hF:∀c,cL (dy ρ' T) c->cL (jy ρ') c:=fun c hc=>cL.jy fun hx=>hc.2 (.inl hx)
 have hF':∀c,cL ρ' c->cL (jy ρ') c:=fun c hc=>cL.jy hc.2
 refine⟨jy ρ',(hf.view m' hv).gp (n:=0) (fun b hb=>by omega) hF (by omega),?_,?_⟩
 . refine⟨fun b o hb=>by simp at hb,fun b _=>rfl,fun b b' c d d' h1=>by simp[jy]at h1,fun b c d h1=>by simp[jy]at h1,m'.xb,fun b c d h1=>by simp[jy]at h1,fun g v hg=>?_⟩;exact(m'.gl g v hg).gp (n:=0) (fun b hb=>by omega) hF' (by rw[hgl g v hg];exact Nat.le_refl _)
 . refine⟨x.os,x.tape,x.output,x.size,Nat.le_refl _,x.X,fun b hb=>by simp at hb,fun b hb=>by simp at hb,fun b c d hb=>by simp[dy]at hb,fun b hb=>by simp[dy]at hb,fun b hb=>by simp[dy]at hb,fun c hc _=>x.bR c hc (fun b d hb=>by simp[dy]at hb),fun b c d hb _=>by simp[jy]at hb,x.shape⟩
theorem UF (hgl:∀g v,gl g=some v->v.top=0){f:Nat}{as:List AV}{h:ab}{v v1:AV}{hh:ab}{T:List Nat}(ha:bh as=0)(hf:Fr hh T v v1)(ht:v1.top=0)(hloc:bN P gl ⟨f,as,[],⟨v,hh,[]⟩⟩):bN P gl ⟨f,as,h,⟨v1,h,[]⟩⟩:=by
 refine⟨⟨Nat.le_refl _,fun _ _ _=>rfl⟩,fun ρ w as' m hl=>?_⟩;obtain⟨nx,w1,h1,h2⟩:=hloc.2 (dy ρ []) w as' (m.dy hgl []) ((gR.same ha).view m hl);refine⟨nx,w1,h1,h2.mono fun v w' hd=>?_⟩;have:=IB (S:=[]) (ks:=[]) (bs:=[]) m (by simp) (.same ht) rfl (by simp) (.inl rfl) (UE hgl hf ht hd);simpa using this
theorem UG (hs:jP P gl FT){T:List (Nat×Spec)}(hT:cf P gl (bk T)){f:Nat}{as:List AV}{h hh:ab}{B:List Nat}{v v1:AV}(hr:aS (aY P FT T) f as [] ⟨v,hh,[]⟩)(ha:bh as=0)(hf:Fr hh B v v1)(ht:v1.top=0):bN P gl ⟨f,as,h,⟨v1,h,[]⟩⟩:=
 UF hs.gl ha hf ht (pT hs hT hr ⟨Nat.zero_le _,fun _ hb=>absurd hb (Nat.not_lt_zero _)⟩)
def mL (N:Nat):ax:=⟨fun _=>.fresh,fun c=>c<N⟩
theorem cL.mL {N c:Nat}(h:N<=c):cL (mL N) c:=⟨fun b d hb=>by simp[Go.Ab.mL]at hb,fun hx=>absurd hx (by show ¬c<N;omega)⟩
theorem Fr.UH {ρ:ax}{h:ab}{w:World}(m:Mem P gl ρ h w){N:Nat}(hnew:∀b c d,ρ b = .live c d->N<=c){T:List Nat}(hT:∀b l e,b∈T->h.at b=some (.cells l e)->fk l=true){a a0:AV}(hr:Fr h T a a0):dh a=true->a0.top=0->∀{v:Value},V ρ w a v->V (mL N) w a0 v:=by
 have hat:∀{b o},h.at b=some o->h[b]? = some (some o):=fun {b o} hb=>by
  unfold ab.at at hb;cases hz:h[b]? with
  | none=>rw[hz]at hb;cases hb
  | some z=>rw[hz]at hb;simp only[Option.join_some]at hb;rw[hb]
 have cutN:∀{l m':List AV} {off n:Nat},fk l=true->cut l off n=some m'->∀(i:Nat) x,m'[i]? = some x->dh x=true:=fun {l m' off n} hn hc i x hx=>by
  simp only[cut]at hc;split at hc
  . cases hc;rw[List.getElem?_take]at hx;split at hx
    . rw[List.getElem?_drop]at hx;exact gG hn hx
    . cases hx
  . cases hc
 induction hr with
 | same ht=>exact fun hn _ v hv=>IA ht hn hv
 | nil hc=>
  intro _ _ v hv;cases hv;exact .dY hc
 | @sl b off len esz cap cap' l m' m0 e hb ha hc hl hg hcc ih=>
  intro _ ht v hv;simp only[AV.top]at ht;have ih':∀(i:Nat) x y,m'[i]? = some x->m0[i]? = some y->∀{v:Value},V ρ w x v->V (mL N) w y v:=fun i x y hx hy {v} hv=>
   ih i x y hx hy (cutN (hT b l e hb ha) hc i x hx) (by have:=fw (n:=0) (by omega) i y hy;omega) hv
  have hB:=m.cQ b _ (hat ha);have hcut:m'.length=len*esz/\∀i,i<m'.length->m'[i]? = l[off+i]? := by
   simp only[cut]at hc;split at hc
   . rename_i hlen;cases hc;refine⟨hlen,fun i hi=>?_⟩;rw[List.getElem?_take,if_pos (by omega),List.getElem?_drop]
   . cases hc
  cases hv with
  | @sl _ c d _ _ _ capC _ h1 h2 h3 h4=>
   have h3:∀n,cap'=some n->capC=n:=fun n hn=>by
    rcases hcc with rfl|rfl
    . exact h3 n hn
    . cases hn
   rcases hB with ⟨c',d',cs,fr,g1,g2,g3,g4,g5⟩|⟨g1,_⟩
   . rw[h1]at g1;cases g1;refine .vs c (off+d) (fun i=>cs.getD (off+d+i) (.bool false)) (fun _=>cL.mL (hnew _ _ _ h1)) h2 h3 (fun i hi=>?_) (fun i y hy=>?_)
     . have hi':i<m'.length:=by omega
       have hlt:off+i<l.length:=by
        have:=hcut.2 i hi';rw[List.getElem?_eq_getElem hi']at this;exact(List.getElem?_eq_some_iff.1 this.symm).1
       have:off+d+i<cs.size:=by have:=g3.1;omega
       simp only[World.cell?,g2];simp[this,Array.getD]
     . have hi:i<m0.length:=(List.getElem?_eq_some_iff.1 hy).1;have hi':i<m'.length:=by omega
       have hx:=hcut.2 i hi';rw[List.getElem?_eq_getElem hi']at hx;have hlt:off+i<l.length:=(List.getElem?_eq_some_iff.1 hx.symm).1;have hs:off+d+i<cs.size:=by have:=g3.1;omega
       refine ih' i m'[i] y (List.getElem?_eq_getElem hi') hy ?_;refine g5 (off+i) _ _ hx.symm ?_;rw[show off+i+d=off+d+i from by omega];simp[hs,Array.getD]
   . rw[h1]at g1;cases g1
  | @fy _ _ h1=>
   rcases hB with ⟨c',d',cs,fr,g1,_⟩|⟨g1,g2⟩
   . rw[h1]at g1;cases g1
   . have:m0=[]:=List.eq_nil_of_length_eq_zero (by omega);subst this;exact .dY (by rcases hcc with rfl|rfl <;> simp)
  | eK c o' h1 _ _=>
   rcases hB with ⟨c',d',cs,fr,g1,_⟩|⟨g1,g2⟩ <;> (rw[h1]at g1;cases g1)
  | fz a h1=>
   rcases hB with ⟨c',d',cs,fr,g1,_⟩|⟨g1,g2⟩ <;> (rw[h1]at g1;cases g1)
  | fu h1=>
   rcases hB with ⟨c',d',cs,fr,g1,_⟩|⟨g1,g2⟩ <;> (rw[h1]at g1;cases g1)
 | @ptr b off l m0 e hb ha hl hg ih=>
  intro _ ht v hv;simp only[AV.top]at ht;have hB:=m.cQ b _ (hat ha);cases hv with
  | @ptr _ c d _ h1=>
   rcases hB with ⟨c',d',cs,fr,g1,g2,g3,g4,g5⟩|⟨g1,_⟩
   . rw[h1]at g1;cases g1;refine .vp c (off+d) (fun i=>cs.getD (off+d+i) (.bool false)) (fun _=>cL.mL (hnew _ _ _ h1)) (fun i hi=>?_) (fun i y hy=>?_)
     . have:off+d+i<cs.size:=by have:=g3.1;simp at hl;omega
       simp only[World.cell?,g2];simp[this,Array.getD]
     . have hi:i<m0.length:=(List.getElem?_eq_some_iff.1 hy).1;have hi':i<(l.drop off).length:=by omega
       have hlt:off+i<l.length:=by simp at hi';omega
       have hs:off+d+i<cs.size:=by have:=g3.1;omega
       refine ih i _ y (List.getElem?_eq_getElem hi') hy ?_ (by have:=fw (n:=0) (by omega) i y hy;omega) ?_
       . rw[List.getElem_drop];exact gG (hT b l e hb ha) (List.getElem?_eq_getElem hlt)
       . refine g5 (off+i) _ _ (by rw[List.getElem_drop];exact List.getElem?_eq_getElem hlt) ?_;rw[show off+i+d=off+d+i from by omega];simp[hs,Array.getD]
   . rw[h1]at g1;cases g1
  | dX _ c o' h1=>
   rcases hB with ⟨c',d',cs,fr,g1,_⟩|⟨g1,g2⟩ <;> (rw[h1]at g1;cases g1)
 | @vs l l0 n cap hl hg ih=>
  intro hn _ v hv;simp only[dh,List.isEmpty_iff]at hn;subst hn;have:l0=[]:=List.eq_nil_of_length_eq_zero (by simp at hl;omega);subst this;cases hv with
  | vs c o g hf h2 h3 h4 h5=>exact .vs c o g (fun h=>absurd rfl h) h2 h3 (by simp) (by simp)
  | dY hc=>exact .dY hc
  | fv a hc=>exact .fv a hc
 | @agg l l0 hl hg ih=>
  intro hn ht v hv;simp only[dh]at hn;simp only[AV.top]at ht;cases hv with
  | @agg _ mm h1 h2=>
   refine .agg (by omega) fun i y z hy hz=>?_
   have hi:i<l.length:=by have:=(List.getElem?_eq_some_iff.1 hy).1;omega
   exact ih i _ y (List.getElem?_eq_getElem hi) hy (gG hn (List.getElem?_eq_getElem hi)) (by have:=fw (n:=0) (by omega) i y hy;omega) (h2 i _ z (List.getElem?_eq_getElem hi) hz)
 | @au l l0 hl hg ih=>
  intro hn ht v hv;simp only[dh]at hn;simp only[AV.top]at ht;cases hv with
  | @au _ mm h1 h2=>
   refine .au (by omega) fun i y z hy hz=>?_
   have hi:i<l.length:=by have:=(List.getElem?_eq_some_iff.1 hy).1;omega
   exact ih i _ y (List.getElem?_eq_getElem hi) hy (gG hn (List.getElem?_eq_getElem hi)) (by have:=fw (n:=0) (by omega) i y hy;omega) (h2 i _ z (List.getElem?_eq_getElem hi) hz)
 | @fn f fi fi0 ca ca0 hf h1 h2 g1 g2 ih1 ih2=>
  intro hn ht v hv;simp only[dh,Bool.and_eq_true]at hn;have hh:bh fi0<=0/\bh ca0<=0:=by
   cases f <;> simp only[AV.top]at ht <;> exact⟨by omega,by omega⟩
  cases hv with
  | fn hf' a1 a2 a3 a4=>
   refine .fn hf (by omega) (by omega) (fun i y z hy hz=>?_) (fun i y z hy hz=>?_)
   . have hi:i<fi.length:=by have:=(List.getElem?_eq_some_iff.1 hy).1;omega
     exact ih1 i _ y (List.getElem?_eq_getElem hi) hy (gG hn.1 (List.getElem?_eq_getElem hi)) (by have:=fw hh.1 i y hy;omega) (a3 i _ z (List.getElem?_eq_getElem hi) hz)
   . have hi:i<ca.length:=by have:=(List.getElem?_eq_some_iff.1 hy).1;omega
     exact ih2 i _ y (List.getElem?_eq_getElem hi) hy (gG hn.2 (List.getElem?_eq_getElem hi)) (by have:=fw hh.2 i y hy;omega) (a4 i _ z (List.getElem?_eq_getElem hi) hz)
  | yield _=>exact absurd rfl (hf _)
  | gN _ _=>exact absurd rfl (hf _)
theorem UI {w:World}{ρ:ax}{h:ab}(m:Mem P gl ρ h w){S T:List Nat}{v v1:AV}{hh:ab}{v':Value}{w':World}(hf:Fr hh T v v1)(hn:dh v=true)(hT:∀b l e,b∈T->hh.at b=some (.cells l e)->fk l=true)(ht:v1.top=0)(hd:eL P gl (dy ρ S) [] w ⟨v,hh,[]⟩ v' w'):eL P gl ρ h w ⟨v1,h,[]⟩ v' w':=by
 obtain⟨ρ',hv,m',x⟩:=hd;have bR:∀c,c<w.heap.size->w'.heap[c]? = w.heap[c]? := fun c hc=>x.bR c hc fun b d hb=>by simp[Go.Ab.dy]at hb
 have new:∀b c d,ρ' b = .live c d->w.heap.size<=c:=fun b c d hb=>by
  rcases Nat.lt_or_ge c w.heap.size with hc|hc
  . rcases x.back b c d hb hc with h1|⟨b0,d0,h1,_⟩ <;> simp[Go.Ab.dy]at h1
  . exact hc
 have hV:=hf.UH m' new hT hn ht hv;have hF:∀c,cL (mL w.heap.size) c->cL ρ c:=fun c hc=>by
  have hge:w.heap.size<=c:=by
   rcases Nat.lt_or_ge c w.heap.size with h|h
   . exact absurd h hc.2
   . exact h
  exact⟨fun b d hb=>by have:=m.bound b c d hb;omega,fun hx=>by have:=m.xb c hx;omega⟩
 have E:Ext h h ρ ρ w w':=⟨x.os,x.tape,x.output,x.size,Nat.le_refl _,rfl,fun _ h=>h,fun _ _=>rfl,fun _ _ _ h=>.inl h,fun _ h=>h,fun _ h=>.inl h,fun c hc _=>bR c hc,fun b c d hb _=>.inl hb,x.shape⟩;refine⟨ρ,hV.gp (n:=0) (fun b hb=>by omega) hF (by omega),m.ext E ?_ m.fresh m.inj ?_,E⟩
 . intro b o hb;exact(m.cQ b o hb).mono E rfl fun c d hl=>bR c (m.bound b c d hl)
 . intro b c d hb;exact Nat.lt_of_lt_of_le (m.bound b c d hb) x.size
theorem UJ (hs:jP P gl FT){T:List (Nat×Spec)}(hT:cf P gl (bk T)){f:Nat}{as as0:List AV}{h hh:ab}{S B:List Nat}{v v1:AV}(hr:aS (aY P FT T) f as0 [] ⟨v,hh,[]⟩)(hv:gR h S as as0)(hf:Fr hh B v v1)(hn:dh v=true)(hB:∀b l e,b∈B->hh.at b=some (.cells l e)->fk l=true)(ht:v1.top=0):bN P gl ⟨f,as,h,⟨v1,h,[]⟩⟩:=by
 have hloc:=pT hs hT hr ⟨Nat.zero_le _,fun _ hb=>absurd hb (Nat.not_lt_zero _)⟩;refine⟨⟨Nat.le_refl _,fun _ _ _=>rfl⟩,fun ρ w as' m hl=>?_⟩;obtain⟨nx,w1,h1,h2⟩:=hloc.2 (dy ρ S) w as' (m.dy hs.gl S) (hv.view m hl);exact⟨nx,w1,h1,h2.mono fun v w' hd=>UI m hf hn hB ht hd⟩
def ik (hh:ab)(v v1:AV):Prop:=∃B,Fr hh B v v1/\dh v=true/\∀b l e,b∈B->hh.at b=some (.cells l e)->fk l=true
theorem ik.same {hh:ab}{v:AV}(ht:v.top=0)(hn:dh v=true):ik hh v v:=⟨[],.same ht,hn,by simp⟩
theorem ik.nil {hh:ab}:ik hh .aa (.vs [] 0 none):=⟨[],.nil (fun n hn=>by cases hn),rfl,by simp⟩
theorem UK (hs:jP P gl FT){T:List (Nat×Spec)}(hT:cf P gl (bk T)){f:Nat}{as as0:List AV}{h hh:ab}{S:List Nat}{v v1:AV}(hr:aS (aY P FT T) f as0 [] ⟨v,hh,[]⟩)(hv:gR h S as as0)(hf:ik hh v v1)(ht:v1.top=0):bN P gl ⟨f,as,h,⟨v1,h,[]⟩⟩:=by
 obtain⟨B,h1,h2,h3⟩:=hf;exact UJ hs hT hr hv h1 h2 h3 ht
end Go.Ab
namespace Go.Ab
variable {I:aq->Prop} {s:aq}
variable {M:aw}
structure LI (I:aq->Prop)(Q:Ex->aq->Prop)(e:Ex)(s:aq):Prop where
 out:match e with
  | .normal=>I s
  | e=>Q e s
theorem cN {Q:Ex->aq->Prop}(h:I s):LI I Q .normal s:=⟨h⟩
theorem QM {Q:Ex->aq->Prop}{i:Nat}(h:Q (.exit i) s):LI I Q (.exit i) s:=⟨h⟩
theorem QN {Q:Ex->aq->Prop}(h:Q .ret s):LI I Q .ret s:=⟨h⟩
theorem W.fV {c:an}{Q:Ex->aq->Prop}(I:Nat->aq->Prop)(hs:∀m s,I m s->W M c s (LI (fun s'=>∃m',m'<m/\I m' s') Q)):∀{m:Nat} {s:aq},I m s->W M (.loop c) s Q:=by
 intro m;induction m using Nat.strongRecOn with
 | ind m ih=>
  intro s h;refine W.loop ((hs m s h).mono fun e s' he=>?_);cases e with
  | normal=>
   obtain⟨m',hm,hI⟩:=he.out;exact⟨ih m' hm hI⟩
  | exit i=>exact⟨he.out⟩
  | ret=>exact⟨he.out⟩
theorem W.gI {c:an}{Q:Ex->aq->Prop}(n:Nat)(I:Nat->aq->Prop)(hs:∀i s,i<n->I i s->W M c s (LI (I (i+1)) Q))(he:∀s,I n s->W M c s (LI (fun _=>False) Q)){i:Nat}{s:aq}(hi:i<=n)(h:I i s):W M (.loop c) s Q:=by
 refine W.fV (fun m s=>m<=n/\I (n-m) s) (fun m s ⟨hm,h⟩=>?_) (m:=n-i) ⟨Nat.sub_le _ _,by rwa [Nat.sub_sub_self hi]⟩;rcases Nat.eq_zero_or_pos m with rfl|h0
 . exact(he s h).mono fun e s' he=>⟨by
    cases e with
    | normal=>exact he.out.elim
    | exit i=>exact he.out
    | ret=>exact he.out⟩
 . refine(hs (n-m) s (by omega) h).mono fun e s' he=>⟨?_⟩
   cases e with
   | normal=>exact⟨m-1,by omega,by omega,by have:=he.out;rwa [show n-m+1=n-(m-1) by omega]at this⟩
   | exit i=>exact he.out
   | ret=>exact he.out
section
variable {α:Type} {f:α->List AV} {esz t:Nat} {x y:aN} {L:List aT} {pe:List AV} {lo:List (Nat×AV)} {hp:ab} {df wr:List Nat} {l:List α} {cap:Option Nat} {k:IntKind} {n:Int} {Q:aq->Prop}
theorem ajP (hx:(St.mk pe lo hp df).ae x=some (.vs (arr f l) l.length cap))(hy:(St.mk pe lo hp df).ae y=some (.int k n))(hf:∀a,(f a).length=esz)(hn:0<=n/\n<=l.length)
 (h:WO M L ⟨⟨pe,(t,.vs (arr f (l.take n.toNat)) (l.take n.toNat).length cap)::lo,hp,df⟩,wr⟩ Q):WO M (⟨.l t,.slice .sl esz x none (some y) none,none⟩::L) ⟨⟨pe,lo,hp,df⟩,wr⟩ Q:=by
 refine aak (v:=.vs (arr f (l.take n.toNat)) (l.take n.toNat).length cap) ?_ rfl h;have hle:n.toNat<=l.length:=by omega
 have hl:(l.take n.toNat).length=n.toNat:=by rw[List.length_take];omega
 have hc:cap.map (fun x=>x)=cap:=by cases cap <;> rfl
 have h0:(0:Int)<=n/\n<=(l.length:Int):=by omega
 simp only[aV,hx,St.cT,hy,Option.map_some,jo,bK,Option.isNone_none,Option.isSome_some,Bool.true_or,if_true,if_pos h0];simp only[Nat.zero_mul,List.drop_zero,Nat.sub_zero,BP hf,hl,hc]
end
theorem UL {α:Type}{f:α->List AV}{esz:Nat}{e:TypeId}{hp:ab}{c n:Nat}{cap:Option Nat}{l:List α}(hf:∀a,(f a).length=esz)(ht:∀a,bh (f a)=0)(h:hp.at c=some (.cells (arr f l) e))(hn:l.length=n):Fr hp [c] (.sl c 0 n esz cap) (.vs (arr f l) l.length none):=by
 subst hn;have:=ku hf (l:=l) (i:=0) (n:=l.length) (by omega);rw[Nat.zero_mul]at this;refine .sl (List.mem_singleton.2 rfl) h this (by simp) (fun i x y hx hy=>?_) (.inr rfl);simp at hx;rw[hx]at hy;cases hy;exact .same (by have:=fw (n:=0) (Nat.le_of_eq (jQ ht l)) i x hx;omega)
end Go.Ab
namespace Go.Ab
variable {M:aw} {α:Type} {f:α->List AV} {esz:Nat} {e:TypeId} {hp H:ab} {o y:AV} {acc m:List α} {S S':List Nat}
theorem Sl.cells (_hf:∀a,(f a).length=esz)(h:Sl f hp y m):ek hp y=some (arr f m,m.length):=by
 rcases h with ⟨rfl,rfl⟩|⟨cap,rfl⟩|⟨b,off,ez,cap,c,e,rfl,h1,h2⟩
 . rfl
 . rfl
 . simp only[ek,h1,h2,Option.map_some]
def bS (f:α->List AV)(esz:Nat)(e:TypeId)(hp:ab)(o:AV)(acc:List α)(S:List Nat):Prop:=
 (acc=[]/\o = .aa)\/∃c cap,c∉S/\o = .sl c 0 acc.length esz cap/\hp.at c=some (.cells (arr f acc) e)/\(cap=none\/acc=[]/\cap=some 0)
theorem bS.mJ:bS f esz e hp .aa ([]:List α) S:=.inl ⟨rfl,rfl⟩
theorem bS.sl (hf:∀a,(f a).length=esz)(h:bS f esz e hp o acc S):Sl f hp o acc:=by
 rcases h with ⟨rfl,rfl⟩|⟨c,cap,_,rfl,h1,_⟩
 . exact .mJ
 . exact .iJ hf h1 rfl
def wj (o:AV):List Nat:=fe (some o)
theorem bS.cj (h:bS f esz e hp o acc S)(hk:∀b x,b∈wj o->hp.at b=some x->H.at b=some x)(hs:∀b,b∈wj o->b∉S->b∉S'):bS f esz e H o acc S':=by
 rcases h with h|⟨c,cap,h0,rfl,h1,h2⟩
 . exact .inl h
 . exact .inr ⟨c,cap,hs c (by simp[wj,fe]) h0,rfl,hk _ _ (by simp[wj,fe]) h1,h2⟩
theorem bS.grow (h:bS f esz e hp o acc S)(J:ab):bS f esz e (hp++J) o acc S:=h.cj (fun _b _x _ hx=>dL hx) (fun _b _ h=>h)
theorem bS.app {bytes t:Nat}{l:List aT}{pe:List AV}{lo:List (Nat×AV)}{df wr:List Nat}{a b:aN}{Q:aq->Prop}(hf:∀a,(f a).length=esz)(h1:∀a,(f a).all cG=true)(hb0:0<bytes)
 (h:bS f esz e hp o acc S) (hS:∀x∈S,x<hp.length) (ha:(St.mk pe lo hp df).ae a=some o) (hb:(St.mk pe lo hp df).ae b=some y) (hy:Sl f hp y m)
 (hn:(acc.length+m.length)*bytes<=dv) (hQ:∀(H:ab) (w':List Nat) o',bS f esz e H o' (acc++m) S->(∀x v,x∈S->hp.at x=some v->H.at x=some v)->hp.length<=H.length->WO M l ⟨⟨pe,(t,o')::lo,H,df⟩,w'⟩ Q):WO M (⟨.l t,.append e esz bytes a b,none⟩::l) ⟨⟨pe,lo,hp,df⟩,wr⟩ Q:=by
 have hs:=hy.cells hf;have hone:(arr f m).all cG=true:=IQ h1 m;have hcond:(arr f m).length=m.length*esz/\0<bytes/\(arr f m).all cG=true:=⟨qc hf m,hb0,hone⟩;by_cases hm:m=[]
 . subst hm;rw[List.append_nil]at hQ;refine ade (v:=o) (h':=hp) (w':=[]) ?_ rfl rfl (hQ hp _ o h (fun _ _ _ hx=>hx) (Nat.le_refl _));simp only[bB,ha,hb,gM,hs,if_pos hcond];rcases h with ⟨_,rfl⟩|⟨c,cap,_,rfl,_,_⟩ <;> simp
 . have hp0:m.length≠0:=fun h=>hm (List.eq_nil_of_length_eq_zero h)
   rcases h with ⟨rfl,rfl⟩|⟨c,cap,hc,rfl,hat,hcap⟩
   . refine ade (v:=.sl hp.length 0 m.length esz none) (h':=hp++[some (.cells (arr f m) e)]) (w':=[]) ?_ rfl rfl (hQ _ _ _ (.inr ⟨hp.length,none,fun h=>by have:=hS _ h;omega,by simp,cU,.inl rfl⟩) (fun x v _ hx=>dL hx) (by simp));simp only[bB,ha,hb,gM,hs,if_pos hcond,if_neg hp0];rw[if_pos (by simpa using hn)]
   . rcases hcap with rfl|⟨rfl,rfl⟩
     . refine ade (v:=.sl hp.length 0 (acc.length+m.length) esz none) (h':=hp.put c none++[some (.cells (arr f acc++arr f m) e)]) (w':=[c]) ?_ rfl rfl (hQ _ _ _ (.inr ⟨hp.length,none,fun h=>by have:=hS _ h;omega,by simp,?_,.inl rfl⟩) (fun x v hx hv=>dL (qe (fun ee=>hc (ee ▸ hx)) hv)) (by simp[eH]))
       . simp only[bB,ha,hb,gM,hs,if_pos hcond,if_neg hp0,hat];rw[if_pos ⟨trivial,hn⟩,if_pos ⟨by rw[qc hf];omega,trivial⟩,List.drop_zero]
       . have:(hp.put c none).length=hp.length:=eH;rw[←this,cU,TY]
     . refine ade (v:=.sl hp.length 0 m.length esz none) (h':=hp++[some (.cells (arr f m) e)]) (w':=[]) ?_ rfl rfl (hQ _ _ _ (.inr ⟨hp.length,none,fun h=>by have:=hS _ h;omega,by simp,by rw[List.nil_append];exact cU,.inl rfl⟩) (fun x v _ hx=>dL hx) (by simp));simp only[bB,ha,hb,gM,hs,if_pos hcond,if_neg hp0,hat,List.length_nil,Nat.zero_add,Nat.zero_mul];rw[if_pos ⟨trivial,by simpa using hn⟩,if_neg (by omega)];simp[cut,arr]
theorem bS.UM (hf:∀a,(f a).length=esz)(ht:∀a,bh (f a)=0)(hn:∀a,fk (f a)=true)(h:bS f esz e hp o acc S):ik (if (aU [o]).top<=0 then [] else hp) o (.vs (arr f acc) acc.length none):=by
 rcases h with ⟨rfl,rfl⟩|⟨c,cap,_,rfl,h4,_⟩
 . exact .nil
 . rw[if_neg (by simp[aU,AV.top])];refine⟨[c],UL hf ht h4 rfl,rfl,fun b l e' hb hl=>?_⟩;rw[List.mem_singleton.1 hb,h4]at hl;cases hl;exact nZ hn acc
end Go.Ab
namespace Go.Ab
variable {M:aw}
theorem bS.one {α:Type}{f:α->List AV}{esz:Nat}{e:TypeId}{hp:ab}{o:AV}{acc:List α}{S:List Nat}(h:bS f esz e hp o acc S):AV.cells o=some [o]/\cG o=true:=by
 rcases h with ⟨_,rfl⟩|⟨c,cap,_,rfl,_,_⟩ <;> exact⟨rfl,rfl⟩
end Go.Ab
namespace Go.Ab
variable {M:aw}
end Go.Ab
namespace Go.Ab
variable {h:ab} {l m m':List AV} {a x:AV}
variable {M:aw} {P:Program} {gl:Nat->Option AV}
theorem aS.Cg {f:FuncId}{as:List AV}{r r':HR}(h1:aS M f as h r)(h2:aS M f as h r'):r=r':=by
 obtain⟨n,hn⟩:=h1;obtain⟨m,hm⟩:=h2;have a1:=vM (vN (Nat.le_max_left n m)) hn;have a2:=vM (vN (Nat.le_max_right n m)) hm;exact Option.some.inj (a1.symm.trans a2)
mutual
def bU:AV->AV
 | .aa=>.vs [] 0 none
 | .vs l n _=>.vs (dO l) n none
 | .vp l=>.vp (dO l)
 | .agg l=>.agg (dO l)
 | .au l=>.au (dO l)
 | .fn f a b=>.fn f (dO a) (dO b)
 | .iface t v=>.iface t (bU v)
 | v=>v
def dO:List AV->List AV
 | []=>[]
 | v::r=>bU v::dO r
end
theorem jz:∀{l m:List AV},l.length=m.length->(∀(i:Nat) x y,l[i]? = some x->m[i]? = some y->bU x=bU y)->dO l=dO m
 | [],[],_,_=>rfl
 | x::l,y::m,hl,h=>by
  rw[dO,dO,h 0 x y rfl rfl,jz (by simpa using hl) fun i a b ha hb=>h (i+1) a b ha hb]
theorem od (h1:l.length=m.length)(h2:l.length=m'.length)(h:∀(i:Nat) a x y,l[i]? = some a->m[i]? = some x->m'[i]? = some y->bU x=bU y):dO m=dO m':=
 jz (h1.symm.trans h2) fun i x y hx hy=>by
  have hi:i<l.length:=by rw[h1];exact(List.getElem?_eq_some_iff.1 hx).1
  exact h i l[i] x y (List.getElem?_eq_getElem hi) hx hy
theorem IZ (hl:l.length=m.length)(h:∀(i:Nat) x y,l[i]? = some x->m[i]? = some y->x=y):l=m:=
 List.ext_getElem hl fun i h1 h2=>h i _ _ (List.getElem?_eq_getElem h1) (List.getElem?_eq_getElem h2)
theorem Ch (h1:l.length=m.length)(h2:l.length=m'.length)(h:∀(i:Nat) a x y,l[i]? = some a->m[i]? = some x->m'[i]? = some y->x=y):m=m':=
 IZ (h1.symm.trans h2) fun i x y hx hy=>by
  have hi:i<l.length:=by rw[h1];exact(List.getElem?_eq_some_iff.1 hx).1
  exact h i l[i] x y (List.getElem?_eq_getElem hi) hx hy
theorem Ja:∀(l m:List AV),dO (l++m)=dO l++dO m
 | [],m=>rfl
 | x::l,m=>by rw[List.cons_append,dO,dO,Ja l m];rfl
theorem Ci {α:Type}{f:α->List AV}(hf:∀a,dO (f a)=f a):∀l,dO (arr f l)=arr f l
 | []=>rfl
 | a::l=>by rw[jR,Ja,hf,Ci hf l]
theorem cB (h:bh l=0){i:Nat}{x:AV}(hx:l[i]? = some x):x.top=0:=by
 have:=fw (n:=0) (by omega) i x hx;omega
theorem Fr.jS {S:List Nat}(hr:Fr h S a x):a.top=0->bU a=bU x:=by
 induction hr with
 | same ht=>exact fun _=>rfl
 | nil hc=>exact fun _=>by simp[bU,dO]
 | sl=>intro ht;simp[AV.top]at ht
 | ptr=>intro ht;simp[AV.top]at ht
 | vs hl hg ih=>intro ht;rw[bU,bU,jz hl fun i x y hx hy=>ih i x y hx hy (cB ht hx)]
 | agg hl hg ih=>intro ht;rw[bU,bU,jz hl fun i x y hx hy=>ih i x y hx hy (cB ht hx)]
 | au hl hg ih=>intro ht;rw[bU,bU,jz hl fun i x y hx hy=>ih i x y hx hy (cB ht hx)]
 | fn hf h1 h2 g1 g2 i1 i2=>
  intro ht;simp only[AV.top]at ht;rw[bU,bU,jz h1 fun i x y hx hy=>i1 i x y hx hy (cB (by omega) hx),jz h2 fun i x y hx hy=>i2 i x y hx hy (cB (by omega) hx)]
theorem Fr.can {S:List Nat}(hr:Fr h S a x):x.top=0->∀{S':List Nat} {y:AV},Fr h S' a y->y.top=0->bU x=bU y:=by
 induction hr with
 | same ht=>exact fun _ S' y hy _=>hy.jS ht
 | nil hc=>exact fun _ S' y hy _=>by cases hy <;> simp[bU,dO]
 | sl hb ha hc hl hg hcc ih=>
  intro hx S' y hy hyt;cases hy with
  | same ht=>simp[AV.top]at ht
  | sl hb' ha' hc' hl' hg' hcc'=>
   rw[ha]at ha';cases ha';rw[hc]at hc';cases hc';rw[bU,bU,od hl hl' fun i a x y h1 h2 h3=>ih i a x h1 h2 (cB hx h2) (hg' i a y h1 h3) (cB hyt h3)]
 | ptr hb ha hl hg ih=>
  intro hx S' y hy hyt;cases hy with
  | same ht=>simp[AV.top]at ht
  | ptr hb' ha' hl' hg'=>
   rw[ha]at ha';cases ha';rw[bU,bU,od hl hl' fun i a x y h1 h2 h3=>ih i a x h1 h2 (cB hx h2) (hg' i a y h1 h3) (cB hyt h3)]
 | vs hl hg ih=>
  intro hx S' y hy hyt;cases hy with
  | same ht=>rw[bU,bU,jz hl.symm fun i x y hx' hy'=>((hg i y x hy' hx').jS (cB ht hy')).symm]
  | vs hl' hg'=>rw[bU,bU,od hl hl' fun i a x y h1 h2 h3=>ih i a x h1 h2 (cB hx h2) (hg' i a y h1 h3) (cB hyt h3)]
 | agg hl hg ih=>
  intro hx S' y hy hyt;cases hy with
  | same ht=>rw[bU,bU,jz hl.symm fun i x y hx' hy'=>((hg i y x hy' hx').jS (cB ht hy')).symm]
  | agg hl' hg'=>rw[bU,bU,od hl hl' fun i a x y h1 h2 h3=>ih i a x h1 h2 (cB hx h2) (hg' i a y h1 h3) (cB hyt h3)]
 | au hl hg ih=>
  intro hx S' y hy hyt;cases hy with
  | same ht=>rw[bU,bU,jz hl.symm fun i x y hx' hy'=>((hg i y x hy' hx').jS (cB ht hy')).symm]
  | au hl' hg'=>rw[bU,bU,od hl hl' fun i a x y h1 h2 h3=>ih i a x h1 h2 (cB hx h2) (hg' i a y h1 h3) (cB hyt h3)]
 | fn hf h1 h2 g1 g2 i1 i2=>
  intro hx S' y hy hyt;simp only[AV.top]at hx;cases hy with
  | same ht=>
   simp only[AV.top]at ht;rw[bU,bU,jz h1.symm fun i x y hx' hy'=>((g1 i y x hy' hx').jS (cB (by omega) hy')).symm,jz h2.symm fun i x y hx' hy'=>((g2 i y x hy' hx').jS (cB (by omega) hy')).symm]
  | fn hf' h1' h2' g1' g2'=>
   simp only[AV.top]at hyt;rw[bU,bU,od h1 h1' fun i a x y e1 e2 e3=>i1 i a x e1 e2 (cB (by omega) e2) (g1' i a y e1 e3) (cB (by omega) e3),
     od h2 h2' fun i a x y e1 e2 e3=>i2 i a x e1 e2 (cB (by omega) e2) (g2' i a y e1 e3) (cB (by omega) e3)]
def qf:AV->Bool
 | .int _ _=>true
 | .bool _=>true
 | .str _=>true
 | .fn f [] []=>match f with | .yield _=>false|_=>true
 | _=>false
inductive cO (h:ab):AV->AV->Prop
 | atom {a:AV} (ha:qf a=true):cO h a a
 | nil:cO h .aa (.vs [] 0 none)
 | sl {b off len esz:Nat} {cap:Option Nat} {l m m0:List AV} {e:TypeId} (ha:h.at b=some (.cells l e)) (hc:cut l off (len*esz)=some m) (hl:m.length=m0.length)
     (hg:∀(i:Nat) x y,m[i]? = some x->m0[i]? = some y->cO h x y):cO h (.sl b off len esz cap) (.vs m0 len none)
 | vs {l l0:List AV} {n:Nat} {cap:Option Nat} (hl:l.length=l0.length) (hg:∀(i:Nat) x y,l[i]? = some x->l0[i]? = some y->cO h x y):cO h (.vs l n cap) (.vs l0 n cap)
 | agg {l l0:List AV} (hl:l.length=l0.length) (hg:∀(i:Nat) x y,l[i]? = some x->l0[i]? = some y->cO h x y):cO h (.agg l) (.agg l0)
def fW (h:ab)(l l0:List AV):Prop:=l.length=l0.length/\∀(i:Nat) x y,l[i]? = some x->l0[i]? = some y->cO h x y
theorem fW.nil:fW h [] []:=⟨rfl,by simp⟩
theorem fW.cons {y:AV}(h1:cO h x y)(h2:fW h l m):fW h (x::l) (y::m):=by
 refine⟨by simp[h2.1],fun i a b ha hb=>?_⟩;cases i with
 | zero=>simp at ha hb;subst ha;subst hb;exact h1
 | succ i=>simp at ha hb;exact h2.2 i a b ha hb
theorem UN (h:qf a=true):a.top=0:=by
 cases a with
 | fn f fi ca=>
  cases fi <;> cases ca <;> first|(simp[qf]at h;done)|skip
  cases f <;> first|rfl|cases h
 | _=>first|rfl|cases h
theorem cO.fr (hr:cO h a x):Fr h (List.range h.length) a x:=by
 induction hr with
 | atom ha=>exact .same (UN ha)
 | nil=>exact .nil (fun n hn=>by cases hn)
 | sl ha hc hl hg ih=>exact .sl (List.mem_range.2 (eM ha)) ha hc hl ih (.inr rfl)
 | vs hl hg ih=>exact .vs hl ih
 | agg hl hg ih=>exact .agg hl ih
theorem fW.fr {l0:List AV}(hr:fW h l l0):gR h (List.range h.length) l l0:=⟨hr.1,fun i x y hx hy=>(hr.2 i x y hx hy).fr⟩
theorem cO.uniq (hr:cO h a x):∀{y:AV},cO h a y->x=y:=by
 induction hr with
 | atom ha=>intro y hy;cases hy <;> first|rfl|cases ha
 | nil=>intro y hy;cases hy with
   | atom ha=>cases ha
   | nil=>rfl
 | sl ha hc hl hg ih=>
  intro y hy;cases hy with
  | atom ha=>cases ha
  | sl ha' hc' hl' hg'=>
   rw[ha]at ha';cases ha';rw[hc]at hc';cases hc';rw[Ch hl hl' fun i a x y h1 h2 h3=>ih i a x h1 h2 (hg' i a y h1 h3)]
 | vs hl hg ih=>
  intro y hy;cases hy with
  | atom ha=>cases ha
  | vs hl' hg'=>rw[Ch hl hl' fun i a x y h1 h2 h3=>ih i a x h1 h2 (hg' i a y h1 h3)]
 | agg hl hg ih=>
  intro y hy;cases hy with
  | atom ha=>cases ha
  | agg hl' hg'=>rw[Ch hl hl' fun i a x y h1 h2 h3=>ih i a x h1 h2 (hg' i a y h1 h3)]
theorem fW.uniq (h1:fW h l m)(h2:fW h l m'):m=m':=
 IZ (h1.1.symm.trans h2.1) fun i x y hx hy=>by
  have hi:i<l.length:=by rw[h1.1];exact(List.getElem?_eq_some_iff.1 hx).1
  exact(h1.2 i l[i] x (List.getElem?_eq_getElem hi) hx).uniq (h2.2 i l[i] y (List.getElem?_eq_getElem hi) hy)
theorem fW.app:∀{l m l' m':List AV},fW h l m->fW h l' m'->fW h (l++l') (m++m')
 | [],[],_,_,_,h2=>h2
 | x::l,y::m,l',m',h1,h2=>.cons (h1.2 0 x y rfl rfl) (fW.app ⟨by simpa using h1.1,fun i a b ha hb=>h1.2 (i+1) a b ha hb⟩ h2)
 | [],y::m,_,_,h1,_=>by have:=h1.1;simp at this
 | x::l,[],_,_,h1,_=>by have:=h1.1;simp at this
abbrev sm (h:ab)(l:List AV):Prop:=fW h l l
theorem wk {α:Type}{f:α->List AV}{h:ab}(hf:∀a,sm h (f a)):∀l,sm h (arr f l)
 | []=>.nil
 | a::l=>by rw[jR];exact(hf a).app (wk hf l)
theorem cO.mM {n:Nat}{cap:Option Nat}(hl:sm h l):cO h (.vs l n cap) (.vs l n cap):=.vs rfl hl.2
theorem enter:(∀(f:Nat -> AV) a l,(a::l).map f=f a::l.map f) /\ (∀f:Nat -> AV,[].map f=[]) /\ (∀(a:AV) (l:List AV),(a::l)[0]? = some a) /\ (∀(a:AV) (l:List AV) (n:Nat),(a::l)[n+1]? = l[n]?) /\ (∀n:Nat,([]:List AV)[n]? = none) /\ (∀a b:AV,(some a).getD b=a) /\ ∀b:AV,none.getD b=b:=
  ⟨fun _ _ _=>rfl,fun _=>rfl,fun _ _=>rfl,fun _ _ _=>rfl,fun _=>rfl,fun _ _=>rfl,fun _=>rfl⟩
end Go.Ab
namespace Go.Ab
variable {l as:List AV} {h:ab} {x:AV} {FT:FuncId->Option cW}
variable {M:aw} {P:Program} {gl:Nat->Option AV}
mutual
def bG:AV->AV
 | .vs l n _=>.vs (cA l) n none
 | .vp l=>.vp (cA l)
 | .agg l=>.agg (cA l)
 | .au l=>.au (cA l)
 | .fn f a b=>.fn f (cA a) (cA b)
 | .iface t v=>.iface t (bG v)
 | v=>v
def cA:List AV->List AV
 | []=>[]
 | v::r=>bG v::cA r
end
theorem mN:∀{l m:List AV},l.length=m.length->(∀(i:Nat) x y,l[i]? = some x->m[i]? = some y->bG x=bG y)->cA l=cA m
 | [],[],_,_=>rfl
 | x::l,y::m,hl,h=>by
  rw[cA,cA,h 0 x y rfl rfl,mN (by simpa using hl) fun i a b ha hb=>h (i+1) a b ha hb]
theorem wm {m m':List AV}(h1:l.length=m.length)(h2:l.length=m'.length)(h:∀(i:Nat) a x y,l[i]? = some a->m[i]? = some x->m'[i]? = some y->bG x=bG y):cA m=cA m':=
 mN (h1.symm.trans h2) fun i x y hx hy=>by
  have hi:i<l.length:=by rw[h1];exact(List.getElem?_eq_some_iff.1 hx).1
  exact h i l[i] x y (List.getElem?_eq_getElem hi) hx hy
theorem Jb:∀(l m:List AV),cA (l++m)=cA l++cA m
 | [],m=>rfl
 | x::l,m=>by rw[List.cons_append,cA,cA,Jb l m];rfl
theorem wq {α:Type}{f:α->List AV}(hf:∀a,cA (f a)=f a):∀l,cA (arr f l)=arr f l
 | []=>rfl
 | a::l=>by rw[jR,Jb,hf,wq hf l]
inductive eu (h:ab):AV->AV->Prop
 | same {v:AV} (ht:v.top=0):eu h v v
 | sl {b off len esz:Nat} {cap:Option Nat} {l m m0:List AV} {e:TypeId} (ha:h.at b=some (.cells l e)) (hc:cut l off (len*esz)=some m) (hl:m.length=m0.length)
     (hg:∀(i:Nat) x y,m[i]? = some x->m0[i]? = some y->eu h x y):eu h (.sl b off len esz cap) (.vs m0 len none)
 | vs {l l0:List AV} {n:Nat} {cap:Option Nat} (hl:l.length=l0.length) (hg:∀(i:Nat) x y,l[i]? = some x->l0[i]? = some y->eu h x y):eu h (.vs l n cap) (.vs l0 n cap)
 | agg {l l0:List AV} (hl:l.length=l0.length) (hg:∀(i:Nat) x y,l[i]? = some x->l0[i]? = some y->eu h x y):eu h (.agg l) (.agg l0)
 | au {l l0:List AV} (hl:l.length=l0.length) (hg:∀(i:Nat) x y,l[i]? = some x->l0[i]? = some y->eu h x y):eu h (.au l) (.au l0)
theorem eu.fr {a:AV}(hr:eu h a x):Fr h (List.range h.length) a x:=by
 induction hr with
 | same ht=>exact .same ht
 | sl ha hc hl hg ih=>exact .sl (List.mem_range.2 (eM ha)) ha hc hl ih (.inr rfl)
 | vs hl hg ih=>exact .vs hl ih
 | agg hl hg ih=>exact .agg hl ih
 | au hl hg ih=>exact .au hl ih
theorem eu.jS {a:AV}(hr:eu h a x):a.top=0->bG a=bG x:=by
 induction hr with
 | same ht=>exact fun _=>rfl
 | sl=>intro ht;simp[AV.top]at ht
 | vs hl hg ih=>intro ht;rw[bG,bG,mN hl fun i x y hx hy=>ih i x y hx hy (cB ht hx)]
 | agg hl hg ih=>intro ht;rw[bG,bG,mN hl fun i x y hx hy=>ih i x y hx hy (cB ht hx)]
 | au hl hg ih=>intro ht;rw[bG,bG,mN hl fun i x y hx hy=>ih i x y hx hy (cB ht hx)]
theorem eu.can {a:AV}(hr:eu h a x):x.top=0->∀{y:AV},eu h a y->y.top=0->bG x=bG y:=by
 induction hr with
 | same ht=>exact fun _ y hy _=>hy.jS ht
 | sl ha hc hl hg ih=>
  intro hx y hy hyt;cases hy with
  | same ht=>simp[AV.top]at ht
  | sl ha' hc' hl' hg'=>
   rw[ha]at ha';cases ha';rw[hc]at hc';cases hc';rw[bG,bG,wm hl hl' fun i a x y h1 h2 h3=>ih i a x h1 h2 (cB hx h2) (hg' i a y h1 h3) (cB hyt h3)]
 | vs hl hg ih=>
  intro hx y hy hyt;cases hy with
  | same ht=>rw[bG,bG,mN hl.symm fun i x y hx' hy'=>((hg i y x hy' hx').jS (cB ht hy')).symm]
  | vs hl' hg'=>rw[bG,bG,wm hl hl' fun i a x y h1 h2 h3=>ih i a x h1 h2 (cB hx h2) (hg' i a y h1 h3) (cB hyt h3)]
 | agg hl hg ih=>
  intro hx y hy hyt;cases hy with
  | same ht=>rw[bG,bG,mN hl.symm fun i x y hx' hy'=>((hg i y x hy' hx').jS (cB ht hy')).symm]
  | agg hl' hg'=>rw[bG,bG,wm hl hl' fun i a x y h1 h2 h3=>ih i a x h1 h2 (cB hx h2) (hg' i a y h1 h3) (cB hyt h3)]
 | au hl hg ih=>
  intro hx y hy hyt;cases hy with
  | same ht=>rw[bG,bG,mN hl.symm fun i x y hx' hy'=>((hg i y x hy' hx').jS (cB ht hy')).symm]
  | au hl' hg'=>rw[bG,bG,wm hl hl' fun i a x y h1 h2 h3=>ih i a x h1 h2 (cB hx h2) (hg' i a y h1 h3) (cB hyt h3)]
theorem qh {i:Nat}(h:(dO l)[i]? = some x):∃y,l[i]? = some y/\x=bU y:=by
 induction l generalizing i with
 | nil=>simp[dO]at h
 | cons a l ih=>
  rw[dO]at h;cases i with
  | zero=>simp at h;exact⟨a,rfl,h.symm⟩
  | succ i=>exact ih (by simpa using h)
theorem oe:∀l:List AV,(dO l).length=l.length
 | []=>rfl
 | a::l=>by rw[dO,List.length_cons,List.length_cons,oe l]
theorem qi {i:Nat}(h:(cA l)[i]? = some x):∃y,l[i]? = some y/\x=bG y:=by
 induction l generalizing i with
 | nil=>simp[cA]at h
 | cons a l ih=>
  rw[cA]at h;cases i with
  | zero=>simp at h;exact⟨a,rfl,h.symm⟩
  | succ i=>exact ih (by simpa using h)
theorem oh:∀l:List AV,(cA l).length=l.length
 | []=>rfl
 | a::l=>by rw[cA,List.length_cons,List.length_cons,oh l]
section
variable {ρ:ax} {w:World} {a:AV} {v:Value}
theorem V.bG (hv:V ρ w a v):V ρ w (bG a) v:=by
 induction hv with
 | cM v=>exact .cM v
 | bool b=>exact .bool b
 | int k n=>exact .int k n
 | str s=>exact .str s
 | dj=>exact .dj
 | ptr o h=>exact .ptr o h
 | dX o c o' h=>exact .dX o c o' h
 | vp c o g hf hc hg ih=>
  exact .vp c o g (fun h=>hf fun e=>h (by rw[e];rfl)) (fun i hi=>hc i (by rwa [oh]at hi)) fun i x hx=>by
   obtain⟨y,hy,rfl⟩:=qi hx;exact ih i y hy
 | aa=>exact .aa
 | sl h hl hcap hb=>exact .sl h hl hcap hb
 | fy h=>exact .fy h
 | eK c o' h hl hcap=>exact .eK c o' h hl hcap
 | fu h=>exact .fu h
 | fz a h=>exact .fz a h
 | vs c o g hf hl hcap hc hg ih=>
  exact .vs c o g (fun h=>hf fun e=>h (by rw[e];rfl)) hl (fun n hn=>by cases hn) (fun i hi=>hc i (by rwa [oh]at hi)) fun i x hx=>by
   obtain⟨y,hy,rfl⟩:=qi hx;exact ih i y hy
 | dY hcap=>exact .dY (fun n hn=>by cases hn)
 | fv a hcap=>exact .fv a (fun n hn=>by cases hn)
 | eC=>exact .eC
 | map h=>exact .map h
 | hJ c h=>exact .hJ c h
 | yield h=>exact .yield h
 | fn hf h1 h2 g1 g2 i1 i2=>
  exact .fn hf (by rw[oh];exact h1) (by rw[oh];exact h2) (fun i x y hx hy=>by
   obtain⟨z,hz,rfl⟩:=qi hx;exact i1 i z y hz hy) fun i x y hx hy=>by
   obtain⟨z,hz,rfl⟩:=qi hx;exact i2 i z y hz hy
 | gN c h=>exact .gN c h
 | fE=>exact .fE
 | iface h ih=>exact .iface ih
 | cS=>exact .cS
 | agg h g ih=>
  exact .agg (by rw[oh];exact h) fun i x y hx hy=>by
   obtain⟨z,hz,rfl⟩:=qi hx;exact ih i z y hz hy
 | au h g ih=>
  exact .au (by rw[oh];exact h) fun i x y hx hy=>by
   obtain⟨z,hz,rfl⟩:=qi hx;exact ih i z y hz hy
theorem V.bU (hv:V ρ w a v):V ρ w (bU a) v:=by
 induction hv with
 | cM v=>exact .cM v
 | bool b=>exact .bool b
 | int k n=>exact .int k n
 | str s=>exact .str s
 | dj=>exact .dj
 | ptr o h=>exact .ptr o h
 | dX o c o' h=>exact .dX o c o' h
 | vp c o g hf hc hg ih=>
  exact .vp c o g (fun h=>hf fun e=>h (by rw[e];rfl)) (fun i hi=>hc i (by rwa [oe]at hi)) fun i x hx=>by
   obtain⟨y,hy,rfl⟩:=qh hx;exact ih i y hy
 | aa=>exact .dY (fun n hn=>by cases hn)
 | sl h hl hcap hb=>exact .sl h hl hcap hb
 | fy h=>exact .fy h
 | eK c o' h hl hcap=>exact .eK c o' h hl hcap
 | fu h=>exact .fu h
 | fz a h=>exact .fz a h
 | vs c o g hf hl hcap hc hg ih=>
  exact .vs c o g (fun h=>hf fun e=>h (by rw[e];rfl)) hl (fun n hn=>by cases hn) (fun i hi=>hc i (by rwa [oe]at hi)) fun i x hx=>by
   obtain⟨y,hy,rfl⟩:=qh hx;exact ih i y hy
 | dY hcap=>exact .dY (fun n hn=>by cases hn)
 | fv a hcap=>exact .fv a (fun n hn=>by cases hn)
 | eC=>exact .eC
 | map h=>exact .map h
 | hJ c h=>exact .hJ c h
 | yield h=>exact .yield h
 | fn hf h1 h2 g1 g2 i1 i2=>
  exact .fn hf (by rw[oe];exact h1) (by rw[oe];exact h2) (fun i x y hx hy=>by
   obtain⟨z,hz,rfl⟩:=qh hx;exact i1 i z y hz hy) fun i x y hx hy=>by
   obtain⟨z,hz,rfl⟩:=qh hx;exact i2 i z y hz hy
 | gN c h=>exact .gN c h
 | fE=>exact .fE
 | iface h ih=>exact .iface ih
 | cS=>exact .cS
 | agg h g ih=>
  exact .agg (by rw[oe];exact h) fun i x y hx hy=>by
   obtain⟨z,hz,rfl⟩:=qh hx;exact ih i z y hz hy
 | au h g ih=>
  exact .au (by rw[oe];exact h) fun i x y hx hy=>by
   obtain⟨z,hz,rfl⟩:=qh hx;exact ih i z y hz hy
end
theorem Jc {f:Nat}{h':ab}{v v':AV}{wr:List Nat}(hv:∀ρ w x,V ρ w v x->V ρ w v' x)(he:bN P gl ⟨f,as,h,⟨v,h',wr⟩⟩):bN P gl ⟨f,as,h,⟨v',h',wr⟩⟩:=by
 refine⟨he.1,fun ρ w as' m ha=>?_⟩;obtain⟨nx,w1,g1,g2⟩:=he.2 ρ w as' m ha;refine⟨nx,w1,g1,g2.mono fun x w' hd=>?_⟩;obtain⟨ρ',h1,h2,h3⟩:=hd;exact⟨ρ',hv _ _ _ h1,h2,h3⟩
def Jd (P:Program)(FT:FuncId->Option cW)(T:List (Nat×Spec))(g:Nat)(as0:List AV)(v0:AV):Prop:=∃v hh v1,aS (aY P FT T) g as0 [] ⟨v,hh,[]⟩/\ik hh v v1/\v1.top=0/\bU v1=v0
def UO (P:Program)(FT:FuncId->Option cW)(T:List (Nat×Spec))(g:Nat)(as:List AV)(h:ab)(r:HR):Prop:=∃as0 v0,fW h as as0/\Jd P FT T g as0 v0/\r=⟨v0,h,[]⟩
noncomputable def sn (P:Program)(FT:FuncId->Option cW)(T:List (Nat×Spec))(g:Nat):Spec:=oc (UO P FT T g)
theorem UP (hs:jP P gl FT){T:List (Nat×Spec)}(hT:cf P gl (bk T)){g:Nat}:aR P gl g (sn P FT T g):=Cd fun as h r ⟨as0,v0,hf,⟨v,hh,v1,hr,hn,ht,hc⟩,e⟩=>by
 subst e;subst hc;exact Jc (fun _ _ _ h=>h.bU) (UK hs hT hr hf.fr hn ht)
theorem lG {T:List (Nat×Spec)}{g:Nat}{as0:List AV}{v0:AV}(hf:fW h as as0)(hr:Jd P FT T g as0 v0):sn P FT T g as h=some ⟨v0,h,[]⟩:=
 Ce ⟨as0,v0,hf,hr,rfl⟩ fun r' ⟨as0',v0',hf',hr',e⟩=>by
  cases hf.uniq hf';obtain⟨v,hh,v1,r1,⟨B,f1,_⟩,t1,c1⟩:=hr;obtain⟨v',hh',v1',r2,⟨B',f2,_⟩,t2,c2⟩:=hr';cases r1.Cg r2;rw[e,←c1,←c2,f1.can t1 f2 t2]
def Cj (P:Program)(FT:FuncId->Option cW)(T:List (Nat×Spec))(g:Nat)(as:List AV)(v0:AV):Prop:=∃v hh v1,aS (aY P FT T) g as [] ⟨v,hh,[]⟩/\eu hh v v1/\bh as=0/\v1.top=0/\bG v1=v0
def UQ (P:Program)(FT:FuncId->Option cW)(T:List (Nat×Spec))(g:Nat)(as:List AV)(h:ab)(r:HR):Prop:=∃v0,Cj P FT T g as v0/\r=⟨v0,h,[]⟩
noncomputable def qj (P:Program)(FT:FuncId->Option cW)(T:List (Nat×Spec))(g:Nat):Spec:=oc (UQ P FT T g)
theorem UR (hs:jP P gl FT){T:List (Nat×Spec)}(hT:cf P gl (bk T)){g:Nat}:aR P gl g (qj P FT T g):=Cd fun as h r ⟨v0,⟨v,hh,v1,hr,hf,ha,ht,hc⟩,e⟩=>by
 subst e;subst hc;exact Jc (fun _ _ _ h=>h.bG) (UG hs hT hr ha hf.fr ht)
theorem sr {T:List (Nat×Spec)}{g:Nat}{v0:AV}(hr:Cj P FT T g as v0):qj P FT T g as h=some ⟨v0,h,[]⟩:=
 Ce ⟨v0,hr,rfl⟩ fun r' ⟨v0',hr',e⟩=>by
  obtain⟨v,hh,v1,r1,f1,_,t1,c1⟩:=hr;obtain⟨v',hh',v1',r2,f2,_,t2,c2⟩:=hr';cases r1.Cg r2;rw[e,←c1,←c2,f1.can t1 f2 t2]
theorem eu.US {α:Type}{f:α->List AV}{v:AV}{l:List α}(hf:∀a,bh (f a)=0)(hs:Sl f h v l):v = .aa/\l=[]\/∃cap,eu h v (.vs (arr f l) l.length cap):=by
 rcases hs with ⟨rfl,rfl⟩|⟨c,rfl⟩|⟨b,off,ez,cap,c,e,rfl,hb,hc⟩
 . exact .inl ⟨rfl,rfl⟩
 . exact .inr ⟨c,.same (jQ hf l)⟩
 . exact .inr ⟨none,.sl hb hc rfl fun i x y hx hy=>by
    rw[hx]at hy;cases hy;exact .same (cB (jQ hf l) hx)⟩
end Go.Ab
namespace Go.Ab
variable {FT:FuncId->Option cW} {T:List (Nat×Spec)} {g:Nat} {as:List AV} {h:ab} {v:AV} {c:List AV->Prop} {s1 s2:Spec}
variable {M:aw} {P:Program} {gl:Nat->Option AV}
def UT (P:Program)(FT:FuncId->Option cW)(T:List (Nat×Spec))(g:Nat)(as:List AV)(h:ab)(r:HR):Prop:=aS (aY P FT T) g as h r/\r.h=h/\r.wr=[]
noncomputable def Ck (P:Program)(FT:FuncId->Option cW)(T:List (Nat×Spec))(g:Nat):Spec:=oc (UT P FT T g)
theorem UU (hs:jP P gl FT){T:List (Nat×Spec)}(hT:cf P gl (bk T)){g:Nat}:aR P gl g (Ck P FT T g):=Cd fun as h r ⟨hr,hh,hw⟩=>
 pT hs hT hr ⟨by rw[hh];exact Nat.le_refl _,fun b _ _=>by rw[hh]⟩
theorem UW (hr:aS (aY P FT T) g as h ⟨v,h,[]⟩):Ck P FT T g as h=some ⟨v,h,[]⟩:=
 Ce ⟨hr,rfl,rfl⟩ fun _r' ⟨hr',_,_⟩=>hr'.Cg hr
noncomputable def ss (c:List AV->Prop)(s1 s2:Spec):Spec:=fun as h=>open Classical in if c as then s1 as h else s2 as h
theorem UX (h1:aR P gl g s1)(h2:aR P gl g s2):aR P gl g (ss c s1 s2):=by
 intro as h r hq;unfold ss at hq;split at hq
 . exact h1 as h r hq
 . exact h2 as h r hq
theorem UY (hc:c as):ss c s1 s2 as h=s1 as h:=if_pos hc
theorem UZ (hc:¬c as):ss c s1 s2 as h=s2 as h:=if_neg hc
theorem ik.two {hh:ab}{x y x1 y1:AV}(hx:ik hh x x1)(hy:ik hh y y1):ik hh (.au [x,y]) (.au [x1,y1]):=by
 obtain⟨B1,f1,n1,g1⟩:=hx;obtain⟨B2,f2,n2,g2⟩:=hy;refine⟨B1++B2,.au rfl (fun i a b ha hb=>?_),by simp[dh,fk,n1,n2],fun b l e hb hl=>?_⟩
 . match i with
   | 0=>cases ha;cases hb;exact f1.mono fun _ h=>List.mem_append.2 (.inl h)
   | 1=>cases ha;cases hb;exact f2.mono fun _ h=>List.mem_append.2 (.inr h)
   | i+2=>cases ha
 . rcases List.mem_append.1 hb with h|h
   . exact g1 b l e h hl
   . exact g2 b l e h hl
theorem bL (hr:aS (aY P FT T) g as [] ⟨v,[],[]⟩)(ha:bh as=0)(ht:v.top=0)(hc:bG v=v)(h:ab):qj P FT T g as h=some ⟨v,h,[]⟩:=
 sr ⟨v,[],v,hr,.same ht,ha,ht,hc⟩
theorem ot {as0:List AV}(hr:aS (aY P FT T) g as0 [] ⟨v,[],[]⟩)(ht:v.top=0)(hn:dh v=true)(hc:bU v=v){h:ab}(hf:fW h as as0):sn P FT T g as h=some ⟨v,h,[]⟩:=
 lG hf ⟨v,[],v,hr,.same ht hn,ht,hc⟩
end Go.Ab
namespace Go.Ab
variable {n:Nat}
variable {M:aw} {t:Nat} {x y:aN} {l:List aT} {pe:List AV} {lo:List (Nat×AV)} {hp:ab} {df wr:List Nat} {k:IntKind} {a b:Int} {Q:aq->Prop}
theorem ou (a:Int):IntKind.u64.wrap a=a%18446744073709551616:=by
 simp only[IntKind.wrap,IntKind.bits,IntKind.signed];simp
theorem qk {a:Int}(h:0<=a/\a<18446744073709551616):IntKind.u64.wrap a=a:=by rw[ou];omega
theorem ajb (hx:(St.mk pe lo hp df).ae x=some (.int .u64 a))(hy:(St.mk pe lo hp df).ae y=some (.int .u64 b))
 (h:WO M l ⟨⟨pe,(t,.int .u64 ((a+b)%18446744073709551616))::lo,hp,df⟩,wr⟩ Q):WO M (⟨.l t,.bin .add x y,none⟩::l) ⟨⟨pe,lo,hp,df⟩,wr⟩ Q:=
 aak (v:=.int .u64 ((a+b)%18446744073709551616)) (by simp[aV,hx,hy,cK,ou]) rfl h
theorem ais (hx:(St.mk pe lo hp df).ae x=some (.int .u64 a))(hy:(St.mk pe lo hp df).ae y=some (.int .u64 b))(hr:0<=a+b/\a+b<18446744073709551616)
 (h:WO M l ⟨⟨pe,(t,.int .u64 (a+b))::lo,hp,df⟩,wr⟩ Q):WO M (⟨.l t,.bin .add x y,none⟩::l) ⟨⟨pe,lo,hp,df⟩,wr⟩ Q:=
 aak (v:=.int .u64 (a+b)) (by simp[aV,hx,hy,cK,qk hr]) rfl h
theorem ajA (hx:(St.mk pe lo hp df).ae x=some (.int .u64 a))(hy:(St.mk pe lo hp df).ae y=some (.int .u64 b))
 (h:WO M l ⟨⟨pe,(t,.int .u64 ((a-b)%18446744073709551616))::lo,hp,df⟩,wr⟩ Q):WO M (⟨.l t,.bin .sub x y,none⟩::l) ⟨⟨pe,lo,hp,df⟩,wr⟩ Q:=
 aak (v:=.int .u64 ((a-b)%18446744073709551616)) (by simp[aV,hx,hy,cK,ou]) rfl h
theorem aiP (hx:(St.mk pe lo hp df).ae x=some (.int .u64 a))(hy:(St.mk pe lo hp df).ae y=some (.int .u64 b))(hr:0<=a-b/\a-b<18446744073709551616)
 (h:WO M l ⟨⟨pe,(t,.int .u64 (a-b))::lo,hp,df⟩,wr⟩ Q):WO M (⟨.l t,.bin .sub x y,none⟩::l) ⟨⟨pe,lo,hp,df⟩,wr⟩ Q:=
 aak (v:=.int .u64 (a-b)) (by simp[aV,hx,hy,cK,qk hr]) rfl h
theorem ajc (hx:(St.mk pe lo hp df).ae x=some (.int .u64 a))(hy:(St.mk pe lo hp df).ae y=some (.int .u64 b))
 (h:WO M l ⟨⟨pe,(t,.int .u64 ((a*b)%18446744073709551616))::lo,hp,df⟩,wr⟩ Q):WO M (⟨.l t,.bin .mul x y,none⟩::l) ⟨⟨pe,lo,hp,df⟩,wr⟩ Q:=
 aak (v:=.int .u64 ((a*b)%18446744073709551616)) (by simp[aV,hx,hy,cK,ou]) rfl h
theorem ahR (hx:(St.mk pe lo hp df).ae x=some (.int .u64 a))(hy:(St.mk pe lo hp df).ae y=some (.int .u64 b))(hr:0<=a*b/\a*b<18446744073709551616)
 (h:WO M l ⟨⟨pe,(t,.int .u64 (a*b))::lo,hp,df⟩,wr⟩ Q):WO M (⟨.l t,.bin .mul x y,none⟩::l) ⟨⟨pe,lo,hp,df⟩,wr⟩ Q:=
 aak (v:=.int .u64 (a*b)) (by simp[aV,hx,hy,cK,qk hr]) rfl h
theorem aiH (hx:(St.mk pe lo hp df).ae x=some (.int .u64 a))(hy:(St.mk pe lo hp df).ae y=some (.int .u64 b))(ha:0<=a/\a<18446744073709551616)(hb:0<b)
 (h:WO M l ⟨⟨pe,(t,.int .u64 (a/b))::lo,hp,df⟩,wr⟩ Q):WO M (⟨.l t,.bin .quo x y,none⟩::l) ⟨⟨pe,lo,hp,df⟩,wr⟩ Q:=by
 refine aak (v:=.int .u64 (a/b)) ?_ rfl h;have h1:0<=a/b:=Int.ediv_nonneg ha.1 (Int.le_of_lt hb);have h2:a/b<=a:=Int.ediv_le_self _ ha.1;have h3:¬b=0:=by omega
 simp only[aV,hx,hy,cK,if_true,if_neg h3];rw[Int.tdiv_eq_ediv_of_nonneg ha.1,qk ⟨h1,by omega⟩]
theorem ajr (hx:(St.mk pe lo hp df).ae x=some (.int .u64 a))(hy:(St.mk pe lo hp df).ae y=some (.int .u64 b))(ha:0<=a)(hb:0<b)
 (h:WO M l ⟨⟨pe,(t,.int .u64 (a%b))::lo,hp,df⟩,wr⟩ Q):WO M (⟨.l t,.bin .rem x y,none⟩::l) ⟨⟨pe,lo,hp,df⟩,wr⟩ Q:=by
 refine aak (v:=.int .u64 (a%b)) ?_ rfl h;have h3:¬b=0:=by omega
 simp only[aV,hx,hy,cK,if_true,if_neg h3];rw[Int.tmod_eq_emod_of_nonneg ha]
theorem ait (hx:(St.mk pe lo hp df).ae x=some (.int .u64 a))(hy:(St.mk pe lo hp df).ae y=some (.int k b))(hb:b=n)(hn:n<=64)
 (h:WO M l ⟨⟨pe,(t,.int .u64 (a/2^n))::lo,hp,df⟩,wr⟩ Q):WO M (⟨.l t,.bin .shr x y,none⟩::l) ⟨⟨pe,lo,hp,df⟩,wr⟩ Q:=by
 refine aak (v:=.int .u64 (a/2^n)) ?_ rfl h;subst hb;have h3:¬((n:Int)<0):=by omega
 have h4:min ((n:Int).toNat) IntKind.u64.bits=n:=by
  show min ((n:Int).toNat) 64=n;omega
 simp only[aV,hx,hy,cK,if_neg h3,h4];rw[Int.fdiv_eq_ediv_of_nonneg _ (Int.le_of_lt (Int.pow_pos (by decide)))]
theorem aiU (hx:(St.mk pe lo hp df).ae x=some (.int .u64 a))(hy:(St.mk pe lo hp df).ae y=some (.int k b))(hb:b=n)(hn:n<=64)
 (h:WO M l ⟨⟨pe,(t,.int .u64 ((a*2^n)%18446744073709551616))::lo,hp,df⟩,wr⟩ Q):WO M (⟨.l t,.bin .shl x y,none⟩::l) ⟨⟨pe,lo,hp,df⟩,wr⟩ Q:=by
 refine aak (v:=.int .u64 ((a*2^n)%18446744073709551616)) ?_ rfl h;subst hb;have h3:¬((n:Int)<0):=by omega
 have h4:min ((n:Int).toNat) IntKind.u64.bits=n:=by
  show min ((n:Int).toNat) 64=n;omega
 simp only[aV,hx,hy,cK,if_neg h3,h4,ou]
theorem aiy {c:Int}(hx:(St.mk pe lo hp df).ae x=some (.int .u64 a))(hy:(St.mk pe lo hp df).ae y=some (.int k b))(hb:b=n)(hn:n<=64)(hc:(2:Int)^n=c)
 (h:WO M l ⟨⟨pe,(t,.int .u64 (a/c))::lo,hp,df⟩,wr⟩ Q):WO M (⟨.l t,.bin .shr x y,none⟩::l) ⟨⟨pe,lo,hp,df⟩,wr⟩ Q:=by
 subst hc;exact ait hx hy hb hn h
theorem ql:BitVec.ofInt 64 (n:Int)=BitVec.ofNat 64 n:=by
 apply BitVec.eq_of_toNat_eq;simp[]
theorem ajB (hx:(St.mk pe lo hp df).ae x=some (.int .u64 a))(hy:(St.mk pe lo hp df).ae y=some (.int .u64 4294967295))(ha:0<=a/\a<18446744073709551616)
 (h:WO M l ⟨⟨pe,(t,.int .u64 (a%4294967296))::lo,hp,df⟩,wr⟩ Q):WO M (⟨.l t,.bin .and x y,none⟩::l) ⟨⟨pe,lo,hp,df⟩,wr⟩ Q:=by
 refine aak (v:=.int .u64 (a%4294967296)) ?_ rfl h;obtain⟨n,rfl⟩:=Int.eq_ofNat_of_zero_le ha.1;have e:(BitVec.ofInt 64 (n:Int) &&& BitVec.ofInt 64 4294967295).toNat=n%4294967296:=by
  rw[ql,show (4294967295:Int)=((4294967295:Nat):Int) from rfl,ql,BitVec.toNat_and,BitVec.toNat_ofNat,BitVec.toNat_ofNat,Nat.mod_eq_of_lt (show n<2^64 by omega),Nat.mod_eq_of_lt (show 4294967295<2^64 by decide)];exact Nat.and_two_pow_sub_one_eq_mod n 32
 simp only[aV,hx,hy,cK,if_true];show some (AV.int .u64 (IntKind.u64.wrap ((BitVec.ofInt 64 (n:Int) &&& BitVec.ofInt 64 4294967295).toNat:Int)))=_;rw[e,qk (by omega)];rfl
theorem ajC (m:Nat)(hx:(St.mk pe lo hp df).ae x=some (.int .u64 a))(hy:(St.mk pe lo hp df).ae y=some (.int .u64 b))(ha:0<=a/\a<18446744073709551616)(hb:0<=b/\b<2^m)(hm:m<=64)(hd:a%2^m=0)
 (h:WO M l ⟨⟨pe,(t,.int .u64 (a+b))::lo,hp,df⟩,wr⟩ Q):WO M (⟨.l t,.bin .or x y,none⟩::l) ⟨⟨pe,lo,hp,df⟩,wr⟩ Q:=by
 refine aak (v:=.int .u64 (a+b)) ?_ rfl h;obtain⟨n,rfl⟩:=Int.eq_ofNat_of_zero_le ha.1;obtain⟨p,rfl⟩:=Int.eq_ofNat_of_zero_le hb.1;have hp2:p<2^m:=by have:=hb.2;exact_mod_cast this
 have h64:2^m<=2^64:=Nat.pow_le_pow_right (by decide) hm;have hd':n%2^m=0:=by exact_mod_cast hd
 obtain⟨q,hq⟩:∃q,n=2^m*q:=⟨n/2^m,by have:=Nat.div_add_mod n (2^m);omega⟩;have hsum:n+p<2^64:=by
  have h1:n<2^64:=by omega
  obtain⟨r,hr⟩:∃r,2^64=2^m*2^r:=⟨64-m,by rw[←Nat.pow_add];congr 1;omega⟩;rw[hq,hr]at h1;have h2:q<2^r:=Nat.lt_of_mul_lt_mul_left h1;have h3:2^m*(q+1)<=2^m*2^r:=Nat.mul_le_mul_left _ h2;rw[Nat.mul_add]at h3;omega
 have e:(BitVec.ofInt 64 (n:Int) ||| BitVec.ofInt 64 (p:Int)).toNat=n+p:=by
  rw[ql,ql,BitVec.toNat_or,BitVec.toNat_ofNat,BitVec.toNat_ofNat,Nat.mod_eq_of_lt (show n<2^64 by omega),Nat.mod_eq_of_lt (show p<2^64 by omega),hq];exact(Nat.two_pow_add_eq_or_of_lt hp2 q).symm
 simp only[aV,hx,hy,cK,if_true];show some (AV.int .u64 (IntKind.u64.wrap ((BitVec.ofInt 64 (n:Int) ||| BitVec.ofInt 64 (p:Int)).toNat:Int)))=_;rw[e,qk (by omega)];rfl
theorem ajT (hx:(St.mk pe lo hp df).ae x=some (.int k a))(h:WO M l ⟨⟨pe,(t,.int .u64 (a%18446744073709551616))::lo,hp,df⟩,wr⟩ Q):WO M (⟨.l t,.dE .u64 x,none⟩::l) ⟨⟨pe,lo,hp,df⟩,wr⟩ Q:=
 aak (v:=.int .u64 (a%18446744073709551616)) (by simp only[aV,hx,Option.bind_some,me,ou]) rfl h
theorem Va {a:Int}:IntKind.u8.wrap a=a%256:=by
 simp only[IntKind.wrap,IntKind.bits,IntKind.signed];simp
theorem ajx (hx:(St.mk pe lo hp df).ae x=some (.int k a))(h:WO M l ⟨⟨pe,(t,.int .u8 (a%256))::lo,hp,df⟩,wr⟩ Q):WO M (⟨.l t,.dE .u8 x,none⟩::l) ⟨⟨pe,lo,hp,df⟩,wr⟩ Q:=
 aak (v:=.int .u8 (a%256)) (by simp only[aV,hx,Option.bind_some,me,Va]) rfl h
end Go.Ab
namespace Go.Ab
open Go.RowKit
variable {P:Program} {gl:Nat->Option AV} {ρ:ax} {h:ab} {w w':World}
end Go.Ab
