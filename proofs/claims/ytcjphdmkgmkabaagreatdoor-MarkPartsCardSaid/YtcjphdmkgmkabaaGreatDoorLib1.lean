/-
  Own work: maps, ranges over strings, append, copy, slices of arrays, bytes to string.
-/
import Derived.Test.YtcjphdmkgmkabaaGreatDoorLib0
import Derived.Laws.BytesString
import Derived.Lib.Builder
import Derived.Lib.ConvBytes
import Derived.Laws.AppendOwn
import Derived.RangeFuncLeaves
import Derived.Laws.Externs
import Derived.WalkKit
import Derived.Carry
import Derived.OpenShut
import Derived.ChangeSame
set_option maxHeartbeats 8000000
set_option maxRecDepth 20000
namespace Go.Ab
variable {t:TypeId}
variable {P:Program} {gl:Nat->Option AV} {ρ:au} {w:World} {h:ab} {C:Cx} {s:St} {a:Act}
theorem bytes_beq (x y:List UInt8):((ByteArray.mk x.toArray) == (ByteArray.mk y.toArray))=(x == y):=by
 have e:∀x y:ByteArray,(x == y)=(x.data == y.data):=fun _ _=>rfl
 rw[e];simp
theorem mi {c:Nat}{o:Obj}(h:w.heap[c]? = some o)(ho:∀cs e fr,o≠.cells cs e fr):(getObj c).run P w = .ok o w:=by
 cases o <;> first|exact absurd rfl (ho _ _ _)|simp[getObj,Sem.run,h]
theorem nu {c:Nat}{o o':Obj}(h:w.heap[c]? = some o)(ho:∀cs e fr,o≠.cells cs e fr):(setObj c o').run P w = .ok () (w.di c o'):=by
 cases o <;> first|exact absurd rfl (ho _ _ _)|simp[setObj,Sem.run,h,World.di]
theorem zY (m:Mem P gl ρ h w){b:Nat}{es:List (AV×AV)}(hb:h.at b=some (.map es)):h[b]? = some (some (.map es))/\∃c ms clk,ρ b = .live c 0/\w.heap[c]? = some (.map ms clk)/\es.length=ms.size /\
      ∀(i:Nat) kx vx m,es[i]? = some (kx,vx)->ms[i]? = some m->V ρ w kx m.key/\V ρ w vx m.val:=
 ⟨pq hb,m.cW b _ (pq hb)⟩
def zZ:ie->TypeDesc->Prop
 | .int,d=>∃k,d = .int k
 | .str,d=>d = .string
theorem Gb {k:ie}(hk:keyOf P t=some k):∃d,P.underlying t=some d/\zZ k d:=by
 unfold keyOf at hk;split at hk
 . rename_i kk hu;cases hk;exact⟨_,hu,_,rfl⟩
 . rename_i hu;cases hk;exact⟨_,hu,rfl⟩
 . cases hk
theorem tT {k:ie}(hk:keyOf P t=some k)(e:Bool)(v:Value):(Instr.checkKey e 10000 t v).run P w = .ok () w:=by
 obtain⟨d,hu,hd⟩:=Gb hk;unfold Instr.checkKey;rw[Sem.run_bind,bS hu,Result.andThen_ok];cases k
 . obtain⟨kk,rfl⟩:=hd;simp
 . cases hd;simp
theorem Qe {kt:ie}{d:TypeDesc}(hd:zZ kt d){k kx:AV}(hk:kt.ok k=true){k' kx':Value}(h1:V ρ w k k')(h2:V ρ w kx kx'){r:Bool}(he:qM k kx=some r) :
 Instr.sameNow d k' kx'=some r/\(r=true->kx'=k'/\Instr.sameBits 10000 kx' k'=true):=by
 cases kt
 . obtain⟨kk,rfl⟩:=hd;cases k <;> simp only[ie.ok,Bool.false_eq_true]at hk;cases kx <;> simp only[qM,reduceCtorEq,Option.ite_none_right_eq_some,Option.some.injEq]at he;obtain⟨rfl,rfl⟩:=he;cases h1;cases h2;refine⟨by simp[Instr.sameNow],fun hr=>?_⟩;simp only[beq_iff_eq]at hr;subst hr;exact⟨rfl,by simp[Instr.sameBits]⟩
 . cases hd;cases k <;> simp only[ie.ok,Bool.false_eq_true]at hk;cases kx <;> simp only[qM,reduceCtorEq,Option.some.injEq]at he;subst he;cases h1;cases h2;refine⟨by simp only[Instr.sameNow,bytes_beq],fun hr=>?_⟩;simp only[beq_iff_eq]at hr;subst hr;exact⟨rfl,by simp only[Instr.sameBits,bytes_beq,beq_self_eq_true]⟩
def Aa (ρ:au)(w:World)(ms:List MapEntry)(k':Value)(i:Nat):Option (Nat×AV)->Option (Nat×Value)->Prop
 | none,none=>True
 | some (j,v),some (j',v')=>j=j'/\i<=j/\V ρ w v v'/\∃e,ms[j-i]? = some e/\e.key=k'/\Instr.sameBits 10000 e.key k'=true
 | _,_=>False
theorem Gc {kt:ie}{d:TypeDesc}(hd:zZ kt d){k:AV}(hk:kt.ok k=true){k':Value}(h1:V ρ w k k') :
 ∀(es:List (AV×AV)) (ms:List MapEntry) (i:Nat) (r:Option (Nat×AV)),es.length=ms.length ->
  (∀(i:Nat) kx vx m,es[i]? = some (kx,vx)->ms[i]? = some m->V ρ w kx m.key/\V ρ w vx m.val)->kH k es i=some r ->
  ∃r',Instr.findNow d k' ms i=some r'/\Aa ρ w ms k' i r r'
 | [],ms,i,r,hl,_,hf=>by
  cases ms with
  | nil=>simp only[kH,Option.some.injEq]at hf;subst hf;exact⟨none,rfl,trivial⟩
  | cons _ _=>simp at hl
 | (kx,vx)::es,ms,i,r,hl,hv,hf=>by
  cases ms with
  | nil=>simp at hl
  | cons m ms=>
   obtain⟨e1,e2⟩:=hv 0 kx vx m rfl rfl;simp only[kH]at hf;cases he:qM k kx with
   | none=>simp[he]at hf
   | some b=>
    obtain⟨g1,g2⟩:=Qe hd hk h1 e1 he;cases b with
    | true=>
     simp only[he,Option.some.injEq]at hf;subst hf;exact⟨some (i,m.val),by simp[Instr.findNow,g1],rfl,Nat.le_refl _,e2,m,by simp,g2 rfl⟩
    | false=>
     simp only[he]at hf;obtain⟨r',h3,h4⟩:=Gc hd hk h1 es ms (i+1) r (by simpa using hl) (fun i kx vx m hx hm=>hv (i+1) kx vx m (by simpa using hx) (by simpa using hm)) hf;refine⟨r',by simp[Instr.findNow,g1,h3],?_⟩;cases r with
     | none=>cases r' with
       | none=>trivial
       | some _=>exact h4
     | some q=>
      cases r' with
      | none=>exact h4
      | some q'=>
       obtain⟨a1,a2,a3,e,a4,a5⟩:=h4;refine⟨a1,by omega,a3,e,?_,a5⟩;rw[show q.1-i=q.1-(i+1)+1 from by omega];simpa using a4
theorem Ac {kt:ie}(hk:keyOf P t=some kt){k:AV}(bC:kt.ok k=true){k':Value}(h1:V ρ w k k'){es:List (AV×AV)}{ms:List MapEntry}(hl:es.length=ms.length)
 (hv:∀(i:Nat) kx vx m,es[i]? = some (kx,vx)->ms[i]? = some m->V ρ w kx m.key/\V ρ w vx m.val) {r:Option (Nat×AV)} (hf:kH k es 0=some r) :
 ∃r',(Instr.findKey t k' ms).run P w = .ok r' w/\Aa ρ w ms k' 0 r r':=by
 obtain⟨d,hu,hd⟩:=Gb hk;obtain⟨r',h2,h3⟩:=Gc hd bC h1 es ms 0 r hl hv hf;refine⟨r',?_,h3⟩;unfold Instr.findKey;simp[bS hu,h2]
def mj (z:AV)(q:Option (Nat×AV)):AV:=match q with|some (_,v)=>v|none=>z
theorem Qf (r:Rel C ρ s a w){t kt' et:TypeId}{kt:ie}{z:AV}{xo io:Operand}{ok:Bool}(hu:C.P.underlying t=some (.map kt' et))(hk:keyOf C.P kt'=some kt)(hz:zeroOf C.P et=some z)
 {m k:AV} (hm:V ρ w m (a.eval xo)) (hkv:V ρ w k (a.eval io)) (bC:kt.ok k=true) {es:List (AV×AV)} (hes:m = .dU/\es=[]\/∃b,m = .map b/\s.hp.at b=some (.map es))
 {q:Option (Nat×AV)} (hf:kH k es 0=some q) {o:Oper} (ho:o.op = .lookup t xo io ok) :
 ck C a.eval o ρ s.hp w ⟨if ok then .aq [mj z q,.bool q.isSome] else mj z q,s.hp,[]⟩:=by
 obtain⟨dst,op,ty,pos,af,gd⟩:=o;simp only at ho;subst ho;obtain⟨zv,hz1,hz2⟩:=tQ (w:=w) (ρ:=ρ) hz;have hrun:∃v',(Instr.lookup t (a.eval xo) (a.eval io) ok).run C.P w = .ok v' w/\V ρ w (if ok then .aq [mj z q,.bool q.isSome] else mj z q) v':=by
  have tail:∀(q':Option (Nat×Value)) (ms:List MapEntry),Aa ρ w ms (a.eval io) 0 q q'->∃v',((match q' with
   | some (_,v)=>do let p ←(pure (v,true):Sem (Value×Bool));pure (if ok then .tuple #[p.1,.bool p.2] else p.1)
   | none=>do let z ←zeroValue et;let p ←(pure (z,false):Sem (Value×Bool));pure (if ok then .tuple #[p.1,.bool p.2] else p.1):Sem Value)).run C.P w = .ok (if ok then .tuple #[v',.bool q.isSome] else v') w/\V ρ w (mj z q) v':=by
   intro q' ms h2;cases q with
   | none=>
    cases q' with
    | some _=>exact h2.elim
    | none=>exact⟨zv,by simp[hz1],hz2⟩
   | some p=>
    cases q' with
    | none=>exact h2.elim
    | some p'=>exact⟨p'.2,by simp,h2.2.2.1⟩
  have fin:∀(v':Value),V ρ w (mj z q) v'->V ρ w (if ok then .aq [mj z q,.bool q.isSome] else mj z q) (if ok then .tuple #[v',.bool q.isSome] else v'):=by
   intro v' hv;cases ok
   . exact hv
   . exact V.im (VL.cons hv (VL.cons (.bool _) .nil))
  unfold Instr.lookup;rcases hes with ⟨rfl,rfl⟩|⟨b,rfl,hb⟩
  . generalize hxv:a.eval xo=xv at hm;cases hm;obtain⟨q',h1,h2⟩:=Ac (P:=C.P) (es:=[]) (ms:=[]) hk bC hkv rfl (by simp) hf;obtain⟨v',t1,t2⟩:=tail q' _ h2;refine⟨_,?_,fin v' t2⟩;simp only[Sem.run_bind,bS hu,Result.andThen_ok,Sem.run_pure,tT hk,h1];exact t1
  . obtain⟨_,c,ms,clk,g1,g2,g3,g4⟩:=zY r.mem hb;generalize hxv:a.eval xo=xv at hm;cases hm with
    | map hρ=>
     rw[hρ]at g1;cases g1;obtain⟨q',h1,h2⟩:=Ac (P:=C.P) (ms:=ms.toList) hk bC hkv (by simpa using g3) (by simpa using g4) hf;obtain⟨v',t1,t2⟩:=tail q' _ h2;refine⟨_,?_,fin v' t2⟩;simp only[Sem.run_bind,bS hu,Result.andThen_ok,Sem.run_pure,tT hk,h1,mi g2 (by simp)];exact t1
    | gW _ hρ=>rw[hρ]at g1;cases g1
 obtain⟨v',h3,h4⟩:=hrun;refine ck.val (v':=v') (w':=w) ?_ (gZ r.mem h4);simp[execOp,h3]
def ml (es:List (AV×AV))(k v:AV)(q:Option (Nat×AV)):List (AV×AV):=match q with|some (j,_)=>es.set j (k,v)|none=>es++[(k,v)]
theorem tW (r:Rel C ρ s a w){t kt' et:TypeId}{kt:ie}{mo io xo:Operand}(hu:C.P.underlying t=some (.map kt' et))(hk:keyOf C.P kt'=some kt)
 {k v:AV} {b:Nat} (hm:V ρ w (.map b) (a.eval mo)) (hkv:V ρ w k (a.eval io)) (hv:V ρ w v (a.eval xo)) (bC:kt.ok k=true) {es:List (AV×AV)} (hb:s.hp.at b=some (.map es))
 {q:Option (Nat×AV)} (hf:kH k es 0=some q) {o:Oper} (ho:o.op = .mapUpdate t mo io xo\/o.op = .insert t mo io xo) :
 ck C a.eval o ρ s.hp w ⟨cB,s.hp.put b (some (.map (ml es k v q))),[b]⟩:=by
 obtain⟨h0,c,ms,clk,g1,g2,g3,g4⟩:=zY r.mem hb;have hrun:∃ms' clk',(Instr.mapUpdate t (a.eval mo) (a.eval io) (a.eval xo)).run C.P w = .ok () (w.di c (.map ms' clk'))/\(ml es k v q).length=ms'.size /\
  ∀(i:Nat) kx vx m,(ml es k v q)[i]? = some (kx,vx)->ms'[i]? = some m->V ρ w kx m.key/\V ρ w vx m.val:=by
  unfold Instr.mapUpdate;generalize hxv:a.eval mo=xv at hm;cases hm with
  | map hρ=>
   rw[hρ]at g1;cases g1;obtain⟨q',h1,h2⟩:=Ac (P:=C.P) (ms:=ms.toList) hk bC hkv (by simpa using g3) (by simpa using g4) hf;cases q with
   | none=>
    cases q' with
    | some _=>exact h2.elim
    | none=>
     refine⟨ms.push { key:=a.eval io,val:=a.eval xo,born:=clk },clk+1,?_,by simp[ml,g3],?_⟩
     . simp only[Sem.run_bind,bS hu,Result.andThen_ok,tT hk,h1,mi g2 (by simp)];exact nu g2 (by simp)
     . intro i kx vx m hx hm;simp only[ml]at hx;rw[List.getElem?_append]at hx;rw[Array.getElem?_push]at hm;split at hx
       . rw[if_neg (by omega)]at hm;exact g4 i kx vx m hx hm
       . have:i<es.length+1:=by
          have:=(List.getElem?_eq_some_iff.1 hx).1;simp at this;omega
         rw[if_pos (by omega)]at hm;cases hm;rw[show i-es.length=0 from by omega]at hx;simp at hx;obtain⟨rfl,rfl⟩:=hx;exact⟨hkv,hv⟩
   | some p=>
    cases q' with
    | none=>exact h2.elim
    | some p'=>
     obtain⟨j,pv⟩:=p;obtain⟨j',pv'⟩:=p';obtain⟨e1,_,_,e,e3,e4,e5⟩:=h2;have e1:j=j':=e1;subst e1;have e3:ms[j]? = some e:=by simpa using e3
     have hj:j<ms.size:=(Array.getElem?_eq_some_iff.1 e3).1;refine⟨ms.modify j fun e=>{ e with key:=a.eval io,val:=a.eval xo },clk,?_,by simp[ml,g3],?_⟩
     . simp only[Sem.run_bind,bS hu,Result.andThen_ok,tT hk,h1,mi g2 (by simp)];simp only[e3,Option.map_some,Option.getD_some,Instr.keyThatStays,e5,if_true,Sem.run_pure,Result.andThen_ok];exact nu g2 (by simp)
     . intro i kx vx m hx hm;rw[Array.getElem?_modify]at hm;simp only[ml]at hx;rw[List.getElem?_set]at hx;by_cases hij:j=i
       . subst hij;rw[if_pos rfl]at hx hm;rw[if_pos (by omega)]at hx;simp only[e3,Option.map_some,Option.some.injEq]at hm;cases hx;subst hm;exact⟨hkv,hv⟩
       . rw[if_neg hij]at hx hm;exact g4 i kx vx m hx hm
  | gW _ hρ=>rw[hρ]at g1;cases g1
 obtain⟨ms',clk',h1,h2,h3⟩:=hrun;have hO:∀cs0 e0 fr0,w.heap[c]? = some (.cells cs0 e0 fr0)->∃cs' fr',Obj.map ms' clk' = .cells cs' e0 fr'/\cs'.size=cs0.size:=by
  intro _ _ _ hq;rw[g2]at hq;cases hq
 have x:=Ext.write r.mem h0 g1 (some (.map (ml es k v q))) (.map ms' clk') hO;refine ck.skip (w':=w.di c (.map ms' clk')) ?_ ⟨ρ,V.undef,Mem.write r.mem h0 g1 _ _ hO ?_,x⟩
 . obtain⟨dst,op,ty,pos,af,gd⟩:=o;simp only at ho;rcases ho with rfl|rfl <;> simp[execOp,h1]
 . intro o' ho';cases ho';exact⟨c,ms',clk',g1,nk (r.mem.bound _ _ _ g1),h2,fun i kx vx m hx hm=>let ⟨a1,a2⟩:=h3 i kx vx m hx hm;⟨a1.mono x,a2.mono x⟩⟩
theorem Qg (r:Rel C ρ s a w){t:TypeId}{o:Oper}(ho:o.op = .makeMap t none):ck C a.eval o ρ s.hp w ⟨.map s.hp.length,s.hp++[some (.map [])],[]⟩:=by
 have x:=Ext.alloc r.mem (some (.map [])) (.map #[] 0) (.live w.heap.size 0) (.inl ⟨0,rfl⟩);refine ck.val (v':=.map (some w.heap.size)) (w':={ w with heap:=w.heap.push (.map #[] 0) }) ?_ ⟨_,.map (au.dI _ _ _),Mem.alloc r.mem _ _ _ (.inl ⟨0,rfl⟩) ?_,x⟩
 . obtain⟨dst,op,ty,pos,af,gd⟩:=o;simp only at ho;subst ho;simp[execOp,Instr.makeMap]
 . intro o' ho';cases ho';exact⟨w.heap.size,#[],0,au.dI _ _ _,by simp,rfl,by simp⟩
theorem Qh (r:Rel C ρ s a w){t:TypeId}{xo:Operand}(hu:C.P.underlying t=some .string){u:List UInt8}(hx:V ρ w (.str u) (a.eval xo)){o:Oper}(ho:o.op = .range t xo) :
 ck C a.eval o ρ s.hp w ⟨.ptr s.hp.length 0,s.hp++[some (.iter u 0)],[]⟩:=by
 have x:=Ext.alloc r.mem (some (.iter u 0)) (.stringIter ⟨u.toArray⟩ 0) (.live w.heap.size 0) (.inl ⟨0,rfl⟩);refine ck.val (v':=.pointer (some ⟨w.heap.size,0,none⟩)) (w':={ w with heap:=w.heap.push (.stringIter ⟨u.toArray⟩ 0) }) ?_ ⟨_,zO,Mem.alloc r.mem _ _ _ (.inl ⟨0,rfl⟩) ?_,x⟩
 . obtain⟨dst,op,ty,pos,af,gd⟩:=o;simp only at ho;subst ho;simp[execOp,Instr.range,bS hu,hx.jC]
 . intro o' ho';cases ho';exact⟨w.heap.size,au.dI _ _ _,by simp⟩
theorem Qi (r:Rel C ρ s a w){xo:Operand}{b pos:Nat}{t:List UInt8}(hx:V ρ w (.ptr b 0) (a.eval xo))(hb:s.hp.at b=some (.iter t pos)){o:Oper}(ho:o.op = .next xo true) :
 ck C a.eval o ρ s.hp w (if pos<t.length then ⟨.aq [.bool true,.int .i64 pos,.int .i32 (Utf8.decode ⟨t.toArray⟩ pos).1],s.hp.put b (some (.iter t (pos+(Utf8.decode ⟨t.toArray⟩ pos).2))),[b]⟩ else ⟨.aq [.bool false],s.hp,[]⟩):=by
 have h0:=pq hb;obtain⟨c,g1,g2⟩:=r.mem.cW b _ h0;obtain⟨dst,op,ty,ps,af,gd⟩:=o;simp only at ho;subst ho;generalize hxv:a.eval xo=xv at hx;cases hx with
 | ptr _ hρ=>
  rw[hρ]at g1;cases g1;have hsz:(ByteArray.mk t.toArray).size=t.length:=by simp[ByteArray.size]
  by_cases hp:pos<t.length
  . rw[if_pos hp];have hO:∀cs0 e0 fr0,w.heap[c]? = some (.cells cs0 e0 fr0)->∃cs' fr',Obj.stringIter ⟨t.toArray⟩ (pos+(Utf8.decode ⟨t.toArray⟩ pos).2) = .cells cs' e0 fr'/\cs'.size=cs0.size:=by
     intro _ _ _ hq;rw[g2]at hq;cases hq
    have x:=Ext.write r.mem h0 hρ (some (.iter t (pos+(Utf8.decode ⟨t.toArray⟩ pos).2))) (.stringIter ⟨t.toArray⟩ (pos+(Utf8.decode ⟨t.toArray⟩ pos).2)) hO;refine ck.val (v':=.tuple #[.bool true,goInt pos,.int .i32 (Utf8.decode ⟨t.toArray⟩ pos).1]) (w':=w.di c (.stringIter ⟨t.toArray⟩ (pos+(Utf8.decode ⟨t.toArray⟩ pos).2))) ?_
     ⟨ρ,V.im (.cons (.bool _) (.cons (.int _ _) (.cons (.int _ _) .nil))),Mem.write r.mem h0 hρ _ _ hO ?_,x⟩
    . simp[execOp,Instr.next,hxv,mi g2,hsz,hp,nu g2]
    . intro o' ho';cases ho';exact⟨c,hρ,nk (r.mem.bound _ _ _ hρ)⟩
  . rw[if_neg hp];refine ck.val (v':=.tuple #[.bool false]) (w':=w) ?_ (gZ r.mem (V.im (.cons (.bool _) .nil)));simp[execOp,Instr.next,hxv,mi g2,hsz,hp]
 | dO _ _ _ hρ=>rw[hρ]at g1;cases g1
end Go.Ab

/-
  Own work: the operations that look at the heap, all of them together.
-/
namespace Go.Ab
variable {e:TypeId}
variable {P:Program} {gl:Nat->Option AV} {ρ:au} {w:World} {h:ab} {C:Cx} {s:St} {a:Act}
theorem V.Qj {x:AV}{x':Value}(hx:V ρ w x x'){l:List AV}{n:Nat}(hs:eA h x=some (l,n)):(∃s,x = .str s)\/∃a c,x' = .slice a n c:=by
 cases x <;> simp only[eA,reduceCtorEq,Option.some.injEq,Prod.mk.injEq]at hs
 case str s=>exact .inl ⟨s,rfl⟩
 case ae=>obtain⟨rfl,rfl⟩:=hs;cases hx;exact .inr ⟨_,_,rfl⟩
 case vs=>obtain⟨rfl,rfl⟩:=hs;cases hx <;> exact .inr ⟨_,_,rfl⟩
 case sl b off len esz cap=>
  split at hs
  . simp only[Option.map_eq_some_iff,Prod.mk.injEq]at hs;obtain⟨_,_,rfl,rfl⟩:=hs;cases hx <;> exact .inr ⟨_,_,rfl⟩
  . split at hs
    . rename_i hn;subst hn;cases hs;cases hx <;> exact .inr ⟨_,_,rfl⟩
    . cases hs
theorem Ad:∀(l:List AV) (t:List UInt8) (m:List Value),bytesOf l=some t->VL ρ w l m->∃ns:List Int,m=ns.map (Value.int .u8)/\t=ns.map fun n=>UInt8.ofNat n.toNat
 | [],t,m,h,hv=>by
  simp only[bytesOf,Option.some.injEq]at h;subst h;exact⟨[],hv.jB,rfl⟩
 | x::l,t,m,h,hv=>by
  obtain⟨y,m',rfl,h1,h2⟩:=hv.cons_inv;cases x <;> first|(simp only[bytesOf,reduceCtorEq]at h;done)|skip
  rename_i k n;cases k <;> first|(simp only[bytesOf,reduceCtorEq]at h;done)|skip
  simp only[bytesOf]at h;split at h
  . rename_i t' ht;cases h;obtain⟨ns,rfl,rfl⟩:=Ad l t' m' ht h2;cases h1;exact⟨n::ns,rfl,rfl⟩
  . cases h
theorem fold_push (ns:List Int):∀r:ByteArray,ns.foldl (fun r n=>r.push (UInt8.ofNat n.toNat)) r=⟨r.data++(ns.map fun n=>UInt8.ofNat n.toNat).toArray⟩:=by
 induction ns with
 | nil=>intro r;simp
 | cons n ns ih=>
  intro r;rw[List.foldl_cons,ih];apply ByteArray.ext;simp[ByteArray.push]
theorem Qk (r:Rel C ρ s a w){src dst e:TypeId}{xo:Operand}(hs:C.P.underlying src=some (.slice e))(hd:C.P.underlying dst=some .string)(he:C.P.underlying e=some (.int .u8))
 {x:AV} (hx:V ρ w x (a.eval xo)) (hns:∀t,x≠.str t) {l:List AV} {n:Nat} (hl:eA s.hp x=some (l,n)) (hln:l.length=n) {t:List UInt8} (ht:bytesOf l=some t)
 {o:Oper} (ho:o.op = .convert src dst xo):ck C a.eval o ρ s.hp w ⟨.str t,s.hp,[]⟩:=by
 obtain⟨d,op,ty,pos,af,gd⟩:=o;simp only at ho;subst ho;refine ck.val (v':=.string ⟨t.toArray⟩) (w':=w) ?_ (gZ r.mem (.str t));obtain⟨_,hf⟩:=mg (size:=1) r.mem hx hl (by omega);obtain⟨cs,h1,h2⟩:=hf n (Nat.le_refl _);rcases hx.Qj hl with ⟨u,hu⟩|⟨ad,c,hx'⟩
 . exact absurd hu (hns u)
 . rw[hx']at h1;rw[Nat.mul_one,←hln,List.take_length]at h2;obtain⟨ns,rfl,rfl⟩:=Ad l t cs ht h2;have hrun:(convert src dst (a.eval xo)).run C.P w = .ok (.string ⟨(ns.map fun n=>UInt8.ofNat n.toNat).toArray⟩) w:=by
    rw[hx'];rw[run_convert_bytes_string w src dst e ad n c hs he hd];cases ad with
    | none=>
     simp only[Builtin.firstCells,Sem.run_pure,Result.ok.injEq,and_true]at h1;have:ns=[]:=by
      cases ns with
      | nil=>rfl
      | cons _ _=>simp at h1
     subst this;rfl
    | some ad=>
     simp only[Builtin.firstCells,Nat.mul_one]at h1;rw[run_bytesToString w ad n c ns h1,fold_push];simp
   simp[execOp,hrun]
theorem Gd (r:Rel C ρ s a w){t kt et ty:TypeId}{x:AV}{x':Value}(hu:C.P.underlying t=some (.map kt et))(hx:V ρ w x x'){n:Nat}(hn:x = .dU/\n=0\/∃b es,x = .map b/\s.hp.at b=some (.map es)/\es.length=n) :
 (Builtin.len_ #[t] ty #[x']).run C.P w = .ok (.int .i64 n) w:=by
 rcases hn with ⟨rfl,rfl⟩|⟨b,es,rfl,hb,rfl⟩
 . cases hx;simp[Builtin.len_,bS hu,goInt]
 . obtain⟨_,c,ms,clk,g1,g2,g3,_⟩:=zY r.mem hb;cases hx with
   | map hρ=>rw[hρ]at g1;cases g1;simp[Builtin.len_,bS hu,mi g2,g3,goInt]
   | gW _ hρ=>rw[hρ]at g1;cases g1
theorem Ql (r:Rel C ρ s a w){t u ty elem:TypeId}{n bb:Nat}(he:iL C.P t=some (elem,n,bb)){x y:AV}{x' y':Value}(hx:V ρ w x x')(hy:V ρ w y y')
 {src:List AV} {k:Nat} (hsrc:eA s.hp y=some (src,k)) (hl:src.length=k*n) (hone:src.all cS=true) {b off len:Nat} {cap:Option Nat} {l:List AV} {el:TypeId} (hxe:x = .sl b off len n cap) (hb:s.hp.at b=some (.cells l el))
 (hin:off+min k len*n<=l.length):∃w',(Builtin.copy_ #[t,u] ty #[x',y']).run C.P w = .ok (.int .i64 ((min k len:Nat):Int)) w'/\dY C.P C.gl ρ s.hp w ⟨.int .i64 ((min k len:Nat):Int),s.hp.put b (some (.cells (overwrite l off (src.take (min k len*n))) el)),[b]⟩ (.int .i64 ((min k len:Nat):Int)) w':=by
 subst hxe;obtain⟨i,hu,hi,rfl,rfl⟩:=mh he;obtain⟨h1,h2⟩:=mg r.mem hy hsrc hl;obtain⟨cs,h3,h4⟩:=h2 (min k len) (Nat.min_le_left _ _);obtain⟨h0,hbr⟩:=kT r.mem hb;have h3':(Builtin.firstCells i.size (Nat.min k len) y').run C.P w = .ok cs.toArray w:=h3;cases hx with
 | @sl _ c d _ _ _ capC _ hρ hlc hcap hs=>
  have hone':(src.take (min k len*i.size)).all cS=true:=by
   rw[List.all_eq_true]at hone ⊢;exact fun z hz=>hone z (List.mem_of_mem_take hz)
  have htl:(src.take (min k len*i.size)).length<=min k len*i.size:=by rw[List.length_take];exact Nat.min_le_left _ _
  obtain⟨w',g1,m1,x1⟩:=rm (off:=off) r.mem hb hρ h4 (by omega) (fun cs e fr hq=>by
   rcases hbr with ⟨c',d',cs',fr',q1,q2,q3,_⟩|⟨q1,_⟩
   . rw[hρ]at q1;cases q1;rw[hq]at q2;cases q2;have:=q3.1;omega
   . rw[hρ]at q1;cases q1) hone'
  refine⟨w',?_,ρ,.int _ _,m1,x1⟩;simp[Builtin.copy_,bS hu,h1,gG hi,h3',g1,goInt]
 | fk hρ=>
  rcases hbr with ⟨c',d',cs',fr',q1,q2,q3,_⟩|⟨q1,rfl⟩
  . rw[hρ]at q1;cases q1
  . have hz:min k 0=0:=Nat.min_zero _;refine⟨w,?_,ρ,.int _ _,?_,?_⟩
    . have h30:(Builtin.firstCells i.size 0 y').run C.P w = .ok cs.toArray w:=by rw[hz]at h3;exact h3
      simp[Builtin.copy_,bS hu,h1,gG hi,h30,goInt]
    . have:s.hp.put b (some (.cells (overwrite [] 0 (src.take (min k 0*i.size))) el))=s.hp:=by
       unfold ab.put overwrite;rw[hz];simp;apply List.ext_getElem?;intro j;rw[List.getElem?_set];split
       . rename_i e;subst e;rw[h0];have:=(List.getElem?_eq_some_iff.1 h0).1;simp[this]
       . rfl
      rw[this];exact r.mem
    . have:s.hp.put b (some (.cells (overwrite [] 0 (src.take (min k 0*i.size))) el))=s.hp:=by
       unfold ab.put overwrite;rw[hz];simp;apply List.ext_getElem?;intro j;rw[List.getElem?_set];split
       . rename_i e;subst e;rw[h0];have:=(List.getElem?_eq_some_iff.1 h0).1;simp[this]
       . rfl
      rw[this];exact Ext.refl _ _ _
 | dX _ _ hρ _ _=>rcases hbr.live with ⟨_,_,hl'⟩|hl'|hl' <;> (rw[hρ]at hl';cases hl')
 | fe hρ=>rcases hbr.live with ⟨_,_,hl'⟩|hl'|hl' <;> (rw[hρ]at hl';cases hl')
 | fl a hρ=>rcases hbr.live with ⟨_,_,hl'⟩|hl'|hl' <;> (rw[hρ]at hl';cases hl')
theorem Ge {z:List AV}(hz:z.all cS=true):∀n,(fS z n).all cS=true
 | 0=>rfl
 | n+1=>by rw[fS,List.all_append,hz,Ge hz n];rfl
theorem Qm (r:Rel C ρ s a w){t ty elem:TypeId}{n bb:Nat}(he:iL C.P t=some (elem,n,bb)){z:List AV}(hz:(zeroOf C.P elem).bind AV.cells=some z)(hzn:z.length=n)(hone:z.all cS=true){x':Value}{b off len:Nat}{cap:Option Nat}{l:List AV}{el:TypeId}(hx:V ρ w (.sl b off len n cap) x')(hb:s.hp.at b=some (.cells l el))(hlen:0<len)
 (hin:off+len*n<=l.length):∃w',(Builtin.clear_ #[t] ty #[x']).run C.P w = .ok (.tuple #[]) w'/\dY C.P C.gl ρ s.hp w ⟨.aq [],s.hp.put b (some (.cells (overwrite l off (fS z len)) el)),[b]⟩ (.tuple #[]) w':=by
 obtain⟨i,hu,hi,rfl,rfl⟩:=mh he;obtain⟨i',zv,hi',hzv,hzl,hzrun⟩:=rn hz;rw[hi]at hi';cases hi';have hzs:zv.cells.size=i.size:=by rw[←hzn,(hzl ρ w).toList]
 have hrep:=zW (hzl ρ w) len;have hrl:=zX z len;rw[hzn]at hrl;obtain⟨h0,hbr⟩:=kT r.mem hb;cases hx with
 | @sl _ c d _ _ _ capC _ hρ hlc hcap hs=>
  obtain⟨w',g1,m1,x1⟩:=rm (off:=off) r.mem hb hρ hrep (by omega) (fun cs e fr hq=>by
   rcases hbr with ⟨c',d',cs',fr',q1,q2,q3,_⟩|⟨q1,_⟩
   . rw[hρ]at q1;cases q1;rw[hq]at q2;cases q2;have:=q3.1;omega
   . rw[hρ]at q1;cases q1) (Ge hone len)
  refine⟨w',?_,ρ,.im .nil,m1,x1⟩;obtain⟨m,rfl⟩:∃m,len=m+1:=⟨len-1,by omega⟩;simp only[Builtin.clear_];simp[bS hu,hzrun,Builtin.zeroCells];rw[Array.toList_map,Array.toList_range]at g1;rw[g1];rfl
 | fk hρ=>exact absurd hlen (Nat.lt_irrefl _)
 | dX _ _ hρ _ _=>rcases hbr.live with ⟨_,_,hl'⟩|hl'|hl' <;> (rw[hρ]at hl';cases hl')
 | fe hρ=>exact absurd hlen (Nat.lt_irrefl _)
 | fl a hρ=>exact absurd hlen (Nat.lt_irrefl _)
theorem Gf {P:Program}{t ty:TypeId}(hu:P.underlying t=some (.slice e)){w:World}{a:Option Addr}{c:Nat}:(Builtin.clear_ #[t] ty #[.slice a 0 c]).run P w = .ok (.tuple #[]) w:=by
 cases a <;> simp[Builtin.clear_,bS hu]
theorem Qn (r:Rel C ρ s a w){t u ty elem:TypeId}{n bb:Nat}(he:iL C.P t=some (elem,n,bb)){y:AV}{y':Value}(hy:V ρ w y y')
 {src:List AV} {k:Nat} (hsrc:eA s.hp y=some (src,k)) (hl:src.length=k*n):(Builtin.copy_ #[t,u] ty #[.slice none 0 0,y']).run C.P w = .ok (.int .i64 0) w:=by
 obtain⟨i,hu,hi,rfl,rfl⟩:=mh he;obtain⟨h1,h2⟩:=mg r.mem hy hsrc hl;obtain⟨cs,h3,h4⟩:=h2 0 (Nat.zero_le _);simp[Builtin.copy_,bS hu,h1,gG hi,h3,goInt]
theorem Qo (r:Rel C ρ s a w){t e:TypeId}{n:Nat}{i:TypeInfo}{xo:Operand}{lo hi:Option Operand}(hu:C.P.underlying t=some (.array n e))(hie:C.P.info? e=some i){b o:Nat}(hx:V ρ w (.ptr b o) (a.eval xo))
 {l:List AV} {el:TypeId} (hb:s.hp.at b=some (.cells l el)) (hin:o+n*i.size<=l.length) {la ha:Option AV} (hl:VO ρ w la (lo.map a.eval)) (hh:VO ρ w ha (hi.map a.eval)) {h' l':Nat} (h2:bM ha n n=some h') (h3:bM la 0 h'=some l')
 {op:Oper} (ho:op.op = .slice t xo lo hi none):ck C a.eval op ρ s.hp w ⟨if l'<n then .sl b (o+l'*i.size) (h'-l') i.size (some (n-l')) else .vs [] 0 (some 0),s.hp,[]⟩:=by
 obtain⟨d,opp,ty,pos,af,gd⟩:=op;simp only at ho;subst ho;obtain⟨h0,hbr⟩:=kT r.mem hb;generalize hxv:a.eval xo=xv at hx;cases hx with
 | @ptr _ c d _ hρ=>
  have hrun:=Px (P:=C.P) (w:=w) (ρ:=ρ) hu hie (a:=⟨c,o+d,none⟩) hl hh h2 h3;have hh':=kS (Nat.le_refl _) h2;have hl':=kS (Nat.zero_le _) h3;refine ck.val (v':=_) (w':=w) (by simp[execOp,hxv];rw[hrun];rfl) (gZ r.mem ?_);rcases hbr with ⟨c',d',cs,fr,q1,q2,q3,_⟩|⟨q1,_⟩
  . rw[hρ]at q1;cases q1;split
    . rename_i hlt;rw[if_neg (by omega)];have hmul:l'*i.size+(n-l')*i.size=n*i.size:=by rw[←Nat.add_mul];congr 1;omega
      have:(Addr.add ⟨c,o+d,none⟩ (l'*i.size))=⟨c,o+l'*i.size+d,none⟩:=by
       unfold Addr.add;split
       . rename_i hz;rw[hz];simp
       . simp;omega
      rw[this];exact .sl hρ (by omega) (by simp) ⟨cs,el,fr,q2,by have:=q3.1;omega⟩
    . rename_i hge;have e1:n=l':=by omega
      rw[if_pos e1];rw[show h'-l'=0 from by omega,show n-l'=0 from by omega];exact V.empty (by simp) (by rintro x ⟨⟩;exact .inl rfl) (by simp)
  . rw[hρ]at q1;cases q1
 | dO _ _ _ hρ=>rcases hbr.live with ⟨_,_,hl'⟩|hl'|hl' <;> (rw[hρ]at hl';cases hl')
theorem Qp {α:Type}(x:Array α)(y:α)(f:α->α):(x.push y).modify x.size f=x.push (f y):=by
 apply Array.ext_getElem?;intro i;rw[Array.getElem?_modify,Array.getElem?_push,Array.getElem?_push];by_cases h:i=x.size
 . subst h;simp
 . rw[if_neg (fun e=>h e.symm),if_neg h];simp[h]
theorem Qq (w:World)(e:TypeId)(s:ByteArray):Lib.bytesWorld w e s =
 { w with drawn:=w.drawn+1,heap:=w.heap.push (.cells (Lib.bytesCells w e s) e ((Lib.bytesCells w e s).size,(Lib.bytesCells w e s).size+1)) }:=by
 unfold Lib.bytesWorld World.freeze World.alloc World.drew;simp only[Qp];simp
theorem Qr (r:Rel C ρ s a w){src dst e:TypeId}{xo:Operand}(hs:C.P.underlying src=some .string)(hd:C.P.underlying dst=some (.slice e))(he:C.P.underlying e=some (.int .u8))(hne:¬jj C.P e=true)
 {t:List UInt8} (hx:V ρ w (.str t) (a.eval xo)) {o:Oper} (ho:o.op = .convert src dst xo) :
 ck C a.eval o ρ s.hp w ⟨.sl s.hp.length 0 t.length 1 none,s.hp++[some (.cells (t.map fun c=>.int .u8 c.toNat) e)],[]⟩:=by
 obtain⟨d,op,ty,pos,af,gd⟩:=o;simp only at ho;subst ho;have hrun:=Lib.run_convert_string_bytes (P:=C.P) w src dst e ⟨t.toArray⟩ hs hd he;rw[Qq]at hrun;have hge:=grownCap_ge w t.length 0 e;have hsz:(ByteArray.mk t.toArray).size=t.length:=by simp[ByteArray.size]
 have hcs:(Lib.bytesCells w e ⟨t.toArray⟩).size=grownCap w t.length 0 e:=by
  simp[Lib.bytesCells,hsz];omega
 have md:=r.mem.drew (w.drawn+1);have xd:=Ext.drew s.hp ρ w (w.drawn+1);have x:=Ext.alloc md (some (.cells (t.map fun c=>.int .u8 c.toNat) e)) (.cells (Lib.bytesCells w e ⟨t.toArray⟩) e ((Lib.bytesCells w e ⟨t.toArray⟩).size,(Lib.bytesCells w e ⟨t.toArray⟩).size+1)) (.live w.heap.size 0) (.inl ⟨0,rfl⟩);refine ck.val (v':=.slice (some ⟨w.heap.size,0,none⟩) t.length (grownCap w t.length 0 e))
  (w':={ w with drawn:=w.drawn+1,heap:=w.heap.push (.cells (Lib.bytesCells w e ⟨t.toArray⟩) e ((Lib.bytesCells w e ⟨t.toArray⟩).size,(Lib.bytesCells w e ⟨t.toArray⟩).size+1)) }) ?_
  ⟨ρ.dH s.hp.length (.live w.heap.size 0),?_,Mem.alloc md _ _ _ (.inl ⟨0,rfl⟩) ?_,xd.trans x⟩
 . have e1:a.eval xo = .string ⟨t.toArray⟩:=hx.jC;simp only[execOp,e1,Sem.run_bind,hrun,Result.andThen_ok,Sem.run_pure];rw[hsz]
 . exact .sl (d:=0) (au.dI _ _ _) hge (by simp) ⟨Lib.bytesCells w e ⟨t.toArray⟩,e,((Lib.bytesCells w e ⟨t.toArray⟩).size,(Lib.bytesCells w e ⟨t.toArray⟩).size+1),by simp,by rw[hcs];omega⟩
 . intro o' ho';cases ho';refine .inl ⟨w.heap.size,0,Lib.bytesCells w e ⟨t.toArray⟩,((Lib.bytesCells w e ⟨t.toArray⟩).size,(Lib.bytesCells w e ⟨t.toArray⟩).size+1),au.dI _ _ _,by simp,⟨by rw[List.length_map];omega,fun he=>absurd he hne⟩,fun i hi=>?_,fun i y z hy hz=>?_⟩
   . unfold World.frozen?;simp;omega
   . simp only[List.getElem?_map,Option.map_eq_some_iff]at hy;obtain⟨c,hc,rfl⟩:=hy;have hi:i<t.length:=(List.getElem?_eq_some_iff.1 hc).1;simp only[Lib.bytesCells,Nat.add_zero]at hz;rw[Array.getElem?_append_left (by simpa using hi)]at hz;simp[hc]at hz;subst hz;exact .int _ _
theorem rp (m:Mem P gl ρ h w){b o:Nat}{l:List AV}{e:TypeId}(hb:h.at b=some (.cells l e)){v:Value}(hx:V ρ w (.ptr b o) v) :
 ∃c d cs fr,v = .pointer (some ⟨c,o+d,none⟩)/\ρ b = .live c d/\w.heap[c]? = some (.cells cs e fr)/\Fits P e d l.length cs.size /\
  ∀(i:Nat) x y,l[i]? = some x->cs[i+d]? = some y->V ρ w x y:=by
 obtain⟨h0,hbr⟩:=kT m hb;cases hx with
 | @ptr _ c d _ hρ=>
  rcases hbr with ⟨c',d',cs,fr,q1,q2,q3,_,q5⟩|⟨q1,_⟩
  . rw[hρ]at q1;cases q1;exact⟨c,d,cs,fr,rfl,hρ,q2,q3,q5⟩
  . rw[hρ]at q1;cases q1
 | dO _ _ _ hρ=>rcases hbr.live with ⟨_,_,hl'⟩|hl'|hl' <;> (rw[hρ]at hl';cases hl')
theorem Ae {c:Nat}{cs:Array Value}{fr:Nat×Nat}(h:w.heap[c]? = some (.cells cs e fr)):w.shape? c=some (e,cs.size):=by
 simp[World.shape?,h]
theorem Qs (r:Rel C ρ s a w){op:BinOp}{t:TypeId}{x y:Operand}{u ty:TypeId}{dst:Option Tmp}{pos:String}{af:Array Edge}{gd:Option (Nat×Bool)}(hcm:qX op=true)(ho:zo C.P t=true){b o:Nat}{l:List AV}{e:TypeId}(hx:V ρ w (.ptr b o) (a.eval x))(hy:V ρ w (.ptr b o) (a.eval y))
 (hb:s.hp.at b=some (.cells l e)) {op':Oper} (hop:op'=⟨dst,.binOp op t x y u,ty,pos,af,gd⟩) :
 ck C a.eval op' ρ s.hp w ⟨.bool (!(op == .neq)),s.hp,[]⟩:=by
 subst hop;unfold zo at ho;split at ho
 . rename_i te hu;obtain⟨j,hj⟩:∃j,C.P.info? te=some j:=by
    unfold jj at ho;split at ho
    . exact⟨_,‹_›⟩
    . cases ho
   obtain⟨c,d,cs,fr,e1,hρ,_⟩:=rp r.mem hb hx;obtain⟨c',d',cs',fr',e2,hρ',_⟩:=rp r.mem hb hy;rw[hρ]at hρ';cases hρ';have hE:(Op.equal t (a.eval x) (a.eval y)).run C.P w = .ok true w:=by
    rw[e1,e2];have h:∀d':Nat,(Op.equalIn (d'+1) t (.pointer (some ⟨c,o+d,none⟩)) (.pointer (some ⟨c,o+d,none⟩))).run C.P w = .ok true w:=fun d'=>by
     simp[Op.equalIn,bS hu,sizeOf,typeInfo,hj,run_sameAddr_same]
    exact h 9999
   have hg:(eqGuard op t x y (a.eval x) (a.eval y)).run C.P w = .ok () w:=by
    rw[e1,e2];exact rk (by rintro⟨h,_⟩;cases h) (by rintro _ _ ⟨h,_⟩;cases h)
   refine ck.val (v':=.bool (!(op == .neq))) (w':=w) ?_ (gZ r.mem (.bool _));have hn:pn (a.eval x)=false:=by rw[e1];rfl
   cases op <;> simp only[qX,Bool.false_eq_true]at hcm
   . simp[execOp,hg,binOp_eql hn,hE]
   . simp[execOp,hg,binOp_neq hn,hE]
 . cases ho
theorem Qt (r:Rel C ρ s a w){src dst t:TypeId}{i:TypeInfo}{x:Operand}(hs:C.P.underlying src=some (.pointer t))(hd:C.P.underlying dst=some .unsafePointer)(hi:C.P.info? t=some i)(hsz:¬i.size=0)
 {b o:Nat} {l:List AV} {e:TypeId} (hx:V ρ w (.ptr b o) (a.eval x)) (hb:s.hp.at b=some (.cells l e)) (hin:o<l.length) {op:Oper} (ho:op.op = .convert src dst x) :
 ck C a.eval op ρ s.hp w ⟨.ptr b o,s.hp,[]⟩:=by
 obtain⟨dd,oo,ty,pos,af,gd⟩:=op;simp only at ho;subst ho;obtain⟨c,d,cs,fr,e1,hρ,h2,h3,_⟩:=rp r.mem hb hx;have hrun:=Lib.run_to_unsafe (P:=C.P) w (src:=src) (dst:=dst) ⟨c,o+d,none⟩ hs hd hi hsz (Ae h2) (by have:=h3.1;show o+d<cs.size;omega);exact ck.val (v':=a.eval x) (w':=w) (by rw[e1];simp[execOp,e1,hrun]) (gZ r.mem hx)
theorem Qu (r:Rel C ρ s a w){src dst u:TypeId}{i:TypeInfo}{x:Operand}(hs:C.P.underlying src=some .unsafePointer)(hd:C.P.underlying dst=some (.pointer u))(hi:C.P.info? u=some i)(hex:jj C.P u=true)
 (hlie:liesAt C.P C.P.depth u (C.P.cellsOf u/C.P.cellsOf u) 0 u 1=true) {b:Nat} {l:List AV} (hx:V ρ w (.ptr b 0) (a.eval x)) (hb:s.hp.at b=some (.cells l u)) (hl:l.length=C.P.cellsOf u) {op:Oper} (ho:op.op = .convert src dst x) :
 ck C a.eval op ρ s.hp w ⟨.ptr b 0,s.hp,[]⟩:=by
 obtain⟨dd,oo,ty,pos,af,gd⟩:=op;simp only at ho;subst ho;obtain⟨c,d,cs,fr,e1,hρ,h2,h3,_⟩:=rp r.mem hb hx;obtain⟨rfl,h4⟩:=h3.2 hex;have hrun:=Lib.run_from_unsafe (P:=C.P) w (src:=src) (dst:=dst) ⟨c,0+0,none⟩ hs hd hi (Ae h2) (by rw[←h4,hl];exact hlie);exact ck.val (v':=a.eval x) (w':=w) (by rw[e1];simp[execOp,e1,hrun]) (gZ r.mem hx)
theorem Qv (r:Rel C ρ s a w){t u ty:TypeId}{x n:Operand}{dst:Option Tmp}{pos:String}{af:Array Edge}{gd:Option (Nat×Bool)}{kk:IntKind}(hx:V ρ w .du (a.eval x))(hn:V ρ w (.int kk 0) (a.eval n)) :
 ck C a.eval ⟨dst,.call ⟨.builtin .unsafeString,[x,n].toArray,[t,u].toArray⟩,ty,pos,af,gd⟩ ρ s.hp w ⟨.str [],s.hp,[]⟩:=by
 have e1:=hn.fY;generalize hxv:a.eval x=xv at hx;cases hx;refine ck.val (v':=.string .empty) (w':=w) ?_ (gZ r.mem (V.str []));rw[gI];have hmax:IntKind.i64.max=9223372036854775807:=rfl;have hdef:Builtin.unsafeString_ [t,u].toArray ty #[.pointer none,.int kk 0] =
  (do
    let n ←asInt (.int kk 0)
    if n < 0 then runtimePanic (.error "unsafe.String: len out of range")
    if n > IntKind.i64.max then unsupported (.unsafePointer "String: a length above the largest int")
    if n=0 then pure (.string .empty)
    else runtimePanic (.error "unsafe.String: ptr is nil and len is not zero")) := rfl
 have hrun:(Builtin.unsafeString_ [t,u].toArray ty #[.pointer none,.int kk 0]).run C.P w = .ok (.string .empty) w:=by
  rw[hdef];simp[asInt,asIntOf,hmax]
 simp only[builtin,List.map_toArray,List.map_cons,List.map_nil,Sem.run_bind,hxv,e1,hrun];rfl
theorem Qw {P:Program}(hc:P.cellsOf e=1)(count off n:Nat)(hn:off+n<=count):liesAt P P.depth e count off e n=true:=by
 have hd:P.depth=(2*(P.types.size+Made.depth)+1)+1:=rfl;rw[hd];simp only[liesAt,Bool.or_eq_true];left;rw[hd];simp[rowAt,hc,hn,sameLayout,Nat.mod_one]
theorem Gg {P:Program}(w:World):∀(l:List Int) (a:Addr) (acc:ByteArray),(∀(j:Nat) x,l[j]? = some x->w.cell? (a.add j)=some (.int .u8 x)) ->
 (loadBytes a acc l.length).run P w = .ok ⟨acc.data++(l.map fun z=>UInt8.ofNat z.toNat).toArray⟩ w
 | [],a,acc,_=>by simp[loadBytes]
 | x::l,a,acc,h=>by
  have h0:w.cell? a=some (.int .u8 x):=by
   have:=h 0 x rfl;simpa[Addr.add] using this
  have ih:=Gg (P:=P) w l (a.add 1) (acc.push x.toNat.toUInt8) (fun j y hy=>by
   have:=h (j+1) y (by simpa using hy);have e:(a.add 1).add j=a.add (j+1):=by
    unfold Addr.add;by_cases hj:j=0
    . subst hj;simp
    . simp[hj];omega
   rw[e];exact this)
  simp only[List.length_cons,loadBytes,Sem.run_bind,run_load,h0,Result.andThen];rw[ih];congr 1;apply ByteArray.ext;simp[ByteArray.push]
theorem Qx {c o n:Nat}{cs:Array Value}{fr:Nat×Nat}(h:w.heap[c]? = some (.cells cs e fr))(hn:n≠0) :
 ∃fr',w.freeze ⟨c,o,none⟩ n=w.di c (.cells cs e fr'):=by
 obtain⟨lo,hi⟩:=fr;have hlt:=(Array.getElem?_eq_some_iff.1 h).1;refine⟨if lo == hi then (o,o+n) else (min lo o,max hi (o+n)),?_⟩;unfold World.freeze World.di;rw[if_neg hn];congr 1;apply Array.ext_getElem?;intro i;rw[Array.getElem?_modify,Array.getElem?_setIfInBounds];by_cases hi':c=i
 . subst hi';rw[if_pos rfl,if_pos rfl,h,if_pos hlt];rfl
 . rw[if_neg hi',if_neg hi']
theorem Qy (r:Rel C ρ s a w){t u ty e:TypeId}{x n:Operand}{dst:Option Tmp}{pos:String}{af:Array Edge}{gd:Option (Nat×Bool)}{kk:IntKind}{k:Int}(hu:C.P.underlying t=some (.pointer e))(hce:C.P.cellsOf e=1)
 {b o:Nat} (hx:V ρ w (.ptr b o) (a.eval x)) (hn:V ρ w (.int kk k) (a.eval n)) (hk:0<k) (hk':k<=2^46) {l:List AV} (hb:s.hp.at b=some (.cells l e)) {c:List AV} (hcut:cut l o k.toNat=some c) {t':List UInt8} (hbo:bytesOf c=some t') :
 ck C a.eval ⟨dst,.call ⟨.builtin .unsafeString,[x,n].toArray,[t,u].toArray⟩,ty,pos,af,gd⟩ ρ s.hp w ⟨.str t',s.hp.put b none,[b]⟩:=by
 obtain⟨h0,_⟩:=kT r.mem hb;obtain⟨cb,d,cs,fr,e1,hρ,h2,h3,h5⟩:=rp r.mem hb hx;have e2:=hn.fY;obtain⟨m,rfl⟩:=Int.eq_ofNat_of_zero_le (Int.le_of_lt hk);rw[Int.toNat_natCast]at hcut;unfold cut at hcut;simp only at hcut;split at hcut
 . rename_i hlen;cases hcut;have hm:o+m<=l.length:=by simp at hlen;omega
   have hm0:m≠0:=by omega
   have hsz:o+d+m<=cs.size:=by have:=h3.1;omega
   have hVL:VL ρ w ((l.drop o).take m) ((cs.toList.drop (o+d)).take m):=by
    refine⟨by simp;omega,fun i x y hx hy=>?_⟩;rw[List.getElem?_take]at hx hy;split at hx
    . rename_i hi;rw[if_pos hi,List.getElem?_drop]at hy;rw[List.getElem?_drop]at hx;refine h5 (o+i) x y hx ?_;rw[show o+i+d=o+d+i from by omega];simpa using hy
    . cases hx
   obtain⟨ns,hns,rfl⟩:=Ad _ _ _ hbo hVL;have hnl:ns.length=m:=by
    have:=congrArg List.length hns;simp at this;omega
   have hcell:∀(j:Nat) z,ns[j]? = some z->w.cell? ((⟨cb,o+d,none⟩:Addr).add j)=some (.int .u8 z):=by
    intro j z hz;have hj:j<m:=by have:=(List.getElem?_eq_some_iff.1 hz).1;omega
    have h7:((cs.toList.drop (o+d)).take m)[j]? = some (.int .u8 z):=by rw[hns];simp[hz]
    rw[List.getElem?_take,if_pos hj,List.getElem?_drop]at h7;rw[Addr.gH];unfold World.cell?;simp only[h2];rw[if_neg (by simp)];simpa using h7
   have hlb:=Gg (P:=C.P) w ns ⟨cb,o+d,none⟩ .empty hcell;rw[hnl]at hlb;have hlie:=Qw (P:=C.P) hce (cs.size/C.P.cellsOf e) (o+d) m (by rw[hce,Nat.div_one];exact hsz);obtain⟨fr',hfr⟩:=Qx (o:=o+d) h2 hm0;have hrun:(Builtin.unsafeString_ [t,u].toArray ty #[.pointer (some ⟨cb,o+d,none⟩),.int kk m]).run C.P w = .ok (.string ⟨(ns.map fun z=>UInt8.ofNat z.toNat).toArray⟩) (w.di cb (.cells cs e fr')):=by
    have hmax:IntKind.i64.max=9223372036854775807:=rfl;have h63:¬(9223372036854775807:Int)<(m:Int):=by omega
    have hneg:¬(m:Int)<0:=by omega
    have hdef:Builtin.unsafeString_ [t,u].toArray ty #[.pointer (some ⟨cb,o+d,none⟩),.int kk m] =
     (do
       let n ←asInt (.int kk m)
       if n < 0 then runtimePanic (.error "unsafe.String: len out of range")
       if n > IntKind.i64.max then unsupported (.unsafePointer "String: a length above the largest int")
       if n=0 then pure (.string .empty)
       else if ←variablesAt ⟨cb,o+d,none⟩ (←elemOf t) n.toNat then do
        let s ←loadBytes ⟨cb,o+d,none⟩ .empty n.toNat
        freeze ⟨cb,o+d,none⟩ n.toNat
        pure (.string s)
       else unsupported (.unsafePointer "String: not so many bytes at ptr")) := rfl
    rw[hdef];simp[asInt,asIntOf,hmax,h63,hneg,hm0,variablesAt,Ae h2,elemOf,bS hu,hlie,hlb,hfr]
   have hO:∀cs0 e0 fr0,w.heap[cb]? = some (.cells cs0 e0 fr0)->∃cs' fr'',Obj.cells cs e fr' = .cells cs' e0 fr''/\cs'.size=cs0.size:=by
    intro cs0 e0 fr0 hq;rw[h2]at hq;cases hq;exact⟨_,_,rfl,rfl⟩
   refine ck.val (v':=.string ⟨(ns.map fun z=>UInt8.ofNat z.toNat).toArray⟩) (w':=w.di cb (.cells cs e fr')) ?_
    ⟨ρ,V.str _,Mem.write r.mem h0 hρ none _ hO (by rintro _ ⟨⟩),Ext.write r.mem h0 hρ none _ hO⟩
   rw[gI];simp only[builtin,List.map_toArray,List.map_cons,List.map_nil,Sem.run_bind,e1,e2,hrun];rfl
 . cases hcut
theorem Qz (r:Rel C ρ s a w){o:Oper}{io:aZ}(hc:iM C o=some io)(hh:io.bG=true){q:HR}(hq:bB s io s.hp=some q):ck C a.eval o ρ s.hp w q:=by
 obtain⟨dst,op,ty,pos,af,gd⟩:=o;cases op <;> simp only[iM]at hc
 case move x=>simp only[Option.map_eq_some_iff]at hc;obtain⟨y,h1,rfl⟩:=hc;cases hh
 case assign x=>simp only[Option.map_eq_some_iff]at hc;obtain⟨y,h1,rfl⟩:=hc;cases hh
 case pick c x y=>split at hc <;> first|(cases hc;done)|(cases hc;cases hh)
 case nilCheck x=>simp only[Option.map_eq_some_iff]at hc;obtain⟨y,h1,rfl⟩:=hc;cases hh
 case unOp=>simp only[Option.map_eq_some_iff]at hc;obtain⟨y,h1,rfl⟩:=hc;cases hh
 case extract=>simp only[Option.map_eq_some_iff]at hc;obtain⟨y,h1,rfl⟩:=hc;cases hh
 case makeFunc=>
                  repeat' (first|(cases hc;done)|split at hc)
                  all_goals (cases hc;cases hh)
 case makeInterface=>split at hc <;> first|(cases hc;done)|(simp only[Option.map_eq_some_iff]at hc;obtain⟨y,h1,rfl⟩:=hc;cases hh)
 case build=>
               repeat' (first|(cases hc;done)|split at hc)
               all_goals (simp only[Option.map_eq_some_iff]at hc;obtain⟨y,h1,rfl⟩:=hc;cases hh)
 case binOp op t x y u=>
  split at hc
  . rename_i x' y' h1 h2;split at hc
    . split at hc
      . rename_i hcmp hown;cases hc;simp only[bB]at hq;split at hq
        . rename_i b o b' o' h3 h4;split at hq
          . rename_i l e hb;split at hq
            . rename_i hcond;obtain⟨rfl,rfl⟩:=hcond;cases hq;exact Qs r (by simp only[Bool.and_eq_true,Bool.not_eq_true']at hcmp;exact hcmp.1) (by simp only[Bool.and_eq_true]at hown;exact hown.1) (r.aa h1 h3) (r.aa h2 h4) hb rfl
            . cases hq
          . cases hq
        . cases hq
      . split at hc
        . cases hc
        . simp only[Option.map_eq_some_iff]at hc;obtain⟨y,h1,rfl⟩:=hc;cases hh
    . cases hc;cases hh
  . cases hc
 case fieldAddr=>
                   repeat' (first|(cases hc;done)|split at hc)
                   all_goals (cases hc;cases hh)
 case field=>
               repeat' (first|(cases hc;done)|split at hc)
               all_goals (cases hc;cases hh)
 case indexAddr=>
                   repeat' (first|(cases hc;done)|split at hc)
                   all_goals (cases hc;cases hh)
 case index=>
               repeat' (first|(cases hc;done)|split at hc)
               all_goals (cases hc;cases hh)
 case alloc e=>
  split at hc
  . rename_i z hz;simp only[Option.map_eq_some_iff]at hc;obtain⟨zc,h1,rfl⟩:=hc;simp only[bB,Option.some.injEq]at hq;subst hq;exact Qb r (by rw[hz];exact h1) rfl
  . cases hc
 case box e x=>
  split at hc
  . rename_i n ag x' hs hx;cases hc;simp only[bB]at hq;split at hq
    . rename_i l hl;split at hq
      . cases hq;simp only[Option.bind_eq_some_iff]at hl;obtain⟨v,h1,h2⟩:=hl;exact Qa r (r.aa hx h1) h2 rfl
      . cases hq
    . cases hq
  . cases hc
 case buildSlice t len ps=>
  split at hc
  . rename_i e n bb he;split at hc
    . rename_i z l hz hl;split at hc
      . rename_i hcond;cases hc;simp only[bB]at hq;split at hq
        . rename_i vs hvs;split at hq
          . rename_i l' hl';split at hq
            . rename_i hlen;cases hq;exact PY r he hz hl hcond.2.2 hcond.2.1 hcond.1 hvs hl' hlen rfl
            . cases hq
          . cases hq
        . cases hq
      . cases hc
    . cases hc
  . cases hc
 case load t x=>
  split at hc
  . rename_i n ag x' hs hx;cases hc;simp only[bB]at hq;split at hq
    . rename_i l hl;split at hq
      . rename_i v hv;cases hq;simp only[Option.bind_eq_some_iff]at hl;obtain⟨u,h1,h2⟩:=hl;exact Qc r hs (r.aa hx h1) h2 hv rfl
      . cases hq
    . cases hq
  . cases hc
 case store t x y=>
  split at hc
  . rename_i n ag x' y' hs hx hy;cases hc;simp only[bB]at hq;split at hq
    . rename_i b off new h1 h2;split at hq
      . rename_i l el hb;split at hq
        . rename_i hcond;cases hq;simp only[Option.bind_eq_some_iff]at h2;obtain⟨u,h3,h4⟩:=h2;exact Qd r hs (r.aa hx h1) (r.aa hy h3) h4 hb hcond.1 hcond.2.1 hcond.2.2 rfl
        . cases hq
      . cases hq
    . cases hq
  . cases hc
 case convert src dst x=>
  split at hc <;> try (cases hc;done)
  . cases hc;cases hh
  . cases hc;cases hh
  . cases hc;cases hh
  . rename_i e x' hs hd hx;split at hc
    . rename_i he;split at hc
      . cases hc
      . rename_i hne;cases hc;simp only[bB]at hq;split at hq
        . rename_i t h1;cases hq;exact Qr r hs hd he hne (r.aa hx h1) rfl
        . cases hq
    . cases hc
  . rename_i e x' hs hd hx;split at hc
    . rename_i he;cases hc;simp only[bB]at hq;split at hq
      . cases hq
      . rename_i y hns h1;split at hq
        . rename_i l n hl;split at hq
          . rename_i hln;split at hq
            . rename_i t ht;cases hq;exact Qk r hs hd he (r.aa hx h1) (fun t e=>hns t e) hl hln ht rfl
            . cases hq
          . cases hq
        . cases hq
      . cases hq
    . cases hc
  . rename_i t x' hs hd hx;split at hc
    . rename_i i hi;split at hc
      . cases hc
      . rename_i hsz;cases hc;simp only[bB]at hq;split at hq
        . rename_i b o h1;split at hq
          . rename_i l e hb;split at hq
            . rename_i hcond;cases hq;exact Qt r hs hd hi hsz (r.aa hx h1) hb hcond.1 rfl
            . cases hq
          . cases hq
        . cases hq
    . cases hc
  . rename_i u x' hs hd hx;split at hc
    . rename_i i hi;split at hc
      . rename_i hlie;cases hc;simp only[bB]at hq;split at hq
        . rename_i b o h1;split at hq
          . rename_i l e hb;split at hq
            . rename_i hcond;cases hq;simp only[decide_eq_true_eq]at hcond;obtain⟨_,rfl,rfl,hl⟩:=hcond;simp only[Bool.and_eq_true]at hlie;exact Qu r hs hd hi hlie.1 hlie.2 (r.aa hx h1) hb hl rfl
            . cases hq
          . cases hq
        . cases hq
      . cases hc
    . cases hc
 case makeMap t res=>
  cases res with
  | some _=>cases hc
  | none=>
   cases hc;simp only[bB,Option.some.injEq]at hq;subst hq;exact Qg r rfl
 case makeSlice t l c=>
  split at hc
  . rename_i e n bb l' c' he hl hcc;split at hc
    . rename_i z hz;split at hc
      . rename_i hcond;cases hc;simp only[bB]at hq;split at hq
        . rename_i x y h1 h2;split at hq
          . rename_i hk;cases hq;simp only[Option.bind_eq_some_iff]at h1 h2;obtain⟨u,h3,h4⟩:=h1;obtain⟨u',h5,h6⟩:=h2;cases u <;> simp only[qK,reduceCtorEq,Option.some.injEq]at h4;cases u' <;> simp only[qK,reduceCtorEq,Option.some.injEq]at h6;subst h4;subst h6;exact PZ r he hz hcond.1 hcond.2 (r.aa hl h3).fY (r.aa hcc h5).fY hk.1 hk.2.1 hk.2.2.1 hk.2.2.2.1 rfl
          . cases hq
        . cases hq
      . cases hc
    . cases hc
  . cases hc
 case slice t x lo hi mx=>
  split at hc <;> try (cases hc;done)
  . cases hc;cases hh
  . split at hc
    . cases hc;cases hh
    . cases hc
  . rename_i n e x' l' h' hu hx hlo hhi hmx;split at hc
    . rename_i i hi';cases hc;have hmx0:mx=none:=by
       cases mx with
       | none=>rfl
       | some m=>simp[lW]at hmx
      subst hmx0;simp only[bB]at hq;split at hq
      . rename_i b o la ha h1 h2 h3;split at hq
        . rename_i l el hb;split at hq
          . rename_i hin;split at hq
            . rename_i hb' hbb;split at hq
              . rename_i ll hll;cases hq;exact Qo r hu hi' (r.aa hx h1) hb hin (nt r hlo h2) (nt r hhi h3) hbb hll rfl
              . cases hq
            . cases hq
          . cases hq
        . cases hq
      . cases hq
    . cases hc
 case lookup t x i ok=>
  split at hc
  . rename_i kt et x' i' hu hx hi;split at hc
    . rename_i k z hk hz;cases hc;simp only[bB]at hq;split at hq
      . rename_i m kv h1 h2;split at hq
        . rename_i bC;split at hq
          . rename_i es hes;split at hq
            . rename_i q' hf;cases hq;have hes':m = .dU/\es=[]\/∃b,m = .map b/\s.hp.at b=some (.map es):=by
               split at hes
               . cases hes;exact .inl ⟨rfl,rfl⟩
               . split at hes
                 . rename_i b _ es' hb;cases hes;exact .inr ⟨b,rfl,hb⟩
                 . cases hes
               . cases hes
              have:=Qf r hu hk hz (r.aa hx h1) (r.aa hi h2) bC hes' hf (ok:=ok) (o:=⟨dst,.lookup t x i ok,ty,pos,af,gd⟩) rfl;cases q' <;> exact this
            . cases hq
          . cases hq
        . cases hq
      . cases hq
    . cases hc
  . cases hc
 case mapUpdate t m i x=>
  split at hc
  . rename_i kt et m' i' x' hu hm hi hx;simp only[Option.map_eq_some_iff]at hc;obtain⟨k,hk,rfl⟩:=hc;simp only[bB]at hq;split at hq
    . rename_i b kv v h1 h2 h3;split at hq
      . rename_i bC;split at hq
        . rename_i es hb;split at hq
          . rename_i j u hf;cases hq;exact tW r hu hk (r.aa hm h1) (r.aa hi h2) (r.aa hx h3) bC hb hf (.inl rfl)
          . rename_i hf;cases hq;exact tW r hu hk (r.aa hm h1) (r.aa hi h2) (r.aa hx h3) bC hb hf (.inl rfl)
          . cases hq
        . cases hq
      . cases hq
    . cases hq
  . cases hc
 case insert t m i x=>
  split at hc
  . rename_i kt et m' i' x' hu hm hi hx;simp only[Option.map_eq_some_iff]at hc;obtain⟨k,hk,rfl⟩:=hc;simp only[bB]at hq;split at hq
    . rename_i b kv v h1 h2 h3;split at hq
      . rename_i bC;split at hq
        . rename_i es hb;split at hq
          . rename_i j u hf;cases hq;exact tW r hu hk (r.aa hm h1) (r.aa hi h2) (r.aa hx h3) bC hb hf (.inr rfl)
          . rename_i hf;cases hq;exact tW r hu hk (r.aa hm h1) (r.aa hi h2) (r.aa hx h3) bC hb hf (.inr rfl)
          . cases hq
        . cases hq
      . cases hq
    . cases hq
  . cases hc
 case range t x=>
  split at hc
  . rename_i x' hu hx;cases hc;simp only[bB]at hq;split at hq
    . rename_i u h1;cases hq;exact Qh r hu (r.aa hx h1) rfl
    . cases hq
  . cases hc
 case next x st=>
  cases st with
  | false=>cases hc
  | true=>
   simp only[Option.map_eq_some_iff]at hc;obtain⟨x',hx,rfl⟩:=hc;simp only[bB]at hq;split at hq
   . rename_i b h1;split at hq
     . rename_i t pos hb;have:=Qi r (r.aa hx h1) hb (o:=⟨dst,.next x true,ty,‹String›,af,gd⟩) rfl;split at hq
       . rename_i hp;cases hq;rw[if_pos hp]at this;exact this
       . rename_i hp;cases hq;rw[if_neg hp]at this;exact this
     . cases hq
   . cases hq
 case call c=>
  obtain⟨callee,args,ats⟩:=c;cases callee with
  | value f=>
   simp only at hc;split at hc
   . cases hc;simp[bB]at hq
   . cases hc
  | invoke x name=>
   simp only at hc;split at hc
   . cases hc;simp[bB]at hq
   . cases hc
  | builtin b=>
   simp only at hc;split at hc <;> try (cases hc;done)
   . rename_i t x h1 h2;obtain rfl:=gY h1;obtain⟨x0,hx0,h3⟩:=po h2;obtain rfl:=gY hx0;split at hc
     . cases hc;cases hh
     . rename_i kt et hu;cases hc;simp only[bB]at hq;split at hq
       . rename_i b' h4;split at hq
         . rename_i es he;cases hq;have hl:=Gd r hu (ty:=ty) (r.aa h3 h4) (.inr ⟨b',es,rfl,he,rfl⟩);refine ck.val (v':=.int .i64 es.length) (w':=w) ?_ (gZ r.mem (.int _ _));rw[gI];simp[builtin,hl]
         . cases hq
       . rename_i h4;cases hq;have hl:=Gd r hu (ty:=ty) (r.aa h3 h4) (.inl ⟨rfl,rfl⟩);refine ck.val (v':=.int .i64 0) (w':=w) ?_ (gZ r.mem (.int _ _));rw[gI];simp only[builtin,List.map_toArray,List.map_cons,List.map_nil,Sem.run_bind,hl];rfl
       . cases hq
     . cases hc;cases hh
     . cases hc;cases hh
     . cases hc
   . split at hc <;> first|(cases hc;done)|(cases hc;cases hh)
   . rename_i t u x y h1 h2;obtain rfl:=gY h1;obtain⟨x0,x1,hx0,h3,h4⟩:=zM h2;obtain rfl:=gY hx0;have fin:∀e n bb,iL C.P t=some (e,n,bb)->((∃e,C.P.underlying u=some (.slice e))\/C.P.underlying u=some .string)->tE C.P e n=true->jj C.P e=false->io = .append e n bb x y ->
      ck C a.eval ⟨dst,.call ⟨.builtin .append,[x0,x1].toArray,[t,u].toArray⟩,ty,pos,af,gd⟩ ρ s.hp w q:=by
      rintro e n bb he hu hzf hne rfl;simp only[bB]at hq;split at hq
      . rename_i xa ya hx hy;obtain⟨i,hu0,hi,rfl,rfl⟩:=mh he;unfold tE at hzf;split at hzf
        . rename_i z hz;obtain⟨i',zv,hi',hzv,hzl,_⟩:=rn hz;rw[hi]at hi';cases hi';have hzs:zv.cells.size=i.size:=by
           have e1:=(hzl ρ w).toList;rw[←e1];simpa using hzf
          obtain⟨v',w',g1,g2⟩:=PX (ty:=ty) r.mem ⟨hu0,hu,hi,hzv,hzs⟩ (r.aa h3 hx) (r.aa h4 hy) hne hq;refine ck.val (v':=v') (w':=w') ?_ g2;rw[gI];simp[builtin,g1]
        . cases hzf
      . cases hq
     split at hc <;> try (cases hc;done)
     . rename_i e n bb he hu;split at hc
       . rename_i hcond;cases hc;exact fin _ _ _ he (.inr hu) hcond.2.1 hcond.2.2 rfl
       . cases hc
     . rename_i e n bb e' he hu;split at hc
       . rename_i hcond;cases hc;exact fin _ _ _ he (.inl ⟨_,hu⟩) hcond.2.1 hcond.2.2 rfl
       . cases hc
   . rename_i t u x y h1 h2;obtain rfl:=gY h1;obtain⟨x0,x1,hx0,h3,h4⟩:=zM h2;obtain rfl:=gY hx0;split at hc <;> try (cases hc;done)
     rename_i e n bb he;split at hc <;> try (cases hc;done)
     rename_i hn0;cases hc;simp only[bB]at hq;split at hq <;> try (cases hq;done)
     . rename_i b off len e' cap ya hx hy;split at hq <;> try (cases hq;done)
       rename_i src k hsrc;split at hq <;> try (cases hq;done)
       rename_i hcond;obtain⟨rfl,hl,hone⟩:=hcond;split at hq <;> try (cases hq;done)
       rename_i l el hb;split at hq <;> try (cases hq;done)
       rename_i hin;cases hq;obtain⟨w',g1,g2⟩:=Ql (u:=u) (ty:=ty) r he (r.aa h3 hx) (r.aa h4 hy) hsrc hl hone rfl hb hin;refine ck.val (v':=.int .i64 ((min k len:Nat):Int)) (w':=w') ?_ g2;rw[gI];simp only[builtin,List.map_toArray,List.map_cons,List.map_nil,Sem.run_bind,g1];rfl
     . rename_i ya hx hy;split at hq <;> try (cases hq;done)
       rename_i src k hsrc;split at hq <;> try (cases hq;done)
       rename_i hl;cases hq;have e0:=(r.aa h3 hx);generalize hxv:a.eval x0=xv at e0;cases e0;have g1:=Qn (u:=u) (ty:=ty) r he (r.aa h4 hy) hsrc hl;refine ck.val (v':=.int .i64 0) (w':=w) ?_ (gZ r.mem (.int _ _));rw[gI];simp only[builtin,List.map_toArray,List.map_cons,List.map_nil,Sem.run_bind,hxv,g1];rfl
   . rename_i t x h1 h2;obtain rfl:=gY h1;obtain⟨x0,hx0,h3⟩:=po h2;obtain rfl:=gY hx0;split at hc <;> try (cases hc;done)
     rename_i e n bb he;split at hc <;> try (cases hc;done)
     rename_i z hz;split at hc <;> try (cases hc;done)
     rename_i hzn;cases hc;simp only[bB]at hq;split at hq <;> try (cases hq;done)
     . rename_i b off len e' cap hx;split at hq <;> try (cases hq;done)
       rename_i hcond;obtain⟨rfl,hone,_,hlen⟩:=hcond;split at hq <;> try (cases hq;done)
       rename_i l el hb;split at hq <;> try (cases hq;done)
       rename_i hin;cases hq;obtain⟨w',g1,g2⟩:=Qm (ty:=ty) r he hz hzn.1 hone (r.aa h3 hx) hb hlen hin;refine ck.val (v':=.tuple #[]) (w':=w') ?_ g2;rw[gI];simp only[builtin,List.map_toArray,List.map_cons,List.map_nil,Sem.run_bind,g1];rfl
     . rename_i cap hx;cases hq;obtain⟨i,hu,_⟩:=mh he;have e0:=r.aa h3 hx;generalize hxv:a.eval x0=xv at e0;have g1:(Builtin.clear_ #[t] ty #[xv]).run C.P w = .ok (.tuple #[]) w:=by
        cases e0 <;> exact Gf hu
       refine ck.val (v':=.tuple #[]) (w':=w) ?_ (gZ r.mem (.im .nil));rw[gI];simp only[builtin,List.map_toArray,List.map_cons,List.map_nil,Sem.run_bind,hxv,g1];rfl
     . rename_i hx;cases hq;obtain⟨i,hu,_⟩:=mh he;have e0:=r.aa h3 hx;generalize hxv:a.eval x0=xv at e0;have g1:(Builtin.clear_ #[t] ty #[xv]).run C.P w = .ok (.tuple #[]) w:=by
        cases e0 <;> exact Gf hu
       refine ck.val (v':=.tuple #[]) (w':=w) ?_ (gZ r.mem (.im .nil));rw[gI];simp only[builtin,List.map_toArray,List.map_cons,List.map_nil,Sem.run_bind,hxv,g1];rfl
   . split at hc <;> first|(cases hc;done)|(cases hc;cases hh)
   . rename_i t u x n h1 h2;obtain rfl:=gY h1;obtain⟨x0,x1,hx0,h3,h4⟩:=zM h2;obtain rfl:=gY hx0;split at hc <;> try (cases hc;done)
     rename_i e hu;split at hc <;> try (cases hc;done)
     rename_i hce;cases hc;simp only[bB]at hq;split at hq <;> try (cases hq;done)
     . rename_i kk k h5 h6;split at hq <;> try (cases hq;done)
       rename_i hk;subst hk;cases hq;exact Qv r (r.aa h3 h5) (r.aa h4 h6)
     . rename_i b o kk k h5 h6;split at hq <;> try (cases hq;done)
       rename_i hk;split at hq <;> try (cases hq;done)
       rename_i l el hb;split at hq <;> try (cases hq;done)
       rename_i hel;subst hel;split at hq <;> try (cases hq;done)
       rename_i c hcut;split at hq <;> try (cases hq;done)
       rename_i t' hbo;cases hq;exact Qy r hu hce (r.aa h3 h5) (r.aa h4 h6) hk.1 hk.2 hb hcut hbo
   . cases hc;cases hh
   . cases hc;cases hh
 case typeAssert x xt t ok=>
  split at hc
  . cases hc
  . split at hc
    . cases hc;cases hh
    . cases hc
  . cases hc
 all_goals (cases hc)
end Go.Ab

/-
  Own work: a call of a function value, what is asked of it, and one operation of a region walked.
-/
namespace Go.Ab
variable {P:Program} {gl:Nat->Option AV} {ρ:au} {w:World} {h:ab} {C:Cx} {s:St} {a:Act}
def FR (ro:Option Nat):Fence:={ fn:=fun _=>True,depth:=none,alive:=false,round:=ro }
def jl (P:Program)(nx:Next)(w1:World)(R:Value->World->Prop):Prop:=
 match nx with
 | .value v=>R v w1
 | .enter f args=>CallsIn Fence.wide 0 P f args w1 fun
   | .returned v,w'=>R v w'
   | _,_=>False
 | .round l f tmps as bd=>RoundIn Fence.wide 0 P l f tmps as bd w1 fun
   | .returned v,w'=>R v w'
   | _,_=>False
 | _=>False
def nw (g':Value)(as':Array Value):Sem Next:=do
 let d ←Deferred.ofValue g' as'
 invoke d.target d.args
def fo (h:ab)(r:HR):Prop:=h.length<=r.h.length/\∀b,b<h.length->b∉r.wr->r.h[b]? = h[b]?
structure mn (P:Program)(gl:Nat->Option AV)(call:dM):Prop where
 wr:∀g as h r,call g as h=some r->fo h r
 ok:∀g as h r,call g as h=some r->∀ρ w g' (as':List Value),Mem P gl ρ h w->V ρ w g g'->VL ρ w as as' ->
  ∃nx w1,(nw g' as'.toArray).run P w = .ok nx w1/\jl P nx w1 fun v w'=>dY P gl ρ h w r v w'
theorem Gh {ro:Option Nat}{o:Oper}{a:Act}{next:Act->World->Prop}{Q:Exit->Act->World->Prop}{nx:Next}{w1:World}{R:Value->World->Prop}
 (h:jl P nx w1 R) (hn:∀v w',R v w'->next (a.put o.dst v) w'):o.uponIn (FR ro) 0 P a next Q (.ok nx w1):=by
 cases nx <;> simp only[jl]at h
 case value v=>exact hn _ _ h
 case enter f args=>
  refine⟨fun hd=>(by cases hd),CallsIn.mono (F:=Fence.wide) (n:=0) h ?_⟩;intro e w' he;cases e with
  | returned v=>exact hn _ _ he
  | panicked _=>exact he.elim
  | outgrown=>exact he.elim
 case round l f tmps as bd=>
  refine⟨fun hd=>(by cases hd),RoundIn.mono (F:=Fence.wide) (n:=0) h ?_⟩;intro e w' he;cases e with
  | returned v=>exact hn _ _ he
  | panicked _=>exact he.elim
  | outgrown=>exact he.elim
theorem QA {t:TypeId}{name:String}{f:FuncId}(h:eK P t name=some f)(n:Nat)(v:Value):(method (n+1) t v name).run P w = .ok (f,v) w:=by
 unfold eK at h;split at h
 . rename_i i u hi hu;split at h
   . rename_i m hm;rw[Array.find?_toList]at hm;split at h
     . rename_i f' ptr hf hp;have hp':m.path.isEmpty=true:=by
        cases hq:m.path with|mk l=>rw[hq]at hp;simp at hp;subst hp;rfl
       unfold method;simp only[Sem.run_bind,tM hi,Result.andThen_ok,hm,hp,follow,Sem.run_pure,hf];split at h
       . rename_i e;cases h;simp[receiverAt,bS hu,Place.get]
       . cases h
       . rename_i hne;cases h;unfold receiverAt;cases u <;> first|(exact absurd rfl (hne _))|simp[bS hu,Place.get]
       . cases h
     . cases h
   . cases h
 . cases h
theorem QB (n:Nat):∃k,n+Made.depth=k+1:=by
 have:0<Made.depth:=by decide
 exact⟨n+Made.depth-1,by omega⟩
theorem Gi (f:FuncId)(args:Array Value)(R:Value->World->Prop):(∃nx w1,(nw (.func (.func f) #[] #[]) args).run P w = .ok nx w1/\jl P nx w1 R)->∃nx w1,(callFunc f args).run P w = .ok nx w1/\jl P nx w1 R:=by
 rintro⟨nx,w1,h1,h2⟩;refine⟨nx,w1,?_,h2⟩;simpa[nw,Deferred.ofValue,invoke] using h1
theorem Gj {call:dM}(hcall:mn C.P C.gl call)(r:Rel C ρ s a w){o:Oper}{io:aZ}(hc:iM C o=some io){q:HR}(hq:bR call (eK C.P) s io=some q){ro:Option Nat}
 {next:Act->World->Prop} {Q:Exit->Act->World->Prop} (hn:∀v' w',dY C.P C.gl ρ s.hp w q v' w'->next (a.put o.dst v') w'):o.wpIn (FR ro) 0 C.P a w next Q:=by
 refine⟨fun _ _=>trivial,?_⟩;have hnd:∀c,o.op≠.defer c:=by
  intro c hd;unfold iM at hc;rw[hd]at hc;cases hc
 rw[Oper.semAt_eq _ _ _ hnd];by_cases hcl:(∃f args,io = .call f args)\/∃x name args,io = .invoke x name args
 . obtain⟨dst,op,ty,pos,af,gd⟩:=o;cases op
   case call c=>
    obtain⟨callee,args,ats⟩:=c;cases callee with
    | value f=>
     simp only[iM]at hc;split at hc
     . rename_i f' as' h1 h2;cases hc;simp only[bR]at hq;split at hq
       . rename_i g as h3 h4;obtain⟨nx,w1,h5,h6⟩:=hcall.ok _ _ _ _ hq ρ w _ _ r.mem (r.aa h1 h3) (r.cH h2 h4);have he:(execOp a.eval ⟨dst,.call ⟨.value f,args,ats⟩,ty,pos,af,gd⟩).run C.P w = .ok nx w1:=by
          have e2:args.map a.eval=(args.toList.map a.eval).toArray:=by rw[←Array.toList_map,Array.toArray_toList]
          simp only[execOp,resolve,e2];exact h5
         rw[he];exact Gh h6 hn
       . cases hq
     . cases hc
    | invoke x name=>
     simp only[iM]at hc;split at hc
     . rename_i x' as' h1 h2;cases hc;simp only[bR]at hq;split at hq
       . rename_i t v as h3 h4;split at hq
         . rename_i f hf;have e1:=r.aa h1 h3;generalize hxv:a.eval x=xv at e1;cases e1 with
           | @iface _ _ v' hv=>
            have e2:args.map a.eval=(args.toList.map a.eval).toArray:=by rw[←Array.toList_map,Array.toArray_toList]
            obtain⟨nx,w1,h5,h6⟩:=hcall.ok _ _ _ _ hq ρ w (.func (.func f) #[] #[]) (v'::args.toList.map a.eval) r.mem (.fn (fi':=[]) (ca':=[]) (by simp) rfl rfl (by simp) (by simp)) (.cons hv (r.cH h2 h4));obtain⟨nx',w1',h7,h8⟩:=Gi f _ _ ⟨nx,w1,h5,h6⟩;have he:(execOp a.eval ⟨dst,.call ⟨.invoke x name,args,ats⟩,ty,pos,af,gd⟩).run C.P w = .ok nx' w1':=by
             obtain⟨k,hk⟩:=QB C.P.types.size;have hm:=QA (P:=C.P) (w:=w) hf k v';rw[←hk]at hm;have e3:(#[v']++(args.toList.map a.eval).toArray:Array Value)=(v'::args.toList.map a.eval).toArray:=by simp
             have e4:((#[Value.iface t v']++(args.toList.map a.eval).toArray:Array Value)).extract 1 (#[Value.iface t v']++(args.toList.map a.eval).toArray).size=(args.toList.map a.eval).toArray:=by
              simp;exact List.take_of_length_le (by simp)
             have e5:(#[Value.iface t v']++(args.toList.map a.eval).toArray:Array Value)[0]? = some (.iface t v'):=by simp
             simp only[execOp,resolve,e2,hxv,Sem.run_bind,Sem.run_pure,Result.andThen_ok,invoke];rw[e4,e5];simp only[callMethod,Sem.run_bind,run_program,Result.andThen_ok,hm,e3];exact h7
            rw[he];exact Gh h8 hn
         . cases hq
       . cases hq
     . cases hc
    | builtin b=>
     exfalso;simp only[iM]at hc;repeat' (first|(cases hc;done)|split at hc)
     all_goals (cases hc;rcases hcl with ⟨_,_,h⟩|⟨_,_,_,h⟩ <;> cases h)
   case makeMap t res=>
    exfalso;cases res with
    | some _=>cases hc
    | none=>cases hc;rcases hcl with ⟨_,_,h⟩|⟨_,_,_,h⟩ <;> cases h
   case next x st=>
    exfalso;cases st with
    | false=>cases hc
    | true=>
     simp only[iM,Option.map_eq_some_iff]at hc;obtain⟨_,_,rfl⟩:=hc;rcases hcl with ⟨_,_,h⟩|⟨_,_,_,h⟩ <;> cases h
   all_goals
    exfalso;simp only[iM]at hc;repeat' (first|(cases hc;done)|split at hc)
    all_goals first
     | (cases hc;rcases hcl with ⟨_,_,h⟩|⟨_,_,_,h⟩ <;> cases h;done)
     | (simp only[Option.map_eq_some_iff]at hc;obtain⟨_,_,rfl⟩:=hc;rcases hcl with ⟨_,_,h⟩|⟨_,_,_,h⟩ <;> cases h)
 . have hq':(if io.bG then bB s io s.hp else (aW s io).map fun v=>⟨v,s.hp,[]⟩)=some q:=by
    cases io <;> first|exact hq|(exfalso;exact hcl (.inl ⟨_,_,rfl⟩))|(exfalso;exact hcl (.inr ⟨_,_,_,rfl⟩))
   split at hq'
   . rename_i hh;obtain⟨v',w',h1,h2⟩:=Qz r hc hh hq';rcases h1 with h1|⟨h1,rfl⟩
     . rw[h1];exact hn _ _ h2
     . rw[h1];exact hn _ _ h2
   . rename_i hh;simp only[Option.map_eq_some_iff]at hq';obtain⟨v,h1,rfl⟩:=hq';obtain⟨v',h2,h3⟩:=PJ r hc (by simpa using hh) h1;rw[h2];exact hn _ _ (gZ r.mem h3)
theorem jY {x:Array Value}{t u:Nat}{v d:Value}:(x.setIfInBounds t v).getD u d=if u=t/\t<x.size then v else x.getD u d:=by
 simp only[Array.getD_eq_getD_getElem?,Array.getElem?_setIfInBounds];by_cases h:t=u
 . subst h;by_cases hs:t<x.size
   . simp[hs]
   . simp[hs]
 . simp[h,Ne.symm h]
theorem Af {er:ER C ρ w s.pe s.lo a.tmps}{dst:Option Tmp}{d:eh}(hd:jV C dst=some d){x:AV}{v:Value}(hv:V ρ w x v)(h:ab) :
 ER C ρ w ({ s.put d x with hp:=h }:St).pe ({ s.put d x with hp:=h }:St).lo (a.put dst v).tmps:=by
 cases dst with
 | none=>cases hd;exact er
 | some t=>
  simp only[jV]at hd;split at hd
  . rename_i hlt;split at hd
    . rename_i i hi;cases hd;have hti:=tK hi;refine⟨by simp[Act.put,er.size],er.nodup,er.lt,by simpa[St.put] using er.iN,fun j y u h1 h2=>?_,fun u y h1=>?_⟩
      . simp only[St.put,List.getElem?_set]at h1;simp only[Act.put,jY];by_cases hij:i=j
        . subst hij;rw[if_pos rfl]at h1;rw[hti]at h2;cases h2;split at h1
          . cases h1;rw[if_pos ⟨rfl,by rw[er.size];exact hlt⟩];exact hv
          . cases h1
        . rw[if_neg hij]at h1;have:u≠t:=fun e=>by
           subst e;exact hij ((List.getElem?_inj (List.getElem?_eq_some_iff.1 hti).1 er.nodup).1 (hti.trans h2.symm))
          rw[if_neg (fun e=>this e.1)];exact er.pe j y u h1 h2
      . simp only[St.put]at h1;obtain⟨g1,g2,g3⟩:=er.lo u y h1;refine⟨g1,g2,?_⟩;simp only[Act.put,jY];have:u≠t:=fun e=>by subst e;exact g2 (List.mem_of_getElem? hti)
        rw[if_neg (fun e=>this e.1)];exact g3
    . rename_i hi;cases hd;have hnt:=tL hi;refine⟨by simp[Act.put,er.size],er.nodup,er.lt,by simpa[St.put] using er.iN,fun j y u h1 h2=>?_,fun u y h1=>?_⟩
      . simp only[St.put]at h1;simp only[Act.put,jY];have:u≠t:=fun e=>by subst e;exact hnt (List.mem_of_getElem? h2)
        rw[if_neg (fun e=>this e.1)];exact er.pe j y u h1 h2
      . simp only[St.put,List.lookup_cons]at h1;simp only[Act.put,jY];split at h1
        . rename_i e;simp only[beq_iff_eq]at e;subst e;cases h1;exact⟨hlt,hnt,by rw[if_pos ⟨rfl,by rw[er.size];exact hlt⟩];exact hv⟩
        . rename_i e;simp only[beq_eq_false_iff_ne]at e;obtain⟨g1,g2,g3⟩:=er.lo u y h1;exact⟨g1,g2,by rw[if_neg (fun x=>e x.1)];exact g3⟩
  . cases hd
theorem Ag (r:Rel C ρ s a w){ops:Array Oper}{o:Oper}{g:Option (aL×Bool)}(hg:tF C ops.toList o.guard=some g){b:Bool}(hb:eC s g=some b):Region.wanted o (yielded ops a.tmps)=b:=by
 unfold Region.wanted;cases ho:o.guard with
 | none=>rw[ho]at hg;cases hg;cases hb;rfl
 | some jw=>
  obtain⟨j,want⟩:=jw;rw[ho]at hg;simp only[tF]at hg;split at hg
  . rename_i oj hj;split at hg
    . rename_i t ht;simp only[Option.map_eq_some_iff]at hg;obtain⟨y,hy,rfl⟩:=hg;simp only[eC]at hb;have hj':ops[j]? = some oj:=by simpa using hj
      have key:∀v,s.aa y=some v->V ρ w v (a.tmps.getD t undef):=fun v hv=>r.aa hy hv
      simp only[yielded,hj',Option.bind_some,ht];split at hb
      . rename_i c hc;have:=key _ hc;cases hb;have e:=this.me;rw[Array.getD_eq_getD_getElem?]at e;cases hq:a.tmps[t]? with
        | none=>rw[hq]at e;simp[undef]at e
        | some z=>rw[hq]at e;simp at e;subst e;simp <;> cases c <;> cases want <;> rfl
      . rename_i l hl;have:=key _ hl;cases hb;obtain⟨m,e,_⟩:=this.FC;rw[Array.getD_eq_getD_getElem?]at e;cases hq:a.tmps[t]? with
        | none=>rfl
        | some z=>rw[hq]at e;simp at e;subst e;rfl
      . cases hb
    . cases hg
  . cases hg
end Go.Ab

/-
  Own work: what the abstract machine's steps leave of the heap: the blocks not named as turned are as they were.
-/
namespace Go.Ab
variable {s:St}
variable {h:ab}
theorem pr (v:AV):fo h ⟨v,h,[]⟩:=⟨Nat.le_refl _,fun _ _ _=>rfl⟩
theorem Ah (v:AV)(l:ab)(wr:List Nat):fo h ⟨v,h++l,wr⟩:=⟨by simp,fun b hb _=>List.getElem?_append_left hb⟩
theorem Gk (v:AV)(b:Nat)(o:Option bw):fo h ⟨v,h.put b o,[b]⟩:=by
 refine⟨by simp[ab.put],fun b' _ hn=>?_⟩;simp only[List.mem_singleton]at hn;exact jW hn
theorem Gl (v:AV)(b:Nat)(o:Option bw)(l:ab):fo h ⟨v,h.put b o++l,[b]⟩:=by
 refine⟨by simp[ab.put],fun b' hb hn=>?_⟩;simp only[List.mem_singleton]at hn;rw[List.getElem?_append_left (by simpa[ab.put] using hb)];exact jW hn
theorem QC {elem:TypeId}{esz bytes:Nat}{x y:AV}{q:HR}(hq:jv elem esz bytes h x y=some q):fo h q:=by
 unfold jv at hq;repeat' (first|(cases hq;done)|split at hq)
 all_goals (cases hq;first|exact pr _|exact Ah _ _ _|exact Gk _ _ _|exact Gl _ _ _ _)
theorem QD {io:aZ}{q:HR}(hq:bB s io h=some q):fo h q:=by
 cases io <;> simp only[bB]at hq;all_goals first|(cases hq;done)|skip
 all_goals repeat' (first|(cases hq;done)|exact QC hq|split at hq)
 all_goals (cases hq;first|exact pr _|exact Ah _ _ _|exact Gk _ _ _|exact Gl _ _ _ _)
theorem Ai {call:dM}{inv:fw}(hcall:∀g as h r,call g as h=some r->fo h r){s:St}{io:aZ}{q:HR}(hq:bR call inv s io=some q):fo s.hp q:=by
 unfold bR at hq;split at hq
 . repeat' (first|(cases hq;done)|exact hcall _ _ _ _ hq|split at hq)
 . repeat' (first|(cases hq;done)|exact hcall _ _ _ _ hq|split at hq)
 . split at hq
   . exact QD hq
   . simp only[Option.map_eq_some_iff]at hq;obtain⟨v,_,rfl⟩:=hq;exact pr _
theorem tX {s s':St}:∀{ps:List (Nat×Nat×aL)},(∀x∈tu ps,s.aa x=s'.aa x)->s.parts ps=s'.parts ps
 | [],_=>rfl
 | (o,n,x)::r,h=>by
  simp only[tu,List.mem_cons,forall_eq_or_imp]at h;simp only[St.parts,h.1,tX h.2]
theorem ny {s s':St}:∀{xs:List aL},(∀x∈xs,s.aa x=s'.aa x)->s.cH xs=s'.cH xs
 | [],_=>rfl
 | x::r,h=>by
  simp only[List.mem_cons,forall_eq_or_imp]at h;simp only[St.cH,h.1,ny h.2]
theorem pt {s':St}{x:Option aL}(h:∀y∈x.toList,s.aa y=s'.aa y):s.cZ x=s'.cZ x:=by
 cases x with
 | none=>rfl
 | some y=>simp only[St.cZ,h y (by simp)]
theorem Gm {call:dM}{inv:fw}{s':St}{io:aZ}(hh:s.hp=s'.hp)(h:∀x∈io.gh,s.aa x=s'.aa x):bR call inv s io=bR call inv s' io:=by
 cases io
 case slice k esz x lo hi mx=>
  simp only[aZ.gh,List.mem_cons,List.mem_append,forall_eq_or_imp]at h;have h1:=h.1;have h2:s.cZ lo=s'.cZ lo:=pt fun y hy=>h.2 y (.inl (.inl hy))
  have h3:s.cZ hi=s'.cZ hi:=pt fun y hy=>h.2 y (.inl (.inr hy))
  have h4:s.cZ mx=s'.cZ mx:=pt fun y hy=>h.2 y (.inr hy)
  simp only[bR,aZ.bG,aW,Bool.false_eq_true,if_false,hh,h1,h2,h3,h4]
 case ix n esz x lo hi=>
  simp only[aZ.gh,List.mem_cons,List.mem_append,forall_eq_or_imp]at h;have h1:=h.1;have h2:s.cZ lo=s'.cZ lo:=pt fun y hy=>h.2 y (.inl hy)
  have h3:s.cZ hi=s'.cZ hi:=pt fun y hy=>h.2 y (.inr hy)
  simp only[bR,aZ.bG,bB,if_true,hh,h1,h2,h3]
 case tq f fi ca=>
  simp only[aZ.gh,List.mem_append]at h;have h1:s.cH fi=s'.cH fi:=ny fun y hy=>h y (.inl hy)
  have h2:s.cH ca=s'.cH ca:=ny fun y hy=>h y (.inr hy)
  simp only[bR,aZ.bG,aW,Bool.false_eq_true,if_false,hh,h1,h2]
 case build zero ps=>
  have h1:s.parts ps=s'.parts ps:=tX h;simp only[bR,aZ.bG,aW,Bool.false_eq_true,if_false,hh,h1]
 case dZ elem len esz zero ps=>
  have h1:s.parts ps=s'.parts ps:=tX h;simp only[bR,aZ.bG,bB,if_true,hh,h1]
 case mm mx xs=>
  have h1:s.cH xs=s'.cH xs:=ny h;simp only[bR,aZ.bG,aW,Bool.false_eq_true,if_false,hh,h1]
 case call f as=>
  simp only[aZ.gh,List.mem_cons,forall_eq_or_imp]at h;have h1:=h.1;have h2:s.cH as=s'.cH as:=ny h.2;simp only[bR,hh,h1,h2]
 case invoke f name as=>
  simp only[aZ.gh,List.mem_cons,forall_eq_or_imp]at h;have h1:=h.1;have h2:s.cH as=s'.cH as:=ny h.2;simp only[bR,hh,h1,h2]
 all_goals
  simp only[aZ.gh,List.mem_cons,List.not_mem_nil,or_false,forall_eq_or_imp,forall_eq]at h;simp only[bR,aZ.bG,bB,aW,Bool.false_eq_true,if_false,if_true,hh,h]
theorem jD (wr:List Nat):∀(h h':ab) (i b:Nat),h.length<=h'.length ->
 (dV wr h h' i)[b]? = if b<h.length then (if wr.contains (b+i) then h'[b]? else h[b]?) else h'[b]?
 | [],h',i,b,_=>by cases h' <;> simp[dV]
 | o::h,[],i,b,hl=>by simp at hl
 | o::h,n::h',i,b,hl=>by
  cases b with
  | zero=>simp[dV];split <;> rfl
  | succ b=>
   simp only[dV,List.getElem?_cons_succ,List.length_cons];rw[jD wr h h' (i+1) b (by simpa using hl)];simp only[Nat.add_lt_add_iff_right];rw[show b+(i+1)=b+1+i from by omega]
theorem rq (wr:List Nat):∀(h h':ab) (i:Nat),h.length<=h'.length->(dV wr h h' i).length=h'.length
 | [],h',i,_=>by cases h' <;> simp[dV]
 | o::h,[],i,hl=>by simp at hl
 | o::h,n::h',i,hl=>by simp[dV,rq wr h h' (i+1) (by simpa using hl)]
end Go.Ab

/-
  Own work: a region whose operations stand in their order, walked.
-/
namespace Go.Ab
variable {P:Program} {gl:Nat->Option AV} {ρ:au} {w:World} {h:ab} {C:Cx} {s:St} {a:Act}
theorem Gn {L:List Oper}{o:Oper}{io:aU}(h:tG C L o=some io):jV C o.dst=some io.dst/\iM C o=some io.op/\tF C L o.guard=some io.guard:=by
 unfold tG at h;split at h
 . rename_i d op g h1 h2 h3;cases h;exact⟨h1,h2,h3⟩
 . cases h
theorem ru {L:List Oper}:∀{l:List Oper} {il:List aU},jA C L l=some il->il.length=l.length/\∀(i:Nat) (o:Oper),l[i]? = some o->∃io,il[i]? = some io/\tG C L o=some io
 | [],il,h=>by simp only[jA,Option.some.injEq]at h;subst h;exact⟨rfl,by simp⟩
 | o::r,il,h=>by
  simp only[jA]at h;split at h
  . rename_i io l h1 h2;cases h;obtain⟨g1,g2⟩:=ru h2;refine⟨by simp[g1],fun i o' ho=>?_⟩;cases i with
    | zero=>simp at ho;subst ho;exact⟨io,rfl,h1⟩
    | succ i=>simp at ho;obtain⟨x,h3,h4⟩:=g2 i o' ho;exact⟨x,by simpa using h3,h4⟩
  . cases h
theorem QE {call:dM}(hcall:mn C.P C.gl call){ro:Option Nat}{ops:Array Oper}{il:List aU}(hil:jA C ops.toList ops.toList=some il){Q:Exit->Act->World->Prop} :
 ∀(m k:Nat) (s s':ao) (ρ:au) (a:Act) (w:World),k+m=ops.size->Rel C ρ s.s a w->eE call (eK C.P) (il.drop k) s=some s' ->
  (∀ρ' a' w',Rel C ρ' s'.s a' w'->Ext s.s.hp s'.s.hp ρ ρ' w w'->a'.defers=a.defers->Q .normal a' w')->wpOpsIn (FR ro) 0 C.P ops Q (List.range' k m) a w:=by
 obtain⟨hlen,hget⟩:=ru hil;intro m;induction m with
 | zero=>
  intro k s s' ρ a w hk r hq hQ;have:il.drop k=[]:=by
   rw[List.drop_eq_nil_iff];simp at hlen;omega
  rw[this]at hq;cases hq;simp only[List.range'_zero,wpOpsIn];exact hQ ρ a w r (Ext.refl _ _ _) rfl
 | succ m ih=>
  intro k s s' ρ a w hk r hq hQ;have hklt:k<ops.size:=by omega
  obtain⟨io,h1,h2⟩:=hget k ops[k] (by simp[hklt]);obtain⟨hd,hop,hg⟩:=Gn h2;have hdrop:il.drop k=io::il.drop (k+1):=by
   have hk':k<il.length:=(List.getElem?_eq_some_iff.1 h1).1;rw[List.drop_eq_getElem_cons hk'];congr 1;exact(List.getElem?_eq_some_iff.1 h1).2
  rw[hdrop]at hq;simp only[eE]at hq;simp only[List.range'_succ,wpOpsIn];have ho:ops[k]? = some ops[k]:=by simp[hklt]
  rw[ho];simp only;split at hq
  . rename_i hw;rw[if_pos (Ag r hg hw)];split at hq
    . rename_i q hq1;refine Gj hcall r hop hq1 ?_;rintro v' w' ⟨ρ',hv,m',x⟩;refine ih (k+1) _ s' ρ' _ w' (by omega) ⟨Af (er:=r.er.mono x) hd hv _,m'⟩ hq ?_;intro ρ2 a2 w2 r2 x2 hd2;refine hQ ρ2 a2 w2 r2 (x.trans x2) (hd2.trans ?_);unfold Act.put;split <;> rfl
    . cases hq
  . rename_i hw;rw[if_neg (by rw[Ag r hg hw];simp)];refine⟨fun _ _=>trivial,ih (k+1) _ s' ρ _ w (by omega) ⟨?_,?_⟩ hq ?_⟩
    . exact Af (er:=r.er) hd V.undef s.s.hp
    . have:(s.s.put io.dst cB).hp=s.s.hp:=by cases io.dst <;> rfl
      rw[this];exact r.mem
    . intro ρ2 a2 w2 r2 x2 hd2;have:(s.s.put io.dst cB).hp=s.s.hp:=by cases io.dst <;> rfl
      simp only[this]at x2;refine hQ ρ2 a2 w2 r2 x2 (hd2.trans ?_);unfold Act.put;split <;> rfl
  . cases hq
theorem Rel.QF (r:Rel C ρ s a w):Rel C ρ { s with lo:=[] } a w:=
 ⟨⟨r.er.size,r.er.nodup,r.er.lt,r.er.iN,r.er.pe,fun _ _ h=>by cases h⟩,r.mem⟩
theorem QG {call:dM}(hcall:mn C.P C.gl call){ro:Option Nat}{id:Nat}{ops:Array Oper}{il:List aU}(hil:jA C ops.toList ops.toList=some il){Q:Exit->Act->World->Prop}
 {s s':ao} (r:Rel C ρ s.s a w) (hq:eE call (eK C.P) il ⟨{ s.s with lo:=[] },s.wr⟩=some s')
 (hQ:∀ρ' a' w',Rel C ρ' s'.s a' w'->Ext s.s.hp s'.s.hp ρ ρ' w w'->a'.defers=a.defers->Q .normal a' w'):(Code.region id ops false).wpIn (FR ro) 0 C.P Q a w:=by
 refine wpIn_region ?_;rw[List.range_eq_range'];exact QE hcall hil ops.size 0 _ s' ρ a w (by omega) r.QF hq hQ
end Go.Ab

/-
  Own work: what a drawn region's evaluation in the text's order has met, operation for operation.
-/
namespace Go.Ab
structure tY (call:dM)(inv:fw)(st:Nat->ao)(h0:Nat->ab)(r:Nat->HR)(k:Nat)(o:aU)(un:List Nat):Prop where
 wanted:∃b,eC (st k).s o.guard=some b/\(b=true->bR call inv { (st k).s with hp:=h0 k } o.op=some (r k))/\(b=false->r k=⟨cB,h0 k,[]⟩)
 len:(h0 k).length=(st k).s.hp.length
 known:∀(b:Nat) x,(h0 k)[b]? = some (some x)->(st k).s.hp[b]? = some (some x)
 off:∀(b:Nat) x,(h0 k)[b]? = some (some x)->∀j∈un,j<k->b∉(r j).wr/\¬((st j).s.hp.length<=b/\b<(r j).h.length)
 ry:∀b∈(r k).wr,∃x,(h0 k)[b]? = some (some x)
 QH:∀j∈un,j<k->∀b∈(r k).wr,∀x,(h0 j)[b]? ≠ some (some x)
 next:st (k+1)=⟨{ (st k).s.put o.dst (r k).v with hp:=dV (r k).wr (st k).s.hp (r k).h 0 },(r k).wr++(st k).wr⟩
theorem nz (T:List Nat):∀(h:ab) (i b:Nat),(dv T h i)[b]? = (h[b]?).map fun o=>if T.contains (b+i) then o else none
 | [],i,b=>by simp[dv]
 | o::h,i,b=>by
  cases b with
  | zero=>simp[dv]
  | succ b=>simp only[dv,List.getElem?_cons_succ];rw[nz T h (i+1) b,show b+(i+1)=b+1+i from by omega]
theorem fL (T:List Nat):∀(h:ab) (i:Nat),(dv T h i).length=h.length
 | [],i=>rfl
 | o::h,i=>by simp[dv,fL T h (i+1)]
theorem Aj:∀(U:List Nat) (h:ab) (b:Nat),(mask h U)[b]? = if b∈U then (h[b]?).map fun _=>none else h[b]?
 | [],h,b=>by simp[mask]
 | u::U,h,b=>by
  have:=Aj U (h.set u none) b;unfold mask at this ⊢;rw[List.foldl_cons,this];simp only[List.getElem?_set,List.mem_cons];by_cases hu:u=b
  . subst hu;by_cases hl:u<h.length
    . simp[hl]
    . simp[hl]
  . rw[if_neg hu];have:(b=u)↔False:=⟨fun e=>hu e.symm,False.elim⟩;simp[this]
theorem Gp:∀(U:List Nat) (h:ab),(mask h U).length=h.length
 | [],h=>rfl
 | u::U,h=>by
  have:=Gp U (h.set u none);unfold mask at this ⊢;rw[List.foldl_cons,this];simp
theorem QI {d:cg}{b:Nat}:b∈d.own↔b∈d.wr\/(d.lo<=b/\b<d.hi):=by
 unfold cg.own;rw[List.mem_append,List.mem_range'_1];constructor
 . rintro(h|h)
   . exact .inl h
   . exact .inr (by omega)
 . rintro(h|h)
   . exact .inl h
   . exact .inr (by omega)
def Gq (st:Nat->ao)(h0:Nat->ab)(r:Nat->HR)(ds:List cg):Prop:=
 ∀j d,ds[j]? = some d->d.wr=(r j).wr/\d.lo=(st j).s.hp.length/\d.hi=(r j).h.length/\∀T,d.jQ=some T->∀(b:Nat) x,(h0 j)[b]? = some (some x)->b∈T
theorem Gr {a b:List Nat}(h:gP a b=true):∀x∈a,x∉b:=by
 intro x hx hb;have:=List.all_eq_true.1 h x hx;simp at this;exact this hb
theorem trace {call:dM}{inv:fw}:∀(l:List (aU×List Nat)) (s:ao) (ds:List cg) (s':ao) (st0:Nat->ao) (h00:Nat->ab) (r00:Nat->HR),Gq st0 h00 r00 ds->dN call inv l s ds=some s' ->
 ∃st h0 r,(∀j,j<ds.length->st j=st0 j/\h0 j=h00 j/\r j=r00 j)/\st ds.length=s/\st (ds.length+l.length)=s' /\
  ∀k o un,l[k]? = some (o,un)->tY call inv st h0 r (ds.length+k) o un
 | [],s,ds,s',st0,h00,r00,hds,hq=>by
  simp only[dN,Option.some.injEq]at hq;subst hq;refine⟨fun j=>if j=ds.length then s else st0 j,h00,r00,fun j hj=>⟨by simp;omega,rfl,rfl⟩,by simp,by simp,by simp⟩
 | (o,un)::rest,s,ds,s',st0,h00,r00,hds,hq=>by
  have fin:∀(g0:ab) (q:HR) (t:Option (List Nat)) (b:Bool),eC s.s o.guard=some b->(b=true->bR call inv { s.s with hp:=g0 } o.op=some q)->(b=false->q=⟨cB,g0,[]⟩) ->
   g0.length=s.s.hp.length->(∀(b:Nat) x,g0[b]? = some (some x)->s.s.hp[b]? = some (some x)) ->
   (∀(b:Nat) x,g0[b]? = some (some x)->∀j∈un,∀d,ds[j]? = some d->b∉d.own)->(∀b∈q.wr,∃x,g0[b]? = some (some x)) ->
   (∀j∈un,∀d,ds[j]? = some d->∀b∈q.wr,∃T,d.jQ=some T/\b∉T)->(∀T,t=some T->∀(b:Nat) x,g0[b]? = some (some x)->b∈T) ->
   dN call inv rest ⟨{ s.s.put o.dst q.v with hp:=dV q.wr s.s.hp q.h 0 },q.wr++s.wr⟩ (ds++[⟨t,q.wr,s.s.hp.length,q.h.length⟩])=some s' ->
   ∃st h0 r,(∀j,j<ds.length->st j=st0 j/\h0 j=h00 j/\r j=r00 j)/\st ds.length=s/\st (ds.length+((o,un)::rest).length)=s' /\
    ∀k o' un',((o,un)::rest)[k]? = some (o',un')->tY call inv st h0 r (ds.length+k) o' un':=by
   intro g0 q t b hw h1 h2 h3 h4 h5 h6 h7 h8 hrec;have hds':Gq (fun j=>if j=ds.length then s else st0 j) (fun j=>if j=ds.length then g0 else h00 j) (fun j=>if j=ds.length then q else r00 j) (ds++[⟨t,q.wr,s.s.hp.length,q.h.length⟩]):=by
    intro j d hj;rw[List.getElem?_append]at hj;split at hj
    . rename_i hlt;have:j≠ds.length:=by omega
      simp only[this,if_false];exact hds j d hj
    . rename_i hge;have hj0:j-ds.length=0:=by
       have:=(List.getElem?_eq_some_iff.1 hj).1;simp at this;omega
      rw[hj0]at hj;simp at hj;subst hj;have:j=ds.length:=by omega
      subst this;simp only[if_true];exact⟨trivial,trivial,trivial,h8⟩
   obtain⟨st,h0,r,e1,e2,e3,e4⟩:=trace rest _ _ s' _ _ _ hds' hrec;simp only[List.length_append,List.length_cons,List.length_nil,Nat.zero_add]at e1 e2 e3 e4;have eN:=e1 ds.length (by omega);simp only[if_true]at eN;have elt:∀j,j<ds.length->st j=st0 j/\h0 j=h00 j/\r j=r00 j:=by
    intro j hj;have:=e1 j (by omega);rw[if_neg (by omega),if_neg (by omega),if_neg (by omega)]at this;exact this
   refine⟨st,h0,r,elt,eN.1,by rw[←e3];congr 1;simp;omega,?_⟩;intro k o' un' hk;cases k with
   | zero=>
    simp at hk;obtain⟨rfl,rfl⟩:=hk;rw[Nat.add_zero];have hown:∀j,j<ds.length->∃d,ds[j]? = some d/\(∀b,b∈d.own↔b∈(r j).wr\/((st j).s.hp.length<=b/\b<(r j).h.length))/\∀T,d.jQ=some T->∀(b:Nat) x,(h0 j)[b]? = some (some x)->b∈T:=by
     intro j hj;obtain⟨f1,f2,f3⟩:=elt j hj;obtain⟨g1,g2,g3,g4⟩:=hds j ds[j] (by simp[hj]);refine⟨ds[j],by simp[hj],fun b=>?_,fun T hT b x hb=>g4 T hT b x (by rw[←f2];exact hb)⟩;rw[QI,g1,g2,g3,f1,f3]
    refine⟨?_,?_,?_,?_,?_,?_,?_⟩
    . rw[eN.1,eN.2.1,eN.2.2];exact⟨b,hw,h1,h2⟩
    . rw[eN.1,eN.2.1];exact h3
    . rw[eN.1,eN.2.1];exact h4
    . rw[eN.2.1];intro b x hb j hj hlt;obtain⟨d,hd,ho,_⟩:=hown j hlt;have:=h5 b x hb j hj d hd;rw[ho]at this;exact⟨fun h=>this (.inl h),fun h=>this (.inr h)⟩
    . rw[eN.2.1,eN.2.2];exact h6
    . rw[eN.2.2];intro j hj hlt b hb x hx;obtain⟨d,hd,_,ht⟩:=hown j hlt;obtain⟨T,hT,hbT⟩:=h7 j hj d hd b hb;exact hbT (ht T hT b x hx)
    . rw[eN.1,eN.2.2,e2]
   | succ k=>
    simp at hk;have:=e4 k o' un' hk;rw[show ds.length+(k+1)=ds.length+1+k from by omega];exact this
  have keep0:∀(b:Nat) x,(dv [] s.s.hp 0)[b]? ≠ some (some x):=by
   intro b x;rw[nz];cases s.s.hp[b]? <;> simp
  have merge0:dV [] s.s.hp (dv [] s.s.hp 0) 0=s.s.hp:=by
   apply List.ext_getElem?;intro b;rw[jD _ _ _ _ _ (by rw[fL];exact Nat.le_refl _)];split
   . simp
   . rename_i hb;rw[List.getElem?_eq_none (by rw[fL];omega),List.getElem?_eq_none (by omega)]
  have go:∀(t:Option (List Nat)) (g0:ab),eC s.s o.guard=some true->(match t with|some T=>gP T (un.flatMap fun j=>(ds[j]?).elim [] cg.own)|none=>true)=true ->
   g0=(match t with|some T=>dv T s.s.hp 0|none=>mask s.s.hp (un.flatMap fun j=>(ds[j]?).elim [] cg.own)) ->
   (match bR call inv { s.s with hp:=g0 } o.op with
     | some r=>
      if ((r.wr.all fun b=>(g0.at b).isSome) && (r.wr.isEmpty || un.all (fun j=>match ds[j]? with|some d=>(match d.jQ with|some T=>gP r.wr T|none=>false)|none=>false)))=true then
       dN call inv rest ⟨{ s.s.put o.dst r.v with hp:=dV r.wr s.s.hp r.h 0 },r.wr++s.wr⟩ (ds++[⟨t,r.wr,s.s.hp.length,r.h.length⟩])
      else none
     | none=>none)=some s' ->
   ∃st h0 r,(∀j,j<ds.length->st j=st0 j/\h0 j=h00 j/\r j=r00 j)/\st ds.length=s/\st (ds.length+((o,un)::rest).length)=s' /\
    ∀k o' un',((o,un)::rest)[k]? = some (o',un')->tY call inv st h0 r (ds.length+k) o' un':=by
   intro t g0 hw hdis hg0 hq;split at hq
   . rename_i q hq1;split at hq
     . rename_i hchk;rw[Bool.and_eq_true]at hchk;obtain⟨hc1,hc2⟩:=hchk;refine fin g0 q t true hw (fun _=>hq1) (by simp) ?_ ?_ ?_ ?_ ?_ ?_ hq
       . subst hg0;cases t
         . exact Gp _ _
         . exact fL _ _ _
       . intro b x hb;subst hg0;cases t
         . simp only at hb;rw[Aj]at hb;split at hb
           . cases hz:s.s.hp[b]? <;> simp[hz]at hb
           . exact hb
         . simp only at hb;rw[nz]at hb;cases hz:s.s.hp[b]? with
           | none=>simp[hz]at hb
           | some z=>
            simp only[hz,Option.map_some,Option.some.injEq]at hb;split at hb
            . rw[hb]
            . cases hb
       . intro b x hb j hj d hd hbo;have hU:b∈un.flatMap fun j=>(ds[j]?).elim [] cg.own:=by
          rw[List.mem_flatMap];exact⟨j,hj,by rw[hd];exact hbo⟩
         subst hg0;cases t
         . simp only at hb;rw[Aj,if_pos hU]at hb;cases hz:s.s.hp[b]? <;> simp[hz]at hb
         . simp only at hb hdis;rw[nz]at hb;cases hz:s.s.hp[b]? with
           | none=>simp[hz]at hb
           | some z=>
            simp only[hz,Option.map_some,Option.some.injEq]at hb;split at hb
            . rename_i hm;simp at hm;exact Gr hdis b hm hU
            . cases hb
       . intro b hb;have:=List.all_eq_true.1 hc1 b hb;unfold ab.at at this;cases hz:g0[b]? with
         | none=>rw[hz]at this;simp at this
         | some z=>cases z with
           | none=>rw[hz]at this;simp at this
           | some z=>exact⟨z,rfl⟩
       . intro j hj d hd b hb;rw[Bool.or_eq_true]at hc2;rcases hc2 with hc2|hc2
         . simp at hc2;rw[hc2]at hb;cases hb
         . have:=List.all_eq_true.1 hc2 j hj;rw[hd]at this;simp only at this;split at this
           . rename_i T hT;exact⟨T,hT,Gr this b hb⟩
           . cases this
       . intro T hT b x hb;subst hg0;subst hT;simp only at hb;rw[nz]at hb;cases hz:s.s.hp[b]? with
         | none=>simp[hz]at hb
         | some z=>
          simp only[hz,Option.map_some,Option.some.injEq]at hb;split at hb
          . rename_i hm;simpa using hm
          . cases hb
     . cases hq
   . cases hq
  simp only[dN]at hq;split at hq
  . rename_i hw;split at hq
    . cases ht:jx s.s o.op with
      | none=>
       simp only[ht]at hq;exact go none _ hw rfl rfl hq
      | some T=>
       simp only[ht]at hq;split at hq
       . rename_i hdis;exact go (some T) _ hw hdis rfl hq
       . cases hq
    . rename_i hh;split at hq
      . rename_i v hv;have hhf:o.op.bG=false:=by simpa using hh
        refine fin (dv [] s.s.hp 0) ⟨v,dv [] s.s.hp 0,[]⟩ (some []) true hw (fun _=>?_) (by simp) (fL _ _ _) (fun b x hb=>(keep0 b x hb).elim) (fun b x hb=>(keep0 b x hb).elim) (by simp) (by simp) (fun T _ b x hb=>(keep0 b x hb).elim) ?_
        . have:bR call inv { s.s with hp:=dv [] s.s.hp 0 } o.op=(aW { s.s with hp:=dv [] s.s.hp 0 } o.op).map fun v=>⟨v,dv [] s.s.hp 0,[]⟩:=by
           cases ho:o.op <;> rw[ho]at hhf <;> first|(simp[aZ.bG]at hhf;done)|rfl
          rw[this];have hv':aW { s.s with hp:=dv [] s.s.hp 0 } o.op=some v:=by
           rw[←hv];have hc:=fun s' h'=>Gm (call:=call) (inv:=inv) (s:=s') (s':=s') (io:=o.op) rfl h'
           have e:∀(h:ab),aW { s.s with hp:=h } o.op=aW s.s o.op:=by
            intro h;have e1:∀x,({ s.s with hp:=h }:St).aa x=s.s.aa x:=by intro x;cases x <;> rfl
            have e2:∀xs,({ s.s with hp:=h }:St).cH xs=s.s.cH xs:=fun xs=>ny fun x _=>e1 x
            have e3:∀xs,({ s.s with hp:=h }:St).cZ xs=s.s.cZ xs:=fun xs=>pt fun x _=>e1 x
            have e4:∀xs,({ s.s with hp:=h }:St).parts xs=s.s.parts xs:=fun xs=>tX fun x _=>e1 x
            cases o.op <;> simp only[aW,e1,e2,e3,e4]
           exact e _
          rw[hv'];rfl
        . have e:({ s.s.put o.dst v with hp:=s.s.hp }:St)=s.s.put o.dst v:=by cases o.dst <;> rfl
          simp only[merge0,fL,List.nil_append];rw[e];exact hq
      . cases hq
  . rename_i hw;refine fin (dv [] s.s.hp 0) ⟨cB,dv [] s.s.hp 0,[]⟩ (some []) false hw (by simp) (fun _=>rfl) (fL _ _ _) (fun b x hb=>(keep0 b x hb).elim) (fun b x hb=>(keep0 b x hb).elim) (by simp) (by simp) (fun T _ b x hb=>(keep0 b x hb).elim) ?_;have e:({ s.s.put o.dst cB with hp:=s.s.hp }:St)=s.s.put o.dst cB:=by cases o.dst <;> rfl
    simp only[merge0,fL,List.nil_append];rw[e];exact hq
  . cases hq
end Go.Ab

/-
  Own work: lemmas for the walk of a drawn region: what is said of a block under another ownership; slots; what the trace leaves.
-/
namespace Go.Ab
variable {dst:Option Tmp} {d:eh} {y:aL}
variable {P:Program} {gl:Nat->Option AV} {ρ:au} {w:World} {h:ab} {C:Cx} {s:St} {a:Act}
def dP (lo:Nat)(ρ:au):au:=⟨fun b=>if b<lo then ρ b else .fresh,fun c=>ρ.X c\/∃b d,lo<=b/\ρ b = .live c d⟩
theorem cQ.dP {c:Nat}(lo:Nat)(h:cQ ρ c):cQ (dP lo ρ) c:=by
 refine⟨fun b d hb=>?_,?_⟩
 . simp only[Ab.dP]at hb;split at hb
   . exact h.1 b d hb
   . cases hb
 . rintro(hx|⟨b,d,_,hb⟩)
   . exact h.2 hx
   . exact h.1 b d hb
theorem BR.fX {ρ ρ':au}{n:Nat}(hρ:∀b,b<n->ρ' b=ρ b)(hF:∀c,cQ ρ c->cQ ρ' c){b:Nat}(hb:b<n){o:bw}(h:BR P gl ρ w b o)(ht:o.top<=n):BR P gl ρ' w b o:=by
 cases o with
 | cells l e=>
  rcases h with ⟨c,d,cs,fr,h1,h2,h3,h4,h5⟩|⟨h1,h2⟩
  . exact .inl ⟨c,d,cs,fr,(hρ b hb).trans h1,h2,h3,h4,fun i x y hx hy=>(h5 i x y hx hy).fX hρ hF (ff ht i x hx)⟩
  . exact .inr ⟨(hρ b hb).trans h1,h2⟩
 | map es=>
  obtain⟨c,ms,clk,h1,h2,h3,h4⟩:=h;have key:∀(es:List (AV×AV)),bw.top.mX es<=n->∀(i:Nat) kx vx,es[i]? = some (kx,vx)->kx.top<=n/\vx.top<=n:=by
   intro es;induction es with
   | nil=>intro _ i kx vx hx;simp at hx
   | cons p r ih=>
    intro ht i kx vx hx;obtain⟨k,v⟩:=p;simp only[bw.top.mX]at ht;cases i with
    | zero=>simp at hx;obtain⟨rfl,rfl⟩:=hx;omega
    | succ i=>exact ih (by omega) i kx vx (by simpa using hx)
  exact⟨c,ms,clk,(hρ b hb).trans h1,h2,h3,fun i kx vx m hx hm=>by
   obtain⟨g1,g2⟩:=h4 i kx vx m hx hm;obtain⟨t1,t2⟩:=key es ht i kx vx hx;exact⟨g1.fX hρ hF t1,g2.fX hρ hF t2⟩⟩
 | iter s pos=>obtain⟨c,h1,h2⟩:=h;exact⟨c,(hρ b hb).trans h1,h2⟩
 | fR=>obtain⟨c,h1,h2⟩:=h;exact⟨c,(hρ b hb).trans h1,h2⟩
 | hole=>exact(hρ b hb).trans h
 | loop st pend pe ps a bd=>
  obtain⟨c,r,aO,N,h1,h2,h3,h4,h5,h6⟩:=h;exact⟨c,r,aO,N,(hρ b hb).trans h1,h2,h3,h4,⟨h5.size,h5.nodup,h5.lt,h5.iN,fun i v t hv ht'=>(h5.pe i v t hv ht').fX hρ hF (ff ht i v hv),fun _ _ hl=>by cases hl⟩,h6⟩
theorem BR.top {n:Nat}(hn:∀b,n<=b->ρ b = .fresh){b:Nat}{o:bw}(h:BR P gl ρ w b o):o.top<=n:=by
 cases o with
 | cells l e=>
  rcases h with ⟨c,d,cs,fr,h1,h2,h3,h4,h5⟩|⟨h1,h2⟩
  . refine mc fun i x hx=>?_
    have hi:=(List.getElem?_eq_some_iff.1 hx).1;have hlt:i+d<cs.size:=by have:=h3.1;omega
    exact(h5 i x cs[i+d] hx (by simp[hlt])).top hn
  . subst h2;simp[bw.top,bk]
 | map es=>
  obtain⟨c,ms,clk,h1,h2,h3,h4⟩:=h;have key:∀(es:List (AV×AV)),(∀(i:Nat) kx vx,es[i]? = some (kx,vx)->kx.top<=n/\vx.top<=n)->bw.top.mX es<=n:=by
   intro es;induction es with
   | nil=>intro _;simp[bw.top.mX]
   | cons p r ih=>
    intro hx;obtain⟨k,v⟩:=p;simp only[bw.top.mX];have:=hx 0 k v rfl;have:=ih fun i kx vx h=>hx (i+1) kx vx (by simpa using h)
    omega
  refine key es fun i kx vx hx=>?_
  have hi:=(List.getElem?_eq_some_iff.1 hx).1;obtain⟨g1,g2⟩:=h4 i kx vx ms[i] hx (by simp);exact⟨g1.top hn,g2.top hn⟩
 | iter s pos=>simp[bw.top]
 | fR=>simp[bw.top]
 | hole=>simp[bw.top]
 | loop st pend pe ps a bd=>
  obtain⟨c,r,aO,N,h1,h2,h3,h4,h5,h6⟩:=h;refine mc fun i x hx=>?_
  have hi:=(List.getElem?_eq_some_iff.1 hx).1;have hp:=h5.iN;exact(h5.pe i x aO[i] hx (by simp)).top hn
def VS (C:Cx)(ρ:au)(w:World)(tmps:Array Value)(y:aL)(v:AV):Prop:=
 match y with
 | .p i=>∀t,C.aO[i]? = some t->V ρ w v (tmps.getD t undef)
 | .l t=>t<C.N/\t∉C.aO/\V ρ w v (tmps.getD t undef)
 | .c _=>True
theorem VS.mono {h h':ab}{ρ ρ':au}{w w':World}(x:Ext h h' ρ ρ' w w'){tmps:Array Value}{y:aL}{v:AV}(hv:VS C ρ w tmps y v):VS C ρ' w' tmps y v:=by
 cases y with
 | p i=>exact fun t ht=>(hv t ht).mono x
 | l t=>exact⟨hv.1,hv.2.1,hv.2.2.mono x⟩
 | c _=>trivial
theorem tZ {v:Value}:(a.put dst v).tmps=match dst with|some t=>a.tmps.setIfInBounds t v|none=>a.tmps:=by
 cases dst <;> rfl
theorem VS.nC (hd:jV C dst=some d)(hsz:a.tmps.size=C.N){y:aL}(hy:dL d y=true){x:AV}{v:Value}(hv:V ρ w x v):VS C ρ w (a.put dst v).tmps y x:=by
 cases dst with
 | none=>cases hd;cases y <;> simp[dL]at hy
 | some t=>
  simp only[jV]at hd;split at hd
  . rename_i hlt;split at hd
    . rename_i i hi;cases hd;have hti:=tK hi;cases y <;> simp[dL]at hy;subst hy;intro u hu;rw[hti]at hu;cases hu;rw[tZ];simp only[jY];rw[if_pos (by simp[hsz,hlt])];exact hv
    . rename_i hi;cases hd;have hnt:=tL hi;cases y <;> simp[dL]at hy;subst hy;refine⟨hlt,hnt,?_⟩;rw[tZ];simp only[jY];rw[if_pos (by simp[hsz,hlt])];exact hv
  . cases hd
theorem VS.QJ (hd:jV C dst=some d)(hnd:C.aO.Nodup){y:aL}(hy:dL d y=false){x:AV}{v:Value}(hv:VS C ρ w a.tmps y x):VS C ρ w (a.put dst v).tmps y x:=by
 cases dst with
 | none=>exact hv
 | some t=>
  rw[tZ];simp only[jV]at hd;split at hd
  . rename_i hlt;split at hd
    . rename_i i hi;cases hd;have hti:=tK hi;cases y with
      | p j=>
       simp[dL]at hy;intro u hu;have hne:u≠t:=fun e=>by
        subst e;exact hy ((List.getElem?_inj (List.getElem?_eq_some_iff.1 hti).1 hnd).1 (hti.trans hu.symm))
       simp only[jY];rw[if_neg (fun e=>hne e.1)];exact hv u hu
      | l u=>
       obtain⟨g1,g2,g3⟩:=hv;have hne:u≠t:=fun e=>by subst e;exact g2 (List.mem_of_getElem? hti)
       refine⟨g1,g2,?_⟩;simp only[jY];rw[if_neg (fun e=>hne e.1)];exact g3
      | c _=>trivial
    . rename_i hi;cases hd;have hnt:=tL hi;cases y with
      | p j=>
       intro u hu;have hne:u≠t:=fun e=>by subst e;exact hnt (List.mem_of_getElem? hu)
       simp only[jY];rw[if_neg (fun e=>hne e.1)];exact hv u hu
      | l u=>
       simp[dL]at hy;obtain⟨g1,g2,g3⟩:=hv;refine⟨g1,g2,?_⟩;simp only[jY];rw[if_neg (fun e=>hy e.1.symm)];exact g3
      | c _=>trivial
  . cases hd
theorem QK (hy:dL d y=true){x v:AV}(h:(s.put d x).aa y=some v):v=x:=by
 cases d <;> cases y <;> simp[dL]at hy
 . subst hy;simp only[St.put,St.aa,List.getElem?_set]at h;simp at h;exact h.2.symm
 . subst hy;simp only[St.put,St.aa,List.lookup_cons_self]at h;exact(Option.some.inj h).symm
theorem QL (hy:dL d y=false){x:AV}:(s.put d x).aa y=s.aa y:=by
 cases d <;> cases y <;> first|rfl|skip
 . rename_i i j;simp[dL]at hy;simp only[St.put,St.aa,List.getElem?_set];rw[if_neg hy]
 . rename_i t u;simp[dL]at hy;simp only[St.put,St.aa,List.lookup_cons];have:(u == t)=false:=by simp;exact fun e=>hy e.symm
   rw[this]
def restrict (us:List aL)(s:St)(h:ab):St:=
 { s with pe:=s.pe.mapIdx (fun i v=>if us.any (dL (.p i)) then v else .cR),lo:=s.lo.filter (fun e=>us.any (dL (.l e.1))),hp:=h }
theorem Ak {p:Nat->Bool}{t:Nat}:∀(l:List (Nat×AV)),(l.filter (fun e=>p e.1)).lookup t=if p t then l.lookup t else none
 | []=>by simp
 | (u,v)::r=>by
  have ih:=Ak (p:=p) (t:=t) r;by_cases hu:p u=true
  . rw[List.filter_cons_of_pos (by simpa using hu)];simp only[List.lookup_cons];by_cases e:t=u
    . subst e;simp[hu]
    . have e':(t == u)=false:=by simpa using e
      rw[e'];exact ih
  . rw[List.filter_cons_of_neg (by simpa using hu),ih];by_cases e:t=u
    . subst e;simp[hu]
    . have e':(t == u)=false:=by simpa using e
      simp only[List.lookup_cons,e']
theorem Gs {us:List aL}(hy:y∈us)(h:ab):(restrict us s h).aa y=s.aa y:=by
 cases y with
 | p i=>
  have:us.any (dL (.p i))=true:=List.any_eq_true.2 ⟨_,hy,by simp[dL]⟩;simp only[restrict,St.aa,List.getElem?_mapIdx,this,if_true];cases s.pe[i]? <;> rfl
 | l t=>
  have:us.any (dL (.l t))=true:=List.any_eq_true.2 ⟨_,hy,by simp[dL]⟩;simp only[restrict,St.aa];rw[Ak (p:=fun t=>us.any (dL (.l t))),if_pos this]
 | c v=>rfl
theorem QM {us:List aL}{tmps:Array Value}(hsz:tmps.size=C.N)(hnd:C.aO.Nodup)(hlt:∀t∈C.aO,t<C.N)(hpl:s.pe.length=C.aO.length)
 (hv:∀y∈us,∀v,s.aa y=some v->VS C ρ w tmps y v) (h:ab):ER C ρ w (restrict us s h).pe (restrict us s h).lo tmps:=by
 refine⟨hsz,hnd,hlt,by simp[restrict,hpl],?_,?_⟩
 . intro i v t h1 h2;simp only[restrict,List.getElem?_mapIdx,Option.map_eq_some_iff]at h1;obtain⟨u,h3,h4⟩:=h1;split at h4
   . rename_i hu;subst h4;obtain⟨y,hy,hs⟩:=List.any_eq_true.1 hu;cases y <;> simp[dL]at hs;subst hs;exact hv _ hy u h3 t h2
   . subst h4;exact .cR _
 . intro t v h1;simp only[restrict]at h1;rw[Ak (p:=fun t=>us.any (dL (.l t)))]at h1;split at h1
   . rename_i hu;obtain⟨y,hy,hs⟩:=List.any_eq_true.1 hu;cases y <;> simp[dL]at hs;subst hs;exact hv _ hy v h1
   . cases h1
end Go.Ab

/-
  Own work: what the trace of a drawn region leaves from operation to operation.
-/
namespace Go.Ab
variable {k:Nat}
structure nD (call:dM)(inv:fw)(il:List aU)(un:Nat->List Nat)(st:Nat->ao)(h0:Nat->ab)(r:Nat->HR):Prop where
 step:∀k o,il[k]? = some o->tY call inv st h0 r k o (un k)
 wr:∀g as h r,call g as h=some r->fo h r
def own (st:Nat->ao)(r:Nat->HR)(k b:Nat):Prop:=b∈(r k).wr\/((st k).s.hp.length<=b/\b<(r k).h.length)
variable {call:dM} {inv:fw} {il:List aU} {un:Nat->List Nat} {st:Nat->ao} {h0:Nat->ab} {r:Nat->HR}
namespace nD
variable (T:nD call inv il un st h0 r)
include T
theorem Gt (hk:k<il.length):fo (h0 k) (r k):=by
 have sk:=T.step k il[k] (by simp[hk]);obtain⟨b,_,h1,h2⟩:=sk.wanted;cases b with
 | true=>exact Ai T.wr (h1 rfl)
 | false=>rw[h2 rfl];exact pr _
theorem ua (hk:k<il.length):(st k).s.hp.length<=(r k).h.length:=by
 have:=(T.Gt hk).1;rw[(T.step k il[k] (by simp[hk])).len]at this;exact this
theorem ub (hk:k<il.length):(st (k+1)).s.hp.length=(r k).h.length:=by
 rw[(T.step k il[k] (by simp[hk])).next];exact rq _ _ _ _ (T.ua hk)
theorem iq {i:Nat}:∀{j:Nat},i<=j->j<=il.length->(st i).s.hp.length<=(st j).s.hp.length
 | 0,h,_=>by
                 have:i=0:=by omega
                 subst this;exact Nat.le_refl _
 | j+1,h,hj=>by
  by_cases e:i=j+1
  . subst e;exact Nat.le_refl _
  . have h1:(st i).s.hp.length<=(st j).s.hp.length:=iq (by omega) (by omega);have h2:=T.ua (k:=j) (by omega);have h3:=T.ub (k:=j) (by omega);omega
theorem Al (hk:k<il.length)(b:Nat):(st (k+1)).s.hp[b]? = if b<(st k).s.hp.length then (if (r k).wr.contains b then (r k).h[b]? else (st k).s.hp[b]?) else (r k).h[b]? := by
 rw[(T.step k il[k] (by simp[hk])).next];have:=jD (r k).wr (st k).s.hp (r k).h 0 b (T.ua hk);simpa using this
theorem QN (hk:k<il.length){b:Nat}(ho:own st r k b):(st (k+1)).s.hp[b]? = (r k).h[b]? := by
 rw[T.Al hk];split
 . rename_i hlt;rcases ho with ho|ho
   . simp[ho]
   . omega
 . rfl
theorem QO (hk:k<il.length){b:Nat}(ho:¬own st r k b):(st (k+1)).s.hp[b]? = (st k).s.hp[b]? := by
 rw[T.Al hk];have h1:b∉(r k).wr:=fun h=>ho (.inl h)
 split
 . simp[h1]
 . rename_i hge;have h2:(r k).h.length<=b:=by
    rcases Nat.lt_or_ge b (r k).h.length with h|h
    . exact absurd (.inr ⟨by omega,h⟩) ho
    . exact h
   rw[List.getElem?_eq_none h2,List.getElem?_eq_none (by omega)]
theorem stays {i b:Nat}:∀{m:Nat},i<=m->m<=il.length->(∀j,i<=j->j<m->¬own st r j b)->(st m).s.hp[b]? = (st i).s.hp[b]?
 | 0,h,_,_=>by
                    have:i=0:=by omega
                    subst this;rfl
 | m+1,h,hm,ho=>by
  by_cases e:i=m+1
  . subst e;rfl
  . rw[T.QO (by omega) (ho m (by omega) (by omega))];exact stays (by omega) (by omega) fun j h1 h2=>ho j h1 (by omega)
theorem Gu (hk:k<il.length)(y:aL):(st (k+1)).s.aa y=((st k).s.put il[k].dst (r k).v).aa y:=by
 rw[(T.step k il[k] (by simp[hk])).next];cases y <;> rfl
theorem Am {i:Nat}{y:aL}:∀{m:Nat},i<=m->m<=il.length->(∀(j:Nat) (o:aU),i<=j->j<m->il[j]? = some o->dL o.dst y=false)->(st m).s.aa y=(st i).s.aa y
 | 0,h,_,_=>by
                    have:i=0:=by omega
                    subst this;rfl
 | m+1,h,hm,ho=>by
  by_cases e:i=m+1
  . subst e;rfl
  . rw[T.Gu (by omega),QL (ho m _ (by omega) (by omega) (by simp))];exact Am (by omega) (by omega) fun j o h1 h2 h3=>ho j o h1 (by omega) h3
theorem cR {b:Nat}(h:(st 0).s.hp[b]? = some none):∀{k:Nat},k<=il.length->(st k).s.hp[b]? = some none
 | 0,_=>h
 | k+1,hk=>by
  have ih:=cR h (k:=k) (by omega);have hlt:=(List.getElem?_eq_some_iff.1 ih).1;rw[T.Al (by omega),if_pos hlt];have:b∉(r k).wr:=by
   intro hb;have sk:=T.step k il[k] (by simp);obtain⟨x,hx⟩:=sk.ry b hb;rw[sk.known b x hx]at ih;cases ih
  simp[this,ih]
theorem Gv (hk:k<=il.length):(st k).s.pe.length=(st 0).s.pe.length:=by
 induction k with
 | zero=>rfl
 | succ k ih=>
  rw[←ih (by omega),(T.step k il[k] (by simp)).next];cases il[k].dst <;> simp[St.put]
theorem bX (hk:k<=il.length):(st k).s.bX=(st 0).s.bX:=by
 induction k with
 | zero=>rfl
 | succ k ih=>
  rw[←ih (by omega),(T.step k il[k] (by simp)).next];cases il[k].dst <;> simp[St.put]
end nD
end Go.Ab

/-
  Own work: a drawn region: whatever order is drawn, the state behind it is that of the text's order.
-/
namespace Go.Ab
variable {call:dM} {inv:fw} {il:List aU} {un:Nat->List Nat} {st:Nat->ao} {h0:Nat->ab} {r:Nat->HR} {C:Cx} {bits:List Nat} {ρ0:au} {w0:World} {df:List Deferred}
structure Inv (C:Cx)(il:List aU)(st:Nat->ao)(r:Nat->HR)(bits:List Nat)(ρ0:au)(w0:World)(df:List Deferred)(S:Nat->Prop)(ρ:au)(H:ab)(a:Act)(w:World):Prop where
 hlen:H.length=(st il.length).s.hp.length
 mem:Mem C.P C.gl ρ H w
 ext:Ext (st 0).s.hp H ρ0 ρ w0 w
 uc:∀k,k<il.length->¬S k->∀b,(st k).s.hp.length<=b->b<(r k).h.length->H[b]? = some (some .hole)
 heap:∀b k,k<=il.length->(∀i,i<k->own st r i b->S i)->(∀j,k<=j->j<il.length->S j->¬own st r j b)->∀o,(st k).s.hp[b]? = some (some o)->H[b]? = some (some o)/\o.top<=(st k).s.hp.length
 slot:∀y k,k<=il.length->(∀(i:Nat) o,i<k->il[i]? = some o->dL o.dst y=true->S i)->(∀(j:Nat) o,k<=j->il[j]? = some o->S j->dL o.dst y=false) ->
  ∀v,(st k).s.aa y=some v->VS C ρ w a.tmps y v/\((∃c,y = .c c)\/v.top<=(st k).s.hp.length)
 size:a.tmps.size=C.N
 fR:a.defers=df
 An:∀i,S i->i<il.length->∀j,j<i->(bits.getD i 0).testBit j=true->S j
theorem Inv.after (T:nD call inv il un st h0 r){S:Nat->Prop}{ρ:au}{H:ab}{a:Act}{w:World}(I:Inv C il st r bits ρ0 w0 df S ρ H a w)(hnd:C.aO.Nodup){k:Nat}{io:aU}(hio:il[k]? = some io)(hS:¬S k)
 (hap:∀(i:Nat) oi,il[i]? = some oi->∀j∈un i,∃oj,il[j]? = some oj/\oW oj oi=true)
 (hb1:∀j,j<k->¬S j->j∈un k) (hb2:∀j,k<j->j<il.length->S j->k∈un j) (hb3:∀j,j<k->(bits.getD k 0).testBit j=true->S j)
 (hkey:∀(b:Nat) x,(h0 k)[b]? = some (some x)->H[b]? = some (some x)) {dst:Option Tmp} (hd:jV C dst=some io.dst) {v':Value} {w':World} {ρ':au}
 (hv:V ρ' w' (r k).v v') (m':Mem C.P C.gl ρ' (r k).h w') (x:Ext (h0 k) (r k).h (dP (st k).s.hp.length ρ) ρ' w w') :
 ∃ρn H',Inv C il st r bits ρ0 w0 df (fun i=>S i\/i=k) ρn H' (a.put dst v') w':=by
 have hk:k<il.length:=(List.getElem?_eq_some_iff.1 hio).1;have hioe:il[k]=io:=(List.getElem?_eq_some_iff.1 hio).2;have sk:=T.step k io hio;have hlo:(h0 k).length=(st k).s.hp.length:=sk.len;have hle:=T.ua hk;have hnx:=T.ub hk;have hwr:=T.Gt hk;have hmn:=T.iq (i:=k+1) (j:=il.length) (by omega) (Nat.le_refl _);generalize hloe:(st k).s.hp.length=lo at *
 generalize hhie:(r k).h.length=hi at *
 let ownb:Nat->Bool:=fun b=>(r k).wr.contains b || (decide (lo<=b) && decide (b<hi))
 have ownb_iff:∀b,ownb b=true↔own st r k b:=by
  intro b;simp only[ownb,own,hloe,hhie];simp
 let ρn:au:=⟨fun b=>if b<hi then ρ' b else ρ b,ρ.X⟩
 let H':ab:=H.mapIdx fun b o=>if ownb b then ((r k).h[b]?).join else o
 have hH':∀b,H'[b]? = (H[b]?).map fun o=>if ownb b then ((r k).h[b]?).join else o:=by
  intro b;simp only[H',List.getElem?_mapIdx]
 have hH'len:H'.length=H.length:=by simp[H']
 have cut_eq:∀b,b<lo->(dP lo ρ) b=ρ b:=fun b hb=>by simp only[dP];rw[if_pos hb]
 have cut_ge:∀b,lo<=b->(dP lo ρ) b = .fresh:=fun b hb=>by simp only[dP];rw[if_neg (by omega)]
 have fresh_new:∀b,lo<=b->b<hi->ρ b = .fresh:=fun b h1 h2=>I.mem.cW b .hole (I.uc k hk hS b (by omega) (by omega))
 have h0none:∀b,b<lo->H[b]? = some none->(h0 k)[b]? = some none:=by
  intro b hb hn;cases hz:(h0 k)[b]? with
  | none=>rw[List.getElem?_eq_none_iff]at hz;omega
  | some z=>cases z with
    | none=>rfl
    | some z=>rw[hkey b z hz]at hn;cases hn
 have ρn_lt:∀b,b<hi->ρn b=ρ' b:=fun b hb=>by show (if b<hi then ρ' b else ρ b)=_;rw[if_pos hb]
 have ρn_ge:∀b,hi<=b->ρn b=ρ b:=fun b hb=>by show (if b<hi then ρ' b else ρ b)=_;rw[if_neg (by omega)]
 have E:Ext H H' ρ ρn w w':=by
  refine⟨x.os,x.tape,x.output,x.size,by rw[hH'len];exact Nat.le_refl _,rfl,?_,?_,?_,?_,?_,?_,?_,x.shape⟩
  . intro b hb;have:ownb b=false:=by
     rw[Bool.eq_false_iff];intro ho;rcases (ownb_iff b).1 ho with h|⟨h1,h2⟩
     . obtain⟨z,hz⟩:=sk.ry b h;rw[hkey b z hz]at hb;cases hb
     . rw[I.uc k hk hS b h1 h2]at hb;cases hb
    rw[hH' b,hb];simp[this]
  . intro b hb;rcases Nat.lt_or_ge b hi with h|h
    . rw[ρn_lt b h];have hblo:b<lo:=by
       rcases Nat.lt_or_ge b lo with h'|h'
       . exact h'
       . rw[I.uc k hk hS b (by omega) (by omega)]at hb;cases hb
      rw[x.same b (h0none b hblo hb),cut_eq b hblo]
    . exact ρn_ge b h
  . intro b c d hb;rcases Nat.lt_or_ge b hi with h|h
    . rw[ρn_lt b h];rcases Nat.lt_or_ge b lo with h'|h'
      . exact x.live b c d (by rw[cut_eq b h'];exact hb)
      . rw[fresh_new b h' h]at hb;cases hb
    . rw[ρn_ge b h];exact .inl hb
  . intro b hb;rcases Nat.lt_or_ge b hi with h|h
    . rw[ρn_lt b h];rcases Nat.lt_or_ge b lo with h'|h'
      . exact x.dead b (by rw[cut_eq b h'];exact hb)
      . rw[fresh_new b h' h]at hb;cases hb
    . rw[ρn_ge b h];exact hb
  . intro b hb;rcases Nat.lt_or_ge b hi with h|h
    . rw[ρn_lt b h];rcases Nat.lt_or_ge b lo with h'|h'
      . exact x.nil b (by rw[cut_eq b h'];exact hb)
      . rw[fresh_new b h' h]at hb;cases hb
    . rw[ρn_ge b h];exact .inl hb
  . intro c hc hu;refine x.bU c hc fun b d hb=>?_
    rcases Nat.lt_or_ge b lo with h'|h'
    . rw[cut_eq b h']at hb;exact h0none b h' (hu b d hb)
    . rw[cut_ge b h']at hb;cases hb
  . intro b c d hb hc;rcases Nat.lt_or_ge b hi with h|h
    . rw[ρn_lt b h]at hb;rcases x.back b c d hb hc with h1|⟨b0,d0,h1,h2⟩
      . rcases Nat.lt_or_ge b lo with h'|h'
        . rw[cut_eq b h']at h1;exact .inl h1
        . rw[cut_ge b h']at h1;cases h1
      . rcases Nat.lt_or_ge b0 lo with h'|h'
        . rw[cut_eq b0 h']at h1;refine .inr ⟨b0,d0,h1,fun hn=>h2 (h0none b0 h' hn)⟩
        . rw[cut_ge b0 h']at h1;cases h1
    . rw[ρn_ge b h]at hb;exact .inl hb
 have hFree:∀c,cQ ρ' c->cQ ρn c:=by
  intro c hc;have hX:ρ'.X=(dP lo ρ).X:=x.X;have h2:=hc.2;rw[hX]at h2;refine⟨fun b d hb=>?_,fun hx=>h2 (.inl hx)⟩;rcases Nat.lt_or_ge b hi with h|h
  . rw[ρn_lt b h]at hb;exact hc.1 b d hb
  . rw[ρn_ge b h]at hb;exact h2 (.inr ⟨b,d,by omega,hb⟩)
 have top':∀{y:AV} {u:Value},V ρ' w' y u->y.top<=hi:=fun hy=>hy.top fun b hb=>m'.fresh b (by omega)
 have hM:Mem C.P C.gl ρn H' w':=by
  refine⟨?_,?_,?_,?_,?_,?_,fun g v hg=>(I.mem.gl g v hg).mono E⟩
  . intro b o hb;rw[hH' b]at hb;cases hz:H[b]? with
    | none=>rw[hz]at hb;cases hb
    | some z=>
     rw[hz]at hb;simp only[Option.map_some,Option.some.injEq]at hb;have useR:(r k).h[b]? = some (some o)->BR C.P C.gl ρn w' b o:=by
      intro hr;have hb':b<hi:=by have:=(List.getElem?_eq_some_iff.1 hr).1;omega
      have hbr:=m'.cW b o hr;exact hbr.fX (n:=hi) (fun b hb=>ρn_lt b hb) hFree hb' (hbr.top fun b hb=>m'.fresh b (by omega))
     split at hb
     . rename_i ho;refine useR ?_;cases hq:(r k).h[b]? with
       | none=>rw[hq]at hb;cases hb
       | some q=>rw[hq]at hb;simp at hb;rw[hb]
     . rename_i hno;subst hb;have hno':¬own st r k b:=fun h=>hno ((ownb_iff b).2 h)
       have hbr:=I.mem.cW b o hz;rcases Nat.lt_or_ge b lo with h'|h'
       . cases hz0:(h0 k)[b]? with
         | none=>rw[List.getElem?_eq_none_iff]at hz0;omega
         | some z0=>
          cases z0 with
          | some o'=>
           have:=hkey b o' hz0;rw[hz]at this;cases this;refine useR ?_;rw[hwr.2 b (by omega) (fun h=>hno' (.inl h)),hz0]
          | none=>
           refine hbr.mono E ?_ ?_
           . rw[ρn_lt b (by omega),x.same b hz0,cut_eq b h']
           . intro c d hl;refine x.bU c (I.mem.bound b c d hl) fun b' d' hb'=>?_
             rcases Nat.lt_or_ge b' lo with h''|h''
             . rw[cut_eq b' h'']at hb';have:=I.mem.inj _ _ _ _ _ hl hb';subst this;exact hz0
             . rw[cut_ge b' h'']at hb';cases hb'
       . have hge:hi<=b:=by
          rcases Nat.lt_or_ge b hi with h|h
          . exact absurd (.inr ⟨by omega,by omega⟩) hno'
          . exact h
         refine hbr.mono E (ρn_ge b hge) ?_;intro c d hl;refine x.bU c (I.mem.bound b c d hl) fun b' d' hb'=>?_
         rcases Nat.lt_or_ge b' lo with h''|h''
         . rw[cut_eq b' h'']at hb';have:=I.mem.inj _ _ _ _ _ hl hb';omega
         . rw[cut_ge b' h'']at hb';cases hb'
  . intro b hb;rw[hH'len,I.hlen]at hb;rw[ρn_ge b (by omega)];exact I.mem.fresh b (by rw[I.hlen];exact hb)
  . have key:∀b b' c d d',b<hi->hi<=b'->ρ' b = .live c d->ρ b' = .live c d'->False:=by
     intro b b' c d d' h1 h2 h3 h4;have:=m'.xo b c d h3;rw[x.X]at this;exact this (.inr ⟨b',d',by omega,h4⟩)
    intro b b' c d d' h1 h2;rcases Nat.lt_or_ge b hi with h|h <;> rcases Nat.lt_or_ge b' hi with h'|h'
    . rw[ρn_lt b h]at h1;rw[ρn_lt b' h']at h2;exact m'.inj _ _ _ _ _ h1 h2
    . rw[ρn_lt b h]at h1;rw[ρn_ge b' h']at h2;exact(key _ _ _ _ _ h h' h1 h2).elim
    . rw[ρn_ge b h]at h1;rw[ρn_lt b' h']at h2;exact(key _ _ _ _ _ h' h h2 h1).elim
    . rw[ρn_ge b h]at h1;rw[ρn_ge b' h']at h2;exact I.mem.inj _ _ _ _ _ h1 h2
  . intro b c d hb;rcases Nat.lt_or_ge b hi with h|h
    . rw[ρn_lt b h]at hb;exact m'.bound _ _ _ hb
    . rw[ρn_ge b h]at hb;exact Nat.lt_of_lt_of_le (I.mem.bound _ _ _ hb) x.size
  . intro c hc;exact Nat.lt_of_lt_of_le (I.mem.xb c hc) x.size
  . intro b c d hb hX;rcases Nat.lt_or_ge b hi with h|h
    . rw[ρn_lt b h]at hb;have:=m'.xo b c d hb;rw[x.X]at this;exact this (.inl hX)
    . rw[ρn_ge b h]at hb;exact I.mem.xo _ _ _ hb hX
 have hvn:V ρn w' (r k).v v':=hv.fX (n:=hi) (fun b hb=>ρn_lt b hb) hFree (top' hv);refine⟨ρn,H',⟨by rw[hH'len];exact I.hlen,hM,I.ext.trans E,?_,?_,?_,?_,?_,?_⟩⟩
 . -- holes
   intro k' hk' hS' b h1 h2;have hne:k'≠k:=fun e=>hS' (.inr e)
   have hh:=I.uc k' hk' (fun h=>hS' (.inl h)) b h1 h2;have:ownb b=false:=by
    rw[Bool.eq_false_iff];intro ho;rcases (ownb_iff b).1 ho with h|⟨h3,h4⟩
    . obtain⟨z,hz⟩:=sk.ry b h;rw[hkey b z hz]at hh;cases hh;have hst:=sk.known b _ hz;rcases Nat.lt_trichotomy k' k with hlt|heq|hgt
      . -- made by k' in the text's order, so k' has been carried out
        have hun:k'∈un k:=hb1 k' hlt (fun h=>hS' (.inl h));exact(sk.off b _ hz k' hun hlt).2 ⟨h1,h2⟩
      . exact hne heq
      . have hlen':=(List.getElem?_eq_some_iff.1 hz).1;have:=T.iq (i:=k) (j:=k') (by omega) (by omega);omega
    . rcases Nat.lt_trichotomy k' k with hlt|heq|hgt
      . have h5:=T.ub hk';have h6:=T.iq (i:=k'+1) (j:=k) (by omega) (by omega);omega
      . exact hne heq
      . have h6:=T.iq (i:=k+1) (j:=k') (by omega) (by omega);omega
   rw[hH' b,hh];simp[this]
 . -- heap
   intro b m hm h1 h2 o ho;by_cases bC:own st r k b
   . have hkm:k<m:=by
      rcases Nat.lt_or_ge k m with h|h
      . exact h
      . exact absurd bC (h2 k h hk (.inr rfl))
     have hst:=T.stays (i:=k+1) (b:=b) (m:=m) (by omega) hm (fun j hj1 hj2 hoj=>by
      have hSj:S j:=(h1 j hj2 hoj).resolve_right (by omega);have hun:=hb2 j (by omega) (by omega) hSj;have sj:=T.step j il[j] (by simp);rcases hoj with hoj|hoj
      . obtain⟨z,hz⟩:=sj.ry b hoj;have:=sj.off b z hz k hun (by omega);rcases bC with bC|bC
        . exact this.1 bC
        . exact this.2 bC
      . have hlj:=T.iq (i:=k+1) (j:=j) (by omega) (by omega);rcases bC with bC|bC
        . obtain⟨z,hz⟩:=sk.ry b bC;have:=(List.getElem?_eq_some_iff.1 hz).1;omega
        . omega)
     rw[hst,T.QN hk bC]at ho;have hbl:b<H.length:=by
      have:=(List.getElem?_eq_some_iff.1 ho).1;have:=I.hlen;omega
     refine⟨?_,?_⟩
     . rw[hH' b,List.getElem?_eq_getElem hbl];simp[(ownb_iff b).2 bC,ho]
     . have:=(m'.cW b o ho).top (n:=hi) (fun b hb=>m'.fresh b (by omega));have:=T.iq (i:=k+1) (j:=m) (by omega) hm;omega
   . have hno:ownb b=false:=by rw[Bool.eq_false_iff];exact fun h=>bC ((ownb_iff b).1 h)
     obtain⟨g1,g2⟩:=I.heap b m hm (fun i hi' hoi=>(h1 i hi' hoi).resolve_right (fun e=>bC (e ▸ hoi))) (fun j hj1 hj2 hSj=>h2 j hj1 hj2 (.inl hSj)) o ho;exact⟨by rw[hH' b,g1];simp[hno],g2⟩
 . -- slots
   intro y m hm h1 h2 v hv0;by_cases hy:dL io.dst y=true
   . have hkm:k<m:=by
      rcases Nat.lt_or_ge k m with h|h
      . exact h
      . have:=h2 k io h hio (.inr rfl);rw[hy]at this;cases this
     have hst:=T.Am (i:=k+1) (y:=y) (m:=m) (by omega) hm (fun j oj hj1 hj2 hoj=>by
      rw[Bool.eq_false_iff];intro hyj;have hSj:S j:=(h1 j oj hj2 hoj hyj).resolve_right (by omega);have hun:=hb2 j (by omega) (by omega) hSj;obtain⟨ok,bC,hapt⟩:=hap j oj hoj k hun;rw[hio]at bC;cases bC;simp only[oW,Bool.and_eq_true,Bool.not_eq_true']at hapt;have:=hapt.2;cases hd1:io.dst <;> cases hd2:oj.dst <;> cases y <;> simp[hd1,hd2,dL,Ff]at hy hyj this
      . exact this (hy.trans hyj.symm)
      . exact this (hy.trans hyj.symm))
     rw[hst,T.Gu hk,hioe]at hv0;have:=QK hy hv0;subst this;refine⟨VS.nC hd I.size hy hvn,.inr ?_⟩;have:=T.iq (i:=k+1) (j:=m) (by omega) hm;have:=top' hv;omega
   . have hy':dL io.dst y=false:=by simpa using hy
     obtain⟨g1,g2⟩:=I.slot y m hm (fun i oi hi' hoi hs=>(h1 i oi hi' hoi hs).resolve_right (fun e=>by subst e;rw[hio]at hoi;cases hoi;exact hy hs)) (fun j oj hj1 hj2 hSj=>h2 j oj hj1 hj2 (.inl hSj)) v hv0;exact⟨(g1.mono E).QJ hd hnd hy',g2⟩
 . rw[tZ];cases dst <;> simp[I.size]
 . rw[←I.fR];unfold Act.put;split <;> rfl
 . intro i hSi hi' j hj hbit;rcases hSi with hSi|rfl
   . exact .inl (I.An i hSi hi' j hj hbit)
   . exact .inl (hb3 j hj hbit)
end Go.Ab

/-
  Own work: a drawn region walked.
-/
namespace Go.Ab
variable {call:dM} {il:List aU} {st:Nat->ao} {h0:Nat->ab} {r:Nat->HR} {C:Cx} {bits:List Nat} {ρ0:au} {w0:World} {df:List Deferred} {ops:Array Oper}
theorem Gw {α:Type}{l:List α}{i:Nat}{x:α}(h:l[i]? = some x):(x,i)∈l.zipIdx:=by
 rw[List.mem_zipIdx_iff_getElem?];exact h
theorem Gx (h:pf ops.toList bits=true){i:Nat}{o:Oper}(ho:ops[i]? = some o) :
 (∀e∈o.after,Region.binds .any e=true->e.on<i)/\∀j,j<i->(bits.getD i 0).testBit j=true->∃e∈o.after,Region.binds .any e=true/\(e.on=j\/(j<e.on/\(bits.getD e.on 0).testBit j=true)):=by
 have:=List.all_eq_true.1 h (o,i) (Gw (by simpa using ho));simp only[Bool.and_eq_true]at this;obtain⟨h1,h2⟩:=this;refine⟨fun e he hb=>?_,fun j hj hbit=>?_⟩
 . have:=List.all_eq_true.1 h1 e (by simpa using he);rw[hb]at this;simpa using this
 . have:=List.all_eq_true.1 h2 j (by simpa using hj);rw[hbit]at this;simp only[Bool.not_true,Bool.false_or]at this;obtain⟨e,he,hh⟩:=List.any_eq_true.1 this;simp only[Bool.and_eq_true,Bool.or_eq_true,beq_iff_eq,decide_eq_true_eq]at hh;exact⟨e,by simpa using he,hh.1,hh.2⟩
theorem Gy {b i j:Nat}:j∈jk b i↔j<i/\b.testBit j=false:=by
 simp[jk]
theorem QP (h:pg il bits=true)(i:Nat)(oi:aU)(ho:il[i]? = some oi):∀j∈jk (bits.getD i 0) i,∃oj,il[j]? = some oj/\oW oj oi=true:=by
 intro j hj;have:=List.all_eq_true.1 h (oi,i) (Gw ho);have:=List.all_eq_true.1 this j hj;split at this
 . rename_i oj hoj;exact⟨oj,hoj,this⟩
 . cases this
theorem Inv.step (hcall:mn C.P C.gl call)(T:nD call (eK C.P) il (fun k=>jk (bits.getD k 0) k) st h0 r)(hil:jA C ops.toList ops.toList=some il)(hbits:pf ops.toList bits=true)(hdraw:pg il bits=true)
 (hnd:C.aO.Nodup) (hlt:∀t∈C.aO,t<C.N) (hpl:(st 0).s.pe.length=C.aO.length) (hgl:∀g v,C.gl g=some v->v.top<=(st 0).s.hp.length) {S:Nat->Prop} {ρ:au} {H:ab} {a:Act} {w:World}
 (I:Inv C il st r bits ρ0 w0 df S ρ H a w) {k:Nat} {o:Oper} (ho:ops[k]? = some o) (hS:¬S k) (hready:∀e∈o.after,Region.binds .any e=true->S e.on) {ro:Option Nat} {K:Act->World->Prop} {Q:Exit->Act->World->Prop}
 (hK:∀ρn H' a' w',Inv C il st r bits ρ0 w0 df (fun i=>S i\/i=k) ρn H' a' w'->K a' w'):wpOpIn (FR ro) 0 C.P ops Q k K a w:=by
 obtain⟨hlen,hget⟩:=ru hil;obtain⟨io,hio,hoi⟩:=hget k o (by simpa using ho);obtain⟨hd,hop,hg⟩:=Gn hoi;have hk:k<il.length:=(List.getElem?_eq_some_iff.1 hio).1;have sk:=T.step k io hio;obtain⟨hbb,hbt⟩:=Gx hbits ho;have hb3:∀j,j<k->(bits.getD k 0).testBit j=true->S j:=by
  intro j hj hbit;obtain⟨e,he,hb,hor⟩:=hbt j hj hbit;have hSe:=hready e he hb;have hek:=hbb e he hb;rcases hor with rfl|hor
  . exact hSe
  . exact I.An e.on hSe (by omega) j hor.1 hor.2
 have hb1:∀j,j<k->¬S j->j∈jk (bits.getD k 0) k:=by
  intro j hj hSj;rw[Gy];refine⟨hj,?_⟩;rw[Bool.eq_false_iff];exact fun hbit=>hSj (hb3 j hj hbit)
 have hb2:∀j,k<j->j<il.length->S j->k∈jk (bits.getD j 0) j:=by
  intro j hj hjl hSj;rw[Gy];refine⟨hj,?_⟩;rw[Bool.eq_false_iff];exact fun hbit=>hS (I.An j hSj hjl k hj hbit)
 have hap:=QP hdraw;have hkey:∀(b:Nat) x,(h0 k)[b]? = some (some x)->H[b]? = some (some x)/\x.top<=(st k).s.hp.length:=by
  intro b x hb;refine I.heap b k (by omega) ?_ ?_ x (sk.known b x hb)
  . intro i hi hoi;rcases Classical.em (S i) with h|h
    . exact h
    . have:=sk.off b x hb i (hb1 i hi h) hi;rcases hoi with hoi|hoi
      . exact absurd hoi this.1
      . exact absurd hoi this.2
  . intro j hj hjl hSj hoj;have hne:j≠k:=fun e=>hS (e ▸ hSj)
    have hun:=hb2 j (by omega) hjl hSj;rcases hoj with hoj|hoj
    . exact(T.step j il[j] (by simp)).QH k hun (by omega) b hoj x hb
    . have h1:=(List.getElem?_eq_some_iff.1 hb).1;rw[sk.len]at h1;have:=T.iq (i:=k) (j:=j) (by omega) (by omega);omega
 have hslot:∀y∈io.gh,∀v,(st k).s.aa y=some v->VS C ρ w a.tmps y v/\((∃c,y = .c c)\/v.top<=(st k).s.hp.length):=by
  intro y hy v hv;refine I.slot y k (by omega) ?_ ?_ v hv
  . intro i oi hi hoi hs;rcases Classical.em (S i) with h|h
    . exact h
    . obtain⟨oj,hoj,hapt⟩:=hap k io hio i (hb1 i hi h);rw[hoi]at hoj;cases hoj;simp only[oW,Bool.and_eq_true]at hapt;have:=List.all_eq_true.1 hapt.1.1 y hy;rw[hs]at this;cases this
  . intro j oj hj hoj hSj;have hne:j≠k:=fun e=>hS (e ▸ hSj)
    have hjl:=(List.getElem?_eq_some_iff.1 hoj).1;obtain⟨ok,bC,hapt⟩:=hap j oj hoj k (hb2 j (by omega) hjl hSj);rw[hio]at bC;cases bC;simp only[oW,Bool.and_eq_true]at hapt;have:=List.all_eq_true.1 hapt.1.2 y hy;simpa using this
 have iB:∀{x:AV} {v:Value},V ρ w x v->x.top<=(st k).s.hp.length->V (dP (st k).s.hp.length ρ) w x v:=fun hv ht=>
  hv.fX (fun b hb=>by simp only[dP];rw[if_pos hb]) (fun c hc=>hc.dP _) ht
 have hmem:Mem C.P C.gl (dP (st k).s.hp.length ρ) (h0 k) w:=by
  refine⟨?_,?_,?_,?_,?_,?_,?_⟩
  . intro b x hb;have h1:=(List.getElem?_eq_some_iff.1 hb).1;rw[sk.len]at h1;obtain⟨g1,g2⟩:=hkey b x hb;exact(I.mem.cW b x g1).fX (fun b hb=>by simp only[dP];rw[if_pos hb]) (fun c hc=>hc.dP _) h1 g2
  . intro b hb;rw[sk.len]at hb;simp only[dP];rw[if_neg (by omega)]
  . intro b b' c d d' h1 h2;simp only[dP]at h1 h2;split at h1
    . split at h2
      . exact I.mem.inj _ _ _ _ _ h1 h2
      . cases h2
    . cases h1
  . intro b c d h1;simp only[dP]at h1;split at h1
    . exact I.mem.bound _ _ _ h1
    . cases h1
  . rintro c (hc|⟨b,d,_,hb⟩)
    . exact I.mem.xb c hc
    . exact I.mem.bound _ _ _ hb
  . intro b c d h1 hX;simp only[dP]at h1;split at h1
    . rename_i hlt';rcases hX with hX|⟨b',d',hge,hb'⟩
      . exact I.mem.xo _ _ _ h1 hX
      . have:=I.mem.inj _ _ _ _ _ h1 hb';omega
    . cases h1
  . intro g v hg';refine iB (I.mem.gl g v hg') ?_;have:=hgl g v hg';have:=T.iq (i:=0) (j:=k) (by omega) (by omega);omega
 have hrel:Rel C (dP (st k).s.hp.length ρ) (restrict io.gh (st k).s (h0 k)) a w:=by
  refine⟨QM I.size hnd hlt (by rw[T.Gv (by omega)];exact hpl) ?_ _,hmem⟩;intro y hy v hv;obtain⟨g1,g2⟩:=hslot y hy v hv;cases y with
  | p i=>exact fun t ht=>iB (g1 t ht) (g2.resolve_left (by rintro⟨c,hc⟩;cases hc))
  | l t=>exact⟨g1.1,g1.2.1,iB g1.2.2 (g2.resolve_left (by rintro⟨c,hc⟩;cases hc))⟩
  | c _=>trivial
 have hfin:∀(v':Value) (w':World) (ρ':au),V ρ' w' (r k).v v'->Mem C.P C.gl ρ' (r k).h w'->Ext (h0 k) (r k).h (dP (st k).s.hp.length ρ) ρ' w w'->K (a.put o.dst v') w':=by
  intro v' w' ρ' hv m' x;obtain⟨ρn,H',I'⟩:=Inv.after T I hnd hio hS hap hb1 hb2 hb3 (fun b x hb=>(hkey b x hb).1) hd hv m' x;exact hK ρn H' _ w' I'
 obtain⟨b,hw,hb1',hb0'⟩:=sk.wanted;have hwr:eC (restrict io.gh (st k).s (h0 k)) io.guard=some b:=by
  rw[←hw];unfold eC;cases hgd:io.guard with
  | none=>rfl
  | some g=>
   obtain⟨y,want⟩:=g;simp only;rw[Gs (s:=(st k).s) (y:=y) (us:=io.gh) (by simp[aU.gh,hgd])]
 have hwant:=Ag hrel hg hwr;unfold wpOpIn;rw[ho];simp only[hwant];cases b with
 | true=>
  simp only[if_true];have hq:bR call (eK C.P) (restrict io.gh (st k).s (h0 k)) io.op=some (r k):=by
   rw[←hb1' rfl];refine Gm rfl fun y hy=>?_
   rw[Gs (by simp[aU.gh,hy])];cases y <;> rfl
  refine Gj hcall hrel hop hq ?_;rintro v' w' ⟨ρ',hv,m',x⟩;exact hfin v' w' ρ' hv m' x
 | false=>
  simp only[Bool.false_eq_true,if_false];refine⟨fun _ _=>trivial,?_⟩;have e:=hb0' rfl;refine hfin undef w (dP (st k).s.hp.length ρ) ?_ ?_ ?_
  . rw[e];exact V.undef
  . rw[e];exact hmem
  . rw[e];exact Ext.refl _ _ _
end Go.Ab

/-
  Own work: a drawn region walked, whole.
-/
namespace Go.Ab
variable {call:dM} {il:List aU} {st:Nat->ao} {h0:Nat->ab} {r:Nat->HR} {C:Cx} {bits:List Nat} {ρ0:au} {w0:World} {df:List Deferred} {ops:Array Oper}
theorem count_set:∀(l:List Bool) (k:Nat),l[k]? = some false->(l.set k true).count false+1=l.count false
 | [],k,h=>by simp at h
 | b::l,0,h=>by simp at h;subst h;simp
 | b::l,k+1,h=>by
  have:=count_set l k (by simpa using h);cases b <;> simp[this]
theorem all_true (l:List Bool)(h:l.count false=0)(i:Nat)(hi:i<l.length):l[i]? = some true:=by
 rw[List.count_eq_zero]at h;cases hq:l[i] with
 | true=>simp[hi,hq]
 | false=>exact absurd (hq ▸ List.getElem_mem hi) h
theorem QQ (hcall:mn C.P C.gl call)(T:nD call (eK C.P) il (fun k=>jk (bits.getD k 0) k) st h0 r)(hil:jA C ops.toList ops.toList=some il)(hbits:pf ops.toList bits=true)(hdraw:pg il bits=true)
 (hnd:C.aO.Nodup) (hlt:∀t∈C.aO,t<C.N) (hpl:(st 0).s.pe.length=C.aO.length) (hgl:∀g v,C.gl g=some v->v.top<=(st 0).s.hp.length) {ro:Option Nat} {Q:Exit->Act->World->Prop}
 (hQ:∀(S:Nat->Prop) ρ H a w,(∀i,i<il.length->S i)->Inv C il st r bits ρ0 w0 df S ρ H a w->Q .normal a w) :
 ∀(fuel:Nat) (listed:Array Bool) (ρ:au) (H:ab) (a:Act) (w:World),listed.size=ops.size->Inv C il st r bits ρ0 w0 df (fun i=>listed[i]? = some true) ρ H a w->listed.toList.count false<=fuel ->
  wpAnyIn (FR ro) 0 C.P .any ops Q fuel listed a w:=by
 have hlen:il.length=ops.size:=by have:=(ru hil).1;simpa using this
 intro fuel;induction fuel with
 | zero=>
  intro listed ρ H a w hsz I hc;have hall:∀i,i<ops.size->listed[i]? = some true:=fun i hi=>by
   have:=all_true listed.toList (by omega) i (by simp;omega);simpa using this
  refine⟨?_,hQ _ ρ H a w (fun i hi=>hall i (by omega)) I⟩;rw[List.eq_nil_iff_forall_not_mem];intro i hi;obtain⟨h1,o,h2,_⟩:=mem_ready.1 hi;have hi':=(Array.getElem?_eq_some_iff.1 h2).1;have:=hall i hi';rw[Array.getD_eq_getD_getElem?,this]at h1;cases h1
 | succ fuel ih=>
  intro listed ρ H a w hsz I hc;refine⟨fun hr=>?_,fun k hk=>?_⟩
  . refine hQ _ ρ H a w (fun i=>?_) I;induction i using Nat.strongRecOn with
    | _ i ihi=>
     intro hi;have hi':i<ops.size:=by omega
     have hl:i<listed.size:=by omega
     cases hq:listed[i] with
     | true=>simp[hl,hq]
     | false=>
      exfalso;have:i∈Region.ready .any ops listed:=by
       rw[mem_ready];refine⟨by rw[Array.getD_eq_getD_getElem?];simp[hl,hq],ops[i],by simp[hi'],fun e he hb=>?_⟩;have hon:=(Gx (bits:=bits) hbits (i:=i) (o:=ops[i]) (by simp[hi'])).1 e he hb;have:=ihi e.on hon (by omega);rw[Array.getD_eq_getD_getElem?,this];rfl
      rw[hr]at this;cases this
  . obtain⟨h1,o,h2,h3⟩:=mem_ready.1 hk;have hk':=(Array.getElem?_eq_some_iff.1 h2).1;have hl:k<listed.size:=by omega
    have hkf:listed[k]? = some false:=by
     rw[Array.getD_eq_getD_getElem?]at h1;cases hq:listed[k]? with
     | none=>rw[hq]at h1;cases h1
     | some b=>rw[hq]at h1;simp at h1;rw[h1]
    refine Inv.step hcall T hil hbits hdraw hnd hlt hpl hgl I h2 (by rw[hkf];simp) (fun e he hb=>?_) ?_
    . have:=h3 e he hb;rw[Array.getD_eq_getD_getElem?]at this;cases hq:listed[e.on]? with
      | none=>rw[hq]at this;cases this
      | some b=>rw[hq]at this;simp at this;rw[this]
    . intro ρn H' a' w' I';refine ih _ ρn H' a' w' (by simp[hsz]) ?_ ?_
      . have:(fun i=>(listed.setIfInBounds k true)[i]? = some true)=(fun i=>listed[i]? = some true\/i=k):=by
         funext i
         rw[Array.getElem?_setIfInBounds];by_cases e:k=i
         . subst e;simp[hl]
         . rw[if_neg e];simp[Ne.symm e]
        rw[this];exact I'
      . have:=count_set listed.toList k (by simpa using hkf);rw[Array.toList_setIfInBounds];omega
theorem QR (hcall:mn C.P C.gl call)(hmix:C.P.follows .mixedOrders=true)(hwr:∀g as h r,call g as h=some r->fo h r){ro:Option Nat}{id:Nat}{ρ:au}{a:Act}{w:World}(hil:jA C ops.toList ops.toList=some il)(hbits:pf ops.toList bits=true)(hdraw:pg il bits=true)
 {Q:Exit->Act->World->Prop} {s s':ao} (rel:Rel C ρ s.s a w) (hq:dN call (eK C.P) (il.zipIdx.map fun (o,i)=>(o,jk (bits.getD i 0) i)) ⟨{ s.s with lo:=[] },s.wr⟩ []=some s')
 (hQ:∀ρ' a' w',Rel C ρ' s'.s a' w'->Ext s.s.hp s'.s.hp ρ ρ' w w'->a'.defers=a.defers->s'.s.bX=s.s.bX->Q .normal a' w'):(Code.region id ops true).wpIn (FR ro) 0 C.P Q a w:=by
 obtain⟨hlen,hget⟩:=ru hil;have hlen':il.length=ops.size:=by simpa using hlen
 obtain⟨st,h0,r,_,e2,e3,e4⟩:=trace _ _ [] s' (fun _=>s) (fun _=>[]) (fun _=>⟨.cR,[],[]⟩) (by intro j d hj;simp at hj) hq;simp only[List.length_nil,Nat.zero_add,List.length_map,List.length_zipIdx]at e2 e3 e4;have T:nD call (eK C.P) il (fun k=>jk (bits.getD k 0) k) st h0 r:=by
  refine⟨fun k o ho=>e4 k o _ ?_,hwr⟩;rw[List.getElem?_map,List.getElem?_zipIdx,ho];simp
 have hst0:(st 0).s.hp=s.s.hp:=by rw[e2]
 have hpe0:(st 0).s.pe=s.s.pe:=by rw[e2]
 have hn:(st il.length)=s':=e3;have er:=rel.er;have hgl:∀g v,C.gl g=some v->v.top<=(st 0).s.hp.length:=fun g v hg=>by
  rw[hst0];exact(rel.mem.gl g v hg).top fun b hb=>rel.mem.fresh b hb
 refine wpIn_region_any hmix ?_;have md:=rel.mem.drew (w.drawn+1);have xd:=Ext.drew s.s.hp ρ w (w.drawn+1);have hmono:=T.iq (i:=0) (j:=il.length) (by omega) (Nat.le_refl _);let H0:ab:=s.s.hp++List.replicate ((st il.length).s.hp.length-s.s.hp.length) (some .hole)
 have hH0:∀b,H0[b]? = if b<s.s.hp.length then s.s.hp[b]? else if b<(st il.length).s.hp.length then some (some .hole) else none:=by
  intro b;simp only[H0];rw[List.getElem?_append];split
  . rfl
  . rename_i hge;rw[List.getElem?_replicate];rw[hst0]at hmono;by_cases h:b<(st il.length).s.hp.length
    . rw[if_pos (by omega),if_pos h]
    . rw[if_neg (by omega),if_neg h]
 have hH0len:H0.length=(st il.length).s.hp.length:=by
  simp only[H0];rw[hst0]at hmono;simp;omega
 have hext:Ext (st 0).s.hp H0 ρ ρ w { w with drawn:=w.drawn+1 }:=by
  rw[hst0];refine⟨xd.os,xd.tape,xd.output,xd.size,by rw[hH0len];rw[hst0]at hmono;exact hmono,rfl,?_,xd.same,xd.live,xd.dead,xd.nil,xd.bU,xd.back,xd.shape⟩;intro b hb;rw[hH0 b,if_pos (List.getElem?_eq_some_iff.1 hb).1];exact hb
 have hmem:Mem C.P C.gl ρ H0 { w with drawn:=w.drawn+1 }:=by
  refine⟨?_,?_,md.inj,md.bound,md.xb,md.xo,md.gl⟩
  . intro b o hb;rw[hH0 b]at hb;split at hb
    . exact md.cW b o hb
    . split at hb
      . cases hb;exact md.fresh b (by omega)
      . cases hb
  . intro b hb;rw[hH0len]at hb;rw[hst0]at hmono;exact md.fresh b (by omega)
 have init:Inv C il st r bits ρ w a.defers (fun i=>(Array.replicate ops.size false)[i]? = some true) ρ H0 a { w with drawn:=w.drawn+1 }:=by
  have hnone:∀i:Nat,¬(Array.replicate ops.size false)[i]? = some true:=by
   intro i h;rw[Array.getElem?_replicate]at h;split at h <;> cases h
  refine⟨hH0len,hmem,hext,?_,?_,?_,er.size,rfl,?_⟩
  . intro k hk _ b h1 h2;have g1:=T.iq (i:=0) (j:=k) (by omega) (by omega);have g2:=T.ub hk;have g3:=T.iq (i:=k+1) (j:=il.length) (by omega) (Nat.le_refl _);rw[hst0]at g1;rw[hH0 b,if_neg (by omega),if_pos (by omega)]
  . intro b k hk h1 _ o ho;have hst:=T.stays (i:=0) (b:=b) (m:=k) (by omega) hk (fun j _ hj hoj=>hnone j (h1 j hj hoj));rw[hst,hst0]at ho;have hlt:=(List.getElem?_eq_some_iff.1 ho).1;refine⟨by rw[hH0 b,if_pos hlt];exact ho,?_⟩;have h3:=(rel.mem.cW b o ho).top (n:=s.s.hp.length) fun b hb=>rel.mem.fresh b hb
    have g1:=T.iq (i:=0) (j:=k) (by omega) hk;rw[hst0]at g1;omega
  . intro y k hk h1 _ v hv;have hst:=T.Am (i:=0) (y:=y) (m:=k) (by omega) hk (fun j o _ hj ho=>by
     rw[Bool.eq_false_iff];exact fun hs=>hnone j (h1 j o hj ho hs))
    rw[hst,e2]at hv;have g1:=T.iq (i:=0) (j:=k) (by omega) hk;rw[hst0]at g1;cases y with
    | p i=>
     simp only[St.aa]at hv;have hi:=(List.getElem?_eq_some_iff.1 hv).1;have hp:=er.iN;refine⟨fun t ht=>(er.pe i v t hv ht).mono xd,.inr ?_⟩;have h3:=(er.pe i v C.aO[i] hv (by simp)).top (n:=s.s.hp.length) fun b hb=>rel.mem.fresh b hb
     omega
    | l t=>simp[St.aa]at hv
    | c c=>exact⟨trivial,.inl ⟨c,rfl⟩⟩
  . intro i hi;exact absurd hi (hnone i)
 refine QQ hcall T hil hbits hdraw er.nodup er.lt (by rw[hpe0];exact er.iN) hgl (ρ0:=ρ) (w0:=w) (df:=a.defers) ?_ ops.size _ ρ H0 a _ (by simp) init ?_
 . intro S ρ1 H a1 w1 hall I;have hblk:∀b o,(st il.length).s.hp[b]? = some (some o)->H[b]? = some (some o):=fun b o ho=>
    (I.heap b il.length (Nat.le_refl _) (fun i hi _=>hall i hi) (fun j hj hj'=>by omega) o ho).1
   have hslot:∀y v,(st il.length).s.aa y=some v->VS C ρ1 w1 a1.tmps y v:=fun y v hv=>
    (I.slot y il.length (Nat.le_refl _) (fun i o hi _ _=>hall i hi) (fun j o hj ho=>by
     have:=(List.getElem?_eq_some_iff.1 ho).1;omega) v hv).1
   rw[hn]at hblk hslot;have hl1:H.length=s'.s.hp.length:=by rw[I.hlen,hn]
   refine hQ ρ1 a1 w1 ⟨⟨I.size,er.nodup,er.lt,?_,fun i v t hv ht=>hslot (.p i) v hv t ht,fun t v hv=>hslot (.l t) v hv⟩,?_⟩ ?_ I.fR ?_
   . rw[←hn,T.Gv (Nat.le_refl _),hpe0];exact er.iN
   . exact⟨fun b o hb=>I.mem.cW b o (hblk b o hb),fun b hb=>I.mem.fresh b (by omega),I.mem.inj,I.mem.bound,I.mem.xb,I.mem.xo,I.mem.gl⟩
   . have x:=I.ext;rw[hst0]at x;refine⟨x.os,x.tape,x.output,x.size,by rw[←hl1];exact x.len,x.X,fun b hb=>?_,x.same,x.live,x.dead,x.nil,x.bU,x.back,x.shape⟩;rw[←hn];exact T.cR (by rw[hst0];exact hb) (Nat.le_refl _)
   . rw[←hn,T.bX (Nat.le_refl _),e2]
 . rw[Array.toList_replicate];simp
end Go.Ab

/-
  Own work: the evaluator's steps: what every run leaves of the heap; deferred marks; the return; results.
-/
namespace Go.Ab
variable {c:Code}
variable {P:Program} {gl:Nat->Option AV} {ρ:au} {w:World} {h:ab} {C:Cx} {s:St} {a:Act}
section scope
variable {F:Fence} {n:Nat} {b:Frame} {k:List Item} {cs:List Frame} {Q:Exit->Act->World->Prop}
theorem pw:step P (lone (b.atR a (.code (.scope c)::k)) cs w) = .next (lone (b.atR a (.code c :: .inScope c::k)) cs w):=
 step_lone_go (by simp[stepG,stepG.exec,Frame.atR])
theorem QS:step P (lone (b.atR a (.inScope c::k)) cs w) = .next (lone (b.atR a k) cs w):=
 step_lone_go (by simp[stepG,stepG.exec,Frame.atR])
def noGoto (Q:Exit->Act->World->Prop):Exit->Act->World->Prop
 | .goto _,_,_=>False
 | e,a,w=>Q e a w
theorem QT (h:c.wpIn F n P (noGoto Q) a w):(Code.scope c).wpIn F n P Q a w:=by
 intro b k cs hro hb hr;have h0:(lone (b.atR a (.code (.scope c)::k)) cs w).fenced P F:=fenced_calm hb hr rfl;obtain⟨e,a₁,w₁,hq,harr⟩:=h b (.inScope c::k) cs hro hb hr;cases e with
 | normal=>exact⟨.normal,a₁,w₁,hq,.head h0 pw (StepsIn.trans harr (.one (fenced_calm hb hr rfl) QS))⟩
 | exit id=>exact⟨_,a₁,w₁,hq,fun k' hk=>.head h0 pw (harr.1 k' (by simp[exitTo,hk])),
     fun hr' hk=>let ⟨k₁,h1,h2⟩:=harr.2 hr' (by simp[exitTo,hk]);⟨k₁,h1,.head h0 pw h2⟩⟩
 | goto l=>exact hq.elim
 | ret=>exact⟨_,a₁,w₁,hq,.of_steps (.one h0 pw) harr⟩
 | panic ch=>exact⟨_,a₁,w₁,hq,.of_steps (.one h0 pw) harr⟩
 | outgrown=>exact⟨_,a₁,w₁,hq,.of_steps (.one h0 pw) harr⟩
end scope
def fD (s s':ao):Prop:=s.s.hp.length<=s'.s.hp.length/\(∀b∈s.wr,b∈s'.wr)/\∀b,b<s.s.hp.length->b∉s'.wr->s'.s.hp[b]? = s.s.hp[b]?
theorem fD.refl (s:ao):fD s s:=⟨Nat.le_refl _,fun _ h=>h,fun _ _ _=>rfl⟩
theorem fD.trans {s s1 s2:ao}(x:fD s s1)(y:fD s1 s2):fD s s2:=
 ⟨Nat.le_trans x.1 y.1,fun b hb=>y.2.1 b (x.2.1 b hb),fun b hb hn=>by
  rw[y.2.2 b (Nat.lt_of_lt_of_le hb x.1) hn,x.2.2 b hb (fun h=>hn (y.2.1 b h))]⟩
theorem fD.step {s:ao}{q:HR}{x:St}(hx:x.hp=q.h)(hq:fo s.s.hp q):fD s ⟨x,q.wr++s.wr⟩:=
 ⟨by rw[hx];exact hq.1,fun b hb=>List.mem_append_right _ hb,fun b hb hn=>by
  simp only[List.mem_append,not_or]at hn;show x.hp[b]? = _;rw[hx];exact hq.2 b hb hn.1⟩
theorem fD.same {s:ao}{x:St}(hx:x.hp=s.s.hp):fD s ⟨x,s.wr⟩:=⟨by rw[hx];exact Nat.le_refl _,fun _ h=>h,fun b _ _=>by show x.hp[b]? = _;rw[hx]⟩
theorem Ao (s:St)(d:eh)(v:AV):(s.put d v).hp=s.hp:=by cases d <;> rfl
theorem Ap {call:dM}{inv:fw}(hcall:∀g as h r,call g as h=some r->fo h r):∀(l:List aU) (s s':ao),eE call inv l s=some s'->fD s s'
 | [],s,s',h=>by cases h;exact .refl _
 | o::l,s,s',h=>by
  simp only[eE]at h;split at h
  . split at h
    . rename_i q hq;exact(fD.step rfl (Ai hcall hq)).trans (Ap hcall l _ s' h)
    . cases h
  . exact(fD.same (Ao _ _ _)).trans (Ap hcall l _ s' h)
  . cases h
theorem Aq {call:dM}{inv:fw}:∀(l:List aU) (s s':ao),eE call inv l s=some s'->s'.s.bX=s.s.bX
 | [],s,s',h=>by cases h;rfl
 | o::l,s,s',h=>by
  have hp:∀(s:St) (d:eh) (v:AV),(s.put d v).bX=s.bX:=fun s d v=>by cases d <;> rfl
  simp only[eE]at h;split at h
  . split at h
    . exact(Aq l _ s' h).trans (hp _ _ _)
    . cases h
  . exact(Aq l _ s' h).trans (hp _ _ _)
  . cases h
theorem QU {call:dM}{inv:fw}(hcall:∀g as h r,call g as h=some r->fo h r){l:List (aU×List Nat)}{s s':ao}(h:dN call inv l s []=some s'):fD s s':=by
 obtain⟨st,h0,r,_,e2,e3,e4⟩:=trace l s [] s' (fun _=>s) (fun _=>[]) (fun _=>⟨.cR,[],[]⟩) (by intro j d hj;simp at hj) h;simp only[List.length_nil,Nat.zero_add]at e2 e3 e4;have key:∀k,k<=l.length->fD (st 0) (st k):=by
  intro k;induction k with
  | zero=>intro _;exact .refl _
  | succ k ih=>
   intro hk;refine(ih (by omega)).trans ?_;have sk:=e4 k l[k].1 l[k].2 (List.getElem?_eq_getElem (by omega));have hwr:fo (h0 k) (r k):=by
    obtain⟨b,_,h1,h2⟩:=sk.wanted;cases b with
    | true=>exact Ai hcall (h1 rfl)
    | false=>rw[h2 rfl];exact pr _
   have hl:(st k).s.hp.length<=(r k).h.length:=by have:=hwr.1;rw[sk.len]at this;exact this
   rw[sk.next];refine⟨by show _<=(dV _ _ _ _).length;rw[rq _ _ _ _ hl];exact hl,fun b hb=>List.mem_append_right _ hb,fun b hb hn=>?_⟩;simp only[List.mem_append,not_or]at hn;show (dV (r k).wr (st k).s.hp (r k).h 0)[b]? = _;rw[jD _ _ _ _ _ hl,if_pos hb];simp[hn.1]
 rw[←e2,←e3];exact key _ (Nat.le_refl _)
def DF (ρ:au)(ds:List Nat)(l:List Deferred):Prop:=
 ds.length=l.length/\∀(i:Nat) b d,ds[i]? = some b->l[i]? = some d->∃c,d = { target:=.collected c,args:=#[] }/\(ρ b = .live c 0\/ρ b = .dead)
theorem DF.mono {h h':ab}{ρ ρ':au}{w w':World}(x:Ext h h' ρ ρ' w w'){ds:List Nat}{l:List Deferred}(hd:DF ρ ds l):DF ρ' ds l:=
 ⟨hd.1,fun i b d h1 h2=>by
  obtain⟨c,h3,h4⟩:=hd.2 i b d h1 h2;refine⟨c,h3,?_⟩;rcases h4 with h4|h4
  . exact x.live _ _ _ h4
  . exact .inr (x.dead _ h4)⟩
theorem Ar:∀(ds:List Nat) (s s':ao),kJ ds s=some s'->fD s s'/\s'.s.pe=s.s.pe/\s'.s.lo=s.s.lo
 | [],s,s',h=>by cases h;exact⟨.refl _,rfl,rfl⟩
 | d::ds,s,s',h=>by
  simp only[kJ]at h;split at h
  . obtain⟨h1,h2,h3⟩:=Ar ds _ s' h;refine⟨fD.trans ⟨by simp[ab.put],fun b hb=>List.mem_cons_of_mem _ hb,fun b hb hn=>?_⟩ h1,h2,h3⟩;simp only[List.mem_cons,not_or]at hn;exact jW hn.1
  . cases h
theorem Gz {F:Fence}{n:Nat}{fn:Func}{tmps:Array Value}{R:Ending->World->Prop}:∀(ds:List Nat) (l:List Deferred) (s s':ao) (w:World),DF ρ ds l->Mem P gl ρ s.s.hp w->kJ ds s=some s' ->
 (∀w',Mem P gl ρ s'.s.hp w'->Ext s.s.hp s'.s.hp ρ ρ w w'->LeavesInM F n P fn tmps R [] .returning w')->LeavesInM F n P fn tmps R l .returning w
 | [],l,s,s',w,hd,m,hq,hk=>by
  have:l=[]:=by have:=hd.1;cases l <;> simp_all
  subst this;cases hq;exact hk w m (Ext.refl _ _ _)
 | b::ds,[],s,s',w,hd,m,hq,hk=>by have:=hd.1;simp at this
 | b::ds,d::l,s,s',w,hd,m,hq,hk=>by
  simp only[kJ]at hq;split at hq
  . rename_i hb;have h0:=pq hb;obtain⟨c,g1,g2⟩:=m.cW b _ h0;obtain⟨c',g3,g4⟩:=hd.2 0 b d rfl rfl;have:c'=c:=by
     rcases g4 with g4|g4
     . rw[g1]at g4;cases g4;rfl
     . rw[g1]at g4;cases g4
    subst this;have hO:∀cs0 e0 fr0,w.heap[c']? = some (.cells cs0 e0 fr0)->∃cs' fr',Obj.deferred none = .cells cs' e0 fr'/\cs'.size=cs0.size:=by
     intro _ _ _ hq';rw[g2]at hq';cases hq'
    have x:=Ext.write m h0 g1 none (.deferred none) hO;have m1:=Mem.write m h0 g1 none (.deferred none) hO (by intro o' ho;cases ho);refine⟨by simp,.inl ⟨c',w.di c' (.deferred none),by rw[g3],?_,?_⟩⟩
    . simp[Instr.takeDeferred,mi g2,nu g2]
    . exact Gz ds l _ s' _ ⟨by have:=hd.1;simpa using this,fun i b d h1 h2=>hd.2 (i+1) b d (by simpa using h1) (by simpa using h2)⟩ m1 hq
       fun w' m' x'=>hk w' m' (x.trans x')
  . cases hq
theorem GA {ρ ρ':au}{w w':World}{h:ab}(m:Mem P gl ρ h w){s:ao}(hwr:h.length<=s.s.hp.length/\∀b,b<h.length->b∉s.wr->s.s.hp[b]? = h[b]?){v:AV}{v':Value}(hv:V ρ' w' v v')(m':Mem P gl ρ' s.s.hp w')(x:Ext h s.s.hp ρ ρ' w w') :
 dY P gl ρ h w (dR v h.length s) v' w':=by
 unfold dR;split
 . rename_i hc;simp only[Bool.and_eq_true,decide_eq_true_eq]at hc;obtain⟨htop,htight⟩:=hc;have hb:∀b,b<h.length->ρ b≠.fresh->True:=fun _ _ _=>trivial
   have cut_lt:∀b,b<h.length->(iO h.length ρ') b=ρ' b:=fun b hb=>by simp only[iO];rw[if_pos hb]
   have cut_ge:∀b,h.length<=b->(iO h.length ρ') b = .fresh:=fun b hb=>by simp only[iO];rw[if_neg (by omega)]
   have bU:∀b,ρ b≠.fresh->b<h.length:=fun b hb=>by
    rcases Nat.lt_or_ge b h.length with h'|h'
    . exact h'
    . exact absurd (m.fresh b h') hb
   have get:∀b,(s.s.hp.take h.length)[b]? = if b<h.length then s.s.hp[b]? else none:=fun b=>by
    rw[List.getElem?_take]
   refine⟨iO h.length ρ',hv.cut htop,?_,?_⟩
   . refine⟨?_,?_,?_,?_,m'.xb,?_,fun g u hg=>(m'.gl g u hg).cut ?_⟩
     . intro b o hb;rw[get b]at hb;split at hb
       . rename_i hlt;refine(m'.cW b o hb).fX (n:=h.length) cut_lt (fun c hc=>hc.cut _) hlt ?_;rcases Classical.em (b∈s.wr) with hw|hw
         . have:=List.all_eq_true.1 htight b hw;unfold ab.at at this;rw[hb]at this;simp at this;omega
         . rw[hwr.2 b hlt hw]at hb;exact(m.cW b o hb).top fun b hb=>m.fresh b hb
       . cases hb
     . intro b hb;simp at hb;have:=hwr.1;exact cut_ge b (by omega)
     . intro b b' c d d' h1 h2;simp only[iO]at h1 h2;split at h1
       . split at h2
         . exact m'.inj _ _ _ _ _ h1 h2
         . cases h2
       . cases h1
     . intro b c d h1;simp only[iO]at h1;split at h1
       . exact m'.bound _ _ _ h1
       . cases h1
     . intro b c d h1;simp only[iO]at h1;split at h1
       . exact m'.xo _ _ _ h1
       . cases h1
     . exact(m.gl g u hg).top fun b hb=>m.fresh b hb
   . refine⟨x.os,x.tape,x.output,x.size,by have:=hwr.1;simp;omega,x.X,?_,?_,?_,?_,?_,x.bU,?_,x.shape⟩
     . intro b hb;have hlt:=(List.getElem?_eq_some_iff.1 hb).1;rw[get b,if_pos hlt];exact x.cR b hb
     . intro b hb;have hlt:=(List.getElem?_eq_some_iff.1 hb).1;rw[cut_lt b hlt];exact x.same b hb
     . intro b c d hb;rw[cut_lt b (bU b (by rw[hb];simp))];exact x.live b c d hb
     . intro b hb;rw[cut_lt b (bU b (by rw[hb];simp))];exact x.dead b hb
     . intro b hb;rw[cut_lt b (bU b (by rw[hb];simp))];exact x.nil b hb
     . intro b c d hb hc;simp only[iO]at hb;split at hb
       . exact x.back b c d hb hc
       . cases hb
 . exact⟨ρ',hv,m',x⟩
theorem GB {h:ab}{s:ao}(hwr:h.length<=s.s.hp.length/\∀b,b<h.length->b∉s.wr->s.s.hp[b]? = h[b]?)(v:AV):fo h (dR v h.length s):=by
 unfold dR;have key:∀b,b<h.length->b∉s.wr.filter (· < h.length)->b∉s.wr:=by
  intro b hb hn hm;exact hn (List.mem_filter.2 ⟨hm,by simpa using hb⟩)
 split
 . refine⟨by have:=hwr.1;simp;omega,fun b hb hn=>?_⟩;show (s.s.hp.take h.length)[b]? = _;rw[List.getElem?_take,if_pos hb];exact hwr.2 b hb (key b hb hn)
 . exact⟨hwr.1,fun b hb hn=>hwr.2 b hb (key b hb hn)⟩
end Go.Ab

/-
  Own work: results; a call of a function of the table, walked.
-/
namespace Go.Ab
variable {P:Program} {gl:Nat->Option AV} {ρ:au} {w:World} {h:ab} {C:Cx} {s:St} {a:Act}
def ud:Ex->Exit
 | .normal=>.normal
 | .exit i=>.exit i
 | .ret=>.ret
structure kV (P:Program)(gl:Nat->Option AV)(run:al->ao->Option (Ex×ao)):Prop where
 wr:∀c s e s',run c s=some (e,s')->fD s s'
 ok:∀c s e s',run c s=some (e,s')->∀aO N rd code,fC ⟨P,gl,aO,N⟩ rd code=some c->∀ρ a w ro,Rel ⟨P,gl,aO,N⟩ ρ s.s a w->DF ρ s.s.bX a.defers->(rd=false->ro=none) ->
  ∀Q:Exit->Act->World->Prop,(∀ρ' a' w',Rel ⟨P,gl,aO,N⟩ ρ' s'.s a' w'->DF ρ' s'.s.bX a'.defers->Ext s.s.hp s'.s.hp ρ ρ' w w'->Q (ud e) a' w')->code.wpIn (FR ro) 0 P Q a w
def mq (P:Program)(gl:Nat->Option AV)(FT:FuncId->Option dc):Prop:=
 ∀f fi, FT f = some fi -> ∃fn aO, P.funcs[f]? = some fn /\ (fn.name == "runtime.NumGoroutine") = false /\ tI P gl aO fn = some fi
def cA (P:Program)(gl:Nat->Option AV)(ext:FuncId->List AV->ab->Option HR):Prop:=
 ∀f all h r,ext f all h=some r->fo h r/\∀ρ w (as':List Value),Mem P gl ρ h w->VL ρ w all as' ->
  ∃nx w1,(callFunc f as'.toArray).run P w = .ok nx w1/\jl P nx w1 fun v w'=>dY P gl ρ h w r v w'
theorem QV {aO:List Nat}{fn:Func}{fi:dc}(h:tI P gl aO fn=some fi) :
 ∃c,fn.body=some c/\fC ⟨P,gl,aO,fn.ntmps⟩ false c=some fi.body/\kR ⟨P,gl,aO,fn.ntmps⟩ fn.results.toList=some fi.results/\fi.aO=aO/\fi.N=fn.ntmps/\(∀t∈aO,t<fn.ntmps)/\aO.Nodup:=by
 unfold tI at h;simp only at h;split at h
 . cases h
 . rename_i c hc;split at h
   . rename_i b r h1 h2;split at h
     . rename_i hp;cases h;simp only[Bool.and_eq_true,List.all_eq_true,decide_eq_true_eq]at hp;exact⟨c,hc,h1,h2,rfl,rfl,hp.1,hp.2⟩
     . cases h
   . cases h
def ue (tmps:Array Value):ResultVar->Sem Value
 | .tmp t=>pure (tmps.getD t undef)
 | .cell p t=>do loadVar t (←asAddr (tmps.getD p undef))
theorem As (r:Rel C ρ s a w):∀(l:List ResultVar) (cr:List ew) (vs:List AV),kR C l=some cr->de s cr=some vs ->
 ∃m:List Value,(l.mapM (ue a.tmps)).run C.P w = .ok m w/\VL ρ w vs m
 | [],cr,vs,h1,h2=>by
  simp only[kR,Option.some.injEq]at h1;subst h1;simp only[de,Option.some.injEq]at h2;subst h2;exact⟨[],by simp,.nil⟩
 | .tmp t::l,cr,vs,h1,h2=>by
  simp only[kR]at h1;split at h1
  . rename_i x l' hx hl;cases h1;simp only[de]at h2;split at h2
    . rename_i v vs' hv hvs;cases h2;obtain⟨m,h3,h4⟩:=As r l l' vs' hl hvs;refine⟨a.tmps.getD t undef::m,?_,.cons (r.aa hx hv) h4⟩;rw[List.mapM_cons];simp only[ue,Sem.run_bind,Sem.run_pure,Result.andThen_ok];rw[h3];rfl
    . cases h2
  . cases h1
 | .cell p t::l,cr,vs,h1,h2=>by
  simp only[kR]at h1;split at h1
  . rename_i x n ag l' hx hs hl;cases h1;simp only[de]at h2;split at h2
    . rename_i v vs' hv hvs;cases h2;obtain⟨m,h3,h4⟩:=As r l l' vs' hl hvs;simp only[Option.bind_eq_some_iff]at hv;obtain⟨px,g1,pl,g2,g3⟩:=hv;obtain⟨c,o,g,e1,e2⟩:=readable r.mem (r.aa hx g1) g2;obtain⟨v',e3,e4⟩:=FU hs e2 g3;have e1':a.tmps.getD p undef = .pointer (some ⟨c,o,none⟩):=e1;refine⟨v'::m,?_,.cons e4 h4⟩;rw[List.mapM_cons];simp only[ue,Sem.run_bind,e1',asAddr,Sem.run_pure,Result.andThen_ok,e3];rw[h3];rfl
    . cases h2
  . cases h1
theorem QW {vs:List AV}{m:List Value}(h:VL ρ w vs m):V ρ w (aV vs) (if h:m.toArray.size=1 then m.toArray[0] else .tuple m.toArray):=by
 match vs,m,h with
 | [],m,h=>rw[h.jB];exact V.im .nil
 | [v],m,h=>
  obtain⟨y,m',rfl,h1,h2⟩:=h.cons_inv;rw[h2.jB];exact h1
 | v::u::vs,m,h=>
  obtain⟨y,m',rfl,h1,h2⟩:=h.cons_inv;obtain⟨z,m'',rfl,h3,h4⟩:=h2.cons_inv;rw[dif_neg (by simp)];exact V.im (.cons h1 (.cons h3 h4))
theorem QX (r:Rel C ρ s a w){fn:Func}{cr:List ew}{vs:List AV}(h1:kR C fn.results.toList=some cr)(h2:de s cr=some vs) :
 ∃v,(results fn a.tmps).run C.P w = .ok v w/\V ρ w (aV vs) v:=by
 obtain⟨m,h3,h4⟩:=As r fn.results.toList cr vs h1 h2;refine⟨_,?_,QW h4⟩;have e:results fn a.tmps=(do let vs ←fn.results.mapM (ue a.tmps);pure (if h:vs.size=1 then vs[0] else .tuple vs)):=by
  unfold results;congr 1
 rw[e,Sem.run_bind,Array.mapM_eq_mapM_toList,Sem.run_map,h3];rfl
theorem QY {aO:List Nat}{N:Nat}{all:List AV}{as':List Value}(hv:VL ρ w all as')(hn:as'.length<=N)(hlt:∀t∈aO,t<N)(hnd:aO.Nodup) :
 ER ⟨P,gl,aO,N⟩ ρ w (aO.map fun t=>(all[t]?).getD cB) [] (as'.toArray++Array.replicate (N-as'.toArray.size) undef):=by
 refine⟨by simp;omega,hnd,hlt,by simp,fun i v t h1 h2=>?_,fun _ _ hl=>by cases hl⟩;simp only[List.getElem?_map,Option.map_eq_some_iff]at h1;obtain⟨u,h3,rfl⟩:=h1;have h2':aO[i]? = some t:=h2;rw[h3]at h2';obtain rfl:u=t:=Option.some.inj h2';rw[Array.getD_eq_getD_getElem?,Array.getElem?_append];split
 . rename_i hlt';have hl:u<as'.length:=by simpa using hlt'
   have hl2:u<all.length:=by rw[hv.length];exact hl
   have:=hv.2 u all[u] as'[u] (List.getElem?_eq_getElem hl2) (List.getElem?_eq_getElem hl);simpa[List.getElem?_eq_getElem hl2,List.getElem?_eq_getElem hl] using this
 . rename_i hge;have hl:as'.length<=u:=by simpa using hge
   have hl2:all.length<=u:=by rw[hv.length];exact hl
   rw[List.getElem?_eq_none hl2,Array.getElem?_replicate];split <;> exact V.undef
theorem GC {run:al->ao->Option (Ex×ao)}(hrun:kV P gl run){FT:FuncId->Option dc}{f:FuncId}{all:List AV}{h:ab}{q:HR}(hq:gk run FT f all h=some q):fo h q:=by
 unfold gk at hq;split at hq <;> try (cases hq;done)
 split at hq <;> try (cases hq;done)
 split at hq <;> try (cases hq;done)
 rename_i e s hr;split at hq <;> try (cases hq;done)
 split at hq <;> try (cases hq;done)
 rename_i s2 ht;split at hq <;> try (cases hq;done)
 cases hq;have h1:=hrun.wr _ _ _ _ hr;have h2:=(Ar _ _ _ ht).1;have h3:=h1.trans h2;exact GB ⟨h3.1,fun b hb hn=>h3.2.2 b hb hn⟩ _
theorem uf {run:al->ao->Option (Ex×ao)}(hrun:kV P gl run){FT:FuncId->Option dc}(hFT:mq P gl FT){f:FuncId}{all:List AV}{h:ab}{q:HR}(hq:gk run FT f all h=some q)
 {as':List Value} (m:Mem P gl ρ h w) (hv:VL ρ w all as') :
 (callFunc f as'.toArray).run P w = .ok (.enter f as'.toArray) w/\CallsIn Fence.wide 0 P f as'.toArray w fun
   | .returned v,w'=>dY P gl ρ h w q v w'
   | _,_=>False:=by
 unfold gk at hq;split at hq <;> try (cases hq;done)
 rename_i fi hfi;obtain⟨fn,aO,hfn,hname,hcf⟩:=hFT f fi hfi;obtain⟨c,hbody,hcode,hres,rfl,hN,hlt,hnd⟩:=QV hcf;split at hq <;> try (cases hq;done)
 rename_i hnl;split at hq <;> try (cases hq;done)
 rename_i e s hr;split at hq <;> try (cases hq;done)
 rename_i he;split at hq <;> try (cases hq;done)
 rename_i s2 ht;split at hq <;> try (cases hq;done)
 rename_i vs hvs;cases hq;refine⟨?_,?_⟩
 . have hne : fn.name ≠ "runtime.NumGoroutine" := by simpa using hname
   simp[callFunc,hfn,hne,hbody]
 . refine callsIn_of_wp_marks (F:=Fence.wide) (n:=0) hfn hbody trivial ?_;have hlen:as'.length<=fn.ntmps:=by rw[←hv.length];omega
   have er:=QY (P:=P) (gl:=gl) hv hlen hlt hnd;refine hrun.ok _ _ _ _ hr fi.aO fn.ntmps false c hcode ρ _ w none ⟨er,m⟩ ⟨rfl,by simp⟩ (fun _=>rfl) _ ?_;intro ρ' a' w' r' d' x';have hfin:LeavesInM Fence.wide 0 P fn a'.tmps (fun
    | .returned v,w'=>dY P gl ρ h w (dR (aV vs) h.length s2) v w'
    | _,_=>False) a'.defers .returning w':=by
    refine Gz s.s.bX a'.defers s s2 w' d' r'.mem ht ?_;intro w2 m2 x2;have hx:=Ar _ _ _ ht;have r2:Rel ⟨P,gl,fi.aO,fn.ntmps⟩ ρ' s2.s a' w2:=⟨by rw[hx.2.1,hx.2.2];exact r'.er.mono x2,m2⟩;obtain⟨v,g1,g2⟩:=QX r2 hres hvs;have h3:=(hrun.wr _ _ _ _ hr).trans hx.1;exact⟨v,g1,GA m ⟨h3.1,fun b hb hn=>h3.2.2 b hb hn⟩ g2 m2 (x'.trans x2)⟩
   rcases he with rfl|rfl
   . exact hfin
   . exact hfin
end Go.Ab

/-
  Own work: rounds of a loop over a function; all calls.
-/
namespace Go.Ab
variable {run:al->ao->Option (Ex×ao)}
variable {P:Program} {gl:Nat->Option AV} {ρ:au} {w:World} {h:ab} {C:Cx} {s:St} {a:Act}
theorem GD {C:Cx}:∀(ts:List Tmp) (ds:List eh) (as:List AV) (as':List Value) (s s0:St) (tmps:Array Value),lZ C ts=some ds->VL ρ w as as'->ER C ρ w s.pe s.lo tmps->oZ s ds as=some s0 ->
 ts.length=as'.length/\ER C ρ w s0.pe s0.lo ((ts.zip as').foldl (fun tmps (t,a)=>tmps.setIfInBounds t a) tmps)/\s0.hp=s.hp/\s0.bX=s.bX
 | [],ds,as,as',s,s0,tmps,hd,hv,er,hq=>by
  cases hd;cases as with
  | nil=>cases hq;rw[hv.jB];exact⟨rfl,er,rfl,rfl⟩
  | cons _ _=>cases hq
 | t::ts,ds,as,as',s,s0,tmps,hd,hv,er,hq=>by
  simp only[lZ]at hd;split at hd
  . rename_i d l h1 h2;cases hd;cases as with
    | nil=>cases hq
    | cons x as=>
     obtain⟨y,as',rfl,hy,hl⟩:=hv.cons_inv;simp only[oZ]at hq;have er':=Af (s:=s) (a:=⟨tmps,[]⟩) (er:=er) h1 hy s.hp;have e:({ s.put d x with hp:=s.hp }:St)=s.put d x:=by cases d <;> rfl
     rw[e]at er';obtain⟨g1,g2,g3,g4⟩:=GD ts l as as' (s.put d x) s0 _ h2 hl er' hq;exact⟨by simp[g1],g2,g3.trans (Ao _ _ _),g4.trans (by cases d <;> rfl)⟩
  . cases hd
theorem ug {c:Nat}{r:Loop}(h:w.heap[c]? = some (.loop r)):(Instr.getLoop c).run P w = .ok r w:=by
 simp[Instr.getLoop,mi h]
theorem uh (m:Mem P gl ρ h w){b:Nat}{st:LoopState}{pend:Option Ex}{pe:List AV}{ps:List eh}{as bd:al}(hb:h.at b=some (.loop st pend pe ps as bd)) :
 h[b]? = some (some (.loop st pend pe ps as bd))/\∃c r aO N,ρ b = .live c 0/\w.heap[c]? = some (.loop r)/\r.state=st/\nj pend r.pending /\
  ER ⟨P,gl,aO,N⟩ ρ w pe [] r.tmps/\lZ ⟨P,gl,aO,N⟩ r.params.toList=some ps/\fC ⟨P,gl,aO,N⟩ true r.assign=some as/\fC ⟨P,gl,aO,N⟩ true r.body=some bd:=
 ⟨pq hb,m.cW b _ (pq hb)⟩
theorem Au (m:Mem P gl ρ h w){b c:Nat}{o0:bw}(h0:h[b]? = some (some o0))(hρ:ρ b = .live c 0){r:Loop}(hr:w.heap[c]? = some (.loop r))(r':Loop){st':LoopState}{pend':Option Ex}{pe:List AV}{ps:List eh}{as bd:al}{aO:List Nat}{N:Nat}
 (hst:r'.state=st') (hp:nj pend' r'.pending) (er:ER ⟨P,gl,aO,N⟩ ρ w pe [] r'.tmps) (h1:lZ ⟨P,gl,aO,N⟩ r'.params.toList=some ps) (h2:fC ⟨P,gl,aO,N⟩ true r'.assign=some as) (h3:fC ⟨P,gl,aO,N⟩ true r'.body=some bd) :
 Mem P gl ρ (h.put b (some (.loop st' pend' pe ps as bd))) (w.di c (.loop r'))/\Ext h (h.put b (some (.loop st' pend' pe ps as bd))) ρ ρ w (w.di c (.loop r')):=by
 have hO:∀cs0 e0 fr0,w.heap[c]? = some (.cells cs0 e0 fr0)->∃cs' fr',Obj.loop r' = .cells cs' e0 fr'/\cs'.size=cs0.size:=by
  intro _ _ _ hq';rw[hr]at hq';cases hq'
 have x:=Ext.write m h0 hρ (some (.loop st' pend' pe ps as bd)) (.loop r') hO;refine⟨Mem.write m h0 hρ _ _ hO ?_,x⟩;intro o' ho;cases ho;exact⟨c,r',aO,N,hρ,nk (m.bound _ _ _ hρ),hst,hp,er.mono x,h1,h2,h3⟩
def mr (run:al->ao->Option (Ex×ao))(b:Nat)(as:List AV)(h:ab):Option HR:=
 match h.at b with
 | some (.loop .ready none pe ps a bd)=>
  match oZ ⟨pe,[],h,[]⟩ ps as with
  | some s0=>match run a ⟨s0,[]⟩ with
    | some (.normal,s1)=>match s1.s.hp.at b with
      | some (.loop .ready none pe' ps' a' bd')=>
       match run bd ⟨{ s1.s with hp:=s1.s.hp.put b (some (.loop .busy none pe' ps' a' bd')) },b::s1.wr⟩ with
       | some (e,s2)=>match s2.s.hp.at b,s2.s.bX with
         | some (.loop .busy none pe' ps' a' bd'),[]=>
          some (dR (.bool (decide (e = .normal))) h.length ⟨{ s2.s with hp:=s2.s.hp.put b (some (if e = .normal then .loop .ready none pe' ps' a' bd' else .loop .done (some e) pe' ps' a' bd')) },b::s2.wr⟩)
         | _,_=>none
       | none=>none
      | _=>none
    | _=>none
  | none=>none
 | _=>none
theorem ui (s:ao)(b:Nat)(o:Option bw):fD s ⟨{ s.s with hp:=s.s.hp.put b o },b::s.wr⟩:=
 ⟨by simp[ab.put],fun _ hb=>List.mem_cons_of_mem _ hb,fun b' _ hn=>by
  simp only[List.mem_cons,not_or]at hn;exact jW hn.1⟩
theorem GF:∀(ds:List eh) (as:List AV) (s s0:St),oZ s ds as=some s0->s0.hp=s.hp
 | [],[],s,s0,h=>by cases h;rfl
 | [],_::_,s,s0,h=>by cases h
 | _::_,[],s,s0,h=>by cases h
 | d::ds,v::as,s,s0,h=>(GF ds as _ s0 h).trans (Ao _ _ _)
theorem QZ (hrun:kV P gl run){b:Nat}{as:List AV}{h:ab}{q:HR}(hq:mr run b as h=some q):fo h q:=by
 unfold mr at hq;split at hq <;> try (cases hq;done)
 split at hq <;> try (cases hq;done)
 rename_i s0 hp;split at hq <;> try (cases hq;done)
 rename_i s1 hr1;split at hq <;> try (cases hq;done)
 split at hq <;> try (cases hq;done)
 rename_i e s2 hr2;split at hq <;> try (cases hq;done)
 rename_i pe2 ps2 ai2 bi2 hb2 hd2;cases hq;have h1:=hrun.wr _ _ _ _ hr1;have h2:=hrun.wr _ _ _ _ hr2;have h3:=(h1.trans (ui s1 b _)).trans h2;have h4:=h3.trans (ui s2 b (some (if e = .normal then .loop .ready none pe2 ps2 ai2 bi2 else .loop .done (some e) pe2 ps2 ai2 bi2)));have hhp:=GF _ _ _ _ hp;refine GB ⟨?_,?_⟩ _
 . have:=h4.1;rw[show (ao.mk s0 []).s.hp=h from hhp]at this;exact this
 . intro b' hb' hn;have:=h4.2.2 b' (by rw[show (ao.mk s0 []).s.hp=h from hhp];exact hb') hn;rw[show (ao.mk s0 []).s.hp=h from hhp]at this;exact this
theorem Ra (l:Nat):Fence.wide.inRound l=FR (some l):=rfl
theorem Rb (hrun:kV P gl run){b:Nat}{as:List AV}{h:ab}{q:HR}(hq:mr run b as h=some q)(m:Mem P gl ρ h w){g':Value}(hg:V ρ w (.fn (.yield b) [] []) g')
 {as':List Value} (hv:VL ρ w as as'):∃nx w1,(nw g' as'.toArray).run P w = .ok nx w1/\jl P nx w1 fun v w'=>dY P gl ρ h w q v w':=by
 have hq0:=hq;unfold mr at hq;split at hq <;> try (cases hq;done)
 rename_i pe ps ai bi hb;split at hq <;> try (cases hq;done)
 rename_i s0 hp;split at hq <;> try (cases hq;done)
 rename_i s1 hr1;split at hq <;> try (cases hq;done)
 rename_i pe1 ps1 ai1 bi1 hb1;split at hq <;> try (cases hq;done)
 rename_i e s2 hr2;split at hq <;> try (cases hq;done)
 rename_i pe2 ps2 ai2 bi2 hb2 hd2;cases hq;obtain⟨h0,c,r,aO,N,g1,g2,g3,g4,g5,g6,g7,g8⟩:=uh m hb;have hge:g' = .func (.yield c) #[] #[]:=by
  cases hg with
  | yield hρ=>rw[g1]at hρ;cases hρ;rfl
  | fn hf=>exact absurd rfl (hf _)
  | gE _ hρ=>rw[g1]at hρ;cases hρ
 subst hge;obtain⟨p1,p2,p3,p4⟩:=GD (C:=⟨P,gl,aO,N⟩) r.params.toList ps as as' ⟨pe,[],h,[]⟩ s0 r.tmps g6 hv g5 hp;have hsz:as'.toArray.size=r.params.size:=by simpa using p1.symm
 let tm:=(r.params.zip as'.toArray).foldl (fun tmps (t,a)=>tmps.setIfInBounds t a) r.tmps
 have htm:tm=(r.params.toList.zip as').foldl (fun tmps (t,a)=>tmps.setIfInBounds t a) r.tmps:=by
  simp only[tm,←Array.foldl_toList,Array.toList_zip]
 refine⟨.round c r.fn tm r.assign r.body,w,?_,?_⟩
 . simp only[nw,Deferred.ofValue,invoke,Sem.run_bind,Sem.run_pure,Result.andThen_ok,Instr.yield];rw[ug g2];simp[hsz,tm]
 . refine roundIn_of_wpIn (F:=Fence.wide) (n:=0) trivial ?_;rw[Ra];have w1:=hrun.wr _ _ _ _ hr1;have w2:=hrun.wr _ _ _ _ hr2;refine hrun.ok ai ⟨s0,[]⟩ .normal s1 hr1 aO N true r.assign g7 ρ ⟨tm,[]⟩ w (some c) ⟨by rw[htm];exact p2,by rw[show (ao.mk s0 []).s.hp=h from p3];exact m⟩ ⟨by rw[p4];rfl,fun i b d hi _=>by rw[p4]at hi;simp at hi⟩ (by simp) _ ?_;intro ρ1 a1 v1 r1 d1 x1;rw[show (ao.mk s0 []).s.hp=h from p3]at x1;obtain⟨h1',c1,rr1,pers1,N1,k1,k2,k3,k4,k5,k6,k7,k8⟩:=uh r1.mem hb1;have hc1:c1=c:=by
    rcases x1.live b c 0 g1 with hh|hh
    . rw[k1]at hh;cases hh;rfl
    . rw[k1]at hh;cases hh
   subst hc1;obtain⟨m2,x2⟩:=Au (st':=.busy) r1.mem h1' k1 k2 { rr1 with state:=.busy } rfl k4 k5 k6 k7 k8;refine⟨v1.di c1 (.loop { rr1 with state:=.busy }),?_,?_⟩
   . simp[Instr.beginRound,ug k2,nu k2,k3]
   . refine hrun.ok bi _ e s2 hr2 aO N true r.body g8 ρ1 a1 _ (some c1) ⟨r1.er.mono x2,m2⟩ (d1.mono x2) (by simp) _ ?_;intro ρ2 a2 v2 r2 d2 x3;obtain⟨h2',c2,rr2,pers2,N2,l1,l2,l3,l4,l5,l6,l7,l8⟩:=uh r2.mem hb2;have hc2:c2=c1:=by
      rcases x3.live b c1 0 k1 with hh|hh
      . rw[l1]at hh;cases hh;rfl
      . rw[l1]at hh;cases hh
     subst hc2;have fin:∀(jump:Option Code) (st':LoopState) (pend':Option Ex),nj pend' jump->(if jump.isNone then LoopState.ready else LoopState.done)=st'->jump.isNone=decide (e = .normal) ->
      (if e = .normal then bw.loop .ready none pe2 ps2 ai2 bi2 else .loop .done (some e) pe2 ps2 ai2 bi2) = .loop st' pend' pe2 ps2 ai2 bi2 ->
      ∃v w',(Instr.endRound c2 jump).run P v2 = .ok v w'/\dY P gl ρ h w (dR (.bool (decide (e = .normal))) h.length ⟨{ s2.s with hp:=s2.s.hp.put b (some (if e = .normal then .loop .ready none pe2 ps2 ai2 bi2 else .loop .done (some e) pe2 ps2 ai2 bi2)) },b::s2.wr⟩) v w':=by
      intro jump st' pend' q1 q2 q3 q4;obtain⟨m4,x4⟩:=Au (st':=st') (pend':=pend') r2.mem h2' l1 l2 { rr2 with state:=if jump.isNone then .ready else .done,pending:=jump } q2 q1 l5 l6 l7 l8;refine⟨.bool jump.isNone,v2.di c2 (.loop { rr2 with state:=if jump.isNone then .ready else .done,pending:=jump }),?_,?_⟩
      . simp[Instr.endRound,ug l2,nu l2]
      . have h3:=(w1.trans (ui s1 b (some (.loop .busy none pe1 ps1 ai1 bi1)))).trans w2;have h4:=h3.trans (ui s2 b (some (if e = .normal then .loop .ready none pe2 ps2 ai2 bi2 else .loop .done (some e) pe2 ps2 ai2 bi2)));refine GA (ρ':=ρ2) m ⟨?_,?_⟩ (by rw[q3];exact .bool _) (by rw[q4];exact m4) (by rw[q4];exact((x1.trans x2).trans x3).trans x4)
        . have:=h4.1;rw[show (ao.mk s0 []).s.hp=h from p3]at this;exact this
        . intro b' hb' hn;have:=h4.2.2 b' (by rw[show (ao.mk s0 []).s.hp=h from p3];exact hb') hn;rw[show (ao.mk s0 []).s.hp=h from p3]at this;exact this
     cases e with
     | normal=>exact fin none .ready none trivial rfl (by simp) (by simp)
     | ret=>exact fin (some .ret) .done (some .ret) trivial rfl (by simp) (by simp)
     | exit i=>exact fin (some (.exit i)) .done (some (.exit i)) rfl rfl (by simp) (by simp)
theorem Av (hrun:kV P gl run){ext:FuncId->List AV->ab->Option HR}(hext:cA P gl ext){FT:FuncId->Option dc}(hFT:mq P gl FT):mn P gl (gQ run ext FT):=by
 have round_eq:∀b as h,gQ run ext FT (.fn (.yield b) [] []) as h=mr run b as h:=fun _ _ _=>rfl
 refine⟨fun g as h r hq=>?_,fun g as h r hq ρ w g' as' m hg hv=>?_⟩
 . cases g <;> try (cases hq;done)
   rename_i f fi ca;cases f <;> try (cases hq;done)
   . simp only[gQ]at hq;split at hq
     . rename_i q hq1;cases hq;exact(hext _ _ _ _ hq1).1
     . exact GC hrun hq
   . cases fi <;> cases ca <;> try (cases hq;done)
     exact QZ hrun hq
 . cases g <;> try (cases hq;done)
   rename_i f fi ca;cases f <;> try (cases hq;done)
   . rename_i f;cases hg with
     | @fn _ _ _ fi' ca' hf h1 h2 g1 g2=>
      have hall:VL ρ w (fi++as++ca) (fi'++as'++ca'):=(VL.append ⟨h1,g1⟩ hv).append ⟨h2,g2⟩;have happ:∀(nx:Next) (w1:World),(callFunc f (fi'++as'++ca').toArray).run P w = .ok nx w1->(nw (.func (.func f) fi'.toArray ca'.toArray) as'.toArray).run P w = .ok nx w1:=by
       intro nx w1 hc;simp only[nw,Deferred.ofValue,invoke,Sem.run_bind,Sem.run_pure,Result.andThen_ok];rw[←hc];congr 2;simp
      simp only[gQ]at hq;split at hq
      . rename_i q hq1;cases hq;obtain⟨nx,w1,h3,h4⟩:=(hext _ _ _ _ hq1).2 ρ w _ m hall;exact⟨nx,w1,happ _ _ h3,h4⟩
      . obtain⟨h3,h4⟩:=uf hrun hFT hq m hall;exact⟨_,_,happ _ _ h3,h4⟩
   . cases fi <;> cases ca <;> try (cases hq;done)
     exact Rb hrun hq m hg hv
end Go.Ab

/-
  Own work: the evaluator is the model's: every run of it is a walk.
-/
namespace Go.Ab
variable {P:Program} {gl:Nat->Option AV} {ρ:au} {w:World} {h:ab} {s:St} {a:Act} {ext:FuncId->List AV->ab->Option HR} {FT:FuncId->Option dc}
theorem Rc (hext:cA P gl ext)(hFT:mq P gl FT):∀n,(∀k,k<n->kV P gl (bh ext (eK P) FT k))->∀c s e s',bh ext (eK P) FT n c s=some (e,s')->fD s s':=by
 intro n;cases n with
 | zero=>intro _ c s e s' hq;cases hq
 | succ n=>
  intro ih c s e s' hq;have ihn:=ih n (by omega);have hcall:=(Av ihn hext hFT).wr;cases c <;> simp only[bh]at hq
  case skip=>cases hq;exact .refl _
  case region ops=>
   split at hq
   . rename_i s1 hr;cases hq;exact(fD.same (s:=s) (x:={ s.s with lo:=[] }) rfl).trans (Ap hcall _ _ _ hr)
   . cases hq
  case draw ops=>
   split at hq
   . rename_i s1 hr;cases hq;exact(fD.same (s:=s) (x:={ s.s with lo:=[] }) rfl).trans (QU hcall hr)
   . cases hq
  case seq x y=>
   split at hq
   . rename_i s1 hr;exact(ihn.wr _ _ _ _ hr).trans (ihn.wr _ _ _ _ hq)
   . exact ihn.wr _ _ _ _ hq
  case cond x p q=>
   split at hq
   . exact ihn.wr _ _ _ _ hq
   . cases hq
  case block id x=>
   split at hq
   . rename_i s1 hr;split at hq <;> (cases hq;exact ihn.wr _ _ _ _ hr)
   . exact ihn.wr _ _ _ _ hq
  case loop x=>
   split at hq
   . rename_i s1 hr;exact(ihn.wr _ _ _ _ hr).trans (ihn.wr _ _ _ _ hq)
   . exact ihn.wr _ _ _ _ hq
  case exit id=>cases hq;exact .refl _
  case ret=>cases hq;exact .refl _
  case rangeFunc inner f ps as bd=>
   split at hq
   . cases hq
   . split at hq
     . split at hq
       . rename_i r hr;split at hq
         . split at hq
           . cases hq
           . cases hq;have h1:=GC ihn hr;refine⟨?_,fun b hb=>by simp;exact .inr (.inr hb),fun b hb hn=>?_⟩
             . have:=h1.1;simp only[List.length_append,List.length_cons,List.length_nil]at this;simp[ab.put];omega
             . simp only[List.cons_append,List.mem_cons,List.mem_append,not_or]at hn;show (r.h.set _ _)[b]? = _;rw[jW hn.1,h1.2 b (by simp;omega) hn.2.1,List.getElem?_append_left hb]
         . cases hq
       . cases hq
     . cases hq
  case bad=>cases hq
theorem Aw {p:Nat->Prop}(h:∃n,p n):∃n,p n/\∀m,p m->n<=m:=by
 obtain⟨n,hn⟩:=h;induction n using Nat.strongRecOn with
 | _ n ih=>
  rcases Classical.em (∃m,m<n/\p m) with ⟨m,hm,hp⟩|hno
  . exact ih m hm hp
  . refine⟨n,hn,fun m hm=>?_⟩;rcases Nat.lt_or_ge m n with hlt|hge
    . exact absurd ⟨m,hlt,hm⟩ hno
    . exact hge
open Classical in
theorem Rd {n:Nat}{aO:List Nat}{N:Nat}{rd:Bool}{code:Code}{c:al}(hcode:fC ⟨P,gl,aO,N⟩ rd code=some c)(ih:∀k,k<n->kV P gl (bh ext (eK P) FT k)){s s':ao}{e:Ex}(hq:bh ext (eK P) FT n (.loop c) s=some (e,s'))
 {ro:Option Nat} (r:Rel ⟨P,gl,aO,N⟩ ρ s.s a w) (d:DF ρ s.s.bX a.defers) (hrd:rd=false->ro=none) {Q:Exit->Act->World->Prop}
 (hQ:∀ρ' a' w',Rel ⟨P,gl,aO,N⟩ ρ' s'.s a' w'->DF ρ' s'.s.bX a'.defers->Ext s.s.hp s'.s.hp ρ ρ' w w'->Q (ud e) a' w'):(Code.loop code).wpIn (FR ro) 0 P Q a w:=by
 let At:Nat->Act->World->Prop:=fun m a1 w1=>m<=n/\∃(s1:ao) (ρ1:au),bh ext (eK P) FT m (.loop c) s1=some (e,s')/\Rel ⟨P,gl,aO,N⟩ ρ1 s1.s a1 w1/\DF ρ1 s1.s.bX a1.defers/\Ext s.s.hp s1.s.hp ρ ρ1 w w1
 let I:Act->World->Prop:=fun a1 w1=>∃m,At m a1 w1
 let μ:Act->World->Nat:=fun a1 w1=>if h:∃m,At m a1 w1 then Classical.choose (Aw h) else 0
 have hμ:∀a1 w1 m,At m a1 w1->μ a1 w1<=m:=by
  intro a1 w1 m hm;have hex:∃m,At m a1 w1:=⟨m,hm⟩;simp only[μ,dif_pos hex];exact(Classical.choose_spec (Aw hex)).2 m hm
 refine wpIn_loop I μ ⟨n,Nat.le_refl _,s,ρ,hq,r,d,Ext.refl _ _ _⟩ ?_;intro a1 w1 hI;have hμe:At (μ a1 w1) a1 w1:=by
  have hI':∃m,At m a1 w1:=hI;simp only[μ,dif_pos hI'];exact(Classical.choose_spec (Aw hI')).1
 obtain⟨hle,s1,ρ1,hq1,r1,d1,x1⟩:=hμe;generalize hm:μ a1 w1=m at *
 cases m with
 | zero=>cases hq1
 | succ m=>
  have ihm:=ih m (by omega);simp only[bh]at hq1;cases hr:bh ext (eK P) FT m c s1 with
  | none=>rw[hr]at hq1;cases hq1
  | some p=>
   obtain⟨e2,s2⟩:=p;rw[hr]at hq1;refine ihm.ok c s1 e2 s2 hr aO N rd code hcode ρ1 a1 w1 ro r1 d1 hrd _ ?_;intro ρ2 a2 w2 r2 d2 x2;cases e2 with
   | normal=>
    simp only at hq1;have hat:At m a2 w2:=⟨by omega,s2,ρ2,hq1,r2,d2,x1.trans x2⟩;exact⟨⟨m,hat⟩,by have:=hμ a2 w2 m hat;omega⟩
   | exit i=>cases hq1;exact hQ ρ2 a2 w2 r2 d2 (x1.trans x2)
   | ret=>cases hq1;exact hQ ρ2 a2 w2 r2 d2 (x1.trans x2)
end Go.Ab

/-
  Own work: the evaluator is the model's, whole.
-/
namespace Go.Ab
variable {P:Program} {gl:Nat->Option AV} {ρ:au} {w:World} {h:ab} {s:St} {a:Act} {ext:FuncId->List AV->ab->Option HR} {FT:FuncId->Option dc}
theorem Re {C:Cx}{ops:List Oper}{draw:Bool}{c:al}(h:tH C ops draw=some c):∃il,jA C ops ops=some il /\
 ((draw=false/\c = .region il)\/(draw=true/\∃bits,pf ops bits=true/\pg il bits=true/\c = .draw (il.zipIdx.map fun (o,i)=>(o,jk (bits.getD i 0) i)))):=by
 unfold tH at h;split at h
 . cases h
 . rename_i il hil;refine⟨il,hil,?_⟩;split at h
   . rename_i hd;simp only at h;split at h
     . rename_i hb;simp only[Bool.and_eq_true]at hb;cases h;exact .inr ⟨hd,_,hb.1,hb.2,rfl⟩
     . cases h
   . rename_i hd;cases h;exact .inl ⟨by simpa using hd,rfl⟩
theorem Rf {fn:FuncId}{tmps:Array Value}{ps:Array Tmp}{as bd:Code}:(Instr.enterLoop fn tmps ps as bd none).run P w =
 .ok (w.heap.size+1,[{ target:=.collected w.heap.size,args:=#[] }])
   { w with heap:=(w.heap.push (.deferred (some []))).push (.loop { state:=.ready,pending:=none,fn,tmps,params:=ps,assign:=as,body:=bd,defers:=w.heap.size }) }:=by
 simp[Instr.enterLoop];rfl
theorem Rg {n:Nat}(ihn:kV P gl (bh ext (eK P) FT n))(hFT:mq P gl FT){aO:List Nat}{N:Nat}{g:Operand}{ps:Array Tmp}{as bd:Code}{fi:aL}{dps:List eh}{ai bi:al}
 (hg:fW ⟨P,gl,aO,N⟩ g=some fi) (hps:lZ ⟨P,gl,aO,N⟩ ps.toList=some dps) (has:fC ⟨P,gl,aO,N⟩ true as=some ai) (hbd:fC ⟨P,gl,aO,N⟩ true bd=some bi)
 {s s':ao} {e:Ex} (hq:bh ext (eK P) FT (n+1) (.rangeFunc false fi dps ai bi) s=some (e,s')) (r:Rel ⟨P,gl,aO,N⟩ ρ s.s a w) (d:DF ρ s.s.bX a.defers) {Q:Exit->Act->World->Prop}
 (hQ:∀ρ' a' w',Rel ⟨P,gl,aO,N⟩ ρ' s'.s a' w'->DF ρ' s'.s.bX a'.defers->Ext s.s.hp s'.s.hp ρ ρ' w w'->Q (ud e) a' w'):(Code.rangeFunc g ps as bd).wpIn (FR none) 0 P Q a w:=by
 simp only[bh,Bool.false_eq_true,if_false]at hq;split at hq <;> try (cases hq;done)
 rename_i gf l1 l2 hgv;split at hq <;> try (cases hq;done)
 rename_i q hcall;split at hq <;> try (cases hq;done)
 rename_i st pend pe' ps' a' b' hb;split at hq <;> try (cases hq;done)
 rename_i hst;cases hq;have hgV:=r.aa hg hgv;generalize hge:a.eval g=gv at hgV;cases hgV with
 | @fn _ _ _ fi' ca' hf h1 h2 g1 g2=>
  refine wpIn_rangeFunc fun fnId _=>?_
  have x1:=Ext.alloc r.mem (some .fR) (.deferred (some [])) (.live w.heap.size 0) (.inl ⟨0,rfl⟩);have m1:=Mem.alloc r.mem (some .fR) (.deferred (some [])) (.live w.heap.size 0) (.inl ⟨0,rfl⟩) (by
   intro o' ho;cases ho;exact⟨w.heap.size,au.dI _ _ _,by simp⟩)
  generalize hρ1:ρ.dH s.s.hp.length (.live w.heap.size 0)=ρ1 at *
  generalize hw1:({ w with heap:=w.heap.push (.deferred (some [])) }:World)=v1 at *
  have hv1s:v1.heap.size=w.heap.size+1:=by rw[←hw1];simp
  let rec0:Loop:={ state:=.ready,pending:=none,fn:=fnId,tmps:=a.tmps,params:=ps,assign:=as,body:=bd,defers:=w.heap.size }
  have hl1:(s.s.hp++[some bw.fR]).length=s.s.hp.length+1:=by simp
  have x2:=Ext.alloc m1 (some (.loop .ready none s.s.pe dps ai bi)) (.loop rec0) (.live v1.heap.size 0) (.inl ⟨0,rfl⟩);have er1:ER ⟨P,gl,aO,N⟩ ρ1 v1 s.s.pe [] a.tmps:=⟨r.er.size,r.er.nodup,r.er.lt,r.er.iN,fun i v t hv ht=>(r.er.pe i v t hv ht).mono x1,fun _ _ hl=>by cases hl⟩;have m2:=Mem.alloc m1 (some (.loop .ready none s.s.pe dps ai bi)) (.loop rec0) (.live v1.heap.size 0) (.inl ⟨0,rfl⟩) (by
   intro o' ho;cases ho;exact⟨v1.heap.size,rec0,aO,N,au.dI _ _ _,by simp,rfl,trivial,er1.mono x2,hps,has,hbd⟩)
  rw[hl1]at x2 m2;have happ:s.s.hp++[some bw.fR]++[some (.loop .ready none s.s.pe dps ai bi)]=s.s.hp++[some bw.fR,some (.loop .ready none s.s.pe dps ai bi)]:=by simp
  rw[happ]at x2 m2;generalize hρ2:ρ1.dH (s.s.hp.length+1) (.live v1.heap.size 0)=ρ2 at *
  generalize hw2:({ v1 with heap:=v1.heap.push (.loop rec0) }:World)=v2 at *
  have x12:=x1.trans x2;have hyield:V ρ2 v2 (.fn (.yield (s.s.hp.length+1)) [] []) (.func (.yield (w.heap.size+1)) #[] #[]):=by
   rw[←hv1s];exact .yield (d:=0) (by rw[←hρ2];exact au.dI _ _ _)
  have hall:VL ρ2 v2 (l1++[.fn (.yield (s.s.hp.length+1)) [] []]++l2) (fi'++[.func (.yield (w.heap.size+1)) #[] #[]]++ca'):=by
   have e1:VL ρ2 v2 l1 fi':=VL.mono x12 ⟨h1,g1⟩;have e2:VL ρ2 v2 l2 ca':=VL.mono x12 ⟨h2,g2⟩;exact(e1.append (.cons hyield .nil)).append e2
  obtain⟨hcf,hcalls⟩:=uf ihn hFT hcall m2 hall;refine⟨w.heap.size+1,[{ target:=.collected w.heap.size,args:=#[] }],v2,{ target:=.fn (.func gf) ca'.toArray,args:=fi'.toArray ++ #[.func (.yield (w.heap.size+1)) #[] #[]] },v2,gf,
   (fi'++[Value.func (.yield (w.heap.size+1)) #[] #[]]++ca').toArray,v2,?_,?_,fun _ _=>trivial,?_,fun hd=>(by cases hd),?_⟩
  . rw[show (FR none).round=none from rfl,Rf,←hw2,←hw1]
  . have e:resolve a.eval (rangeCall g (w.heap.size+1)) 0=Deferred.ofValue (a.eval g) #[.func (.yield (w.heap.size+1)) #[] #[]]:=by
     simp[resolve,Act.eval]
    rw[e,hge];rfl
  . simp only[invoke];rw[←hcf];congr 2;simp
  . refine CallsIn.mono (F:=Fence.wide) (n:=0) hcalls ?_;intro en w3 hen;cases en with
    | panicked _=>exact hen.elim
    | outgrown=>exact hen.elim
    | returned v=>
     obtain⟨ρ3,hv3,m3,x3⟩:=hen;obtain⟨h0',c,rr,pers',N',k1,k2,k3,k4,k5,k6,k7,k8⟩:=uh m3 hb;have hc:c=w.heap.size+1:=by
      have hl:ρ2 (s.s.hp.length+1) = .live (w.heap.size+1) 0:=by rw[←hρ2,←hv1s];exact au.dI _ _ _
      rcases x3.live _ _ _ hl with hh|hh
      . rw[k1]at hh;cases hh;rfl
      . rw[k1]at hh;cases hh
     subst hc;obtain⟨m4,x4⟩:=Au (st':=.exhausted) (pend':=pend) m3 h0' k1 k2 { rr with state:=.exhausted } rfl k4 k5 k6 k7 k8;have xx:=(x12.trans x3).trans x4;refine⟨rr.pending,w3.di (w.heap.size+1) (.loop { rr with state:=.exhausted }),?_,?_⟩
     . have hnb:(rr.state == LoopState.busy)=false:=by rw[k3];simpa using hst
       simp only[Instr.endLoop,Sem.run_bind,ug k2,Result.andThen_ok,hnb,Bool.false_eq_true,if_false,Sem.run_pure,nu k2 (by simp)]
     . have hrel:Rel ⟨P,gl,aO,N⟩ ρ3 { s.s with hp:=q.h.put (s.s.hp.length+1) (some (.loop .exhausted pend pe' ps' a' b')),bX:=s.s.hp.length::s.s.bX } { a with defers:=[{ target:=.collected w.heap.size,args:=#[] }]++a.defers } (w3.di (w.heap.size+1) (.loop { rr with state:=.exhausted })):=
        ⟨(r.er.mono xx:ER ⟨P,gl,aO,N⟩ ρ3 _ s.s.pe s.s.lo a.tmps),m4⟩
       have hdf:DF ρ3 (s.s.hp.length::s.s.bX) ([{ target:=.collected w.heap.size,args:=#[] }]++a.defers):=by
        have hl:ρ1 s.s.hp.length = .live w.heap.size 0:=by rw[←hρ1];exact au.dI _ _ _
        have d1:DF ρ1 (s.s.hp.length::s.s.bX) ([{ target:=.collected w.heap.size,args:=#[] }]++a.defers):=by
         have d0:=d.mono x1;refine⟨by simp[d0.1],fun i b dd hi hi'=>?_⟩;cases i with
         | zero=>simp at hi hi';subst hi;subst hi';exact⟨_,rfl,.inl hl⟩
         | succ i=>exact d0.2 i b dd (by simpa using hi) (by simpa using hi')
        exact((d1.mono x2).mono x3).mono x4
       have hfin:=hQ ρ3 _ _ hrel hdf xx;have key:∀(W:World) (a':Act) (jp:Option Code),nj pend jp->Q (ud (pend.getD .normal)) a' W->(match jp with|none=>Q .normal a' W|some c=>c.wpIn (FR none) 0 P Q a' W):=by
        intro W a' jp k4 hfin;cases pend with
        | none=>
         cases jp with
         | none=>exact hfin
         | some _=>exact k4.elim
        | some e1=>
         cases e1 with
         | normal=>cases jp <;> exact k4.elim
         | exit i=>
          cases jp with
          | none=>exact k4.elim
          | some cc=>
           cases cc <;> simp only[nj]at k4;subst k4;exact wpIn_exit hfin
         | ret=>
          cases jp with
          | none=>exact k4.elim
          | some cc=>
           cases cc <;> simp only[nj]at k4;exact wpIn_ret hfin
       exact key _ _ _ k4 hfin
theorem Ax (hmix:P.follows .mixedOrders=true)(hext:cA P gl ext)(hFT:mq P gl FT):∀n,kV P gl (bh ext (eK P) FT n):=by
 intro n;induction n using Nat.strongRecOn with
 | _ n ih=>
  refine⟨Rc hext hFT n ih,?_⟩;cases n with
  | zero=>intro c s e s' hq;cases hq
  | succ n=>
   have ihn:=ih n (by omega);have hcall:=Av ihn hext hFT;intro c s e s' hq aO N rd code hcode ρ a w ro r d hrd Q hQ;cases code <;> simp only[fC]at hcode
   case skip=>
    cases hcode;simp only[bh,Option.some.injEq,Prod.mk.injEq]at hq;obtain⟨rfl,rfl⟩:=hq;exact wpIn_skip (hQ ρ a w r d (Ext.refl _ _ _))
   case label l=>
    cases hcode;simp only[bh,Option.some.injEq,Prod.mk.injEq]at hq;obtain⟨rfl,rfl⟩:=hq;exact wpIn_label (hQ ρ a w r d (Ext.refl _ _ _))
   case exit id=>
    cases hcode;simp only[bh,Option.some.injEq,Prod.mk.injEq]at hq;obtain⟨rfl,rfl⟩:=hq;exact wpIn_exit (hQ ρ a w r d (Ext.refl _ _ _))
   case ret=>
    cases hcode;simp only[bh,Option.some.injEq,Prod.mk.injEq]at hq;obtain⟨rfl,rfl⟩:=hq;exact wpIn_ret (hQ ρ a w r d (Ext.refl _ _ _))
   case region id ops draw=>
    simp only[Option.some.injEq]at hcode;cases hc:tH ⟨P,gl,aO,N⟩ ops.toList draw with
    | none=>rw[hc]at hcode;simp at hcode;subst hcode;simp[bh]at hq
    | some c'=>
     rw[hc]at hcode;simp at hcode;subst hcode;obtain⟨il,hil,hor⟩:=Re hc;rcases hor with ⟨rfl,rfl⟩|⟨rfl,bits,hb1,hb2,rfl⟩
     . simp only[bh]at hq;split at hq
       . rename_i s1 hr;cases hq;have hdfs:=Aq _ _ _ hr;refine QG hcall hil r hr ?_;intro ρ' a' w' r' x' hd';refine hQ ρ' a' w' r' ?_ x';rw[hdfs,hd'];exact d.mono x'
       . cases hq
     . simp only[bh]at hq;split at hq
       . rename_i s1 hr;cases hq;refine QR hcall hmix hcall.wr hil hb1 hb2 r hr ?_;intro ρ' a' w' r' x' hd' hdfs;refine hQ ρ' a' w' r' ?_ x';rw[hdfs,hd'];exact d.mono x'
       . cases hq
   case seq x y=>
    split at hcode
    . rename_i cx cy hx hy;cases hcode;simp only[bh]at hq;refine wpIn_seq ?_;cases hr:bh ext (eK P) FT n cx s with
      | none=>rw[hr]at hq;cases hq
      | some p=>
       obtain⟨e1,s1⟩:=p;rw[hr]at hq;refine ihn.ok cx s e1 s1 hr aO N rd x hx ρ a w ro r d hrd _ ?_;intro ρ1 a1 w1 r1 d1 x1;cases e1 with
       | normal=>exact ihn.ok cy s1 e s' hq aO N rd y hy ρ1 a1 w1 ro r1 d1 hrd Q fun ρ2 a2 w2 r2 d2 x2=>hQ ρ2 a2 w2 r2 d2 (x1.trans x2)
       | exit i=>cases hq;exact hQ ρ1 a1 w1 r1 d1 x1
       | ret=>cases hq;exact hQ ρ1 a1 w1 r1 d1 x1
    . cases hcode
   case cond t x y=>
    split at hcode
    . rename_i ct cx cy ht hx hy;cases hcode;simp only[bh]at hq;split at hq
      . rename_i b hb;have e1:=(r.aa ht hb).me;refine wpIn_cond e1 ?_;cases b with
        | true=>exact ihn.ok cx s e s' hq aO N rd x hx ρ a w ro r d hrd Q hQ
        | false=>exact ihn.ok cy s e s' hq aO N rd y hy ρ a w ro r d hrd Q hQ
      . cases hq
    . cases hcode
   case block id x=>
    simp only[Option.map_eq_some_iff]at hcode;obtain⟨cx,hx,rfl⟩:=hcode;simp only[bh]at hq;refine wpIn_block ?_;cases hr:bh ext (eK P) FT n cx s with
    | none=>rw[hr]at hq;cases hq
    | some p=>
     obtain⟨e1,s1⟩:=p;rw[hr]at hq;refine ihn.ok cx s e1 s1 hr aO N rd x hx ρ a w ro r d hrd _ ?_;intro ρ1 a1 w1 r1 d1 x1;cases e1 with
     | normal=>cases hq;exact hQ ρ1 a1 w1 r1 d1 x1
     | exit i=>
      simp only at hq;show (if i=id then Q .normal a1 w1 else Q (.exit i) a1 w1);split at hq
      . rename_i hi;cases hq;rw[if_pos hi];exact hQ ρ1 a1 w1 r1 d1 x1
      . rename_i hi;cases hq;rw[if_neg hi];exact hQ ρ1 a1 w1 r1 d1 x1
     | ret=>cases hq;exact hQ ρ1 a1 w1 r1 d1 x1
   case loop x=>
    simp only[Option.map_eq_some_iff]at hcode;obtain⟨cx,hx,rfl⟩:=hcode;exact Rd hx (fun k hk=>ih k hk) hq r d hrd hQ
   case scope x=>
    simp only[Option.map_eq_some_iff]at hcode;obtain⟨cx,hx,rfl⟩:=hcode;refine QT ?_;simp only[bh]at hq;cases hr:bh ext (eK P) FT n cx s with
    | none=>rw[hr]at hq;cases hq
    | some p=>
     obtain⟨e1,s1⟩:=p;rw[hr]at hq;refine ihn.ok cx s e1 s1 hr aO N rd x hx ρ a w ro r d hrd _ ?_;intro ρ1 a1 w1 r1 d1 x1;cases e1 with
     | normal=>
      simp only at hq;cases n with
      | zero=>cases hq
      | succ n=>
       simp only[bh,Option.some.injEq,Prod.mk.injEq]at hq;obtain⟨rfl,rfl⟩:=hq;exact hQ ρ1 a1 w1 r1 d1 x1
     | exit i=>cases hq;exact hQ ρ1 a1 w1 r1 d1 x1
     | ret=>cases hq;exact hQ ρ1 a1 w1 r1 d1 x1
   case rangeFunc g ps as bd=>
    split at hcode
    . rename_i fi dps ai bi h1 h2 h3 h4;cases hcode;cases rd with
      | true=>simp[bh]at hq
      | false=>
       rw[hrd rfl];exact Rg ihn hFT h1 h2 h3 h4 hq r d hQ
    . cases hcode
   all_goals
    cases hcode;simp[bh]at hq
end Go.Ab

/-
  Own work: a call whose arguments and result name no block of the call's own: what is shown on the empty heap holds on every heap.
-/
namespace Go.Ab
variable {P:Program} {gl:Nat->Option AV} {ρ:au} {w:World} {h:ab}
def Ay:AV->AV->Bool
 | .int k a,.int k' b=>decide (k=k') && a == b
 | .str a,.str b=>a == b
 | .bool a,.bool b=>a == b
 | .du,.du | .ae,.ae | .dU,.dU | .fv,.fv | .cY,.cY=>true
 | .fn (.func f) [] [],.fn (.func g) [] []=>f == g
 | _,_=>false
def uj:List AV->List AV->Bool
 | [],[]=>true
 | a::l,b::m=>Ay a b && uj l m
 | _,_=>false
theorem Rh {a b:AV}(h:Ay a b=true):a=b:=by
 unfold Ay at h;split at h <;> first|rfl|(simp at h;done)|skip
 . simp at h;rw[h.1,h.2]
 . simp at h;rw[h]
 . simp at h;rw[h]
 . simp at h;rw[h]
theorem GG:∀{a b:List AV},uj a b=true->a=b
 | [],[],_=>rfl
 | _::_,_::_,h=>by
  simp only[uj,Bool.and_eq_true]at h;rw[Rh h.1,GG h.2]
 | [],_::_,h=>by cases h
 | _::_,[],h=>by cases h
theorem jl.mono {nx:Next}{w1:World}{R R':Value->World->Prop}(h:jl P nx w1 R)(hr:∀v w',R v w'->R' v w'):jl P nx w1 R':=by
 cases nx <;> simp only[jl]at h ⊢
 case value v=>exact hr _ _ h
 case enter f args=>
  refine CallsIn.mono h fun e w' he=>?_
  cases e with
  | returned v=>exact hr _ _ he
  | panicked _=>exact he
  | outgrown=>exact he
 case round l f tmps as bd=>
  refine RoundIn.mono h fun e w' he=>?_
  cases e with
  | returned v=>exact hr _ _ he
  | panicked _=>exact he
  | outgrown=>exact he
theorem Mem.bare (hgl:∀g v,gl g=some v->v.top=0)(m:Mem P gl ρ h w):Mem P gl (dP 0 ρ) [] w:=by
 refine⟨fun b o hb=>by simp at hb,fun b _=>rfl,?_,?_,?_,?_,fun g v hg=>?_⟩
 . intro b b' c d d' h1;simp[dP]at h1
 . intro b c d h1;simp[dP]at h1
 . rintro c (hc|⟨b,d,_,hb⟩)
   . exact m.xb c hc
   . exact m.bound b c d hb
 . intro b c d h1;simp[dP]at h1
 . exact(m.gl g v hg).fX (n:=0) (fun b hb=>by omega) (fun c hc=>hc.dP 0) (by rw[hgl g v hg];exact Nat.le_refl _)
theorem VL.bare {l:List AV}{m:List Value}(hl:bk l=0)(h:VL ρ w l m):VL (dP 0 ρ) w l m:=
 ⟨h.1,fun i x y hx hy=>(h.2 i x y hx hy).fX (n:=0) (fun b hb=>by omega) (fun c hc=>hc.dP 0) (ff (by omega) i x hx)⟩
end Go.Ab

/-
  Own work: the functions without a body that the abstract machine knows, by their numbers.
-/
namespace Go.Ab
variable {P:Program} {gl:Nat->Option AV} {ρ:au} {w:World} {h:ab}
inductive XK where
 | py|pz|index|count|same
 deriving DecidableEq
def Ri:Array Value->Sem Value:=fun args=>do
 let (x, y, b) ←Extern.MathBitsCarry.three "Sub64" args
 pure (Extern.MathBitsCarry.pair ((x+Extern.MathBitsCarry.m64-y-b)%Extern.MathBitsCarry.m64) (if x<y+b then 1 else 0))
def XK.entry:XK->Array Value->Sem Value
 | .py=>add64Entry
 | .pz=>Ri
 | .index=>Extern.BytealgIndexByte.indexByte
 | .count=>Extern.BytealgCount.count
 | .same=>Extern.AbiNoEscape.same
def XK.run:XK->List AV->Option AV
 | .py,[.int .u64 x,.int .u64 y,.int .u64 c]=>if 0<=x/\0<=y/\0<=c/\c<=1 then some (.aq [.int .u64 ((x+y+c)%18446744073709551616),.int .u64 ((x+y+c)/18446744073709551616)]) else none
 | .pz,[.int .u64 x,.int .u64 y,.int .u64 c]=>if 0<=x/\0<=y/\0<=c/\c<=1 then some (.aq [.int .u64 ((x.toNat+18446744073709551616-y.toNat-c.toNat)%18446744073709551616:Nat),.int .u64 (if x.toNat<y.toNat+c.toNat then 1 else 0:Nat)]) else none
 | .index,[.str s,.int .u8 c]=>some (.int .i64 (firstIdx ⟨s.toArray⟩ c.toNat.toUInt8))
 | .count,[.str s,.int .u8 c]=>some (.int .i64 ((ByteArray.mk s.toArray).foldl (fun n x=>if x == c.toNat.toUInt8 then n+1 else n) ((0:Nat):Int)))
 | .same,[x]=>some x
 | _,_=>none
structure nE (P:Program)(f:Nat)(k:XK):Prop where
 fn : ∃fn, P.funcs[f]? = some fn /\ (fn.name == "runtime.NumGoroutine") = false /\ fn.body.isNone = true /\ Extern.findNext fn = none /\ Extern.find fn = some k.entry
def nF:List (Nat×XK)->FuncId->List AV->ab->Option HR
 | [],_,_,_=>none
 | (g,k)::L,f,all,h=>if Nat.beq g f then (match k.run all with|some v=>some ⟨v,h,[]⟩|none=>none) else nF L f all h
theorem Rj {x y c:Int}(hc0:0<=c)(hc:c<=1)(n:String)(k:Nat×Nat×Nat->Sem Value) :
 ((Extern.MathBitsCarry.three n #[.int .u64 x,.int .u64 y,.int .u64 c]) >>= k).run P w=(k (x.toNat,y.toNat,c.toNat)).run P w:=by
 obtain⟨c',rfl⟩:=Int.eq_ofNat_of_zero_le hc0;have:c'=0\/c'=1:=by omega
 rcases this with rfl|rfl <;> rfl
theorem XK.pA (k:XK){all:List AV}{as':List Value}(hv:VL ρ w all as'){v:AV}(hq:k.run all=some v):∃v',(k.entry as'.toArray).run P w = .ok v' w/\V ρ w v v':=by
 unfold XK.run at hq;split at hq <;> try (cases hq;done)
 . rename_i x y c;split at hq <;> try (cases hq;done)
   rename_i hc;cases hq;obtain⟨a1,m1,rfl,e1,hv⟩:=hv.cons_inv;obtain⟨a2,m2,rfl,e2,hv⟩:=hv.cons_inv;obtain⟨a3,m3,rfl,e3,hv⟩:=hv.cons_inv;obtain rfl:=hv.jB;cases e1;cases e2;cases e3;exact⟨_,run_add64 x y c hc.1 hc.2.1 hc.2.2.1 hc.2.2.2 w,V.im (.cons (.int _ _) (.cons (.int _ _) .nil))⟩
 . rename_i x y c;split at hq <;> try (cases hq;done)
   rename_i hc;cases hq;obtain⟨a1,m1,rfl,e1,hv⟩:=hv.cons_inv;obtain⟨a2,m2,rfl,e2,hv⟩:=hv.cons_inv;obtain⟨a3,m3,rfl,e3,hv⟩:=hv.cons_inv;obtain rfl:=hv.jB;cases e1;cases e2;cases e3;exact⟨_, Rj hc.2.2.1 hc.2.2.2 "Sub64" _, V.im (.cons (.int _ _) (.cons (.int _ _) .nil))⟩
 . rename_i s c;cases hq;obtain⟨a1,m1,rfl,e1,hv⟩:=hv.cons_inv;obtain⟨a2,m2,rfl,e2,hv⟩:=hv.cons_inv;obtain rfl:=hv.jB;cases e1;cases e2;exact⟨_,run_indexByte_string ⟨s.toArray⟩ c w,.int _ _⟩
 . rename_i s c;cases hq;obtain⟨a1,m1,rfl,e1,hv⟩:=hv.cons_inv;obtain⟨a2,m2,rfl,e2,hv⟩:=hv.cons_inv;obtain rfl:=hv.jB;cases e1;cases e2;exact⟨_,rfl,.int _ _⟩
 . rename_i x;cases hq;obtain⟨a1,m1,rfl,e1,hv⟩:=hv.cons_inv;obtain rfl:=hv.jB;exact⟨a1,rfl,e1⟩
theorem Az:∀{L:List (Nat×XK)},(∀p∈L,nE P p.1 p.2)->cA P gl (nF L)
 | [],_=>fun f all h r hq=>by cases hq
 | (g,k)::L,hL=>fun f all h r hq=>by
  simp only[nF]at hq;split at hq
  . rename_i hg;have hg':=Nat.eq_of_beq_eq_true hg;subst hg';split at hq
    . rename_i v hv;cases hq;refine⟨pr _,fun ρ w as' m hl=>?_⟩;obtain⟨fn,h1,h2,h3,h4,h5⟩:=(hL (g,k) (by simp)).fn;obtain⟨v',h6,h7⟩:=XK.pA (P:=P) k hl hv;refine⟨.value v',w,?_,gZ m h7⟩;rw[run_callFunc_extern h1 h2 h3 h4 h5,h6];rfl
    . cases hq
  . exact Az (fun p hp=>hL p (by simp[hp])) f all h r hq
end Go.Ab

/-
  Own work: a call that looks at some blocks of the heap only: what is shown on those holds on every heap that has them.
-/
namespace Go.Ab
variable {P:Program} {gl:Nat->Option AV} {ρ:au} {w:World} {h:ab}
def uk:Option Nat->Option Nat->Bool
 | none,none=>true
 | some a,some b=>Nat.beq a b
 | _,_=>false
theorem GH {a b:Option Nat}(h:uk a b=true):a=b:=by
 unfold uk at h;split at h
 . rfl
 . rw[Nat.eq_of_beq_eq_true h]
 . cases h
mutual
def nG:AV->AV->Bool
 | .cR,.cR=>true
 | .int k a,.int k' b=>decide (k=k') && a == b
 | .str a,.str b=>a == b
 | .bool a,.bool b=>a == b
 | .du,.du | .ae,.ae | .dU,.dU | .fv,.fv | .cY,.cY=>true
 | .ptr b o,.ptr b' o'=>Nat.beq b b' && Nat.beq o o'
 | .vp l,.vp m=>jE l m
 | .sl b o n e c,.sl b' o' n' e' c'=>Nat.beq b b' && Nat.beq o o' && Nat.beq n n' && Nat.beq e e' && uk c c'
 | .vs l n c,.vs l' n' c'=>jE l l' && Nat.beq n n' && uk c c'
 | .map b,.map b'=>Nat.beq b b'
 | .fn (.func f) x y,.fn (.func g) x' y'=>Nat.beq f g && jE x x' && jE y y'
 | .iface t v,.iface t' v'=>Nat.beq t t' && nG v v'
 | .agg l,.agg m=>jE l m
 | .aq l,.aq m=>jE l m
 | _,_=>false
def jE:List AV->List AV->Bool
 | [],[]=>true
 | a::l,b::m=>nG a b && jE l m
 | _,_=>false
end
mutual
theorem rz:∀(a b:AV),nG a b=true->a=b:=by
 intro a b h;unfold nG at h;split at h <;> first|rfl|(simp at h;done)|skip
 . simp at h;rw[h.1,h.2]
 . simp at h;rw[h]
 . simp at h;rw[h]
 . simp only[Bool.and_eq_true,Nat.beq_eq]at h;rw[h.1,h.2]
 . rw[kX _ _ h]
 . simp only[Bool.and_eq_true,Nat.beq_eq]at h;rw[h.1.1.1.1,h.1.1.1.2,h.1.1.2,h.1.2,GH h.2]
 . simp only[Bool.and_eq_true,Nat.beq_eq]at h;rw[kX _ _ h.1.1,h.1.2,GH h.2]
 . rw[Nat.eq_of_beq_eq_true h]
 . simp only[Bool.and_eq_true,Nat.beq_eq]at h;rw[h.1.1,kX _ _ h.1.2,kX _ _ h.2]
 . simp only[Bool.and_eq_true,Nat.beq_eq]at h;rw[h.1,rz _ _ h.2]
 . rw[kX _ _ h]
 . rw[kX _ _ h]
theorem kX:∀(a b:List AV),jE a b=true->a=b:=by
 intro a b h;cases a <;> cases b <;> simp only[jE,Bool.and_eq_true]at h <;> first|rfl|(simp at h;done)|skip
 rw[rz _ _ h.1,kX _ _ h.2]
end
def um:List (AV×AV)->List (AV×AV)->Bool
 | [],[]=>true
 | (a,b)::l,(c,d)::m=>nG a c && nG b d && um l m
 | _,_=>false
theorem GI:∀{a b:List (AV×AV)},um a b=true->a=b
 | [],[],_=>rfl
 | (a,b)::l,(c,d)::m,h=>by
  simp only[um,Bool.and_eq_true]at h;rw[rz _ _ h.1.1,rz _ _ h.1.2,GI h.2]
 | [],_::_,h=>by cases h
 | _::_,[],h=>by cases h
def uo:bw->bw->Bool
 | .cells l e,.cells m f=>Nat.beq e f && jE l m
 | .map l,.map m=>um l m
 | .iter s p,.iter t q=>s == t && Nat.beq p q
 | .fR,.fR=>true
 | _,_=>false
theorem GJ {a b:bw}(h:uo a b=true):a=b:=by
 unfold uo at h;split at h
 . simp only[Bool.and_eq_true,Nat.beq_eq]at h;rw[h.1,kX _ _ h.2]
 . rw[GI h]
 . simp only[Bool.and_eq_true,Nat.beq_eq,beq_iff_eq]at h;rw[h.1,h.2]
 . rfl
 . cases h
def pB:ab->ab->Bool
 | [],[]=>true
 | none::l,none::m=>pB l m
 | some a::l,some b::m=>uo a b && pB l m
 | _,_=>false
theorem AA:∀{a b:ab},pB a b=true->a=b
 | [],[],_=>rfl
 | none::l,none::m,h=>by simp only[pB]at h;rw[AA h]
 | some a::l,some b::m,h=>by
  simp only[pB,Bool.and_eq_true]at h;rw[GJ h.1,AA h.2]
 | [],_::_,h=>by cases h
 | _::_,[],h=>by rename_i o _;cases o <;> cases h
 | none::_,some _::_,h=>by cases h
 | some _::_,none::_,h=>by cases h
def mu:ab->ab->Bool
 | [],[]=>true
 | none::l,_::m=>mu l m
 | some a::l,some b::m=>uo a b && mu l m
 | _,_=>false
theorem AB:∀{a b:ab},mu a b=true->a.length=b.length/\∀(i:Nat) x,a[i]? = some (some x)->b[i]? = some (some x)
 | [],[],_=>⟨rfl,by simp⟩
 | none::l,o::m,h=>by
  simp only[mu]at h;obtain⟨h1,h2⟩:=AB h;refine⟨by simp[h1],fun i x hx=>?_⟩;cases i with
  | zero=>simp at hx
  | succ i=>exact h2 i x (by simpa using hx)
 | some a::l,some b::m,h=>by
  simp only[mu,Bool.and_eq_true]at h;obtain⟨h1,h2⟩:=AB h.2;refine⟨by simp[h1],fun i x hx=>?_⟩;cases i with
  | zero=>simp at hx ⊢;rw[←GJ h.1,hx]
  | succ i=>exact h2 i x (by simpa using hx)
 | [],_::_,h=>by cases h
 | o::_,[],h=>by cases o <;> cases h
 | some _::_,none::_,h=>by cases h
structure cf where
 f:Nat
 as:List AV
 h:ab
 r:HR
def uq (r:HR):Option HR->Bool
 | some q=>nG q.v r.v && pB q.h r.h && q.wr == r.wr
 | none=>false
theorem Rk {r:HR}{q:Option HR}(h:uq r q=true):q=some r:=by
 unfold uq at h;split at h
 . rename_i q;simp only[Bool.and_eq_true,beq_iff_eq]at h;obtain⟨v,hh,wr⟩:=q;obtain⟨v',hh',wr'⟩:=r;simp only at h;rw[rz _ _ h.1.1,AA h.1.2,h.2]
 . cases h
def nH (f:Nat)(all:List AV)(h:ab):List cf->Option HR
 | []=>none
 | e::T=>if Nat.beq e.f f then (if jE e.as all then (if mu e.h h then some ⟨e.r.v,dV e.r.wr h e.r.h 0,e.r.wr⟩ else nH f all h T) else nH f all h T) else nH f all h T
def ur (T:List cf)(ext:FuncId->List AV->ab->Option HR):FuncId->List AV->ab->Option HR:=fun f all h=>
 match nH f all h T with
 | some r=>some r
 | none=>ext f all h
def bQ (P:Program)(gl:Nat->Option AV)(e:cf):Prop:=
 fo e.h e.r/\∀ρ w (as':List Value),Mem P gl ρ e.h w->VL ρ w e.as as'->∃nx w1,(callFunc e.f as'.toArray).run P w = .ok nx w1/\jl P nx w1 fun v w'=>dY P gl ρ e.h w e.r v w'
theorem GK {f:Nat}{all:List AV}{h:ab}:∀{T:List cf} {r:HR},nH f all h T=some r->∃e∈T,e.f=f/\e.as=all/\mu e.h h=true/\r=⟨e.r.v,dV e.r.wr h e.r.h 0,e.r.wr⟩
 | [],r,h=>by cases h
 | e::T,r,hq=>by
  have rest:nH f all h T=some r->∃e'∈e::T,e'.f=f/\e'.as=all/\mu e'.h h=true/\r=⟨e'.r.v,dV e'.r.wr h e'.r.h 0,e'.r.wr⟩:=fun hr=>by
   obtain⟨e',h1,h2⟩:=GK hr;exact⟨e',List.mem_cons_of_mem _ h1,h2⟩
  simp only[nH]at hq;split at hq
  . rename_i hf;split at hq
    . rename_i ha;split at hq
      . rename_i hs;cases hq;exact⟨e,List.mem_cons_self,Nat.eq_of_beq_eq_true hf,kX _ _ ha,hs,rfl⟩
      . exact rest hq
    . exact rest hq
  . exact rest hq
theorem Rl {h0:ab}{r:HR}(hs:h0.length=h.length/\∀(i:Nat) x,h0[i]? = some (some x)->h[i]? = some (some x))(hwr:fo h0 r)(m:Mem P gl ρ h w){v':Value}{w':World}(hd:dY P gl ρ h0 w r v' w') :
 dY P gl ρ h w ⟨r.v,dV r.wr h r.h 0,r.wr⟩ v' w':=by
 obtain⟨ρ',hv,m',x⟩:=hd;obtain⟨hl,hk⟩:=hs;have hle:h.length<=r.h.length:=by have:=hwr.1;omega
 have get:=fun b=>jD r.wr h r.h 0 b hle
 have hml:=rq r.wr h r.h 0 hle;have h0none:∀b,b<h.length->h[b]? = some none->h0[b]? = some none:=by
  intro b hb hn;cases hz:h0[b]? with
  | none=>rw[List.getElem?_eq_none_iff]at hz;omega
  | some z=>cases z with
    | none=>rfl
    | some z=>rw[hk b z hz]at hn;cases hn
 have E:Ext h (dV r.wr h r.h 0) ρ ρ' w w':=by
  refine⟨x.os,x.tape,x.output,x.size,by rw[hml];exact hle,x.X,?_,?_,x.live,x.dead,x.nil,?_,?_,x.shape⟩
  . intro b hb;have hlt:=(List.getElem?_eq_some_iff.1 hb).1;rw[get b,if_pos hlt];split
    . exact x.cR b (h0none b hlt hb)
    . exact hb
  . intro b hb;exact x.same b (h0none b (List.getElem?_eq_some_iff.1 hb).1 hb)
  . intro c hc hu;refine x.bU c hc fun b d hb=>?_
    have:=hu b d hb;exact h0none b (List.getElem?_eq_some_iff.1 this).1 this
  . intro b c d hb hc;rcases x.back b c d hb hc with h1|⟨b0,d0,h1,h2⟩
    . exact .inl h1
    . refine .inr ⟨b0,d0,h1,fun hn=>h2 (h0none b0 (List.getElem?_eq_some_iff.1 hn).1 hn)⟩
 refine⟨ρ',hv,⟨?_,?_,m'.inj,m'.bound,m'.xb,m'.xo,m'.gl⟩,E⟩
 . intro b o hb;rw[get b]at hb;split at hb
   . rename_i hlt;split at hb
     . exact m'.cW b o hb
     . rename_i hno;simp only[Nat.add_zero,List.contains_eq_mem,decide_eq_true_eq]at hno;cases hz:h0[b]? with
       | none=>rw[List.getElem?_eq_none_iff]at hz;omega
       | some z=>
        cases z with
        | some o'=>
         have:=hk b o' hz;rw[hb]at this;cases this;exact m'.cW b o (by rw[hwr.2 b (by omega) hno,hz])
        | none=>
         refine(m.cW b o hb).mono E (x.same b hz) fun c d hl'=>?_
         refine x.bU c (m.bound b c d hl') fun b' d' hb'=>?_
         have:=m.inj _ _ _ _ _ hl' hb';subst this;exact hz
   . exact m'.cW b o hb
 . intro b hb;rw[hml]at hb;exact m'.fresh b hb
theorem GL {T:List cf}(hT:∀e∈T,bQ P gl e){ext:FuncId->List AV->ab->Option HR}(hext:cA P gl ext):cA P gl (ur T ext):=by
 intro f all h r hq;unfold ur at hq;split at hq
 . rename_i q hv;cases hq;obtain⟨e,he,rfl,rfl,hs,rfl⟩:=GK hv;obtain⟨hwr,bC⟩:=hT e he;have hsp:=AB hs;have hle:h.length<=e.r.h.length:=by have:=hwr.1;omega
   refine⟨⟨by show _<=(dV _ _ _ _).length;rw[rq _ _ _ _ hle];exact hle,fun b hb hn=>?_⟩,fun ρ w as' m hl=>?_⟩
   . show (dV e.r.wr h e.r.h 0)[b]? = _;rw[jD _ _ _ _ _ hle,if_pos hb];simp only at hn;simp[hn]
   . have m0:Mem P gl ρ e.h w:=⟨fun b o hb=>m.cW b o (hsp.2 b o hb),fun b hb=>m.fresh b (by omega),m.inj,m.bound,m.xb,m.xo,m.gl⟩;obtain⟨nx,w1,h1,h2⟩:=bC ρ w as' m0 hl;exact⟨nx,w1,h1,h2.mono fun v w' hd=>Rl hsp hwr m hd⟩
 . exact hext f all h r hq
theorem Rm {call:dM}(hcall:mn P gl call){f:Nat}{as:List AV}{h:ab}{r:HR}(hq:uq r (call (.fn (.func f) [] []) as h)=true):bQ P gl ⟨f,as,h,r⟩:=by
 have hq':=Rk hq;refine⟨hcall.wr _ _ _ _ hq',fun ρ w as' m hl=>?_⟩;obtain⟨nx,w1,h1,h2⟩:=hcall.ok _ _ _ _ hq' ρ w (.func (.func f) #[] #[]) as' m (.fn (fi':=[]) (ca':=[]) (by simp) rfl rfl (by simp) (by simp)) hl;exact Gi f _ _ ⟨nx,w1,h1,h2⟩
end Go.Ab

/-
  Own work: more fuel gives the same; runs without fuel, and how they are put together.
-/
namespace Go.Ab
variable {ext:FuncId->List AV->ab->Option HR} {inv:fw} {FT:FuncId->Option dc}
def pC (c c':dM):Prop:=∀g as h r,c g as h=some r->c' g as h=some r
def uu (r r':al->ao->Option (Ex×ao)):Prop:=∀c s x,r c s=some x->r' c s=some x
theorem uv {c c':dM}(hc:pC c c'){s:St}{io:aZ}{q:HR}(h:bR c inv s io=some q):bR c' inv s io=some q:=by
 cases io <;> first|exact h|skip
 case call f as=>
  simp only[bR]at h ⊢;split at h
  . exact hc _ _ _ _ h
  . cases h
 case invoke f name as=>
  simp only[bR]at h ⊢;split at h
  . split at h
    . exact hc _ _ _ _ h
    . cases h
  . cases h
theorem mw {c c':dM}(hc:pC c c'):∀(l:List aU) (s s':ao),eE c inv l s=some s'->eE c' inv l s=some s'
 | [],s,s',h=>h
 | o::l,s,s',h=>by
  simp only[eE]at h ⊢;split at h
  . split at h
    . rename_i q hq;simp only[uv hc hq];exact mw hc l _ s' h
    . cases h
  . exact mw hc l _ s' h
  . cases h
theorem jZ {c c':dM}(hc:pC c c'):∀(l:List (aU×List Nat)) (s s':ao) (ds:List cg),dN c inv l s ds=some s'->dN c' inv l s ds=some s'
 | [],s,s',ds,h=>h
 | (o,un)::l,s,s',ds,h=>by
  simp only[dN]at h ⊢;split at h
  . split at h
    . rename_i hh;cases ht:jx s.s o.op with
      | none=>
       simp only[ht]at h ⊢;simp only[if_true]at h ⊢;split at h
       . rename_i q hq;simp only[uv hc hq];split at h
         . rename_i hk;rw[if_pos hh];simp only[hk,if_true];exact jZ hc l _ s' _ h
         . cases h
       . cases h
      | some T=>
       simp only[ht]at h ⊢;split at h
       . rename_i hd;rw[if_pos hd];split at h
         . rename_i q hq;simp only[uv hc hq];split at h
           . rename_i hk;rw[if_pos hh];simp only[hk,if_true];exact jZ hc l _ s' _ h
           . cases h
         . cases h
       . cases h
    . rename_i hh;rw[if_neg hh];split at h
      . exact jZ hc l _ s' _ h
      . cases h
  . exact jZ hc l _ s' _ h
  . cases h
theorem uw {r r':al->ao->Option (Ex×ao)}(hr:uu r r'){f:FuncId}{all:List AV}{h:ab}{q:HR}(hq:gk r FT f all h=some q):gk r' FT f all h=some q:=by
 unfold gk at hq ⊢;split at hq <;> try (cases hq;done)
 rename_i fi hfi;split at hq <;> try (cases hq;done)
 rename_i hn;rw[if_neg hn];split at hq <;> try (cases hq;done)
 rename_i e s hrun;rw[hr _ _ _ hrun];exact hq
theorem GM {r r':al->ao->Option (Ex×ao)}(hr:uu r r'):pC (gQ r ext FT) (gQ r' ext FT):=by
 intro g as h q hq;cases g <;> try (cases hq;done)
 rename_i f fi ca;cases f <;> try (cases hq;done)
 . simp only[gQ]at hq ⊢;split at hq
   . exact hq
   . exact uw hr hq
 . cases fi <;> cases ca <;> try (cases hq;done)
   rename_i b;change mr r b as h=some q at hq
   change mr r' b as h=some q
   unfold mr at hq ⊢;split at hq <;> try (cases hq;done)
   split at hq <;> try (cases hq;done)
   split at hq <;> try (cases hq;done)
   rename_i h3;simp only[hr _ _ _ h3];split at hq <;> try (cases hq;done)
   rename_i h4;split at hq <;> try (cases hq;done)
   rename_i h5;simp only[hr _ _ _ h5];exact hq
theorem Ro:∀n,uu (bh ext inv FT n) (bh ext inv FT (n+1)):=by
 intro n;induction n with
 | zero=>intro c s x h;cases h
 | succ n ih=>
  intro c s x h;have hc:pC (gQ (bh ext inv FT n) ext FT) (gQ (bh ext inv FT (n+1)) ext FT):=GM ih;cases c <;> first|exact h|skip
  case region ops=>
   rw[bh]at h ⊢;split at h
   . rename_i s1 h1;rw[mw hc _ _ _ h1];exact h
   . cases h
  case draw ops=>
   rw[bh]at h ⊢;split at h
   . rename_i s1 h1;rw[jZ hc _ _ _ _ h1];exact h
   . cases h
  case seq a b=>
   rw[bh]at h ⊢;cases hr:bh ext inv FT n a s with
   | none=>rw[hr]at h;cases h
   | some p=>
    rw[ih _ _ _ hr];rw[hr]at h;obtain⟨e,s1⟩:=p;cases e with
    | normal=>exact ih _ _ _ h
    | exit _=>exact h
    | ret=>exact h
  case cond t a b=>
   rw[bh]at h ⊢;split at h
   . exact ih _ _ _ h
   . cases h
  case block id a=>
   rw[bh]at h ⊢;cases hr:bh ext inv FT n a s with
   | none=>rw[hr]at h;cases h
   | some p=>
    rw[ih _ _ _ hr];rw[hr]at h;exact h
  case loop a=>
   rw[bh]at h ⊢;cases hr:bh ext inv FT n a s with
   | none=>rw[hr]at h;cases h
   | some p=>
    rw[ih _ _ _ hr];rw[hr]at h;obtain⟨e,s1⟩:=p;cases e with
    | normal=>exact ih _ _ _ h
    | exit _=>exact h
    | ret=>exact h
  case rangeFunc inner f ps a b=>
   rw[bh]at h ⊢;split at h
   . cases h
   . rename_i hi;rw[if_neg hi];split at h
     . rename_i g l1 l2 hg;simp only;split at h
       . rename_i q hq;simp only[uw ih hq];exact h
       . cases h
     . cases h
theorem ux {n m:Nat}(h:n<=m):uu (bh ext inv FT n) (bh ext inv FT m):=by
 induction h with
 | refl=>exact fun _ _ _ h=>h
 | step _ ih=>exact fun c s x hx=>Ro _ c s x (ih c s x hx)
end Go.Ab

/-
  Own work: from a run on the abstract machine to the kit's contract of a call.
-/
namespace Go.Ab
variable {P:Program} {gl:Nat->Option AV} {w:World} {ext:FuncId->List AV->ab->Option HR} {FT:FuncId->Option dc}
def bare:au:=⟨fun _=>.fresh,fun _=>False⟩
theorem Rq (hgl:∀g v,gl g=some v->V bare w v (.pointer (some ⟨g,0,none⟩))):Mem P gl bare [] w:=
 ⟨fun b o h=>(by simp at h),fun _ _=>rfl,fun b b' c d d' h=>(by cases h),fun b c d h=>(by cases h),fun c h=>False.elim h,fun b c d h=>(by cases h),hgl⟩
theorem Rr (hmix:P.follows .mixedOrders=true)(hext:cA P gl ext)(hFT:mq P gl FT){n:Nat}{f:FuncId}{as:List AV}{q:HR}(hq:gk (bh ext (eK P) FT n) FT f as []=some q)
 (hgl:∀g v,gl g=some v->V bare w v (.pointer (some ⟨g,0,none⟩))) {as':List Value} (hv:VL bare w as as') :
 Calls P f as'.toArray w fun e w'=>∃v',e = .returned v'/\(∃ρ',V ρ' w' q.v v')/\w'.os=w.os/\w'.tape=w.tape/\w'.output=w.output/\w.heap.size<=w'.heap.size/\∀c,c<w.heap.size->w'.heap[c]? = w.heap[c]? := by
 obtain⟨_,h2⟩:=uf (Ax hmix hext hFT n) hFT hq (Rq hgl) hv;have h3:=callsIn_wide.1 h2;refine h3.mono fun e w' he=>?_
 cases e with
 | returned v=>
  obtain⟨ρ',hv',m',x⟩:=he;exact⟨v,rfl,⟨ρ',hv'⟩,x.os,x.tape,x.output,x.size,fun c hc=>x.bU c hc fun b d hb=>by cases hb⟩
 | panicked _=>exact he.elim
 | outgrown=>exact he.elim
end Go.Ab

/-
  Own work: a law that answers true and leaves the old memory as it was: what its row says of the call's end.
-/
namespace Go.Ab
open Go.ChangeShapes Go.WideShapes Go.RowKit
variable {H:Type} {enc:TypeId×Value->H} {P:Program}
theorem Rs {W W':World}(h:W'.os=W.os/\W'.tape=W.tape/\W'.output=W.output/\W.heap.size<=W'.heap.size/\∀c,c<W.heap.size->W'.heap[c]? = W.heap[c]?):Below W.heap.size W W':=
 ⟨h.1,h.2.1,h.2.2.1,h.2.2.2.1,h.2.2.2.2⟩
theorem GN (hl:laidOutB P=true){W W':World}(hb:Below W.heap.size W W'):∀{ts:List TypeId} {vs:List Value} {ds:List (DataW H)} {ps:List MemPlace},(∀t∈ts,P.readableRec t=true/\t<P.types.size) ->
 DataW.TrodAll enc P W 0 (fun _=>true) true ts vs ds ps->(∀x∈ps,x.block<W.heap.size)->∀sp:Nat->Bool,(∀p∈ps,sp p.block=true)->DataW.TrodAll enc P W' 0 sp true ts vs ds ps
 | [],vs,ds,ps,_,h,_,sp,_=>by obtain⟨rfl,rfl,rfl⟩:=trodAll_nil h;exact trodAll_mk0
 | t::ts,vs,ds,ps,ht,h,hlt,sp,hsp=>by
  obtain⟨v,vs',d,ds',p,q,rfl,rfl,rfl,h1,h2⟩:=trodAll_cons h;obtain⟨g1,g2⟩:=ht t (by simp);refine trodAll_cons_mk (WideElems.Trod_stays hl g1 g2 h1 (fun x hx=>hb.same (hlt x (by simp[hx]))) (fun x hx=>hsp x (by simp[hx]))) ?_;exact GN hl hb (fun t ht'=>ht t (by simp[ht'])) h2 (fun x hx=>hlt x (by simp[hx])) sp fun x hx=>hsp x (by simp[hx])
theorem Rt {f:Func}{s:ChangeSpec}{apart fresh handsOn again:Bool}{W W':World}{args:Array Value}{ds gs:List (DataW H)}{before:List MemPlace}(hW:DataW.Whole enc P f.params.toList s.vars apart W args.toList ds gs before)
 (hl:laidOutB P=true) (ht:∀t∈f.params.toList,P.readableRec t=true/\t<P.types.size) (hvars:s.vars=[]) (hb:Below W.heap.size W W')
 {bt:TypeId} (hbt:P.underlying bt=some .bool) (hrt:f.resultTypes = #[bt]) (h1:(s.fn H (ds++gs)).results=[.lit (.bool true)]) (h2:(s.fn H (ds++gs)).args=ds) (h3:(s.fn H (ds++gs)).vars=[]) :
 s.post enc P f apart fresh handsOn again W args (.bool true) W':=by
 have hlt:∀x∈before,x.block<W.heap.size:=fun x hx=>by simpa using hW.lt x hx
 have hold:∀p∈before,(fun b=>decide (b<W.heap.size)) p.block=true:=fun p hp=>by simpa using hlt p hp
 have hW':=hW;obtain⟨p,q,hA,hV,hpq,hz,hn⟩:=hW';rw[hvars]at hV;obtain⟨hgs,hq⟩:=trodVars_none hV;subst hq;rw[List.append_nil]at hpq;subst hpq;have hargs:=GN hl hb ht hA hlt;have hargs':∀sp:Nat->Bool,(∀p∈before,sp p.block=true)->DataW.TrodAll enc P W' 0 sp true f.params.toList args.toList (s.fn H (ds++gs)).args before:=by
  rw[h2];exact hargs
 have hres:∀(b:Nat) (sp:Nat->Bool) (hd:Bool),DataW.TrodAll enc P W' b sp hd f.resultTypes.toList ((Value.bool true).resultList f.resultTypes.size) (s.fn H (ds++gs)).results []:=by
  intro b sp hd;rw[h1,hrt];exact trodAll_cons_mk (shut_bool hbt true) trodAll_mk0
 have hvar:∀sp:Nat->Bool,DataW.TrodVars enc P W' sp s.vars (s.fn H (ds++gs)).vars []:=by
  intro sp;rw[hvars,h3];rfl
 have hkept:W.keptBut W' (fun _=>False):=by
  refine⟨hb.os,hb.output,fun i hi=>?_⟩;have:=(World.keptBut_refl W (fun _=>False)).2.2 i hi;rw[hb.block i hi];exact this
 refine⟨ds,gs,before,[],before,[],hW,hres _ _ _,hargs' _ hold,hvar _,World.keptBut_mono (fun p hp=>hp.elim) hkept,fun _=>?_⟩;refine⟨ok_one hrt rfl (okWide_bool_mk hbt true),_,_,([]++before)++[],⟨[]++before,[],trodAll_append (hargs' _ (fun _ _=>rfl)) (hres _ _ _),hvar _,rfl,?_,?_⟩,?_⟩
 . intro b off hp;have hp':MemPlace.cell b off∈before:=by simpa using hp
   have hlt':=hlt _ hp';rw[FB (w:=W) (hb.block b hlt')];exact hz b off hp'
 . intro ha;simpa using hn ha
 . intro p hp _;simpa using hp
end Go.Ab

/-
  Own work: a call that was shown on the empty heap, of arguments that hold their contents: it holds on every heap, of arguments that lie in blocks of the caller's own; new blocks get the next numbers.
-/
namespace Go.Ab
variable {P:Program} {gl:Nat->Option AV} {ρ:au} {w:World} {h:ab}
mutual
def dj:AV->Bool
 | .vp l=>l.isEmpty
 | .vs l _ _=>l.isEmpty
 | .fn _ a b=>eL a && eL b
 | .iface _ v=>dj v
 | .agg l=>eL l
 | .aq l=>eL l
 | _=>true
def eL:List AV->Bool
 | []=>true
 | v::r=>dj v && eL r
end
theorem gr:∀{l:List AV} {i:Nat} {x:AV},eL l=true->l[i]? = some x->dj x=true
 | [],i,x,_,h=>by simp at h
 | v::r,0,x,h,hx=>by simp only[eL,Bool.and_eq_true]at h;simp at hx;subst hx;exact h.1
 | v::r,i+1,x,h,hx=>by simp only[eL,Bool.and_eq_true]at h;simp at hx;exact gr h.2 hx
inductive Rn (ks:List Nat) (N:Nat):AV->AV->Prop
 | same {v:AV} (ht:v.top=0):Rn ks N v v
 | sl {i b off len esz:Nat} {cap:Option Nat} (hi:ks[i]? = some b):Rn ks N (.sl b off len esz cap) (.sl (N+i) off len esz cap)
 | ptr {i b off:Nat} (hi:ks[i]? = some b):Rn ks N (.ptr b off) (.ptr (N+i) off)
 | map {i b:Nat} (hi:ks[i]? = some b):Rn ks N (.map b) (.map (N+i))
 | vs {l l0:List AV} {n:Nat} {cap:Option Nat} (hl:l.length=l0.length) (hg:∀(i:Nat) x y,l[i]? = some x->l0[i]? = some y->Rn ks N x y):Rn ks N (.vs l n cap) (.vs l0 n cap)
 | agg {l l0:List AV} (hl:l.length=l0.length) (hg:∀(i:Nat) x y,l[i]? = some x->l0[i]? = some y->Rn ks N x y):Rn ks N (.agg l) (.agg l0)
 | aq {l l0:List AV} (hl:l.length=l0.length) (hg:∀(i:Nat) x y,l[i]? = some x->l0[i]? = some y->Rn ks N x y):Rn ks N (.aq l) (.aq l0)
 | fn {f:Fn} {fi fi0 ca ca0:List AV} (hf:∀l,f≠.yield l) (h1:fi.length=fi0.length) (h2:ca.length=ca0.length) (g1:∀(i:Nat) x y,fi[i]? = some x->fi0[i]? = some y->Rn ks N x y)
     (g2:∀(i:Nat) x y,ca[i]? = some x->ca0[i]? = some y->Rn ks N x y):Rn ks N (.fn f fi ca) (.fn f fi0 ca0)
def pD (ks:List Nat)(N:Nat)(l l0:List AV):Prop:=l.length=l0.length/\∀(i:Nat) x y,l[i]? = some x->l0[i]? = some y->Rn ks N x y
inductive rA (ks:List Nat) (N:Nat):bw->bw->Prop
 | cells {l l0:List AV} {e:TypeId} (h:pD ks N l l0):rA ks N (.cells l e) (.cells l0 e)
 | map {es es0:List (AV×AV)} (h1:pD ks N (es.map (·.1)) (es0.map (·.1))) (h2:pD ks N (es.map (·.2)) (es0.map (·.2))):rA ks N (.map es) (.map es0)
def uy:bw->Bool
 | .cells l _=>eL l
 | .map es=>eL (es.map (·.1)) && eL (es.map (·.2))
 | _=>true
theorem pD.cons {ks:List Nat}{N:Nat}{x y:AV}{l m:List AV}(h1:Rn ks N x y)(h2:pD ks N l m):pD ks N (x::l) (y::m):=by
 refine⟨by simp[h2.1],fun i a b ha hb=>?_⟩;cases i with
 | zero=>simp at ha hb;subst ha;subst hb;exact h1
 | succ i=>simp at ha hb;exact h2.2 i a b ha hb
theorem GO {ρ' ρ1:au}{a:AV}{v:Value}(ht:a.top=0)(hn:dj a=true)(hv:V ρ' w a v):V ρ1 w a v:=by
 have key:∀{a v},V ρ' w a v->a.top=0->dj a=true->V ρ1 w a v:=by
  intro a v hv;induction hv with
  | cR v=>exact fun _ _=>.cR v
  | bool b=>exact fun _ _=>.bool b
  | int k n=>exact fun _ _=>.int k n
  | str s=>exact fun _ _=>.str s
  | du=>exact fun _ _=>.du
  | ptr o hb=>exact fun h _=>by simp[AV.top]at h
  | dO o c o' hb=>exact fun h _=>by simp[AV.top]at h
  | @vp l c o g hf hc _ ih=>intro _ hn;simp only[dj,List.isEmpty_iff]at hn;subst hn;exact .vp c o g (fun h=>absurd rfl h) (by simp) (by simp)
  | ae=>exact fun _ _=>.ae
  | sl hb hl hcap hs=>exact fun h _=>by simp[AV.top]at h
  | fk hb=>exact fun h _=>by simp[AV.top]at h
  | dX c o' hb hl hcap=>exact fun h _=>by simp[AV.top]at h
  | fe hb=>exact fun h _=>by simp[AV.top]at h
  | fl a hb=>exact fun h _=>by simp[AV.top]at h
  | @vs l len capC cap c o g hf hl hcap hc _ ih=>intro _ hn;simp only[dj,List.isEmpty_iff]at hn;subst hn;exact .vs c o g (fun h=>absurd rfl h) hl hcap (by simp) (by simp)
  | dT hcap=>exact fun _ _=>.dT hcap
  | fm a hcap=>exact fun _ _=>.fm a hcap
  | dU=>exact fun _ _=>.dU
  | map hb=>exact fun h _=>by simp[AV.top]at h
  | gW v hb=>exact fun h _=>by simp[AV.top]at h
  | yield hb=>exact fun h _=>by simp[AV.top]at h
  | @fn f fi ca _ _ hf h1 h2 _ _ ih1 ih2=>
   intro h hn;have hh:bk fi<=0/\bk ca<=0:=by
    cases f <;> simp only[AV.top]at h <;> exact⟨by omega,by omega⟩
   simp only[dj,Bool.and_eq_true]at hn;exact .fn hf h1 h2 (fun i x y a b=>ih1 i x y a b (by have:=ff hh.1 i x a;omega) (gr hn.1 a)) (fun i x y a b=>ih2 i x y a b (by have:=ff hh.2 i x a;omega) (gr hn.2 a))
  | gE v hb=>exact fun h _=>by simp[AV.top]at h
  | fv=>exact fun _ _=>.fv
  | iface _ ih=>exact fun h hn=>.iface (ih (by simpa only[AV.top] using h) (by simpa only[dj] using hn))
  | cY=>exact fun _ _=>.cY
  | agg hl _ ih=>exact fun h hn=>.agg hl (fun i x y a b=>ih i x y a b (by have:=ff (n:=0) (by simpa only[AV.top,Nat.le_zero] using h) i x a;omega) (gr (by simpa only[dj] using hn) a))
  | aq hl _ ih=>exact fun h hn=>.aq hl (fun i x y a b=>ih i x y a b (by have:=ff (n:=0) (by simpa only[AV.top,Nat.le_zero] using h) i x a;omega) (gr (by simpa only[dj] using hn) a))
 exact key hv ht hn
theorem Rn.view {ks:List Nat}{N:Nat}{ρ' ρ1:au}(hρ:∀(i b:Nat),ks[i]? = some b->ρ1 (N+i)=ρ' b){a a1:AV}(hr:Rn ks N a a1) :
 (dj a=true\/∀c,cQ ρ' c->cQ ρ1 c)->∀{v:Value},V ρ' w a v->V ρ1 w a1 v:=by
 induction hr with
 | @same a ht=>
  intro hF v hv;rcases hF with hF|hF
  . exact GO ht hF hv
  . exact hv.fX (n:=0) (fun b hb=>by omega) hF (by omega)
 | sl hi=>
  intro _ v hv;cases hv with
  | sl h1 h2 h3 h4=>exact .sl ((hρ _ _ hi).trans h1) h2 h3 h4
  | fk h1=>exact .fk ((hρ _ _ hi).trans h1)
  | dX c o' h1 h2 h3=>exact .dX c o' ((hρ _ _ hi).trans h1) h2 h3
  | fe h1=>exact .fe ((hρ _ _ hi).trans h1)
  | fl a h1=>exact .fl a ((hρ _ _ hi).trans h1)
 | ptr hi=>
  intro _ v hv;cases hv with
  | ptr _ h1=>exact .ptr _ ((hρ _ _ hi).trans h1)
  | dO _ _ _ h1=>exact .dO _ _ _ ((hρ _ _ hi).trans h1)
 | map hi=>
  intro _ v hv;cases hv with
  | map h1=>exact .map ((hρ _ _ hi).trans h1)
  | gW c h1=>exact .gW c ((hρ _ _ hi).trans h1)
 | @vs l l0 n cap hl hg ih=>
  intro hF v hv;cases hv with
  | vs c o g hf h2 h3 h4 h5=>
   by_cases hn:l=[]
   . subst hn;have:l0=[]:=List.eq_nil_of_length_eq_zero (by simp at hl;omega);subst this;exact .vs c o g (fun h=>absurd rfl h) h2 h3 (by simp) (by simp)
   . have hF':∀c,cQ ρ' c->cQ ρ1 c:=by
      rcases hF with hF|hF
      . simp only[dj,List.isEmpty_iff]at hF;exact absurd hF hn
      . exact hF
     refine .vs c o g (fun _=>hF' _ (hf hn)) h2 h3 (fun i hi=>h4 i (by omega)) (fun i y hy=>?_);have hi:i<l.length:=by have:=(List.getElem?_eq_some_iff.1 hy).1;omega
     exact ih i _ y (List.getElem?_eq_getElem hi) hy (.inr hF') (h5 i _ (List.getElem?_eq_getElem hi))
  | dT hc=>
   have:l0=[]:=List.eq_nil_of_length_eq_zero (by simp at hl;omega);subst this;exact .dT hc
  | fm a hc=>
   have:l0=[]:=List.eq_nil_of_length_eq_zero (by simp at hl;omega);subst this;exact .fm a hc
 | @agg l l0 hl hg ih=>
  intro hF v hv;cases hv with
  | @agg _ mm h1 h2=>
   refine .agg (by omega) fun i y z hy hz=>?_
   have hi:i<l.length:=by have:=(List.getElem?_eq_some_iff.1 hy).1;omega
   exact ih i _ y (List.getElem?_eq_getElem hi) hy (hF.imp (fun h=>by simp only[dj]at h;exact gr h (List.getElem?_eq_getElem hi)) id) (h2 i _ z (List.getElem?_eq_getElem hi) hz)
 | @aq l l0 hl hg ih=>
  intro hF v hv;cases hv with
  | @aq _ mm h1 h2=>
   refine .aq (by omega) fun i y z hy hz=>?_
   have hi:i<l.length:=by have:=(List.getElem?_eq_some_iff.1 hy).1;omega
   exact ih i _ y (List.getElem?_eq_getElem hi) hy (hF.imp (fun h=>by simp only[dj]at h;exact gr h (List.getElem?_eq_getElem hi)) id) (h2 i _ z (List.getElem?_eq_getElem hi) hz)
 | @fn f fi fi0 ca ca0 hf h1 h2 g1 g2 ih1 ih2=>
  intro hF v hv;cases hv with
  | fn hf' a1 a2 a3 a4=>
   refine .fn hf (by omega) (by omega) (fun i y z hy hz=>?_) (fun i y z hy hz=>?_)
   . have hi:i<fi.length:=by have:=(List.getElem?_eq_some_iff.1 hy).1;omega
     exact ih1 i _ y (List.getElem?_eq_getElem hi) hy (hF.imp (fun h=>by simp only[dj,Bool.and_eq_true]at h;exact gr h.1 (List.getElem?_eq_getElem hi)) id) (a3 i _ z (List.getElem?_eq_getElem hi) hz)
   . have hi:i<ca.length:=by have:=(List.getElem?_eq_some_iff.1 hy).1;omega
     exact ih2 i _ y (List.getElem?_eq_getElem hi) hy (hF.imp (fun h=>by simp only[dj,Bool.and_eq_true]at h;exact gr h.2 (List.getElem?_eq_getElem hi)) id) (a4 i _ z (List.getElem?_eq_getElem hi) hz)
  | yield _=>exact absurd rfl (hf _)
  | gE _ _=>exact absurd rfl (hf _)
inductive Fr (h:ab) (S:List Nat):AV->AV->Prop
 | same {v:AV} (ht:v.top=0):Fr h S v v
 | nil {cap:Option Nat} (hc:∀n,cap=some n->n=0):Fr h S .ae (.vs [] 0 cap)
 | sl {b off len esz:Nat} {cap cap':Option Nat} {l m m0:List AV} {e:TypeId} (hb:b∈S) (ha:h.at b=some (.cells l e)) (hc:cut l off (len*esz)=some m) (hl:m.length=m0.length)
     (hg:∀(i:Nat) x y,m[i]? = some x->m0[i]? = some y->Fr h S x y) (hcc:cap'=cap\/cap'=none:=by exact .inl rfl):Fr h S (.sl b off len esz cap) (.vs m0 len cap')
 | ptr {b off:Nat} {l m0:List AV} {e:TypeId} (hb:b∈S) (ha:h.at b=some (.cells l e)) (hl:(l.drop off).length=m0.length)
     (hg:∀(i:Nat) x y,(l.drop off)[i]? = some x->m0[i]? = some y->Fr h S x y):Fr h S (.ptr b off) (.vp m0)
 | vs {l l0:List AV} {n:Nat} {cap:Option Nat} (hl:l.length=l0.length) (hg:∀(i:Nat) x y,l[i]? = some x->l0[i]? = some y->Fr h S x y):Fr h S (.vs l n cap) (.vs l0 n cap)
 | agg {l l0:List AV} (hl:l.length=l0.length) (hg:∀(i:Nat) x y,l[i]? = some x->l0[i]? = some y->Fr h S x y):Fr h S (.agg l) (.agg l0)
 | aq {l l0:List AV} (hl:l.length=l0.length) (hg:∀(i:Nat) x y,l[i]? = some x->l0[i]? = some y->Fr h S x y):Fr h S (.aq l) (.aq l0)
 | fn {f:Fn} {fi fi0 ca ca0:List AV} (hf:∀l,f≠.yield l) (h1:fi.length=fi0.length) (h2:ca.length=ca0.length) (g1:∀(i:Nat) x y,fi[i]? = some x->fi0[i]? = some y->Fr h S x y)
     (g2:∀(i:Nat) x y,ca[i]? = some x->ca0[i]? = some y->Fr h S x y):Fr h S (.fn f fi ca) (.fn f fi0 ca0)
def gu (h:ab)(S:List Nat)(l l0:List AV):Prop:=l.length=l0.length/\∀(i:Nat) x y,l[i]? = some x->l0[i]? = some y->Fr h S x y
def dw (ρ:au)(S:List Nat):au:=⟨fun _=>.fresh,fun c=>ρ.X c\/∃b d,ρ b = .live c d/\b∉S⟩
theorem cQ.dw {c:Nat}(S:List Nat)(hf:cQ ρ c):cQ (dw ρ S) c:=by
 refine⟨fun b d hb=>by simp[Go.Ab.dw]at hb,?_⟩;rintro(hx|⟨b,d,hb,_⟩)
 . exact hf.2 hx
 . exact hf.1 b d hb
theorem Fr.view (m:Mem P gl ρ h w){S:List Nat}{a a0:AV}(hr:Fr h S a a0):∀{v:Value},V ρ w a v->V (dw ρ S) w a0 v:=by
 have hfree:∀{b c d},b∈S->ρ b = .live c d->cQ (dw ρ S) c:=fun {b c d} hb hl=>by
  refine⟨fun b d hb=>by simp[Go.Ab.dw]at hb,?_⟩;rintro(hx|⟨b',d',hb',hn⟩)
  . exact m.xo _ _ _ hl hx
  . exact hn (m.inj _ _ _ _ _ hb' hl ▸ hb)
 have hat:∀{b o},h.at b=some o->h[b]? = some (some o):=fun {b o} hb=>by
  unfold ab.at at hb;cases hz:h[b]? with
  | none=>rw[hz]at hb;cases hb
  | some z=>rw[hz]at hb;simp only[Option.join_some]at hb;rw[hb]
 induction hr with
 | same ht=>exact fun hv=>hv.fX (n:=0) (fun b hb=>by omega) (fun c hc=>hc.dw S) (by omega)
 | nil hc=>
  intro v hv;cases hv;exact .dT hc
 | @sl b off len esz cap cap' l m' m0 e hb ha hc hl hg hcc ih=>
  intro v hv;have hB:=m.cW b _ (hat ha);have hcut:m'.length=len*esz/\∀i,i<m'.length->m'[i]? = l[off+i]? := by
   simp only[cut]at hc;split at hc
   . rename_i hlen;cases hc;refine⟨hlen,fun i hi=>?_⟩;rw[List.getElem?_take,if_pos (by omega),List.getElem?_drop]
   . cases hc
  cases hv with
  | @sl _ c d _ _ _ capC _ h1 h2 h3 h4=>
   have h3:∀n,cap'=some n->capC=n:=fun n hn=>by
    rcases hcc with rfl|rfl
    . exact h3 n hn
    . cases hn
   rcases hB with ⟨c',d',cs,fr,g1,g2,g3,g4,g5⟩|⟨g1,_⟩
   . rw[h1]at g1;cases g1;refine .vs c (off+d) (fun i=>cs.getD (off+d+i) (.bool false)) (fun _=>hfree hb h1) h2 h3 (fun i hi=>?_) (fun i y hy=>?_)
     . have hi':i<m'.length:=by omega
       have hlt:off+i<l.length:=by
        have:=hcut.2 i hi';rw[List.getElem?_eq_getElem hi']at this;exact(List.getElem?_eq_some_iff.1 this.symm).1
       have:off+d+i<cs.size:=by have:=g3.1;omega
       simp only[World.cell?,g2];simp[this,Array.getD]
     . have hi:i<m0.length:=(List.getElem?_eq_some_iff.1 hy).1;have hi':i<m'.length:=by omega
       have hx:=hcut.2 i hi';rw[List.getElem?_eq_getElem hi']at hx;have hlt:off+i<l.length:=(List.getElem?_eq_some_iff.1 hx.symm).1;have hs:off+d+i<cs.size:=by have:=g3.1;omega
       refine ih i m'[i] y (List.getElem?_eq_getElem hi') hy ?_;refine g5 (off+i) _ _ hx.symm ?_;rw[show off+i+d=off+d+i from by omega];simp[hs,Array.getD]
   . rw[h1]at g1;cases g1
  | @fk _ _ h1=>
   rcases hB with ⟨c',d',cs,fr,g1,_⟩|⟨g1,g2⟩
   . rw[h1]at g1;cases g1
   . have:m0=[]:=List.eq_nil_of_length_eq_zero (by omega);subst this;exact .dT (by rcases hcc with rfl|rfl <;> simp)
  | dX c o' h1 _ _=>
   rcases hB with ⟨c',d',cs,fr,g1,_⟩|⟨g1,g2⟩ <;> (rw[h1]at g1;cases g1)
  | fl a h1=>
   rcases hB with ⟨c',d',cs,fr,g1,_⟩|⟨g1,g2⟩ <;> (rw[h1]at g1;cases g1)
  | fe h1=>
   rcases hB with ⟨c',d',cs,fr,g1,_⟩|⟨g1,g2⟩ <;> (rw[h1]at g1;cases g1)
 | @ptr b off l m0 e hb ha hl hg ih=>
  intro v hv;have hB:=m.cW b _ (hat ha);cases hv with
  | @ptr _ c d _ h1=>
   rcases hB with ⟨c',d',cs,fr,g1,g2,g3,g4,g5⟩|⟨g1,_⟩
   . rw[h1]at g1;cases g1;refine .vp c (off+d) (fun i=>cs.getD (off+d+i) (.bool false)) (fun _=>hfree hb h1) (fun i hi=>?_) (fun i y hy=>?_)
     . have:off+d+i<cs.size:=by have:=g3.1;simp at hl;omega
       simp only[World.cell?,g2];simp[this,Array.getD]
     . have hi:i<m0.length:=(List.getElem?_eq_some_iff.1 hy).1;have hi':i<(l.drop off).length:=by omega
       have hlt:off+i<l.length:=by simp at hi';omega
       have hs:off+d+i<cs.size:=by have:=g3.1;omega
       refine ih i _ y (List.getElem?_eq_getElem hi') hy ?_;refine g5 (off+i) _ _ (by rw[List.getElem_drop];exact List.getElem?_eq_getElem hlt) ?_;rw[show off+i+d=off+d+i from by omega];simp[hs,Array.getD]
   . rw[h1]at g1;cases g1
  | dO _ c o' h1=>
   rcases hB with ⟨c',d',cs,fr,g1,_⟩|⟨g1,g2⟩ <;> (rw[h1]at g1;cases g1)
 | @vs l l0 n cap hl hg ih=>
  intro v hv;cases hv with
  | vs c o g hf h2 h3 h4 h5=>
   refine .vs c o g (fun hn=>(hf fun e=>?_).dw S) h2 h3 (fun i hi=>h4 i (by omega)) (fun i y hy=>?_)
   . subst e;exact hn (List.eq_nil_of_length_eq_zero (by simp at hl;omega))
   . have hi:i<l.length:=by have:=(List.getElem?_eq_some_iff.1 hy).1;omega
     exact ih i _ y (List.getElem?_eq_getElem hi) hy (h5 i _ (List.getElem?_eq_getElem hi))
  | dT hc=>
   have:l0=[]:=List.eq_nil_of_length_eq_zero (by simp at hl;omega);subst this;exact .dT hc
  | fm a hc=>
   have:l0=[]:=List.eq_nil_of_length_eq_zero (by simp at hl;omega);subst this;exact .fm a hc
 | @agg l l0 hl hg ih=>
  intro v hv;cases hv with
  | @agg _ mm h1 h2=>
   refine .agg (by omega) fun i y z hy hz=>?_
   have hi:i<l.length:=by have:=(List.getElem?_eq_some_iff.1 hy).1;omega
   exact ih i _ y (List.getElem?_eq_getElem hi) hy (h2 i _ z (List.getElem?_eq_getElem hi) hz)
 | @aq l l0 hl hg ih=>
  intro v hv;cases hv with
  | @aq _ mm h1 h2=>
   refine .aq (by omega) fun i y z hy hz=>?_
   have hi:i<l.length:=by have:=(List.getElem?_eq_some_iff.1 hy).1;omega
   exact ih i _ y (List.getElem?_eq_getElem hi) hy (h2 i _ z (List.getElem?_eq_getElem hi) hz)
 | @fn f fi fi0 ca ca0 hf h1 h2 g1 g2 ih1 ih2=>
  intro v hv;cases hv with
  | fn hf' a1 a2 a3 a4=>
   refine .fn hf (by omega) (by omega) (fun i y z hy hz=>?_) (fun i y z hy hz=>?_)
   . have hi:i<fi.length:=by have:=(List.getElem?_eq_some_iff.1 hy).1;omega
     exact ih1 i _ y (List.getElem?_eq_getElem hi) hy (a3 i _ z (List.getElem?_eq_getElem hi) hz)
   . have hi:i<ca.length:=by have:=(List.getElem?_eq_some_iff.1 hy).1;omega
     exact ih2 i _ y (List.getElem?_eq_getElem hi) hy (a4 i _ z (List.getElem?_eq_getElem hi) hz)
  | yield _=>exact absurd rfl (hf _)
  | gE _ _=>exact absurd rfl (hf _)
theorem gu.view (m:Mem P gl ρ h w){S:List Nat}{l l0:List AV}(hr:gu h S l l0){vs:List Value}(hv:VL ρ w l vs):VL (dw ρ S) w l0 vs:=
 ⟨by rw[←hr.1];exact hv.1,fun i y z hy hz=>by
  have hi:i<l.length:=by have:=(List.getElem?_eq_some_iff.1 hy).1;have:=hr.1;omega
  exact(hr.2 i _ y (List.getElem?_eq_getElem hi) hy).view m (hv.2 i _ z (List.getElem?_eq_getElem hi) hz)⟩
theorem Mem.dw (hgl:∀g v,gl g=some v->v.top=0)(m:Mem P gl ρ h w)(S:List Nat):Mem P gl (dw ρ S) [] w:=by
 refine⟨fun b o hb=>by simp at hb,fun b _=>rfl,?_,?_,?_,?_,fun g v hg=>?_⟩
 . intro b b' c d d' h1;simp[Go.Ab.dw]at h1
 . intro b c d h1;simp[Go.Ab.dw]at h1
 . rintro c (hc|⟨b,d,hb,_⟩)
   . exact m.xb c hc
   . exact m.bound b c d hb
 . intro b c d h1;simp[Go.Ab.dw]at h1
 . exact(m.gl g v hg).fX (n:=0) (fun b hb=>by omega) (fun c hc=>hc.dw S) (by rw[hgl g v hg];exact Nat.le_refl _)
theorem GP (m:Mem P gl ρ h w){S ks:List Nat}{v v1:AV}{hh:ab}{bs:List bw}{v':Value}{w':World}(hnd:ks.Nodup)(hv1:Rn ks h.length v v1)(hlen:ks.length=bs.length)
 (hbs:∀(i b:Nat) o1,ks[i]? = some b->bs[i]? = some o1->∃o,hh.at b=some o/\rA ks h.length o o1/\(S=[]\/uy o=true)) (hn:S=[]\/dj v=true) (hd:dY P gl (dw ρ S) [] w ⟨v,hh,[]⟩ v' w') :
 dY P gl ρ h w ⟨v1,h++bs.map some,[]⟩ v' w':=by
 obtain⟨ρ',hv,m',x⟩:=hd;have bU:∀c,c<w.heap.size->w'.heap[c]? = w.heap[c]? := fun c hc=>x.bU c hc fun b d hb=>by simp[Go.Ab.dw]at hb
 have new:∀b c d,ρ' b = .live c d->w.heap.size<=c:=fun b c d hb=>by
  rcases Nat.lt_or_ge c w.heap.size with hc|hc
  . rcases x.back b c d hb hc with h1|⟨b0,d0,h1,_⟩ <;> simp[Go.Ab.dw]at h1
  . exact hc
 have hat:∀{b o},hh.at b=some o->hh[b]? = some (some o):=fun {b o} hb=>by
  unfold ab.at at hb;cases hz:hh[b]? with
  | none=>rw[hz]at hb;cases hb
  | some z=>rw[hz]at hb;simp only[Option.join_some]at hb;rw[hb]
 let ρ1:au:=⟨fun b=>if b<h.length then ρ b else match ks[b-h.length]? with|some k=>ρ' k|none=>.fresh,ρ.X⟩
 have hlt:∀b,b<h.length->ρ1 b=ρ b:=fun b hb=>by show (if _ then _ else _)=_;rw[if_pos hb]
 have hge:∀(i k:Nat),ks[i]? = some k->ρ1 (h.length+i)=ρ' k:=fun i k hk=>by show (if _ then _ else _)=_;rw[if_neg (by omega)];simp[hk]
 have hback:∀b c d,h.length<=b->ρ1 b = .live c d->∃k:Nat,ks[b-h.length]? = some k/\ρ' k = .live c d:=fun b c d hb hl=>by
  have:ρ1 b=match ks[b-h.length]? with|some k=>ρ' k|none=>.fresh:=by show (if _ then _ else _)=_;rw[if_neg (by omega)]
  rw[this]at hl;cases hk:ks[b-h.length]? with
  | none=>rw[hk]at hl;cases hl
  | some k=>rw[hk]at hl;exact⟨k,rfl,hl⟩
 have hfr:∀b,ρ b≠.fresh->b<h.length:=fun b hb=>by
  rcases Nat.lt_or_ge b h.length with h1|h1
  . exact h1
  . exact absurd (m.fresh b h1) hb
 have E:Ext h (h++bs.map some) ρ ρ1 w w':=by
  refine⟨x.os,x.tape,x.output,x.size,by simp,rfl,?_,?_,?_,?_,?_,?_,?_,x.shape⟩
  . intro b hb;have:=(List.getElem?_eq_some_iff.1 hb).1;rw[List.getElem?_append_left this];exact hb
  . intro b hb;exact hlt b (List.getElem?_eq_some_iff.1 hb).1
  . intro b c d hb;exact .inl ((hlt b (hfr b (by rw[hb];simp))).trans hb)
  . intro b hb;exact(hlt b (hfr b (by rw[hb];simp))).trans hb
  . intro b hb;exact .inl ((hlt b (hfr b (by rw[hb];simp))).trans hb)
  . intro c hc _;exact bU c hc
  . intro b c d hb hc;rcases Nat.lt_or_ge b h.length with h1|h1
    . rw[hlt b h1]at hb;exact .inl hb
    . obtain⟨k,_,hk⟩:=hback b c d h1 hb;have:=new _ _ _ hk;omega
 have hF:S=[]->∀c,cQ ρ' c->cQ ρ1 c:=by
  intro hS c hc;have hX:ρ'.X=(dw ρ S).X:=x.X;have h2:=hc.2;rw[hX]at h2;refine⟨fun b d hb=>?_,fun hx=>h2 (.inl hx)⟩;rcases Nat.lt_or_ge b h.length with h1|h1
  . rw[hlt b h1]at hb;exact h2 (.inr ⟨b,d,hb,by rw[hS];simp⟩)
  . obtain⟨k,_,hk⟩:=hback b c d h1 hb;exact hc.1 _ _ hk
 have hvs:∀{a a1:AV} {u:Value},(S=[]\/dj a=true)->Rn ks h.length a a1->V ρ' w' a u->V ρ1 w' a1 u:=fun {a a1 u} hc hr hu=>
  hr.view hge (hc.elim (fun h=>.inr (hF h)) .inl) hu
 refine⟨ρ1,hvs hn hv1 hv,m.ext E ?_ ?_ ?_ ?_,E⟩
 . intro b o hb;rcases Nat.lt_or_ge b h.length with h1|h1
   . rw[List.getElem?_append_left h1]at hb;exact(m.cW b o hb).mono E (hlt b h1) fun c d hl=>bU c (m.bound b c d hl)
   . rw[List.getElem?_append_right h1]at hb;obtain⟨o1,hq,rfl⟩:∃o1,bs[b-h.length]? = some o1/\o1=o:=by simpa using hb
     have hi:b-h.length<ks.length:=by have:=(List.getElem?_eq_some_iff.1 hq).1;omega
     have hk:ks[b-h.length]? = some ks[b-h.length]:=List.getElem?_eq_getElem hi;obtain⟨o,ho,hB,hnb⟩:=hbs _ _ _ hk hq;have hB':=m'.cW _ _ (hat ho);have hb1:ρ1 b=ρ' ks[b-h.length]:=by have:=hge _ _ hk;rwa [show h.length+(b-h.length)=b from by omega]at this
     cases hB with
     | @cells l l0 e hl=>
      rcases hB' with ⟨c,d,cs,fr,g1,g2,g3,g4,g5⟩|⟨g1,g2⟩
      . refine .inl ⟨c,d,cs,fr,hb1.trans g1,g2,⟨by have:=hl.1;have:=g3.1;omega,fun he=>⟨(g3.2 he).1,by have:=hl.1;have:=(g3.2 he).2;omega⟩⟩,g4,fun i y z hy hz=>?_⟩;have hi:i<l.length:=by have:=(List.getElem?_eq_some_iff.1 hy).1;have:=hl.1;omega
        exact hvs (hnb.imp id fun hh'=>gr hh' (List.getElem?_eq_getElem hi)) (hl.2 i _ y (List.getElem?_eq_getElem hi) hy) (g5 i _ z (List.getElem?_eq_getElem hi) hz)
      . refine .inr ⟨hb1.trans g1,?_⟩;have:=hl.1;rw[g2]at this;exact List.eq_nil_of_length_eq_zero (by simp at this;omega)
     | @map es es0 hl1 hl2=>
      obtain⟨c,ms,clk,g1,g2,g3,g4⟩:=hB';have hle:es.length=es0.length:=by have:=hl1.1;simpa using this
      refine⟨c,ms,clk,hb1.trans g1,g2,by omega,fun i kx vx mm hx hm=>?_⟩;have hi:i<es.length:=by have:=(List.getElem?_eq_some_iff.1 hx).1;omega
      have he:es[i]? = some (es[i].1,es[i].2):=List.getElem?_eq_getElem hi;obtain⟨q1,q2⟩:=g4 i _ _ mm he hm;have r1:=hl1.2 i es[i].1 kx (by simp[he]) (by simp[hx]);have r2:=hl2.2 i es[i].2 vx (by simp[he]) (by simp[hx]);have hnn:S=[]\/(dj es[i].1=true/\dj es[i].2=true):=hnb.imp id fun hh'=>by
       simp only[uy,Bool.and_eq_true]at hh';exact⟨gr hh'.1 (i:=i) (by simp[he]),gr hh'.2 (i:=i) (by simp[he])⟩
      exact⟨hvs (hnn.imp id (·.1)) r1 q1,hvs (hnn.imp id (·.2)) r2 q2⟩
 . intro b hb;simp at hb;show (if _ then _ else _)=_;rw[if_neg (by omega),List.getElem?_eq_none (by omega)]
 . intro b b' c d d' h1 h2;rcases Nat.lt_or_ge b h.length with hb|hb <;> rcases Nat.lt_or_ge b' h.length with hb'|hb'
   . rw[hlt b hb]at h1;rw[hlt b' hb']at h2;exact m.inj _ _ _ _ _ h1 h2
   . obtain⟨k,_,hk⟩:=hback _ _ _ hb' h2;rw[hlt b hb]at h1;have:=m.bound _ _ _ h1;have:=new _ _ _ hk;omega
   . obtain⟨k,_,hk⟩:=hback _ _ _ hb h1;rw[hlt b' hb']at h2;have:=m.bound _ _ _ h2;have:=new _ _ _ hk;omega
   . obtain⟨k,e1,hk⟩:=hback _ _ _ hb h1;obtain⟨k',e2,hk'⟩:=hback _ _ _ hb' h2;have:=m'.inj _ _ _ _ _ hk hk';subst this;obtain⟨l1,q1⟩:=List.getElem?_eq_some_iff.1 e1;obtain⟨l2,q2⟩:=List.getElem?_eq_some_iff.1 e2;have:=(List.getElem_inj hnd).1 (q1.trans q2.symm);omega
 . intro b c d hb;rcases Nat.lt_or_ge b h.length with h1|h1
   . rw[hlt b h1]at hb;exact Nat.lt_of_lt_of_le (m.bound _ _ _ hb) x.size
   . obtain⟨k,_,hk⟩:=hback _ _ _ h1 hb;exact m'.bound _ _ _ hk
theorem GR (hgl:∀g v,gl g=some v->v.top=0){f:Nat}{as as0:List AV}{v v1:AV}{hh:ab}{bs:List bw}{S ks:List Nat}(hr:gu h S as as0)(hnd:ks.Nodup)(hv1:Rn ks h.length v v1)(hlen:ks.length=bs.length)
 (hbs:∀(i b:Nat) o1,ks[i]? = some b->bs[i]? = some o1->∃o,hh.at b=some o/\rA ks h.length o o1/\(S=[]\/uy o=true)) (hn:S=[]\/dj v=true)
 (hloc:bQ P gl ⟨f,as0,[],⟨v,hh,[]⟩⟩):bQ P gl ⟨f,as,h,⟨v1,h++bs.map some,[]⟩⟩:=by
 refine⟨Ah _ _ _,fun ρ w as' m hl=>?_⟩;obtain⟨nx,w1,h1,h2⟩:=hloc.2 (dw ρ S) w as' (m.dw hgl S) (hr.view m hl);exact⟨nx,w1,h1,h2.mono fun v w' hd=>GP m hnd hv1 hlen hbs hn hd⟩
end Go.Ab

/-
  Own work: a calculus of runs on the abstract machine: what holds behind a piece of code, without fuel.
-/
namespace Go.Ab
variable {c:al} {s:ao} {Q:ao->Prop} {l:List aU} {a b n:Int} {x y i:aL} {t:Nat} {pe as:List AV} {lo:List (Nat×AV)} {hp:ab} {df wr:List Nat} {d:eh} {v:AV} {r:HR} {k:IntKind}
structure ax where
 ext:FuncId->List AV->ab->Option HR
 inv:fw
 FT:FuncId->Option dc
abbrev ax.ev (M:ax)(n:Nat):=bh M.ext M.inv M.FT n
abbrev ax.call (M:ax)(n:Nat):=gQ (M.ev n) M.ext M.FT
structure W (M:ax)(c:al)(s:ao)(Q:Ex->ao->Prop):Prop where
 out:∃n e s',M.ev n c s=some (e,s')/\Q e s'
structure WO (M:ax)(l:List aU)(s:ao)(Q:ao->Prop):Prop where
 out:∃n s',eE (M.call n) M.inv l s=some s'/\Q s'
structure WD (M:ax)(l:List (aU×List Nat))(s:ao)(ds:List cg)(Q:ao->Prop):Prop where
 out:∃n s',dN (M.call n) M.inv l s ds=some s'/\Q s'
structure WC (M:ax)(g:AV)(as:List AV)(h:ab)(Q:HR->Prop):Prop where
 out:∃n r,M.call n g as h=some r/\Q r
def aT (M:ax)(f:FuncId)(as:List AV)(h:ab)(r:HR):Prop:=∃n,gk (M.ev n) M.FT f as h=some r
variable {M:ax}
theorem uz {n m:Nat}(h:n<=m){c:al}{s:ao}{x:Ex×ao}(hx:M.ev n c s=some x):M.ev m c s=some x:=ux h c s x hx
theorem jm {n m:Nat}(h:n<=m):pC (M.call n) (M.call m):=GM (ux h)
theorem W.mono {Q R:Ex->ao->Prop}(h:W M c s Q)(hr:∀e s',Q e s'->R e s'):W M c s R:=by
 obtain⟨⟨n,e,s',h1,h2⟩⟩:=h;exact⟨⟨n,e,s',h1,hr _ _ h2⟩⟩
theorem WO.mono {R:ao->Prop}(h:WO M l s Q)(hr:∀s',Q s'->R s'):WO M l s R:=by
 obtain⟨⟨n,s',h1,h2⟩⟩:=h;exact⟨⟨n,s',h1,hr _ h2⟩⟩
structure SQ (M:ax)(b:al)(Q:Ex->ao->Prop)(e:Ex)(s:ao):Prop where
 out:match e with
  | .normal=>W M b s Q
  | e=>Q e s
structure BQ (id:Nat)(Q:Ex->ao->Prop)(e:Ex)(s:ao):Prop where
 out:match e with
  | .exit i=>if i=id then Q .normal s else Q (.exit i) s
  | e=>Q e s
structure LQ (M:ax)(c:al)(Q:Ex->ao->Prop)(e:Ex)(s:ao):Prop where
 out:match e with
  | .normal=>W M (.loop c) s Q
  | e=>Q e s
theorem abJ {Q:Ex->ao->Prop}(h:Q .normal s):W M .skip s Q:=⟨⟨1,.normal,s,rfl,h⟩⟩
theorem abu {Q:Ex->ao->Prop}(h:Q .ret s):W M .ret s Q:=⟨⟨1,.ret,s,rfl,h⟩⟩
theorem afA {i:Nat}{Q:Ex->ao->Prop}(h:Q (.exit i) s):W M (.exit i) s Q:=⟨⟨1,.exit i,s,rfl,h⟩⟩
theorem aap {a b:al}{Q:Ex->ao->Prop}(h:W M a s (SQ M b Q)):W M (.seq a b) s Q:=by
 obtain⟨⟨n,e,s1,h1,⟨h2⟩⟩⟩:=h;cases e with
 | normal=>
  obtain⟨⟨m,e,s2,h3,h4⟩⟩:=h2;refine⟨⟨max n m+1,e,s2,?_,h4⟩⟩;show bh _ _ _ _ _ _=_;rw[bh,show bh M.ext M.inv M.FT (max n m) _ s=_ from uz (Nat.le_max_left n m) h1];exact uz (Nat.le_max_right n m) h3
 | exit i=>refine⟨⟨n+1,.exit i,s1,?_,h2⟩⟩;show bh _ _ _ _ _ _=_;rw[bh,show bh _ _ _ n a s=_ from h1]
 | ret=>refine⟨⟨n+1,.ret,s1,?_,h2⟩⟩;show bh _ _ _ _ _ _=_;rw[bh,show bh _ _ _ n a s=_ from h1]
theorem acS {id:Nat}{Q:Ex->ao->Prop}(h:W M c s (BQ id Q)):W M (.block id c) s Q:=by
 obtain⟨⟨n,e,s1,h1,⟨h2⟩⟩⟩:=h;have h1':bh M.ext M.inv M.FT n c s=some (e,s1):=h1;cases e with
 | normal=>refine⟨⟨n+1,.normal,s1,?_,h2⟩⟩;show bh _ _ _ _ _ _=_;rw[bh,h1']
 | ret=>refine⟨⟨n+1,.ret,s1,?_,h2⟩⟩;show bh _ _ _ _ _ _=_;rw[bh,h1']
 | exit i=>
  simp only at h2;split at h2
  . rename_i hi;refine⟨⟨n+1,.normal,s1,?_,h2⟩⟩;show bh _ _ _ _ _ _=_;rw[bh,h1'];simp only[if_pos hi]
  . rename_i hi;refine⟨⟨n+1,.exit i,s1,?_,h2⟩⟩;show bh _ _ _ _ _ _=_;rw[bh,h1'];simp only[if_neg hi]
theorem W.loop {Q:Ex->ao->Prop}(h:W M c s (LQ M c Q)):W M (.loop c) s Q:=by
 obtain⟨⟨n,e,s1,h1,⟨h2⟩⟩⟩:=h;have h1':bh M.ext M.inv M.FT n c s=some (e,s1):=h1;cases e with
 | normal=>
  obtain⟨⟨m,e,s2,h3,h4⟩⟩:=h2;refine⟨⟨max n m+1,e,s2,?_,h4⟩⟩;show bh _ _ _ _ _ _=_;rw[bh,show bh M.ext M.inv M.FT (max n m) _ s=_ from uz (Nat.le_max_left n m) h1];exact uz (Nat.le_max_right n m) h3
 | exit i=>refine⟨⟨n+1,.exit i,s1,?_,h2⟩⟩;show bh _ _ _ _ _ _=_;rw[bh,h1']
 | ret=>refine⟨⟨n+1,.ret,s1,?_,h2⟩⟩;show bh _ _ _ _ _ _=_;rw[bh,h1']
theorem W.cond {t:Bool}{a b:al}{Q:Ex->ao->Prop}(h:s.s.aa x=some (.bool t))(h1:t=true->W M a s Q)(h2:t=false->W M b s Q):W M (.cond x a b) s Q:=by
 cases t with
 | true=>
  obtain⟨⟨n,e,s',h3,h4⟩⟩:=h1 rfl;refine⟨⟨n+1,e,s',?_,h4⟩⟩;show bh _ _ _ _ _ _=_;rw[bh,h];exact h3
 | false=>
  obtain⟨⟨n,e,s',h3,h4⟩⟩:=h2 rfl;refine⟨⟨n+1,e,s',?_,h4⟩⟩;show bh _ _ _ _ _ _=_;rw[bh,h];exact h3
theorem abz {a b:al}{Q:Ex->ao->Prop}(h:s.s.aa x=some (.bool true))(h1:W M a s Q):W M (.cond x a b) s Q:=W.cond h (fun _=>h1) (fun h=>by cases h)
theorem abF {a b:al}{Q:Ex->ao->Prop}(h:s.s.aa x=some (.bool false))(h1:W M b s Q):W M (.cond x a b) s Q:=W.cond h (fun h=>by cases h) (fun _=>h1)
theorem aaF {Q:Ex->ao->Prop}(h:WO M l ⟨⟨pe,[],hp,df⟩,wr⟩ (Q .normal)):W M (.region l) ⟨⟨pe,lo,hp,df⟩,wr⟩ Q:=by
 obtain⟨⟨n,s',h1,h2⟩⟩:=h;refine⟨⟨n+1,.normal,s',?_,h2⟩⟩;show bh _ _ _ _ _ _=_;rw[bh,h1]
theorem aeb {l:List (aU×List Nat)}{Q:Ex->ao->Prop}(h:WD M l ⟨⟨pe,[],hp,df⟩,wr⟩ [] (Q .normal)):W M (.draw l) ⟨⟨pe,lo,hp,df⟩,wr⟩ Q:=by
 obtain⟨⟨n,s',h1,h2⟩⟩:=h;refine⟨⟨n+1,.normal,s',?_,h2⟩⟩;show bh _ _ _ _ _ _=_;rw[bh,h1]
theorem aaY (h:Q s):WO M [] s Q:=⟨⟨0,s,rfl,h⟩⟩
def aZ.pE:aZ->Bool
 | .call .. | .invoke .. => false
 | _=>true
structure WP (M:ax)(s:St)(op:aZ)(Q:HR->Prop):Prop where
 out:∃n r,bR (M.call n) M.inv s op=some r/\Q r
theorem WO.op {d:eh}{op:aZ}{l:List aU}{s:ao}{Q:ao->Prop}(h:WP M s.s op fun r=>WO M l ⟨{ s.s.put d r.v with hp:=r.h },r.wr++s.wr⟩ Q):WO M (⟨d,op,none⟩::l) s Q:=by
 obtain⟨⟨n,r,h1,⟨⟨m,s',h2,h3⟩⟩⟩⟩:=h;refine⟨⟨max n m,s',?_,h3⟩⟩;simp only[eE,eC];rw[uv (jm (Nat.le_max_left n m)) h1];exact mw (jm (Nat.le_max_right n m)) _ _ _ h2
theorem WO.skip {op:aZ}{t want:Bool}(hx:s.s.aa x=some (.bool t))(ht:(t == want)=false)(h:WO M l ⟨s.s.put d cB,s.wr⟩ Q):WO M (⟨d,op,some (x,want)⟩::l) s Q:=by
 obtain⟨⟨n,s',h1,h2⟩⟩:=h;refine⟨⟨n,s',?_,h2⟩⟩;simp only[eE,eC,hx,ht];exact h1
theorem WO.take {op:aZ}{t want:Bool}(hx:s.s.aa x=some (.bool t))(ht:(t == want)=true)(h:WO M (⟨d,op,none⟩::l) s Q):WO M (⟨d,op,some (x,want)⟩::l) s Q:=by
 obtain⟨⟨n,s',h1,h2⟩⟩:=h;refine⟨⟨n,s',?_,h2⟩⟩;simp only[eE,eC,hx,ht]at h1 ⊢;exact h1
theorem WO.Ru {op:aZ}(hx:s.s.aa x=some (.aq [])){want:Bool}(h:WO M l ⟨s.s.put d cB,s.wr⟩ Q):WO M (⟨d,op,some (x,want)⟩::l) s Q:=by
 obtain⟨⟨n,s',h1,h2⟩⟩:=h;refine⟨⟨n,s',?_,h2⟩⟩;simp only[eE,eC,hx];exact h1
theorem acY {op:aZ}(hx:s.s.aa x=some (.bool true))(h:WO M (⟨d,op,none⟩::l) s Q):WO M (⟨d,op,some (x,true)⟩::l) s Q:=WO.take hx rfl h
theorem aeP {op:aZ}(hx:s.s.aa x=some (.bool false))(h:WO M (⟨d,op,none⟩::l) s Q):WO M (⟨d,op,some (x,false)⟩::l) s Q:=WO.take hx rfl h
theorem aeM {op:aZ}(hx:(St.mk pe lo hp df).aa x=some (.bool false))(h:WO M l ⟨⟨pe,(t,cB)::lo,hp,df⟩,wr⟩ Q):WO M (⟨.l t,op,some (x,true)⟩::l) ⟨⟨pe,lo,hp,df⟩,wr⟩ Q:=WO.skip hx rfl h
theorem afz {op:aZ}(hx:(St.mk pe lo hp df).aa x=some (.bool true))(h:WO M l ⟨⟨pe,(t,cB)::lo,hp,df⟩,wr⟩ Q):WO M (⟨.l t,op,some (x,false)⟩::l) ⟨⟨pe,lo,hp,df⟩,wr⟩ Q:=WO.skip hx rfl h
theorem WP.pure {s:St}{op:aZ}{Q:HR->Prop}(hh:op.bG=false)(hv:aW s op=some v)(h:Q ⟨v,s.hp,[]⟩):WP M s op Q:=by
 refine⟨⟨0,_,?_,h⟩⟩;cases op <;> first|(cases hh;done)|simp only[bR,aZ.bG,hv,Bool.false_eq_true,if_false,Option.map_some]
theorem WP.heap {s:St}{op:aZ}{Q:HR->Prop}(hh:op.bG=true)(hc:op.pE=true)(hv:bB s op s.hp=some r)(h:Q r):WP M s op Q:=by
 refine⟨⟨0,_,?_,h⟩⟩;cases op <;> first|(cases hh;done)|(cases hc;done)|(simp only[bR,aZ.bG,if_true];exact hv)
theorem WP.call {s:St}{f:aL}{args:List aL}{g:AV}{Q:HR->Prop}(hf:s.aa f=some g)(ha:s.cH args=some as)(h:WC M g as s.hp Q):WP M s (.call f args) Q:=by
 obtain⟨⟨n,r,h1,h2⟩⟩:=h;refine⟨⟨n,r,?_,h2⟩⟩;simp only[bR,hf,ha];exact h1
theorem WC.ext {f:FuncId}{fi ca:List AV}{h:ab}{Q:HR->Prop}(he:M.ext f (fi++as++ca) h=some r)(hq:Q r):WC M (.fn (.func f) fi ca) as h Q:=
 ⟨⟨0,r,by simp only[gQ,he],hq⟩⟩
theorem WO.Rv {f:aL}{args:List aL}{g:FuncId}{fi ca:List AV}(hf:s.s.aa f=some (.fn (.func g) fi ca))(ha:s.s.cH args=some as)(he:M.ext g (fi++as++ca) s.s.hp=some r)
 (h:WO M l ⟨{ s.s.put d r.v with hp:=r.h },r.wr++s.wr⟩ Q):WO M (⟨d,.call f args,none⟩::l) s Q:=WO.op (WP.call hf ha (WC.ext he h))
theorem aab {op:aZ}(hv:aW ⟨pe,lo,hp,df⟩ op=some v)(hh:op.bG=false)(h:WO M l ⟨⟨pe,(t,v)::lo,hp,df⟩,wr⟩ Q) :
 WO M (⟨.l t,op,none⟩::l) ⟨⟨pe,lo,hp,df⟩,wr⟩ Q:=WO.op (WP.pure hh hv h)
theorem aaZ {i:Nat}{op:aZ}(hv:aW ⟨pe,lo,hp,df⟩ op=some v)(hh:op.bG=false)(h:WO M l ⟨⟨pe.set i v,lo,hp,df⟩,wr⟩ Q) :
 WO M (⟨.p i,op,none⟩::l) ⟨⟨pe,lo,hp,df⟩,wr⟩ Q:=WO.op (WP.pure hh hv h)
theorem WO.hl {op:aZ}(hv:bB ⟨pe,lo,hp,df⟩ op hp=some r)(hh:op.bG=true)(hc:op.pE=true)
 (h:WO M l ⟨⟨pe,(t,r.v)::lo,r.h,df⟩,r.wr++wr⟩ Q):WO M (⟨.l t,op,none⟩::l) ⟨⟨pe,lo,hp,df⟩,wr⟩ Q:=WO.op (WP.heap hh hc hv h)
theorem WO.hn {op:aZ}(hv:bB ⟨pe,lo,hp,df⟩ op hp=some r)(hh:op.bG=true)(hc:op.pE=true)
 (h:WO M l ⟨⟨pe,lo,r.h,df⟩,r.wr++wr⟩ Q):WO M (⟨.no,op,none⟩::l) ⟨⟨pe,lo,hp,df⟩,wr⟩ Q:=WO.op (WP.heap hh hc hv h)
theorem ada (hx:(St.mk pe lo hp df).aa x=some (.int k a))(hy:(St.mk pe lo hp df).aa y=some (.int k b))
 (h1:a<b->WO M l ⟨⟨pe,(t,.bool true)::lo,hp,df⟩,wr⟩ Q) (h2:b<=a->WO M l ⟨⟨pe,(t,.bool false)::lo,hp,df⟩,wr⟩ Q):WO M (⟨.l t,.bin .lss x y,none⟩::l) ⟨⟨pe,lo,hp,df⟩,wr⟩ Q:=by
 refine WO.op (WP.pure (v:=.bool (decide (a<b))) rfl (by simp[aW,hx,hy,cN]) ?_);by_cases h:a<b
 . rw[decide_eq_true h];exact h1 h
 . rw[decide_eq_false h];exact h2 (by omega)
theorem afy (hx:(St.mk pe lo hp df).aa x=some (.int k a))(hy:(St.mk pe lo hp df).aa y=some (.int k b))
 (h1:a<=b->WO M l ⟨⟨pe,(t,.bool true)::lo,hp,df⟩,wr⟩ Q) (h2:b<a->WO M l ⟨⟨pe,(t,.bool false)::lo,hp,df⟩,wr⟩ Q):WO M (⟨.l t,.bin .leq x y,none⟩::l) ⟨⟨pe,lo,hp,df⟩,wr⟩ Q:=by
 refine WO.op (WP.pure (v:=.bool (decide (a<=b))) rfl (by simp[aW,hx,hy,cN]) ?_);by_cases h:a<=b
 . rw[decide_eq_true h];exact h1 h
 . rw[decide_eq_false h];exact h2 (by omega)
theorem adU (hx:(St.mk pe lo hp df).aa x=some (.int k a))(hy:(St.mk pe lo hp df).aa y=some (.int k b))
 (h1:b<a->WO M l ⟨⟨pe,(t,.bool true)::lo,hp,df⟩,wr⟩ Q) (h2:a<=b->WO M l ⟨⟨pe,(t,.bool false)::lo,hp,df⟩,wr⟩ Q):WO M (⟨.l t,.bin .gtr x y,none⟩::l) ⟨⟨pe,lo,hp,df⟩,wr⟩ Q:=by
 refine WO.op (WP.pure (v:=.bool (decide (a > b))) rfl (by simp[aW,hx,hy,cN]) ?_);by_cases h:b<a
 . rw[decide_eq_true h];exact h1 h
 . rw[decide_eq_false h];exact h2 (by omega)
theorem aeN (hx:(St.mk pe lo hp df).aa x=some (.int k a))(hy:(St.mk pe lo hp df).aa y=some (.int k b))
 (h1:b<=a->WO M l ⟨⟨pe,(t,.bool true)::lo,hp,df⟩,wr⟩ Q) (h2:a<b->WO M l ⟨⟨pe,(t,.bool false)::lo,hp,df⟩,wr⟩ Q):WO M (⟨.l t,.bin .geq x y,none⟩::l) ⟨⟨pe,lo,hp,df⟩,wr⟩ Q:=by
 refine WO.op (WP.pure (v:=.bool (decide (a>=b))) rfl (by simp[aW,hx,hy,cN]) ?_);by_cases h:b<=a
 . rw[decide_eq_true h];exact h1 h
 . rw[decide_eq_false h];exact h2 (by omega)
theorem adE (hx:(St.mk pe lo hp df).aa x=some (.int k a))(hy:(St.mk pe lo hp df).aa y=some (.int k b))
 (h1:a=b->WO M l ⟨⟨pe,(t,.bool true)::lo,hp,df⟩,wr⟩ Q) (h2:a≠b->WO M l ⟨⟨pe,(t,.bool false)::lo,hp,df⟩,wr⟩ Q):WO M (⟨.l t,.bin .eql x y,none⟩::l) ⟨⟨pe,lo,hp,df⟩,wr⟩ Q:=by
 refine WO.op (WP.pure (v:=.bool (a == b)) rfl (by simp[aW,hx,hy,cN]) ?_);by_cases h:a=b
 . rw[beq_iff_eq.2 h];exact h1 h
 . rw[beq_eq_false_iff_ne.2 h];exact h2 h
theorem aef (hx:(St.mk pe lo hp df).aa x=some (.int k a))(hy:(St.mk pe lo hp df).aa y=some (.int k b))
 (h1:a≠b->WO M l ⟨⟨pe,(t,.bool true)::lo,hp,df⟩,wr⟩ Q) (h2:a=b->WO M l ⟨⟨pe,(t,.bool false)::lo,hp,df⟩,wr⟩ Q):WO M (⟨.l t,.bin .neq x y,none⟩::l) ⟨⟨pe,lo,hp,df⟩,wr⟩ Q:=by
 refine WO.op (WP.pure (v:=.bool (a != b)) rfl (by simp[aW,hx,hy,cN]) ?_);by_cases h:a=b
 . rw[bne_eq_false_iff_eq.2 h];exact h2 h
 . rw[bne_iff_ne.2 h];exact h1 h
theorem aeK {a b:List UInt8}(hx:(St.mk pe lo hp df).aa x=some (.str a))(hy:(St.mk pe lo hp df).aa y=some (.str b))
 (h1:a=b->WO M l ⟨⟨pe,(t,.bool true)::lo,hp,df⟩,wr⟩ Q) (h2:a≠b->WO M l ⟨⟨pe,(t,.bool false)::lo,hp,df⟩,wr⟩ Q):WO M (⟨.l t,.bin .eql x y,none⟩::l) ⟨⟨pe,lo,hp,df⟩,wr⟩ Q:=by
 refine WO.op (WP.pure (v:=.bool (a == b)) rfl (by simp[aW,hx,hy,cN]) ?_);by_cases h:a=b
 . rw[beq_iff_eq.2 h];exact h1 h
 . rw[beq_eq_false_iff_ne.2 h];exact h2 h
theorem afE {a b:List UInt8}(hx:(St.mk pe lo hp df).aa x=some (.str a))(hy:(St.mk pe lo hp df).aa y=some (.str b))
 (h1:a≠b->WO M l ⟨⟨pe,(t,.bool true)::lo,hp,df⟩,wr⟩ Q) (h2:a=b->WO M l ⟨⟨pe,(t,.bool false)::lo,hp,df⟩,wr⟩ Q):WO M (⟨.l t,.bin .neq x y,none⟩::l) ⟨⟨pe,lo,hp,df⟩,wr⟩ Q:=by
 refine WO.op (WP.pure (v:=.bool !(a == b)) rfl (by simp[aW,hx,hy,cN]) ?_);by_cases h:a=b
 . rw[beq_iff_eq.2 h];exact h2 h
 . rw[beq_eq_false_iff_ne.2 h];exact h1 h
theorem nI (h : -9223372036854775808<=n/\n<9223372036854775808):IntKind.i64.wrap n=n:=IntWalk.i64_in _ (by omega)
theorem ael (hx:(St.mk pe lo hp df).aa x=some (.int .i64 a))(hy:(St.mk pe lo hp df).aa y=some (.int .i64 b))
 (hr : -9223372036854775808<=a+b/\a+b<9223372036854775808) (h:WO M l ⟨⟨pe,(t,.int .i64 (a+b))::lo,hp,df⟩,wr⟩ Q):WO M (⟨.l t,.bin .add x y,none⟩::l) ⟨⟨pe,lo,hp,df⟩,wr⟩ Q:=
 WO.op (WP.pure (v:=.int .i64 (a+b)) rfl (by simp[aW,hx,hy,cN,nI hr]) h)
theorem aes (hx:(St.mk pe lo hp df).aa x=some (.int .i64 a))(hy:(St.mk pe lo hp df).aa y=some (.int .i64 b))
 (hr : -9223372036854775808<=a-b/\a-b<9223372036854775808) (h:WO M l ⟨⟨pe,(t,.int .i64 (a-b))::lo,hp,df⟩,wr⟩ Q):WO M (⟨.l t,.bin .sub x y,none⟩::l) ⟨⟨pe,lo,hp,df⟩,wr⟩ Q:=
 WO.op (WP.pure (v:=.int .i64 (a-b)) rfl (by simp[aW,hx,hy,cN,nI hr]) h)
theorem afF (hx:(St.mk pe lo hp df).aa x=some (.int .i64 a))(hy:(St.mk pe lo hp df).aa y=some (.int .i64 b))
 (hr : -9223372036854775808<=a*b/\a*b<9223372036854775808) (h:WO M l ⟨⟨pe,(t,.int .i64 (a*b))::lo,hp,df⟩,wr⟩ Q):WO M (⟨.l t,.bin .mul x y,none⟩::l) ⟨⟨pe,lo,hp,df⟩,wr⟩ Q:=
 WO.op (WP.pure (v:=.int .i64 (a*b)) rfl (by simp[aW,hx,hy,cN,nI hr]) h)
theorem afY (hx:(St.mk pe lo hp df).aa x=some (.int .i64 a))(hy:(St.mk pe lo hp df).aa y=some (.int .i64 b))
 (hb:0<b) (hr : -9223372036854775808<=a/\a<9223372036854775808) (h:WO M l ⟨⟨pe,(t,.int .i64 (a.tdiv b))::lo,hp,df⟩,wr⟩ Q):WO M (⟨.l t,.bin .quo x y,none⟩::l) ⟨⟨pe,lo,hp,df⟩,wr⟩ Q:=by
 have hb':b≠0:=by omega
 have h1:(a.tdiv b).natAbs<=a.natAbs:=by rw[Int.natAbs_tdiv];exact Nat.div_le_self _ _
 have h2 : -9223372036854775808<=a.tdiv b/\a.tdiv b<9223372036854775808:=by
  rcases Int.le_total 0 a with h0|h0
  . have:=Int.tdiv_nonneg h0 (Int.le_of_lt hb);omega
  . have:a.tdiv b<=0:=by
     have:=Int.tdiv_nonneg (a:=-a) (b:=b) (by omega) (Int.le_of_lt hb);rw[Int.neg_tdiv]at this;omega
    omega
 exact WO.op (WP.pure (v:=.int .i64 (a.tdiv b)) rfl (by simp[aW,hx,hy,cN,hb',nI h2]) h)
theorem afZ (hx:(St.mk pe lo hp df).aa x=some (.int k a))(hy:(St.mk pe lo hp df).aa y=some (.int k b))
 (hb:b≠0) (h:WO M l ⟨⟨pe,(t,.int k (a.tmod b))::lo,hp,df⟩,wr⟩ Q):WO M (⟨.l t,.bin .rem x y,none⟩::l) ⟨⟨pe,lo,hp,df⟩,wr⟩ Q:=
 WO.op (WP.pure (v:=.int k (a.tmod b)) rfl (by simp[aW,hx,hy,cN,hb]) h)
theorem aeX {esz:Nat}{c:List AV}{len:Nat}{cap:Option Nat}(hx:(St.mk pe lo hp df).aa x=some (.vs c len cap))(hy:(St.mk pe lo hp df).aa i=some (.int k n))
 (hb:0<=n/\n<len) (h:WO M l ⟨⟨pe,(t,.vp (c.drop (n.toNat*esz)))::lo,hp,df⟩,wr⟩ Q):WO M (⟨.l t,.cP none esz x i,none⟩::l) ⟨⟨pe,lo,hp,df⟩,wr⟩ Q:=
 WO.op (WP.pure (v:=.vp (c.drop (n.toNat*esz))) rfl (by simp[aW,hx,hy,mV,hb]) h)
theorem afv {esz b o len:Nat}{cap:Option Nat}(hx:(St.mk pe lo hp df).aa x=some (.sl b o len esz cap))(hy:(St.mk pe lo hp df).aa i=some (.int k n))
 (hb:0<=n/\n<len) (h:WO M l ⟨⟨pe,(t,.ptr b (o+n.toNat*esz))::lo,hp,df⟩,wr⟩ Q):WO M (⟨.l t,.cP none esz x i,none⟩::l) ⟨⟨pe,lo,hp,df⟩,wr⟩ Q:=
 WO.op (WP.pure (v:=.ptr b (o+n.toNat*esz)) rfl (by simp[aW,hx,hy,mV,hb]) h)
theorem afb {s:List UInt8}(hx:(St.mk pe lo hp df).aa x=some (.str s))(hy:(St.mk pe lo hp df).aa i=some (.int k n))
 (hb:0<=n/\n<s.length) (h:WO M l ⟨⟨pe,(t,.int .u8 (s[n.toNat]!).toNat)::lo,hp,df⟩,wr⟩ Q):WO M (⟨.l t,.index x i,none⟩::l) ⟨⟨pe,lo,hp,df⟩,wr⟩ Q:=by
 have h1:n.toNat<s.length:=by omega
 refine WO.op (WP.pure (v:=.int .u8 (s[n.toNat]!).toNat) rfl ?_ h);simp[aW,hx,hy,tr,hb.1,h1]
theorem aM {b:al}{s:ao}{Q}(h:W M b s Q):SQ M b Q .normal s:=⟨h⟩
theorem iy {b:al}{s:ao}{Q}{i:Nat}(h:Q (.exit i) s):SQ M b Q (.exit i) s:=⟨h⟩
theorem bZ {b:al}{s:ao}{Q}(h:Q .ret s):SQ M b Q .ret s:=⟨h⟩
theorem cX {b:Nat}{s:ao}{Q}(h:Q .normal s):BQ b Q .normal s:=⟨h⟩
theorem fx {b:Nat}{s:ao}{Q}(h:Q .ret s):BQ b Q .ret s:=⟨h⟩
theorem fy {b:Nat}{s:ao}{Q}(h:Q .normal s):BQ b Q (.exit b) s:=⟨by simp only[if_true];exact h⟩
theorem yS {b i:Nat}{s:ao}{Q}(hn:Nat.beq i b=false)(h:Q (.exit i) s):BQ b Q (.exit i) s:=
 ⟨by simp only;rw[if_neg (fun e=>by subst e;simp at hn)];exact h⟩
theorem fT {b:al}{s:ao}{Q}(h:W M (.loop b) s Q):LQ M b Q .normal s:=⟨h⟩
theorem nc {b:al}{s:ao}{Q}{i:Nat}(h:Q (.exit i) s):LQ M b Q (.exit i) s:=⟨h⟩
theorem kL {b:al}{s:ao}{Q}(h:Q .ret s):LQ M b Q .ret s:=⟨h⟩
theorem bH {f N:Nat}{aO:List Nat}{res:List ew}{body:al}{hh:ab}(hft:M.FT f=some ⟨N,aO,res,body⟩)(hN:as.length<=N)
 (h:W M body ⟨⟨aO.map (fun t=>(as[t]?).getD cB),[],[],[]⟩,[]⟩ fun e s=>(e = .normal\/e = .ret)/\s.s.bX=[]/\∃vs,de s.s res=some vs/\aV vs=v/\(if v.top<=0 then [] else s.s.hp)=hh):aT M f as [] ⟨v,hh,[]⟩:=by
 obtain⟨⟨n,e,s,h1,h2,h3,vs,h4,h5,h6⟩⟩:=h;refine⟨n,?_⟩;have h1':bh M.ext M.inv M.FT n body ⟨⟨aO.map (fun t=>(as[t]?).getD cB),[],[],[]⟩,[]⟩=some (e,s):=h1;simp only[gk,hft];rw[if_neg (by omega)];simp only[ax.ev,h1',if_pos h2,h3,kJ,h4];subst h5;subst h6;have ht:tight s.s.hp 0 s.wr=true:=by
  simp only[tight,List.all_eq_true];intro b _;split <;> simp
 have hf:s.wr.filter (fun b=>decide (b<0))=[]:=by simp
 simp only[dR,List.length_nil,ht,Bool.and_true,hf,List.take_zero,decide_eq_true_eq];split <;> rfl
end Go.Ab
