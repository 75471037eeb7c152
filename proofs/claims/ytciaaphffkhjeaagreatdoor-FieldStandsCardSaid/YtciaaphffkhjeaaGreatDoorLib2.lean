/-
  Own work: a calculus of runs on the abstract machine: what holds behind a piece of code, without fuel.
-/
import Derived.Test.YtciaaphffkhjeaaGreatDoorLib1
import Derived.Test.YtciaaphffkhjeaaGreatDoorLib0
import Derived.OpenShut
import Derived.Laws.RangeString
import Derived.Lib.DecodeN
import Derived.Deep.Slices
import Derived.Deep.Strs
import Derived.Below
namespace Go.Ab
variable {c:ICode} {s:StW} {Q:StW→Prop} {l:List IOper} {a b n:Int} {x y i:IOpd} {t:Nat} {pe as fi ca:List AV} {lo:List (Nat×AV)} {hp:Heap} {df wr:List Nat} {d:Dst} {v:AV} {r:HR} {args:List IOpd} {f:FuncId} {k:IntKind}
structure Mach where
 ext:FuncId→List AV→Heap→Option HR
 inv:InvF
 FT:FuncId→Option IFunc
abbrev Mach.ev (M:Mach) (n:Nat):=evalC M.ext M.inv M.FT n
abbrev Mach.call (M:Mach) (n:Nat):=callWith (M.ev n) M.ext M.FT
structure W (M:Mach) (c:ICode) (s:StW) (Q:Ex→StW→Prop):Prop where
 out:∃ n e s',M.ev n c s=some (e,s')∧Q e s'
structure WO (M:Mach) (l:List IOper) (s:StW) (Q:StW→Prop):Prop where
 out:∃ n s',opersA (M.call n) M.inv l s=some s'∧Q s'
structure WD (M:Mach) (l:List (IOper×List Nat)) (s:StW) (ds:List Done) (Q:StW→Prop):Prop where
 out:∃ n s',drawA (M.call n) M.inv l s ds=some s'∧Q s'
structure WC (M:Mach) (g:AV) (as:List AV) (h:Heap) (Q:HR→Prop):Prop where
 out:∃ n r,M.call n g as h=some r∧Q r
def Run (M:Mach) (f:FuncId) (as:List AV) (h:Heap) (r:HR):Prop:=∃ n,callFT (M.ev n) M.FT f as h=some r
variable {M:Mach}
theorem ev_up {n m:Nat} (h:n≤m) {c:ICode} {s:StW} {x:Ex×StW} (hx:M.ev n c s=some x):M.ev m c s=some x:=eval_le h c s x hx
theorem call_up {n m:Nat} (h:n≤m):CallLe (M.call n) (M.call m):=callWith_le (eval_le h)
theorem W.mono {Q R:Ex→StW→Prop} (h:W M c s Q) (hr:∀ e s',Q e s'→R e s'):W M c s R:=by
 obtain ⟨⟨n,e,s',h1,h2⟩⟩:=h;exact ⟨⟨n,e,s',h1,hr _ _ h2⟩⟩
theorem WO.mono {R:StW→Prop} (h:WO M l s Q) (hr:∀ s',Q s'→R s'):WO M l s R:=by
 obtain ⟨⟨n,s',h1,h2⟩⟩:=h;exact ⟨⟨n,s',h1,hr _ h2⟩⟩
structure SQ (M:Mach) (b:ICode) (Q:Ex→StW→Prop) (e:Ex) (s:StW):Prop where
 out:match e with
  | .normal=>W M b s Q
  | e=>Q e s
structure BQ (id:Nat) (Q:Ex→StW→Prop) (e:Ex) (s:StW):Prop where
 out:match e with
  | .exit i=>if i=id then Q .normal s else Q (.exit i) s
  | e=>Q e s
structure LQ (M:Mach) (c:ICode) (Q:Ex→StW→Prop) (e:Ex) (s:StW):Prop where
 out:match e with
  | .normal=>W M (.loop c) s Q
  | e=>Q e s
theorem W.skip {Q:Ex→StW→Prop} (h:Q .normal s):W M .skip s Q:=⟨⟨1,.normal,s,rfl,h⟩⟩
theorem W.ret {Q:Ex→StW→Prop} (h:Q .ret s):W M .ret s Q:=⟨⟨1,.ret,s,rfl,h⟩⟩
theorem W.exit {i:Nat} {Q:Ex→StW→Prop} (h:Q (.exit i) s):W M (.exit i) s Q:=⟨⟨1,.exit i,s,rfl,h⟩⟩
theorem W.seq {a b:ICode} {Q:Ex→StW→Prop} (h:W M a s (SQ M b Q)):W M (.seq a b) s Q:=by
 obtain ⟨⟨n,e,s1,h1,⟨h2⟩⟩⟩:=h
 cases e with
 | normal=>
  obtain ⟨⟨m,e,s2,h3,h4⟩⟩:=h2
  refine ⟨⟨max n m+1,e,s2,?_,h4⟩⟩
  show evalC _ _ _ _ _ _=_
  rw [evalC,show evalC M.ext M.inv M.FT (max n m) _ s=_ from ev_up (Nat.le_max_left n m) h1]
  exact ev_up (Nat.le_max_right n m) h3
 | exit i=>refine ⟨⟨n+1,.exit i,s1,?_,h2⟩⟩;show evalC _ _ _ _ _ _=_;rw [evalC,show evalC _ _ _ n a s=_ from h1]
 | ret=>refine ⟨⟨n+1,.ret,s1,?_,h2⟩⟩;show evalC _ _ _ _ _ _=_;rw [evalC,show evalC _ _ _ n a s=_ from h1]
theorem W.block {id:Nat} {Q:Ex→StW→Prop} (h:W M c s (BQ id Q)):W M (.block id c) s Q:=by
 obtain ⟨⟨n,e,s1,h1,⟨h2⟩⟩⟩:=h
 have h1':evalC M.ext M.inv M.FT n c s=some (e,s1):=h1
 cases e with
 | normal=>refine ⟨⟨n+1,.normal,s1,?_,h2⟩⟩;show evalC _ _ _ _ _ _=_;rw [evalC,h1']
 | ret=>refine ⟨⟨n+1,.ret,s1,?_,h2⟩⟩;show evalC _ _ _ _ _ _=_;rw [evalC,h1']
 | exit i=>
  simp only at h2
  split at h2
  · rename_i hi
    refine ⟨⟨n+1,.normal,s1,?_,h2⟩⟩;show evalC _ _ _ _ _ _=_;rw [evalC,h1'];simp only [if_pos hi]
  · rename_i hi
    refine ⟨⟨n+1,.exit i,s1,?_,h2⟩⟩;show evalC _ _ _ _ _ _=_;rw [evalC,h1'];simp only [if_neg hi]
theorem W.loop {Q:Ex→StW→Prop} (h:W M c s (LQ M c Q)):W M (.loop c) s Q:=by
 obtain ⟨⟨n,e,s1,h1,⟨h2⟩⟩⟩:=h
 have h1':evalC M.ext M.inv M.FT n c s=some (e,s1):=h1
 cases e with
 | normal=>
  obtain ⟨⟨m,e,s2,h3,h4⟩⟩:=h2
  refine ⟨⟨max n m+1,e,s2,?_,h4⟩⟩
  show evalC _ _ _ _ _ _=_
  rw [evalC,show evalC M.ext M.inv M.FT (max n m) _ s=_ from ev_up (Nat.le_max_left n m) h1]
  exact ev_up (Nat.le_max_right n m) h3
 | exit i=>refine ⟨⟨n+1,.exit i,s1,?_,h2⟩⟩;show evalC _ _ _ _ _ _=_;rw [evalC,h1']
 | ret=>refine ⟨⟨n+1,.ret,s1,?_,h2⟩⟩;show evalC _ _ _ _ _ _=_;rw [evalC,h1']
theorem W.cond {t:Bool} {a b:ICode} {Q:Ex→StW→Prop} (h:s.s.opd x=some (.bool t)) (h1:t=true→W M a s Q) (h2:t=false→W M b s Q):W M (.cond x a b) s Q:=by
 cases t with
 | true=>
  obtain ⟨⟨n,e,s',h3,h4⟩⟩:=h1 rfl
  refine ⟨⟨n+1,e,s',?_,h4⟩⟩;show evalC _ _ _ _ _ _=_;rw [evalC,h];exact h3
 | false=>
  obtain ⟨⟨n,e,s',h3,h4⟩⟩:=h2 rfl
  refine ⟨⟨n+1,e,s',?_,h4⟩⟩;show evalC _ _ _ _ _ _=_;rw [evalC,h];exact h3
theorem W.condT {a b:ICode} {Q:Ex→StW→Prop} (h:s.s.opd x=some (.bool true)) (h1:W M a s Q):W M (.cond x a b) s Q:=W.cond h (fun _=>h1) (fun h=>by cases h)
theorem W.condF {a b:ICode} {Q:Ex→StW→Prop} (h:s.s.opd x=some (.bool false)) (h1:W M b s Q):W M (.cond x a b) s Q:=W.cond h (fun h=>by cases h) (fun _=>h1)
theorem W.region {Q:Ex→StW→Prop} (h:WO M l ⟨⟨pe,[],hp,df⟩,wr⟩ (Q .normal)):W M (.region l) ⟨⟨pe,lo,hp,df⟩,wr⟩ Q:=by
 obtain ⟨⟨n,s',h1,h2⟩⟩:=h
 refine ⟨⟨n+1,.normal,s',?_,h2⟩⟩
 show evalC _ _ _ _ _ _=_;rw [evalC,h1]
theorem W.draw {l:List (IOper×List Nat)} {Q:Ex→StW→Prop} (h:WD M l ⟨⟨pe,[],hp,df⟩,wr⟩ [] (Q .normal)):W M (.draw l) ⟨⟨pe,lo,hp,df⟩,wr⟩ Q:=by
 obtain ⟨⟨n,s',h1,h2⟩⟩:=h
 refine ⟨⟨n+1,.normal,s',?_,h2⟩⟩
 show evalC _ _ _ _ _ _=_;rw [evalC,h1]
theorem WO.nil (h:Q s):WO M [] s Q:=⟨⟨0,s,rfl,h⟩⟩
def IOp.plainHeap:IOp→Bool
 | .call .. | .invoke .. => false
 | _=>true
structure WP (M:Mach) (s:St) (op:IOp) (Q:HR→Prop):Prop where
 out:∃ n r,opA (M.call n) M.inv s op=some r∧Q r
theorem WO.op {d:Dst} {op:IOp} {l:List IOper} {s:StW} {Q:StW→Prop} (h:WP M s.s op fun r=>WO M l ⟨{ s.s.put d r.v with hp:=r.h },r.wr++s.wr⟩ Q):WO M (⟨d,op,none⟩::l) s Q:=by
 obtain ⟨⟨n,r,h1,⟨⟨m,s',h2,h3⟩⟩⟩⟩:=h
 refine ⟨⟨max n m,s',?_,h3⟩⟩
 simp only [opersA,wantedA]
 rw [opA_le (call_up (Nat.le_max_left n m)) h1]
 exact opersA_le (call_up (Nat.le_max_right n m)) _ _ _ h2
theorem WO.skip {op:IOp} {t want:Bool} (hx:s.s.opd x=some (.bool t)) (ht:(t == want)=false) (h:WO M l ⟨s.s.put d undefA,s.wr⟩ Q):WO M (⟨d,op,some (x,want)⟩::l) s Q:=by
 obtain ⟨⟨n,s',h1,h2⟩⟩:=h
 refine ⟨⟨n,s',?_,h2⟩⟩
 simp only [opersA,wantedA,hx,ht]
 exact h1
theorem WO.take {op:IOp} {t want:Bool} (hx:s.s.opd x=some (.bool t)) (ht:(t == want)=true) (h:WO M (⟨d,op,none⟩::l) s Q):WO M (⟨d,op,some (x,want)⟩::l) s Q:=by
 obtain ⟨⟨n,s',h1,h2⟩⟩:=h
 refine ⟨⟨n,s',?_,h2⟩⟩
 simp only [opersA,wantedA,hx,ht] at h1 ⊢
 exact h1
theorem WO.skipT {op:IOp} (hx:s.s.opd x=some (.tup [])) {want:Bool} (h:WO M l ⟨s.s.put d undefA,s.wr⟩ Q):WO M (⟨d,op,some (x,want)⟩::l) s Q:=by
 obtain ⟨⟨n,s',h1,h2⟩⟩:=h
 refine ⟨⟨n,s',?_,h2⟩⟩
 simp only [opersA,wantedA,hx]
 exact h1
theorem WO.gT {op:IOp} (hx:s.s.opd x=some (.bool true)) (h:WO M (⟨d,op,none⟩::l) s Q):WO M (⟨d,op,some (x,true)⟩::l) s Q:=WO.take hx rfl h
theorem WO.gF {op:IOp} (hx:s.s.opd x=some (.bool false)) (h:WO M (⟨d,op,none⟩::l) s Q):WO M (⟨d,op,some (x,false)⟩::l) s Q:=WO.take hx rfl h
theorem WO.sT {op:IOp} (hx:(St.mk pe lo hp df).opd x=some (.bool false)) (h:WO M l ⟨⟨pe,(t,undefA)::lo,hp,df⟩,wr⟩ Q):WO M (⟨.l t,op,some (x,true)⟩::l) ⟨⟨pe,lo,hp,df⟩,wr⟩ Q:=WO.skip hx rfl h
theorem WO.sF {op:IOp} (hx:(St.mk pe lo hp df).opd x=some (.bool true)) (h:WO M l ⟨⟨pe,(t,undefA)::lo,hp,df⟩,wr⟩ Q):WO M (⟨.l t,op,some (x,false)⟩::l) ⟨⟨pe,lo,hp,df⟩,wr⟩ Q:=WO.skip hx rfl h
theorem WP.pure {s:St} {op:IOp} {Q:HR→Prop} (hh:op.heapy=false) (hv:pureA s op=some v) (h:Q ⟨v,s.hp,[]⟩):WP M s op Q:=by
 refine ⟨⟨0,_,?_,h⟩⟩
 cases op <;> first|(cases hh;done)|simp only [opA,IOp.heapy,hv,Bool.false_eq_true,if_false,Option.map_some]
theorem WP.heap {s:St} {op:IOp} {Q:HR→Prop} (hh:op.heapy=true) (hc:op.plainHeap=true) (hv:heapA s op s.hp=some r) (h:Q r):WP M s op Q:=by
 refine ⟨⟨0,_,?_,h⟩⟩
 cases op <;> first|(cases hh;done)|(cases hc;done)|(simp only [opA,IOp.heapy,if_true];exact hv)
theorem WP.call {s:St} {f:IOpd} {g:AV} {Q:HR→Prop} (hf:s.opd f=some g) (ha:s.opds args=some as) (h:WC M g as s.hp Q):WP M s (.call f args) Q:=by
 obtain ⟨⟨n,r,h1,h2⟩⟩:=h
 refine ⟨⟨n,r,?_,h2⟩⟩
 simp only [opA,hf,ha];exact h1
theorem WP.invoke {s:St} {name:String} {t:TypeId} {Q:HR→Prop} (hf:s.opd x=some (.iface t v)) (ha:s.opds args=some as) (hi:M.inv t name=some f) (h:WC M (.fn (.func f) [] []) (v::as) s.hp Q):WP M s (.invoke x name args) Q:=by
 obtain ⟨⟨n,r,h1,h2⟩⟩:=h
 refine ⟨⟨n,r,?_,h2⟩⟩
 simp only [opA,hf,ha,hi];exact h1
theorem WC.ext {h:Heap} {Q:HR→Prop} (he:M.ext f (fi++as++ca) h=some r) (hq:Q r):WC M (.fn (.func f) fi ca) as h Q:=
 ⟨⟨0,r,by simp only [callWith,he],hq⟩⟩
theorem WC.run {h:Heap} {Q:HR→Prop} (he:M.ext f (fi++as++ca) h=none) (hr:Run M f (fi++as++ca) h r) (hq:Q r):WC M (.fn (.func f) fi ca) as h Q:=by
 obtain ⟨n,hn⟩:=hr
 exact ⟨⟨n,r,by simp only [callWith,he];exact hn,hq⟩⟩
theorem WO.callx {f:IOpd} {g:FuncId} (hf:s.s.opd f=some (.fn (.func g) fi ca)) (ha:s.s.opds args=some as) (he:M.ext g (fi++as++ca) s.s.hp=some r)
 (h:WO M l ⟨{ s.s.put d r.v with hp:=r.h },r.wr++s.wr⟩ Q):WO M (⟨d,.call f args,none⟩::l) s Q:=WO.op (WP.call hf ha (WC.ext he h))
theorem WO.pl {op:IOp} (hv:pureA ⟨pe,lo,hp,df⟩ op=some v) (hh:op.heapy=false) (h:WO M l ⟨⟨pe,(t,v)::lo,hp,df⟩,wr⟩ Q) :
 WO M (⟨.l t,op,none⟩::l) ⟨⟨pe,lo,hp,df⟩,wr⟩ Q:=WO.op (WP.pure hh hv h)
theorem WO.pp {i:Nat} {op:IOp} (hv:pureA ⟨pe,lo,hp,df⟩ op=some v) (hh:op.heapy=false) (h:WO M l ⟨⟨pe.set i v,lo,hp,df⟩,wr⟩ Q) :
 WO M (⟨.p i,op,none⟩::l) ⟨⟨pe,lo,hp,df⟩,wr⟩ Q:=WO.op (WP.pure hh hv h)
theorem WO.hl {op:IOp} (hv:heapA ⟨pe,lo,hp,df⟩ op hp=some r) (hh:op.heapy=true) (hc:op.plainHeap=true)
 (h:WO M l ⟨⟨pe,(t,r.v)::lo,r.h,df⟩,r.wr++wr⟩ Q):WO M (⟨.l t,op,none⟩::l) ⟨⟨pe,lo,hp,df⟩,wr⟩ Q:=WO.op (WP.heap hh hc hv h)
theorem WO.hn {op:IOp} (hv:heapA ⟨pe,lo,hp,df⟩ op hp=some r) (hh:op.heapy=true) (hc:op.plainHeap=true)
 (h:WO M l ⟨⟨pe,lo,r.h,df⟩,r.wr++wr⟩ Q):WO M (⟨.no,op,none⟩::l) ⟨⟨pe,lo,hp,df⟩,wr⟩ Q:=WO.op (WP.heap hh hc hv h)
theorem WO.lss (hx:(St.mk pe lo hp df).opd x=some (.int k a)) (hy:(St.mk pe lo hp df).opd y=some (.int k b))
 (h1:a<b→WO M l ⟨⟨pe,(t,.bool true)::lo,hp,df⟩,wr⟩ Q) (h2:b≤a→WO M l ⟨⟨pe,(t,.bool false)::lo,hp,df⟩,wr⟩ Q):WO M (⟨.l t,.bin .lss x y,none⟩::l) ⟨⟨pe,lo,hp,df⟩,wr⟩ Q:=by
 refine WO.op (WP.pure (v:=.bool (decide (a<b))) rfl (by simp [pureA,hx,hy,binA]) ?_)
 by_cases h:a<b
 · rw [decide_eq_true h];exact h1 h
 · rw [decide_eq_false h];exact h2 (by omega)
theorem WO.leq (hx:(St.mk pe lo hp df).opd x=some (.int k a)) (hy:(St.mk pe lo hp df).opd y=some (.int k b))
 (h1:a≤b→WO M l ⟨⟨pe,(t,.bool true)::lo,hp,df⟩,wr⟩ Q) (h2:b<a→WO M l ⟨⟨pe,(t,.bool false)::lo,hp,df⟩,wr⟩ Q):WO M (⟨.l t,.bin .leq x y,none⟩::l) ⟨⟨pe,lo,hp,df⟩,wr⟩ Q:=by
 refine WO.op (WP.pure (v:=.bool (decide (a≤b))) rfl (by simp [pureA,hx,hy,binA]) ?_)
 by_cases h:a≤b
 · rw [decide_eq_true h];exact h1 h
 · rw [decide_eq_false h];exact h2 (by omega)
theorem WO.gtr (hx:(St.mk pe lo hp df).opd x=some (.int k a)) (hy:(St.mk pe lo hp df).opd y=some (.int k b))
 (h1:b<a→WO M l ⟨⟨pe,(t,.bool true)::lo,hp,df⟩,wr⟩ Q) (h2:a≤b→WO M l ⟨⟨pe,(t,.bool false)::lo,hp,df⟩,wr⟩ Q):WO M (⟨.l t,.bin .gtr x y,none⟩::l) ⟨⟨pe,lo,hp,df⟩,wr⟩ Q:=by
 refine WO.op (WP.pure (v:=.bool (decide (a > b))) rfl (by simp [pureA,hx,hy,binA]) ?_)
 by_cases h:b<a
 · rw [decide_eq_true h];exact h1 h
 · rw [decide_eq_false h];exact h2 (by omega)
theorem WO.geq (hx:(St.mk pe lo hp df).opd x=some (.int k a)) (hy:(St.mk pe lo hp df).opd y=some (.int k b))
 (h1:b≤a→WO M l ⟨⟨pe,(t,.bool true)::lo,hp,df⟩,wr⟩ Q) (h2:a<b→WO M l ⟨⟨pe,(t,.bool false)::lo,hp,df⟩,wr⟩ Q):WO M (⟨.l t,.bin .geq x y,none⟩::l) ⟨⟨pe,lo,hp,df⟩,wr⟩ Q:=by
 refine WO.op (WP.pure (v:=.bool (decide (a≥b))) rfl (by simp [pureA,hx,hy,binA]) ?_)
 by_cases h:b≤a
 · rw [decide_eq_true h];exact h1 h
 · rw [decide_eq_false h];exact h2 (by omega)
theorem WO.eql (hx:(St.mk pe lo hp df).opd x=some (.int k a)) (hy:(St.mk pe lo hp df).opd y=some (.int k b))
 (h1:a=b→WO M l ⟨⟨pe,(t,.bool true)::lo,hp,df⟩,wr⟩ Q) (h2:a≠b→WO M l ⟨⟨pe,(t,.bool false)::lo,hp,df⟩,wr⟩ Q):WO M (⟨.l t,.bin .eql x y,none⟩::l) ⟨⟨pe,lo,hp,df⟩,wr⟩ Q:=by
 refine WO.op (WP.pure (v:=.bool (a == b)) rfl (by simp [pureA,hx,hy,binA]) ?_)
 by_cases h:a=b
 · rw [beq_iff_eq.2 h];exact h1 h
 · rw [beq_eq_false_iff_ne.2 h];exact h2 h
theorem WO.neq (hx:(St.mk pe lo hp df).opd x=some (.int k a)) (hy:(St.mk pe lo hp df).opd y=some (.int k b))
 (h1:a≠b→WO M l ⟨⟨pe,(t,.bool true)::lo,hp,df⟩,wr⟩ Q) (h2:a=b→WO M l ⟨⟨pe,(t,.bool false)::lo,hp,df⟩,wr⟩ Q):WO M (⟨.l t,.bin .neq x y,none⟩::l) ⟨⟨pe,lo,hp,df⟩,wr⟩ Q:=by
 refine WO.op (WP.pure (v:=.bool (a != b)) rfl (by simp [pureA,hx,hy,binA]) ?_)
 by_cases h:a=b
 · rw [bne_eq_false_iff_eq.2 h];exact h2 h
 · rw [bne_iff_ne.2 h];exact h1 h
theorem WO.seql {a b:List UInt8} (hx:(St.mk pe lo hp df).opd x=some (.str a)) (hy:(St.mk pe lo hp df).opd y=some (.str b))
 (h1:a=b→WO M l ⟨⟨pe,(t,.bool true)::lo,hp,df⟩,wr⟩ Q) (h2:a≠b→WO M l ⟨⟨pe,(t,.bool false)::lo,hp,df⟩,wr⟩ Q):WO M (⟨.l t,.bin .eql x y,none⟩::l) ⟨⟨pe,lo,hp,df⟩,wr⟩ Q:=by
 refine WO.op (WP.pure (v:=.bool (a == b)) rfl (by simp [pureA,hx,hy,binA]) ?_)
 by_cases h:a=b
 · rw [beq_iff_eq.2 h];exact h1 h
 · rw [beq_eq_false_iff_ne.2 h];exact h2 h
theorem WO.sneq {a b:List UInt8} (hx:(St.mk pe lo hp df).opd x=some (.str a)) (hy:(St.mk pe lo hp df).opd y=some (.str b))
 (h1:a≠b→WO M l ⟨⟨pe,(t,.bool true)::lo,hp,df⟩,wr⟩ Q) (h2:a=b→WO M l ⟨⟨pe,(t,.bool false)::lo,hp,df⟩,wr⟩ Q):WO M (⟨.l t,.bin .neq x y,none⟩::l) ⟨⟨pe,lo,hp,df⟩,wr⟩ Q:=by
 refine WO.op (WP.pure (v:=.bool !(a == b)) rfl (by simp [pureA,hx,hy,binA]) ?_)
 by_cases h:a=b
 · rw [beq_iff_eq.2 h];exact h2 h
 · rw [beq_eq_false_iff_ne.2 h];exact h1 h
theorem i64_wrap (h : -9223372036854775808≤n∧n<9223372036854775808):IntKind.i64.wrap n=n:=IntWalk.i64_in _ (by omega)
theorem WO.add (hx:(St.mk pe lo hp df).opd x=some (.int .i64 a)) (hy:(St.mk pe lo hp df).opd y=some (.int .i64 b))
 (hr : -9223372036854775808≤a+b∧a+b<9223372036854775808) (h:WO M l ⟨⟨pe,(t,.int .i64 (a+b))::lo,hp,df⟩,wr⟩ Q):WO M (⟨.l t,.bin .add x y,none⟩::l) ⟨⟨pe,lo,hp,df⟩,wr⟩ Q:=
 WO.op (WP.pure (v:=.int .i64 (a+b)) rfl (by simp [pureA,hx,hy,binA,i64_wrap hr]) h)
theorem WO.sub (hx:(St.mk pe lo hp df).opd x=some (.int .i64 a)) (hy:(St.mk pe lo hp df).opd y=some (.int .i64 b))
 (hr : -9223372036854775808≤a-b∧a-b<9223372036854775808) (h:WO M l ⟨⟨pe,(t,.int .i64 (a-b))::lo,hp,df⟩,wr⟩ Q):WO M (⟨.l t,.bin .sub x y,none⟩::l) ⟨⟨pe,lo,hp,df⟩,wr⟩ Q:=
 WO.op (WP.pure (v:=.int .i64 (a-b)) rfl (by simp [pureA,hx,hy,binA,i64_wrap hr]) h)
theorem WO.mul (hx:(St.mk pe lo hp df).opd x=some (.int .i64 a)) (hy:(St.mk pe lo hp df).opd y=some (.int .i64 b))
 (hr : -9223372036854775808≤a*b∧a*b<9223372036854775808) (h:WO M l ⟨⟨pe,(t,.int .i64 (a*b))::lo,hp,df⟩,wr⟩ Q):WO M (⟨.l t,.bin .mul x y,none⟩::l) ⟨⟨pe,lo,hp,df⟩,wr⟩ Q:=
 WO.op (WP.pure (v:=.int .i64 (a*b)) rfl (by simp [pureA,hx,hy,binA,i64_wrap hr]) h)
theorem WO.rem (hx:(St.mk pe lo hp df).opd x=some (.int k a)) (hy:(St.mk pe lo hp df).opd y=some (.int k b))
 (hb:b≠0) (h:WO M l ⟨⟨pe,(t,.int k (a.tmod b))::lo,hp,df⟩,wr⟩ Q):WO M (⟨.l t,.bin .rem x y,none⟩::l) ⟨⟨pe,lo,hp,df⟩,wr⟩ Q:=
 WO.op (WP.pure (v:=.int k (a.tmod b)) rfl (by simp [pureA,hx,hy,binA,hb]) h)
theorem WO.iav {esz:Nat} {c:List AV} {len:Nat} {cap:Option Nat} (hx:(St.mk pe lo hp df).opd x=some (.vs c len cap)) (hy:(St.mk pe lo hp df).opd i=some (.int k n))
 (hb:0≤n∧n<len) (h:WO M l ⟨⟨pe,(t,.vp (c.drop (n.toNat*esz)))::lo,hp,df⟩,wr⟩ Q):WO M (⟨.l t,.iaddr none esz x i,none⟩::l) ⟨⟨pe,lo,hp,df⟩,wr⟩ Q:=
 WO.op (WP.pure (v:=.vp (c.drop (n.toNat*esz))) rfl (by simp [pureA,hx,hy,iaddrA,hb]) h)
theorem WO.ias {esz b o len:Nat} {cap:Option Nat} (hx:(St.mk pe lo hp df).opd x=some (.sl b o len esz cap)) (hy:(St.mk pe lo hp df).opd i=some (.int k n))
 (hb:0≤n∧n<len) (h:WO M l ⟨⟨pe,(t,.ptr b (o+n.toNat*esz))::lo,hp,df⟩,wr⟩ Q):WO M (⟨.l t,.iaddr none esz x i,none⟩::l) ⟨⟨pe,lo,hp,df⟩,wr⟩ Q:=
 WO.op (WP.pure (v:=.ptr b (o+n.toNat*esz)) rfl (by simp [pureA,hx,hy,iaddrA,hb]) h)
theorem WO.idx {s:List UInt8} (hx:(St.mk pe lo hp df).opd x=some (.str s)) (hy:(St.mk pe lo hp df).opd i=some (.int k n))
 (hb:0≤n∧n<s.length) (h:WO M l ⟨⟨pe,(t,.int .u8 (s[n.toNat]!).toNat)::lo,hp,df⟩,wr⟩ Q):WO M (⟨.l t,.index x i,none⟩::l) ⟨⟨pe,lo,hp,df⟩,wr⟩ Q:=by
 have h1:n.toNat<s.length:=by omega
 refine WO.op (WP.pure (v:=.int .u8 (s[n.toNat]!).toNat) rfl ?_ h)
 simp [pureA,hx,hy,indexA,hb.1,h1]
theorem SQn {b:ICode} {s:StW} {Q} (h:W M b s Q):SQ M b Q .normal s:=⟨h⟩
theorem SQe {b:ICode} {s:StW} {Q} {i:Nat} (h:Q (.exit i) s):SQ M b Q (.exit i) s:=⟨h⟩
theorem SQr {b:ICode} {s:StW} {Q} (h:Q .ret s):SQ M b Q .ret s:=⟨h⟩
theorem BQn {b:Nat} {s:StW} {Q} (h:Q .normal s):BQ b Q .normal s:=⟨h⟩
theorem BQr {b:Nat} {s:StW} {Q} (h:Q .ret s):BQ b Q .ret s:=⟨h⟩
theorem BQe {b:Nat} {s:StW} {Q} (h:Q .normal s):BQ b Q (.exit b) s:=⟨by simp only [if_true];exact h⟩
theorem LQn {b:ICode} {s:StW} {Q} (h:W M (.loop b) s Q):LQ M b Q .normal s:=⟨h⟩
theorem LQe {b:ICode} {s:StW} {Q} {i:Nat} (h:Q (.exit i) s):LQ M b Q (.exit i) s:=⟨h⟩
theorem LQr {b:ICode} {s:StW} {Q} (h:Q .ret s):LQ M b Q .ret s:=⟨h⟩
theorem run_of_W {f N:Nat} {pers:List Nat} {res:List IRes} {body:ICode} {hh:Heap} (hft:M.FT f=some ⟨N,pers,res,body⟩) (hN:as.length≤N)
 (h:W M body ⟨⟨pers.map (fun t=>(as[t]?).getD undefA),[],[],[]⟩,[]⟩ fun e s=>(e = .normal∨e = .ret)∧s.s.dfs=[]∧∃ vs,resultsA s.s res=some vs∧tupA vs=v∧(if v.top≤0 then [] else s.s.hp)=hh):Run M f as [] ⟨v,hh,[]⟩:=by
 obtain ⟨⟨n,e,s,h1,h2,h3,vs,h4,h5,h6⟩⟩:=h
 refine ⟨n,?_⟩
 have h1':evalC M.ext M.inv M.FT n body ⟨⟨pers.map (fun t=>(as[t]?).getD undefA),[],[],[]⟩,[]⟩=some (e,s):=h1
 simp only [callFT,hft]
 rw [if_neg (by omega)]
 simp only [Mach.ev,h1',if_pos h2,h3,takeDfs,h4]
 subst h5;subst h6
 have ht:tight s.s.hp 0 s.wr=true:=by
  simp only [tight,List.all_eq_true]
  intro b _
  split <;> simp
 have hf:s.wr.filter (fun b=>decide (b<0))=[]:=by simp
 simp only [retA,List.length_nil,ht,Bool.and_true,hf,List.take_zero,decide_eq_true_eq]
 split <;> rfl
end Go.Ab

/-
  Own work: functions known by their contracts: a table, how it grows.
-/
namespace Go.Ab
variable {FT:FuncId→Option IFunc} {h:Heap} {S:List Nat}
variable {P:Program} {gl:Nat→Option AV}
abbrev Spec:=List AV→Heap→Option HR
def extS:List (Nat×Spec)→FuncId→List AV→Heap→Option HR
 | [],_,_,_=>none
 | (g,sp)::T,f,as,h=>if Nat.beq g f then sp as h else extS T f as h
def SpecOK (P:Program) (gl:Nat→Option AV) (f:Nat) (sp:Spec):Prop:=∀ as h r,sp as h=some r→EntHOK P gl ⟨f,as,h,r⟩
theorem tab_nil:ExtOK P gl (extS []):=fun _ _ _ _ h=>by cases h
theorem tab_cons {f:Nat} {sp:Spec} {T:List (Nat×Spec)} (h:SpecOK P gl f sp) (hT:ExtOK P gl (extS T)):ExtOK P gl (extS ((f,sp)::T)):=by
 intro g all hp r hq
 simp only [extS] at hq
 split at hq
 · rename_i e
   have e':=Nat.eq_of_beq_eq_true e
   subst e'
   exact h _ _ _ hq
 · exact hT g all hp r hq
def specX (k:XK):Spec:=fun as h=>(k.run as).map fun v=>⟨v,h,[]⟩
theorem specX_ok {f:Nat} {k:XK} (h:XOK P f k):SpecOK P gl f (specX k):=by
 intro as hp r hq
 have:=extN_ok (P:=P) (gl:=gl) (L:=[(f,k)]) (fun p hp=>by simp only [List.mem_singleton] at hp;subst hp;exact h) f as hp r
 simp only [extN,Nat.beq_refl,if_true] at this
 simp only [specX,Option.map_eq_some_iff] at hq
 obtain ⟨v,hv,rfl⟩:=hq
 exact this (by simp only [hv])
def spec0 (as0:List AV) (v:AV):Spec:=fun as h=>if eqVL as as0 then some ⟨v,h,[]⟩ else none
theorem spec0_ok (hgl:∀ g v,gl g=some v→v.top=0) {f:Nat} {as0:List AV} {v:AV} (hv:v.top=0) (htop:topL as0=0) (hloc:EntHOK P gl ⟨f,as0,[],⟨v,[],[]⟩⟩):SpecOK P gl f (spec0 as0 v):=by
 intro as h r hq
 simp only [spec0] at hq
 split at hq
 · rename_i e
   have e':=eqVL_eq e
   subst e'
   cases hq
   have:=ent_view (h:=h) (S:=[]) (ks:=[]) (bs:=[]) hgl (as:=as) ⟨rfl,fun i x y hx hy=>by rw [hx] at hy;cases hy;exact .same (by have:=topL_le (n:=0) (by omega) i x hx;omega)⟩ (by simp) (.same hv) rfl (by simp) (.inl rfl) hloc
   simpa using this
 · cases hq
structure Seat (P:Program) (gl:Nat→Option AV) (FT:FuncId→Option IFunc):Prop where
 mix:P.follows .mixedOrders=true
 ft:FTOK P gl FT
 gl:∀ g v,gl g=some v→v.top=0
abbrev mach (P:Program) (FT:FuncId→Option IFunc) (T:List (Nat×Spec)):Mach:=⟨extS T,invP P,FT⟩
theorem run_ok (hs:Seat P gl FT) {T:List (Nat×Spec)} (hT:ExtOK P gl (extS T)) {f:Nat} {as:List AV} {h:Heap} {r:HR} (hr:Run (mach P FT T) f as h r) (hw:WrOK h r):EntHOK P gl ⟨f,as,h,r⟩:=by
 obtain ⟨n,hn⟩:=hr
 refine ⟨hw,fun ρ w as' m hv=>?_⟩
 obtain ⟨h1,h2⟩:=callFT_ok (eval_ok hs.mix hT hs.ft n) hs.ft hn m hv
 refine ⟨_,_,h1,?_⟩
 refine CallsIn.mono h2 fun e w' he=>?_
 cases e with
 | returned v=>exact he
 | panicked _=>exact he
 | outgrown=>exact he
theorem ent_run (hs:Seat P gl FT) {T:List (Nat×Spec)} (hT:ExtOK P gl (extS T)) {f:Nat} {as as0:List AV} {h:Heap} {S ks:List Nat} {v v1:AV} {hh:Heap} {bs:List Blk} (hr:Run (mach P FT T) f as0 [] ⟨v,hh,[]⟩)
 (hv:FrL h S as as0) (hnd:ks.Nodup) (hv1:Rn ks h.length v v1) (hlen:ks.length=bs.length)
 (hbs:∀ (i b:Nat) o1,ks[i]? = some b→bs[i]? = some o1→∃ o,hh.at b=some o∧RnB ks h.length o o1∧(S=[]∨novB o=true)) (hn:S=[]∨nov v=true):EntHOK P gl ⟨f,as,h,⟨v1,h++bs.map some,[]⟩⟩:=
 ent_view hs.gl hv hnd hv1 hlen hbs hn (run_ok hs hT hr ⟨Nat.zero_le _,fun _ hb=>absurd hb (Nat.not_lt_zero _)⟩)
theorem ent_run0 (hs:Seat P gl FT) {T:List (Nat×Spec)} (hT:ExtOK P gl (extS T)) {f:Nat} {as as0:List AV} {h hh:Heap} {S:List Nat} {v:AV} (hr:Run (mach P FT T) f as0 [] ⟨v,hh,[]⟩)
 (hv:FrL h S as as0) (ht:v.top=0) (hn:S=[]∨nov v=true):EntHOK P gl ⟨f,as,h,⟨v,h,[]⟩⟩:=by
 have:=ent_run hs hT (ks:=[]) (bs:=[]) hr hv (by simp) (.same ht) rfl (by simp) hn
 simpa using this
theorem FrL.nil:FrL h S [] []:=⟨rfl,by simp⟩
theorem FrL.cons {x y:AV} {l m:List AV} (h1:Fr h S x y) (h2:FrL h S l m):FrL h S (x::l) (y::m):=by
 refine ⟨by simp [h2.1],fun i a b ha hb=>?_⟩
 cases i with
 | zero=>simp at ha hb;subst ha;subst hb;exact h1
 | succ i=>simp at ha hb;exact h2.2 i a b ha hb
theorem FrL.same {l:List AV} (ht:topL l=0):FrL h S l l:=
 ⟨rfl,fun i x y hx hy=>by rw [hx] at hy;cases hy;exact .same (by have:=topL_le (n:=0) (by omega) i x hx;omega)⟩
theorem Fr.mono {S':List Nat} (hs:∀ b∈S,b∈S') {x y:AV} (hf:Fr h S x y):Fr h S' x y:=by
 induction hf with
 | same ht=>exact .same ht
 | nil hc=>exact .nil hc
 | sl hb ha hc hl _ hcc ih=>exact .sl (hs _ hb) ha hc hl ih hcc
 | ptr hb ha hl _ ih=>exact .ptr (hs _ hb) ha hl ih
 | vs hl _ ih=>exact .vs hl ih
 | agg hl _ ih=>exact .agg hl ih
 | tup hl _ ih=>exact .tup hl ih
 | fn hf h1 h2 _ _ ih1 ih2=>exact .fn hf h1 h2 ih1 ih2
def arr {α:Type} (f:α→List AV) (l:List α):List AV:=l.flatMap f
def ints (l:List Int):List AV:=arr (fun x=>[.int .i64 x]) l
theorem nov_append {a b:List AV}:novL (a++b)=(novL a && novL b):=by
 induction a with
 | nil=>simp [novL]
 | cons x a ih=>simp only [List.cons_append,novL,ih,Bool.and_assoc]
theorem novL_arr {α:Type} {f:α→List AV} (hf:∀ a,novL (f a)=true):∀ l:List α,novL (arr f l)=true
 | []=>rfl
 | a::l=>by
  have:=novL_arr hf l
  simp only [arr,List.flatMap_cons,nov_append,hf] at this ⊢
  simpa using this
def Sl {α:Type} (f:α→List AV) (h:Heap) (v:AV) (l:List α):Prop:=
 (v = .nilsl∧l=[])∨(∃ cap,v = .vs (arr f l) l.length cap)∨(∃ b off esz cap c e,v = .sl b off l.length esz cap∧h.at b=some (.cells c e)∧cut c off (l.length*esz)=some (arr f l))
theorem topL_append {a b:List AV}:topL (a++b)=max (topL a) (topL b):=by
 induction a with
 | nil=>simp [topL]
 | cons x a ih=>simp only [List.cons_append,topL,ih];omega
theorem topL_arr {α:Type} {f:α→List AV} (hf:∀ a,topL (f a)=0):∀ l:List α,topL (arr f l)=0
 | []=>rfl
 | a::l=>by
  have:=topL_arr hf l
  simp only [arr,List.flatMap_cons,topL_append,hf] at this ⊢
  omega
theorem Sl.fr {α:Type} {f:α→List AV} (hf:∀ a,topL (f a)=0) {h:Heap} {v:AV} {l:List α} (hs:Sl f h v l):∃ S cap,Fr h S v (.vs (arr f l) l.length cap):=by
 rcases hs with ⟨rfl,rfl⟩|⟨cap,rfl⟩|⟨b,off,esz,cap,c,e,rfl,h1,h2⟩
 · exact ⟨[],none,.nil (by simp)⟩
 · exact ⟨[],cap,.same (by simp only [AV.top];exact topL_arr hf l)⟩
 · refine ⟨[b],cap,.sl (List.mem_singleton.2 rfl) h1 h2 rfl fun i x y hx hy=>?_⟩
   rw [hx] at hy;cases hy
   exact .same (by have:=topL_le (n:=0) (Nat.le_of_eq (topL_arr hf l)) i x hx;omega)
end Go.Ab

/-
  Own work: the calculus of runs: memory, drawn regions that only read, slots told true or false.
-/
namespace Go.Ab
variable {t i j n b:Nat} {l:List IOper} {pe a new:List AV} {lo:List (Nat×AV)} {hp h' h:Heap} {df wr w':List Nat} {v:AV} {Q:StW→Prop} {op:IOp} {ag:Bool} {x y:IOpd} {e:TypeId} {o:Option Blk}
variable {M:Mach}
theorem WO.pkT {c a b:IOpd} (hc:(St.mk pe lo hp df).opd c=some (.bool true)) (ha:(St.mk pe lo hp df).opd a=some v)
 (h:WO M l ⟨⟨pe,(t,v)::lo,hp,df⟩,wr⟩ Q):WO M (⟨.l t,.pick c a b,none⟩::l) ⟨⟨pe,lo,hp,df⟩,wr⟩ Q:=
 WO.op (WP.pure (v:=v) rfl (by simp only [pureA,hc,ha];cases (St.mk pe lo hp df).opd b <;> simp) h)
theorem WO.pkF {c a b:IOpd} (hc:(St.mk pe lo hp df).opd c=some (.bool false)) (hb:(St.mk pe lo hp df).opd b=some v)
 (h:WO M l ⟨⟨pe,(t,v)::lo,hp,df⟩,wr⟩ Q):WO M (⟨.l t,.pick c a b,none⟩::l) ⟨⟨pe,lo,hp,df⟩,wr⟩ Q:=
 WO.op (WP.pure (v:=v) rfl (by simp only [pureA,hc,hb];cases (St.mk pe lo hp df).opd a <;> simp) h)
theorem WO.hlv (hv:heapA ⟨pe,lo,hp,df⟩ op hp=some ⟨v,h',w'⟩) (hh:op.heapy=true) (hc:op.plainHeap=true)
 (h:WO M l ⟨⟨pe,(t,v)::lo,h',df⟩,w'++wr⟩ Q):WO M (⟨.l t,op,none⟩::l) ⟨⟨pe,lo,hp,df⟩,wr⟩ Q:=WO.op (WP.heap hh hc hv h)
theorem WO.hpv (hv:heapA ⟨pe,lo,hp,df⟩ op hp=some ⟨v,h',w'⟩) (hh:op.heapy=true) (hc:op.plainHeap=true)
 (h:WO M l ⟨⟨pe.set i v,lo,h',df⟩,w'++wr⟩ Q):WO M (⟨.p i,op,none⟩::l) ⟨⟨pe,lo,hp,df⟩,wr⟩ Q:=WO.op (WP.heap hh hc hv h)
theorem WO.hnv (hv:heapA ⟨pe,lo,hp,df⟩ op hp=some ⟨v,h',w'⟩) (hh:op.heapy=true) (hc:op.plainHeap=true)
 (h:WO M l ⟨⟨pe,lo,h',df⟩,w'++wr⟩ Q):WO M (⟨.no,op,none⟩::l) ⟨⟨pe,lo,hp,df⟩,wr⟩ Q:=WO.op (WP.heap hh hc hv h)
theorem arr_cons {α:Type} {f:α→List AV} (a:α) (l:List α):arr f (a::l)=f a++arr f l:=rfl
theorem arr_append {α:Type} {f:α→List AV} (l m:List α):arr f (l++m)=arr f l++arr f m:=by simp [arr]
section
variable {α:Type} {f:α→List AV} {esz:Nat}
theorem arr_length (hf:∀ a,(f a).length=esz):∀ l:List α,(arr f l).length=l.length*esz
 | []=>by simp [arr]
 | a::l=>by rw [arr_cons,List.length_append,hf,arr_length hf l,List.length_cons,Nat.add_mul];omega
theorem arr_drop (hf:∀ a,(f a).length=esz):∀ (l:List α) (i:Nat),(arr f l).drop (i*esz)=arr f (l.drop i)
 | [],i=>by simp [arr]
 | a::l,0=>by simp
 | a::l,i+1=>by
  rw [arr_cons,List.drop_append,show (i+1)*esz=esz+i*esz from by rw [Nat.add_mul];omega,hf,Nat.add_sub_cancel_left,arr_drop hf l i,List.drop_succ_cons,List.drop_eq_nil_of_le (by rw [hf];omega)]
  rfl
theorem arr_take (hf:∀ a,(f a).length=esz):∀ (l:List α) (i:Nat),(arr f l).take (i*esz)=arr f (l.take i)
 | [],i=>by simp [arr]
 | a::l,0=>by simp [arr]
 | a::l,i+1=>by
  rw [arr_cons,List.take_append,show (i+1)*esz=esz+i*esz from by rw [Nat.add_mul];omega,hf,Nat.add_sub_cancel_left,arr_take hf l i,List.take_succ_cons,List.take_of_length_le (by rw [hf];omega)]
  rfl
theorem arr_cut (hf:∀ a,(f a).length=esz) {l:List α} {i n:Nat} (h:i+n≤l.length):cut (arr f l) (i*esz) (n*esz)=some (arr f ((l.drop i).take n)):=by
 simp only [cut,arr_drop hf,arr_take hf,arr_length hf]
 rw [if_pos (by rw [List.length_take,List.length_drop];congr 1;omega)]
theorem arr_at [ia:Inhabited α] (hf:∀ a,(f a).length=esz) {l:List α} {i:Nat} (h:i<l.length):∃ r,(arr f l).drop (i*esz)=f l[i]! ++ r:=by
 refine ⟨arr f (l.drop (i+1)),?_⟩
 rw [arr_drop hf,List.drop_eq_getElem_cons h,arr_cons,getElem!_pos l i h]
theorem part_append {r:List AV} (h:j+n≤a.length) (hn:ag=true∨0<n):partOf (a++r) j n ag=partOf a j n ag:=by
 cases ag with
 | true => 
   simp only [partOf,if_true,cut]
   rw [List.drop_append,List.take_append_of_le_length (by simp;omega)]
 | false=>
  simp only [partOf,Bool.false_eq_true,if_false]
  have:0<n:=by simpa using hn
  rw [List.getElem?_append_left (by omega)]
theorem part_drop:partOf (a.drop j) 0 n ag=partOf a j n ag:=by
 cases ag <;> simp [partOf,cut]
theorem arr_part [ia:Inhabited α] (hf:∀ a,(f a).length=esz) {l:List α} {i j n:Nat} {ag:Bool} (h:i<l.length) (hj:j+n≤esz) (hn:0<n):partOf ((arr f l).drop (i*esz)) j n ag=partOf (f l[i]!) j n ag:=by
 obtain ⟨r,hr⟩:=arr_at hf h
 rw [hr,part_append (by rw [hf];exact hj) (.inr hn)]
theorem over_append {b r:List AV} (h:j+new.length≤b.length):overwrite (a++(b++r)) (a.length+j) new=a++(overwrite b j new++r):=by
 have h1:(a++(b++r)).take (a.length+j)=a++b.take j:=by
  rw [List.take_append,List.take_of_length_le (by omega),Nat.add_sub_cancel_left,List.take_append_of_le_length (by omega)]
 have h2:(a++(b++r)).drop (a.length+j+new.length)=b.drop (j+new.length)++r:=by
  rw [List.drop_append,List.drop_eq_nil_of_le (by omega),List.nil_append,show a.length+j+new.length-a.length=j+new.length from by omega,List.drop_append_of_le_length h]
 simp only [overwrite,h1,h2,List.append_assoc]
theorem arr_over [ia:Inhabited α] (hf:∀ a,(f a).length=esz) {l:List α} {i j:Nat} {new:List AV} {a:α} (h:i<l.length) (hj:j+new.length≤esz) (ha:overwrite (f l[i]!) j new=f a):overwrite (arr f l) (i*esz+j) new=arr f (l.set i a):=by
 have e:arr f l=arr f (l.take i)++(f l[i]! ++ arr f (l.drop (i+1))):=by
  rw [← arr_cons,← arr_append,getElem!_pos l i h,← List.drop_eq_getElem_cons h,List.take_append_drop]
 have hl:(arr f (l.take i)).length=i*esz:=by rw [arr_length hf,List.length_take];congr 1;omega
 rw [e,← hl,over_append (by rw [hf];exact hj),ha,← arr_cons,← arr_append,List.set_eq_take_append_cons_drop,if_pos h]
end
variable {α:Type} {ia:Inhabited α} {f:α→List AV} {esz:Nat}
theorem WO.lda {c:List α} (hx:(St.mk pe lo hp df).opd x=some (.vp ((arr f c).drop (i*esz))))
 (hf:∀ a,(f a).length=esz) (hi:i<c.length) (hn:0<n∧0+n≤esz) (hv:partOf (f c[i]!) 0 n ag=some v) (h:WO M l ⟨⟨pe,(t,v)::lo,hp,df⟩,wr⟩ Q):WO M (⟨.l t,.load n ag x,none⟩::l) ⟨⟨pe,lo,hp,df⟩,wr⟩ Q:=
 WO.hlv (v:=v) (h':=hp) (w':=[]) (by simp only [heapA,hx,Option.bind_some,readAt,arr_part hf hi hn.2 hn.1,hv]) rfl rfl h
theorem WO.ldf {c:List α} (hx:(St.mk pe lo hp df).opd x=some (.vp (((arr f c).drop (i*esz)).drop j)))
 (hf:∀ a,(f a).length=esz) (hi:i<c.length) (hn:0<n∧j+n≤esz) (hv:partOf (f c[i]!) j n ag=some v) (h:WO M l ⟨⟨pe,(t,v)::lo,hp,df⟩,wr⟩ Q):WO M (⟨.l t,.load n ag x,none⟩::l) ⟨⟨pe,lo,hp,df⟩,wr⟩ Q:=
 WO.hlv (v:=v) (h':=hp) (w':=[]) (by simp only [heapA,hx,Option.bind_some,readAt,part_drop,arr_part hf hi hn.2 hn.1,hv]) rfl rfl h
theorem WO.lsa {c:List α} (hx:(St.mk pe lo hp df).opd x=some (.ptr b (0+i*esz))) (hb:hp.at b=some (.cells (arr f c) e))
 (hf:∀ a,(f a).length=esz) (hi:i<c.length) (hn:0<n∧0+n≤esz) (hv:partOf (f c[i]!) 0 n ag=some v) (h:WO M l ⟨⟨pe,(t,v)::lo,hp,df⟩,wr⟩ Q):WO M (⟨.l t,.load n ag x,none⟩::l) ⟨⟨pe,lo,hp,df⟩,wr⟩ Q:=
 WO.hlv (v:=v) (h':=hp) (w':=[]) (by simp only [heapA,hx,Option.bind_some,readAt,hb,Nat.zero_add,arr_part hf hi hn.2 hn.1,hv]) rfl rfl h
theorem WO.ldx {a:AV} {c:List AV} (hx:(St.mk pe lo hp df).opd x=some a) (hb:readAt hp a=some c) (hv:partOf c 0 n ag=some v)
 (h:WO M l ⟨⟨pe,(t,v)::lo,hp,df⟩,wr⟩ Q):WO M (⟨.l t,.load n ag x,none⟩::l) ⟨⟨pe,lo,hp,df⟩,wr⟩ Q:=
 WO.hlv (v:=v) (h':=hp) (w':=[]) (by simp only [heapA,hx,Option.bind_some,hb,hv]) rfl rfl h
theorem WO.stf {c:List α} {a:α} (hx:(St.mk pe lo hp df).opd x=some (.ptr b (0+i*esz+j))) (hy:((St.mk pe lo hp df).opd y).bind AV.cells=some new) (hb:hp.at b=some (.cells (arr f c) e))
 (hf:∀ a,(f a).length=esz) (hi:i<c.length) (hn:new.length=n∧j+n≤esz∧new.all oneA=true) (ha:overwrite (f c[i]!) j new=f a) (h:WO M l ⟨⟨pe,lo,hp.put b (some (.cells (arr f (c.set i a)) e)),df⟩,b::wr⟩ Q):WO M (⟨.no,.store n x y,none⟩::l) ⟨⟨pe,lo,hp,df⟩,wr⟩ Q:=by
 obtain ⟨h1,h2,h3⟩:=hn
 have hle:i*esz+esz≤c.length*esz:=by rw [← Nat.succ_mul];exact Nat.mul_le_mul_right _ hi
 refine WO.hnv (v:=undefA) (h':=hp.put b (some (.cells (arr f (c.set i a)) e))) (w':=[b]) ?_ rfl rfl h
 simp only [heapA,hx,hy,hb,Nat.zero_add]
 rw [if_pos ⟨h1,by rw [arr_length hf];omega,h3⟩,arr_over hf hi (by omega) ha]
theorem WO.sta {c:List α} {a:α} (hx:(St.mk pe lo hp df).opd x=some (.ptr b (0+i*esz))) (hy:((St.mk pe lo hp df).opd y).bind AV.cells=some new) (hb:hp.at b=some (.cells (arr f c) e))
 (hf:∀ a,(f a).length=esz) (hi:i<c.length) (hn:new.length=n∧0+n≤esz∧new.all oneA=true) (ha:overwrite (f c[i]!) 0 new=f a) (h:WO M l ⟨⟨pe,lo,hp.put b (some (.cells (arr f (c.set i a)) e)),df⟩,b::wr⟩ Q):WO M (⟨.no,.store n x y,none⟩::l) ⟨⟨pe,lo,hp,df⟩,wr⟩ Q:=
 WO.stf (j:=0) hx hy hb hf hi hn ha h
theorem at_lt {o:Blk} (hb:h.at b=some o):b<h.length:=by
 unfold Heap.at at hb
 cases hz:h[b]? with
 | none=>rw [hz] at hb;cases hb
 | some z=>exact (List.getElem?_eq_some_iff.1 hz).1
theorem at_new {x:Option Blk}:Heap.at (h++[x]) h.length=x:=by simp [Heap.at]
theorem at_old {l:Heap} {o:Blk} (hb:h.at b=some o):Heap.at (h++l) b=some o:=by
 have:=at_lt hb
 simp only [Heap.at] at hb ⊢
 rw [List.getElem?_append_left this];exact hb
theorem at_put (hb:b<h.length):Heap.at (h.put b o) b=o:=by
 simp [Heap.at,Heap.put,hb]
theorem at_else {a:Nat} {x:Blk} (hn:a≠b) (ha:h.at a=some x):Heap.at (h.put b o) a=some x:=by
 have:¬ b=a:=fun e=>hn e.symm
 simp only [Heap.at,Heap.put,List.getElem?_set,if_neg this] at ha ⊢;exact ha
theorem put_length:(h.put b o).length=h.length:=by simp [Heap.put]
theorem WO.apn {esz0 bytes:Nat} {elem:TypeId} {b:AV} (hx:(St.mk pe lo hp df).opd x=some .nilsl) (hy:(St.mk pe lo hp df).opd y=some b) (hs:sliceCells hp b=some (new,n))
 (hc:new.length=n*esz0∧0<bytes∧new.all oneA=true) (hn:0<n∧n*bytes≤roomLimit) (h:WO M l ⟨⟨pe,(t,.sl hp.length 0 n esz0 none)::lo,hp++[some (.cells new elem)],df⟩,wr⟩ Q):WO M (⟨.l t,.append elem esz0 bytes x y,none⟩::l) ⟨⟨pe,lo,hp,df⟩,wr⟩ Q:=by
 refine WO.hlv (v:=.sl hp.length 0 n esz0 none) (h':=hp++[some (.cells new elem)]) (w':=[]) ?_ rfl rfl h
 simp only [heapA,hx,hy,appendA,hs,if_pos hc]
 rw [if_neg (by omega),if_pos hn.2]
theorem WO.apo {esz0 bytes c off len:Nat} {elem:TypeId} {b:AV} {old:List AV} (hx:(St.mk pe lo hp df).opd x=some (.sl c off len esz0 none)) (hy:(St.mk pe lo hp df).opd y=some b) (hs:sliceCells hp b=some (new,n))
 (hc:new.length=n*esz0∧0<bytes∧new.all oneA=true) (hn:0<n∧(len+n)*bytes≤roomLimit) (hb:hp.at c=some (.cells old elem)) (ho:old.length=off+len*esz0)
 (h:WO M l ⟨⟨pe,(t,.sl hp.length 0 (len+n) esz0 none)::lo,hp.put c none++[some (.cells (old.drop off++new) elem)],df⟩,c::wr⟩ Q):WO M (⟨.l t,.append elem esz0 bytes x y,none⟩::l) ⟨⟨pe,lo,hp,df⟩,wr⟩ Q:=by
 refine WO.hlv (v:=.sl hp.length 0 (len+n) esz0 none) (h':=hp.put c none++[some (.cells (old.drop off++new) elem)]) (w':=[c]) ?_ rfl rfl h
 simp only [heapA,hx,hy,appendA,hs,if_pos hc,hb]
 rw [if_neg (by omega),if_pos ⟨trivial,hn.2⟩,if_pos ⟨ho,trivial⟩]
def IOp.ro:IOp→Bool
 | .load .. => true
 | op=>!op.heapy
def Done.clean (d:Done):Prop:=d.wr=[]∧d.hi=d.lo
theorem keep_at' {T:List Nat}:Heap.at (keep T h 0) b=if T.contains b then h.at b else none:=by
 unfold Heap.at
 rw [keep_get]
 cases h[b]? <;> simp
theorem merge_keep' {T:List Nat}:mergeW [] h (keep T h 0) 0=h:=by
 apply List.ext_getElem?
 intro b
 rw [mergeW_get _ _ _ _ _ (by rw [keep_length];exact Nat.le_refl _)]
 split
 · simp
 · rename_i hb
   rw [List.getElem?_eq_none (by rw [keep_length];omega),List.getElem?_eq_none (by omega)]
def blkOf:Option AV→List Nat
 | some (.ptr b _)=>[b]
 | some (.sl b _ _ _ _)=>[b]
 | some (.map b)=>[b]
 | _=>[]
theorem touch_load {s:St}:touchA s (.load n ag x)=some (blkOf (s.opd x)):=by
 simp only [touchA]
 cases s.opd x with
 | none=>rfl
 | some a=>cases a <;> rfl
theorem read_keep {a:AV}:readAt (keep (blkOf (some a)) h 0) a=readAt h a:=by
 cases a <;> first|rfl|skip
 simp [readAt,blkOf,keep_at']
theorem load_opA {call:CallF} {inv:InvF} {s:St} {a:AV} (ha:s.opd x=some a) (hp':Heap):opA call inv { s with hp:=hp' } (.load n ag x)=(readAt hp' a).bind fun l=>(partOf l 0 n ag).map fun v=>⟨v,hp',[]⟩:=by
 have hx':St.opd { s with hp:=hp' } x=some a:=by rw [← ha];cases x <;> rfl
 simp only [opA,IOp.heapy,if_true,heapA,hx',Option.bind_some]
 cases readAt hp' a with
 | none=>rfl
 | some l=>simp only [Option.bind_some];cases partOf l 0 n ag <;> rfl
theorem draw_ro {call:CallF} {inv:InvF}:∀ (l:List (IOper×List Nat)) (s:StW) (ds:List Done),l.all (fun p=>p.1.op.ro)=true→(∀ d∈ds,d.clean)→drawA call inv l s ds=opersA call inv (l.map (·.1)) s
 | [],s,ds,_,_=>rfl
 | (o,un)::l,s,ds,hl,hd=>by
  simp only [List.all_cons,Bool.and_eq_true] at hl
  obtain ⟨ho,hl⟩:=hl
  have hcl:∀ t,(∀ d∈ds++[(⟨t,[],s.s.hp.length,s.s.hp.length⟩:Done)],d.clean):=fun t d hm=>by
   rcases List.mem_append.1 hm with h1|h1
   · exact hd d h1
   · simp only [List.mem_singleton] at h1;subst h1;exact ⟨rfl,rfl⟩
  simp only [drawA,List.map_cons,opersA]
  split
  · by_cases hh:o.op.heapy=true
    · have hop:∃ n ag x,o.op = .load n ag x:=by
       cases hq:o.op <;> rw [hq] at ho hh <;> first|(cases hh;done)|(cases ho;done)|exact ⟨_,_,_,rfl⟩
      obtain ⟨n,ag,x,hop⟩:=hop
      have hU:un.flatMap (fun j=>(ds[j]?).elim [] Done.own)=[]:=by
       rw [List.flatMap_eq_nil_iff]
       intro j _
       cases hj:ds[j]? with
       | none=>rfl
       | some d=>
        obtain ⟨c1,c2⟩:=hd d (List.mem_of_getElem? hj)
        simp [Done.own,c1,c2]
      simp only [hop,IOp.heapy,if_true,touch_load,hU]
      have hdis:∀ T,disj T []=true:=fun T=>by simp [disj]
      simp only [hdis,if_true]
      cases ha:s.s.opd x with
      | none=>
       have e1:∀ hp',opA call inv { s.s with hp:=hp' } (.load n ag x)=none:=fun hp'=>by
        have hx':St.opd { s.s with hp:=hp' } x=none:=by rw [← ha];cases x <;> rfl
        simp only [opA,IOp.heapy,if_true,heapA,hx',Option.bind_none]
       rw [e1,show opA call inv s.s (.load n ag x)=none from e1 s.s.hp]
      | some a=>
       have e2:=load_opA (call:=call) (inv:=inv) (n:=n) (ag:=ag) ha s.s.hp
       rw [load_opA ha,read_keep,show opA call inv s.s (.load n ag x)=_ from e2]
       cases readAt s.s.hp a with
       | none=>rfl
       | some c=>
        simp only [Option.bind_some]
        cases partOf c 0 n ag with
        | none=>rfl
        | some v=>
         simp only [Option.map_some,List.all_nil,List.isEmpty_nil,Bool.true_or,Bool.and_true,if_true,merge_keep',List.nil_append]
         have:=draw_ro (call:=call) (inv:=inv) l ⟨{ s.s.put o.dst v with hp:=s.s.hp },s.wr⟩ (ds++[⟨some (blkOf (some a)),[],s.s.hp.length,s.s.hp.length⟩]) hl (hcl _)
         rw [← this]
         simp [keep_length]
    · have hh':o.op.heapy=false:=by simpa using hh
      rw [if_neg hh]
      have e2:opA call inv s.s o.op=(pureA s.s o.op).map fun v=>⟨v,s.s.hp,[]⟩:=by
       cases hq:o.op <;> rw [hq] at hh' <;> first|(cases hh';done)|simp only [opA,IOp.heapy,Bool.false_eq_true,if_false]
      rw [e2]
      cases pureA s.s o.op with
      | none=>rfl
      | some v=>
       simp only [Option.map_some,List.nil_append]
       have hput:({ s.s.put o.dst v with hp:=s.s.hp }:St)=s.s.put o.dst v:=by cases o.dst <;> rfl
       rw [hput]
       exact draw_ro l _ _ hl (hcl _)
  · exact draw_ro l _ _ hl (hcl _)
  · rfl
theorem W.drawro {l:List (IOper×List Nat)} {Q:Ex→StW→Prop} (hl:l.all (fun p=>p.1.op.ro)=true) (h:WO M (l.map (·.1)) ⟨⟨pe,[],hp,df⟩,wr⟩ (Q .normal)):W M (.draw l) ⟨⟨pe,lo,hp,df⟩,wr⟩ Q:=by
 obtain ⟨⟨n,s',h1,h2⟩⟩:=h
 exact W.draw ⟨⟨n,s',by rw [draw_ro l _ _ hl (by simp)];exact h1,h2⟩⟩
end Go.Ab

/-
  Own work: the calculus of runs: drawn regions, one operation at a time.
-/
namespace Go.Ab
variable {x y:IOpd} {Q:StW→Prop} {s:StW} {ds:List Done} {l:List (IOper×List Nat)} {un T:List Nat} {b n:Nat} {d:Dst}
variable {M:Mach}
theorem WO.remp {t:Nat} {l:List IOper} {pe:List AV} {lo:List (Nat×AV)} {hp:Heap} {df wr:List Nat} {k:IntKind} {a b:Int} (hx:(St.mk pe lo hp df).opd x=some (.int k a)) (hy:(St.mk pe lo hp df).opd y=some (.int k b))
 (ha:0≤a∧0<b) (h:0≤a%b→a%b<b→WO M l ⟨⟨pe,(t,.int k (a%b))::lo,hp,df⟩,wr⟩ Q):WO M (⟨.l t,.bin .rem x y,none⟩::l) ⟨⟨pe,lo,hp,df⟩,wr⟩ Q:=by
 refine WO.rem hx hy (by omega) ?_
 rw [Int.tmod_eq_emod_of_nonneg ha.1]
 exact h (Int.emod_nonneg _ (by omega)) (Int.emod_lt_of_pos _ ha.2)
theorem WO.cll {t:Nat} {f:IOpd} {args:List IOpd} {l:List IOper} {pe:List AV} {lo:List (Nat×AV)} {hp h':Heap} {df wr wr':List Nat} {g:FuncId} {fi ca as:List AV} {v:AV} (hf:(St.mk pe lo hp df).opd f=some (.fn (.func g) fi ca)) (ha:(St.mk pe lo hp df).opds args=some as)
 (he:M.ext g (fi++as++ca) hp=some ⟨v,h',wr'⟩) (h:WO M l ⟨⟨pe,(t,v)::lo,h',df⟩,wr'++wr⟩ Q):WO M (⟨.l t,.call f args,none⟩::l) ⟨⟨pe,lo,hp,df⟩,wr⟩ Q:=WO.callx hf ha he h
theorem WD.nil (h:Q s):WD M [] s ds Q:=⟨⟨0,s,rfl,h⟩⟩
def Done.key (d:Done):Option (List Nat)×List Nat:=(d.touch,d.own)
theorem all_ext {α:Type} {l:List α} {f g:α→Bool} (h:∀ x,f x=g x):l.all f=l.all g:=by rw [show f=g from funext h]
theorem draw_congr {call:CallF} {inv:InvF}:∀ (l:List (IOper×List Nat)) (s:StW) (ds ds':List Done),ds.map Done.key=ds'.map Done.key→drawA call inv l s ds=drawA call inv l s ds'
 | [],_,_,_,_=>rfl
 | (o,un)::l,s,ds,ds',hk=>by
  have h1:∀ j:Nat,(ds[j]?).elim [] Done.own=(ds'[j]?).elim [] Done.own:=fun j=>by
   have:=congrArg (fun x:List (Option (List Nat)×List Nat)=>x[j]?) hk
   simp only [List.getElem?_map] at this
   cases h3:ds[j]? <;> cases h4:ds'[j]? <;> rw [h3,h4] at this <;> simp [Done.key] at this ⊢
   exact this.2
  have h2:∀ j:Nat,(ds[j]?).map Done.touch=(ds'[j]?).map Done.touch:=fun j=>by
   have:=congrArg (fun x:List (Option (List Nat)×List Nat)=>x[j]?) hk
   simp only [List.getElem?_map] at this
   cases h3:ds[j]? <;> cases h4:ds'[j]? <;> rw [h3,h4] at this <;> simp [Done.key] at this ⊢
   exact this.1
  have h7:(fun j:Nat=>(ds[j]?).elim [] Done.own)=(fun j:Nat=>(ds'[j]?).elim [] Done.own):=funext h1
  have h8:∀ d s,drawA call inv l s (ds++[d])=drawA call inv l s (ds'++[d]):=fun d s=>draw_congr l s _ _ (by simp [hk])
  unfold drawA
  simp only [h7,h8]
  cases wantedA s.s o.guard with
  | none=>rfl
  | some t=>
   cases t with
   | false=>rfl
   | true=>
    refine ite_congr rfl (fun _=>ite_congr rfl (fun _=>?_) (fun _=>rfl)) (fun _=>rfl)
    split
    · refine ite_congr (congrArg (fun b=>b=true) (congrArg (fun b=>_ && b) (congrArg (fun b=>_ || b) (all_ext ?_)))) (fun _=>rfl) (fun _=>rfl)
      intro j
      have:=h2 j
      cases h3:ds[j]? <;> cases h4:ds'[j]? <;> rw [h3,h4] at this <;> simp at this ⊢
      rw [this]
    · rfl
theorem WD.norm {d d':Done} (hk:d.key=d'.key) (h:WD M l s (ds++[d]) Q):WD M l s (ds++[d']) Q:=by
 obtain ⟨⟨n,s',h1,h2⟩⟩:=h
 exact ⟨⟨n,s',by rw [draw_congr l s (ds++[d']) (ds++[d]) (by simp [hk])];exact h1,h2⟩⟩
theorem WD.pure0 {o:IOper} (hh:o.op.heapy=false) (h:WO M [o] s fun s'=>WD M l s' (ds++[⟨some [],[],s.s.hp.length,s.s.hp.length⟩]) Q):WD M ((o,un)::l) s ds Q:=by
 obtain ⟨⟨n,s1,h1,⟨⟨m,s',h2,h3⟩⟩⟩⟩:=h
 refine ⟨⟨max n m,s',?_,h3⟩⟩
 have h1':=opersA_le (inv:=M.inv) (call_up (Nat.le_max_left n m)) _ _ _ h1
 have h2':=drawA_le (inv:=M.inv) (call_up (Nat.le_max_right n m)) _ _ _ _ h2
 simp only [opersA] at h1'
 have e2:opA (M.call (max n m)) M.inv s.s o.op=(pureA s.s o.op).map fun v=>⟨v,s.s.hp,[]⟩:=by
  cases hq:o.op <;> rw [hq] at hh <;> first|(cases hh;done)|simp only [opA,IOp.heapy,Bool.false_eq_true,if_false]
 rw [e2] at h1'
 cases hw:wantedA s.s o.guard with
 | none=>rw [hw] at h1';cases h1'
 | some t=>
  rw [hw] at h1'
  cases t with
  | true=>
   simp only [drawA,hw,hh,Bool.false_eq_true,if_false]
   cases hp:pureA s.s o.op with
   | none=>rw [hp] at h1';cases h1'
   | some v=>
    rw [hp] at h1'
    simp only [Option.map_some,List.nil_append,Option.some.injEq] at h1'
    have hput:({ s.s.put o.dst v with hp:=s.s.hp }:St)=s.s.put o.dst v:=by cases o.dst <;> rfl
    rw [hput] at h1'
    subst h1'
    exact h2'
  | false=>
   simp only [Option.some.injEq] at h1'
   simp only [drawA,hw]
   subst h1'
   exact h2'
theorem merge_keep_put' {h:Heap} {o:Option Blk}:mergeW [b] h (Heap.put (keep T h 0) b o) 0=Heap.put h b o:=by
 apply List.ext_getElem?
 intro c
 rw [mergeW_get _ _ _ _ _ (by simp [Heap.put,keep_length])]
 simp only [Heap.put,List.getElem?_set,keep_length,keep_get]
 by_cases hc:c<h.length
 · rw [if_pos hc]
   by_cases e:b=c
   · subst e;simp [hc]
   · have:c≠b:=fun x=>e x.symm
     simp [e,this]
 · rw [if_neg hc,List.getElem?_eq_none (Nat.le_of_not_lt hc)]
   by_cases e:b=c
   · subst e;simp [hc]
   · simp [e]
theorem WD.load0 {ag:Bool} {a:AV} (ha:s.s.opd x=some a) (hT:blkOf (some a)=T) (hd:disj T (un.flatMap fun j=>(ds[j]?).elim [] Done.own)=true)
 (h:WO M [⟨d,.load n ag x,none⟩] s fun s'=>WD M l s' (ds++[⟨some T,[],s.s.hp.length,s.s.hp.length⟩]) Q):WD M ((⟨d,.load n ag x,none⟩,un)::l) s ds Q:=by
 obtain ⟨⟨k,s1,h1,⟨⟨m,s',h2,h3⟩⟩⟩⟩:=h
 refine ⟨⟨max k m,s',?_,h3⟩⟩
 have h1':=opersA_le (inv:=M.inv) (call_up (Nat.le_max_left k m)) _ _ _ h1
 have h2':=drawA_le (inv:=M.inv) (call_up (Nat.le_max_right k m)) _ _ _ _ h2
 simp only [opersA,wantedA] at h1'
 subst hT
 simp only [drawA,wantedA,IOp.heapy,if_true,touch_load,ha,hd]
 rw [load_opA ha,read_keep]
 rw [show opA (M.call (max k m)) M.inv s.s (.load n ag x)=_ from load_opA ha s.s.hp] at h1'
 cases hr:readAt s.s.hp a with
 | none=>rw [hr] at h1';cases h1'
 | some c=>
  rw [hr] at h1'
  simp only [Option.bind_some] at h1' ⊢
  cases hp:partOf c 0 n ag with
  | none=>rw [hp] at h1';cases h1'
  | some v=>
   rw [hp] at h1'
   simp only [Option.map_some,List.nil_append,Option.some.injEq] at h1'
   simp only [Option.map_some,List.all_nil,List.isEmpty_nil,Bool.true_or,Bool.and_true,if_true,merge_keep',List.nil_append,keep_length]
   subst h1'
   exact h2'
theorem WD.store0 {off:Nat} (ha:s.s.opd x=some (.ptr b off)) (hd:disj [b] (un.flatMap fun j=>(ds[j]?).elim [] Done.own)=true)
 (hu:un.all (fun j=>match ds[j]? with|some d=>(match d.touch with|some T=>disj [b] T|none=>false)|none=>false)=true)
 (h:WO M [⟨.no,.store n x y,none⟩] s fun s'=>WD M l s' (ds++[⟨some [b],[b],s.s.hp.length,s.s.hp.length⟩]) Q):WD M ((⟨.no,.store n x y,none⟩,un)::l) s ds Q:=by
 obtain ⟨⟨k,s1,h1,⟨⟨m,s',h2,h3⟩⟩⟩⟩:=h
 refine ⟨⟨max k m,s',?_,h3⟩⟩
 have h1':=opersA_le (inv:=M.inv) (call_up (Nat.le_max_left k m)) _ _ _ h1
 have h2':=drawA_le (inv:=M.inv) (call_up (Nat.le_max_right k m)) _ _ _ _ h2
 simp only [opersA,wantedA,opA,IOp.heapy,if_true,heapA,ha] at h1'
 have hx':∀ hp',St.opd { s.s with hp:=hp' } x=some (.ptr b off):=fun hp'=>by rw [← ha];cases x <;> rfl
 have hy':∀ hp',St.opd { s.s with hp:=hp' } y=s.s.opd y:=fun hp'=>by cases y <;> rfl
 have hk:Heap.at (keep [b] s.s.hp 0) b=s.s.hp.at b:=by simp [keep_at']
 simp only [drawA,wantedA,IOp.heapy,if_true,touchA,ha,hd,opA,heapA,hx',hy']
 cases hy:s.s.opd y with
 | none=>rw [hy] at h1';cases h1'
 | some yv=>
  rw [hy] at h1'
  simp only [Option.bind_some] at h1' ⊢
  cases hc:yv.cells with
  | none=>rw [hc] at h1';cases h1'
  | some new=>
   rw [hc] at h1'
   simp only at h1' ⊢
   cases hb:s.s.hp.at b with
   | none=>rw [hb] at h1';cases h1'
   | some o=>
    rw [hb] at h1'
    cases o with
    | cells c e=>
     simp only at h1' ⊢
     by_cases hcond:new.length=n∧off+n≤c.length∧new.all oneA=true
     · simp only [if_pos hcond,Option.some.injEq] at h1'
       simp only [if_pos hcond,List.all_cons,List.all_nil,Bool.and_true,List.isEmpty_cons,Bool.false_or,hk,hb,Option.isSome_some,merge_keep_put',put_length,keep_length]
       subst h1'
       rw [if_pos (show _=true by rw [Bool.true_and];exact hu)]
       exact h2'
     · simp only [if_neg hcond] at h1'
       cases h1'
    | map _=>cases h1'
    | iter _ _=>cases h1'
    | dfr=>cases h1'
    | hole=>cases h1'
    | loop _ _ _ _ _ _=>cases h1'
theorem WD.call1 {f:IOpd} {args:List IOpd} {g:FuncId} {fi ca as:List AV} {v:AV} {hn:Heap} (hf:s.s.opd f=some (.fn (.func g) fi ca)) (ha:s.s.opds args=some as)
 (hU:(un.flatMap fun j=>(ds[j]?).elim [] Done.own)=[]) (he:M.ext g (fi++as++ca) s.s.hp=some ⟨v,s.s.hp++hn,[]⟩)
 (h:WD M l ⟨{ s.s.put d v with hp:=s.s.hp++hn },s.wr⟩ (ds++[⟨none,[],s.s.hp.length,s.s.hp.length+hn.length⟩]) Q):WD M ((⟨d,.call f args,none⟩,un)::l) s ds Q:=by
 obtain ⟨⟨m,s',h2,h3⟩⟩:=h
 refine ⟨⟨m,s',?_,h3⟩⟩
 have hm:mask s.s.hp []=s.s.hp:=rfl
 have hcall:opA (M.call m) M.inv { s.s with hp:=s.s.hp } (.call f args)=some ⟨v,s.s.hp++hn,[]⟩:=by
  simp only [opA,hf,ha,callWith,he]
 have hmerge:mergeW [] s.s.hp (s.s.hp++hn) 0=s.s.hp++hn:=by
  apply List.ext_getElem?
  intro c
  rw [mergeW_get _ _ _ _ _ (by simp)]
  split
  · rename_i hc;simp [List.getElem?_append_left hc]
  · rfl
 simp only [drawA,wantedA,IOp.heapy,if_true,touchA,hU,hm]
 rw [hcall]
 simp only [List.all_nil,List.isEmpty_nil,Bool.true_or,Bool.and_true,if_true,hmerge,List.nil_append,List.length_append]
 exact h2
theorem done_key {t:Option (List Nat)} {w:List Nat}:Done.key ⟨t,w,n,n⟩=Done.key ⟨t,w,0,0⟩:=by simp [Done.key,Done.own]
theorem WD.pure1 {o:IOper} (hh:o.op.heapy=false) (h:WO M [o] s fun s'=>WD M l s' (ds++[⟨some [],[],0,0⟩]) Q):WD M ((o,un)::l) s ds Q:=
 WD.pure0 hh (h.mono fun _ h=>h.norm done_key.symm)
theorem WD.load1 {ag:Bool} {a:AV} (ha:s.s.opd x=some a) (hT:blkOf (some a)=T) (hd:disj T (un.flatMap fun j=>(ds[j]?).elim [] Done.own)=true)
 (h:WO M [⟨d,.load n ag x,none⟩] s fun s'=>WD M l s' (ds++[⟨some T,[],0,0⟩]) Q):WD M ((⟨d,.load n ag x,none⟩,un)::l) s ds Q:=
 WD.load0 ha hT hd (h.mono fun _ h=>h.norm done_key.symm)
theorem WD.store1 {off:Nat} (ha:s.s.opd x=some (.ptr b off)) (hd:disj [b] (un.flatMap fun j=>(ds[j]?).elim [] Done.own)=true)
 (hu:un.all (fun j=>match ds[j]? with|some d=>(match d.touch with|some T=>disj [b] T|none=>false)|none=>false)=true)
 (h:WO M [⟨.no,.store n x y,none⟩] s fun s'=>WD M l s' (ds++[⟨some [b],[b],0,0⟩]) Q):WD M ((⟨.no,.store n x y,none⟩,un)::l) s ds Q:=
 WD.store0 ha hd hu (h.mono fun _ h=>h.norm done_key.symm)
end Go.Ab

/-
  Own work: the calculus of runs: maps, new blocks in drawn regions, slices as arguments of contracts.
-/
namespace Go.Ab
variable {t:Nat} {op:IOp} {x:IOpd} {want:Bool} {pe:List AV} {lo:List (Nat×AV)} {hp h:Heap} {df wr un:List Nat} {Q:StW→Prop} {d:Dst} {l:List (IOper×List Nat)} {s:StW} {ds:List Done} {v:AV}
variable {M:Mach}
theorem WO.sU {l:List IOper} (hx:(St.mk pe lo hp df).opd x=some (.tup [])) (h:WO M l ⟨⟨pe,(t,undefA)::lo,hp,df⟩,wr⟩ Q):WO M (⟨.l t,op,some (x,want)⟩::l) ⟨⟨pe,lo,hp,df⟩,wr⟩ Q:=WO.skipT hx h
theorem WO.neg {l:List IOper} {a:Int} (hx:(St.mk pe lo hp df).opd x=some (.int .i64 a))
 (hr : -9223372036854775808<a∧a≤9223372036854775808) (h:WO M l ⟨⟨pe,(t,.int .i64 (-a))::lo,hp,df⟩,wr⟩ Q):WO M (⟨.l t,.un .neg x,none⟩::l) ⟨⟨pe,lo,hp,df⟩,wr⟩ Q:=
 WO.op (WP.pure (v:=.int .i64 (-a)) rfl (by
  have:IntKind.i64.wrap (0-a) = -a:=by rw [show 0-a = -a from by omega];exact i64_wrap (by omega)
  simp [pureA,hx,unA] at this ⊢;exact this) h)
theorem WD.call0 {f:IOpd} {args:List IOpd} {g:FuncId} {fi ca as:List AV} (hf:s.s.opd f=some (.fn (.func g) fi ca)) (ha:s.s.opds args=some as)
 (hU:(un.flatMap fun j=>(ds[j]?).elim [] Done.own)=[]) (he:M.ext g (fi++as++ca) s.s.hp=some ⟨v,s.s.hp,[]⟩)
 (h:WD M l ⟨s.s.put d v,s.wr⟩ (ds++[⟨none,[],0,0⟩]) Q):WD M ((⟨d,.call f args,none⟩,un)::l) s ds Q:=by
 have hp:({ s.s.put d v with hp:=s.s.hp++[] }:St)=s.s.put d v:=by cases d <;> simp [St.put]
 refine WD.call1 (hn:=[]) hf ha hU (by simpa using he) ?_
 rw [hp]
 exact h.norm (by simp [Done.key,Done.own])
theorem WD.cl0 {f:IOpd} {args:List IOpd} {g:FuncId} {fi ca as:List AV} (hf:(St.mk pe lo hp df).opd f=some (.fn (.func g) fi ca)) (ha:(St.mk pe lo hp df).opds args=some as)
 (hU:(un.flatMap fun j=>(ds[j]?).elim [] Done.own)=[]) (he:M.ext g (fi++as++ca) hp=some ⟨v,hp,[]⟩)
 (h:WD M l ⟨⟨pe,(t,v)::lo,hp,df⟩,wr⟩ (ds++[⟨none,[],0,0⟩]) Q):WD M ((⟨.l t,.call f args,none⟩,un)::l) ⟨⟨pe,lo,hp,df⟩,wr⟩ ds Q:=WD.call0 hf ha hU he h
theorem WD.take {t:Bool} (hx:s.s.opd x=some (.bool t)) (ht:(t == want)=true) (h:WD M ((⟨d,op,none⟩,un)::l) s ds Q):WD M ((⟨d,op,some (x,want)⟩,un)::l) s ds Q:=by
 obtain ⟨⟨n,s',h1,h2⟩⟩:=h
 refine ⟨⟨n,s',?_,h2⟩⟩
 simp only [drawA,wantedA,hx,ht] at h1 ⊢
 exact h1
theorem WD.skip (hx:s.s.opd x=some v) (ht:v = .bool !want∨v = .tup []) (h:WD M l ⟨s.s.put d undefA,s.wr⟩ (ds++[⟨some [],[],0,0⟩]) Q):WD M ((⟨d,op,some (x,want)⟩,un)::l) s ds Q:=by
 obtain ⟨⟨n,s',h1,h2⟩⟩:=h.norm (d':=⟨some [],[],s.s.hp.length,s.s.hp.length⟩) done_key.symm
 refine ⟨⟨n,s',?_,h2⟩⟩
 have hw:wantedA s.s (some (x,want))=some false:=by
  rcases ht with rfl|rfl
  · simp only [wantedA,hx];cases want <;> rfl
  · simp only [wantedA,hx]
 simp only [drawA,hw]
 exact h1
theorem WD.gT (hx:s.s.opd x=some (.bool true)) (h:WD M ((⟨d,op,none⟩,un)::l) s ds Q):WD M ((⟨d,op,some (x,true)⟩,un)::l) s ds Q:=WD.take hx rfl h
theorem WD.gF (hx:s.s.opd x=some (.bool false)) (h:WD M ((⟨d,op,none⟩,un)::l) s ds Q):WD M ((⟨d,op,some (x,false)⟩,un)::l) s ds Q:=WD.take hx rfl h
theorem WD.sT (hx:(St.mk pe lo hp df).opd x=some (.bool false)) (h:WD M l ⟨⟨pe,(t,undefA)::lo,hp,df⟩,wr⟩ (ds++[⟨some [],[],0,0⟩]) Q):WD M ((⟨.l t,op,some (x,true)⟩,un)::l) ⟨⟨pe,lo,hp,df⟩,wr⟩ ds Q:=WD.skip hx (.inl rfl) h
theorem WD.sF (hx:(St.mk pe lo hp df).opd x=some (.bool true)) (h:WD M l ⟨⟨pe,(t,undefA)::lo,hp,df⟩,wr⟩ (ds++[⟨some [],[],0,0⟩]) Q):WD M ((⟨.l t,op,some (x,false)⟩,un)::l) ⟨⟨pe,lo,hp,df⟩,wr⟩ ds Q:=WD.skip hx (.inl rfl) h
theorem WD.sU (hx:(St.mk pe lo hp df).opd x=some (.tup [])) (h:WD M l ⟨⟨pe,(t,undefA)::lo,hp,df⟩,wr⟩ (ds++[⟨some [],[],0,0⟩]) Q):WD M ((⟨.l t,op,some (x,want)⟩,un)::l) ⟨⟨pe,lo,hp,df⟩,wr⟩ ds Q:=WD.skip hx (.inr rfl) h
def IOp.newOp:IOp→Bool
 | .alloc .. | .box .. | .bslice .. | .mkslice .. | .mkmap=>true
 | _=>false
theorem opd_hp {s:St} {hp':Heap} (x:IOpd):St.opd { s with hp:=hp' } x=s.opd x:=by cases x <;> rfl
theorem parts_hp {s:St} {hp':Heap}:∀ (ps:List (Nat×Nat×IOpd)),St.parts { s with hp:=hp' } ps=s.parts ps
 | []=>rfl
 | (o,n,x)::r=>by simp only [St.parts,opd_hp,parts_hp r]
theorem new_opA {call:CallF} {inv:InvF} {s:St} (hn:op.newOp=true) {r:HR} (hq:opA call inv s op=some r):∃ o,r.h=s.hp++[o]∧r.wr=[]∧∀ hp':Heap,hp'.length=s.hp.length→opA call inv { s with hp:=hp' } op=some ⟨r.v,hp'++[o],[]⟩:=by
 cases op <;> first|(cases hn;done)|skip
 case alloc e z=>
  simp only [opA,IOp.heapy,if_true,heapA] at hq
  cases hq
  exact ⟨_,rfl,rfl,fun hp' hl=>by simp only [opA,IOp.heapy,if_true,heapA,hl]⟩
 case box e n x=>
  simp only [opA,IOp.heapy,if_true,heapA] at hq
  split at hq
  · rename_i c hc
    split at hq
    · rename_i hlen
      cases hq
      exact ⟨_,rfl,rfl,fun hp' hl=>by simp only [opA,IOp.heapy,if_true,heapA,opd_hp,hc,hl,if_pos hlen]⟩
    · cases hq
  · cases hq
 case bslice e len esz z ps=>
  simp only [opA,IOp.heapy,if_true,heapA] at hq
  split at hq
  · rename_i vs hvs
    split at hq
    · rename_i c hc
      split at hq
      · rename_i hlen
        cases hq
        exact ⟨_,rfl,rfl,fun hp' hl=>by simp only [opA,IOp.heapy,if_true,heapA,parts_hp,hvs,hc,hl,if_pos hlen]⟩
      · cases hq
    · cases hq
  · cases hq
 case mkmap=>
  simp only [opA,IOp.heapy,if_true,heapA] at hq
  cases hq
  exact ⟨_,rfl,rfl,fun hp' hl=>by simp only [opA,IOp.heapy,if_true,heapA,hl]⟩
 case mkslice e esz by' z a b=>
  simp only [opA,IOp.heapy,if_true,heapA] at hq
  split at hq
  · rename_i x y hx hy
    split at hq
    · rename_i hc
      cases hq
      exact ⟨_,rfl,rfl,fun hp' hl=>by simp only [opA,IOp.heapy,if_true,heapA,opd_hp,hx,hy,hl,if_pos hc]⟩
    · cases hq
  · cases hq
theorem WD.new1 (hn:op.newOp=true) (h:WO M [⟨d,op,none⟩] s fun s'=>WD M l s' (ds++[⟨some [],[],s.s.hp.length,s.s.hp.length+1⟩]) Q):WD M ((⟨d,op,none⟩,un)::l) s ds Q:=by
 obtain ⟨⟨k,s1,h1,⟨⟨m,s',h2,h3⟩⟩⟩⟩:=h
 refine ⟨⟨max k m,s',?_,h3⟩⟩
 have h1':=opersA_le (inv:=M.inv) (call_up (Nat.le_max_left k m)) _ _ _ h1
 have h2':=drawA_le (inv:=M.inv) (call_up (Nat.le_max_right k m)) _ _ _ _ h2
 simp only [opersA,wantedA] at h1'
 have ht:touchA s.s op=some []:=by cases op <;> first|(cases hn;done)|rfl
 have hh:op.heapy=true:=by cases op <;> first|(cases hn;done)|rfl
 have hd:∀ U,disj [] U=true:=fun U=>rfl
 cases hq:opA (M.call (max k m)) M.inv s.s op with
 | none=>rw [hq] at h1';cases h1'
 | some r=>
  rw [hq] at h1'
  obtain ⟨o,e1,e2,e3⟩:=new_opA hn hq
  simp only [Option.some.injEq] at h1'
  simp only [drawA,wantedA,hh,if_true,ht,hd,e3 (keep [] s.s.hp 0) (keep_length _ _ _)]
  have hm:mergeW [] s.s.hp (keep [] s.s.hp 0++[o]) 0=s.s.hp++[o]:=by
   apply List.ext_getElem?
   intro c
   rw [mergeW_get _ _ _ _ _ (by simp [keep_length])]
   split
   · rename_i hc;rw [List.getElem?_append_left hc];simp
   · rename_i hc
     rw [List.getElem?_append_right (by rw [keep_length];omega),List.getElem?_append_right (by omega),keep_length]
  simp only [List.all_nil,List.isEmpty_nil,Bool.true_or,Bool.and_true,if_true,hm,List.nil_append,List.length_append,List.length_singleton,keep_length]
  rw [e1,e2] at h1'
  subst h1'
  exact h2'
def cellsAt (h:Heap):AV→Option (List AV×Nat)
 | .str _=>none
 | .sl b off n esz _=>match h.at b with
   | some (.cells l _)=>(cut l off (n*esz)).map (·,n)
   | _=>none
 | v=>sliceCells h v
def decInts:List AV→Option (List Int)
 | []=>some []
 | .int .i64 n::r=>match decInts r with
   | some l=>some (n::l)
   | none=>none
 | _=>none
def decStrs:List AV→Option (List (List UInt8))
 | []=>some []
 | .str n::r=>match decStrs r with
   | some l=>some (n::l)
   | none=>none
 | _=>none
def strs (l:List (List UInt8)):List AV:=arr (fun x=>[.str x]) l
theorem decInts_eq:∀ {c:List AV} {l:List Int},decInts c=some l→c=ints l
 | [],l,h=>by cases h;rfl
 | v::r,l,h=>by
  unfold decInts at h
  split at h
  · rename_i e;cases e
  · rename_i n r' e
    cases e
    split at h
    · rename_i l' hl
      cases h
      rw [decInts_eq hl];rfl
    · cases h
  · cases h
theorem decInts_ints:∀ l:List Int,decInts (ints l)=some l
 | []=>rfl
 | n::l=>by
  have:=decInts_ints l
  show decInts (.int .i64 n::ints l)=_
  rw [decInts,this]
theorem decStrs_eq:∀ {c:List AV} {l:List (List UInt8)},decStrs c=some l→c=strs l
 | [],l,h=>by cases h;rfl
 | v::r,l,h=>by
  unfold decStrs at h
  split at h
  · rename_i e;cases e
  · rename_i n r' e
    cases e
    split at h
    · rename_i l' hl
      cases h
      rw [decStrs_eq hl];rfl
    · cases h
  · cases h
theorem decStrs_strs:∀ l:List (List UInt8),decStrs (strs l)=some l
 | []=>rfl
 | n::l=>by
  have:=decStrs_strs l
  show decStrs (.str n::strs l)=_
  rw [decStrs,this]
def intsAt (h:Heap) (v:AV):Option (List Int):=match cellsAt h v with
 | some (c,n)=>match decInts c with
   | some l=>if l.length=n then some l else none
   | none=>none
 | none=>none
def strsAt (h:Heap) (v:AV):Option (List (List UInt8)):=match cellsAt h v with
 | some (c,n)=>match decStrs c with
   | some l=>if l.length=n then some l else none
   | none=>none
 | none=>none
theorem sl_of_cells {α:Type} {f:α→List AV} {l:List α} (hc:cellsAt h v=some (arr f l,l.length)):Sl f h v l:=by
 cases v <;> simp only [cellsAt,sliceCells] at hc <;> try (cases hc;done)
 case nilsl=>
  simp only [Option.some.injEq,Prod.mk.injEq] at hc
  exact .inl ⟨rfl,List.eq_nil_of_length_eq_zero hc.2.symm⟩
 case sl b off len esz cap=>
  split at hc
  · rename_i c e hb
    simp only [Option.map_eq_some_iff,Prod.mk.injEq] at hc
    obtain ⟨c',h1,h2,h3⟩:=hc
    subst h3;subst h2
    exact .inr (.inr ⟨b,off,esz,cap,c,e,rfl,hb,h1⟩)
  · cases hc
 case vs c len cap=>
  simp only [Option.some.injEq,Prod.mk.injEq] at hc
  obtain ⟨rfl,rfl⟩:=hc
  exact .inr (.inl ⟨cap,rfl⟩)
theorem intsAt_sl {l:List Int} (hi:intsAt h v=some l):Sl (fun x=>[.int .i64 x]) h v l:=by
 unfold intsAt at hi
 split at hi
 · rename_i c n hc
   split at hi
   · rename_i l' hl
     split at hi
     · rename_i hn
       cases hi
       subst hn
       rw [decInts_eq hl] at hc
       exact sl_of_cells hc
     · cases hi
   · cases hi
 · cases hi
theorem strsAt_sl {l:List (List UInt8)} (hi:strsAt h v=some l):Sl (fun x=>[.str x]) h v l:=by
 unfold strsAt at hi
 split at hi
 · rename_i c n hc
   split at hi
   · rename_i l' hl
     split at hi
     · rename_i hn
       cases hi
       subst hn
       rw [decStrs_eq hl] at hc
       exact sl_of_cells hc
     · cases hi
   · cases hi
 · cases hi
theorem intsAt_vs {l:List Int} {cap:Option Nat}:intsAt h (.vs (ints l) l.length cap)=some l:=by
 simp only [intsAt,cellsAt,sliceCells,decInts_ints,if_true]
end Go.Ab

/-
  Own work: calls of functions by their code, on whatever heap; the end of such a run.
-/
namespace Go.Ab
variable {ars pe:List AV} {h hp:Heap} {r:HR} {f x:IOpd} {args:List IOpd} {l:List IOper} {s:StW} {Q:StW→Prop} {g v:AV} {t b:Nat} {lo:List (Nat×AV)} {df wr:List Nat} {k:IntKind} {a:Int}
variable {M:Mach}
def CT (M:Mach) (g:AV) (ars:List AV) (h:Heap) (r:HR):Prop:=∃ n,M.call n g ars h=some r
theorem CT.ext {f:FuncId} {fi ca:List AV} (he:M.ext f (fi++ars++ca) h=some r):CT M (.fn (.func f) fi ca) ars h r:=⟨0,by simp only [callWith,he]⟩
theorem CT.run {f:FuncId} {fi ca:List AV} (he:M.ext f (fi++ars++ca) h=none) (hr:Run M f (fi++ars++ca) h r):CT M (.fn (.func f) fi ca) ars h r:=by
 obtain ⟨n,hn⟩:=hr
 exact ⟨n,by simp only [callWith,he];exact hn⟩
theorem WO.ctd {d:Dst} (hf:s.s.opd f=some g) (ha:s.s.opds args=some ars) (hc:CT M g ars s.s.hp r)
 (h:WO M l ⟨{ s.s.put d r.v with hp:=r.h },r.wr++s.wr⟩ Q):WO M (⟨d,.call f args,none⟩::l) s Q:=
 WO.op (WP.call hf ha (by obtain ⟨n,hn⟩:=hc;exact ⟨⟨n,r,hn,h⟩⟩))
theorem WO.ct {h':Heap} {wr':List Nat} (hf:(St.mk pe lo hp df).opd f=some g) (ha:(St.mk pe lo hp df).opds args=some ars)
 (hc:CT M g ars hp ⟨v,h',wr'⟩) (h:WO M l ⟨⟨pe,(t,v)::lo,h',df⟩,wr'++wr⟩ Q):WO M (⟨.l t,.call f args,none⟩::l) ⟨⟨pe,lo,hp,df⟩,wr⟩ Q:=WO.ctd hf ha hc h
theorem WD.ctd {d:Dst} {un:List Nat} {l:List (IOper×List Nat)} {ds:List Done} (hf:s.s.opd f=some g) (ha:s.s.opds args=some ars)
 (hU:(un.flatMap fun j=>(ds[j]?).elim [] Done.own)=[]) (he:CT M g ars s.s.hp ⟨v,s.s.hp,[]⟩)
 (h:WD M l ⟨s.s.put d v,s.wr⟩ (ds++[⟨none,[],0,0⟩]) Q):WD M ((⟨d,.call f args,none⟩,un)::l) s ds Q:=by
 obtain ⟨⟨m,s',h2,h3⟩⟩:=h.norm (d':=⟨none,[],s.s.hp.length,s.s.hp.length⟩) (by simp [Done.key,Done.own])
 obtain ⟨n,hn⟩:=he
 refine ⟨⟨max n m,s',?_,h3⟩⟩
 have h2':=drawA_le (inv:=M.inv) (call_up (Nat.le_max_right n m)) _ _ _ _ h2
 have hn':=call_up (M:=M) (Nat.le_max_left n m) _ _ _ _ hn
 have hm:mask s.s.hp []=s.s.hp:=rfl
 have hcall:opA (M.call (max n m)) M.inv { s.s with hp:=s.s.hp } (.call f args)=some ⟨v,s.s.hp,[]⟩:=by
  simp only [opA,hf,ha];exact hn'
 have hmerge:mergeW [] s.s.hp s.s.hp 0=s.s.hp:=by
  apply List.ext_getElem?
  intro c
  rw [mergeW_get _ _ _ _ _ (Nat.le_refl _)]
  split
  · rfl
  · rfl
 simp only [drawA,wantedA,IOp.heapy,if_true,touchA,hU,hm]
 rw [hcall]
 have hp:({ s.s.put d v with hp:=s.s.hp }:St)=s.s.put d v:=by cases d <;> rfl
 simp only [List.all_nil,List.isEmpty_nil,Bool.true_or,Bool.and_true,if_true,hmerge,List.nil_append,hp]
 exact h2'
theorem WD.ct {un:List Nat} {l:List (IOper×List Nat)} {ds:List Done} (hf:(St.mk pe lo hp df).opd f=some g) (ha:(St.mk pe lo hp df).opds args=some ars)
 (hU:(un.flatMap fun j=>(ds[j]?).elim [] Done.own)=[]) (he:CT M g ars hp ⟨v,hp,[]⟩)
 (h:WD M l ⟨⟨pe,(t,v)::lo,hp,df⟩,wr⟩ (ds++[⟨none,[],0,0⟩]) Q):WD M ((⟨.l t,.call f args,none⟩,un)::l) ⟨⟨pe,lo,hp,df⟩,wr⟩ ds Q:=WD.ctd hf ha hU he h
theorem run_of_WH {f N:Nat} {pers:List Nat} {res:List IRes} {body:ICode} (hft:M.FT f=some ⟨N,pers,res,body⟩) (hN:ars.length≤N)
 (hW:W M body ⟨⟨pers.map (fun t=>(ars[t]?).getD undefA),[],h,[]⟩,[]⟩ fun e s=>(e = .normal∨e = .ret)∧s.s.dfs=[]∧∃ vs,resultsA s.s res=some vs∧retA (tupA vs) h.length s=r):Run M f ars h r:=by
 obtain ⟨⟨n,e,s,h1,h2,h3,vs,h4,h5⟩⟩:=hW
 refine ⟨n,?_⟩
 have h1':evalC M.ext M.inv M.FT n body ⟨⟨pers.map (fun t=>(ars[t]?).getD undefA),[],h,[]⟩,[]⟩=some (e,s):=h1
 simp only [callFT,hft]
 rw [if_neg (by omega)]
 simp only [Mach.ev,h1',if_pos h2,h3,takeDfs,h4,h5]
def Only (b:Nat) (wr:List Nat):Prop:=∀ x∈wr,x=b
theorem Only.nil:Only b []:=fun _ h=>by cases h
theorem Only.cons (h:Only b wr):Only b (b::wr):=fun x hx=>by
 rcases List.mem_cons.1 hx with e|e
 · exact e
 · exact h x e
theorem Only.app {v:List Nat} (h':Only b v) (h:Only b wr):Only b (v++wr):=fun x hx=>by
 rcases List.mem_append.1 hx with e|e
 · exact h' x e
 · exact h x e
theorem put_put {x y:Option Blk}:(h.put b x).put b y=h.put b y:=by simp [Heap.put]
theorem ret_put {c c0:List AV} {e:TypeId} (hb:b<h.length) (hh:s.s.hp=h.put b (some (.cells c e))) (hw:Only b s.wr) (hc:topL c=0) :
 ∃ wr,Only b wr∧retA (.tup []) (h.put b (some (.cells c0 e))).length s=⟨.tup [],h.put b (some (.cells c e)),wr⟩:=by
 refine ⟨s.wr.filter (· < h.length),fun x hx=>hw x (List.mem_filter.1 hx).1,?_⟩
 have hl:(h.put b (some (.cells c0 e))).length=h.length:=put_length
 have ht:tight s.s.hp h.length s.wr=true:=by
  simp only [tight,List.all_eq_true]
  intro x hx
  rw [hw x hx,hh,at_put hb]
  simp [Blk.top,hc]
 have hk:(h.put b (some (.cells c e))).take h.length=h.put b (some (.cells c e)):=List.take_of_length_le (by rw [put_length];exact Nat.le_refl _)
 simp only [retA,hl,ht,Bool.and_true]
 rw [hh,hk]
 split <;> rfl
theorem run_put {α:Type} {f:α→List AV} {l:List α} {e:TypeId} {g N:Nat} {pers:List Nat} {body:ICode} {P:List α→Prop} (hft:M.FT g=some ⟨N,pers,[],body⟩) (hN:ars.length≤N) (hb:b<h.length) (hf:∀ a,topL (f a)=0)
 (hW:W M body ⟨⟨pers.map (fun t=>(ars[t]?).getD undefA),[],h.put b (some (.cells (arr f l) e)),[]⟩,[]⟩ fun x s=>(x = .normal∨x = .ret)∧s.s.dfs=[]∧∃ l',s.s.hp=h.put b (some (.cells (arr f l') e))∧Only b s.wr∧P l') :
 ∃ l' wr,Only b wr∧P l'∧Run M g ars (h.put b (some (.cells (arr f l) e))) ⟨.tup [],h.put b (some (.cells (arr f l') e)),wr⟩:=by
 obtain ⟨⟨n,x,s,h1,h2,h3,l',h4,h5,h6⟩⟩:=hW
 obtain ⟨wr,hw,hr⟩:=ret_put (c0:=arr f l) hb h4 h5 (topL_arr hf l')
 refine ⟨l',wr,hw,h6,run_of_WH hft hN ⟨⟨n,x,s,h1,h2,h3,[],rfl,hr⟩⟩⟩
theorem WO.cvu (hx:(St.mk pe lo hp df).opd x=some (.int k a)) (hr:0≤a∧a<18446744073709551616)
 (h:WO M l ⟨⟨pe,(t,.int .u64 a)::lo,hp,df⟩,wr⟩ Q):WO M (⟨.l t,.convInt .u64 x,none⟩::l) ⟨⟨pe,lo,hp,df⟩,wr⟩ Q:=
 WO.op (WP.pure (v:=.int .u64 a) rfl (by
  have:IntKind.u64.wrap a=a:=by simp only [IntKind.wrap,IntKind.bits,IntKind.signed];simp;omega
  simp only [pureA,hx,Option.bind_some,convA,this]) h)
theorem WO.cvi (hx:(St.mk pe lo hp df).opd x=some (.int k a)) (hr : -9223372036854775808≤a∧a<9223372036854775808)
 (h:WO M l ⟨⟨pe,(t,.int .i64 a)::lo,hp,df⟩,wr⟩ Q):WO M (⟨.l t,.convInt .i64 x,none⟩::l) ⟨⟨pe,lo,hp,df⟩,wr⟩ Q:=
 WO.op (WP.pure (v:=.int .i64 a) rfl (by simp only [pureA,hx,Option.bind_some,convA,i64_wrap hr]) h)
theorem WO.shr1 (hx:(St.mk pe lo hp df).opd x=some (.int .u64 a))
 (h:WO M l ⟨⟨pe,(t,.int .u64 (a/2))::lo,hp,df⟩,wr⟩ Q):WO M (⟨.l t,.bin .shr x (.c (.int k 1)),none⟩::l) ⟨⟨pe,lo,hp,df⟩,wr⟩ Q:=by
 refine WO.op (WP.pure (v:=.int .u64 (a/2)) rfl ?_ h)
 have:a.fdiv (2^min (Int.toNat 1) IntKind.u64.bits)=a/2:=by
  show a.fdiv 2=a/2
  rw [Int.fdiv_eq_ediv_of_nonneg _ (by omega)]
 have e:(St.mk pe lo hp df).opd (.c (.int k 1))=some (.int k 1):=rfl
 simp only [pureA,hx,e,binA,this]
 rfl
end Go.Ab

/-
  Own work: one element appended; the end of a run that turns nothing.
-/
namespace Go.Ab
variable {h:Heap}
variable {M:Mach}
theorem ret_same {v:AV} {s:StW} (hh:s.s.hp=h) (hw:s.wr=[]):retA v h.length s=⟨v,h,[]⟩:=by
 have hk:h.take h.length=h:=List.take_length
 simp only [retA,hh,hw,tight,List.all_nil,Bool.and_true,List.filter_nil,hk]
 split <;> rfl
theorem run_same {g N:Nat} {pers:List Nat} {res:List IRes} {body:ICode} {ars:List AV} {v:AV} (hft:M.FT g=some ⟨N,pers,res,body⟩) (hN:ars.length≤N)
 (hW:W M body ⟨⟨pers.map (fun t=>(ars[t]?).getD undefA),[],h,[]⟩,[]⟩ fun x s=>(x = .normal∨x = .ret)∧s.s.dfs=[]∧s.s.hp=h∧s.wr=[]∧∃ vs,resultsA s.s res=some vs∧tupA vs=v):Run M g ars h ⟨v,h,[]⟩:=by
 refine run_of_WH hft hN (hW.mono fun x s ⟨h1,h2,h3,h4,vs,h5,h6⟩=>⟨h1,h2,vs,h5,?_⟩)
 subst h6
 exact ret_same h3 h4
theorem put_self {b:Nat} {o:Blk} (hb:h.at b=some o):h.put b (some o)=h:=by
 have hl:=at_lt hb
 apply List.ext_getElem?
 intro i
 simp only [Heap.put,List.getElem?_set]
 split
 · rename_i e
   subst e
   unfold Heap.at at hb
   rw [List.getElem?_eq_getElem hl] at hb ⊢
   simp at hb ⊢
   simp [hb]
 · rfl
end Go.Ab

/-
  Own work: bytes of a text, small conversions, boxes in a heap that grows; the end of a run that drops what it made.
-/
namespace Go.Ab
variable {b n:Nat} {wr:List Nat}
variable {M:Mach}
def OnlyN (b n:Nat) (wr:List Nat):Prop:=∀ x∈wr,x=b∨n≤x
theorem OnlyN.nil:OnlyN b n []:=fun _ h=>by cases h
theorem OnlyN.only (h:Only b wr):OnlyN b n wr:=fun x hx=>.inl (h x hx)
theorem OnlyN.cons (h:OnlyN b n wr):OnlyN b n (b::wr):=fun x hx=>by
 rcases List.mem_cons.1 hx with e|e
 · exact .inl e
 · exact h x e
theorem OnlyN.new {a:Nat} (h:OnlyN b n wr) (ha:n≤a):OnlyN b n (a::wr):=fun x hx=>by
 rcases List.mem_cons.1 hx with e|e
 · exact .inr (by omega)
 · exact h x e
theorem OnlyN.app {v:List Nat} (h':OnlyN b n v) (h:OnlyN b n wr):OnlyN b n (v++wr):=fun x hx=>by
 rcases List.mem_append.1 hx with e|e
 · exact h' x e
 · exact h x e
theorem run_ofE {f N:Nat} {pers:List Nat} {res:List IRes} {body:ICode} {ars:List AV} {P:AV→Heap→Prop} (hft:M.FT f=some ⟨N,pers,res,body⟩) (hN:ars.length≤N)
 (h:W M body ⟨⟨pers.map (fun t=>(ars[t]?).getD undefA),[],[],[]⟩,[]⟩ fun e s=>(e = .normal∨e = .ret)∧s.s.dfs=[]∧∃ vs,resultsA s.s res=some vs∧P (tupA vs) (if (tupA vs).top≤0 then [] else s.s.hp)):∃ v hh,P v hh∧Run M f ars [] ⟨v,hh,[]⟩:=by
 obtain ⟨⟨n,e,s,h1,h2,h3,vs,h4,h5⟩⟩:=h
 exact ⟨_,_,h5,run_of_W hft hN ⟨⟨n,e,s,h1,h2,h3,vs,h4,rfl,rfl⟩⟩⟩
theorem WO.ldb {t o:Nat} {ag:Bool} {x:IOpd} {l:List IOper} {pe:List AV} {lo:List (Nat×AV)} {hp:Heap} {df:List Nat} {c:List AV} {e:TypeId} {v:AV} {Q:StW→Prop} (hx:(St.mk pe lo hp df).opd x=some (.ptr b o)) (hb:hp.at b=some (.cells c e)) (hv:partOf (c.drop o) 0 n ag=some v)
 (h:WO M l ⟨⟨pe,(t,v)::lo,hp,df⟩,wr⟩ Q):WO M (⟨.l t,.load n ag x,none⟩::l) ⟨⟨pe,lo,hp,df⟩,wr⟩ Q:=
 WO.ldx hx (show readAt hp (.ptr b o)=some (c.drop o) by simp only [readAt,hb]) hv h
theorem one_arr {α:Type} {f:α→List AV} (hf:∀ a,(f a).all oneA=true):∀ l:List α,(arr f l).all oneA=true
 | []=>rfl
 | a::l=>by
  have:=one_arr hf l
  simp only [arr] at this
  simp only [arr,List.flatMap_cons,List.all_append,hf a,this,Bool.and_self]
end Go.Ab

/-
  Own work: an append in a drawn region, where no earlier operation is unordered to it.
-/
namespace Go.Ab
variable {T:List Nat} {h:Heap}
variable {M:Mach}
theorem merge_new {o:Option Blk}:mergeW [] h (keep T h 0++[o]) 0=h++[o]:=by
 apply List.ext_getElem?
 intro c
 rw [mergeW_get _ _ _ _ _ (by simp [keep_length])]
 split
 · rename_i hc;rw [List.getElem?_append_left hc];simp
 · rename_i hc
   rw [List.getElem?_append_right (by rw [keep_length];omega),List.getElem?_append_right (by omega),keep_length]
theorem merge_put_new {b:Nat} {o:Option Blk}:mergeW [b] h (Heap.put (keep T h 0) b none++[o]) 0=Heap.put h b none++[o]:=by
 have hl:(Heap.put (keep T h 0) b none).length=h.length:=by rw [put_length,keep_length]
 apply List.ext_getElem?
 intro c
 rw [mergeW_get _ _ _ _ _ (by simp [hl])]
 split
 · rename_i hc
   rw [List.getElem?_append_left (by rw [hl];exact hc),List.getElem?_append_left (by rw [put_length];exact hc)]
   simp only [Heap.put,List.getElem?_set,keep_length,keep_get]
   by_cases e:b=c
   · subst e;simp [hc]
   · rw [if_neg e,if_neg e]
     have e':¬ c=b:=fun h=>e h.symm
     simp [e']
 · rename_i hc
   rw [List.getElem?_append_right (by rw [hl];omega),List.getElem?_append_right (by rw [put_length];omega),hl,put_length]
theorem slice_keep {y:AV} (hT:∀ b,b∈blkOf (some y)→b∈T):sliceCells (keep T h 0) y=sliceCells h y:=by
 cases y with
 | sl b off n esz cap=>
  simp only [sliceCells]
  rw [keep_at',if_pos (by simpa using hT b (by simp [blkOf]))]
 | _=>rfl
theorem append_keep {elem:TypeId} {esz bytes:Nat} {x y:AV} (hx:∀ b,b∈blkOf (some x)→b∈T) (hy:∀ b,b∈blkOf (some y)→b∈T) {r:HR} (hr:appendA elem esz bytes h x y=some r) :
 ∃ h',appendA elem esz bytes (keep T h 0) x y=some ⟨r.v,h',r.wr⟩∧mergeW r.wr h h' 0=r.h∧(∀ b∈r.wr,((keep T h 0).at b).isSome=true):=by
 unfold appendA at hr ⊢
 rw [slice_keep hy]
 split at hr
 · cases hr
 · rename_i new n hs
   split at hr
   · rename_i hc
     rw [if_pos hc]
     split at hr
     · split at hr
       · rename_i h0
         cases hr
         exact ⟨keep T h 0,by rw [if_pos h0],merge_keep',by simp⟩
       · rename_i h0
         split at hr
         · rename_i h1
           cases hr
           exact ⟨_,by rw [if_neg h0,if_pos h1,keep_length],merge_new,by simp⟩
         · cases hr
     · rename_i l len cap
       split at hr
       · rename_i h0
         cases hr
         exact ⟨keep T h 0,by rw [if_pos h0],merge_keep',by simp⟩
       · rename_i h0
         split at hr
         · rename_i c
           split at hr
           · rename_i h1
             cases hr
             refine ⟨keep T h 0++[some (.cells (l++new) elem)],?_,merge_new,by simp⟩
             simp only [if_neg h0,if_pos h1,keep_length]
           · cases hr
         · cases hr
     · rename_i b off len e cap
       have hbT:T.contains b=true:=by simpa using hx b (by simp [blkOf])
       have hk:(keep T h 0).at b=h.at b:=by rw [keep_at',if_pos hbT]
       split at hr
       · rename_i h0
         cases hr
         exact ⟨keep T h 0,by rw [if_pos h0],merge_keep',by simp⟩
       · rename_i h0
         split at hr
         · rename_i h1
           split at hr
           · rename_i l el hat
             have hlt:=at_lt hat
             have hsome:((keep T h 0).at b).isSome=true:=by rw [hk,hat];rfl
             split at hr
             · rename_i c
               split at hr
               · rename_i h2
                 split at hr
                 · rename_i h3
                   cases hr
                   refine ⟨Heap.put (keep T h 0) b (some (.cells (overwrite l (off+len*esz) new) el)),?_,merge_keep_put',by simpa using hsome⟩
                   simp only [if_neg h0,if_pos h1,hk,hat,if_pos h2,if_pos h3]
                 · cases hr
               · rename_i h2
                 split at hr
                 · rename_i old hcut
                   cases hr
                   refine ⟨keep T h 0++[some (.cells (old++new) elem)],?_,merge_new,by simp⟩
                   simp only [if_neg h0,if_pos h1,hk,hat,if_neg h2,hcut,keep_length]
                 · cases hr
             · split at hr
               · rename_i h2
                 cases hr
                 refine ⟨Heap.put (keep T h 0) b none++[some (.cells (l.drop off++new) elem)],?_,merge_put_new,by simpa using hsome⟩
                 simp only [if_neg h0,if_pos h1,hk,hat,if_pos h2,keep_length]
               · cases hr
           · cases hr
         · cases hr
     · cases hr
   · cases hr
theorem WD.app {d:Dst} {elem:TypeId} {esz bytes:Nat} {x y:IOpd} {l:List (IOper×List Nat)} {s:StW} {ds:List Done} {a b:AV} {Q:StW→Prop} (ha:s.s.opd x=some a) (hb:s.s.opd y=some b)
 (h:∀ dn,WO M [⟨d,.append elem esz bytes x y,none⟩] s fun s'=>WD M l s' (ds++[dn]) Q):WD M ((⟨d,.append elem esz bytes x y,none⟩,[])::l) s ds Q:=by
 have key:∀ h0,opA (M.call 0) M.inv { s.s with hp:=h0 } (.append elem esz bytes x y)=appendA elem esz bytes h0 a b:=fun h0=>by
  have hx':(St.mk s.s.pe s.s.lo h0 s.s.dfs).opd x=some a:=by rw [← ha];cases x <;> rfl
  have hy':(St.mk s.s.pe s.s.lo h0 s.s.dfs).opd y=some b:=by rw [← hb];cases y <;> rfl
  simp only [opA,IOp.heapy,if_true,heapA,hx',hy']
 have keyn:∀ n h0,opA (M.call n) M.inv { s.s with hp:=h0 } (.append elem esz bytes x y)=appendA elem esz bytes h0 a b:=fun n h0=>by
  have hx':(St.mk s.s.pe s.s.lo h0 s.s.dfs).opd x=some a:=by rw [← ha];cases x <;> rfl
  have hy':(St.mk s.s.pe s.s.lo h0 s.s.dfs).opd y=some b:=by rw [← hb];cases y <;> rfl
  simp only [opA,IOp.heapy,if_true,heapA,hx',hy']
 cases hq:appendA elem esz bytes s.s.hp a b with
 | none=>
  obtain ⟨⟨k,s1,h1,_⟩⟩:=h ⟨none,[],0,0⟩
  simp only [opersA,wantedA] at h1
  rw [show opA (M.call k) M.inv s.s (.append elem esz bytes x y)=none from (keyn k s.s.hp).trans hq] at h1
  cases h1
 | some r=>
  obtain ⟨h',e1,e2,e3⟩:=append_keep (T:=blkOf (some a)++blkOf (some b)) (fun c hc=>List.mem_append_left _ hc) (fun c hc=>List.mem_append_right _ hc) hq
  obtain ⟨⟨k,s1,h1,⟨⟨m,s',h2,h3⟩⟩⟩⟩:=h ⟨some (blkOf (some a)++blkOf (some b)),r.wr,s.s.hp.length,h'.length⟩
  refine ⟨⟨m,s',?_,h3⟩⟩
  simp only [opersA,wantedA] at h1
  rw [show opA (M.call k) M.inv s.s (.append elem esz bytes x y)=some r from (keyn k s.s.hp).trans hq] at h1
  simp only [Option.some.injEq] at h1
  have ht:touchA s.s (.append elem esz bytes x y)=some (blkOf (some a)++blkOf (some b)):=by
   simp only [touchA,ha,hb]
   congr 1
  have hd:disj (blkOf (some a)++blkOf (some b)) []=true:=by simp [disj]
  simp only [drawA,wantedA,IOp.heapy,if_true,ht,List.flatMap_nil,hd]
  rw [show opA (M.call m) M.inv { s.s with hp:=keep (blkOf (some a)++blkOf (some b)) s.s.hp 0 } (.append elem esz bytes x y)=some ⟨r.v,h',r.wr⟩ from (keyn m _).trans e1]
  have hw:(r.wr.all fun c=>((keep (blkOf (some a)++blkOf (some b)) s.s.hp 0).at c).isSome)=true:=by
   rw [List.all_eq_true];exact e3
  simp only [List.all_nil,Bool.or_true,Bool.and_true,e2]
  rw [← h1] at h2
  first
    | (rw [if_pos e3];exact h2)
    | (rw [if_pos hw];exact h2)
    | (simp only [hw,if_true];exact h2)
end Go.Ab

/-
  Own work: a call with an empty slice, nil or not: told apart, run twice, and told again as one.
-/
namespace Go.Ab
variable {P:Program} {gl:Nat→Option AV}
end Go.Ab

/-
  Own work: arguments that are slices of integers, or arrays of two of them, as the abstract machine sees them.
-/
namespace Go.Ab
open Go.ChangeShapes Go.WideShapes Go.RowKit
variable {H:Type} {enc:TypeId×Value→H} {P:Program} {W:World} {base:Nat} {sp:Nat→Bool} {t e:TypeId} {v:Value} {d:DataW H} {ps:List MemPlace}
theorem free_bare {c:Nat}:Free bare c:=⟨fun b d hb=>by simp [bare] at hb,fun hx=>hx⟩
end Go.Ab

/-
  Own work: runes of a text, parts of slices, what fills the room; small lists.
-/
namespace Go.Ab
variable {i:Nat} {x:IOpd} {l:List IOper} {pe:List AV} {lo:List (Nat×AV)} {hp:Heap} {df wr:List Nat} {Q:StW→Prop} {cap:Option Nat}
variable {M:Mach}
abbrev Str:=List UInt8
theorem WO.nxT {pos c w:Nat} {t:List UInt8} (hx:(St.mk pe lo (hp++[some (.iter t pos)]) df).opd x=some (.ptr hp.length 0)) (hp0:pos<t.length)
 (hd:Utf8.decode ⟨t.toArray⟩ pos=(c,w)) (h:WO M l ⟨⟨pe.set i (.tup [.bool true,.int .i64 pos,.int .i32 c]),lo,hp++[some (.iter t (pos+w))],df⟩,hp.length::wr⟩ Q):WO M (⟨.p i,.next x,none⟩::l) ⟨⟨pe,lo,hp++[some (.iter t pos)],df⟩,wr⟩ Q:=by
 refine WO.hpv (v:=.tup [.bool true,.int .i64 pos,.int .i32 c]) (h':=hp++[some (.iter t (pos+w))]) (w':=[hp.length]) ?_ rfl rfl h
 simp only [heapA,hx,at_new,if_pos hp0,hd,put_end rfl]
theorem WO.nxF {pos:Nat} {t:List UInt8} (hx:(St.mk pe lo (hp++[some (.iter t pos)]) df).opd x=some (.ptr hp.length 0)) (hp0:¬ pos<t.length)
 (h:WO M l ⟨⟨pe.set i (.tup [.bool false]),lo,hp++[some (.iter t pos)],df⟩,wr⟩ Q):WO M (⟨.p i,.next x,none⟩::l) ⟨⟨pe,lo,hp++[some (.iter t pos)],df⟩,wr⟩ Q:=by
 refine WO.hpv (v:=.tup [.bool false]) (h':=hp++[some (.iter t pos)]) (w':=[]) ?_ rfl rfl h
 simp only [heapA,hx,at_new,if_neg hp0]
theorem dec_ascii {s:Str} (h:i<s.length) (hb:(s[i]!).toNat<128):Utf8.decode ⟨s.toArray⟩ i=((s[i]!).toNat,1):=by
 have hs:i<(ByteArray.mk s.toArray).size:=by simpa [ByteArray.size] using h
 have e:((ByteArray.mk s.toArray)[i]'hs)=s[i]! := by
  rw [getElem!_pos s i h];rfl
 have:=decode_ascii (ByteArray.mk s.toArray) i hs (by rw [e];exact hb)
 rw [this,e]
theorem dec_other {s:Str} (h:i<s.length) (hb:¬ (s[i]!).toNat<128):∃ c w,Utf8.decode ⟨s.toArray⟩ i=(c,w)∧128≤c:=by
 have e:((ByteArray.mk s.toArray).get! (i+0))=s[i]! := by
  rw [Nat.add_zero,getElem!_pos s i h]
  simp [ByteArray.get!,h]
 refine ⟨(Utf8.decode ⟨s.toArray⟩ i).1,(Utf8.decode ⟨s.toArray⟩ i).2,rfl,?_⟩
 unfold Utf8.decode
 simp only [e]
 rw [if_neg hb]
 have hr:(128:Nat)≤Utf8.runeError:=by decide
 split
 · split
   · omega
   · exact hr
 · split
   · split
     · rename_i h1;simp only [ge_iff_le,Bool.and_eq_true,decide_eq_true_eq] at h1;omega
     · exact hr
   · split
     · split
       · rename_i h1;simp only [ge_iff_le,Bool.and_eq_true,decide_eq_true_eq] at h1;omega
       · exact hr
     · exact hr
theorem WO.slv {α:Type} {f:α→List AV} {t esz:Nat} {y:IOpd} {c:List α} {k:IntKind} {n:Int} (hx:(St.mk pe lo hp df).opd x=some (.vs (arr f c) c.length cap)) (hy:(St.mk pe lo hp df).opd y=some (.int k n))
 (hf:∀ a,(f a).length=esz) (hn:0≤n∧n≤c.length)
 (h:WO M l ⟨⟨pe,(t,.vs (arr f (c.take n.toNat)) (c.take n.toNat).length cap)::lo,hp,df⟩,wr⟩ Q):WO M (⟨.l t,.slice .sl esz x none (some y) none,none⟩::l) ⟨⟨pe,lo,hp,df⟩,wr⟩ Q:=by
 refine WO.pl ?_ rfl h
 have hl:(c.take n.toNat).length=n.toNat:=by rw [List.length_take];omega
 simp only [pureA,hx,St.oopd,hy,Option.map_some,sliceA,boundA,if_pos hn,Nat.zero_mul,List.drop_zero,Nat.sub_zero,arr_take hf,hl]
 cases cap <;> simp
theorem ints_at {h:Heap} {b n:Nat} {l:List Int} {e:TypeId} (hb:h.at b=some (.cells (ints l) e)) (hl:l.length=n):intsAt h (.sl b 0 n 1 cap)=some l:=by
 subst hl
 have e0:(ints l).length=l.length:=(arr_length (f:=fun x:Int=>[AV.int .i64 x]) (esz:=1) (fun _=>rfl) l).trans (Nat.mul_one _)
 have e1:cut (ints l) 0 (l.length*1)=some (ints l):=by
  rw [Nat.mul_one,← e0];simp [cut]
 simp only [intsAt,cellsAt,hb,e1,Option.map_some,decInts_ints]
 simp
theorem strsAt_vs {h:Heap} {l:List Str}:strsAt h (.vs (strs l) l.length cap)=some l:=by
 simp only [strsAt,cellsAt,sliceCells,decStrs_strs,if_true]
def firstNZ:List Int→Int
 | []=>0
 | e::r=>if e=0 then firstNZ r else e
theorem firstNZ_drop {l:List Int} (h:i<l.length):firstNZ (l.drop i)=if l[i]! = 0 then firstNZ (l.drop (i+1)) else l[i]! := by
 rw [List.drop_eq_getElem_cons h,getElem!_pos l i h,firstNZ]
def outI (x lo hi:Int):Bool:=decide (x<lo) || decide (hi<x)
def indexOf (x:Str):List Str→Nat→Int
 | [],_=>-1
 | a::r,i=>if x=a then i else indexOf x r (i+1)
theorem indexOf_drop {x:Str} {l:List Str} (h:i<l.length):indexOf x (l.drop i) i=if x=l[i]! then (i:Int) else indexOf x (l.drop (i+1)) (i+1):=by
 rw [List.drop_eq_getElem_cons h,getElem!_pos l i h,indexOf]
theorem indexOf_mem {x:Str}:∀ (l:List Str) (i:Nat),decide (0≤indexOf x l i)=decide (x∈l)
 | [],i=>by simp [indexOf]
 | a::l,i=>by
  rw [indexOf]
  split
  · rename_i h;subst h;simp
  · rename_i h;rw [indexOf_mem l (i+1)];simp [h]
end Go.Ab

/-
  Own work: loops over functions in the calculus of runs: the loop, the rounds that its function asks for, ends of calls.
-/
namespace Go.Ab
variable {ars:List AV} {h:Heap} {K:HR→Prop} {ps:List Dst} {a bd:ICode} {n:Nat} {v:AV}
variable {M:Mach}
structure WRun (M:Mach) (f:FuncId) (as:List AV) (h:Heap) (K:HR→Prop):Prop where
 out:∃ r,Run M f as h r∧K r
theorem WRun.of_W {f N:Nat} {pers:List Nat} {res:List IRes} {body:ICode} (hft:M.FT f=some ⟨N,pers,res,body⟩) (hN:ars.length≤N)
 (hW:W M body ⟨⟨pers.map (fun t=>(ars[t]?).getD undefA),[],h,[]⟩,[]⟩ fun e s=>(e = .normal∨e = .ret)∧∃ s',takeDfs s.s.dfs s=some s'∧∃ vs,resultsA s'.s res=some vs∧K (retA (tupA vs) h.length s')):WRun M f ars h K:=by
 obtain ⟨⟨n,e,s,h1,h2,s',h3,vs,h4,h5⟩⟩:=hW
 refine ⟨_,⟨n,?_⟩,h5⟩
 have h1':evalC M.ext M.inv M.FT n body ⟨⟨pers.map (fun t=>(ars[t]?).getD undefA),[],h,[]⟩,[]⟩=some (e,s):=h1
 simp only [callFT,hft]
 rw [if_neg (by omega)]
 simp only [h1',if_pos h2,h3,h4]
theorem W.rangeF {f:IOpd} {b:ICode} {pe:List AV} {lo:List (Nat×AV)} {hp:Heap} {df wr:List Nat} {Q:Ex→StW→Prop} {g:FuncId} {fi ca:List AV} (hf:(St.mk pe lo hp df).opd f=some (.fn (.func g) fi ca))
 (hK:WRun M g (fi++[.fn (.yield (hp.length+1)) [] []]++ca) (hp++[some .dfr,some (.loop .ready none pe ps a b)]) fun r=>∃ st pend pe' ps' a' b',r.h.at (hp.length+1)=some (.loop st pend pe' ps' a' b')∧st≠.busy ∧
   Q (pend.getD .normal) ⟨⟨pe,lo,r.h.put (hp.length+1) (some (.loop .exhausted pend pe' ps' a' b')),hp.length::df⟩,(hp.length+1)::r.wr++wr⟩):W M (.rangeFunc false f ps a b) ⟨⟨pe,lo,hp,df⟩,wr⟩ Q:=by
 obtain ⟨r,⟨n,hn⟩,st,pend,pe',ps',a',b',h1,h2,h3⟩:=hK
 refine ⟨⟨n+1,_,_,?_,h3⟩⟩
 have hn':callFT (evalC M.ext M.inv M.FT n) M.FT g (fi++[.fn (.yield (hp.length+1)) [] []]++ca) (hp++[some .dfr,some (.loop .ready none pe ps a b)])=some r:=hn
 show evalC _ _ _ _ _ _=_
 rw [evalC]
 simp only [Bool.false_eq_true,if_false,hf,hn',h1,if_neg h2]
def yo (e:Ex) (pe:List AV) (ps:List Dst) (a bd:ICode):Blk:=if e = .normal then .loop .ready none pe ps a bd else .loop .done (some e) pe ps a bd
structure YB (b n:Nat) (K:HR→Prop) (e:Ex) (s:StW):Prop where
 out:∃ pe ps a bd,s.s.hp.at b=some (.loop .busy none pe ps a bd)∧s.s.dfs=[]∧K (retA (.bool (decide (e = .normal))) n ⟨{ s.s with hp:=s.s.hp.put b (some (yo e pe ps a bd)) },b::s.wr⟩)
structure YA (M:Mach) (b n:Nat) (bd:ICode) (K:HR→Prop) (e:Ex) (s:StW):Prop where
 out:e = .normal∧∃ pe ps a bd1,s.s.hp.at b=some (.loop .ready none pe ps a bd1)∧W M bd ⟨{ s.s with hp:=s.s.hp.put b (some (.loop .busy none pe ps a bd1)) },b::s.wr⟩ (YB b n K)
theorem WC.yield {b:Nat} {pe:List AV} {s0:St} (hb:h.at b=some (.loop .ready none pe ps a bd)) (hs:putAll ⟨pe,[],h,[]⟩ ps ars=some s0) (hW:W M a ⟨s0,[]⟩ (YA M b h.length bd K)) :
 WC M (.fn (.yield b) [] []) ars h K:=by
 obtain ⟨⟨n,e,s1,h1,⟨rfl,pe1,ps1,a1,bd1,h2,⟨⟨m,e2,s2,h3,⟨pe2,ps2,a2,bd2,h4,h5,h6⟩⟩⟩⟩⟩⟩:=hW
 refine ⟨⟨max n m,_,?_,h6⟩⟩
 have g1:evalC M.ext M.inv M.FT (max n m) a ⟨s0,[]⟩=some (.normal,s1):=ev_up (M:=M) (Nat.le_max_left n m) h1
 have g3:evalC M.ext M.inv M.FT (max n m) bd _=some (e2,s2):=ev_up (M:=M) (Nat.le_max_right n m) h3
 simp only [callWith,hb,hs,g1,h2,g3,h4,h5]
 rfl
theorem WO.cly {t:Nat} {f:IOpd} {args:List IOpd} {l:List IOper} {pe0:List AV} {lo:List (Nat×AV)} {hp:Heap} {df wr:List Nat} {Q:StW→Prop} {b:Nat} {pe:List AV} {s0:St} (hf:(St.mk pe0 lo hp df).opd f=some (.fn (.yield b) [] [])) (ha:(St.mk pe0 lo hp df).opds args=some ars)
 (hb:hp.at b=some (.loop .ready none pe ps a bd)) (hs:putAll ⟨pe,[],hp,[]⟩ ps ars=some s0) (hW:W M a ⟨s0,[]⟩ (YA M b hp.length bd fun r=>WO M l ⟨⟨pe0,(t,r.v)::lo,r.h,df⟩,r.wr++wr⟩ Q)) :
 WO M (⟨.l t,.call f args,none⟩::l) ⟨⟨pe0,lo,hp,df⟩,wr⟩ Q:=
 WO.op (WP.call hf ha (WC.yield hb hs hW))
theorem YAn {b:Nat} {pe0:List AV} {lo:List (Nat×AV)} {hp:Heap} {df wr:List Nat} {pe:List AV} {bd1:ICode} (hb:hp.at b=some (.loop .ready none pe ps a bd1))
 (hW:W M bd ⟨⟨pe0,lo,hp.put b (some (.loop .busy none pe ps a bd1)),df⟩,b::wr⟩ (YB b n K)):YA M b n bd K .normal ⟨⟨pe0,lo,hp,df⟩,wr⟩:=⟨⟨rfl,_,_,_,_,hb,hW⟩⟩
theorem retA_tight {s:StW} (hv:v.top≤n) (ht:tight s.s.hp n s.wr=true):retA v n s=⟨v,s.s.hp.take n,s.wr.filter (· < n)⟩:=by
 unfold retA
 rw [if_pos (by simp [hv,ht])]
theorem ret_dropT {J:Heap} {s:StW} (hh:s.s.hp=h++J) (hw:∀ x∈s.wr,h.length≤x) (hv:v.top≤h.length):retA v h.length s=⟨v,h,[]⟩:=by
 have hf:s.wr.filter (· < h.length)=[]:=by
  rw [List.filter_eq_nil_iff]
  intro x hx
  have:=hw x hx
  simp;omega
 have ht:tight s.s.hp h.length s.wr=true:=by
  simp only [tight,List.all_eq_true]
  intro x hx
  have:=hw x hx
  split <;> simp [this]
 have hk:s.s.hp.take h.length=h:=by rw [hh];simp
 rw [retA_tight hv ht,hf,hk]
theorem run_dropT {g N:Nat} {pers:List Nat} {res:List IRes} {body:ICode} (hft:M.FT g=some ⟨N,pers,res,body⟩) (hN:ars.length≤N) (hv:v.top≤h.length)
 (hW:W M body ⟨⟨pers.map (fun t=>(ars[t]?).getD undefA),[],h,[]⟩,[]⟩ fun x s=>(x = .normal∨x = .ret)∧s.s.dfs=[]∧(∃ J,s.s.hp=h++J)∧(∀ x∈s.wr,h.length≤x)∧∃ vs,resultsA s.s res=some vs∧tupA vs=v):Run M g ars h ⟨v,h,[]⟩:=by
 refine run_of_WH hft hN (hW.mono fun x s ⟨h1,h2,⟨J,h3⟩,h4,vs,h5,h6⟩=>⟨h1,h2,vs,h5,?_⟩)
 subst h6
 exact ret_dropT h3 h4 hv
section
variable {t b j:Nat} {x y:IOpd} {l:List IOper} {pe:List AV} {lo:List (Nat×AV)} {hp:Heap} {df wr:List Nat} {c:List AV} {e:TypeId} {Q:StW→Prop}
theorem WO.ldj {ag:Bool} (hx:(St.mk pe lo hp df).opd x=some (.ptr b j)) (hb:hp.at b=some (.cells c e)) (hv:partOf (c.drop j) 0 n ag=some v)
 (h:WO M l ⟨⟨pe,(t,v)::lo,hp,df⟩,wr⟩ Q):WO M (⟨.l t,.load n ag x,none⟩::l) ⟨⟨pe,lo,hp,df⟩,wr⟩ Q:=
 WO.hlv (v:=v) (h':=hp) (w':=[]) (by simp only [heapA,hx,Option.bind_some,readAt,hb,hv]) rfl rfl h
theorem WO.stj {new:List AV} (hx:(St.mk pe lo hp df).opd x=some (.ptr b j)) (hy:((St.mk pe lo hp df).opd y).bind AV.cells=some new) (hb:hp.at b=some (.cells c e)) (hn:new.length=n∧j+n≤c.length∧new.all oneA=true) {c':List AV} (hc:overwrite c j new=c')
 (h:WO M l ⟨⟨pe,lo,hp.put b (some (.cells c' e)),df⟩,b::wr⟩ Q):WO M (⟨.no,.store n x y,none⟩::l) ⟨⟨pe,lo,hp,df⟩,wr⟩ Q:=by
 subst hc
 refine WO.hnv (v:=undefA) (h':=hp.put b (some (.cells (overwrite c j new) e))) (w':=[b]) ?_ rfl rfl h
 simp only [heapA,hx,hy,hb]
 rw [if_pos hn]
end
end Go.Ab

/-
  Own work: parts of texts, the lesser of two numbers, in the calculus of runs.
-/
namespace Go.Ab
variable {M:Mach} {t:Nat} {x y z:IOpd} {l:List IOper} {pe:List AV} {lo:List (Nat×AV)} {hp:Heap} {df wr:List Nat} {s r:Str} {k k':IntKind} {a b:Int} {Q:StW→Prop}
theorem WO.sse (hx:(St.mk pe lo hp df).opd x=some (.str s)) (hy:(St.mk pe lo hp df).opd y=some (.int k a)) (ha:0≤a∧a≤s.length) (hr:s.drop a.toNat=r)
 (h:WO M l ⟨⟨pe,(t,.str r)::lo,hp,df⟩,wr⟩ Q):WO M (⟨.l t,.slice .str 1 x (some y) none none,none⟩::l) ⟨⟨pe,lo,hp,df⟩,wr⟩ Q:=by
 subst hr
 refine WO.pl (v:=.str (s.drop a.toNat)) ?_ rfl h
 simp only [pureA,hx,St.oopd,hy,Option.map_some,sliceA,boundA]
 rw [if_pos ha]
 have:(s.drop a.toNat).take (s.length-a.toNat)=s.drop a.toNat:=List.take_of_length_le (by simp)
 simp [this]
theorem WO.min2 {m:Int} (hx:(St.mk pe lo hp df).opd x=some (.int k a)) (hy:(St.mk pe lo hp df).opd y=some (.int k b)) (hm:m=a∧a≤b∨m=b∧b≤a)
 (h:WO M l ⟨⟨pe,(t,.int k m)::lo,hp,df⟩,wr⟩ Q):WO M (⟨.l t,.mm false [x,y],none⟩::l) ⟨⟨pe,lo,hp,df⟩,wr⟩ Q:=by
 refine WO.pl (v:=.int k m) ?_ rfl h
 simp only [pureA,St.opds,hx,hy]
 have e:(if b<a then b else a)=m:=by split <;> omega
 simp [mmA,e]
end Go.Ab

/-
  Own work: the calculus: a heap that is known by facts, its newest block; lists that grow, of any elements.
-/
namespace Go.Ab
variable {pe:List AV} {lo:List (Nat×AV)} {hp:Heap} {df wr S:List Nat} {e:TypeId} {Q:StW→Prop} {α:Type} {esz:Nat} {o:AV}
variable {M:Mach}
theorem WO.ldK {u n b off:Nat} {ag:Bool} {x:IOpd} {L:List IOper} {c:List AV} {v:AV} (hx:(St.mk pe lo hp df).opd x=some (.ptr b off)) (hb:hp.at b=some (.cells c e)) (hv:partOf (c.drop off) 0 n ag=some v)
 (h:WO M L ⟨⟨pe,(u,v)::lo,hp,df⟩,wr⟩ Q):WO M (⟨.l u,.load n ag x,none⟩::L) ⟨⟨pe,lo,hp,df⟩,wr⟩ Q:=
 WO.hlv (v:=v) (h':=hp) (w':=[]) (by simp only [heapA,hx,Option.bind_some,readAt,hb,hv]) rfl rfl h
theorem WO.stK {n:Nat} {x y:IOpd} {L:List IOper} {K:Heap} {c c' new:List AV} (hx:(St.mk pe lo (K++[some (.cells c e)]) df).opd x=some (.ptr K.length 0)) (hy:((St.mk pe lo (K++[some (.cells c e)]) df).opd y).bind AV.cells=some new)
 (hn:new.length=n∧n≤c.length∧new.all oneA=true) (ho:overwrite c 0 new=c') (h:WO M L ⟨⟨pe,lo,K++[some (.cells c' e)],df⟩,K.length::wr⟩ Q):WO M (⟨.no,.store n x y,none⟩::L) ⟨⟨pe,lo,K++[some (.cells c e)],df⟩,wr⟩ Q:=by
 obtain ⟨h1,h2,h3⟩:=hn
 refine WO.hnv (v:=undefA) (h':=K++[some (.cells c' e)]) (w':=[K.length]) ?_ rfl rfl h
 simp only [heapA,hx,hy,at_new,Nat.zero_add]
 rw [if_pos ⟨h1,h2,h3⟩,ho]
 simp [Heap.put]
def OutL {α:Type} (f:α→List AV) (esz:Nat) (e:TypeId) (hp:Heap) (o:AV) (acc:List α) (S:List Nat):Prop:=(acc=[]∧o = .nilsl)∨∃ c,acc≠[]∧c∉S∧o = .sl c 0 acc.length esz none∧hp.at c=some (.cells (arr f acc) e)
theorem OutL.push {f:α→List AV} {bytes t:Nat} {m:α} {l:List IOper} {a b:IOpd} {acc:List α} (hf:∀ a,(f a).length=esz) (h1:∀ a,(f a).all oneA=true) (hb0:0<bytes)
 (h:OutL f esz e hp o acc S) (hS:∀ x∈S,x<hp.length) (ha:(St.mk pe lo (hp++[some (.cells (f m) e)]) df).opd a=some o) (hb:(St.mk pe lo (hp++[some (.cells (f m) e)]) df).opd b=some (.sl hp.length 0 1 esz (some 1)))
 (hn:(acc.length+1)*bytes≤roomLimit) (hQ:∀ (H:Heap) (w':List Nat) o',OutL f esz e H o' (acc++[m]) S→(∀ x y,x∈S→hp.at x=some y→H.at x=some y)→(∀ x∈S,x<H.length)→WO M l ⟨⟨pe,(t,o')::lo,H,df⟩,w'⟩ Q):WO M (⟨.l t,.append e esz bytes a b,none⟩::l) ⟨⟨pe,lo,hp++[some (.cells (f m) e)],df⟩,wr⟩ Q:=by
 have hs:sliceCells (hp++[some (.cells (f m) e)]) (.sl hp.length 0 1 esz (some 1))=some (f m,1):=by
  have hl:=hf m
  simp only [sliceCells,at_new,Nat.one_mul,cut,List.drop_zero]
  rw [List.take_of_length_le (by omega),if_pos hl]
  rfl
 have hroom:1*bytes≤roomLimit:=by
  have:=Nat.mul_le_mul_right bytes (show 1≤acc.length+1 by omega)
  omega
 rcases h with ⟨rfl,rfl⟩|⟨c,hne,hcS,rfl,hc⟩
 · refine WO.apn ha hb hs ⟨by rw [hf,Nat.one_mul],hb0,h1 m⟩ ⟨by decide,hroom⟩ (hQ _ _ _ (.inr ⟨(hp++[some (Blk.cells (f m) e)]).length,by simp,fun hx=>?_,rfl,?_⟩) (fun x y _ hx=>at_old (at_old hx)) (fun x hx=>?_))
   · have:=hS _ hx;simp at this;omega
   · rw [at_new];simp [arr]
   · have:=hS x hx;simp;omega
 · refine WO.apo ha hb hs ⟨by rw [hf,Nat.one_mul],hb0,h1 m⟩ ⟨by decide,hn⟩ (at_old hc) (by rw [arr_length hf];omega) (hQ _ _ _ (.inr ⟨(hp++[some (Blk.cells (f m) e)]).length,by simp,fun hx=>?_,by simp,?_⟩) (fun x y hxS hx=>at_old (at_else (fun e=>hcS (e ▸ hxS)) (at_old hx))) (fun x hx=>?_))
   · have:=hS _ hx;simp at this;omega
   · have e':((hp++[some (Blk.cells (f m) e)]).put c none).length=(hp++[some (Blk.cells (f m) e)]).length:=put_length
     rw [← e',at_new]
     simp [arr]
   · have:=hS x hx;simp [put_length];omega
theorem OutL.fin {f:α→List AV} {acc:List α} (h:OutL f esz e hp o acc S):OutL f esz e (if (tupA [o]).top≤0 then [] else hp) o acc S:=by
 rcases h with ⟨h1,rfl⟩|⟨c,h0,h1,rfl,h2⟩
 · exact .inl ⟨h1,rfl⟩
 · refine .inr ⟨c,h0,h1,rfl,?_⟩
   rw [if_neg (by simp [tupA,AV.top])]
   exact h2
theorem OutL.old {f:α→List AV} {J:Heap} {acc:List α} (h:OutL f esz e hp o acc S):OutL f esz e (hp++J) o acc S:=by
 rcases h with h|⟨c,h0,h1,h2,h3⟩
 · exact .inl h
 · exact .inr ⟨c,h0,h1,h2,at_old h3⟩
end Go.Ab

/-
  Own work: contracts that are told by a relation; lists as arguments, of any elements; values that are compared with themselves.
-/
namespace Go.Ab
variable {h:Heap}
variable {M:Mach} {P:Program} {gl:Nat→Option AV}
open Classical in
noncomputable def specR (R:List AV→Heap→HR→Prop):Spec:=fun as h=>if e:∃ r,R as h r then some (Classical.choose e) else none
theorem specR_ok {f:Nat} {R:List AV→Heap→HR→Prop} (hR:∀ as h r,R as h r→EntHOK P gl ⟨f,as,h,r⟩):SpecOK P gl f (specR R):=by
 intro as h r hq
 unfold specR at hq
 split at hq
 · rename_i e
   cases hq
   exact hR _ _ _ (Classical.choose_spec e)
 · cases hq
theorem specR_eq {R:List AV→Heap→HR→Prop} {as:List AV} {r:HR} (hr:R as h r) (hd:∀ r',R as h r'→r'=r):specR R as h=some r:=by
 unfold specR
 rw [dif_pos ⟨r,hr⟩]
 exact congrArg some (hd _ (Classical.choose_spec (p:=fun r=>R as h r) ⟨r,hr⟩))
section
variable {α:Type} {f:α→List AV} {esz:Nat}
theorem arr_inj (hf:∀ a,(f a).length=esz) (hi:∀ a b,f a=f b→a=b):∀ {l m:List α},l.length=m.length→arr f l=arr f m→l=m
 | [],[],_,_=>rfl
 | a::l,b::m,hl,h=>by
  rw [arr_cons,arr_cons] at h
  have:=List.append_inj h (by rw [hf,hf])
  rw [hi _ _ this.1,arr_inj hf hi (by simpa using hl) this.2]
theorem Sl.uniq (hf:∀ a,(f a).length=esz) (hi:∀ a b,f a=f b→a=b) {h:Heap} {v:AV} {l m:List α} (h1:Sl f h v l) (h2:Sl f h v m):l=m:=by
 rcases h1 with ⟨rfl,rfl⟩|⟨c,rfl⟩|⟨b,off,ez,cap,c,e,rfl,hb,hc⟩
 · rcases h2 with ⟨_,rfl⟩|⟨c,h⟩|⟨b,off,ez,cap,c,e,h,_⟩
   · rfl
   · cases h
   · cases h
 · rcases h2 with ⟨h,_⟩|⟨c',h⟩|⟨b,off,ez,cap,c',e,h,_⟩
   · cases h
   · simp only [AV.vs.injEq] at h
     exact arr_inj hf hi h.2.1 h.1
   · cases h
 · rcases h2 with ⟨h,_⟩|⟨c',h⟩|⟨b',off',ez',cap',c',e',h,hb',hc'⟩
   · cases h
   · cases h
   · simp only [AV.sl.injEq] at h
     obtain ⟨rfl,rfl,hl,rfl,rfl⟩:=h
     rw [hb] at hb'
     cases hb'
     rw [← hl,hc] at hc'
     exact arr_inj hf hi hl (Option.some.inj hc')
theorem Sl.ofVs {l:List α} {cap:Option Nat}:Sl f h (.vs (arr f l) l.length cap) l:=.inr (.inl ⟨cap,rfl⟩)
theorem Sl.ofNil:Sl f h .nilsl ([]:List α):=.inl ⟨rfl,rfl⟩
theorem Sl.ofAt (hf:∀ a,(f a).length=esz) {h:Heap} {l:List α} {b n:Nat} {e:TypeId} {cap:Option Nat} (hb:h.at b=some (.cells (arr f l) e)) (hn:l.length=n):Sl f h (.sl b 0 n esz cap) l:=by
 subst hn
 refine .inr (.inr ⟨b,0,esz,cap,_,e,rfl,hb,?_⟩)
 have:=arr_cut hf (l:=l) (i:=0) (n:=l.length) (by omega)
 rw [Nat.zero_mul] at this
 rw [this];simp
theorem Sl.old {J:Heap} {v:AV} {l:List α} (hs:Sl f h v l):Sl f (h++J) v l:=by
 rcases hs with h|h|⟨b,off,ez,cap,c,e,h1,h2,h3⟩
 · exact .inl h
 · exact .inr (.inl h)
 · exact .inr (.inr ⟨b,off,ez,cap,c,e,h1,at_old h2,h3⟩)
end
theorem WO.eqV {t:Nat} {ty:EqT} {neg:Bool} {x y:IOpd} {l:List IOper} {pe:List AV} {lo:List (Nat×AV)} {hp:Heap} {df wr:List Nat} {a b:AV} {r:Bool} {Q:StW→Prop} (hx:(St.mk pe lo hp df).opd x=some a) (hy:(St.mk pe lo hp df).opd y=some b) (he:eqA 100 ty a b=some r)
 (h:WO M l ⟨⟨pe,(t,.bool (if neg then !r else r))::lo,hp,df⟩,wr⟩ Q):WO M (⟨.l t,.eq neg ty x y,none⟩::l) ⟨⟨pe,lo,hp,df⟩,wr⟩ Q:=
 WO.pl (v:=.bool (if neg then !r else r)) (by simp only [pureA,hx,hy,he]) rfl h
theorem WD.loadN {d:Dst} {b o k:Nat} {ag:Bool} {x:IOpd} {un:List Nat} {l:List (IOper×List Nat)} {s:StW} {ds:List Done} {Q:StW→Prop} (n:Nat) (ha:s.s.opd x=some (.ptr b o)) (hb:b<n) (hd:∀ y∈(un.flatMap fun j=>(ds[j]?).elim [] Done.own),n≤y)
 (h:WO M [⟨d,.load k ag x,none⟩] s fun s'=>WD M l s' (ds++[⟨some [b],[],0,0⟩]) Q):WD M ((⟨d,.load k ag x,none⟩,un)::l) s ds Q:=by
 refine WD.load1 ha rfl ?_ h
 simp only [disj,blkOf,List.all_cons,List.all_nil,Bool.and_true,Bool.not_eq_true',List.contains_eq_mem,decide_eq_false_iff_not]
 intro hm
 have:=hd b hm
 omega
end Go.Ab

/-
  Own work: arguments of any type without pointers, as the abstract machine sees them.
-/
namespace Go.Ab
variable {t:TypeId} {v:Value}
open Go.ChangeShapes Go.WideShapes Go.RowKit
inductive CellT
 | bool
 | int (k:IntKind)
 | str
 | slice (es:List CellT)
mutual
def Has:CellT→AV→Prop
 | .bool,x=>∃ b,x = .bool b
 | .int k,x=>∃ n,x = .int k n∧(Lit.int k n).wf=true
 | .str,x=>∃ s:List UInt8,x = .str s∧s.length≤maxLen
 | .slice es,x=>∃ ls:List (List AV),x = .vs ls.flatten ls.length none∧ls.length≤maxLen∧∀ c∈ls,HasL es c
def HasL:List CellT→List AV→Prop
 | [],l=>l=[]
 | t::ts,l=>∃ x r,l=x::r∧Has t x∧HasL ts r
end
theorem HasL.length:∀ {ts:List CellT} {l:List AV},HasL ts l→l.length=ts.length
 | [],l,h=>by simp only [HasL] at h;subst h;rfl
 | t::ts,l,h=>by
  simp only [HasL] at h
  obtain ⟨x,r,rfl,_,h2⟩:=h
  simp [h2.length]
theorem HasL.append:∀ {ts us:List CellT} {l m:List AV},HasL ts l→HasL us m→HasL (ts++us) (l++m)
 | [],us,l,m,h,h'=>by simp only [HasL] at h;subst h;exact h'
 | t::ts,us,l,m,h,h'=>by
  simp only [HasL] at h
  obtain ⟨x,r,rfl,h1,h2⟩:=h
  simp only [List.cons_append,HasL]
  exact ⟨x,r++m,rfl,h1,h2.append h'⟩
section
variable (P:Program)
def goS (rec:TypeId→Option (List CellT)):List Field→Nat→Option (List CellT)
 | [],_=>some []
 | f::fs,o=>if f.offset=o then match rec f.type with
     | some l=>if l.length=P.cellsOf f.type then (goS rec fs (o+l.length)).map (l ++ ·) else none
     | none=>none
   else none
def cts:Nat→TypeId→Option (List CellT)
 | 0,_=>none
 | n+1,t=>match P.underlying t with
   | some .bool=>some [.bool]
   | some (.int k)=>some [.int k]
   | some .string=>some [.str]
   | some (.slice e)=>match cts n e with
     | some (c::r)=>if (c::r).length=P.cellsOf e then some [.slice (c::r)] else none
     | _=>none
   | some (.struct fs)=>match goS P (cts n) fs.toList 0 with
     | some l=>if l.length=P.cellsOf t then some l else none
     | none=>none
   | some (.array m e)=>match cts n e with
     | some l=>if l.length=P.cellsOf e∧(List.replicate m l).flatten.length=P.cellsOf t then some (List.replicate m l).flatten else none
     | none=>none
   | _=>none
end
variable {H:Type} {enc:TypeId×Value→H} {P:Program} {W:World}
def Opens (H:Type) (enc:TypeId×Value→H) (P:Program) (W:World) (t:TypeId) (l:List CellT):Prop:=
 ∀ (fuel:Nat) (cs:List Value) (x:DataW H×List MemPlace),DataW.trod enc P W 0 (fun _=>true) true fuel t cs=some x→∃ xs,HasL l xs∧VL bare W xs cs
theorem open_fields (rec:TypeId→Option (List CellT)) (hrec:∀ t l,rec t=some l→Opens H enc P W t l) {cs:List Value}:∀ (fs:List Field) (o:Nat) (l:List CellT),goS P rec fs o=some l→o≤cs.length →
 (∀ (i:Nat) (f:Field),fs[i]? = some f→∃ (n:Nat) (x:DataW H×List MemPlace),DataW.trod enc P W 0 (fun _=>true) true n f.type ((cs.drop f.offset).take (P.cellsOf f.type))=some x) →
 ∃ xs,HasL l xs∧VL bare W xs ((cs.drop o).take l.length)
 | [],o,l,h,_,_=>by
  cases h
  exact ⟨[],rfl,by simpa using VL.nil⟩
 | f::fs,o,l,h,ho,hf=>by
  simp only [goS] at h
  split at h
  · rename_i hoff
    split at h
    · rename_i l1 hl1
      split at h
      · rename_i hlen
        rw [Option.map_eq_some_iff] at h
        obtain ⟨l2,hl2,rfl⟩:=h
        obtain ⟨n,x,hx⟩:=hf 0 f rfl
        rw [hoff,← hlen] at hx
        obtain ⟨xs1,g1,g2⟩:=hrec _ _ hl1 _ _ _ hx
        have e1:((cs.drop o).take l1.length).length=l1.length:=by rw [← g2.1,g1.length]
        have ho':o+l1.length≤cs.length:=by simp at e1;omega
        obtain ⟨xs2,g3,g4⟩:=open_fields rec hrec fs (o+l1.length) l2 hl2 ho' (fun i f hi=>hf (i+1) f hi)
        refine ⟨xs1++xs2,g1.append g3,?_⟩
        have e2:(cs.drop o).take (l1++l2).length=(cs.drop o).take l1.length++(cs.drop (o+l1.length)).take l2.length:=by
         rw [List.length_append,List.take_add,List.drop_drop]
        rw [e2]
        exact g2.append g4
      · cases h
    · cases h
  · cases h
theorem open_elems (l:List CellT) {e:TypeId} (he:Opens H enc P W e l) {cs:List Value}:∀ (m o:Nat),o+m*l.length≤cs.length →
 (∀ i,i<m→∃ (n:Nat) (x:DataW H×List MemPlace),DataW.trod enc P W 0 (fun _=>true) true n e ((cs.drop (o+i*l.length)).take l.length)=some x) →
 ∃ xs,HasL (List.replicate m l).flatten xs∧VL bare W xs ((cs.drop o).take (m*l.length))
 | 0,o,_,_=>⟨[],rfl,by simpa using VL.nil⟩
 | m+1,o,ho,h=>by
  obtain ⟨n,x,hx⟩:=h 0 (by omega)
  rw [Nat.zero_mul,Nat.add_zero] at hx
  obtain ⟨xs1,g1,g2⟩:=he _ _ _ hx
  have e0:(m+1)*l.length=l.length+m*l.length:=by rw [Nat.add_mul];omega
  obtain ⟨xs2,g3,g4⟩:=open_elems (cs:=cs) l he m (o+l.length) (by omega) (fun i hi=>by
   have:=h (i+1) (by omega)
   rwa [show o+(i+1)*l.length=o+l.length+i*l.length from by rw [Nat.add_mul];omega] at this)
  refine ⟨xs1++xs2,?_,?_⟩
  · rw [List.replicate_succ,List.flatten_cons]
    exact g1.append g3
  · rw [e0,List.take_add,List.drop_drop]
    exact g2.append g4
theorem flat_get {n:Nat}:∀ {ls:List (List AV)} {j:Nat} {x:AV},0<n→(∀ c∈ls,c.length=n)→ls.flatten[j]? = some x→∃ c,ls[j/n]? = some c∧c[j%n]? = some x
 | [],j,x,_,_,h=>by simp at h
 | a::ls,j,x,hn,hl,h=>by
  have ha:a.length=n:=hl a (by simp)
  rw [List.flatten_cons] at h
  rcases Nat.lt_or_ge j n with hj|hj
  · rw [List.getElem?_append_left (by omega)] at h
    refine ⟨a,?_,?_⟩
    · rw [Nat.div_eq_of_lt hj];rfl
    · rw [Nat.mod_eq_of_lt hj];exact h
  · rw [List.getElem?_append_right (by omega),ha] at h
    obtain ⟨c,h1,h2⟩:=flat_get (j:=j-n) hn (fun c hc=>hl c (by simp [hc])) h
    have e1:j/n=(j-n)/n+1:=by
     rw [← Nat.add_div_right _ hn,Nat.sub_add_cancel hj]
    have e2:j%n=(j-n)%n:=by
     rw [← Nat.mod_eq_sub_mod hj]
    rw [e1,e2]
    exact ⟨c,h1,h2⟩
theorem flat_length {n:Nat}:∀ {ls:List (List AV)},(∀ c∈ls,c.length=n)→ls.flatten.length=ls.length*n
 | [],_=>by simp
 | a::ls,h=>by
  rw [List.flatten_cons,List.length_append,h a (by simp),flat_length (fun c hc=>h c (by simp [hc])),List.length_cons,Nat.add_mul]
  omega
theorem open_ty:∀ (n:Nat) (t:TypeId) (l:List CellT),cts P n t=some l→Opens H enc P W t l
 | 0,t,l,h=>by cases h
 | n+1,t,l,h=>by
  intro fuel cs x hx
  unfold cts at h
  split at h
  · rename_i hu
    cases h
    obtain ⟨b,rfl,_⟩:=DataW.trod_bool hu hx
    exact ⟨[.bool b],by simp [HasL,Has],.cons (.bool b) .nil⟩
  · rename_i k hu
    cases h
    obtain ⟨z,rfl,_,hw⟩:=DataW.trod_int hu hx
    refine ⟨[.int k z],?_,.cons (.int k z) .nil⟩
    simp only [HasL,Has]
    exact ⟨_,[],rfl,⟨z,rfl,hw⟩,rfl⟩
  · rename_i hu
    cases h
    obtain ⟨z,rfl,_,hw⟩:=DataW.trod_string hu hx
    refine ⟨[.str z.data.toList],?_,.cons (.str' z) .nil⟩
    simp only [HasL,Has]
    have e:z.data.toList.length=z.size:=Array.length_toList
    exact ⟨_,[],rfl,⟨_,rfl,by rw [e];exact hw⟩,rfl⟩
  · rename_i e hu
    split at h
    · rename_i c r hc
      split at h
      · rename_i hlen
        cases h
        have he:=open_ty n e (c::r) hc
        rcases Go.Deep.open_slice hu hx with ⟨rfl,_⟩|⟨a,len,cap,m,k,D,Pl,rfl,_,hle,hcap,hm,_,hall⟩
        · refine ⟨[.vs [] 0 none],?_,.cons (.vsN (fun n hn=>by cases hn)) .nil⟩
          simp only [HasL,Has]
          exact ⟨_,[],rfl,⟨[],rfl,Nat.zero_le _,by simp⟩,rfl⟩
        · have hm':m=cap:=by simpa using hm
          subst hm'
          by_cases h0:m=0
          · subst h0
            obtain rfl:len=0:=by omega
            refine ⟨[.vs [] 0 none],?_,.cons (.vsE a (fun n hn=>by cases hn)) .nil⟩
            simp only [HasL,Has]
            exact ⟨_,[],rfl,⟨[],rfl,Nat.zero_le _,by simp⟩,rfl⟩
          · rw [← hlen] at hall
            have hn0:0<(c::r).length:=by simp
            generalize hes:(c::r)=es at *
            have hsp:a.spot=none:=by
             obtain ⟨cs',h1,_⟩:=hall 0 (by omega)
             obtain ⟨_,hl3,hc3⟩:=World.cells?_some h1
             have h5:=hc3 0 (by omega)
             rw [List.getElem?_eq_getElem (by omega)] at h5
             have:=World.cell?_spot h5
             simpa [Addr.add] using this
            obtain ⟨b,off,spot⟩:=a
            simp only at hsp
            subst hsp
            have hex:∀ i,i<len→∃ cx:List Value×List AV,W.cells? 0 ((Addr.mk b off none).add (i*es.length)) es.length=some cx.1∧HasL es cx.2∧VL bare W cx.2 cx.1:=fun i hi=>by
             obtain ⟨cs',h1,h2⟩:=hall i (by omega)
             obtain ⟨xs,h3,h4⟩:=he _ _ _ h2
             exact ⟨(cs',xs),h1,h3,h4⟩
            obtain ⟨f,hf⟩:=Go.Deep.choose_lt (α:=List Value×List AV) hex
            have hL:∀ c∈(List.range len).map (fun i=>(f i).2),HasL es c:=fun c hc=>by
             rw [List.mem_map] at hc
             obtain ⟨i,hi,rfl⟩:=hc
             exact (hf i (List.mem_range.1 hi)).2.1
            have hLl:∀ c∈(List.range len).map (fun i=>(f i).2),c.length=es.length:=fun c hc=>(hL c hc).length
            refine ⟨[.vs ((List.range len).map (fun i=>(f i).2)).flatten len none],?_,.cons ?_ .nil⟩
            · simp only [HasL,Has]
              exact ⟨_,[],rfl,⟨_,by simp,by simp;omega,hL⟩,rfl⟩
            · have hfl:=flat_length hLl
              rw [List.length_map,List.length_range] at hfl
              have hdiv:∀ i,i<len*es.length→i/es.length<len:=fun i hi=>(Nat.div_lt_iff_lt_mul hn0).2 hi
              refine .vs b off (fun j=>((f (j/es.length)).1[j%es.length]?).getD (.bool false)) (fun _=>free_bare) hle (fun n hn=>by cases hn) (fun j hj=>?_) (fun j x hx=>?_)
              · rw [hfl] at hj
                obtain ⟨h1,_,h3⟩:=hf _ (hdiv j hj)
                obtain ⟨_,hl3,hc3⟩:=World.cells?_some h1
                have hmod:=Nat.mod_lt j hn0
                have:=hc3 (j%es.length) (by omega)
                rw [add_plain,add_plain] at this
                have e:off+j=off+j/es.length*es.length+j%es.length:=by
                 have:=Nat.div_add_mod j es.length
                 rw [Nat.mul_comm] at this
                 omega
                rw [e,this,List.getElem?_eq_getElem (by omega)]
                rfl
              · obtain ⟨c',h1,h2⟩:=flat_get hn0 hLl hx
                have hlt:j<len*es.length:=by
                 rw [← hfl];exact (List.getElem?_eq_some_iff.1 hx).1
                have hd:=hdiv j hlt
                rw [List.getElem?_map,List.getElem?_range hd,Option.map_some] at h1
                cases h1
                obtain ⟨g1,g2,g3⟩:=hf _ hd
                have hmod:=Nat.mod_lt j hn0
                have hl3:j%es.length<(f (j/es.length)).1.length:=by rw [← g3.1,g2.length];exact hmod
                rw [List.getElem?_eq_getElem hl3]
                exact g3.2 _ _ _ h2 (List.getElem?_eq_getElem hl3)
      · cases h
    · cases h
  · rename_i fs hu
    split at h
    · rename_i l' hl'
      split at h
      · rename_i hlen
        cases h
        obtain ⟨xs,k,_,_,hcl,hxl,hall⟩:=DataW.trod_struct hu hx
        have:=open_fields (H:=H) (enc:=enc) (W:=W) (cs:=cs) (cts P n) (fun t l ht=>open_ty n t l ht) fs.toList 0 _ hl' (Nat.zero_le _) (fun i f hi=>by
         have h1:=hall i f (by simpa using hi)
         have hi':i<xs.length:=by
          rw [hxl]
          have:=(List.getElem?_eq_some_iff.1 hi).1
          simpa using this
         exact ⟨k,xs[i],by rw [h1,List.getElem?_eq_getElem hi']⟩)
        rw [List.drop_zero,List.take_of_length_le (by omega)] at this
        exact this
      · cases h
    · cases h
  · rename_i m e hu
    split at h
    · rename_i l' hl'
      split at h
      · rename_i hlen
        cases h
        obtain ⟨h1,h2⟩:=hlen
        obtain ⟨xs,k,_,_,hcl,hxl,hall⟩:=DataW.trod_array hu hx
        have e2:m*l'.length=cs.length:=by rw [hcl,← h2];simp
        have:=open_elems (H:=H) (enc:=enc) (W:=W) (cs:=cs) l' (open_ty n e l' hl') m 0 (by omega) (fun i hi=>by
         rw [Nat.zero_add,h1]
         exact ⟨k,xs[i],by rw [hall i hi,List.getElem?_eq_getElem (by omega)]⟩)
        rw [List.drop_zero,List.take_of_length_le (by omega)] at this
        exact this
      · cases h
    · cases h
  · cases h
theorem arg_cell {n:Nat} {c:CellT} {base:Nat} {d:DataW H} {ps:List MemPlace} (hc:cts P n t=some [c]) (hv:v.cells.toList=[v]) (h:DataW.Trod enc P W base (fun _=>true) true t v d ps) (hb:base=0):∃ x,Has c x∧V bare W x v:=by
 subst hb
 obtain ⟨fuel,hf⟩:=h
 rw [hv] at hf
 obtain ⟨xs,h1,h2⟩:=open_ty n t _ hc _ _ _ hf
 simp only [HasL] at h1
 obtain ⟨x,r,rfl,h3,rfl⟩:=h1
 exact ⟨x,h3,h2.2 0 x v rfl rfl⟩
theorem arg_row {n:Nat} {l:List CellT} {d:DataW H} {ps:List MemPlace} {cs:Array Value} (hc:cts P n t=some l) (hv:v = .agg cs) (h:DataW.Trod enc P W 0 (fun _=>true) true t v d ps):∃ xs,HasL l xs∧V bare W (.agg xs) v:=by
 subst hv
 obtain ⟨fuel,hf⟩:=h
 obtain ⟨xs,h1,h2⟩:=open_ty n t _ hc _ _ _ hf
 refine ⟨xs,h1,?_⟩
 have:=V.agg (ρ:=bare) (w:=W) h2.1 h2.2
 have e:(Value.agg cs).cells.toList.toArray=cs:=by
  show cs.toList.toArray=cs
  simp
 rwa [e] at this
def isRow (P:Program) (t:TypeId):Bool:=match P.underlying t with
 | some (.struct _)=>true
 | some (.array _ _)=>true
 | _=>false
theorem row_form {w:World} {r:Reach} {base:Nat} (hr:isRow P t=true) (h:Value.okWide P w r base t v):∃ cs,v = .agg cs:=by
 unfold isRow at hr
 split at hr
 · rename_i fs hu
   simp only [Value.okWide,hu] at h
   obtain ⟨cs,rfl,_⟩:=h
   exact ⟨cs,rfl⟩
 · rename_i n e hu
   simp only [Value.okWide,hu] at h
   obtain ⟨cs,rfl,_⟩:=h
   exact ⟨cs,rfl⟩
 · cases hr
theorem has_arr {α:Type} {f:α→List AV} {es:List CellT} (hf:∀ c,HasL es c→∃ a,c=f a):∀ ls:List (List AV),(∀ c∈ls,HasL es c)→∃ l:List α,ls.flatten=arr f l∧ls.length=l.length
 | [],_=>⟨[],rfl,rfl⟩
 | c::ls,h=>by
  obtain ⟨a,rfl⟩:=hf c (h c (by simp))
  obtain ⟨l,h1,h2⟩:=has_arr hf ls (fun c hc=>h c (by simp [hc]))
  exact ⟨a::l,by rw [List.flatten_cons,h1,arr_cons],by simp [h2]⟩
theorem has_slice {α:Type} {f:α→List AV} {es:List CellT} (hf:∀ c,HasL es c→∃ a,c=f a) {x:AV} (h:Has (.slice es) x):∃ l:List α,x = .vs (arr f l) l.length none∧l.length≤maxLen:=by
 simp only [Has] at h
 obtain ⟨ls,rfl,h1,h2⟩:=h
 obtain ⟨l,h3,h4⟩:=has_arr hf ls h2
 exact ⟨l,by rw [h3,h4],by omega⟩
end Go.Ab

/-
  Own work: what a call has made is handed back by its contents: no block of the caller's is added.
-/
namespace Go.Ab
variable {FT:FuncId→Option IFunc}
variable {P:Program} {gl:Nat→Option AV}
def nob (ρ:Own):Own:=⟨fun _=>.fresh,ρ.X⟩
theorem Free.nob {ρ:Own} {c:Nat} (h:¬ ρ.X c):Free (nob ρ) c:=⟨fun b d hb=>by simp [Go.Ab.nob] at hb,h⟩
theorem did_frz (hgl:∀ g v,gl g=some v→v.top=0) {w:World} {ρ:Own} {T:List Nat} {v v1:AV} {hh:Heap} {v':Value} {w':World} (hf:Fr hh T v v1) (ht:v1.top=0) (hd:Did P gl (frz ρ []) [] w ⟨v,hh,[]⟩ v' w'):Did P gl (frz ρ []) [] w ⟨v1,[],[]⟩ v' w':=by
 obtain ⟨ρ',hv,m',x⟩:=hd
 have hF:∀ c,Free (frz ρ' T) c→Free (nob ρ') c:=fun c hc=>Free.nob fun hx=>hc.2 (.inl hx)
 have hF':∀ c,Free ρ' c→Free (nob ρ') c:=fun c hc=>Free.nob hc.2
 refine ⟨nob ρ',(hf.view m' hv).transfer (n:=0) (fun b hb=>by omega) hF (by omega),?_,?_⟩
 · refine ⟨fun b o hb=>by simp at hb,fun b _=>rfl,fun b b' c d d' h1=>by simp [nob] at h1,fun b c d h1=>by simp [nob] at h1,m'.xb,fun b c d h1=>by simp [nob] at h1,fun g v hg=>?_⟩
   exact (m'.gl g v hg).transfer (n:=0) (fun b hb=>by omega) hF' (by rw [hgl g v hg];exact Nat.le_refl _)
 · refine ⟨x.os,x.tape,x.output,x.size,Nat.le_refl _,x.X,fun b hb=>by simp at hb,fun b hb=>by simp at hb,fun b c d hb=>by simp [frz] at hb,fun b hb=>by simp [frz] at hb,fun b hb=>by simp [frz] at hb,fun c hc _=>x.old c hc (fun b d hb=>by simp [frz] at hb),fun b c d hb _=>by simp [nob] at hb,x.shape⟩
theorem ent_frz (hgl:∀ g v,gl g=some v→v.top=0) {f:Nat} {as:List AV} {h:Heap} {v v1:AV} {hh:Heap} {T:List Nat} (ha:topL as=0) (hf:Fr hh T v v1) (ht:v1.top=0) (hloc:EntHOK P gl ⟨f,as,[],⟨v,hh,[]⟩⟩):EntHOK P gl ⟨f,as,h,⟨v1,h,[]⟩⟩:=by
 refine ⟨⟨Nat.le_refl _,fun _ _ _=>rfl⟩,fun ρ w as' m hl=>?_⟩
 obtain ⟨nx,w1,h1,h2⟩:=hloc.2 (frz ρ []) w as' (m.frz hgl []) ((FrL.same ha).view m hl)
 refine ⟨nx,w1,h1,h2.mono fun v w' hd=>?_⟩
 have:=did_view (S:=[]) (ks:=[]) (bs:=[]) m (by simp) (.same ht) rfl (by simp) (.inl rfl) (did_frz hgl hf ht hd)
 simpa using this
theorem ent_runF (hs:Seat P gl FT) {T:List (Nat×Spec)} (hT:ExtOK P gl (extS T)) {f:Nat} {as:List AV} {h hh:Heap} {B:List Nat} {v v1:AV} (hr:Run (mach P FT T) f as [] ⟨v,hh,[]⟩) (ha:topL as=0) (hf:Fr hh B v v1) (ht:v1.top=0):EntHOK P gl ⟨f,as,h,⟨v1,h,[]⟩⟩:=
 ent_frz hs.gl ha hf ht (run_ok hs hT hr ⟨Nat.zero_le _,fun _ hb=>absurd hb (Nat.not_lt_zero _)⟩)
def newO (N:Nat):Own:=⟨fun _=>.fresh,fun c=>c<N⟩
theorem Free.newO {N c:Nat} (h:N≤c):Free (newO N) c:=⟨fun b d hb=>by simp [Go.Ab.newO] at hb,fun hx=>absurd hx (by show ¬ c<N;omega)⟩
theorem Fr.viewN {ρ:Own} {h:Heap} {w:World} (m:Mem P gl ρ h w) {N:Nat} (hnew:∀ b c d,ρ b = .live c d→N≤c) {T:List Nat} (hT:∀ b l e,b∈T→h.at b=some (.cells l e)→novL l=true) {a a0:AV} (hr:Fr h T a a0):nov a=true→a0.top=0→∀ {v:Value},V ρ w a v→V (newO N) w a0 v:=by
 have hat:∀ {b o},h.at b=some o→h[b]? = some (some o):=fun {b o} hb=>by
  unfold Heap.at at hb
  cases hz:h[b]? with
  | none=>rw [hz] at hb;cases hb
  | some z=>rw [hz] at hb;simp only [Option.join_some] at hb;rw [hb]
 have cutN:∀ {l m':List AV} {off n:Nat},novL l=true→cut l off n=some m'→∀ (i:Nat) x,m'[i]? = some x→nov x=true:=fun {l m' off n} hn hc i x hx=>by
  simp only [cut] at hc
  split at hc
  · cases hc
    rw [List.getElem?_take] at hx
    split at hx
    · rw [List.getElem?_drop] at hx;exact novL_get hn hx
    · cases hx
  · cases hc
 induction hr with
 | same ht=>exact fun hn _ v hv=>same_nov ht hn hv
 | nil hc=>
  intro _ _ v hv
  cases hv
  exact .vsN hc
 | @sl b off len esz cap cap' l m' m0 e hb ha hc hl hg hcc ih=>
  intro _ ht v hv
  simp only [AV.top] at ht
  have ih':∀ (i:Nat) x y,m'[i]? = some x→m0[i]? = some y→∀ {v:Value},V ρ w x v→V (newO N) w y v:=fun i x y hx hy {v} hv=>
   ih i x y hx hy (cutN (hT b l e hb ha) hc i x hx) (by have:=topL_le (n:=0) (by omega) i y hy;omega) hv
  have hB:=m.blk b _ (hat ha)
  have hcut:m'.length=len*esz∧∀ i,i<m'.length→m'[i]? = l[off+i]? := by
   simp only [cut] at hc
   split at hc
   · rename_i hlen
     cases hc
     refine ⟨hlen,fun i hi=>?_⟩
     rw [List.getElem?_take,if_pos (by omega),List.getElem?_drop]
   · cases hc
  cases hv with
  | @sl _ c d _ _ _ capC _ h1 h2 h3 h4=>
   have h3:∀ n,cap'=some n→capC=n:=fun n hn=>by
    rcases hcc with rfl|rfl
    · exact h3 n hn
    · cases hn
   rcases hB with ⟨c',d',cs,fr,g1,g2,g3,g4,g5⟩|⟨g1,_⟩
   · rw [h1] at g1;cases g1
     refine .vs c (off+d) (fun i=>cs.getD (off+d+i) (.bool false)) (fun _=>Free.newO (hnew _ _ _ h1)) h2 h3 (fun i hi=>?_) (fun i y hy=>?_)
     · have hi':i<m'.length:=by omega
       have hlt:off+i<l.length:=by
        have:=hcut.2 i hi'
        rw [List.getElem?_eq_getElem hi'] at this
        exact (List.getElem?_eq_some_iff.1 this.symm).1
       have:off+d+i<cs.size:=by have:=g3.1;omega
       simp only [World.cell?,g2]
       simp [this,Array.getD]
     · have hi:i<m0.length:=(List.getElem?_eq_some_iff.1 hy).1
       have hi':i<m'.length:=by omega
       have hx:=hcut.2 i hi'
       rw [List.getElem?_eq_getElem hi'] at hx
       have hlt:off+i<l.length:=(List.getElem?_eq_some_iff.1 hx.symm).1
       have hs:off+d+i<cs.size:=by have:=g3.1;omega
       refine ih' i m'[i] y (List.getElem?_eq_getElem hi') hy ?_
       refine g5 (off+i) _ _ hx.symm ?_
       rw [show off+i+d=off+d+i from by omega]
       simp [hs,Array.getD]
   · rw [h1] at g1;cases g1
  | @slN _ _ h1=>
   rcases hB with ⟨c',d',cs,fr,g1,_⟩|⟨g1,g2⟩
   · rw [h1] at g1;cases g1
   · have:m0=[]:=List.eq_nil_of_length_eq_zero (by omega)
     subst this
     exact .vsN (by rcases hcc with rfl|rfl <;> simp)
  | slD c o' h1 _ _=>
   rcases hB with ⟨c',d',cs,fr,g1,_⟩|⟨g1,g2⟩ <;> (rw [h1] at g1;cases g1)
  | slDE a h1=>
   rcases hB with ⟨c',d',cs,fr,g1,_⟩|⟨g1,g2⟩ <;> (rw [h1] at g1;cases g1)
  | slND h1=>
   rcases hB with ⟨c',d',cs,fr,g1,_⟩|⟨g1,g2⟩ <;> (rw [h1] at g1;cases g1)
 | @ptr b off l m0 e hb ha hl hg ih=>
  intro _ ht v hv
  simp only [AV.top] at ht
  have hB:=m.blk b _ (hat ha)
  cases hv with
  | @ptr _ c d _ h1=>
   rcases hB with ⟨c',d',cs,fr,g1,g2,g3,g4,g5⟩|⟨g1,_⟩
   · rw [h1] at g1;cases g1
     refine .vp c (off+d) (fun i=>cs.getD (off+d+i) (.bool false)) (fun _=>Free.newO (hnew _ _ _ h1)) (fun i hi=>?_) (fun i y hy=>?_)
     · have:off+d+i<cs.size:=by have:=g3.1;simp at hl;omega
       simp only [World.cell?,g2]
       simp [this,Array.getD]
     · have hi:i<m0.length:=(List.getElem?_eq_some_iff.1 hy).1
       have hi':i<(l.drop off).length:=by omega
       have hlt:off+i<l.length:=by simp at hi';omega
       have hs:off+d+i<cs.size:=by have:=g3.1;omega
       refine ih i _ y (List.getElem?_eq_getElem hi') hy ?_ (by have:=topL_le (n:=0) (by omega) i y hy;omega) ?_
       · rw [List.getElem_drop]
         exact novL_get (hT b l e hb ha) (List.getElem?_eq_getElem hlt)
       · refine g5 (off+i) _ _ (by rw [List.getElem_drop];exact List.getElem?_eq_getElem hlt) ?_
         rw [show off+i+d=off+d+i from by omega]
         simp [hs,Array.getD]
   · rw [h1] at g1;cases g1
  | ptrD _ c o' h1=>
   rcases hB with ⟨c',d',cs,fr,g1,_⟩|⟨g1,g2⟩ <;> (rw [h1] at g1;cases g1)
 | @vs l l0 n cap hl hg ih=>
  intro hn _ v hv
  simp only [nov,List.isEmpty_iff] at hn
  subst hn
  have:l0=[]:=List.eq_nil_of_length_eq_zero (by simp at hl;omega)
  subst this
  cases hv with
  | vs c o g hf h2 h3 h4 h5=>exact .vs c o g (fun h=>absurd rfl h) h2 h3 (by simp) (by simp)
  | vsN hc=>exact .vsN hc
  | vsE a hc=>exact .vsE a hc
 | @agg l l0 hl hg ih=>
  intro hn ht v hv
  simp only [nov] at hn
  simp only [AV.top] at ht
  cases hv with
  | @agg _ mm h1 h2=>
   refine .agg (by omega) fun i y z hy hz=>?_
   have hi:i<l.length:=by have:=(List.getElem?_eq_some_iff.1 hy).1;omega
   exact ih i _ y (List.getElem?_eq_getElem hi) hy (novL_get hn (List.getElem?_eq_getElem hi)) (by have:=topL_le (n:=0) (by omega) i y hy;omega) (h2 i _ z (List.getElem?_eq_getElem hi) hz)
 | @tup l l0 hl hg ih=>
  intro hn ht v hv
  simp only [nov] at hn
  simp only [AV.top] at ht
  cases hv with
  | @tup _ mm h1 h2=>
   refine .tup (by omega) fun i y z hy hz=>?_
   have hi:i<l.length:=by have:=(List.getElem?_eq_some_iff.1 hy).1;omega
   exact ih i _ y (List.getElem?_eq_getElem hi) hy (novL_get hn (List.getElem?_eq_getElem hi)) (by have:=topL_le (n:=0) (by omega) i y hy;omega) (h2 i _ z (List.getElem?_eq_getElem hi) hz)
 | @fn f fi fi0 ca ca0 hf h1 h2 g1 g2 ih1 ih2=>
  intro hn ht v hv
  simp only [nov,Bool.and_eq_true] at hn
  have hh:topL fi0≤0∧topL ca0≤0:=by
   cases f <;> simp only [AV.top] at ht <;> exact ⟨by omega,by omega⟩
  cases hv with
  | fn hf' a1 a2 a3 a4=>
   refine .fn hf (by omega) (by omega) (fun i y z hy hz=>?_) (fun i y z hy hz=>?_)
   · have hi:i<fi.length:=by have:=(List.getElem?_eq_some_iff.1 hy).1;omega
     exact ih1 i _ y (List.getElem?_eq_getElem hi) hy (novL_get hn.1 (List.getElem?_eq_getElem hi)) (by have:=topL_le hh.1 i y hy;omega) (a3 i _ z (List.getElem?_eq_getElem hi) hz)
   · have hi:i<ca.length:=by have:=(List.getElem?_eq_some_iff.1 hy).1;omega
     exact ih2 i _ y (List.getElem?_eq_getElem hi) hy (novL_get hn.2 (List.getElem?_eq_getElem hi)) (by have:=topL_le hh.2 i y hy;omega) (a4 i _ z (List.getElem?_eq_getElem hi) hz)
  | yield _=>exact absurd rfl (hf _)
  | fnD _ _=>exact absurd rfl (hf _)
theorem did_frzN {w:World} {ρ:Own} {h:Heap} (m:Mem P gl ρ h w) {S T:List Nat} {v v1:AV} {hh:Heap} {v':Value} {w':World} (hf:Fr hh T v v1) (hn:nov v=true) (hT:∀ b l e,b∈T→hh.at b=some (.cells l e)→novL l=true) (ht:v1.top=0) (hd:Did P gl (frz ρ S) [] w ⟨v,hh,[]⟩ v' w'):Did P gl ρ h w ⟨v1,h,[]⟩ v' w':=by
 obtain ⟨ρ',hv,m',x⟩:=hd
 have old:∀ c,c<w.heap.size→w'.heap[c]? = w.heap[c]? := fun c hc=>x.old c hc fun b d hb=>by simp [Go.Ab.frz] at hb
 have new:∀ b c d,ρ' b = .live c d→w.heap.size≤c:=fun b c d hb=>by
  rcases Nat.lt_or_ge c w.heap.size with hc|hc
  · rcases x.back b c d hb hc with h1|⟨b0,d0,h1,_⟩ <;> simp [Go.Ab.frz] at h1
  · exact hc
 have hV:=hf.viewN m' new hT hn ht hv
 have hF:∀ c,Free (newO w.heap.size) c→Free ρ c:=fun c hc=>by
  have hge:w.heap.size≤c:=by
   rcases Nat.lt_or_ge c w.heap.size with h|h
   · exact absurd h hc.2
   · exact h
  exact ⟨fun b d hb=>by have:=m.bound b c d hb;omega,fun hx=>by have:=m.xb c hx;omega⟩
 have E:Ext h h ρ ρ w w':=⟨x.os,x.tape,x.output,x.size,Nat.le_refl _,rfl,fun _ h=>h,fun _ _=>rfl,fun _ _ _ h=>.inl h,fun _ h=>h,fun _ h=>.inl h,fun c hc _=>old c hc,fun b c d hb _=>.inl hb,x.shape⟩
 refine ⟨ρ,hV.transfer (n:=0) (fun b hb=>by omega) hF (by omega),m.ext E ?_ m.fresh m.inj ?_,E⟩
 · intro b o hb
   exact (m.blk b o hb).mono E rfl fun c d hl=>old c (m.bound b c d hl)
 · intro b c d hb
   exact Nat.lt_of_lt_of_le (m.bound b c d hb) x.size
theorem ent_runFN (hs:Seat P gl FT) {T:List (Nat×Spec)} (hT:ExtOK P gl (extS T)) {f:Nat} {as as0:List AV} {h hh:Heap} {S B:List Nat} {v v1:AV} (hr:Run (mach P FT T) f as0 [] ⟨v,hh,[]⟩) (hv:FrL h S as as0) (hf:Fr hh B v v1) (hn:nov v=true) (hB:∀ b l e,b∈B→hh.at b=some (.cells l e)→novL l=true) (ht:v1.top=0):EntHOK P gl ⟨f,as,h,⟨v1,h,[]⟩⟩:=by
 have hloc:=run_ok hs hT hr ⟨Nat.zero_le _,fun _ hb=>absurd hb (Nat.not_lt_zero _)⟩
 refine ⟨⟨Nat.le_refl _,fun _ _ _=>rfl⟩,fun ρ w as' m hl=>?_⟩
 obtain ⟨nx,w1,h1,h2⟩:=hloc.2 (frz ρ S) w as' (m.frz hs.gl S) (hv.view m hl)
 exact ⟨nx,w1,h1,h2.mono fun v w' hd=>did_frzN m hf hn hB ht hd⟩
def FrN (hh:Heap) (v v1:AV):Prop:=∃ B,Fr hh B v v1∧nov v=true∧∀ b l e,b∈B→hh.at b=some (.cells l e)→novL l=true
theorem FrN.same {hh:Heap} {v:AV} (ht:v.top=0) (hn:nov v=true):FrN hh v v:=⟨[],.same ht,hn,by simp⟩
theorem FrN.nil {hh:Heap}:FrN hh .nilsl (.vs [] 0 none):=⟨[],.nil (fun n hn=>by cases hn),rfl,by simp⟩
theorem ent_runN (hs:Seat P gl FT) {T:List (Nat×Spec)} (hT:ExtOK P gl (extS T)) {f:Nat} {as as0:List AV} {h hh:Heap} {S:List Nat} {v v1:AV} (hr:Run (mach P FT T) f as0 [] ⟨v,hh,[]⟩) (hv:FrL h S as as0) (hf:FrN hh v v1) (ht:v1.top=0):EntHOK P gl ⟨f,as,h,⟨v1,h,[]⟩⟩:=by
 obtain ⟨B,h1,h2,h3⟩:=hf
 exact ent_runFN hs hT hr hv h1 h2 h3 ht
end Go.Ab

/-
  Own work: loops by an invariant; parts of lists; lists that grow, of elements that refer to blocks.
-/
namespace Go.Ab
variable {I:StW→Prop} {s:StW} {h H:Heap} {S:List Nat} {e:TypeId} {o:AV}
variable {M:Mach}
structure LI (I:StW→Prop) (Q:Ex→StW→Prop) (e:Ex) (s:StW):Prop where
 out:match e with
  | .normal=>I s
  | e=>Q e s
theorem LIn {Q:Ex→StW→Prop} (h:I s):LI I Q .normal s:=⟨h⟩
theorem LIe {Q:Ex→StW→Prop} {i:Nat} (h:Q (.exit i) s):LI I Q (.exit i) s:=⟨h⟩
theorem LIr {Q:Ex→StW→Prop} (h:Q .ret s):LI I Q .ret s:=⟨h⟩
theorem W.loopM {c:ICode} {Q:Ex→StW→Prop} (I:Nat→StW→Prop) (hs:∀ m s,I m s→W M c s (LI (fun s'=>∃ m',m'<m∧I m' s') Q)):∀ {m:Nat} {s:StW},I m s→W M (.loop c) s Q:=by
 intro m
 induction m using Nat.strongRecOn with
 | ind m ih=>
  intro s h
  refine W.loop ((hs m s h).mono fun e s' he=>?_)
  cases e with
  | normal=>
   obtain ⟨m',hm,hI⟩:=he.out
   exact ⟨ih m' hm hI⟩
  | exit i=>exact ⟨he.out⟩
  | ret=>exact ⟨he.out⟩
theorem W.loopI {c:ICode} {Q:Ex→StW→Prop} (n:Nat) (I:Nat→StW→Prop) (hs:∀ i s,i<n→I i s→W M c s (LI (I (i+1)) Q)) (he:∀ s,I n s→W M c s (LI (fun _=>False) Q)) {i:Nat} {s:StW} (hi:i≤n) (h:I i s):W M (.loop c) s Q:=by
 refine W.loopM (fun m s=>m≤n∧I (n-m) s) (fun m s ⟨hm,h⟩=>?_) (m:=n-i) ⟨Nat.sub_le _ _,by rwa [Nat.sub_sub_self hi]⟩
 rcases Nat.eq_zero_or_pos m with rfl|h0
 · exact (he s h).mono fun e s' he=>⟨by
    cases e with
    | normal=>exact he.out.elim
    | exit i=>exact he.out
    | ret=>exact he.out⟩
 · refine (hs (n-m) s (by omega) h).mono fun e s' he=>⟨?_⟩
   cases e with
   | normal=>exact ⟨m-1,by omega,by omega,by have:=he.out;rwa [show n-m+1=n-(m-1) by omega] at this⟩
   | exit i=>exact he.out
   | ret=>exact he.out
section
variable {α:Type} {f:α→List AV} {esz t:Nat} {x y:IOpd} {L:List IOper} {pe:List AV} {lo:List (Nat×AV)} {hp:Heap} {df wr:List Nat} {l:List α} {cap:Option Nat} {k:IntKind} {n:Int} {Q:StW→Prop}
end
theorem Fr.keep (hk:∀ b o,b∈S→h.at b=some o→H.at b=some o) {x y:AV} (hf:Fr h S x y):Fr H S x y:=by
 induction hf with
 | same ht=>exact .same ht
 | nil hc=>exact .nil hc
 | sl hb ha hc hl _ hcc ih=>exact .sl hb (hk _ _ hb ha) hc hl ih hcc
 | ptr hb ha hl _ ih=>exact .ptr hb (hk _ _ hb ha) hl ih
 | vs hl _ ih=>exact .vs hl ih
 | agg hl _ ih=>exact .agg hl ih
 | tup hl _ ih=>exact .tup hl ih
 | fn hf h1 h2 _ _ ih1 ih2=>exact .fn hf h1 h2 ih1 ih2
theorem FrL.keep (hk:∀ b o,b∈S→h.at b=some o→H.at b=some o) {x y:List AV} (hf:FrL h S x y):FrL H S x y:=⟨hf.1,fun i a b ha hb=>(hf.2 i a b ha hb).keep hk⟩
theorem FrL.mono {S':List Nat} (hs:∀ b∈S,b∈S') {x y:List AV} (hf:FrL h S x y):FrL h S' x y:=⟨hf.1,fun i a b ha hb=>(hf.2 i a b ha hb).mono hs⟩
theorem FrL.append {x y x' y':List AV} (h1:FrL h S x y) (h2:FrL h S x' y'):FrL h S (x++x') (y++y'):=by
 refine ⟨by simp [h1.1,h2.1],fun i a b ha hb=>?_⟩
 rcases Nat.lt_or_ge i x.length with hi|hi
 · rw [List.getElem?_append_left hi] at ha
   rw [List.getElem?_append_left (by rw [← h1.1];exact hi)] at hb
   exact h1.2 i a b ha hb
 · rw [List.getElem?_append_right hi] at ha
   rw [List.getElem?_append_right (by rw [← h1.1];exact hi),← h1.1] at hb
   exact h2.2 _ a b ha hb
def OutF {α:Type} (f:α→List AV) (esz:Nat) (e:TypeId) (hp:Heap) (o:AV) (acc:List α) (S:List Nat):Prop:=
 (acc=[]∧o = .nilsl)∨∃ c cs,acc≠[]∧c∉S∧o = .sl c 0 acc.length esz none∧hp.at c=some (.cells cs e)∧cs.length=acc.length*esz∧cs.all oneA=true∧FrL hp S cs (arr f acc)
theorem OutF.nil {α:Type} {f:α→List AV} {esz:Nat} {hp:Heap}:OutF f esz e hp .nilsl ([]:List α) S:=.inl ⟨rfl,rfl⟩
theorem OutF.keep {α:Type} {f:α→List AV} {esz:Nat} {hp:Heap} {acc:List α} {S':List Nat} (h:OutF f esz e hp o acc S) (hk:∀ b x,hp.at b=some x→H.at b=some x) (hs:∀ b∈S,b∈S') (hn:∀ b∈S',b∉S→hp.length≤b):OutF f esz e H o acc S':=by
 rcases h with h|⟨c,cs,h0,hc,h1,h2,h3,h4,h5⟩
 · exact .inl h
 · exact .inr ⟨c,cs,h0,fun hx=>by have:=hn c hx hc;have:=at_lt h2;omega,h1,hk _ _ h2,h3,h4,(h5.mono hs).keep fun b x _=>hk b x⟩
theorem OutF.push {α:Type} {f:α→List AV} {esz bytes t:Nat} {m:α} {m':List AV} {l:List IOper} {pe:List AV} {lo:List (Nat×AV)} {hp:Heap} {df wr:List Nat} {a b:IOpd} {acc:List α} {Q:StW→Prop} (hm:FrL hp S m' (f m)) (hm1:m'.length=esz) (h1:m'.all oneA=true) (hb0:0<bytes)
 (h:OutF f esz e hp o acc S) (hS:∀ x∈S,x<hp.length) (ha:(St.mk pe lo (hp++[some (.cells m' e)]) df).opd a=some o) (hb:(St.mk pe lo (hp++[some (.cells m' e)]) df).opd b=some (.sl hp.length 0 1 esz (some 1)))
 (hn:(acc.length+1)*bytes≤roomLimit) (hQ:∀ (H:Heap) (w':List Nat) o',OutF f esz e H o' (acc++[m]) S→(∀ x y,x∈S→hp.at x=some y→H.at x=some y)→(∀ x∈S,x<H.length)→hp.length≤H.length→WO M l ⟨⟨pe,(t,o')::lo,H,df⟩,w'⟩ Q):WO M (⟨.l t,.append e esz bytes a b,none⟩::l) ⟨⟨pe,lo,hp++[some (.cells m' e)],df⟩,wr⟩ Q:=by
 have hs:sliceCells (hp++[some (.cells m' e)]) (.sl hp.length 0 1 esz (some 1))=some (m',1):=by
  simp only [sliceCells,at_new,Nat.one_mul,cut,List.drop_zero]
  rw [List.take_of_length_le (by omega),if_pos hm1]
  rfl
 have hroom:1*bytes≤roomLimit:=by
  have:=Nat.mul_le_mul_right bytes (show 1≤acc.length+1 by omega)
  omega
 rcases h with ⟨rfl,rfl⟩|⟨c,cs,hne,hcS,rfl,hc,hl,h1',hF⟩
 · refine WO.apn ha hb hs ⟨by rw [hm1,Nat.one_mul],hb0,h1⟩ ⟨by decide,hroom⟩ (hQ _ _ _ (.inr ⟨(hp++[some (Blk.cells m' e)]).length,m',by simp,fun hx=>?_,rfl,?_,by simp [hm1],h1,?_⟩) (fun x y _ hx=>at_old (at_old hx)) (fun x hx=>?_) (by simp))
   · have:=hS _ hx;simp at this;omega
   · rw [at_new]
   · rw [show arr f ([]++[m])=f m from by simp [arr]]
     exact hm.keep fun b o _ hb=>at_old (at_old hb)
   · have:=hS x hx;simp;omega
 · refine WO.apo ha hb hs ⟨by rw [hm1,Nat.one_mul],hb0,h1⟩ ⟨by decide,hn⟩ (at_old hc) (by omega) (hQ _ _ _ (.inr ⟨(hp++[some (Blk.cells m' e)]).length,cs++m',by simp,fun hx=>?_,by simp,?_,by simp [hl,hm1,Nat.add_mul],by rw [List.all_append,h1',h1];rfl,?_⟩) (fun x y hxS hx=>at_old (at_else (fun e=>hcS (e ▸ hxS)) (at_old hx))) (fun x hx=>?_) (by simp [put_length];omega))
   · have:=hS _ hx;simp at this;omega
   · have e':((hp++[some (Blk.cells m' e)]).put c none).length=(hp++[some (Blk.cells m' e)]).length:=put_length
     rw [← e',at_new]
     simp
   · rw [arr_append]
     refine FrL.append (hF.keep fun b o hbS hb=>at_old (at_else (fun ee=>hcS (by rw [← ee];exact hbS)) (at_old hb))) ?_
     rw [show arr f [m]=f m from by simp [arr]]
     exact hm.keep fun b o hbS hb=>at_old (at_else (fun ee=>hcS (by rw [← ee];exact hbS)) (at_old hb))
   · have:=hS x hx;simp [put_length];omega
theorem OutL.grow {α:Type} {f:α→List AV} {esz:Nat} {hp:Heap} {acc:List α} (h:OutL f esz e hp o acc []) (x:Option Blk):OutL f esz e (hp++[x]) o acc [hp.length]:=by
 rcases h with h|⟨c,h0,h1,h2,h3⟩
 · exact .inl h
 · exact .inr ⟨c,h0,by have:=at_lt h3;simp;omega,h2,at_old h3⟩
theorem OutL.frz {α:Type} {f:α→List AV} {esz:Nat} {hp:Heap} {acc:List α} (hf:∀ a,(f a).length=esz) (ht:∀ a,topL (f a)=0) (h:OutL f esz e hp o acc S):∃ B,Fr hp B o (.vs (arr f acc) acc.length none):=by
 rcases h with ⟨rfl,rfl⟩|⟨c,_,_,rfl,h4⟩
 · exact ⟨[],.nil (fun n hn=>by cases hn)⟩
 · have:=arr_cut hf (l:=acc) (i:=0) (n:=acc.length) (by omega)
   rw [Nat.zero_mul] at this
   refine ⟨[c],.sl (List.mem_singleton.2 rfl) h4 this (by simp) fun i x y hx hy=>?_⟩
   simp at hx
   rw [hx] at hy;cases hy
   exact .same (by have:=topL_le (n:=0) (Nat.le_of_eq (topL_arr ht acc)) i x hx;omega)
theorem OutF.frz {α:Type} {f:α→List AV} {esz:Nat} {hp:Heap} {acc:List α} (h:OutF f esz e hp o acc S):∃ B,Fr hp B o (.vs (arr f acc) acc.length none):=by
 rcases h with ⟨rfl,rfl⟩|⟨c,cs,_,_,rfl,h4,h5,_,h6⟩
 · exact ⟨[],.nil (fun n hn=>by cases hn)⟩
 · refine ⟨c::S,.sl (by simp) h4 (m:=cs) ?_ h6.1 fun i x y hx hy=>(h6.2 i x y hx hy).mono fun b hb=>List.mem_cons_of_mem _ hb⟩
   simp only [cut,List.drop_zero]
   rw [List.take_of_length_le (by omega),if_pos h5]
theorem frz_cells {α:Type} {f:α→List AV} {esz:Nat} {hp:Heap} {c n:Nat} {cap:Option Nat} {l:List α} (hf:∀ a,(f a).length=esz) (ht:∀ a,topL (f a)=0) (h:hp.at c=some (.cells (arr f l) e)) (hn:l.length=n):Fr hp [c] (.sl c 0 n esz cap) (.vs (arr f l) l.length none):=by
 subst hn
 have:=arr_cut hf (l:=l) (i:=0) (n:=l.length) (by omega)
 rw [Nat.zero_mul] at this
 refine .sl (List.mem_singleton.2 rfl) h this (by simp) (fun i x y hx hy=>?_) (.inr rfl)
 simp at hx
 rw [hx] at hy;cases hy
 exact .same (by have:=topL_le (n:=0) (Nat.le_of_eq (topL_arr ht l)) i x hx;omega)
theorem OutL.finF {α:Type} {f:α→List AV} {esz:Nat} {hp:Heap} {acc:List α} (hf:∀ a,(f a).length=esz) (ht:∀ a,topL (f a)=0) (h:OutL f esz e hp o acc S):∃ B,Fr (if (tupA [o]).top≤0 then [] else hp) B o (.vs (arr f acc) acc.length none):=h.fin.frz hf ht
theorem OutF.finF {α:Type} {f:α→List AV} {esz:Nat} {hp:Heap} {acc:List α} (h:OutF f esz e hp o acc S):∃ B,Fr (if (tupA [o]).top≤0 then [] else hp) B o (.vs (arr f acc) acc.length none):=by
 rcases h with ⟨rfl,rfl⟩|⟨c,cs,h0,h1,rfl,h4⟩
 · exact ⟨[],.nil (fun n hn=>by cases hn)⟩
 · rw [if_neg (by simp [tupA,AV.top])]
   exact OutF.frz (.inr ⟨c,cs,h0,h1,rfl,h4⟩)
end Go.Ab

/-
  Own work: lists that grow by appends of whole lists, and parts of them.
-/
namespace Go.Ab
variable {t:Nat} {pe:List AV} {lo:List (Nat×AV)} {df wr:List Nat} {Q:StW→Prop} {x:IOpd}
variable {M:Mach} {α:Type} {f:α→List AV} {esz:Nat} {e:TypeId} {hp H:Heap} {o y:AV} {acc m:List α} {S S':List Nat}
theorem Sl.cells (hf:∀ a,(f a).length=esz) (h:Sl f hp y m):sliceCells hp y=some (arr f m,m.length):=by
 rcases h with ⟨rfl,rfl⟩|⟨cap,rfl⟩|⟨b,off,ez,cap,c,e,rfl,h1,h2⟩
 · rfl
 · rfl
 · simp only [sliceCells,h1,h2,Option.map_some]
def OutE (f:α→List AV) (esz:Nat) (e:TypeId) (hp:Heap) (o:AV) (acc:List α) (S:List Nat):Prop:=
 (acc=[]∧o = .nilsl)∨∃ c cap,c∉S∧o = .sl c 0 acc.length esz cap∧hp.at c=some (.cells (arr f acc) e)∧(cap=none∨acc=[]∧cap=some 0)
theorem OutE.ofNil:OutE f esz e hp .nilsl ([]:List α) S:=.inl ⟨rfl,rfl⟩
theorem OutE.ofL (h:OutL f esz e hp o acc S):OutE f esz e hp o acc S:=by
 rcases h with h|⟨c,h0,h1,h2,h3⟩
 · exact .inl h
 · exact .inr ⟨c,none,h1,h2,h3,.inl rfl⟩
theorem OutE.new:OutE f esz e (hp++[some (.cells [] e)]) (.sl hp.length 0 0 esz (some 0)) ([]:List α) (S.filter (· < hp.length)):=by
 refine .inr ⟨hp.length,some 0,?_,rfl,at_new,.inr ⟨rfl,rfl⟩⟩
 simp
theorem OutE.new' (hS:∀ x∈S,x<hp.length):OutE f esz e (hp++[some (.cells [] e)]) (.sl hp.length 0 0 esz (some 0)) ([]:List α) S:=by
 refine .inr ⟨hp.length,some 0,fun h=>by have:=hS _ h;omega,rfl,at_new,.inr ⟨rfl,rfl⟩⟩
theorem OutE.sl (hf:∀ a,(f a).length=esz) (h:OutE f esz e hp o acc S):Sl f hp o acc:=by
 rcases h with ⟨rfl,rfl⟩|⟨c,cap,_,rfl,h1,_⟩
 · exact .ofNil
 · exact .ofAt hf h1 rfl
def blkE (o:AV):List Nat:=blkOf (some o)
theorem OutE.keep (h:OutE f esz e hp o acc S) (hk:∀ b x,b∈blkE o→hp.at b=some x→H.at b=some x) (hs:∀ b,b∈blkE o→b∉S→b∉S'):OutE f esz e H o acc S':=by
 rcases h with h|⟨c,cap,h0,rfl,h1,h2⟩
 · exact .inl h
 · exact .inr ⟨c,cap,hs c (by simp [blkE,blkOf]) h0,rfl,hk _ _ (by simp [blkE,blkOf]) h1,h2⟩
theorem OutE.lt (h:OutE f esz e hp o acc S):∀ b∈blkE o,b<hp.length:=by
 rcases h with ⟨_,rfl⟩|⟨c,cap,h0,rfl,h1,h2⟩
 · intro b hb;simp [blkE,blkOf] at hb
 · intro b hb
   simp only [blkE,blkOf,List.mem_singleton] at hb
   subst hb
   exact at_lt h1
theorem OutE.notin (h:OutE f esz e hp o acc S):∀ b∈blkE o,b∉S:=by
 rcases h with ⟨_,rfl⟩|⟨c,cap,h0,rfl,h1,h2⟩
 · intro b hb;simp [blkE,blkOf] at hb
 · intro b hb
   simp only [blkE,blkOf,List.mem_singleton] at hb
   subst hb
   exact h0
theorem OutE.grow (h:OutE f esz e hp o acc S) (J:Heap):OutE f esz e (hp++J) o acc S:=h.keep (fun b x _ hx=>at_old hx) (fun b _ h=>h)
theorem OutE.app {bytes:Nat} {l:List IOper} {a b:IOpd} (hf:∀ a,(f a).length=esz) (h1:∀ a,(f a).all oneA=true) (hb0:0<bytes)
 (h:OutE f esz e hp o acc S) (hS:∀ x∈S,x<hp.length) (ha:(St.mk pe lo hp df).opd a=some o) (hb:(St.mk pe lo hp df).opd b=some y) (hy:Sl f hp y m)
 (hn:(acc.length+m.length)*bytes≤roomLimit) (hQ:∀ (H:Heap) (w':List Nat) o',OutE f esz e H o' (acc++m) S→(∀ x v,x∈S→hp.at x=some v→H.at x=some v)→hp.length≤H.length→WO M l ⟨⟨pe,(t,o')::lo,H,df⟩,w'⟩ Q):WO M (⟨.l t,.append e esz bytes a b,none⟩::l) ⟨⟨pe,lo,hp,df⟩,wr⟩ Q:=by
 have hs:=hy.cells hf
 have hone:(arr f m).all oneA=true:=one_arr h1 m
 have hcond:(arr f m).length=m.length*esz∧0<bytes∧(arr f m).all oneA=true:=⟨arr_length hf m,hb0,hone⟩
 by_cases hm:m=[]
 · subst hm
   rw [List.append_nil] at hQ
   refine WO.hlv (v:=o) (h':=hp) (w':=[]) ?_ rfl rfl (hQ hp _ o h (fun _ _ _ hx=>hx) (Nat.le_refl _))
   simp only [heapA,ha,hb,appendA,hs,if_pos hcond]
   rcases h with ⟨_,rfl⟩|⟨c,cap,_,rfl,_,_⟩ <;> simp
 · have hp0:m.length≠0:=fun h=>hm (List.eq_nil_of_length_eq_zero h)
   rcases h with ⟨rfl,rfl⟩|⟨c,cap,hc,rfl,hat,hcap⟩
   · refine WO.hlv (v:=.sl hp.length 0 m.length esz none) (h':=hp++[some (.cells (arr f m) e)]) (w':=[]) ?_ rfl rfl (hQ _ _ _ (.inr ⟨hp.length,none,fun h=>by have:=hS _ h;omega,by simp,at_new,.inl rfl⟩) (fun x v _ hx=>at_old hx) (by simp))
     simp only [heapA,ha,hb,appendA,hs,if_pos hcond,if_neg hp0]
     rw [if_pos (by simpa using hn)]
   · rcases hcap with rfl|⟨rfl,rfl⟩
     · refine WO.hlv (v:=.sl hp.length 0 (acc.length+m.length) esz none) (h':=hp.put c none++[some (.cells (arr f acc++arr f m) e)]) (w':=[c]) ?_ rfl rfl (hQ _ _ _ (.inr ⟨hp.length,none,fun h=>by have:=hS _ h;omega,by simp,?_,.inl rfl⟩) (fun x v hx hv=>at_old (at_else (fun ee=>hc (ee ▸ hx)) hv)) (by simp [put_length]))
       · simp only [heapA,ha,hb,appendA,hs,if_pos hcond,if_neg hp0,hat]
         rw [if_pos ⟨trivial,hn⟩,if_pos ⟨by rw [arr_length hf];omega,trivial⟩,List.drop_zero]
       · have:(hp.put c none).length=hp.length:=put_length
         rw [← this,at_new,arr_append]
     · refine WO.hlv (v:=.sl hp.length 0 m.length esz none) (h':=hp++[some (.cells (arr f m) e)]) (w':=[]) ?_ rfl rfl (hQ _ _ _ (.inr ⟨hp.length,none,fun h=>by have:=hS _ h;omega,by simp,by rw [List.nil_append];exact at_new,.inl rfl⟩) (fun x v _ hx=>at_old hx) (by simp))
       simp only [heapA,ha,hb,appendA,hs,if_pos hcond,if_neg hp0,hat,List.length_nil,Nat.zero_add,Nat.zero_mul]
       rw [if_pos ⟨trivial,by simpa using hn⟩,if_neg (by omega)]
       simp [cut,arr]
theorem OutE.finF (hf:∀ a,(f a).length=esz) (ht:∀ a,topL (f a)=0) (h:OutE f esz e hp o acc S):∃ B,Fr (if (tupA [o]).top≤0 then [] else hp) B o (.vs (arr f acc) acc.length none):=by
 rcases h with ⟨rfl,rfl⟩|⟨c,cap,_,rfl,h4,_⟩
 · exact ⟨[],.nil (fun n hn=>by cases hn)⟩
 · rw [if_neg (by simp [tupA,AV.top])]
   exact ⟨[c],frz_cells hf ht h4 rfl⟩
theorem OutE.finN (hf:∀ a,(f a).length=esz) (ht:∀ a,topL (f a)=0) (hn:∀ a,novL (f a)=true) (h:OutE f esz e hp o acc S):FrN (if (tupA [o]).top≤0 then [] else hp) o (.vs (arr f acc) acc.length none):=by
 rcases h with ⟨rfl,rfl⟩|⟨c,cap,_,rfl,h4,_⟩
 · exact .nil
 · rw [if_neg (by simp [tupA,AV.top])]
   refine ⟨[c],frz_cells hf ht h4 rfl,rfl,fun b l e' hb hl=>?_⟩
   rw [List.mem_singleton.1 hb,h4] at hl
   cases hl
   exact novL_arr hn acc
theorem OutL.finN (hf:∀ a,(f a).length=esz) (ht:∀ a,topL (f a)=0) (hn:∀ a,novL (f a)=true) (h:OutL f esz e hp o acc S):FrN (if (tupA [o]).top≤0 then [] else hp) o (.vs (arr f acc) acc.length none):=(OutE.ofL h).finN hf ht hn
theorem WO.stKj {n j:Nat} {y:IOpd} {L:List IOper} {K:Heap} {c c':List AV} {e:TypeId} {new:List AV} (hx:(St.mk pe lo (K++[some (.cells c e)]) df).opd x=some (.ptr K.length (0+j))) (hy:((St.mk pe lo (K++[some (.cells c e)]) df).opd y).bind AV.cells=some new)
 (hn:new.length=n∧j+n≤c.length∧new.all oneA=true) (ho:overwrite c j new=c') (h:WO M L ⟨⟨pe,lo,K++[some (.cells c' e)],df⟩,K.length::wr⟩ Q):WO M (⟨.no,.store n x y,none⟩::L) ⟨⟨pe,lo,K++[some (.cells c e)],df⟩,wr⟩ Q:=by
 obtain ⟨h1,h2,h3⟩:=hn
 refine WO.hnv (v:=undefA) (h':=K++[some (.cells c' e)]) (w':=[K.length]) ?_ rfl rfl h
 simp only [heapA,hx,hy,at_new,Nat.zero_add]
 rw [if_pos ⟨h1,h2,h3⟩,ho]
 simp [Heap.put]
theorem WO.svbp {α:Type} {f:α→List AV} {esz:Nat} {y:IOpd} {L:List IOper} {hp:Heap} {l:List α} {cap:Option Nat} {k:IntKind} {n:Int} (hx:(St.mk pe lo hp df).opd x=some (.vs (arr f l) l.length cap)) (hy:(St.mk pe lo hp df).opd y=some (.int k n)) (hf:∀ a,(f a).length=esz) (hn:0≤n∧n≤l.length)
 (h:WO M L ⟨⟨pe.set t (.vs (arr f (l.take n.toNat)) (l.take n.toNat).length cap),lo,hp,df⟩,wr⟩ Q):WO M (⟨.p t,.slice .sl esz x none (some y) none,none⟩::L) ⟨⟨pe,lo,hp,df⟩,wr⟩ Q:=by
 refine WO.pp (v:=.vs (arr f (l.take n.toNat)) (l.take n.toNat).length cap) ?_ rfl h
 have hle:n.toNat≤l.length:=by omega
 have hl:(l.take n.toNat).length=n.toNat:=by rw [List.length_take];omega
 have hc:cap.map (fun x=>x)=cap:=by cases cap <;> rfl
 have h0:(0:Int)≤n∧n≤(l.length:Int):=by omega
 simp only [pureA,hx,St.oopd,hy,Option.map_some,sliceA,boundA,Option.isNone_none,Option.isSome_some,Bool.true_or,if_true,if_pos h0]
 simp only [Nat.zero_mul,List.drop_zero,Nat.sub_zero,arr_take hf,hl,hc]
theorem WD.slarr {n esz b:Nat} {un:List Nat} {l:List (IOper×List Nat)} {hp:Heap} {ds:List Done} {cs:List AV} {e:TypeId} (hx:(St.mk pe lo hp df).opd x=some (.ptr b 0)) (hb:hp.at b=some (.cells cs e)) (hlen:n*esz≤cs.length) (hn:0<n) (hU:(un.flatMap fun j=>(ds[j]?).elim [] Done.own)=[])
 (h:WD M l ⟨⟨pe,(t,.sl b 0 n esz (some n))::lo,hp,df⟩,wr⟩ (ds++[⟨some [b],[],hp.length,hp.length⟩]) Q):WD M ((⟨.l t,.sliceArr n esz x none none,none⟩,un)::l) ⟨⟨pe,lo,hp,df⟩,wr⟩ ds Q:=by
 obtain ⟨⟨m,s',h2,h3⟩⟩:=h
 refine ⟨⟨m,s',?_,h3⟩⟩
 have hk:Heap.at (keep [b] hp 0) b=some (.cells cs e):=by
  rw [keep_at'];simp [hb]
 have ho:opA (M.call m) M.inv ⟨pe,lo,keep [b] hp 0,df⟩ (.sliceArr n esz x none none)=some ⟨.sl b 0 n esz (some n),keep [b] hp 0,[]⟩:=by
  have hx':(St.mk pe lo (keep [b] hp 0) df).opd x=some (.ptr b 0):=hx
  simp [opA,heapA,hx',St.oopd,hk,boundA,hlen,hn]
  intro hh;cases hh
 have ht:touchA ⟨pe,lo,hp,df⟩ (.sliceArr n esz x none none)=some [b]:=by
  simp [touchA,hx]
 have hd:disj [b] ([]:List Nat)=true:=by simp [disj]
 simp only [drawA,wantedA,IOp.heapy,if_true,hU,ht,hd,ho]
 simp only [List.all_nil,List.isEmpty_nil,Bool.true_or,Bool.and_true,if_true,merge_keep',List.nil_append,keep_length]
 exact h2
end Go.Ab

/-
  Own work: appends to empty literals in drawn regions: what they make is new.
-/
namespace Go.Ab
variable {esz:Nat}
variable {M:Mach}
theorem app_empty_wr {elem:TypeId} {bytes c off e:Nat} {h:Heap} {b:AV} {r:HR} (hq:appendA elem esz bytes h (.sl c off 0 e (some 0)) b=some r):r.wr=[]:=by
 simp only [appendA] at hq
 (repeat' split at hq) <;> first|(cases hq;done)|(cases hq;rfl)|(exfalso;omega)
theorem WD.appE {d:Dst} {elem:TypeId} {bytes c off e:Nat} {x y:IOpd} {l:List (IOper×List Nat)} {s:StW} {ds:List Done} {b:AV} {Q:StW→Prop} (ha:s.s.opd x=some (.sl c off 0 e (some 0))) (hb:s.s.opd y=some b)
 (h:∀ dn:Done,(∀ y∈dn.own,s.s.hp.length≤y)→WO M [⟨d,.append elem esz bytes x y,none⟩] s fun s'=>WD M l s' (ds++[dn]) Q):WD M ((⟨d,.append elem esz bytes x y,none⟩,[])::l) s ds Q:=by
 have keyn:∀ n h0,opA (M.call n) M.inv { s.s with hp:=h0 } (.append elem esz bytes x y)=appendA elem esz bytes h0 (.sl c off 0 e (some 0)) b:=fun n h0=>by
  have hx':(St.mk s.s.pe s.s.lo h0 s.s.dfs).opd x=some (.sl c off 0 e (some 0)):=by rw [← ha];cases x <;> rfl
  have hy':(St.mk s.s.pe s.s.lo h0 s.s.dfs).opd y=some b:=by rw [← hb];cases y <;> rfl
  simp only [opA,IOp.heapy,if_true,heapA,hx',hy']
 cases hq:appendA elem esz bytes s.s.hp (.sl c off 0 e (some 0)) b with
 | none=>
  obtain ⟨⟨k,s1,h1,_⟩⟩:=h ⟨none,[],0,0⟩ (by simp [Done.own])
  simp only [opersA,wantedA] at h1
  rw [show opA (M.call k) M.inv s.s (.append elem esz bytes x y)=none from (keyn k s.s.hp).trans hq] at h1
  cases h1
 | some r=>
  obtain ⟨h',e1,e2,e3⟩:=append_keep (T:=blkOf (some (.sl c off 0 e (some 0)))++blkOf (some b)) (fun c hc=>List.mem_append_left _ hc) (fun c hc=>List.mem_append_right _ hc) hq
  obtain ⟨⟨k,s1,h1,⟨⟨m,s',h2,h3⟩⟩⟩⟩:=h ⟨some (blkOf (some (.sl c off 0 e (some 0)))++blkOf (some b)),r.wr,s.s.hp.length,h'.length⟩ (fun y hy=>by
   rw [Done.own,app_empty_wr hq,List.nil_append,List.mem_range'_1] at hy
   exact hy.1)
  refine ⟨⟨m,s',?_,h3⟩⟩
  simp only [opersA,wantedA] at h1
  rw [show opA (M.call k) M.inv s.s (.append elem esz bytes x y)=some r from (keyn k s.s.hp).trans hq] at h1
  simp only [Option.some.injEq] at h1
  have ht:touchA s.s (.append elem esz bytes x y)=some (blkOf (some (.sl c off 0 e (some 0)))++blkOf (some b)):=by
   simp only [touchA,ha,hb]
   congr 1
  have hd:disj (blkOf (some (.sl c off 0 e (some 0)))++blkOf (some b)) []=true:=by simp [disj]
  simp only [drawA,wantedA,IOp.heapy,if_true,ht,List.flatMap_nil,hd]
  rw [show opA (M.call m) M.inv { s.s with hp:=keep (blkOf (some (.sl c off 0 e (some 0)))++blkOf (some b)) s.s.hp 0 } (.append elem esz bytes x y)=some ⟨r.v,h',r.wr⟩ from (keyn m _).trans e1]
  have hw:(r.wr.all fun c=>((keep (blkOf (some (.sl c off 0 e (some 0)))++blkOf (some b)) s.s.hp 0).at c).isSome)=true:=by
   rw [app_empty_wr hq];rfl
  simp only [List.all_nil,Bool.or_true,Bool.and_true,e2]
  rw [← h1] at h2
  rw [app_empty_wr hq] at h2 ⊢
  first
    | (rw [if_pos rfl];exact h2)
    | exact h2
theorem OutE.one {α:Type} {f:α→List AV} {e:TypeId} {hp:Heap} {o:AV} {acc:List α} {S:List Nat} (h:OutE f esz e hp o acc S):AV.cells o=some [o]∧oneA o=true:=by
 rcases h with ⟨_,rfl⟩|⟨c,cap,_,rfl,_,_⟩ <;> exact ⟨rfl,rfl⟩
theorem OutE.fr {α:Type} {f:α→List AV} {e:TypeId} {hp:Heap} {o:AV} {acc:List α} {S:List Nat} (hf:∀ a,(f a).length=esz) (ht:∀ a,topL (f a)=0) (h:OutE f esz e hp o acc S):Fr hp (blkE o) o (.vs (arr f acc) acc.length none):=by
 rcases h with ⟨rfl,rfl⟩|⟨c,cap,_,rfl,h4,_⟩
 · exact .nil (fun n hn=>by cases hn)
 · exact frz_cells hf ht h4 rfl
end Go.Ab

/-
  Own work: contracts by contents: what a run on the empty heap hands back is the contract itself; no relation is told a second time.
-/
namespace Go.Ab
variable {as l m m' as0:List AV} {h:Heap} {a x v1:AV} {FT:FuncId→Option IFunc} {T:List (Nat×Spec)} {g:Nat}
variable {M:Mach} {P:Program} {gl:Nat→Option AV}
theorem Run.det {f:FuncId} {r r':HR} (h1:Run M f as h r) (h2:Run M f as h r'):r=r':=by
 obtain ⟨n,hn⟩:=h1
 obtain ⟨m,hm⟩:=h2
 have a1:=callFT_le (eval_le (Nat.le_max_left n m)) hn
 have a2:=callFT_le (eval_le (Nat.le_max_right n m)) hm
 exact Option.some.inj (a1.symm.trans a2)
mutual
def canA:AV→AV
 | .nilsl=>.vs [] 0 none
 | .vs l n _=>.vs (canL l) n none
 | .vp l=>.vp (canL l)
 | .agg l=>.agg (canL l)
 | .tup l=>.tup (canL l)
 | .fn f a b=>.fn f (canL a) (canL b)
 | .iface t v=>.iface t (canA v)
 | v=>v
def canL:List AV→List AV
 | []=>[]
 | v::r=>canA v::canL r
end
theorem canL_eq:∀ {l m:List AV},l.length=m.length→(∀ (i:Nat) x y,l[i]? = some x→m[i]? = some y→canA x=canA y)→canL l=canL m
 | [],[],_,_=>rfl
 | x::l,y::m,hl,h=>by
  rw [canL,canL,h 0 x y rfl rfl,canL_eq (by simpa using hl) fun i a b ha hb=>h (i+1) a b ha hb]
theorem canL_two (h1:l.length=m.length) (h2:l.length=m'.length) (h:∀ (i:Nat) a x y,l[i]? = some a→m[i]? = some x→m'[i]? = some y→canA x=canA y):canL m=canL m':=
 canL_eq (h1.symm.trans h2) fun i x y hx hy=>by
  have hi:i<l.length:=by rw [h1];exact (List.getElem?_eq_some_iff.1 hx).1
  exact h i l[i] x y (List.getElem?_eq_getElem hi) hx hy
theorem eq_of_parts (hl:l.length=m.length) (h:∀ (i:Nat) x y,l[i]? = some x→m[i]? = some y→x=y):l=m:=
 List.ext_getElem hl fun i h1 h2=>h i _ _ (List.getElem?_eq_getElem h1) (List.getElem?_eq_getElem h2)
theorem eq_two (h1:l.length=m.length) (h2:l.length=m'.length) (h:∀ (i:Nat) a x y,l[i]? = some a→m[i]? = some x→m'[i]? = some y→x=y):m=m':=
 eq_of_parts (h1.symm.trans h2) fun i x y hx hy=>by
  have hi:i<l.length:=by rw [h1];exact (List.getElem?_eq_some_iff.1 hx).1
  exact h i l[i] x y (List.getElem?_eq_getElem hi) hx hy
theorem canL_app:∀ (l m:List AV),canL (l++m)=canL l++canL m
 | [],m=>rfl
 | x::l,m=>by rw [List.cons_append,canL,canL,canL_app l m];rfl
theorem canL_arr {α:Type} {f:α→List AV} (hf:∀ a,canL (f a)=f a):∀ l,canL (arr f l)=arr f l
 | []=>rfl
 | a::l=>by rw [arr_cons,canL_app,hf,canL_arr hf l]
theorem top_of (h:topL l=0) {i:Nat} {x:AV} (hx:l[i]? = some x):x.top=0:=by
 have:=topL_le (n:=0) (by omega) i x hx
 omega
theorem Fr.same_can {S:List Nat} (hr:Fr h S a x):a.top=0→canA a=canA x:=by
 induction hr with
 | same ht=>exact fun _=>rfl
 | nil hc=>exact fun _=>by simp [canA,canL]
 | sl=>intro ht;simp [AV.top] at ht
 | ptr=>intro ht;simp [AV.top] at ht
 | vs hl hg ih=>intro ht;rw [canA,canA,canL_eq hl fun i x y hx hy=>ih i x y hx hy (top_of ht hx)]
 | agg hl hg ih=>intro ht;rw [canA,canA,canL_eq hl fun i x y hx hy=>ih i x y hx hy (top_of ht hx)]
 | tup hl hg ih=>intro ht;rw [canA,canA,canL_eq hl fun i x y hx hy=>ih i x y hx hy (top_of ht hx)]
 | fn hf h1 h2 g1 g2 i1 i2=>
  intro ht
  simp only [AV.top] at ht
  rw [canA,canA,canL_eq h1 fun i x y hx hy=>i1 i x y hx hy (top_of (by omega) hx),canL_eq h2 fun i x y hx hy=>i2 i x y hx hy (top_of (by omega) hx)]
theorem Fr.can {S:List Nat} (hr:Fr h S a x):x.top=0→∀ {S':List Nat} {y:AV},Fr h S' a y→y.top=0→canA x=canA y:=by
 induction hr with
 | same ht=>exact fun _ S' y hy _=>hy.same_can ht
 | nil hc=>exact fun _ S' y hy _=>by cases hy <;> simp [canA,canL]
 | sl hb ha hc hl hg hcc ih=>
  intro hx S' y hy hyt
  cases hy with
  | same ht=>simp [AV.top] at ht
  | sl hb' ha' hc' hl' hg' hcc'=>
   rw [ha] at ha'
   cases ha'
   rw [hc] at hc'
   cases hc'
   rw [canA,canA,canL_two hl hl' fun i a x y h1 h2 h3=>ih i a x h1 h2 (top_of hx h2) (hg' i a y h1 h3) (top_of hyt h3)]
 | ptr hb ha hl hg ih=>
  intro hx S' y hy hyt
  cases hy with
  | same ht=>simp [AV.top] at ht
  | ptr hb' ha' hl' hg'=>
   rw [ha] at ha'
   cases ha'
   rw [canA,canA,canL_two hl hl' fun i a x y h1 h2 h3=>ih i a x h1 h2 (top_of hx h2) (hg' i a y h1 h3) (top_of hyt h3)]
 | vs hl hg ih=>
  intro hx S' y hy hyt
  cases hy with
  | same ht=>rw [canA,canA,canL_eq hl.symm fun i x y hx' hy'=>((hg i y x hy' hx').same_can (top_of ht hy')).symm]
  | vs hl' hg'=>rw [canA,canA,canL_two hl hl' fun i a x y h1 h2 h3=>ih i a x h1 h2 (top_of hx h2) (hg' i a y h1 h3) (top_of hyt h3)]
 | agg hl hg ih=>
  intro hx S' y hy hyt
  cases hy with
  | same ht=>rw [canA,canA,canL_eq hl.symm fun i x y hx' hy'=>((hg i y x hy' hx').same_can (top_of ht hy')).symm]
  | agg hl' hg'=>rw [canA,canA,canL_two hl hl' fun i a x y h1 h2 h3=>ih i a x h1 h2 (top_of hx h2) (hg' i a y h1 h3) (top_of hyt h3)]
 | tup hl hg ih=>
  intro hx S' y hy hyt
  cases hy with
  | same ht=>rw [canA,canA,canL_eq hl.symm fun i x y hx' hy'=>((hg i y x hy' hx').same_can (top_of ht hy')).symm]
  | tup hl' hg'=>rw [canA,canA,canL_two hl hl' fun i a x y h1 h2 h3=>ih i a x h1 h2 (top_of hx h2) (hg' i a y h1 h3) (top_of hyt h3)]
 | fn hf h1 h2 g1 g2 i1 i2=>
  intro hx S' y hy hyt
  simp only [AV.top] at hx
  cases hy with
  | same ht=>
   simp only [AV.top] at ht
   rw [canA,canA,canL_eq h1.symm fun i x y hx' hy'=>((g1 i y x hy' hx').same_can (top_of (by omega) hy')).symm,canL_eq h2.symm fun i x y hx' hy'=>((g2 i y x hy' hx').same_can (top_of (by omega) hy')).symm]
  | fn hf' h1' h2' g1' g2'=>
   simp only [AV.top] at hyt
   rw [canA,canA,canL_two h1 h1' fun i a x y e1 e2 e3=>i1 i a x e1 e2 (top_of (by omega) e2) (g1' i a y e1 e3) (top_of (by omega) e3),
     canL_two h2 h2' fun i a x y e1 e2 e3=>i2 i a x e1 e2 (top_of (by omega) e2) (g2' i a y e1 e3) (top_of (by omega) e3)]
def atomA:AV→Bool
 | .int _ _=>true
 | .bool _=>true
 | .str _=>true
 | .fn f [] []=>match f with | .yield _=>false|_=>true
 | _=>false
inductive FrC (h:Heap):AV→AV→Prop
 | atom {a:AV} (ha:atomA a=true):FrC h a a
 | nil:FrC h .nilsl (.vs [] 0 none)
 | sl {b off len esz:Nat} {cap:Option Nat} {l m m0:List AV} {e:TypeId} (ha:h.at b=some (.cells l e)) (hc:cut l off (len*esz)=some m) (hl:m.length=m0.length)
     (hg:∀ (i:Nat) x y,m[i]? = some x→m0[i]? = some y→FrC h x y):FrC h (.sl b off len esz cap) (.vs m0 len none)
 | vs {l l0:List AV} {n:Nat} {cap:Option Nat} (hl:l.length=l0.length) (hg:∀ (i:Nat) x y,l[i]? = some x→l0[i]? = some y→FrC h x y):FrC h (.vs l n cap) (.vs l0 n cap)
 | agg {l l0:List AV} (hl:l.length=l0.length) (hg:∀ (i:Nat) x y,l[i]? = some x→l0[i]? = some y→FrC h x y):FrC h (.agg l) (.agg l0)
def FrCL (h:Heap) (l l0:List AV):Prop:=l.length=l0.length∧∀ (i:Nat) x y,l[i]? = some x→l0[i]? = some y→FrC h x y
theorem FrCL.nil:FrCL h [] []:=⟨rfl,by simp⟩
theorem FrCL.cons {y:AV} (h1:FrC h x y) (h2:FrCL h l m):FrCL h (x::l) (y::m):=by
 refine ⟨by simp [h2.1],fun i a b ha hb=>?_⟩
 cases i with
 | zero=>simp at ha hb;subst ha;subst hb;exact h1
 | succ i=>simp at ha hb;exact h2.2 i a b ha hb
theorem atom_top (h:atomA a=true):a.top=0:=by
 cases a with
 | fn f fi ca=>
  cases fi <;> cases ca <;> first|(simp [atomA] at h;done)|skip
  cases f <;> first|rfl|cases h
 | _=>first|rfl|cases h
theorem atom_nov (h:atomA a=true):nov a=true:=by
 cases a with
 | fn f fi ca=>cases fi <;> cases ca <;> first|rfl|cases h
 | _=>first|rfl|cases h
theorem atom_can (h:atomA a=true):canA a=a:=by
 cases a with
 | fn f fi ca=>cases fi <;> cases ca <;> first|rfl|cases h
 | _=>first|rfl|cases h
theorem FrC.fr (hr:FrC h a x):Fr h (List.range h.length) a x:=by
 induction hr with
 | atom ha=>exact .same (atom_top ha)
 | nil=>exact .nil (fun n hn=>by cases hn)
 | sl ha hc hl hg ih=>exact .sl (List.mem_range.2 (at_lt ha)) ha hc hl ih (.inr rfl)
 | vs hl hg ih=>exact .vs hl ih
 | agg hl hg ih=>exact .agg hl ih
theorem FrCL.fr {l0:List AV} (hr:FrCL h l l0):FrL h (List.range h.length) l l0:=⟨hr.1,fun i x y hx hy=>(hr.2 i x y hx hy).fr⟩
theorem FrC.uniq (hr:FrC h a x):∀ {y:AV},FrC h a y→x=y:=by
 induction hr with
 | atom ha=>intro y hy;cases hy <;> first|rfl|cases ha
 | nil=>intro y hy;cases hy with
   | atom ha=>cases ha
   | nil=>rfl
 | sl ha hc hl hg ih=>
  intro y hy
  cases hy with
  | atom ha=>cases ha
  | sl ha' hc' hl' hg'=>
   rw [ha] at ha'
   cases ha'
   rw [hc] at hc'
   cases hc'
   rw [eq_two hl hl' fun i a x y h1 h2 h3=>ih i a x h1 h2 (hg' i a y h1 h3)]
 | vs hl hg ih=>
  intro y hy
  cases hy with
  | atom ha=>cases ha
  | vs hl' hg'=>rw [eq_two hl hl' fun i a x y h1 h2 h3=>ih i a x h1 h2 (hg' i a y h1 h3)]
 | agg hl hg ih=>
  intro y hy
  cases hy with
  | atom ha=>cases ha
  | agg hl' hg'=>rw [eq_two hl hl' fun i a x y h1 h2 h3=>ih i a x h1 h2 (hg' i a y h1 h3)]
theorem FrCL.uniq (h1:FrCL h l m) (h2:FrCL h l m'):m=m':=
 eq_of_parts (h1.1.symm.trans h2.1) fun i x y hx hy=>by
  have hi:i<l.length:=by rw [h1.1];exact (List.getElem?_eq_some_iff.1 hx).1
  exact (h1.2 i l[i] x (List.getElem?_eq_getElem hi) hx).uniq (h2.2 i l[i] y (List.getElem?_eq_getElem hi) hy)
theorem FrCL.app:∀ {l m l' m':List AV},FrCL h l m→FrCL h l' m'→FrCL h (l++l') (m++m')
 | [],[],_,_,_,h2=>h2
 | x::l,y::m,l',m',h1,h2=>.cons (h1.2 0 x y rfl rfl) (FrCL.app ⟨by simpa using h1.1,fun i a b ha hb=>h1.2 (i+1) a b ha hb⟩ h2)
 | [],y::m,_,_,h1,_=>by have:=h1.1;simp at this
 | x::l,[],_,_,h1,_=>by have:=h1.1;simp at this
abbrev selfC (h:Heap) (l:List AV):Prop:=FrCL h l l
theorem selfC_arr {α:Type} {f:α→List AV} {h:Heap} (hf:∀ a,selfC h (f a)):∀ l,selfC h (arr f l)
 | []=>.nil
 | a::l=>by rw [arr_cons];exact (hf a).app (selfC_arr hf l)
theorem atoms_self {h:Heap}:∀ {l:List AV},l.all atomA=true→selfC h l
 | [],_=>.nil
 | a::l,ha=>by
  rw [List.all_cons,Bool.and_eq_true] at ha
  exact .cons (.atom ha.1) (atoms_self ha.2)
theorem FrC.ofVs {n:Nat} {cap:Option Nat} (hl:selfC h l):FrC h (.vs l n cap) (.vs l n cap):=.vs rfl hl.2
theorem FrC.ofSl {α:Type} {f:α→List AV} {v:AV} {l:List α} (hf:∀ a,selfC h (f a)) (hs:Sl f h v l):∃ cap,FrC h v (.vs (arr f l) l.length cap):=by
 rcases hs with ⟨rfl,rfl⟩|⟨c,rfl⟩|⟨b,off,ez,cap,c,e,rfl,hb,hc⟩
 · exact ⟨none,.nil⟩
 · exact ⟨c,.ofVs (selfC_arr hf l)⟩
 · exact ⟨none,.sl hb hc rfl (selfC_arr hf l).2⟩
def RunC (P:Program) (FT:FuncId→Option IFunc) (T:List (Nat×Spec)) (g:Nat) (as0:List AV) (v1:AV):Prop:=∃ v hh,Run (mach P FT T) g as0 [] ⟨v,hh,[]⟩∧FrN hh v v1∧v1.top=0∧canA v1=v1
theorem RunC.det {v1':AV} (h1:RunC P FT T g as0 v1) (h2:RunC P FT T g as0 v1'):v1=v1':=by
 obtain ⟨v,hh,r1,⟨B,f1,_⟩,t1,c1⟩:=h1
 obtain ⟨v',hh',r2,⟨B',f2,_⟩,t2,c2⟩:=h2
 cases r1.det r2
 rw [← c1,← c2]
 exact f1.can t1 f2 t2
def RelC (P:Program) (FT:FuncId→Option IFunc) (T:List (Nat×Spec)) (g:Nat) (as:List AV) (h:Heap) (r:HR):Prop:=∃ as0 v1,FrCL h as as0∧RunC P FT T g as0 v1∧r=⟨v1,h,[]⟩
noncomputable def specC (P:Program) (FT:FuncId→Option IFunc) (T:List (Nat×Spec)) (g:Nat):Spec:=specR (RelC P FT T g)
theorem specC_ok (hs:Seat P gl FT) {T:List (Nat×Spec)} (hT:ExtOK P gl (extS T)) {g:Nat}:SpecOK P gl g (specC P FT T g):=specR_ok fun as h r ⟨as0,v1,hf,⟨v,hh,hr,hn,ht,_⟩,e⟩=>by
 subst e
 exact ent_runN hs hT hr hf.fr hn ht
theorem specC_eq (hf:FrCL h as as0) (hr:RunC P FT T g as0 v1):specC P FT T g as h=some ⟨v1,h,[]⟩:=
 specR_eq ⟨as0,v1,hf,hr,rfl⟩ fun r' ⟨as0',v1',hf',hr',e⟩=>by
  cases hf.uniq hf'
  rw [e,hr.det hr']
theorem RunC.of {v:AV} {hh:Heap} (hr:Run (mach P FT T) g as0 [] ⟨v,hh,[]⟩) (ha:atomA v=true:=by rfl):RunC P FT T g as0 v:=
 ⟨v,hh,hr,.same (atom_top ha) (atom_nov ha),atom_top ha,atom_can ha⟩
theorem RunC.new (hr:∃ v hh,FrN hh v v1∧Run (mach P FT T) g as0 [] ⟨v,hh,[]⟩) (ht:v1.top=0) (hc:canA v1=v1):RunC P FT T g as0 v1:=by
 obtain ⟨v,hh,h1,h2⟩:=hr
 exact ⟨v,hh,h2,h1,ht,hc⟩
theorem can_arr {α:Type} {f:α→List AV} (hf:∀ a,canL (f a)=f a) (l:List α) (n:Nat):canA (.vs (arr f l) n none) = .vs (arr f l) n none:=by rw [canA,canL_arr hf]
def RunF (P:Program) (FT:FuncId→Option IFunc) (T:List (Nat×Spec)) (g:Nat) (as:List AV) (v1:AV):Prop:=∃ v hh B,Run (mach P FT T) g as [] ⟨v,hh,[]⟩∧Fr hh B v v1∧topL as=0∧v1.top=0∧canA v1=v1
def RelF (P:Program) (FT:FuncId→Option IFunc) (T:List (Nat×Spec)) (g:Nat) (as:List AV) (h:Heap) (r:HR):Prop:=∃ v1,RunF P FT T g as v1∧r=⟨v1,h,[]⟩
noncomputable def specF (P:Program) (FT:FuncId→Option IFunc) (T:List (Nat×Spec)) (g:Nat):Spec:=specR (RelF P FT T g)
theorem specF_ok (hs:Seat P gl FT) {T:List (Nat×Spec)} (hT:ExtOK P gl (extS T)) {g:Nat}:SpecOK P gl g (specF P FT T g):=specR_ok fun as h r ⟨v1,⟨v,hh,B,hr,hf,ha,ht,_⟩,e⟩=>by
 subst e
 exact ent_runF hs hT hr ha hf ht
theorem specF_eq (hr:RunF P FT T g as v1):specF P FT T g as h=some ⟨v1,h,[]⟩:=
 specR_eq ⟨v1,hr,rfl⟩ fun r' ⟨v1',⟨v',hh',B',r2,f2,_,t2,c2⟩,e⟩=>by
  obtain ⟨v,hh,B,r1,f1,_,t1,c1⟩:=hr
  cases r1.det r2
  rw [e,← c1,← c2,f1.can t1 f2 t2]
theorem enter : (∀ (f : Nat → AV) a l, (a :: l).map f = f a :: l.map f) ∧ (∀ f : Nat → AV, [].map f = []) ∧ (∀ (a : AV) (l : List AV), (a :: l)[0]? = some a) ∧ (∀ (a : AV) (l : List AV) (n : Nat), (a :: l)[n + 1]? = l[n]?) ∧ (∀ n : Nat, ([] : List AV)[n]? = none) ∧ (∀ a b : AV, (some a).getD b = a) ∧ ∀ b : AV, none.getD b = b :=
  ⟨fun _ _ _ => rfl, fun _ => rfl, fun _ _ => rfl, fun _ _ _ => rfl, fun _ => rfl, fun _ _ => rfl, fun _ => rfl⟩
end Go.Ab

/-
  Own work: contracts by contents that keep nil apart from empty; arguments without blocks.
-/
namespace Go.Ab
variable {M:Mach} {P:Program} {gl:Nat→Option AV}
end Go.Ab

/-
  Own work: a contract of the kit's shelf ('the call returns this, and nothing below has turned') as a contract of the abstract machine.
-/
namespace Go.Ab
open Go.RowKit
variable {P:Program} {gl:Nat→Option AV} {ρ:Own} {h:Heap} {w w':World}
theorem ext_below (hb:Below w.heap.size w w'):Ext h h ρ ρ w w' where
 os:=hb.os
 tape:=hb.tape
 output:=hb.output
 size:=hb.size
 len:=Nat.le_refl _
 X:=rfl
 unk:=fun _ h=>h
 same:=fun _ _=>rfl
 live:=fun _ _ _ h=>.inl h
 dead:=fun _ h=>h
 nil:=fun _ h=>.inl h
 old:=fun c hc _=>hb.block c hc
 back:=fun _ _ _ h _=>.inl h
 shape:=fun c cs e fr hc=>⟨cs,fr,by rw [hb.block c (Array.getElem?_eq_some_iff.1 hc).1];exact hc,rfl⟩
theorem mem_below (m:Mem P gl ρ h w) (hb:Below w.heap.size w w'):Mem P gl ρ h w':=by
 refine m.ext (ext_below hb) (fun b o ho=>?_) m.fresh m.inj (fun b c d hl=>Nat.lt_of_lt_of_le (m.bound b c d hl) hb.size)
 exact (m.blk b o ho).mono (ext_below (h:=h) hb) rfl (fun c d hl=>hb.block c (m.bound b c d hl))
theorem enter_run {f : FuncId} {fn : Func} {as' : Array Value} (hfn : P.funcs[f]? = some fn) (hb : fn.body.isSome = true) (hn : (fn.name == "runtime.NumGoroutine") = false) : (callFunc f as').run P w = .ok (.enter f as') w := by
 have hne : fn.name ≠ "runtime.NumGoroutine" := by simpa using hn
 obtain ⟨c,hc⟩:=Option.isSome_iff_exists.1 hb
 simp [callFunc,hfn,hne,hc]
theorem ent_of_calls {f : FuncId} {fn : Func} {as : List AV} {v : AV} (hfn : P.funcs[f]? = some fn) (hb : fn.body.isSome = true) (hn : (fn.name == "runtime.NumGoroutine") = false) {v' : Value} (hv : ∀ ρ w, V ρ w v v')
 (hc:∀ ρ w as',Mem P gl ρ h w→VL ρ w as as'→Calls P f as'.toArray w fun e w'=>e = .returned v'∧Below w.heap.size w w'):EntHOK P gl ⟨f,as,h,⟨v,h,[]⟩⟩:=by
 refine ⟨⟨Nat.le_refl _,fun _ _ _=>rfl⟩,fun ρ w as' m hvl=>⟨_,_,enter_run hfn hb hn,?_⟩⟩
 refine CallsIn.mono (F:=Fence.wide) (n:=0) (callsIn_wide.2 (hc ρ w as' m hvl)) fun e w' he=>?_
 obtain ⟨rfl,hbel⟩:=he
 exact ⟨ρ,hv _ _,mem_below m hbel,ext_below hbel⟩
theorem strs_get (xs:List (List UInt8)) {j:Nat} {x:List UInt8} (h:xs[j]? = some x):(strs xs)[j]? = some (.str x):=by
 have e:strs xs=xs.map AV.str:=by
  simp only [strs,arr]
  induction xs generalizing j with
  | nil=>rfl
  | cons y l ih=>
   simp only [List.flatMap_cons,List.map_cons]
   have:l.flatMap (fun x=>[AV.str x])=l.map AV.str:=by
    clear h ih
    induction l with
    | nil=>rfl
    | cons z l ih=>simp only [List.flatMap_cons,List.map_cons,ih];rfl
   rw [this];rfl
 rw [e,List.getElem?_map,h];rfl
theorem strs_cells (m:Mem P gl ρ h w) {b:Nat} {xs:List (List UInt8)} {e:TypeId} {cap:Option Nat} (hb:h.at b=some (.cells (strs xs) e)) {v:Value} (hv:V ρ w (.sl b 0 xs.length 1 cap) v) (hne:xs≠[]) :
 ∃ c d cp,v = .slice (some ⟨c,d,none⟩) xs.length cp∧xs.length≤cp∧c<w.heap.size∧∀ (j:Nat) x,xs[j]? = some x→w.cell? ⟨c,d+j,none⟩=some (.string ⟨x.toArray⟩):=by
 obtain ⟨_,hbr⟩:=blk_cells m hb
 have hl:0<xs.length:=List.length_pos_iff.2 hne
 have hsl:(strs xs).length=xs.length:=by
  have:=arr_length (f:=fun x:List UInt8=>[AV.str x]) (esz:=1) (fun _=>rfl) xs
  rw [Nat.mul_one] at this
  exact this
 rcases hbr with ⟨c,d,cs,fr,h1,h2,h3,h4,h5⟩|⟨_,h2⟩
 · generalize hn:xs.length=n at hv
   cases hv with
   | @sl _ c' d' _ _ _ capC _ g1 g2 g3 g4=>
    rw [h1] at g1
    cases g1
    refine ⟨c,0+d,capC,rfl,g2,(Array.getElem?_eq_some_iff.1 h2).1,fun j x hx=>?_⟩
    have hj:j<xs.length:=(List.getElem?_eq_some_iff.1 hx).1
    obtain ⟨cs',e',fr',q1,q2⟩:=g4
    rw [h2] at q1
    cases q1
    have hjd:j+d<cs.size:=by omega
    have:=h5 j (.str x) cs[j+d] (strs_get xs hx) (Array.getElem?_eq_getElem hjd)
    have e:=this.str_inv
    simp only [World.cell?,h2,Nat.zero_add,Nat.add_comm d j,Array.getElem?_eq_getElem hjd,e]
    rfl
   | slN g1=>omega
   | slD _ _ g1=>rw [h1] at g1;cases g1
   | slND g1=>omega
   | slDE a g1=>omega
 · exfalso
   rw [h2] at hsl
   simp at hsl
   omega
end Go.Ab
