/-
  Own work: the operations that do not look at the heap: what the abstract machine reckons is what the model gives.
-/
import Derived.Test.YtcjphdmkgmkabaaGreatDoorLib0
import Derived.Laws.Strings
import Derived.Laws.StructEq
import Derived.ChangeKeysEq
import Derived.Lib.UnsafeStr
set_option maxHeartbeats 8000000
set_option maxRecDepth 20000
namespace Go.Ab
variable {v x':Value} {l:List AV} {m:List Value} {t e:TypeId} {n:Nat}
variable {P:Program} {gl:Nat->Option AV} {ρ:au} {w:World}
theorem V.fG {k:IntKind}{n:Int}(h:V ρ w (.int k n) v):v = .int k n:=by cases h;rfl
theorem V.kh {b:Bool}(h:V ρ w (.bool b) v):v = .bool b:=by cases h;rfl
theorem V.iN {s:List UInt8}(h:V ρ w (.str s) v):v = .string ⟨s.toArray⟩:=by cases h;rfl
theorem V.gY (h:V ρ w (.agg l) v):∃m:List Value,v = .agg m.toArray/\VL ρ w l m:=by
 cases h with|agg h g=>exact⟨_,rfl,h,g⟩
theorem V.DU (h:V ρ w (.aq l) v):∃m:List Value,v = .tuple m.toArray/\VL ρ w l m:=by
 cases h with|aq h g=>exact⟨_,rfl,h,g⟩
theorem V.pJ (h:VL ρ w l m):V ρ w (.agg l) (.agg m.toArray):=.agg h.1 h.2
theorem V.gI (h:VL ρ w l m):V ρ w (.aq l) (.tuple m.toArray):=.aq h.1 h.2
theorem V.undef:V ρ w bJ undef:=V.gI VL.nil
theorem VL.get (h:VL ρ w l m){i:Nat}{x:AV}(hx:l[i]? = some x):∃y,m[i]? = some y/\V ρ w x y:=by
 have hi:i<m.length:=h.1 ▸ (List.getElem?_eq_some_iff.1 hx).1;exact⟨m[i],List.getElem?_eq_getElem hi,h.2 i x _ hx (List.getElem?_eq_getElem hi)⟩
theorem xC {rec:Value->Option AV}(hr:∀v a,rec v=some a->V ρ w a v):∀(l:List Value) (r:List AV),mV rec l=some r->VL ρ w r l
 | [],r,h=>by simp[mV]at h;subst h;exact .nil
 | v::l,r,h=>by
  simp only[mV]at h;split at h
  . rename_i a r' h1 h2;cases h;exact .cons (hr v a h1) (xC hr l r' h2)
  . cases h
theorem pK:∀(n:Nat) (v:Value) (a:AV),lE n v=some a->V ρ w a v
 | 0,_,_,h=>by simp[lE]at h
 | n+1,v,a,h=>by
  unfold lE at h;split at h
  . cases h;exact .bool _
  . cases h;exact .int _ _
  . cases h;exact V.DS _
  . cases h;exact .dE
  . cases h;exact .ae
  . cases h;exact .dL
  . cases h;exact .fa
  . cases h;exact .cZ
  . cases h;exact V.fn (fi':=[]) (ca':=[]) (by simp) rfl rfl (by simp) (by simp)
  . rename_i cs;simp only[Option.map_eq_some_iff]at h;obtain⟨l,h1,rfl⟩:=h;exact V.pJ (xC (fun v a=>pK n v a) cs l h1)
  . rename_i cs;simp only[Option.map_eq_some_iff]at h;obtain⟨l,h1,rfl⟩:=h;exact V.gI (xC (fun v a=>pK n v a) cs l h1)
  . cases h
theorem DV {t:Nat}:∀{l:List Nat} {k i:Nat},idx t l k=some i->∃j,i=k+j/\l[j]? = some t
 | [],_,_,h=>by simp[idx]at h
 | u::r,k,i,h=>by
  simp only[idx]at h;split at h
  . rename_i hu;cases h;exact⟨0,rfl,by simp[hu]⟩
  . obtain⟨j,h1,h2⟩:=DV h;exact⟨j+1,by omega,by simpa using h2⟩
theorem sB {t:Nat}{l:List Nat}{i:Nat}(h:idx t l 0=some i):l[i]? = some t:=by
 obtain⟨j,rfl,h2⟩:=DV h;simpa using h2
theorem sC {t:Nat}:∀{l:List Nat} {k:Nat},idx t l k=none->t∉l
 | [],_,_=>by simp
 | u::r,k,h=>by
  simp only[idx]at h;split at h
  . cases h
  . rename_i hu;have:=sC h;simp;exact⟨fun e=>hu e.symm,this⟩
structure Rel (C:Cx)(ρ:au)(s:St)(a:Act)(w:World):Prop where
 er:ER C ρ w s.pe s.lo a.tmps
 mem:Mem C.P C.gl ρ s.hp w
variable {C:Cx} {s:St} {a:Act}
theorem MI (r:ER C ρ w s.pe s.lo a.tmps)(g:∀n v,C.gl n=some v->V ρ w v (.pointer (some ⟨n,0,none⟩))){x:Operand}{y:ax}(hc:fE C x=some y){v:AV}(hv:s.aa y=some v) :
 V ρ w v (a.eval x):=by
 cases x with
 | tmp t=>
  simp only[fE]at hc;split at hc
  . rename_i i hi;cases hc;exact r.pe i v t hv (sB hi)
  . cases hc;exact(r.lo t v hv).2.2
 | const c=>
  simp only[fE,Option.map_eq_some_iff]at hc;obtain⟨u,h1,rfl⟩:=hc;simp only[St.aa,Option.some.injEq]at hv;subst hv;exact pK 5 c _ h1
 | global n=>
  simp only[fE,Option.map_eq_some_iff]at hc;obtain⟨u,h1,rfl⟩:=hc;simp only[St.aa,Option.some.injEq]at hv;subst hv;exact g n _ h1
 | func f=>
  simp only[fE]at hc;cases hc;simp only[St.aa]at hv;cases hv;exact V.fn (fi':=[]) (ca':=[]) (by simp) rfl rfl (by simp) (by simp)
theorem Rel.aa (r:Rel C ρ s a w){x:Operand}{y:ax}(hc:fE C x=some y){v:AV}(hv:s.aa y=some v):V ρ w v (a.eval x):=
 MI r.er r.mem.gl hc hv
theorem Rel.bY (r:Rel C ρ s a w):∀{xs:List Operand} {ys:List ax},gn C xs=some ys->∀{vs:List AV},s.bY ys=some vs->VL ρ w vs (xs.map a.eval)
 | [],ys,hc,vs,hv=>by
  simp[gn]at hc;subst hc;simp[St.bY]at hv;subst hv;exact .nil
 | x::xs,ys,hc,vs,hv=>by
  simp only[gn]at hc;split at hc
  . rename_i y l h1 h2;cases hc;simp only[St.bY]at hv;split at hv
    . rename_i v hv1;split at hv
      . rename_i vs' hv2;cases hv;exact .cons (r.aa h1 hv1) (r.bY h2 hv2)
      . cases hv
    . cases hv
  . cases hc
theorem MJ {op:BinOp}{x y v:AV}{y':Value}(hx:V ρ w x x')(hy:V ρ w y y')(h:ck op x y=some v)(t:TypeId) :
 ∃v',(binOp op t x' y').run P w = .ok v' w/\V ρ w v v':=by
 unfold ck at h;split at h
 . rename_i k a k' b;obtain rfl:=hx.fG;obtain rfl:=hy.fG;split at h
   . split at h
     . cases h
     . rename_i hb;cases h;exact⟨_,by simp[binOp,Op.shift,hb] <;> rfl,.int _ _⟩
   . split at h
     . cases h
     . rename_i hb;cases h;exact⟨_,by simp[binOp,Op.shift,hb] <;> rfl,.int _ _⟩
   . rename_i op' h1 h2;split at h
     . rename_i hk;subst hk;split at h <;> first
        | (cases h;exact⟨_,by simp only[binOp];rw[if_neg (by simp)];rfl,.int _ _⟩)
        | (cases h;exact⟨_,by simp only[binOp];rw[if_neg (by simp)];rfl,.bool _⟩)
        | (split at h;cases h;rename_i hb;cases h;exact⟨_,by simp[binOp,Op.intDiv,hb] <;> rfl,.int _ _⟩)
        | cases h
     . cases h
 . rename_i a b;obtain rfl:=hx.iN;obtain rfl:=hy.iN;split at h
   . split at h
     . rename_i hl;cases h;refine⟨.string ⟨(a++b).toArray⟩,?_,.str _⟩;have hs:¬(((ByteArray.mk a.toArray).size+(ByteArray.mk b.toArray).size:Nat):Int) > IntKind.i64.max:=by
        have e1:(ByteArray.mk a.toArray).size=a.length:=by simp[ByteArray.size]
        have e2:(ByteArray.mk b.toArray).size=b.length:=by simp[ByteArray.size]
        rw[e1,e2];have:IntKind.i64.max=9223372036854775807:=by decide
        omega
       have e:(ByteArray.mk a.toArray)++(ByteArray.mk b.toArray)=⟨(a++b).toArray⟩:=by
        apply ByteArray.ext;simp
       simp only[binOp,Op.stringOp];rw[if_neg hs,e];rfl
     . cases h
   all_goals first
    | (cases h;exact⟨_,by simp[binOp,Op.stringOp] <;> rfl,.bool _⟩)
    | cases h
 . cases h
theorem MK {op:UnOp}{x v:AV}(hx:V ρ w x x')(h:pr op x=some v):∃v',(Op.unary op x').run P w = .ok v' w/\V ρ w v v':=by
 unfold pr at h;split at h
 . obtain rfl:=hx.fG;cases h;exact⟨_,by simp[Op.unary,Op.intArith] <;> rfl,.int _ _⟩
 . obtain rfl:=hx.kh;cases h;exact⟨_,by simp[Op.unary] <;> rfl,.bool _⟩
 . obtain rfl:=hx.fG;cases h;exact⟨_,by simp[Op.unary,Op.intBits] <;> rfl,.int _ _⟩
 . cases h
theorem bC {d:TypeDesc}(h:P.underlying t=some d):(underlying t).run P w = .ok d w:=by simp[underlying,h]
theorem sD {i:TypeInfo}(h:P.info? t=some i):(typeInfo t).run P w = .ok i w:=by simp[typeInfo,h]
theorem fV {i:TypeInfo}(h:P.info? t=some i):(sizeOf t).run P w = .ok i.size w:=by simp[sizeOf,typeInfo,h]
theorem DW {d:TypeDesc}(h:P.underlying t=some d):(isAgg t).run P w = .ok (xq d) w:=by
 simp only[isAgg,Sem.run_bind,bC h,Result.andThen_ok];cases d <;> rfl
theorem pL {ag:Bool}(h:shapeOf P t=some (n,ag)):∃i d,P.info? t=some i/\P.underlying t=some d/\i.size=n/\xq d=ag:=by
 unfold shapeOf at h;split at h
 . rename_i i d h1 h2;cases h;exact⟨i,d,h1,h2,rfl,rfl⟩
 . cases h
theorem ML (h:VL ρ w l m){off n:Nat}{r:List AV}(hc:cut l off n=some r):VL ρ w r ((m.drop off).take n)/\r.length=n:=by
 unfold cut at hc;simp only at hc;split at hc
 . rename_i hl;cases hc;exact⟨(h.drop off).take n,hl⟩
 . cases hc
theorem MM (m:List Value)(off n:Nat):(m.toArray.extract off (off+n))=((m.drop off).take n).toArray:=by
 rw[List.extract_toArray,List.extract_eq_drop_take'];simp[List.drop_take]
theorem mZ {ag:Bool}(hs:shapeOf P t=some (n,ag)){l:List AV}{m:List Value}(h:VL ρ w l m){off:Nat}{v:AV}(hv:partOf l off n ag=some v) :
 ∃v',(part t m.toArray off).run P w = .ok v' w/\V ρ w v v':=by
 obtain⟨i,d,h1,h2,rfl,rfl⟩:=pL hs;unfold partOf at hv;simp only[part,Sem.run_bind,DW h2,Result.andThen_ok];split at hv
 . rename_i hag;simp only[Option.map_eq_some_iff]at hv;obtain⟨r,hr,rfl⟩:=hv;obtain⟨hr1,hr2⟩:=ML h hr;rw[if_pos hag];refine⟨.agg ((m.drop off).take i.size).toArray,?_,V.pJ hr1⟩;simp only[Sem.run_bind,fV h1,Result.andThen_ok,MM];rfl
 . rename_i hag;rw[if_neg hag];obtain⟨y,hy1,hy2⟩:=h.get hv;refine⟨y,?_,hy2⟩;have:m.toArray[off]? = some y:=by simpa using hy1
   rw[this];rfl
theorem MN {i:Nat}{x:List AV}(hx:V ρ w (.aq x) x'){v:AV}(h:x[i]? = some v):∃v',(Instr.extract x' i).run P w = .ok v' w/\V ρ w v v':=by
 obtain⟨m,rfl,hl⟩:=hx.DU;obtain⟨y,hy1,hy2⟩:=hl.get h;refine⟨y,?_,hy2⟩;have:m.toArray[i]? = some y:=by simpa using hy1
 simp only[Instr.extract,this];rfl
theorem MO (hd:P.underlying t=some (.pointer e)){x y:AV}{x' y':Value}(hx:V ρ w x x')(hy:V ρ w y y'){r:Bool}
 (h:im .ptr x y=some r):(Op.equalIn (n+1) t x' y').run P w = .ok r w:=by
 unfold im at h;split at h
 all_goals first|contradiction|skip
 all_goals (cases h;cases hx <;> cases hy <;> simp[Op.equalIn,bC hd])
theorem MP (hd:P.underlying t=some (.slice e)){x y:AV}{x' y':Value}(hx:V ρ w x x')(hy:V ρ w y y'){r:Bool}
 (h:im .slice x y=some r):(Op.equalIn (n+1) t x' y').run P w = .ok r w:=by
 unfold im at h;split at h
 all_goals first|contradiction|skip
 all_goals (cases h;cases hx <;> cases hy <;> simp[Op.equalIn,bC hd])
theorem MQ {k:TypeId}(hd:P.underlying t=some (.map k e)){x y:AV}{x' y':Value}(hx:V ρ w x x')(hy:V ρ w y y'){r:Bool}
 (h:im .map x y=some r):(Op.equalIn (n+1) t x' y').run P w = .ok r w:=by
 unfold im at h;split at h
 all_goals first|contradiction|skip
 all_goals (cases h;cases hx <;> cases hy <;> simp[Op.equalIn,bC hd])
theorem MR {ps rs:Array TypeId}{vr:Bool}(hd:P.underlying t=some (.func ps rs vr)){x y:AV}{x' y':Value}(hx:V ρ w x x')(hy:V ρ w y y'){r:Bool}
 (h:im .func x y=some r):(Op.equalIn (n+1) t x' y').run P w = .ok r w:=by
 unfold im at h;split at h
 all_goals first|contradiction|skip
 all_goals (cases h;cases hx <;> cases hy <;> simp[Op.equalIn,bC hd])
theorem MS {f d:Nat}(ih:∀(g:Bool) (T:TypeId) (t:fS),gp P d g T=some t->∀(x y:AV) (x' y':Value) (r:Bool),V ρ w x x'->V ρ w y y'->dG f t x y=some r ->
 ∀n,f<=n->(Op.equalIn n T x' y').run P w = .ok r w){n:Nat}(hn:f<=n){xs ys:List AV}{xm ym:List Value}(hx:VL ρ w xs xm)(hy:VL ρ w ys ym) :
 ∀(l:List Field) (fs:List (Nat×Nat×Bool×fS)),pG P (fun t=>gp P d true t) l=some fs->∀r,goEq (fun t x y=>dG f t x y) fs xs ys=some r ->
  (Op.eqFields n xm.toArray ym.toArray l).run P w = .ok r w:=by
 intro l;induction l with
 | nil=>
  intro fs hf r h;simp[pG]at hf;subst hf;simp[goEq]at h;subst h;simp[Op.eqFields]
 | cons fd l ihl=>
  intro fs hf r h;simp only[pG]at hf;split at hf
  . rename_i l' hl';split at hf
    . rename_i hname;cases hf;simp only[Op.eqFields];rw[if_neg (by simpa using hname)];exact ihl _ hl' r h
    . rename_i hname;split at hf
      . rename_i k ag e hs he;cases hf;simp only[goEq]at h;split at h
        . rename_i a b ha hb;obtain⟨a',ha1,ha2⟩:=mZ hs hx ha;obtain⟨b',hb1,hb2⟩:=mZ hs hy hb;simp only[Op.eqFields];rw[if_pos (by simpa using hname)];simp only[Sem.run_bind,ha1,hb1,Result.andThen_ok];split at h
          . rename_i hr;rw[ih true fd.type e he a b a' b' true ha2 hb2 hr n hn];simp only[Result.andThen_ok,Bool.not_true,Bool.false_eq_true,if_false];exact ihl _ hl' r h
          . rename_i hr;cases h;rw[ih true fd.type e he a b a' b' false ha2 hb2 hr n hn];simp
          . cases h
        . cases h
      . cases hf
  . cases hf
theorem MT {f d:Nat}(ih:∀(g:Bool) (T:TypeId) (t:fS),gp P d g T=some t->∀(x y:AV) (x' y':Value) (r:Bool),V ρ w x x'->V ρ w y y'->dG f t x y=some r ->
 ∀n,f<=n->(Op.equalIn n T x' y').run P w = .ok r w){n:Nat}(hn:f<=n){xs ys:List AV}{xm ym:List Value}(hx:VL ρ w xs xm)(hy:VL ρ w ys ym)
 {e:TypeId} {k:Nat} {ag:Bool} {q:fS} (hs:shapeOf P e=some (k,ag)) (hc:P.cellsOf e=k) (he:gp P d true e=some q) :
 ∀(m i:Nat) r,goEq (fun t x y=>dG f t x y) (pH k ag q m i) xs ys=some r ->
  (Op.eqItems n e (P.cellsOf e) xm.toArray ym.toArray (List.range' i m)).run P w = .ok r w:=by
 intro m;induction m with
 | zero=>
  intro i r h;simp[pH,goEq]at h;subst h;simp[Op.eqItems]
 | succ m ihm=>
  intro i r h;simp only[pH,goEq]at h;rw[List.range'_succ];split at h
  . rename_i a b ha hb;obtain⟨a',ha1,ha2⟩:=mZ hs hx ha;obtain⟨b',hb1,hb2⟩:=mZ hs hy hb;simp only[Op.eqItems,hc];simp only[Sem.run_bind,ha1,hb1,Result.andThen_ok];split at h
    . rename_i hr;rw[ih true e q he a b a' b' true ha2 hb2 hr n hn];simp only[Result.andThen_ok,Bool.not_true,Bool.false_eq_true,if_false];have:=ihm (i+1) r h;rw[hc]at this;exact this
    . rename_i hr;cases h;rw[ih true e q he a b a' b' false ha2 hb2 hr n hn];simp
    . cases h
  . cases h
theorem MU:∀(f d:Nat) (g:Bool) (T:TypeId) (t:fS),gp P d g T=some t->∀(x y:AV) (x' y':Value) (r:Bool),V ρ w x x'->V ρ w y y'->dG f t x y=some r ->
 ∀n,f<=n->(Op.equalIn n T x' y').run P w = .ok r w:=by
 intro f;induction f with
 | zero=>intro d g T t _ x y x' y' r _ _ h;simp[dG]at h
 | succ f ih=>
  intro d g T t ht x y x' y' r hx hy h n hn;obtain⟨n,rfl⟩:∃m,n=m+1:=⟨n-1,by omega⟩;cases d with
  | zero=>simp[gp]at ht
  | succ d=>
   simp only[gp]at ht;cases hu:P.underlying T with
   | none=>simp[hu]at ht
   | some u=>
    simp only[hu]at ht;cases u <;> simp only[Option.some.injEq,reduceCtorEq]at ht
    case bool=>
     subst ht;simp only[dG]at h;split at h <;> simp_all
     obtain rfl:=hx.kh;obtain rfl:=hy.kh;simp[Op.equalIn,bC hu,h]
    case int k=>
     subst ht;simp only[dG]at h;split at h <;> simp_all
     obtain rfl:=hx.fG;obtain rfl:=hy.fG;obtain⟨rfl,h⟩:=h;simp[Op.equalIn,bC hu,h]
    case string=>
     subst ht;simp only[dG]at h;split at h <;> simp_all
     obtain rfl:=hx.iN;obtain rfl:=hy.iN;rw[run_equalIn_string w n T _ _ hu];simp[h]
    case pointer e=>subst ht;exact MO hu hx hy (by simpa[dG] using h)
    case slice e=>subst ht;exact MP hu hx hy (by simpa[dG] using h)
    case map k e=>subst ht;exact MQ hu hx hy (by simpa[dG] using h)
    case func ps rs vr=>subst ht;exact MR hu hx hy (by simpa[dG] using h)
    case interface ms=>
     subst ht;simp only[dG]at h;generalize hg:(g && !ms.isEmpty)=g' at h;clear hg;split at h
     all_goals first|(rename_i heq;cases heq;done)|(rename_i heq _ _;cases heq;done)|skip
     all_goals first|(simp at h;done)|skip
     all_goals (cases hx;cases hy;first|(split at h;(cases h);(cases h;simp[Op.equalIn,bC hu]))|(cases h;simp[Op.equalIn,bC hu]))
    case struct fs=>
     split at ht
     . cases ht
     . rename_i hst;simp only[Option.map_eq_some_iff]at ht;obtain⟨l,hl,rfl⟩:=ht;simp only[dG]at h;split at h <;> try (simp_all;done)
       rename_i fs' xs ys heq;cases heq;obtain⟨xm,rfl,hxm⟩:=hx.gY;obtain⟨ym,rfl,hym⟩:=hy.gY;have hfo:P.fieldsOf T=fs:=by simp[Program.fieldsOf,hu]
       rw[run_equalIn_struct w n T _ _ (by rw[hfo];exact hu) (by simpa using hst),hfo];exact MS (fun g T t ht x y x' y' r h1 h2 h3 n hn=>ih d g T t ht x y x' y' r h1 h2 h3 n hn) (by omega) hxm hym _ _ hl r h
    case array m e=>
     split at ht
     . rename_i k ag q hs hq;cases ht;simp only[dG]at h;split at h <;> try (simp_all;done)
       rename_i fs' xs ys heq;cases heq;obtain⟨xm,rfl,hxm⟩:=hx.gY;obtain⟨ym,rfl,hym⟩:=hy.gY;obtain⟨i,dd,hi,_,hk,_⟩:=pL hs;have hc:P.cellsOf e=k:=by simp[Program.cellsOf,hi,hk]
       rw[run_equalIn_array w n _ _ hu hi,List.range_eq_range'];exact MT (fun g T t ht x y x' y' r h1 h2 h3 n hn=>ih d g T t ht x y x' y' r h1 h2 h3 n hn) (by omega) hxm hym hs hc hq m 0 r h
     . cases ht
end Go.Ab
namespace Go.Ab
variable {l o n len esz dflt most r capC:Nat} {f:Field} {i:TypeInfo} {t e:TypeId} {cap:Option Nat} {x:Option AV} {a:Option Addr}
variable {P:Program} {gl:Nat->Option AV} {ρ:au} {w:World}
theorem MV {src dst:TypeId}{k k':IntKind}(hs:P.underlying src=some (.int k'))(hd:P.underlying dst=some (.int k)){x v:AV}{x':Value}(hx:V ρ w x x')
 (h:kY k x=some v):∃v',(convert src dst x').run P w = .ok v' w/\V ρ w v v':=by
 unfold kY at h;split at h
 . cases h;obtain rfl:=hx.fG;exact⟨_,by simp[convert,bC hs,bC hd,Conv.intToInt] <;> rfl,.int _ _⟩
 . cases h
theorem MW {x v:AV}{x':Value}(hx:V ρ w x x')(h:wT x=some v)(t:TypeId)(pos:String)(dst:Option Tmp)(af:Array Edge)(g:Option (Nat×Bool))(e:Operand->Value)(X:Operand)(hX:e X=x') :
 ∃v',(execOp e ⟨dst,.nilCheck X,t,pos,af,g⟩).run P w = .ok (.value v') w/\V ρ w v v':=by
 unfold wT at h;simp only[execOp,hX];split at h <;> cases h
 . cases hx with
   | ptr _ hb=>exact⟨_,rfl,.ptr _ hb⟩
   | dy _ _ _ hb=>exact⟨_,rfl,.dy _ _ _ hb⟩
 . cases hx with
   | vp c o g hf hc hg=>exact⟨_,rfl,.vp c o g hf hc hg⟩
 . cases hx with
   | fn hf h1 h2 g1 g2=>exact⟨_,rfl,.fn hf h1 h2 g1 g2⟩
 . cases hx with
   | yield hb=>exact⟨_,rfl,.yield hb⟩
   | fn hf h1 h2 g1 g2=>exact absurd rfl (hf _)
   | fU c hb=>exact⟨_,rfl,.fU c hb⟩
theorem Addr.fW (c o n:Nat):(⟨c,o,none⟩:Addr).add n=⟨c,o+n,none⟩:=by
 unfold Addr.add;split
 . rename_i h;subst h;rfl
 . rfl
theorem xD {l:List AV}{c:Nat}(h:V ρ w (.vp l) (.pointer (some ⟨c,o,none⟩)))(n:Nat):V ρ w (.vp (l.drop n)) (.pointer (some ⟨c,o+n,none⟩)):=by
 cases h with
 | vp c o g hf hc hg=>
  refine .vp c (o+n) (fun i=>g (n+i)) (fun hn=>hf (fun e=>hn (by rw[e];simp))) (fun i hi=>?_) (fun i x hx=>?_)
  . rw[show o+n+i=o+(n+i) from by omega];exact hc (n+i) (by simp at hi;omega)
  . exact hg (n+i) x (by simpa using hx)
theorem DX {l:List AV}{v:Value}(h:V ρ w (.vp l) v):∃c o,v = .pointer (some ⟨c,o,none⟩):=by
 cases h with|vp c o g hf hc hg=>exact⟨c,o,rfl⟩
theorem MX {a:Addr}(hi:P.info? f.type=some i)(h0:i.size≠0):(fieldPlace a f).run P w = .ok (a.add f.offset) w:=by
 simp[fieldPlace,fV hi,h0]
theorem MY {fs:Array Field}(hu:P.underlying t=some (.struct fs))(hf:fs[n]? = some f)(hi:P.info? f.type=some i)(h0:i.size≠0)
 {x v:AV} {x':Value} (hx:V ρ w x x') (h:wS f.offset x=some v):∃v',(Instr.fieldAt t x' n).run P w = .ok v' w/\V ρ w v v':=by
 have key:∀a,x' = .pointer (some a)->(Instr.fieldAt t x' n).run P w = .ok (.pointer (some (a.add f.offset))) w:=by
  rintro a rfl;simp[Instr.fieldAt,bC hu,hf,Instr.sureAddr,MX hi h0]
 unfold wS at h;split at h <;> cases h
 . cases hx with
   | ptr _ hb=>
    refine⟨_,key _ rfl,?_⟩;rw[Addr.fW,Nat.add_right_comm];exact .ptr _ hb
   | dy _ _ _ hb=>exact⟨_,key _ rfl,by rw[Addr.fW];exact .dy _ _ _ hb⟩
 . obtain⟨c,o,rfl⟩:=DX hx;refine⟨_,key _ rfl,?_⟩;rw[Addr.fW];exact xD hx _
theorem nc (k:IntKind)(n:Int):(asIntOf (.int k n)).run P w = .ok (k,n) w:=rfl
theorem MZ {l:List AV}{v:Value}(h:V ρ w (.vs l len cap) v)(hn:0<len):∃c o capC,v = .slice (some ⟨c,o,none⟩) len capC/\V ρ w (.vp l) (.pointer (some ⟨c,o,none⟩)):=by
 cases h with
 | vs c o g hf hl hcap hc hg=>exact⟨c,o,_,rfl,.vp c o g hf hc hg⟩
 | dz hcap=>omega
 | eK a hcap=>omega
theorem xE (hu:P.underlying t=some (.slice e))(hi:P.info? e=some i){k:IntKind}{n:Int}{a:Addr}{len capC:Nat}(h0:0<=n)(h1:n<len) :
 (Instr.indexAt t (.slice (some a) len capC) (.int k n)).run P w = .ok (.pointer (some (a.add (n.toNat*i.size)))) w:=by
 simp[Instr.indexAt,nc,bC hu,fV hi,h0,h1]
theorem xF (hu:P.underlying t=some (.array len e))(hi:P.info? e=some i){k:IntKind}{n:Int}{a:Addr}(h0:0<=n)(h1:n<len) :
 (Instr.indexAt t (.pointer (some a)) (.int k n)).run P w = .ok (.pointer (some (a.add (n.toNat*i.size)))) w:=by
 simp[Instr.indexAt,nc,bC hu,fV hi,h0,h1,Instr.sureAddr]
theorem DY {arr:Option Nat}(hu:P.underlying t=some (match arr with|some len=>.array len e|none=>.slice e))(hi:P.info? e=some i)
 {x y v:AV} {x' y':Value} (hx:V ρ w x x') (hy:V ρ w y y') (h:mS arr i.size x y=some v):∃v',(Instr.indexAt t x' y').run P w = .ok v' w/\V ρ w v v':=by
 unfold mS at h;split at h
 . rename_i k n;obtain rfl:=hy.fG;split at h
   . split at h
     . rename_i hb;cases h;cases hx with
       | ptr _ hr=>
        refine⟨_,xF hu hi hb.1 hb.2,?_⟩;rw[Addr.fW,Nat.add_right_comm];exact .ptr _ hr
       | dy _ _ _ hr=>exact⟨_,xF hu hi hb.1 hb.2,by rw[Addr.fW];exact .dy _ _ _ hr⟩
     . cases h
   . split at h
     . rename_i hb;cases h;obtain⟨c,o,rfl⟩:=DX hx;refine⟨_,xF hu hi hb.1 hb.2,?_⟩;rw[Addr.fW];exact xD hx _
     . cases h
   . split at h
     . rename_i hb;cases h;obtain⟨h0,h1,rfl⟩:=hb;cases hx with
       | sl hr hl hcap hs=>
        refine⟨_,xE hu hi h0 h1,?_⟩;rw[Addr.fW,Nat.add_right_comm];exact .ptr _ hr
       | eC hr=>simp at h1;omega
       | dO _ _ hr hl hcap=>exact⟨_,xE hu hi h0 h1,by rw[Addr.fW];exact .dy _ _ _ hr⟩
       | eA hr=>simp at h1;omega
       | eE a hr=>simp at h1;omega
     . cases h
   . split at h
     . rename_i hb;cases h;obtain⟨h0,h1⟩:=hb;obtain⟨c,o,capC,rfl,hv⟩:=MZ hx (by omega);refine⟨_,xE hu hi h0 h1,?_⟩;rw[Addr.fW];exact xD hv _
     . cases h
   . cases h
 . cases h
theorem Na (hu:P.underlying t=some .string){x y v:AV}{x' y':Value}(hx:V ρ w x x')(hy:V ρ w y y')(h:rX x y=some v) :
 ∃v',(Instr.index t x' y').run P w = .ok v' w/\V ρ w v v':=by
 unfold rX at h;split at h
 . rename_i s k n;obtain rfl:=hx.iN;obtain rfl:=hy.fG;split at h
   . rename_i h0;simp only[Option.map_eq_some_iff]at h;obtain⟨c,hc,rfl⟩:=h;refine⟨.int .u8 c.toNat,?_,.int _ _⟩;have e:(ByteArray.mk s.toArray)[n.toNat]? = some c:=by
      have hlt:=(List.getElem?_eq_some_iff.1 hc).1;have:n.toNat<(ByteArray.mk s.toArray).size:=by simpa[ByteArray.size] using hlt
      rw[getElem?_pos (ByteArray.mk s.toArray) n.toNat this];have h2:=(List.getElem?_eq_some_iff.1 hc).2;congr 1
     simp[Instr.index,nc,bC hu,h0,e]
   . cases h
 . cases h
theorem Nb {ag:Bool}(hu:P.underlying t=some (.array len e))(hs:shapeOf P e=some (esz,ag)){l:List AV}{x':Value}(hx:V ρ w (.agg l) x')
 {k:IntKind} {n:Int} (h0:0<=n) (h1:n<len) {v:AV} (h:partOf l (n.toNat*esz) esz ag=some v):∃v',(Instr.index t x' (.int k n)).run P w = .ok v' w/\V ρ w v v':=by
 obtain⟨m,rfl,hm⟩:=hx.gY;obtain⟨i,d,hi,hd,rfl,rfl⟩:=pL hs;obtain⟨v',h2,h3⟩:=mZ hs hm h;refine⟨v',?_,h3⟩;simp[Instr.index,nc,bC hu,fV hi,h0,h1,h2]
theorem Nc {fs:Array Field}{sz:Nat}{ag:Bool}(hu:P.underlying t=some (.struct fs))(hf:fs[n]? = some f)(hs:shapeOf P f.type=some (sz,ag))
 {l:List AV} {x':Value} (hx:V ρ w (.agg l) x') {v:AV} (h:partOf l f.offset sz ag=some v):∃v',(Instr.field t x' n).run P w = .ok v' w/\V ρ w v v':=by
 obtain⟨m,rfl,hm⟩:=hx.gY;obtain⟨v',h2,h3⟩:=mZ hs hm h;refine⟨v',?_,h3⟩;simp[Instr.field,bC hu,hf,asAgg,h2]
theorem ki {a:AV}{b:Value}(hx:V ρ w a b){dflt most r:Nat}(h:br (some a) dflt most=some r) :
 (∀code,(Instr.sliceBound b most code).run P w = .ok r w)/\r<=most:=by
 unfold br at h;split at h
 . rename_i heq;cases heq
 . rename_i k n heq;cases heq;split at h
   . rename_i hb;cases h;obtain rfl:=hx.fG;exact⟨fun code=>by simp[Instr.sliceBound,nc,hb.1,hb.2],by omega⟩
   . cases h
 . cases h
theorem pM (h:br none dflt most=some r):r=dflt:=by
 simp[br]at h;exact h.symm
def VO (ρ:au)(w:World):Option AV->Option Value->Prop
 | none,none=>True
 | some a,some b=>V ρ w a b
 | _,_=>False
theorem xG {isS:Bool}{cap:Nat}{lo hi mx:Option AV}{lo' hi' mx':Option Value}(hl:VO ρ w lo lo')(hh:VO ρ w hi hi')(hm:VO ρ w mx mx')
 {m h l:Nat} (h1:br mx cap cap=some m) (h2:br hi len m=some h) (h3:br lo 0 h=some l) (hmh:mx=none\/hi≠none) :
 (Instr.sliceBounds isS len cap lo' hi' mx').run P w = .ok (l,h,m) w:=by
 unfold Instr.sliceBounds;cases mx with
 | none=>
  cases mx' with
  | some _=>exact hm.elim
  | none=>
   obtain rfl:=pM h1;cases hi with
   | none=>
    cases hi' with
    | some _=>exact hh.elim
    | none=>
     obtain rfl:=pM h2;cases lo with
     | none=>
      cases lo' with
      | some _=>exact hl.elim
      | none=>obtain rfl:=pM h3;simp
     | some a=>
      cases lo' with
      | none=>exact hl.elim
      | some b=>simp[(ki (P:=P) hl h3).1]
   | some c=>
    cases hi' with
    | none=>exact hh.elim
    | some d=>
     have e2:=(ki (P:=P) hh h2).1;cases lo with
     | none=>
      cases lo' with
      | some _=>exact hl.elim
      | none=>obtain rfl:=pM h3;simp[e2]
     | some a=>
      cases lo' with
      | none=>exact hl.elim
      | some b=>simp[e2,(ki (P:=P) hl h3).1]
 | some x=>
  cases mx' with
  | none=>exact hm.elim
  | some y=>
   have e1:=(ki (P:=P) hm h1).1;cases hi with
   | none=>
             rcases hmh with h|h
             . cases h
             . exact absurd rfl h
   | some c=>
    cases hi' with
    | none=>exact hh.elim
    | some d=>
     have e2:=(ki (P:=P) hh h2).1;cases lo with
     | none=>
      cases lo' with
      | some _=>exact hl.elim
      | none=>obtain rfl:=pM h3;simp[e1,e2]
     | some a=>
      cases lo' with
      | none=>exact hl.elim
      | some b=>simp[e1,e2,(ki (P:=P) hl h3).1]
theorem xH (h:br x dflt most=some r):r<=max dflt most:=by
 unfold br at h;split at h
 . cases h;omega
 . split at h
   . cases h;omega
   . cases h
 . cases h
theorem jM (hd:dflt<=most)(h:br x dflt most=some r):r<=most:=by
 have:=xH h;omega
theorem sE {most':Nat}(hm:most<=most')(h:br x dflt most=some r):br x dflt most'=some r:=by
 unfold br at *
 split at h
 . exact h
 . split at h
   . rename_i hb;rw[if_pos ⟨hb.1,by omega⟩];exact h
   . cases h
 . cases h
theorem xI (s:List UInt8)(l h:Nat):(ByteArray.mk s.toArray).extract l h=⟨((s.drop l).take (h-l)).toArray⟩:=by
 apply ByteArray.ext;rw[ByteArray.data_extract];simp
theorem Nd {b h:Nat}(hx:V ρ w (.sl b o len esz cap) (.slice a len capC))(hlh:l<h)(hhc:h<=capC)(m:Nat)(hm:m<=capC)(hhm:h<=m)(cap':Option Nat)
 (hc':∀n,cap'=some n->m-l=n):V ρ w (.sl b (o+l*esz) (h-l) esz cap') (.slice (if m=l then a else a.map (·.add (l*esz))) (h-l) (m-l)):=by
 have hne:m≠l:=by omega
 rw[if_neg hne];cases hx with
 | sl hr hl hcap hs=>
  obtain⟨cs,e,fr,h1,h2⟩:=hs;simp only[Option.map_some];rw[Addr.fW,Nat.add_right_comm];refine .sl hr (by omega) hc' ⟨cs,e,fr,h1,?_⟩;have e1:l*esz+(m-l)*esz=m*esz:=by rw[←Nat.add_mul];congr 1;omega
  have e2:m*esz<=capC*esz:=Nat.mul_le_mul_right _ hm;omega
 | eC hr=>omega
 | dO _ _ hr hl hcap=>simp only[Option.map_some];rw[Addr.fW];exact .dO _ _ hr (by omega) hc'
 | eA hr=>omega
 | eE a hr=>omega
theorem Nf {c:List AV}{h:Nat}(hx:V ρ w (.vs c len cap) (.slice a len capC))(hlh:l<=h)(m:Nat)(hhm:h<=m)(cap':Option Nat)
 (hc':∀n,cap'=some n->m-l=n) (hm:m<=capC):V ρ w (.vs ((c.drop (l*esz)).take ((h-l)*esz)) (h-l) cap') (.slice (if m=l then a else a.map (·.add (l*esz))) (h-l) (m-l)):=by
 cases hx with
 | vs c' o g hf hl hcap hcc hg=>
  by_cases hne:m=l
  . rw[if_pos hne];have e1:h-l=0:=by omega
    rw[e1];simp only[Nat.zero_mul,List.take_zero];exact .vs c' o g (fun h=>absurd rfl h) (by omega) hc' (by simp) (by simp)
  . rw[if_neg hne];simp only[Option.map_some];rw[Addr.fW];refine .vs c' (o+l*esz) (fun i=>g (l*esz+i)) (fun hn=>hf (fun e=>hn (by rw[e];simp))) (by omega) hc' (fun i hi=>?_) (fun i x hx=>?_)
    . rw[Nat.add_assoc];refine hcc _ ?_;simp at hi;omega
    . rw[List.getElem?_take]at hx;split at hx
      . exact hg _ x (by simpa using hx)
      . cases hx
 | dz hcap=>
  have:m=0:=by omega
  subst this;have:l=0:=by omega
  subst this;have:h=0:=by omega
  subst this;simp;exact .dz (fun n hn=>(hc' n hn).symm)
 | eK a hcap=>
  have:m=0:=by omega
  subst this;have:l=0:=by omega
  subst this;have:h=0:=by omega
  subst this;simp;exact .eK a (fun n hn=>(hc' n hn).symm)
theorem V.empty {c:Nat}(ha:a=none->c=0)(hs:∀x,a=some x->x.spot=none\/c=0)(hc:∀n,cap=some n->c=n):V ρ w (.vs [] 0 cap) (.slice a 0 c):=by
 cases a with
 | none=>obtain rfl:=ha rfl;exact .dz (fun n hn=>(hc n hn).symm)
 | some x=>
  obtain⟨b,o,sp⟩:=x;rcases hs _ rfl with h|rfl
  . obtain rfl:sp=none:=h;exact .vs b o (fun _=>Go.undef) (fun h=>absurd rfl h) (Nat.zero_le _) hc (by simp) (by simp)
  . exact .eK _ (fun n hn=>(hc n hn).symm)
theorem Ng (hu:P.underlying t=some .string){s:List UInt8}{lo hi:Option AV}{lo' hi':Option Value}(hl:VO ρ w lo lo')(hh:VO ρ w hi hi')
 {h l:Nat} (h2:br hi s.length s.length=some h) (h3:br lo 0 h=some l) :
 (Instr.sliceAt t (.string ⟨s.toArray⟩) lo' hi' none).run P w = .ok (.string ⟨((s.drop l).take (h-l)).toArray⟩) w:=by
 have e:(ByteArray.mk s.toArray).size=s.length:=by simp[ByteArray.size]
 have b:=xG (P:=P) (isS:=false) (len:=s.length) (cap:=s.length) hl hh (show VO ρ w none none from trivial) (m:=s.length) (by simp[br]) h2 h3 (.inl rfl);simp only[Instr.sliceAt,Instr.slice,Sem.run_bind,bC hu,Result.andThen_ok];simp[e,b,xI]
theorem xJ (hu:P.underlying t=some (.slice e))(hi:P.info? e=some i){a:Option Addr}{len capC:Nat}{lo hi' mx:Option AV}{lo' hi'' mx':Option Value}
 (hl:VO ρ w lo lo') (hh:VO ρ w hi' hi'') (hm:VO ρ w mx mx') {h l m:Nat} (h1:br mx capC capC=some m) (h2:br hi' len m=some h) (h3:br lo 0 h=some l) (hmh:mx=none\/hi'≠none) :
 (Instr.sliceAt t (.slice a len capC) lo' hi'' mx').run P w = .ok (.slice (if m=l then a else a.map (·.add (l*i.size))) (h-l) (m-l)) w:=by
 have b:=xG (P:=P) (isS:=true) hl hh hm h1 h2 h3 hmh;simp only[Instr.sliceAt,Instr.slice,Sem.run_bind,bC hu,Result.andThen_ok];simp[b,fV hi]
theorem Nh (hu:P.underlying t=some (.array n e))(hi:P.info? e=some i){a:Addr}{lo hi':Option AV}{lo' hi'':Option Value}
 (hl:VO ρ w lo lo') (hh:VO ρ w hi' hi'') {h l:Nat} (h2:br hi' n n=some h) (h3:br lo 0 h=some l) :
 (Instr.sliceAt t (.pointer (some a)) lo' hi'' none).run P w = .ok (.slice (some (if n=l then a else a.add (l*i.size))) (h-l) (n-l)) w:=by
 have b:=xG (P:=P) (isS:=false) (len:=n) (cap:=n) hl hh (show VO ρ w none none from trivial) (m:=n) (by simp[br]) h2 h3 (.inl rfl);simp only[Instr.sliceAt,Sem.run_bind,bC hu,Result.andThen_ok];simp[b,fV hi,Instr.sureAddr]
theorem Ni {m:Nat}(hm:m<=capC)(ha:∀x,a=some x->x.spot=none\/capC=0)(n:Nat)(c:Prop)[Decidable c]:∀x,(if c then a else a.map (·.add n))=some x->x.spot=none\/m-l=0:=by
 intro x hx;split at hx
 . rcases ha x hx with h|h
   . exact .inl h
   . exact .inr (by omega)
 . simp only[Option.map_eq_some_iff]at hx;obtain⟨y,hy,rfl⟩:=hx;rcases ha y hy with this|h
   . refine .inl ?_;unfold Addr.add;split
     . exact this
     . rfl
   . exact .inr (by omega)
theorem jm {x:AV}{x':Value}(hx:V ρ w x x')(hk:match x with | .ae | .sl .. | .vs .. => True|_=>False) :
 ∃a len capC,x' = .slice a len capC/\len<=capC/\(∀y,a=some y->y.spot=none\/capC=0)/\(a=none->capC=0):=by
 cases hx <;> simp at hk
 case ae=>exact⟨none,0,0,rfl,Nat.le_refl _,by simp,fun _=>rfl⟩
 case sl hr hl hcap hs=>exact⟨_,_,_,rfl,hl,by rintro y ⟨⟩;exact .inl rfl,by simp⟩
 case eC=>exact⟨none,0,0,rfl,Nat.le_refl _,by simp,fun _=>rfl⟩
 case dO hr hl hcap=>exact⟨_,_,_,rfl,hl,by rintro y ⟨⟩;exact .inl rfl,by simp⟩
 case eA=>exact⟨none,0,0,rfl,Nat.le_refl _,by simp,fun _=>rfl⟩
 case vs hf hl hcap hc hg=>exact⟨_,_,_,rfl,hl,by rintro y ⟨⟩;exact .inl rfl,by simp⟩
 case dz hcap=>exact⟨none,0,0,rfl,Nat.le_refl _,by simp,fun _=>rfl⟩
 case eK a hcap=>exact⟨some a,0,0,rfl,Nat.le_refl _,fun _ _=>.inr rfl,fun h=>by cases h⟩
 case eE a h=>exact⟨some a,0,0,rfl,Nat.le_refl _,fun _ _=>.inr rfl,fun h=>by cases h⟩
theorem pN {b len':Nat}(hx:V ρ w (.sl b o len esz cap) (.slice a len' capC)):len'=len/\∀n,cap=some n->capC=n:=by
 cases hx with
 | sl hr hl hcap hs=>exact⟨rfl,hcap⟩
 | eC hr=>exact⟨rfl,by simp⟩
 | dO _ _ hr hl hcap=>exact⟨rfl,hcap⟩
 | eA hr=>exact⟨rfl,by simp⟩
 | eE a hr=>exact⟨rfl,fun n hn=>by cases hn;rfl⟩
theorem pO {c:List AV}{len':Nat}(hx:V ρ w (.vs c len cap) (.slice a len' capC)):len'=len/\∀n,cap=some n->capC=n:=by
 cases hx with
 | vs c o g hf hl hcap hc hg=>exact⟨rfl,hcap⟩
 | dz hcap=>exact⟨rfl,fun n hn=>(hcap n hn).symm⟩
 | eK a hcap=>exact⟨rfl,fun n hn=>(hcap n hn).symm⟩
theorem Nj (hl:len<=capC)(hc:∀n,cap=some n->capC=n):cap.getD len<=capC:=by
 cases cap with
 | none=>exact hl
 | some n=>rw[hc n rfl];exact Nat.le_refl _
theorem DZ (hc:∀n,cap=some n->capC=n):∀n,cap.map (· - l)=some n->capC-l=n:=by
 intro n hn;simp only[Option.map_eq_some_iff]at hn;obtain⟨c,hc',rfl⟩:=hn;rw[hc c hc']
theorem Ea (hu:P.underlying t=some (.slice e))(hi:P.info? e=some i){b o len:Nat}{cap:Option Nat}{a:Option Addr}{len' capC:Nat}(hx:V ρ w (.sl b o len i.size cap) (.slice a len' capC))
 {lo hi' mx:Option AV} {lo' hi'' mx':Option Value} (hl:VO ρ w lo lo') (hh:VO ρ w hi' hi'') (hm:VO ρ w mx mx') {h l m:Nat}
 (h1:br mx capC capC=some m) (h2:br hi' len m=some h) (h3:br lo 0 h=some l) (hmh:mx=none\/hi'≠none) (hhm:h<=m) (hmc:m<=capC) (cap':Option Nat) (hc':∀n,cap'=some n->m-l=n) :
 ∃v',(Instr.sliceAt t (.slice a len' capC) lo' hi'' mx').run P w = .ok v' w/\V ρ w (if l<h then .sl b (o+l*i.size) (h-l) i.size cap' else .vs [] 0 cap') v':=by
 obtain⟨_,_,_,he,hlc,hsp,hnil⟩:=jm hx trivial;cases he;obtain⟨rfl,hcap⟩:=pN hx;refine⟨_,xJ (P:=P) hu hi hl hh hm h1 h2 h3 hmh,?_⟩;have hlh:=jM (Nat.zero_le _) h3;split
 . rename_i hlt;exact Nd hx hlt (by omega) m hmc hhm _ hc'
 . rename_i hlt;have e0:h-l=0:=by omega
   rw[e0];refine V.empty (fun e=>?_) (Ni hmc hsp _ _) hc';split at e
   . omega
   . rw[Option.map_eq_none_iff]at e;have:=hnil e;omega
theorem Eb (hu:P.underlying t=some (.slice e))(hi:P.info? e=some i){l0:List AV}{len:Nat}{cap:Option Nat}{a:Option Addr}{len' capC:Nat}(hx:V ρ w (.vs l0 len cap) (.slice a len' capC))
 {lo hi' mx:Option AV} {lo' hi'' mx':Option Value} (hl:VO ρ w lo lo') (hh:VO ρ w hi' hi'') (hm:VO ρ w mx mx') {h l m:Nat}
 (h1:br mx capC capC=some m) (h2:br hi' len m=some h) (h3:br lo 0 h=some l) (hmh:mx=none\/hi'≠none) (hhm:h<=m) (hmc:m<=capC) (cap':Option Nat) (hc':∀n,cap'=some n->m-l=n) :
 ∃v',(Instr.sliceAt t (.slice a len' capC) lo' hi'' mx').run P w = .ok v' w/\V ρ w (.vs ((l0.drop (l*i.size)).take ((h-l)*i.size)) (h-l) cap') v':=by
 obtain⟨_,_,_,he,hlc,hsp,hnil⟩:=jm hx trivial;cases he;obtain⟨rfl,hcap⟩:=pO hx;exact⟨_,xJ (P:=P) hu hi hl hh hm h1 h2 h3 hmh,Nf hx (jM (Nat.zero_le _) h3) m hhm _ hc' hmc⟩
theorem Ec (hu:P.underlying t=some (.slice e))(hi:P.info? e=some i){x':Value}(hx:V ρ w .ae x')
 {lo hi' mx:Option AV} {lo' hi'' mx':Option Value} (hl:VO ρ w lo lo') (hh:VO ρ w hi' hi'') (hm:VO ρ w mx mx') {h l m:Nat}
 (h1:br mx 0 0=some m) (h2:br hi' 0 0=some h) (h3:br lo 0 0=some l) (hmh:mx=none\/hi'≠none) :
 ∃v',(Instr.sliceAt t x' lo' hi'' mx').run P w = .ok v' w/\V ρ w .ae v':=by
 cases hx;have e0:=jM (Nat.le_refl _) h1;obtain rfl:m=0:=by omega
 have e1:=jM (Nat.le_refl _) h2;obtain rfl:h=0:=by omega
 have e2:=jM (Nat.le_refl _) h3;obtain rfl:l=0:=by omega
 exact⟨_,xJ (P:=P) (a:=none) hu hi hl hh hm h1 h2 h3 hmh,by simpa using V.ae⟩
theorem Ed {d d':Nat}(hx:x≠none)(h:br x d most=some r):br x d' most=some r:=by
 cases x with
 | none=>exact absurd rfl hx
 | some a=>cases a <;> exact h
theorem Ee {k:kb} 
 (hk:match k with | .str=>P.underlying t=some .string | .sl=>∃e i,P.underlying t=some (.slice e)/\P.info? e=some i/\i.size=esz | .arr n=>∃e i,P.underlying t=some (.array n e)/\P.info? e=some i/\i.size=esz)
 {x v:AV} {x':Value} (hx:V ρ w x x') {lo hi mx:Option AV} {lo' hi' mx':Option Value} (hl:VO ρ w lo lo') (hh:VO ρ w hi hi') (hm:VO ρ w mx mx') (hmh:mx=none\/hi≠none)
 (h:gP k esz x lo hi mx=some v):∃v',(Instr.sliceAt t x' lo' hi' mx').run P w = .ok v' w/\V ρ w v v':=by
 cases k with
 | str=>
  cases x <;> cases mx <;> simp only[gP,reduceCtorEq]at h;cases mx' with
  | some _=>exact hm.elim
  | none=>
   obtain rfl:=hx.iN;split at h
   . rename_i hb;split at h
     . rename_i lb;cases h;exact⟨_,Ng hk hl hh hb lb,.str _⟩
     . cases h
   . cases h
 | sl=>
  obtain⟨e,i,hu,hinf,rfl⟩:=hk;cases x <;> simp only[gP,reduceCtorEq]at h
  case ae=>
   cases mx with
   | none=>
    simp only at h;split at h
    . rename_i hb lb;cases h;exact Ec hu hinf hx hl hh hm (m:=0) (by simp[br]) hb lb hmh
    . cases h
   | some m0=>
    simp only at h;split at h
    . rename_i mb hb lb;cases h;exact Ec hu hinf hx hl hh hm mb hb lb hmh
    . cases h
  case sl b o len e' cap=>
   obtain⟨a,len',capC,rfl,hlc,hsp,hnil⟩:=jm hx trivial;obtain⟨rfl,hcap⟩:=pN hx;have hcc:=Nj hlc hcap;cases mx with
   | none=>
    simp only at h;split at h
    . rename_i he;subst he;split at h
      . rename_i h' hb;split at h
        . rename_i l' lb;have hhc:h'<=capC:=by
           have h1:=xH hb;have h2:=Nat.max_le.2 ⟨hlc,hcc⟩;omega
          have:=Ea (P:=P) hu hinf hx hl hh hm (m:=capC) (by simp[br]) (sE hcc hb) lb hmh hhc (Nat.le_refl _) (cap.map (· - l')) (DZ hcap);split at h <;> (rename_i hlt;cases h;simpa[hlt] using this)
        . cases h
      . cases h
    . cases h
   | some m0=>
    simp only at h;split at h
    . rename_i he;subst he;split at h
      . rename_i m' mb;split at h
        . rename_i h' hb;split at h
          . rename_i l' lb;have hmc:m'<=capC:=by
             have h1:=xH mb;have h2:=Nat.max_le.2 ⟨hlc,hcc⟩;omega
            have hhi:hi≠none:=by rcases hmh with h|h;cases h;exact h
            have hhm:h'<=m':=by
             cases hi with
             | none=>exact absurd rfl hhi
             | some c=>
              cases hi' with
              | none=>exact hh.elim
              | some d=>exact(ki (P:=P) hh hb).2
            have:=Ea (P:=P) hu hinf hx hl hh hm (Ed (by simp) (sE hcc mb)) hb lb hmh hhm hmc (some (m'-l')) (by intro n hn;cases hn;rfl);split at h <;> (rename_i hlt;cases h;simpa[hlt] using this)
          . cases h
        . cases h
      . cases h
    . cases h
  case vs l0 len cap=>
   obtain⟨a,len',capC,rfl,hlc,hsp,hnil⟩:=jm hx trivial;obtain⟨rfl,hcap⟩:=pO hx;cases mx with
   | none=>
    simp only at h;split at h
    . rename_i h' hb;split at h
      . rename_i l' lb;cases h;have hhc:h'<=len':=jM (Nat.le_refl _) hb;exact Eb (P:=P) hu hinf hx hl hh hm (m:=capC) (by simp[br]) (sE hlc hb) lb hmh (by omega) (Nat.le_refl _) (cap.map (· - l')) (DZ hcap)
      . cases h
    . cases h
   | some m0=>
    simp only at h;split at h
    . rename_i m' mb;split at h
      . rename_i h' hb;split at h
        . rename_i l' lb;cases h;have hmc:m'<=len':=jM (Nat.le_refl _) mb;have hhi:hi≠none:=by rcases hmh with h|h;cases h;exact h
          have hhm:h'<=m':=by
           cases hi with
           | none=>exact absurd rfl hhi
           | some c=>
            cases hi' with
            | none=>exact hh.elim
            | some d=>exact(ki (P:=P) hh hb).2
          exact Eb (P:=P) hu hinf hx hl hh hm (Ed (by simp) (sE hlc mb)) hb lb hmh hhm (by omega) (some (m'-l')) (by intro n hn;cases hn;rfl)
        . cases h
      . cases h
    . cases h
 | arr n=>cases x <;> cases mx <;> simp only[gP,reduceCtorEq]at h
end Go.Ab
namespace Go.Ab
variable {m:List Value} {t ty:TypeId} {op:BinOp} {x y:Operand} {x' y':Value}
variable {P:Program} {gl:Nat->Option AV} {ρ:au} {w:World}
def ow (m:List Value)(off:Nat)(new:List Value):List Value:=m.take off++new++m.drop (off+new.length)
theorem VL.length {l:List AV}(h:VL ρ w l m):l.length=m.length:=h.1
theorem Nk {l new:List AV}{newm:List Value}(h:VL ρ w l m)(h':VL ρ w new newm)(off:Nat):VL ρ w (overwrite l off new) (ow m off newm):=by
 unfold overwrite ow;rw[h'.length];exact((h.take off).append h').append (h.drop _)
theorem Nl {new:List Value}{off:Nat}(h:off+new.length<=m.length):(ow m off new).length=m.length:=by
 simp[ow];omega
theorem Ef {off:Nat}{x:Value}{r:List Value}(h:off+(r.length+1)<=m.length):ow m off (x::r)=ow (m.set off x) (off+1) r:=by
 apply List.ext_getElem?;intro i;unfold ow;simp only[List.getElem?_append,List.length_append,List.length_take,List.length_cons,List.length_set,List.getElem?_take,List.getElem?_drop,List.getElem?_set,List.getElem?_cons];have e1:min off m.length=off:=by omega
 have e2:min (off+1) m.length=off+1:=by omega
 rw[e1,e2];by_cases h1:i<off
 . rw[if_pos (by omega),if_pos (by omega),if_pos (by omega),if_pos (by omega),if_pos (by omega),if_pos (by omega),if_neg (by omega)]
 . by_cases h2:i=off
   . subst h2;rw[if_pos (by omega),if_neg (by omega),if_pos (by omega),if_pos (by omega),if_pos (by omega),if_pos (by omega),if_pos rfl,if_pos (by omega)]
   . by_cases h3:i<off+(r.length+1)
     . rw[if_pos (by omega),if_neg (by omega),if_neg (by omega),if_pos (by omega),if_neg (by omega)];congr 1
     . rw[if_neg (by omega),if_neg (by omega),if_neg (by omega)];congr 1;omega
theorem Eg (off:Nat):∀(r:List Value) (k:Nat) (m:List Value),off+k+r.length<=m.length ->
 ((r.zipIdx k).foldl (fun (cs:Array Value) (p:Value×Nat)=>cs.setIfInBounds (off+p.2) p.1) m.toArray)=(ow m (off+k) r).toArray
 | [],k,m,_=>by simp[ow]
 | x::r,k,m,h=>by
  simp only[List.length_cons]at h;simp only[List.zipIdx_cons,List.foldl_cons];rw[List.setIfInBounds_toArray,Eg off r (k+1) (m.set (off+k) x) (by simp;omega),Ef (by omega)];rfl
theorem V.one {x:AV}{v:Value}(h:V ρ w x v)(h1:x≠.cz)(h2:∀l,x≠.agg l):v.cells = #[v]:=by
 cases h <;> first|rfl|exact absurd rfl h1|exact absurd rfl (h2 _)
theorem nd {x:AV}{v:Value}(h:V ρ w x v){l:List AV}(hl:x.cells=some l):VL ρ w l v.cells.toList:=by
 by_cases h2:∃l0,x = .agg l0
 . obtain⟨l0,rfl⟩:=h2;simp only[AV.cells,Option.some.injEq]at hl;subst hl;obtain⟨m,rfl,hm⟩:=h.gY;simpa[Value.cells] using hm
 . have h1:x≠.cz:=fun e=>by subst e;simp[AV.cells]at hl
   have h2':∀l0,x≠.agg l0:=fun l0 e=>h2 ⟨l0,e⟩
   have hl':l=[x]:=by
    cases x <;> simp only[AV.cells,Option.some.injEq,reduceCtorEq]at hl <;> first|exact hl.symm|exact absurd rfl h1|exact absurd rfl (h2' _)
   rw[hl',h.one h1 h2'];exact VL.cons h VL.nil
theorem sG {place:Nat->Option (Nat×Nat)}:∀(vs:List (Nat×Nat×AV)) (ps:List (Nat×Value)) (l:List AV) (m:List Value) (l':List AV),
 vs.length=ps.length->(∀(i:Nat) o n v p,vs[i]? = some (o,n,v)->ps[i]? = some p->place p.1=some (o,n)/\V ρ w v p.2) ->
 VL ρ w l m->jF l vs=some l'->∃m':List Value,Instr.fill place m.toArray ps=some m'.toArray/\VL ρ w l' m'
 | [],[],l,m,l',_,_,hl,h=>by simp[jF]at h;subst h;exact⟨m,rfl,hl⟩
 | [],_::_,_,_,_,hlen,_,_,_=>by simp at hlen
 | _::_,[],_,_,_,hlen,_,_,_=>by simp at hlen
 | (o,n,v)::vs,(j,y)::ps,l,m,l',hlen,hall,hl,h=>by
  obtain⟨hp,hv⟩:=hall 0 o n v (j,y) rfl rfl;simp only[jF]at h;split at h
  . rename_i c hc;split at h
    . rename_i hb;have hcv:=nd hv hc;have hsz:y.cells.size=n:=by rw[←hb.1,hcv.length];simp
      have hfold:=Eg o y.cells.toList 0 m (by rw[←hcv.length,hb.1,←hl.length];omega);obtain⟨m',h1,h2⟩:=sG vs ps (overwrite l o c) (ow m o y.cells.toList) l' (by simpa using hlen)
        (fun i o' n' v' p' hi hp'=>hall (i+1) o' n' v' p' (by simpa using hi) (by simpa using hp')) (Nk hl hcv o) h
      refine⟨m',?_,h2⟩;have hp':place j=some (o,n):=hp;simp only[Instr.fill,hp'];have hcond:¬((decide (y.cells.size≠n) || decide (o+y.cells.size > m.toArray.size))=true):=by
       have h1:m.toArray.size=m.length:=by simp
       have h2:=hl.length;rw[h1];simp;omega
      rw[if_neg hcond];rw[←Array.foldl_toList,Array.toList_zipIdx];simp only[Nat.add_zero]at hfold;rw[hfold];exact h1
    . cases h
  . cases h
theorem sH {C:Cx}{s:St}{a:Act}(r:Rel C ρ s a w){place:Nat->Option (Nat×Nat)}:∀{ps:List (Nat×Operand)} {cps:List (Nat×Nat×ax)},ji C place ps=some cps ->
 ∀{vs:List (Nat×Nat×AV)},s.parts cps=some vs->vs.length=(ps.map fun p=>(p.1,a.eval p.2)).length /\
  ∀(i:Nat) o n v p,vs[i]? = some (o,n,v)->(ps.map fun p=>(p.1,a.eval p.2))[i]? = some p->place p.1=some (o,n)/\V ρ w v p.2
 | [],cps,hc,vs,hv=>by
  simp[ji]at hc;subst hc;simp[St.parts]at hv;subst hv;simp
 | (j,x)::ps,cps,hc,vs,hv=>by
  simp only[ji]at hc;split at hc
  . rename_i o n y l h1 h2 h3;cases hc;simp only[St.parts]at hv;split at hv
    . rename_i v hv1;split at hv
      . rename_i vs' hv2;cases hv;obtain⟨e1,e2⟩:=sH r h3 hv2;refine⟨by simpa using e1,fun i o' n' v' p' hi hp=>?_⟩;cases i with
        | zero=>simp at hi hp;obtain⟨rfl,rfl,rfl⟩:=hi;subst hp;exact⟨h1,r.aa h2 hv1⟩
        | succ i=>simp at hi;exact e2 i o' n' v' p' hi (by simpa using hp)
      . cases hv
    . cases hv
  . cases hc
theorem sI {z:AV}(h:zeroOf P t=some z):∃v,(zeroValue t).run P w = .ok v w/\V ρ w z v:=by
 unfold zeroOf at h;split at h
 . rename_i i hi;split at h
   . rename_i v hv;exact⟨v,by simp[zeroValue,sD hi,hv],pK 5 v z h⟩
   . cases h
 . cases h
theorem run_places:∀(fs:List Field) (pl:List (Nat×Nat)),mW P fs=some pl ->
 (fs.mapM fun f=>do pure (f.offset,←sizeOf f.type):Sem (List (Nat×Nat))).run P w = .ok pl w
 | [],pl,h=>by simp[mW]at h;subst h;simp
 | f::fs,pl,h=>by
  simp only[mW]at h;split at h
  . rename_i i l h1 h2;cases h;simp only[List.mapM_cons,Sem.run_bind,fV h1,Result.andThen_ok,Sem.run_pure];rw[run_places fs l h2];simp
  . cases h
theorem Nm {C:Cx}{s:St}{a:Act}(r:Rel C ρ s a w){t:TypeId}{z:AV}{zc:List AV}{fs:Array Field}{pl:List (Nat×Nat)}(hz:zeroOf C.P t=some z)(hzc:z.cells=some zc)(hu:C.P.underlying t=some (.struct fs))
 (hpl:mW C.P fs.toList=some pl) {ps:Array (Nat×Operand)} {cps:List (Nat×Nat×ax)} (hc:ji C (pl[·]?) ps.toList=some cps) {vs:List (Nat×Nat×AV)} (hv:s.parts cps=some vs)
 {l:List AV} (hf:jF zc vs=some l):∃v',(Instr.build t (ps.map fun p=>(p.1,a.eval p.2))).run C.P w = .ok v' w/\V ρ w (.agg l) v':=by
 obtain⟨zv,hz1,hz2⟩:=sI (P:=C.P) (ρ:=ρ) (w:=w) hz;have hzl:=nd hz2 hzc;obtain⟨e1,e2⟩:=sH r hc hv;obtain⟨m',h1,h2⟩:=sG vs _ zc _ l e1 e2 hzl hf;refine⟨.agg m'.toArray,?_,V.pJ h2⟩;have hpl':=run_places (w:=w) fs.toList pl hpl;have hm:(fs.mapM fun f=>do pure (f.offset,←sizeOf f.type):Sem (Array (Nat×Nat))).run C.P w = .ok pl.toArray w:=by
  rw[Array.mapM_eq_mapM_toList,Sem.run_map,hpl'];rfl
 simp only[Instr.build,Sem.run_bind,hz1,Result.andThen_ok,bC hu,hm];have hfill:Instr.fill (fun x=>pl.toArray[x]?) zv.cells (ps.map fun p=>(p.1,a.eval p.2)).toList=some m'.toArray:=by
  rw[Array.toList_map];simpa using h1
 rw[hfill];rfl
theorem Nn {C:Cx}{s:St}{a:Act}(r:Rel C ρ s a w){t e:TypeId}{n:Nat}{i:TypeInfo}{z:AV}{zc:List AV}(hz:zeroOf C.P t=some z)(hzc:z.cells=some zc)(hu:C.P.underlying t=some (.array n e))
 (hi:C.P.info? e=some i) {ps:Array (Nat×Operand)} {cps:List (Nat×Nat×ax)} (hc:ji C (fun j=>some (j*i.size,i.size)) ps.toList=some cps) {vs:List (Nat×Nat×AV)} (hv:s.parts cps=some vs)
 {l:List AV} (hf:jF zc vs=some l):∃v',(Instr.build t (ps.map fun p=>(p.1,a.eval p.2))).run C.P w = .ok v' w/\V ρ w (.agg l) v':=by
 obtain⟨zv,hz1,hz2⟩:=sI (P:=C.P) (ρ:=ρ) (w:=w) hz;have hzl:=nd hz2 hzc;obtain⟨e1,e2⟩:=sH r hc hv;obtain⟨m',h1,h2⟩:=sG (place:=fun j=>some (j*i.size,i.size)) vs _ zc _ l e1 e2 hzl hf;refine⟨.agg m'.toArray,?_,V.pJ h2⟩;simp only[Instr.build,Sem.run_bind,hz1,Result.andThen_ok,bC hu,fV hi];have hfill:Instr.fill (fun j=>some (j*i.size,i.size)) zv.cells (ps.map fun p=>(p.1,a.eval p.2)).toList=some m'.toArray:=by
  rw[Array.toList_map];simpa using h1
 rw[hfill];rfl
theorem xK (mx:Bool):∀(l:List AV) (m:List Value) (k:IntKind) (a:Int) (v:AV),VL ρ w l m->kZ mx (.int k a) l=some v ->
 ∃v',(m.foldlM (if mx then Builtin.max2 else Builtin.min2) (.int k a)).run P w = .ok v' w/\V ρ w v v'
 | [],m,k,a,v,hl,h=>by
  rw[hl.iM];simp[kZ]at h;subst h;exact⟨_,rfl,.int _ _⟩
 | x::l,m,k,a,v,hl,h=>by
  obtain⟨y,m',rfl,hy,hl'⟩:=hl.cons_inv;unfold kZ at h;split at h
  . cases ‹_::_=[]›
  . rename_i heq1 heq2;cases heq1;cases heq2;obtain rfl:=hy.fG;split at h
    . rename_i hk;subst hk;obtain⟨v',h1,h2⟩:=xK mx l m' _ _ v hl' h;refine⟨v',?_,h2⟩;cases mx
      . simp only[List.foldlM_cons,Sem.run_bind,Bool.false_eq_true,if_false,Builtin.min2,Sem.run_pure,Result.andThen_ok]at h1 ⊢;exact h1
      . simp only[List.foldlM_cons,Sem.run_bind,if_true,Builtin.max2,Sem.run_pure,Result.andThen_ok]at h1 ⊢;exact h1
    . cases h
  . cases h
variable {C:Cx} {s:St} {a:Act}
theorem lH (r:Rel C ρ s a w){x:Option Operand}{y:Option ax}(hc:ke C x=some y){v:Option AV}(hv:s.cE y=some v):VO ρ w v (x.map a.eval):=by
 cases x with
 | none=>simp[ke]at hc;subst hc;simp[St.cE]at hv;subst hv;trivial
 | some x0=>
  simp only[ke,Option.map_eq_some_iff]at hc;obtain⟨y0,h1,rfl⟩:=hc;simp only[St.cE,Option.map_eq_some_iff]at hv;obtain⟨u,h2,rfl⟩:=hv;exact r.aa h1 h2
theorem pP (h1:¬(x' = .nilIface/\y' = .nilIface))(h2:∀a b,¬(x' = .agg a/\y' = .agg b)):(eqGuard op t x y x' y').run P w = .ok () w:=by
 have key:∀op:BinOp,(op = .eql\/op = .neq)->(eqGuard op t x y x' y').run P w = .ok () w:=by
  intro op hop;unfold eqGuard;rcases hop with rfl|rfl;all_goals
   simp only[Bool.not_true,Bool.false_eq_true,if_false];split
   . exact absurd ⟨rfl,rfl⟩ h1
   . exact absurd ⟨rfl,rfl⟩ (h2 _ _)
   . rfl
 cases op
 case eql=>exact key _ (.inl rfl)
 case neq=>exact key _ (.inr rfl)
 all_goals rfl
theorem No {ms:Array (String×TypeId)}(hu:P.underlying t=some (.interface ms))(hg:((!(jK x || jK y)) && !ms.isEmpty)=false) :
 (eqGuard op t x y .nilIface .nilIface).run P w = .ok () w:=by
 obtain⟨k,hk⟩:∃k,Op.maxDepth=k+1:=⟨9999,rfl⟩;have h3:(Op.eqGuardIn Op.maxDepth t .nilIface .nilIface).run P w = .ok (!ms.isEmpty) w:=by
  rw[hk];simp only[Op.eqGuardIn,Sem.run_bind,bC hu,Result.andThen_ok];rfl
 have key:∀op:BinOp,(op = .eql\/op = .neq)->(eqGuard op t x y .nilIface .nilIface).run P w = .ok () w:=by
  intro op hop;unfold eqGuard;rcases hop with rfl|rfl;all_goals
   simp only[Bool.not_true,Bool.false_eq_true,if_false];cases x <;> cases y <;> simp only[jK,Bool.or_self,Bool.or_true,Bool.or_false,Bool.not_true,Bool.not_false,Bool.true_and,Bool.false_and,if_true,if_false,Bool.false_eq_true]at hg ⊢;all_goals first
    | rfl
    | (simp only[Sem.run_bind,h3,Result.andThen_ok,hg,Bool.false_eq_true,if_false];rfl)
 cases op
 case eql=>exact key _ (.inl rfl)
 case neq=>exact key _ (.inr rfl)
 all_goals rfl
theorem Np {f n:Nat}{e:fS}{xa ya:AV}{r:Bool} 
 (hst:xr P t=false)
 (he:gp P f (!(jK x || jK y)) t=some e) (hx:V ρ w xa x') (hy:V ρ w ya y') (hr:dG (n+1) e xa ya=some r):(eqGuard op t x y x' y').run P w = .ok () w:=by
 cases f with
 | zero=>simp[gp]at he
 | succ f=>
 simp only[gp]at he;cases hu:P.underlying t with
 | none=>simp[hu]at he
 | some u=>
  simp only[xr,hu]at he hst;cases u <;> simp only[Option.some.injEq,reduceCtorEq]at he
  case struct fs=>
   split at he
   . cases he
   . simp only[Option.map_eq_some_iff]at he;obtain⟨l,hl,rfl⟩:=he;cases xa <;> cases ya <;> simp only[dG,reduceCtorEq]at hr;obtain⟨xm,rfl,_⟩:=hx.gY;obtain⟨ym,rfl,_⟩:=hy.gY;exact run_eqGuard_agg w op t x y _ _ hst
  case array m e'=>
   split at he
   . cases he;cases xa <;> cases ya <;> simp only[dG,reduceCtorEq]at hr;obtain⟨xm,rfl,_⟩:=hx.gY;obtain⟨ym,rfl,_⟩:=hy.gY;exact run_eqGuard_agg w op t x y _ _ hst
   . cases he
  case interface ms=>
   subst he;cases xa <;> cases ya <;> simp only[dG,reduceCtorEq]at hr
   . cases hx;cases hy;exact pP (by simp) (by simp)
   . cases hx;cases hy;exact pP (by simp) (by simp)
   . split at hr
     . cases hr
     . rename_i hg;cases hx;cases hy;exact No hu (by simpa using hg)
  all_goals
   subst he;refine pP ?_ ?_
   . rintro⟨rfl,rfl⟩;cases hx <;> cases hy <;> simp[dG,im]at hr
   . rintro a b ⟨rfl,rfl⟩;cases hx <;> cases hy <;> simp[dG,im]at hr
def nf:Value->Bool
 | .int _ _ | .float _ _ | .complex _ _ _ | .string _=>true
 | _=>false
theorem binOp_eql (h:nf x'=false):binOp .eql t x' y'=(do pure (.bool (←Op.equal t x' y'))):=by
 cases x' <;> simp only[nf,reduceCtorEq]at h <;> rfl
theorem binOp_neq (h:nf x'=false):binOp .neq t x' y'=(do pure (.bool (!(←Op.equal t x' y')))):=by
 cases x' <;> simp only[nf,reduceCtorEq]at h <;> rfl
theorem Nq {d n:Nat}{g:Bool}{e:fS}(hs:su P t=false)(he:gp P d g t=some e){xa ya:AV}{x':Value}(hx:V ρ w xa x'){b:Bool}(hb:dG (n+1) e xa ya=some b):nf x'=false:=by
 cases d with
 | zero=>simp[gp]at he
 | succ d=>
 simp only[gp]at he;cases hu:P.underlying t with
 | none=>simp[hu]at he
 | some u=>
  simp only[hu]at he;simp only[su,hu]at hs;cases u <;> simp only[Option.some.injEq,reduceCtorEq]at he hs
  case struct fs=>
   split at he
   . cases he
   . simp only[Option.map_eq_some_iff]at he;obtain⟨l,hl,rfl⟩:=he;cases xa <;> cases ya <;> simp only[dG,reduceCtorEq]at hb;obtain⟨xm,rfl,_⟩:=hx.gY;rfl
  case array m e'=>
   split at he
   . cases he;cases xa <;> cases ya <;> simp only[dG,reduceCtorEq]at hb;obtain⟨xm,rfl,_⟩:=hx.gY;rfl
   . cases he
  all_goals
   subst he;cases hx <;> first|rfl|(cases ya <;> simp[dG,im]at hb)
theorem fX {e:Operand->Value}{dst:Option Tmp}{b:Builtin}{args:Array Operand}{ats:Array TypeId}{pos:String}{af:Array Edge}{gd:Option (Nat×Bool)} :
 (execOp e ⟨dst,.call ⟨.builtin b,args,ats⟩,ty,pos,af,gd⟩).run P w=(builtin b ats ty (args.map fun | .const _=>true|_=>false) (args.map e)).run P w:=by
 simp[execOp,resolve,invoke];rfl
theorem gu {α:Type}{x:Array α}{l:List α}(h:x.toList=l):x=l.toArray:=by
 rw[←h]
theorem nh {x:List Operand}{y:ax}(h:gn C x=some [y]):∃x0,x=[x0]/\fE C x0=some y:=by
 match x,h with
 | [],h=>simp[gn]at h
 | [x0],h=>
  simp only[gn]at h;split at h
  . rename_i a l h1 h2;simp at h2;cases h;exact⟨x0,rfl,h1⟩
  . cases h
 | x0::x1::r,h=>
  simp only[gn]at h;split at h
  . rename_i a l h1 h2;cases h;split at h2
    . cases h2
    . cases h2
  . cases h
theorem xL {x:List Operand}{y z:ax}(h:gn C x=some [y,z]):∃x0 x1,x=[x0,x1]/\fE C x0=some y/\fE C x1=some z:=by
 match x,h with
 | [],h=>simp[gn]at h
 | x0::r,h=>
  simp only[gn]at h;split at h
  . rename_i a l h1 h2;cases h;obtain⟨x1,rfl,h3⟩:=nh h2;exact⟨x0,x1,rfl,h1,h3⟩
  . cases h
def Eh (P:Program)(t:TypeId):kb->Prop
 | .str=>P.underlying t=some .string
 | .sl=>∃e,P.underlying t=some (.slice e)
 | .arr n=>∃e,P.underlying t=some (.array n e)
def pQ:kb->AV->Option AV
 | .arr n,_=>some (.int .i64 n)
 | k,x=>rY k x
theorem Nr {k:kb}(hk:Eh P t k){x v:AV}{x':Value}(hx:V ρ w x x')
 (h:pQ k x=some v):∃v',(Builtin.len_ #[t] ty #[x']).run P w = .ok v' w/\V ρ w v v':=by
 cases k with
 | arr n=>
  obtain⟨e,hu⟩:=hk;simp only[pQ,Option.some.injEq]at h;subst h;refine⟨goInt n,?_,.int _ _⟩;simp[Builtin.len_,bC hu]
 | str=>
  cases x <;> simp only[pQ,rY,reduceCtorEq,Option.some.injEq]at h;subst h;obtain rfl:=hx.iN;refine⟨.int .i64 _,?_,.int _ _⟩;have hk':P.underlying t=some .string:=hk;simp only[Builtin.len_,List.getElem?_toArray,List.getElem?_cons_zero,Sem.run_bind,bC hk',Result.andThen_ok];rfl
 | sl=>
  obtain⟨e,hu⟩:=hk;have hnil:∀l,(x = .ae/\l=0)\/(∃b o es c,x = .sl b o l es c)\/(∃q c,x = .vs q l c)->∃v',(Builtin.len_ #[t] ty #[x']).run P w = .ok v' w/\V ρ w (.int .i64 l) v':=by
   intro l hl;have:∃a c,x' = .slice a l c:=by
    rcases hl with ⟨rfl,rfl⟩|⟨b,o,es,c,rfl⟩|⟨q,c,rfl⟩
    . cases hx;exact⟨_,_,rfl⟩
    . obtain⟨a,l',c',rfl,_⟩:=jm hx trivial;obtain⟨rfl,_⟩:=pN hx;exact⟨_,_,rfl⟩
    . obtain⟨a,l',c',rfl,_⟩:=jm hx trivial;obtain⟨rfl,_⟩:=pO hx;exact⟨_,_,rfl⟩
   obtain⟨a,c,rfl⟩:=this;exact⟨goInt l,by simp[Builtin.len_,bC hu],.int _ _⟩
  cases x <;> simp only[pQ,rY,reduceCtorEq,Option.some.injEq]at h <;> subst h
  . exact hnil 0 (.inl ⟨rfl,rfl⟩)
  . exact hnil _ (.inr (.inl ⟨_,_,_,_,rfl⟩))
  . exact hnil _ (.inr (.inr ⟨_,_,rfl⟩))
theorem Ns {e:TypeId}(hu:P.underlying t=some (.slice e)){x:AV}{x':Value}(hx:V ρ w x x'){n:Nat}(h:x = .ae/\n=0\/(∃b o l es,x = .sl b o l es (some n))\/∃q l,x = .vs q l (some n)) :
 (Builtin.cap_ #[t] ty #[x']).run P w = .ok (.int .i64 n) w:=by
 have:∃a l,x' = .slice a l n:=by
  rcases h with ⟨rfl,rfl⟩|⟨b,o,l,es,rfl⟩|⟨q,l,rfl⟩
  . cases hx;exact⟨_,_,rfl⟩
  . obtain⟨a,l',c',rfl,_⟩:=jm hx trivial;obtain⟨rfl,hc⟩:=pN hx;rw[hc n rfl];exact⟨_,_,rfl⟩
  . obtain⟨a,l',c',rfl,_⟩:=jm hx trivial;obtain⟨rfl,hc⟩:=pO hx;rw[hc n rfl];exact⟨_,_,rfl⟩
 obtain⟨a,l,rfl⟩:=this;simp[Builtin.cap_,bC hu,goInt]
theorem Nt (r:Rel C ρ s a w){o:Oper}{io:aS}(hc:gV C o=some io)(hh:io.bh=false){v:AV}(hv:aP s io=some v) :
 ∃v',(execOp a.eval o).run C.P w = .ok (.value v') w/\V ρ w v v':=by
 obtain⟨dst,op,ty,pos,af,gd⟩:=o;cases op <;> simp only[gV]at hc
 case move x=>
  simp only[Option.map_eq_some_iff]at hc;obtain⟨y,h1,rfl⟩:=hc;exact⟨_,by simp[execOp],r.aa h1 hv⟩
 case assign x=>
  simp only[Option.map_eq_some_iff]at hc;obtain⟨y,h1,rfl⟩:=hc;exact⟨_,by simp[execOp],r.aa h1 hv⟩
 case pick c x y=>
  split at hc
  . rename_i c' x' y' h1 h2 h3;cases hc;simp only[aP]at hv;split at hv
    . rename_i t av bv hc' ha' hb';have e1:=(r.aa h1 hc').kh;cases hv;refine⟨_,by simp[execOp,e1,asBool] <;> rfl,?_⟩;cases t
      . exact r.aa h3 hb'
      . exact r.aa h2 ha'
    . rename_i t av hc' ha' hb';have e1:=(r.aa h1 hc').kh;split at hv
      . rename_i ht;subst ht;cases hv;exact⟨_,by simp[execOp,e1,asBool] <;> rfl,r.aa h2 ha'⟩
      . cases hv
    . rename_i t bv hc' ha' hb';have e1:=(r.aa h1 hc').kh;split at hv
      . cases hv
      . rename_i ht;obtain rfl:t=false:=by simpa using ht
        cases hv;exact⟨_,by simp[execOp,e1,asBool] <;> rfl,r.aa h3 hb'⟩
    . cases hv
  . cases hc
 case build t ps=>
  split at hc
  . rename_i z hz;split at hc
    . rename_i zc fs hzc hu;split at hc
      . rename_i pl hpl;simp only[Option.map_eq_some_iff]at hc;obtain⟨cps,h1,rfl⟩:=hc;simp only[aP]at hv;split at hv
        . rename_i vs hvs;simp only[Option.map_eq_some_iff]at hv;obtain⟨l,hl,rfl⟩:=hv;obtain⟨v',h2,h3⟩:=Nm r hz hzc hu hpl h1 hvs hl;exact⟨v',by simp[execOp,h2],h3⟩
        . cases hv
      . cases hc
    . rename_i zc n e hzc hu;split at hc
      . rename_i i hi;simp only[Option.map_eq_some_iff]at hc;obtain⟨cps,h1,rfl⟩:=hc;simp only[aP]at hv;split at hv
        . rename_i vs hvs;simp only[Option.map_eq_some_iff]at hv;obtain⟨l,hl,rfl⟩:=hv;obtain⟨v',h2,h3⟩:=Nn r hz hzc hu hi h1 hvs hl;exact⟨v',by simp[execOp,h2],h3⟩
        . cases hv
      . cases hc
    . cases hc
  . cases hc
 case nilCheck x=>
  simp only[Option.map_eq_some_iff]at hc;obtain⟨y,h1,rfl⟩:=hc;simp only[aP,Option.bind_eq_some_iff]at hv;obtain⟨u,h2,h3⟩:=hv;exact MW (r.aa h1 h2) h3 _ _ _ _ _ _ _ rfl
 case binOp op t x y u=>
  split at hc
  . rename_i x' y' h1 h2;split at hc
    . rename_i hcmp;split at hc
      . cases hc;simp[aS.bh]at hh
      split at hc
      . cases hc
      . rename_i hst;simp only[Option.map_eq_some_iff]at hc;obtain⟨e,he,rfl⟩:=hc;simp only[aP]at hv;split at hv
        . rename_i xa ya hx hy;split at hv
          . rename_i b hb;cases hv;have gx:=r.aa h1 hx;have gy:=r.aa h2 hy;have hg:=Np (w:=w) (op:=op) (n:=99) (by simpa using hst) he gx gy hb;have hE:=MU 100 20 _ t e he xa ya _ _ b gx gy hb 10000 (by omega);have hE':(Op.equal t (a.eval x) (a.eval y)).run C.P w = .ok b w:=hE;have hns:su C.P t=false:=by
             simp only[Bool.and_eq_true,Bool.not_eq_true']at hcmp;exact hcmp.2
            have hcm:pI op=true:=by
             simp only[Bool.and_eq_true]at hcmp;exact hcmp.1
            have hnum:=Nq hns he gx hb;refine⟨_,?_,.bool _⟩;cases op <;> simp only[pI,Bool.false_eq_true]at hcm
            . simp[execOp,hg,binOp_eql hnum,hE']
            . simp[execOp,hg,binOp_neq hnum,hE']
          . cases hv
        . cases hv
    . rename_i hcmp;cases hc;simp only[aP]at hv;split at hv
      . rename_i xa ya hx hy;have gx:=r.aa h1 hx;have gy:=r.aa h2 hy;obtain⟨v',h3,h4⟩:=MJ (P:=C.P) gx gy hv t;have hg:(eqGuard op t x y (a.eval x) (a.eval y)).run C.P w = .ok () w:=by
         refine pP ?_ ?_
         . rintro⟨e1,e2⟩;rw[e1]at gx;rw[e2]at gy;cases gx <;> cases gy <;> simp[ck]at hv
         . rintro p q ⟨e1,e2⟩;rw[e1]at gx;rw[e2]at gy;cases gx <;> cases gy <;> simp[ck]at hv
        exact⟨v',by simp[execOp,hg,h3],h4⟩
      . cases hv
  . cases hc
 case unOp op t x=>
  simp only[Option.map_eq_some_iff]at hc;obtain⟨y,h1,rfl⟩:=hc;simp only[aP,Option.bind_eq_some_iff]at hv;obtain⟨u,h2,h3⟩:=hv;obtain⟨v',h4,h5⟩:=MK (P:=C.P) (r.aa h1 h2) h3;exact⟨v',by simp[execOp,h4],h5⟩
 case convert src dst x=>
  split at hc <;> try (cases hc;done)
  . rename_i k' k y hs hd h1;cases hc;simp only[aP,Option.bind_eq_some_iff]at hv;obtain⟨u,h2,h3⟩:=hv;obtain⟨v',h4,h5⟩:=MV hs hd (r.aa h1 h2) h3;exact⟨v',by simp[execOp,h4],h5⟩
  . rename_i k y hs hd h1;cases hc;simp only[aP]at hv;split at hv
    . rename_i k0 n h2;cases hv;have e:=(r.aa h1 h2).fG;refine⟨.string (Utf8.encode n),?_,V.DS _⟩;simp[execOp,e,convert,bC hs,bC hd,Conv.intToString]
    . cases hv
  . rename_i y hs hd h1;cases hc;simp only[aP]at hv;split at hv
    . rename_i st h2;cases hv;have e:=(r.aa h1 h2).iN;refine⟨_,?_,V.str _⟩;simp[execOp,e,convert,bC hs,bC hd]
    . cases hv
  . split at hc
    . split at hc
      . cases hc
      . cases hc;simp[aS.bh]at hh
    . cases hc
  . split at hc
    . cases hc;simp[aS.bh]at hh
    . cases hc
  . split at hc
    . split at hc
      . cases hc
      . cases hc;simp[aS.bh]at hh
    . cases hc
  . split at hc
    . split at hc
      . cases hc;simp[aS.bh]at hh
      . cases hc
    . cases hc
 case makeInterface t x=>
  split at hc
  . cases hc
  . rename_i u hni hu;simp only[Option.map_eq_some_iff]at hc;obtain⟨y,h1,rfl⟩:=hc;simp only[aP,Option.map_eq_some_iff]at hv;obtain⟨xa,h2,rfl⟩:=hv;refine⟨_,?_,.iface (r.aa h1 h2)⟩;cases u <;> first|(exact absurd rfl (hni _))|simp[execOp,Instr.makeInterface,bC hu]
  . cases hc
 case typeAssert x xt t ok=>
  split at hc
  . cases hc
  . rename_i u hni hu;split at hc
    . rename_i x' z h1 h2;cases hc;obtain⟨zv,hz1,hz2⟩:=sI (P:=C.P) (w:=w) (ρ:=ρ) h2;simp only[aP]at hv;split at hv
      . rename_i u0 va h3;have e0:=r.aa h1 h3;generalize hxv:a.eval x=xv at e0;cases e0 with
        | @iface _ _ v' hin=>
         split at hv
         . rename_i e;subst e;cases ok
           . cases hv;exact⟨v',by cases u <;> first|(exact absurd rfl (hni _))|simp[execOp,hxv,Instr.typeAssert,bC hu],hin⟩
           . cases hv;exact⟨.tuple #[v',.bool true],by cases u <;> first|(exact absurd rfl (hni _))|simp[execOp,hxv,Instr.typeAssert,bC hu],.gI (.cons hin (.cons (.bool _) .nil))⟩
         . rename_i e;cases ok
           . cases hv
           . cases hv;exact⟨.tuple #[zv,.bool false],by cases u <;> first|(exact absurd rfl (hni _))|simp[execOp,hxv,Instr.typeAssert,bC hu,e,hz1],.gI (.cons hz2 (.cons (.bool _) .nil))⟩
      . rename_i h3;have e0:=r.aa h1 h3;generalize hxv:a.eval x=xv at e0;cases e0 with
        | cZ=>
         cases ok
         . cases hv
         . cases hv;exact⟨.tuple #[zv,.bool false],by cases u <;> first|(exact absurd rfl (hni _))|simp[execOp,hxv,Instr.typeAssert,bC hu,hz1],.gI (.cons hz2 (.cons (.bool _) .nil))⟩
      . cases hv
    . cases hc
  . cases hc
 case makeFunc f fi ca=>
  split at hc
  . cases hc
  . rename_i hy;split at hc
    . rename_i fi' ca' h1 h2;cases hc;simp only[aP]at hv;split at hv
      . rename_i va vb h3 h4;cases hv;have g1:=r.bY h1 h3;have g2:=r.bY h2 h4;refine⟨_,by simp[execOp,Instr.makeFunc] <;> rfl,?_⟩;have e1:fi.map a.eval=(fi.toList.map a.eval).toArray:=by rw[←Array.toList_map,Array.toArray_toList]
        have e2:ca.map a.eval=(ca.toList.map a.eval).toArray:=by rw[←Array.toList_map,Array.toArray_toList]
        rw[e1,e2];refine .fn (fun l e=>hy (by subst e;rfl)) g1.1 g2.1 g1.2 g2.2
      . cases hv
    . cases hc
 case slice t x lo hi mx=>
  split at hc <;> try (cases hc;done)
  . rename_i x' l h hu h1 h2 h3 h4;cases hc;simp only[aP]at hv;split at hv
    . rename_i xa hx;split at hv
      . rename_i la ha ma hl hh' hm;split at hv
        . rename_i hmh;have e4:mx=none:=by cases mx with
            | none=>rfl
            | some m=>simp[ke]at h4
          subst e4;simp only[St.cE,Option.some.injEq]at hm;subst hm;obtain⟨v',h5,h6⟩:=Ee (P:=C.P) (t:=t) (k:=.str) (esz:=1) hu (r.aa h1 hx) (lH r h2 hl) (lH r h3 hh') (mx':=none) (show VO ρ w none none from trivial) (.inl rfl) hv;exact⟨v',by simp[execOp,h5],h6⟩
        . cases hv
      . cases hv
    . cases hv
  . rename_i e x' l h m hu h1 h2 h3 h4;split at hc
    . rename_i i hi';cases hc;simp only[aP]at hv;split at hv
      . rename_i xa hx;split at hv
        . rename_i la ha ma hl hh' hm;split at hv
          . rename_i hmh;obtain⟨v',h5,h6⟩:=Ee (P:=C.P) (t:=t) (k:=.sl) (esz:=i.size) ⟨e,i,hu,hi',rfl⟩ (r.aa h1 hx) (lH r h2 hl) (lH r h3 hh') (lH r h4 hm) (by cases ma <;> cases ha <;> simp at hmh ⊢) hv;exact⟨v',by simp[execOp,h5],h6⟩
          . cases hv
        . cases hv
      . cases hv
    . cases hc
  . split at hc
    . cases hc;simp[aS.bh]at hh
    . cases hc
 case fieldAddr t x f=>
  split at hc <;> try (cases hc;done)
  rename_i fs x' hu h1;split at hc <;> try (cases hc;done)
  rename_i fd hf;split at hc <;> try (cases hc;done)
  rename_i i hi';split at hc
  . cases hc
  . rename_i h0;cases hc;simp only[aP,Option.bind_eq_some_iff]at hv;obtain⟨u,h2,h3⟩:=hv;obtain⟨v',h4,h5⟩:=MY hu hf hi' h0 (r.aa h1 h2) h3;exact⟨v',by simp[execOp,h4],h5⟩
 case field t x f=>
  split at hc <;> try (cases hc;done)
  rename_i fs x' hu h1;split at hc <;> try (cases hc;done)
  rename_i fd hf;split at hc <;> try (cases hc;done)
  rename_i n ag hs;cases hc;simp only[aP]at hv;split at hv
  . rename_i l hx;obtain⟨v',h4,h5⟩:=Nc hu hf hs (r.aa h1 hx) hv;exact⟨v',by simp[execOp,h4],h5⟩
  . cases hv
 case indexAddr t x i=>
  split at hc <;> try (cases hc;done)
  . rename_i n e x' i' hu h1 h2;split at hc <;> try (cases hc;done)
    rename_i inf hinf;cases hc;simp only[aP]at hv;split at hv
    . rename_i xa ia hx hi';obtain⟨v',h4,h5⟩:=DY (P:=C.P) (t:=t) (arr:=some n) hu hinf (r.aa h1 hx) (r.aa h2 hi') hv;exact⟨v',by simp[execOp,h4],h5⟩
    . cases hv
  . rename_i e x' i' hu h1 h2;split at hc <;> try (cases hc;done)
    rename_i inf hinf;cases hc;simp only[aP]at hv;split at hv
    . rename_i xa ia hx hi';obtain⟨v',h4,h5⟩:=DY (P:=C.P) (t:=t) (arr:=none) hu hinf (r.aa h1 hx) (r.aa h2 hi') hv;exact⟨v',by simp[execOp,h4],h5⟩
    . cases hv
 case index t x i=>
  split at hc <;> try (cases hc;done)
  . rename_i x' i' hu h1 h2;cases hc;simp only[aP]at hv;split at hv
    . rename_i xa ia hx hi';obtain⟨v',h4,h5⟩:=Na hu (r.aa h1 hx) (r.aa h2 hi') hv;exact⟨v',by simp[execOp,h4],h5⟩
    . cases hv
  . rename_i n e x' i' hu h1 h2;split at hc <;> try (cases hc;done)
    rename_i sz ag hs;cases hc;simp only[aP]at hv;split at hv
    . rename_i l k m hx hi';split at hv
      . rename_i hb;have ei:=(r.aa h2 hi').fG;obtain⟨v',h4,h5⟩:=Nb hu hs (r.aa h1 hx) (k:=k) hb.1 hb.2 hv;exact⟨v',by simp[execOp,ei,h4],h5⟩
      . cases hv
    . cases hv
 case extract x i=>
  simp only[Option.map_eq_some_iff]at hc;obtain⟨y,h1,rfl⟩:=hc;simp only[aP]at hv;split at hv
  . rename_i l hx;obtain⟨v',h4,h5⟩:=MN (P:=C.P) (r.aa h1 hx) hv;exact⟨v',by simp[execOp,h4],h5⟩
  . cases hv
 case call c=>
  obtain⟨callee,args,ats⟩:=c;cases callee with
  | value f=>
   simp only at hc;split at hc
   . cases hc;simp[aS.bh]at hh
   . cases hc
  | invoke x name=>
   simp only at hc;split at hc
   . cases hc;simp[aS.bh]at hh
   . cases hc
  | builtin b=>
   simp only at hc;split at hc <;> try (cases hc;done)
   . -- len
     rename_i t x h1 h2;obtain rfl:=gu h1;obtain⟨x0,hx0,h3⟩:=nh h2;obtain rfl:=gu hx0;have fin:∀k,Eh C.P t k->io = .len k x ->
      ∃v',(execOp a.eval ⟨dst,.call ⟨.builtin .len,[x0].toArray,[t].toArray⟩,ty,pos,af,gd⟩).run C.P w = .ok (.value v') w/\V ρ w v v':=by
      rintro k hk rfl;simp only[aP]at hv;have:∃xa,V ρ w xa (a.eval x0)/\pQ k xa=some v:=by
       cases k with
       | arr n=>exact⟨.cz,.cz _,hv⟩
       | str=>simp only[Option.bind_eq_some_iff]at hv;obtain⟨u,h4,h5⟩:=hv;exact⟨u,r.aa h3 h4,h5⟩
       | sl=>simp only[Option.bind_eq_some_iff]at hv;obtain⟨u,h4,h5⟩:=hv;exact⟨u,r.aa h3 h4,h5⟩
      obtain⟨xa,h4,h5⟩:=this;obtain⟨v',h6,h7⟩:=Nr (ty:=ty) hk h4 h5;refine⟨v',?_,h7⟩;rw[fX];simp[builtin,h6]
     split at hc
     . rename_i n e hu;cases hc;exact fin (.arr n) ⟨e,hu⟩ rfl
     . cases hc;simp[aS.bh]at hh
     . rename_i hu;cases hc;exact fin .str hu rfl
     . rename_i e hu;cases hc;exact fin .sl ⟨e,hu⟩ rfl
     . cases hc
   . -- cap
     rename_i t x h1 h2;obtain rfl:=gu h1;obtain⟨x0,hx0,h3⟩:=nh h2;obtain rfl:=gu hx0;split at hc <;> try (cases hc;done)
     rename_i e hu;cases hc;have fin:∀n,(∃xa,V ρ w xa (a.eval x0)/\(xa = .ae/\n=0\/(∃b o l es,xa = .sl b o l es (some n))\/∃q l,xa = .vs q l (some n)))->v = .int .i64 n ->
      ∃v',(execOp a.eval ⟨dst,.call ⟨.builtin .cap,[x0].toArray,[t].toArray⟩,ty,pos,af,gd⟩).run C.P w = .ok (.value v') w/\V ρ w v v':=by
      rintro n ⟨xa,h4,h5⟩ rfl;have h6:=Ns (ty:=ty) hu h4 h5;refine⟨_,?_,.int _ _⟩;rw[fX];simp[builtin,h6]
     simp only[aP]at hv;split at hv <;> try (cases hv;done)
     . rename_i h4;cases hv;exact fin 0 ⟨_,r.aa h3 h4,.inl ⟨rfl,rfl⟩⟩ rfl
     . rename_i h4;cases hv;exact fin _ ⟨_,r.aa h3 h4,.inr (.inl ⟨_,_,_,_,rfl⟩)⟩ rfl
     . rename_i h4;cases hv;exact fin _ ⟨_,r.aa h3 h4,.inr (.inr ⟨_,_,rfl⟩)⟩ rfl
   . -- append
     split at hc
     . split at hc
       . cases hc;simp[aS.bh]at hh
       . cases hc
     . split at hc
       . cases hc;simp[aS.bh]at hh
       . cases hc
     . cases hc
   . -- copy
     split at hc
     . split at hc
       . cases hc;simp[aS.bh]at hh
       . cases hc
     . cases hc
   . -- clear
     split at hc
     . split at hc
       . split at hc
         . cases hc;simp[aS.bh]at hh
         . cases hc
       . cases hc
     . cases hc
   . -- unsafe.SliceData
     rename_i t x h1 h2;obtain rfl:=gu h1;obtain⟨x0,hx0,h3⟩:=nh h2;obtain rfl:=gu hx0;split at hc <;> try (cases hc;done)
     rename_i e hu;cases hc;simp only[aP]at hv;split at hv <;> try (cases hv;done)
     . rename_i h4;cases hv;have e0:=r.aa h3 h4;generalize hxv:a.eval x0=xv at e0;cases e0;refine⟨.pointer none,?_,.dE⟩;rw[fX];simp[builtin,hxv,Lib.run_unsafeSliceData_nil]
     . rename_i b o len es cap h4;cases hv;have e0:=r.aa h3 h4;generalize hxv:a.eval x0=xv at e0;cases e0 with
       | @sl _ c d _ _ _ capC _ h hl hcap hb=>
        have hc0:capC≠0:=by omega
        refine⟨_,?_,.ptr o h⟩;rw[fX];simp[builtin,hxv,Lib.run_unsafeSliceData_row (P:=C.P) w _ _ _ _ _ hc0]
       | @dO _ _ _ _ capC _ c o' h hl hcap=>
        have hc0:capC≠0:=by omega
        refine⟨_,?_,.dy o c o' h⟩;rw[fX];simp[builtin,hxv,Lib.run_unsafeSliceData_row (P:=C.P) w _ _ _ _ _ hc0]
   . -- unsafe.String
     split at hc
     . split at hc
       . cases hc;simp[aS.bh]at hh
       . cases hc
     . cases hc
   . -- max
     rename_i xs h2;cases hc;simp only[aP]at hv;split at hv <;> try (cases hv;done)
     rename_i k n rest h4;obtain⟨y,m',he,hy,hl⟩:=(r.bY h2 h4).cons_inv;obtain rfl:=hy.fG;obtain⟨v',h5,h6⟩:=xK (P:=C.P) true rest m' k n v hl hv;refine⟨v',?_,h6⟩;rw[fX];simp only[if_true]at h5;simp[builtin,Builtin.max_,he,h5]
   . rename_i xs h2;cases hc;simp only[aP]at hv;split at hv <;> try (cases hv;done)
     rename_i k n rest h4;obtain⟨y,m',he,hy,hl⟩:=(r.bY h2 h4).cons_inv;obtain rfl:=hy.fG;obtain⟨v',h5,h6⟩:=xK (P:=C.P) false rest m' k n v hl hv;refine⟨v',?_,h6⟩;rw[fX];simp only[Bool.false_eq_true,if_false]at h5;simp[builtin,Builtin.min_,he,h5]
 all_goals exfalso
 case next x b=>cases b <;> simp at hc;obtain⟨_,_,rfl⟩:=hc;simp[aS.bh]at hh
 case makeMap t r=>cases r <;> simp at hc;subst hc;simp[aS.bh]at hh
 all_goals first
  | (cases hc;done)
  | (simp only[Option.map_eq_some_iff]at hc;obtain⟨_,_,rfl⟩:=hc;simp[aS.bh]at hh;done)
  | (cases hc;simp[aS.bh]at hh;done)
  | (
     repeat' (split at hc)
     all_goals first
      | (cases hc;done)
      | (cases hc;simp[aS.bh]at hh;done)
      | (simp only[Option.map_eq_some_iff]at hc;obtain⟨_,_,rfl⟩:=hc;simp[aS.bh]at hh;done))
end Go.Ab
namespace Go.Ab
variable {c:Nat} {cs:Array Value} {e:TypeId} {O:Obj} {fr:Nat×Nat}
variable {P:Program} {gl:Nat->Option AV} {ρ:au} {w:World} {h:ab}
def dP (P:Program)(gl:Nat->Option AV)(ρ:au)(h:ab)(w:World)(r:HR)(v':Value)(w':World):Prop:=
 ∃ρ',V ρ' w' r.v v'/\Mem P gl ρ' r.h w'/\Ext h r.h ρ ρ' w w'
theorem VL.toList {l:List AV}{m:Array Value}(hl:VL ρ w l m.toList):l.length=m.size:=by rw[hl.length];simp
theorem Nu {i:Nat}(h:w.heap[c]? = some (.cells cs e (0,0))):w.frozen? ⟨c,i,none⟩=false:=by
 unfold World.frozen?;rw[h];simp
theorem Ei (m:Mem P gl ρ h w){l:List AV}{cs:Array Value}(e:TypeId)(hl:VL ρ w l (cs.toList.take l.length))(hlen:l.length<=cs.size)(hex:iw P e=true->l.length=cs.size) :
 Mem P gl (ρ.dj h.length (.live w.heap.size 0)) (h++[some (.cells l e)]) { w with heap:=w.heap.push (.cells cs e) } /\
 Ext h (h++[some (.cells l e)]) ρ (ρ.dj h.length (.live w.heap.size 0)) w { w with heap:=w.heap.push (.cells cs e) }:=by
 have x:=Ext.alloc m (some (.cells l e)) (.cells cs e) (.live w.heap.size 0) (.inl ⟨0,rfl⟩);refine⟨Mem.alloc m _ _ _ (.inl ⟨0,rfl⟩) ?_,x⟩;intro o' ho;cases ho;refine .inl ⟨w.heap.size,0,cs,(0,0),au.dm _ _ _,by simp,⟨by omega,fun he=>⟨rfl,hex he⟩⟩,fun i _=>Nu (cs:=cs) (e:=e) (by simp),fun i a y hx hy=>?_⟩;have hi:i<l.length:=(List.getElem?_eq_some_iff.1 hx).1;refine(hl.2 i a y hx ?_).mono x;rw[List.getElem?_take,if_pos hi];simpa using hy
theorem Nv (m:Mem P gl ρ h w){l:List AV}{cs:Array Value}(e:TypeId)(hl:VL ρ w l cs.toList) :
 Mem P gl (ρ.dj h.length (.live w.heap.size 0)) (h++[some (.cells l e)]) { w with heap:=w.heap.push (.cells cs e) } /\
 Ext h (h++[some (.cells l e)]) ρ (ρ.dj h.length (.live w.heap.size 0)) w { w with heap:=w.heap.push (.cells cs e) }:=
 Ei m e (by rw[hl.length,List.take_length];exact hl) (by rw[hl.toList];exact Nat.le_refl _) (fun _=>hl.toList)
theorem xM {len esz capC:Nat}{cap:Option Nat}(hl:len<=capC)(hcap:∀n,cap=some n->capC=n)(hb:capC*esz<=cs.size) :
 V (ρ.dj h.length (.live w.heap.size 0)) { w with heap:=w.heap.push (.cells cs e) } (.sl h.length 0 len esz cap) (.slice (some ⟨w.heap.size,0,none⟩) len capC):=
 V.sl (d:=0) (au.dm _ _ _) hl hcap ⟨cs,e,(0,0),by simp,by omega⟩
theorem xN:V (ρ.dj h.length (.live w.heap.size 0)) { w with heap:=w.heap.push O } (.ptr h.length 0) (.pointer (some ⟨w.heap.size,0,none⟩)):=
 V.ptr (d:=0) 0 (au.dm _ _ _)
theorem readable (m:Mem P gl ρ h w){x:AV}{x':Value}(hx:V ρ w x x'){l:List AV}(hr:ew h x=some l) :
 ∃(c o:Nat) (g:Nat->Value),x' = .pointer (some ⟨c,o,none⟩)/\∀(i:Nat) y,l[i]? = some y->w.cell? ⟨c,o+i,none⟩=some (g i)/\V ρ w y (g i):=by
 cases x <;> simp only[ew,reduceCtorEq]at hr
 case ptr b off=>
  obtain⟨l0,e,hb',rfl⟩:∃l0 e,h[b]? = some (some (.cells l0 e))/\l0.drop off=l:=by
   unfold ab.at at hr;cases hq:h[b]? with
   | none=>simp[hq]at hr
   | some q=>
    cases q with
    | none=>simp[hq]at hr
    | some o=>cases o <;> simp[hq]at hr;exact⟨_,_,rfl,hr⟩
  rcases m.cF b _ hb' with ⟨c,d,cs,fr,h1,h2,h3,h4,h5⟩|⟨h1,h2⟩
  . cases hx with
    | ptr _ hρ=>
     rw[h1]at hρ;cases hρ;refine⟨c,off+d,fun i=>cs.getD (off+d+i) undef,rfl,fun i y hy=>?_⟩;have hy':l0[off+i]? = some y:=by simpa using hy
     have hlt:off+i<l0.length:=(List.getElem?_eq_some_iff.1 hy').1;have hcs:cs[off+i+d]? = some (cs.getD (off+d+i) undef):=by
      have:off+d+i=off+i+d:=by omega
      rw[this];have hlt':off+i+d<cs.size:=by have:=h3.1;omega
      simp[hlt']
     refine⟨?_,h5 (off+i) y _ hy' hcs⟩;unfold World.cell?;simp only[h2];rw[if_neg (by simp),show off+d+i=off+i+d from by omega];rw[show off+d+i=off+i+d from by omega]at hcs;exact hcs
    | dy _ _ _ hρ=>rw[h1]at hρ;cases hρ
  . subst h2;cases hx with
    | ptr _ hρ=>rw[h1]at hρ;cases hρ
    | dy _ _ _ hρ=>rw[h1]at hρ;cases hρ
 case vp l0=>
  cases hr;cases hx with
  | vp c o g hf hc hg=>
   exact⟨c,o,g,rfl,fun i y hy=>⟨hc i (List.getElem?_eq_some_iff.1 hy).1,hg i y hy⟩⟩
theorem run_loadCellsFrom {c o:Nat}{g:Nat->Value}:∀(n i:Nat) (acc:Array Value),(∀j,i<=j->j<i+n->w.cell? ⟨c,o+j,none⟩=some (g j)) ->
 (loadCellsFrom ⟨c,o,none⟩ i n acc).run P w = .ok (acc++((List.range' i n).map g).toArray) w
 | 0,i,acc,_=>by simp[loadCellsFrom]
 | n+1,i,acc,hc=>by
  have h0:=hc i (Nat.le_refl _) (by omega);simp only[loadCellsFrom,Sem.run_bind,Addr.fW,run_load,h0,Result.andThen_ok];rw[run_loadCellsFrom n (i+1) _ (fun j h1 h2=>hc j (by omega) (by omega))];simp[List.range'_succ]
theorem Ej {t:TypeId}{n:Nat}{ag:Bool}(hs:shapeOf P t=some (n,ag)){c o:Nat}{g:Nat->Value}{l:List AV}
 (hr:∀(i:Nat) y,l[i]? = some y->w.cell? ⟨c,o+i,none⟩=some (g i)/\V ρ w y (g i)) {v:AV} (hv:partOf l 0 n ag=some v) :
 ∃v',(loadVar t ⟨c,o,none⟩).run P w = .ok v' w/\V ρ w v v':=by
 obtain⟨i,d,h1,h2,rfl,rfl⟩:=pL hs;unfold partOf at hv;simp only[loadVar,Sem.run_bind,DW h2,Result.andThen_ok];split at hv
 . rename_i hag;simp only[Option.map_eq_some_iff]at hv;obtain⟨r,hr',rfl⟩:=hv;unfold cut at hr';simp only[List.drop_zero]at hr';split at hr'
   . rename_i hl;cases hr';have hl':i.size<=l.length:=by simp at hl;omega
     rw[if_pos hag];have hrun:=run_loadCellsFrom (P:=P) (w:=w) (c:=c) (o:=o) (g:=g) i.size 0 #[] (fun j _ hj=>by
      have hj':j<l.length:=by omega
      exact(hr j l[j] (List.getElem?_eq_getElem hj')).1)
     refine⟨.agg ((List.range' 0 i.size).map g).toArray,?_,V.pJ ⟨by simp;omega,fun j x y hx hy=>?_⟩⟩
     . simp only[Sem.run_bind,fV h1,Result.andThen_ok,loadCells,hrun];simp
     . rw[List.getElem?_take]at hx;split at hx
       . rename_i hj;have:=(hr j x hx).2;rw[List.getElem?_map,List.getElem?_range' hj]at hy;simp at hy;subst hy;exact this
       . cases hx
   . cases hr'
 . rename_i hag;rw[if_neg hag];obtain⟨h3,h4⟩:=hr 0 v hv;refine⟨g 0,?_,h4⟩;simp only[Nat.add_zero]at h3;simp only[run_load,h3]
theorem Nw {x:AV}{v:Value}(hx:V ρ w x v)(h:cw x=true):v.oneCell'=true:=by
 cases hx <;> first|rfl|(simp[cw]at h)
theorem Nx {o:Nat}(h:w.heap[c]? = some (.cells cs e fr)):w.cell? ⟨c,o,none⟩=cs[o]? := by
 unfold World.cell?;simp[h]
theorem Ny {o:Nat}(h:w.heap[c]? = some (.cells cs e fr))(v:Value) :
 w.setCell ⟨c,o,none⟩ v=w.cP c (.cells (cs.setIfInBounds o v) e fr):=by
 have hlt:=(Array.getElem?_eq_some_iff.1 h).1;have hg:=(Array.getElem?_eq_some_iff.1 h).2;unfold World.setCell World.cP;congr 1;apply Array.ext_getElem?;intro i;rw[Array.getElem?_modify,Array.getElem?_setIfInBounds];by_cases hi:c=i
 . subst hi;simp[hlt,hg]
 . rw[if_neg hi,if_neg hi]
theorem Nz {O':Obj}:(w.cP c O).cP c O'=w.cP c O':=by
 unfold World.cP;simp
theorem NA (h:w.heap[c]? = some O):w.cP c O=w:=by
 have hlt:=(Array.getElem?_eq_some_iff.1 h).1;have hg:=(Array.getElem?_eq_some_iff.1 h).2;unfold World.cP;have:w.heap.setIfInBounds c O=w.heap:=by
  apply Array.ext_getElem?;intro i;rw[Array.getElem?_setIfInBounds];by_cases hi:c=i
  . subst hi;simp[hlt,hg]
  . rw[if_neg hi]
 rw[this]
theorem Ek {i:Nat}{cs':Array Value}(h:w.heap[c]? = some (.cells cs e fr)) :
 (w.cP c (.cells cs' e fr)).frozen? ⟨c,i,none⟩=w.frozen? ⟨c,i,none⟩:=by
 unfold World.frozen?;rw[lG (Array.getElem?_eq_some_iff.1 h).1,h]
theorem El {c o:Nat}{e:TypeId}{fr:Nat×Nat}:∀(vs:List Value) (i:Nat) (w:World) (cs:Array Value),w.heap[c]? = some (.cells cs e fr)->o+i+vs.length<=cs.size ->
 (∀j,j<cs.size->w.frozen? ⟨c,j,none⟩=false)->(∀v∈vs,v.oneCell'=true) ->
 (storeCells ⟨c,o,none⟩ vs i).run P w = .ok () (w.cP c (.cells (ow cs.toList (o+i) vs).toArray e fr))
 | [],i,w,cs,h,_,_,_=>by
  simp only[storeCells,Sem.run_pure];have:ow cs.toList (o+i) []=cs.toList:=by simp[ow]
  rw[this,Array.toArray_toList,NA h]
 | v::vs,i,w,cs,h,hl,hf,hv=>by
  simp only[List.length_cons]at hl;simp only[storeCells,Sem.run_bind,Addr.fW];have hlt:o+i<cs.size:=by omega
  rw[run_store P w _ v .plain (hv v (by simp)),Nx h];rw[show cs[o+i]? = some cs[o+i] from by simp[hlt]];simp only[hf _ hlt,Bool.false_eq_true,if_false,Result.andThen_ok];rw[Ny h];have hc:=(Array.getElem?_eq_some_iff.1 h).1;have hf':∀j,j<cs.size->(w.cP c (.cells (cs.setIfInBounds (o+i) v) e fr)).frozen? ⟨c,j,none⟩=false:=fun j hj=>by rw[Ek h];exact hf j hj
  rw[El vs (i+1) _ (cs.setIfInBounds (o+i) v) (lG hc) (by simp;omega) (by simpa using hf') (fun u hu=>hv u (by simp[hu]))];rw[Nz];have e1:(ow (cs.setIfInBounds (o+i) v).toList (o+(i+1)) vs)=ow cs.toList (o+i) (v::vs):=by
   rw[Ef (by simp;omega),Array.toList_setIfInBounds];rfl
  rw[e1]
theorem jN (m:Mem P gl ρ h w){b:Nat}{l:List AV}{e:TypeId}(hb:h.at b=some (.cells l e)) :
 h[b]? = some (some (.cells l e))/\BR P gl ρ w b (.cells l e):=by
 have:h[b]? = some (some (.cells l e)):=by
  unfold ab.at at hb;cases hq:h[b]? with
  | none=>simp[hq]at hb
  | some q=>simp[hq]at hb;rw[hb]
 exact⟨this,m.cF b _ this⟩
theorem nj {b:Nat}{o:bc}(hb:h.at b=some o):h[b]? = some (some o):=by
 unfold ab.at at hb;cases hq:h[b]? with
 | none=>simp[hq]at hb
 | some q=>simp[hq]at hb;rw[hb]
theorem pR (m:Mem P gl ρ h w){b:Nat}{l:List AV}{e:TypeId}(hb:h.at b=some (.cells l e)){c d:Nat}(hρ:ρ b = .live c d){off:Nat}{new:List AV}{nv:List Value}(hn:VL ρ w new nv)
 (hoff:off<=l.length) (hlen:∀cs e' fr,w.heap[c]? = some (.cells cs e' fr)->off+d+new.length<=cs.size) (hone:new.all cw=true) :
 ∃w',(storeCells ⟨c,off+d,none⟩ nv).run P w = .ok () w'/\Mem P gl ρ (h.put b (some (.cells (overwrite l off new) e))) w'/\Ext h (h.put b (some (.cells (overwrite l off new) e))) ρ ρ w w':=by
 obtain⟨h0,hbr⟩:=jN m hb;rcases hbr with ⟨c',d',cs,fr,h1,h2,h3,h4,h5⟩|⟨h1,_⟩
 . rw[hρ]at h1;cases h1;have hone':∀v∈nv,v.oneCell'=true:=by
    intro v hv;obtain⟨i,hi,rfl⟩:=List.mem_iff_getElem.1 hv;have hi':i<new.length:=by rw[hn.length];exact hi
    have ho:cw new[i]=true:=List.all_eq_true.1 hone _ (List.getElem_mem hi');exact Nw (hn.2 i new[i] nv[i] (List.getElem?_eq_getElem hi') (List.getElem?_eq_getElem hi)) ho
   have hlen':off+d+nv.length<=cs.size:=by rw[←hn.length];exact hlen cs e fr h2
   have hrun:=El (P:=P) (c:=c) (o:=off+d) (e:=e) (fr:=fr) nv 0 w cs h2 (by omega) h4 hone';simp only[Nat.add_zero]at hrun;have hsz:(ow cs.toList (off+d) nv).toArray.size=cs.size:=by
    have:=Nl (m:=cs.toList) (new:=nv) (off:=off+d) (by simpa using hlen');simpa using this
   have hO:∀cs0 e0 fr0,w.heap[c]? = some (.cells cs0 e0 fr0)->∃cs' fr',Obj.cells (ow cs.toList (off+d) nv).toArray e fr = .cells cs' e0 fr'/\cs'.size=cs0.size:=by
    intro cs0 e0 fr0 hq;rw[h2]at hq;cases hq;exact⟨_,_,rfl,hsz⟩
   have x:=Ext.write m h0 hρ (some (.cells (overwrite l off new) e)) (.cells (ow cs.toList (off+d) nv).toArray e fr) hO;refine⟨_,hrun,?_,x⟩;refine Mem.write m h0 hρ _ _ hO ?_;intro o' ho;cases ho;have hc:=m.bound _ _ _ hρ;have hle:Fits P e d (overwrite l off new).length cs.size:=by
    have h9:=hn.length;have xO:=h3.1;refine⟨by simp[overwrite];omega,fun he=>?_⟩;have xP:=h3.2 he;refine⟨xP.1,?_⟩;simp[overwrite];omega
   refine .inl ⟨c,d,_,fr,hρ,lG hc,by rw[hsz];exact hle,fun i hi=>by rw[Ek h2];exact h4 i (by rw[hsz]at hi;exact hi),fun i x' y hx hy=>?_⟩;refine V.mono x ?_;have hy':(ow cs.toList (off+d) nv)[i+d]? = some y:=by simpa using hy
   unfold overwrite at hx;unfold ow at hy';have hnl:=hn.length;simp only[List.getElem?_append,List.length_append,List.length_take,List.getElem?_take,List.getElem?_drop]at hx hy';have t1:min off l.length=off:=by omega
   have t2:min (off+d) cs.toList.length=off+d:=by simp;omega
   rw[t1]at hx;rw[t2]at hy';by_cases k1:i<off
   . rw[if_pos (by omega),if_pos k1,if_pos k1]at hx;rw[if_pos (by omega),if_pos (by omega),if_pos (by omega)]at hy';exact h5 i x' y hx (by simpa using hy')
   . by_cases k2:i<off+new.length
     . rw[if_pos (by omega),if_neg k1]at hx;rw[if_pos (by omega),if_neg (by omega)]at hy';rw[show i+d-(off+d)=i-off from by omega]at hy';exact hn.2 _ x' y hx hy'
     . rw[if_neg (by omega)]at hx;rw[if_neg (by omega)]at hy';rw[show off+new.length+(i-(off+new.length))=i from by omega]at hx;rw[show off+d+nv.length+(i+d-(off+d+nv.length))=i+d from by omega]at hy';exact h5 i x' y hx (by simpa using hy')
 . rw[hρ]at h1;cases h1
end Go.Ab
namespace Go.Ab
variable {P:Program} {gl:Nat->Option AV} {ρ:au} {w:World} {h:ab}
theorem run_loadCells {c o:Nat}{g:Nat->Value}{l:List AV}(hr:∀(i:Nat) y,l[i]? = some y->w.cell? ⟨c,o+i,none⟩=some (g i)/\V ρ w y (g i)){k:Nat}(hk:k<=l.length) :
 ∃cs:List Value,(loadCells ⟨c,o,none⟩ k).run P w = .ok cs.toArray w/\VL ρ w (l.take k) cs:=by
 have hrun:=run_loadCellsFrom (P:=P) (w:=w) (c:=c) (o:=o) (g:=g) k 0 #[] (fun j _ hj=>by
  have hj':j<l.length:=by omega
  exact(hr j l[j] (List.getElem?_eq_getElem hj')).1)
 refine⟨(List.range' 0 k).map g,by simpa[loadCells] using hrun,by simp;omega,fun j x y hx hy=>?_⟩;rw[List.getElem?_take]at hx;split at hx
 . rename_i hj;have:=(hr j x hx).2;rw[List.getElem?_map,List.getElem?_range' hj]at hy;simp at hy;subst hy;exact this
 . cases hx
theorem NB (m:Mem P gl ρ h w){b:Nat}{l:List AV}{e:TypeId}(hb:h.at b=some (.cells l e)){c d:Nat}(hρ:ρ b = .live c d)(off:Nat) :
 ∃g:Nat->Value,∀(i:Nat) y,(l.drop off)[i]? = some y->w.cell? ⟨c,off+d+i,none⟩=some (g i)/\V ρ w y (g i):=by
 have hx:V ρ w (.ptr b off) (.pointer (some ⟨c,off+d,none⟩)):=.ptr off hρ;have hr:ew h (.ptr b off)=some (l.drop off):=by simp[ew,hb]
 obtain⟨c',o',g,he,hg⟩:=readable m hx hr;cases he;exact⟨g,hg⟩
theorem Em:∀(s:List UInt8),VL ρ w (s.map fun c=>AV.int .u8 c.toNat) (s.map fun c=>Value.int .u8 c.toNat)
 | []=>.nil
 | _::s=>.cons (.int _ _) (Em s)
theorem kj (m:Mem P gl ρ h w){x:AV}{x':Value}(hx:V ρ w x x'){l:List AV}{n:Nat}(hs:dF h x=some (l,n)){size:Nat}(hl:l.length=n*size) :
 (Builtin.lenOf x').run P w = .ok n w/\∀k,k<=n->∃cs:List Value,(Builtin.firstCells size k x').run P w = .ok cs.toArray w/\VL ρ w (l.take (k*size)) cs:=by
 cases x <;> simp only[dF,reduceCtorEq,Option.some.injEq,Prod.mk.injEq]at hs
 case str s=>
  obtain⟨rfl,rfl⟩:=hs;obtain rfl:=hx.iN;by_cases hs0:s=[]
  . subst hs0;exact⟨rfl,fun k hk=>⟨[],by simp only[Builtin.firstCells,Sem.run_pure];rw[xI];simp,by simpa using VL.nil⟩⟩
  obtain rfl:size=1:=by
   have h1:0<s.length:=List.length_pos_iff.2 hs0;have h2:s.length*1=s.length*size:=by simpa using hl
   exact(Nat.eq_of_mul_eq_mul_left h1 h2).symm
  refine⟨by simp[Builtin.lenOf,ByteArray.size],fun k hk=>⟨(s.take k).map fun c=>Value.int .u8 c.toNat,?_,?_⟩⟩
  . simp only[Builtin.firstCells,Sem.run_pure];congr 1;rw[xI];simp
  . rw[Nat.mul_one,←List.map_take];exact Em _
 case ae=>
  obtain⟨rfl,rfl⟩:=hs;cases hx;exact⟨rfl,fun k _=>⟨[],rfl,by simpa using VL.nil⟩⟩
 case vs l0 len cap=>
  obtain⟨rfl,rfl⟩:=hs;cases hx with
  | vs c o g hf hlc hcap hc hg=>
   refine⟨rfl,fun k hk=>?_⟩;have hk':k*size<=l0.length:=by rw[hl];exact Nat.mul_le_mul_right _ hk
   exact run_loadCells (P:=P) (fun i y hy=>⟨hc i (List.getElem?_eq_some_iff.1 hy).1,hg i y hy⟩) hk'
  | dz hcap=>exact⟨rfl,fun k _=>⟨[],rfl,by simpa using VL.nil⟩⟩
  | eK a hcap=>exact⟨rfl,fun k hk=>⟨[],by rw[Nat.le_zero.1 hk];(simp only[Builtin.firstCells,loadCells,Nat.zero_mul];rfl),by simpa using VL.nil⟩⟩
 case sl b off len esz cap=>
  split at hs
  . rename_i l0 e hb;simp only[Option.map_eq_some_iff,Prod.mk.injEq]at hs;obtain⟨r,hcut,rfl,rfl⟩:=hs;unfold cut at hcut;simp only at hcut;split at hcut
    . rename_i hlen;cases hcut;obtain⟨h0,hbr⟩:=jN m hb;have hln:len*esz=len*size:=by rw[←hlen,hl]
      cases hx with
      | @sl _ c d _ _ _ capC _ hρ hlc hcap hs=>
       refine⟨rfl,fun k hk=>?_⟩;obtain⟨g,hg⟩:=NB m hb hρ off;have hk':k*size<=(l0.drop off).length:=by
        have:(List.take (len*esz) (List.drop off l0)).length<=(l0.drop off).length:=by rw[List.length_take];omega
        have h3:k*size<=len*size:=Nat.mul_le_mul_right _ hk;omega
       obtain⟨cs,h1,h2⟩:=run_loadCells (P:=P) hg hk';refine⟨cs,h1,?_⟩;rw[List.take_take,Nat.min_eq_left (by rw[hln];exact Nat.mul_le_mul_right _ hk)];exact h2
      | eC hρ=>exact⟨rfl,fun k _=>⟨[],rfl,by simp at hlen ⊢;exact VL.nil⟩⟩
      | dO _ _ hρ _ _=>rcases hbr.live with ⟨c,d,hl'⟩|hl'|hl' <;> (rw[hρ]at hl';cases hl')
      | eA hρ=>rcases hbr.live with ⟨c,d,hl'⟩|hl'|hl' <;> (rw[hρ]at hl';cases hl')
      | eE a hρ=>rcases hbr.live with ⟨c,d,hl'⟩|hl'|hl' <;> (rw[hρ]at hl';cases hl')
    . cases hcut
  . split at hs
    . rename_i hn;subst hn;cases hs;cases hx with
      | sl hρ hlc hcap hs=>exact⟨rfl,fun k hk=>run_loadCells (P:=P) (g:=fun _=>.bool false) (l:=[]) (fun i y hy=>by simp at hy) (by rw[Nat.le_zero.1 hk];simp)⟩
      | eC hρ=>exact⟨rfl,fun k _=>⟨[],rfl,by simpa using VL.nil⟩⟩
      | dO _ _ hρ _ _=>exact⟨rfl,fun k hk=>run_loadCells (P:=P) (g:=fun _=>.bool false) (l:=[]) (fun i y hy=>by simp at hy) (by rw[Nat.le_zero.1 hk];simp)⟩
      | eA hρ=>exact⟨rfl,fun k _=>⟨[],rfl,by simpa using VL.nil⟩⟩
      | eE a hρ=>exact⟨rfl,fun k hk=>⟨[],by rw[Nat.le_zero.1 hk];(simp only[Builtin.firstCells,loadCells,Nat.zero_mul];rfl),by simpa using VL.nil⟩⟩
    . cases hs
theorem En (n:Nat):∀(k c:Nat),256<=c->c<=2*n->Builtin.growBy n k c<=2*n
 | 0,c,_,h=>h
 | k+1,c,h0,h=>by
  simp only[Builtin.growBy];split
  . exact h
  . exact En n k _ (by omega) (by omega)
theorem NC {n c:Nat}(h:c<n):Builtin.nextslicecap n c<=2*n:=by
 unfold Builtin.nextslicecap;split
 . omega
 . split
   . omega
   . exact En n 4 c (by omega) (by omega)
theorem ND (z:Array Value)(n:Nat):(Builtin.zeroCells z n).size=n*z.size:=by simp[Builtin.zeroCells]
structure xQ (P:Program)(t u elem:TypeId)(i:TypeInfo)(z:Value):Prop where
 ht:P.underlying t=some (.slice elem)
 hu:(∃e,P.underlying u=some (.slice e))\/P.underlying u=some .string
 hi:P.info? elem=some i
 hz:i.zero=some z
 hs:z.cells.size=i.size
theorem xR {t u ty elem:TypeId}{i:TypeInfo}{z:Value}(ht:xQ P t u elem i z){base:Option Addr}{len capC n:Nat}{y':Value}{new:Array Value}{w':World}
 (hn:(Builtin.lenOf y').run P w = .ok n w) (hf:(Builtin.firstCells i.size n y').run P w = .ok new w) (hle:len+n<=capC)
 (hs:(match base with|some a=>storeCells (a.add (len*i.size)) new.toList|none=>pure ():Sem Unit).run P w = .ok () w') :
 (Builtin.append_ #[t,u] ty #[.slice base len capC,y']).run P w = .ok (.slice base (len+n) capC) w':=by
 obtain⟨h1,h2,h3,h4,h5⟩:=ht;rcases h2 with ⟨e,h2⟩|h2;all_goals
  cases base with
  | none=>
   simp only[Sem.run_pure,Result.ok.injEq,true_and]at hs;subst hs;simp[Builtin.append_,bC h1,bC h2,sizeOf,typeInfo,h3,hn,hf,hle]
  | some a=>
   simp only at hs;simp[Builtin.append_,bC h1,bC h2,sizeOf,typeInfo,h3,hn,hf,hle,hs]
theorem NF {t u ty elem:TypeId}{i:TypeInfo}{z:Value}(ht:xQ P t u elem i z){base:Option Addr}{len capC n:Nat}{y':Value}{bB new:Array Value}
 (hn:(Builtin.lenOf y').run P w = .ok n w) (hlt:capC<len+n) (hb:0<i.bytes) (hr:(len+n)*i.bytes<=dh)
 (ho:(Builtin.firstCells i.size len (.slice base len capC)).run P { w with drawn:=w.drawn+1 } = .ok bB { w with drawn:=w.drawn+1 })
 (hf:(Builtin.firstCells i.size n y').run P { w with drawn:=w.drawn+1 } = .ok new { w with drawn:=w.drawn+1 }) :
 ∃cap,len+n<=cap/\(Builtin.append_ #[t,u] ty #[.slice base len capC,y']).run P w =
  .ok (.slice (some ⟨w.heap.size,0,none⟩) (len+n) cap) { w with drawn:=w.drawn+1,heap:=w.heap.push (.cells (bB++new++Builtin.zeroCells z.cells (cap-(len+n))) elem) }:=by
 obtain⟨h1,h2,h3,h4,h5⟩:=ht;have hle:¬(len+n<=capC):=by omega
 have hroom:dh=70368744177664:=by decide
 have hN:len+n<=dh:=Nat.le_trans (Nat.le_mul_of_pos_right _ hb) hr;have h48:¬(281474976710656<Builtin.nextslicecap (len+n) capC*i.bytes):=by
  have:=Nat.mul_le_mul_right i.bytes (NC hlt);rw[Nat.mul_assoc]at this;omega
 have hb':i.bytes≠0:=by omega
 refine⟨(Question.appendCap (len+n) capC elem).cut (w.tape w.drawn (.appendCap (len+n) capC elem)),by simp[Question.cut],?_⟩;have ho':(Builtin.firstCells i.size len (.slice base len capC)).run P w.drew = .ok bB w.drew:=ho;have hf':(Builtin.firstCells i.size n y').run P w.drew = .ok new w.drew:=hf;rcases h2 with ⟨e,h2⟩|h2;all_goals
  simp[Builtin.append_,bC h1,bC h2,sizeOf,typeInfo,zeroValue,h3,h4,hn,hle,h48,hb',Question.forced,newRow,ho',hf'];rfl
theorem VL.NG {l:List AV}{m m':List Value}(h:VL ρ w l (m.take l.length)):VL ρ w l ((m++m').take l.length):=by
 rw[List.take_append_of_le_length]
 . exact h
 . have:=h.length;simp at this;omega
theorem NH {h0:List (Option bc)}{n:Nat}(hn:h0.length=n)(x y:Option bc):ab.put (h0++[x]) n y=h0++[y]:=by
 subst hn;unfold ab.put;rw[List.set_append_right _ _ (Nat.le_refl _)];simp
theorem NI (m:Mem P gl ρ h w){t u ty elem:TypeId}{i:TypeInfo}{z:Value}(ht:xQ P t u elem i z){x y:AV}{x' y':Value}(hx:V ρ w x x')(hy:V ρ w y y')
 (hne:iw P elem=false) {r:HR} (ha:fM elem i.size i.bytes h x y=some r) :
 ∃v' w',(Builtin.append_ #[t,u] ty #[x',y']).run P w = .ok v' w'/\dP P gl ρ h w r v' w':=by
 unfold fM at ha;split at ha
 . cases ha
 . rename_i new n hsc;split at ha
   . rename_i hcond;obtain⟨hnl,hb,hone⟩:=hcond;obtain⟨hlen,hfirst⟩:=kj m hy hsc hnl;obtain⟨hlen',hfirst'⟩:=kj (m.drew (w.drawn+1)) (hy.mono (Ext.drew h ρ w _)) hsc hnl;obtain⟨nv,hf,jf⟩:=hfirst n (Nat.le_refl _);obtain⟨nv',hf',hnv'⟩:=hfirst' n (Nat.le_refl _);rw[←hnl,List.take_length]at jf hnv';have none_case:n=0->(∃base len capC,x' = .slice base len capC/\len<=capC)->r=⟨x,h,[]⟩->∃v' w',(Builtin.append_ #[t,u] ty #[x',y']).run P w = .ok v' w'/\dP P gl ρ h w r v' w':=by
      rintro rfl ⟨base,len,capC,rfl,hlc⟩ rfl;have hnv0:nv=[]:=by
       have:=jf.length;rw[hnl,Nat.zero_mul]at this;exact List.length_eq_zero_iff.1 this.symm
      subst hnv0;refine⟨_,w,xR ht hlen hf (by omega) ?_,ρ,by simpa using hx,m,Ext.refl _ _ _⟩;cases base <;> simp[storeCells]
     have new_case:∀(base:Option Addr) (len capC:Nat) (oldl:List AV) (bB:List Value) (h0:ab) (ρ0:au),x' = .slice base len capC->capC<len+n->(len+n)*i.bytes<=dh->oldl.length=len*i.size ->
      (Builtin.firstCells i.size len x').run P { w with drawn:=w.drawn+1 } = .ok bB.toArray { w with drawn:=w.drawn+1 } ->
      Mem P gl ρ0 h0 { w with drawn:=w.drawn+1 }->Ext h h0 ρ ρ0 w { w with drawn:=w.drawn+1 }->VL ρ0 { w with drawn:=w.drawn+1 } oldl bB->VL ρ0 { w with drawn:=w.drawn+1 } new nv'->h0.length=h.length ->
      ∀wr,r=⟨.sl h.length 0 (len+n) i.size none,h0++[some (.cells (oldl++new) elem)],wr⟩ ->
      ∃v' w',(Builtin.append_ #[t,u] ty #[x',y']).run P w = .ok v' w'/\dP P gl ρ h w r v' w':=by
      rintro base len capC oldl bB h0 ρ0 rfl hlt hroom hol hfo m0 x0 ho hn0 hl0 wr rfl;obtain⟨cap,hcap,hrun⟩:=NF (ty:=ty) ht hlen hlt hb hroom hfo hf';refine⟨_,_,hrun,?_⟩;have e1:=ho.length;have e2:=hn0.length;have hcs:(bB.toArray++nv'.toArray++Builtin.zeroCells z.cells (cap-(len+n))).size=(oldl++new).length+(cap-(len+n))*i.size:=by
       rw[Array.size_append,ND,ht.hs];simp;omega
      have hvl:VL ρ0 { w with drawn:=w.drawn+1 } (oldl++new) ((bB.toArray++nv'.toArray++Builtin.zeroCells z.cells (cap-(len+n))).toList.take (oldl++new).length):=by
       have h9:=ho.append hn0;have e9:=h9.length;rw[show (bB.toArray++nv'.toArray++Builtin.zeroCells z.cells (cap-(len+n))).toList=(bB++nv')++(Builtin.zeroCells z.cells (cap-(len+n))).toList from by simp];refine VL.NG ?_;rw[e9,List.take_length];exact h9
      obtain⟨m1,x1⟩:=Ei m0 (l:=oldl++new) (cs:=bB.toArray++nv'.toArray++Builtin.zeroCells z.cells (cap-(len+n))) elem hvl (by rw[hcs];omega) (fun he=>by rw[hne]at he;cases he);rw[←hl0];refine⟨_,xM hcap (by simp) ?_,m1,x0.trans x1⟩;rw[hcs,List.length_append,hol,hnl,←Nat.add_mul,←Nat.add_mul];have:len+n+(cap-(len+n))=cap:=by omega
      rw[this];exact Nat.le_refl _
     have md:=m.drew (w.drawn+1);have xd:=Ext.drew h ρ w (w.drawn+1);split at ha
     . -- nil
       cases hx;split at ha
       . rename_i h0;cases ha;exact none_case h0 ⟨_,_,_,rfl,Nat.le_refl _⟩ rfl
       . rename_i h0;split at ha
         . rename_i hroom;cases ha;exact new_case none 0 0 [] [] h ρ rfl (by omega) (by simpa using hroom) (by simp) rfl md xd VL.nil hnv' rfl [] (by simp)
         . cases ha
     . -- by its content
       rename_i l len cap;obtain⟨base,len',capC,rfl,hlc,hsp,hnil⟩:=jm hx trivial;obtain⟨rfl,hcap⟩:=pO hx;split at ha
       . rename_i h0;cases ha;exact none_case h0 ⟨_,_,_,rfl,hlc⟩ rfl
       . rename_i h0;split at ha
         . rename_i c;split at ha
           . rename_i hc;cases ha;obtain⟨h1,hroom,hll⟩:=hc;have hcc:=hcap c rfl;obtain⟨_,ho⟩:=kj md (hx.mono xd) (l:=l) (n:=len') (by simp[dF]) hll;obtain⟨bB,ho1,ho2⟩:=ho len' (Nat.le_refl _);rw[←hll,List.take_length]at ho2;exact new_case base len' capC l bB h ρ rfl (by omega) hroom hll ho1 md xd ho2 hnv' rfl [] rfl
           . cases ha
         . cases ha
     . -- into a block of the call's own
       rename_i b off len e cap;obtain⟨base,len',capC,rfl,hlc,hsp,hnil⟩:=jm hx trivial;obtain⟨rfl,hcap⟩:=pN hx;split at ha
       . rename_i h0;cases ha;exact none_case h0 ⟨_,_,_,rfl,hlc⟩ rfl
       . rename_i h0;split at ha <;> try (cases ha;done)
         rename_i hc;obtain⟨he,hroom⟩:=hc;subst he;split at ha <;> try (cases ha;done)
         rename_i l el hat;obtain⟨hb0,hbr⟩:=jN m hat;have hρl:ρ b≠.dead:=fun hd=>by rcases hbr.live with ⟨_,_,hl'⟩|hl'|hl' <;> (rw[hd]at hl';cases hl')
         split at ha
         . -- the capacity is known
           rename_i c;have hcc:=hcap c rfl;split at ha
           . rename_i hle;split at ha
             . rename_i hin;cases ha;cases hx with
               | @sl _ cb d _ _ _ _ _ hρ _ _ hs=>
                obtain⟨cs,e',fr,h5,h6⟩:=hs;have hoff:off+len'*i.size<=l.length:=by
                 have:len'*i.size<=(len'+n)*i.size:=Nat.mul_le_mul_right _ (by omega);omega
                obtain⟨w',hst,m1,x1⟩:=pR (off:=off+len'*i.size) m hat hρ jf hoff (fun cs0 e0 fr0 hq=>by
                 rw[h5]at hq;cases hq;rw[hnl];have:(len'+n)*i.size<=capC*i.size:=Nat.mul_le_mul_right _ (by omega);rw[Nat.add_mul]at this;omega) hone
                refine⟨_,w',xR ht hlen hf (by omega) (by
                 show Sem.run P (storeCells ((⟨cb,off+d,none⟩:Addr).add (len'*i.size)) nv) w=_;rw[Addr.fW,show off+d+len'*i.size=off+len'*i.size+d from by omega];exact hst),ρ,?_,m1,x1⟩
                obtain⟨cs',fr',h7,h8⟩:=x1.shape _ _ _ _ h5;exact .sl hρ (by omega) hcap ⟨cs',e',fr',h7,by omega⟩
               | dO _ _ hρ _ _=>exact absurd hρ hρl
               | eE a hρ=>exact absurd hρ hρl
             . cases ha
           . rename_i hgt;split at ha
             . rename_i old' hcut;cases ha;have hcut':=hcut;unfold cut at hcut';simp only at hcut';split at hcut'
               . rename_i hcl;cases hcut';obtain⟨_,ho⟩:=kj md (hx.mono xd) (l:=List.take (len'*i.size) (List.drop off l)) (n:=len') (by simp[dF,hat,hcut]) hcl;obtain⟨bB,ho1,ho2⟩:=ho len' (Nat.le_refl _);rw[List.take_take,Nat.min_self]at ho2;exact new_case base len' capC _ bB h ρ rfl (by omega) hroom hcl ho1 md xd ho2 hnv' rfl [] rfl
               . cases hcut'
             . cases ha
         . -- the capacity is not known
           split at ha
           . rename_i hend;cases ha;obtain⟨hend,rfl⟩:=hend;have hcl:(List.take (len'*i.size) (List.drop off l)).length=len'*i.size:=by simp;omega
             have hdrop:List.take (len'*i.size) (List.drop off l)=List.drop off l:=List.take_of_length_le (by simp;omega);by_cases hfit:len'+n<=capC
             . -- there is room
               cases hx with
               | @sl _ cb d _ _ _ _ _ hρ _ _ hs=>
                obtain⟨cs,e',fr,h5,h6⟩:=hs;have hroomc:off+d+(len'+n)*i.size<=cs.size:=by
                 have:(len'+n)*i.size<=capC*i.size:=Nat.mul_le_mul_right _ hfit;omega
                have hbr':BR P gl ((ρ.dj b .dead).dj h.length (.live cb (off+d))) w h.length (.cells (l.drop off) el):=by
                 rcases hbr with ⟨c',d',cs',fr',g1,g2,g3,g4,g5⟩|⟨g1,g2⟩
                 . rw[hρ]at g1;cases g1;rw[h5]at g2;cases g2;refine .inl ⟨cb,off+d,cs,fr,au.dm _ _ _,h5,⟨by have:=g3.1;simp;omega,fun he=>by rw[hne]at he;cases he⟩,g4,fun j a v' ha hv=>?_⟩;refine(g5 (off+j) a v' (by simpa using ha) (by rw[show off+j+d=j+(off+d) from by omega];exact hv)).mono (Ext.move m hb0 hρ (some (.cells (l.drop off) el)) (off+d))
                 . rw[hρ]at g1;cases g1
                have m1:=Mem.move m hb0 hρ (some (.cells (l.drop off) el)) (off+d) (fun o' ho=>by cases ho;exact hbr');have x1:=Ext.move m hb0 hρ (some (.cells (l.drop off) el)) (off+d);have hat':(h.set b none++[some (.cells (l.drop off) el)]:ab).at h.length=some (.cells (l.drop off) el):=by
                 unfold ab.at;rw[List.getElem?_append_right (by simp)];simp
                have hρ':((ρ.dj b .dead).dj h.length (.live cb (off+d))) h.length = .live cb (off+d):=au.dm _ _ _;obtain⟨w',hst,m2,x2⟩:=pR (off:=len'*i.size) m1 hat' hρ' (jf.mono x1) (by simp;omega) (fun cs0 e0 fr0 hq=>by
                 rw[h5]at hq;cases hq;rw[hnl];rw[Nat.add_mul]at hroomc;omega) hone
                have hh:(h.set b none++[some (.cells (l.drop off) el)]:ab).put h.length (some (.cells (overwrite (l.drop off) (len'*i.size) new) el))=h.put b none++[some (.cells (l.drop off++new) el)]:=by
                 have:overwrite (l.drop off) (len'*i.size) new=l.drop off++new:=by
                  unfold overwrite;have e2:(l.drop off).drop (len'*i.size+new.length)=[]:=List.drop_of_length_le (by rw[List.length_drop];omega);rw[hdrop,e2,List.append_nil]
                 rw[this];exact NH (List.length_set) _ _
                rw[hh]at m2 x2;refine⟨_,w',xR ht hlen hf hfit (by
                 show Sem.run P (storeCells ((⟨cb,off+d,none⟩:Addr).add (len'*i.size)) nv) w=_;rw[Addr.fW,show off+d+len'*i.size=len'*i.size+(off+d) from by omega];exact hst),_,?_,m2,x1.trans x2⟩
                obtain⟨cs',fr',h7,h8⟩:=(x1.trans x2).shape _ _ _ _ h5;have:=V.sl (w:=w') (o:=0) (len:=len'+n) (esz:=i.size) (capC:=capC) (cap:=none) hρ' hfit (by simp) ⟨cs',e',fr',h7,by rw[Nat.zero_add];omega⟩;simpa using this
               | eC hρ=>omega
               | dO _ _ hρ _ _=>exact absurd hρ hρl
               | eA hρ=>exact absurd hρ hρl
             . have hsc':dF h (.sl b off len' i.size none)=some (List.take (len'*i.size) (List.drop off l),len'):=by
                simp[dF,hat,cut];omega
               obtain⟨_,ho⟩:=kj md (hx.mono xd) hsc' hcl;obtain⟨bB,ho1,ho2⟩:=ho len' (Nat.le_refl _);rw[List.take_take,Nat.min_self,hdrop]at ho2;have m1:=md.forget hb0;have x1:=xd.trans (Ext.forget (w:={ w with drawn:=w.drawn+1 }) hb0 (fun c d hl=>m.bound b c d hl));exact new_case base len' capC _ bB (h.set b none) _ rfl (by omega) hroom (by simp;omega) ho1 m1 x1 (ho2.mono (Ext.forget (w:={ w with drawn:=w.drawn+1 }) hb0 (fun c d hl=>m.bound b c d hl))) (hnv'.mono (Ext.forget (w:={ w with drawn:=w.drawn+1 }) hb0 (fun c d hl=>m.bound b c d hl))) (by simp) [b] rfl
           . cases ha
     . cases ha
   . cases ha
end Go.Ab
