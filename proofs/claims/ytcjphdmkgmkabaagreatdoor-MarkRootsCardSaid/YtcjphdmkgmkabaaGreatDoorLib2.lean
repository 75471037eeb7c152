/-
  Own work: the operations that look at the heap, all of them together.
-/
import Derived.Test.YtcjphdmkgmkabaaGreatDoorLib1
import Derived.IntWalk
import Derived.Laws.BytesString
import Derived.Lib.Builder
import Derived.Lib.ConvBytes
import Derived.Laws.AppendOwn
import Derived.RangeFuncLeaves
set_option maxHeartbeats 8000000
set_option maxRecDepth 20000
namespace Go.Ab
variable {P:Program} {gl:Nat->Option AV} {ρ:au} {w:World} {h:ab} {C:Cx} {s:St} {a:Act}
def bN (C:Cx)(e:Operand->Value)(o:Oper)(ρ:au)(h:ab)(w:World)(r:HR):Prop:=
 ∃v' w',((execOp e o).run C.P w = .ok (.value v') w'\/((execOp e o).run C.P w = .ok .skip w'/\v'=undef))/\dP C.P C.gl ρ h w r v' w'
theorem bN.val {o:Oper}{r:HR}{v':Value}{w':World}(h1:(execOp a.eval o).run C.P w = .ok (.value v') w')(h2:dP C.P C.gl ρ h w r v' w'):bN C a.eval o ρ h w r:=⟨v',w',.inl h1,h2⟩
theorem bN.skip {o:Oper}{r:HR}{w':World}(h1:(execOp a.eval o).run C.P w = .ok .skip w')(h2:dP C.P C.gl ρ h w r undef w'):bN C a.eval o ρ h w r:=⟨undef,w',.inr ⟨h1,rfl⟩,h2⟩
theorem gw (m:Mem P gl ρ h w){x:AV}{v':Value}(hv:V ρ w x v'):dP P gl ρ h w ⟨x,h,[]⟩ v' w:=⟨ρ,hv,m,Ext.refl _ _ _⟩
theorem sJ (m:Mem P gl ρ h w){l:List AV}{cs:Array Value}(e:TypeId)(hl:VL ρ w l cs.toList){x:AV}{v':Value}(hv:V (ρ.dj h.length (.live w.heap.size 0)) { w with heap:=w.heap.push (.cells cs e) } x v') :
 dP P gl ρ h w ⟨x,h++[some (.cells l e)],[]⟩ v' { w with heap:=w.heap.push (.cells cs e) }:=
 let ⟨m1,x1⟩:=Nv m e hl
 ⟨_,hv,m1,x1⟩
theorem xS {z:List AV}{zv:Array Value}(hz:VL ρ w z zv.toList):∀n,VL ρ w (fB z n) ((Array.range (n*zv.size)).map (zv[· % zv.size]!)).toList:=by
 intro n;have key:∀n,((Array.range (n*zv.size)).map (zv[· % zv.size]!)).toList=(List.replicate n zv.toList).flatten:=by
  intro n;by_cases h0:zv.size=0
  . have hz0:zv.toList=[]:=by simpa using h0
    simp[h0,hz0]
  . induction n with
    | zero=>simp
    | succ n ih=>
     rw[List.replicate_succ',List.flatten_append,←ih];simp only[Array.toList_map,Array.toList_range];rw[Nat.succ_mul,List.range_add,List.map_append];congr 1;simp only[List.map_map,List.flatten_cons,List.flatten_nil,List.append_nil];apply List.ext_getElem
     . simp
     . intro i h1 h2;simp at h1;simp[Nat.add_comm,Nat.mod_eq_of_lt h1,h1]
 rw[key];induction n with
 | zero=>exact .nil
 | succ n ih=>
  simp only[fB,List.replicate_succ,List.flatten_cons];exact hz.append ih
theorem xT (z:List AV):∀n,(fB z n).length=n*z.length
 | 0=>by simp[fB]
 | n+1=>by simp[fB,xT z n,Nat.succ_mul];omega
theorem kl {t e:TypeId}{n b:Nat}(h:gU P t=some (e,n,b)):∃i,P.underlying t=some (.slice e)/\P.info? e=some i/\i.size=n/\i.bytes=b:=by
 unfold gU at h;split at h
 . rename_i e' hu;split at h
   . rename_i i hi;cases h;exact⟨i,hu,hi,rfl,rfl⟩
   . cases h
 . cases h
theorem pS {e:TypeId}{z:List AV}(h:(zeroOf P e).bind AV.cells=some z):∃(i:TypeInfo) (v:Value),P.info? e=some i/\i.zero=some v/\(∀(ρ:au) (w:World),VL ρ w z v.cells.toList)/\∀w:World,(zeroValue e).run P w = .ok v w:=by
 simp only[Option.bind_eq_some_iff]at h;obtain⟨u,h1,h2⟩:=h;unfold zeroOf at h1;split at h1
 . rename_i i hi;split at h1
   . rename_i v hv;exact⟨i,v,hi,hv,fun ρ w=>nd (pK 5 v u h1) h2,fun w=>by simp[zeroValue,sD hi,hv]⟩
   . cases h1
 . cases h1
theorem NJ (r:Rel C ρ s a w){t elem:TypeId}{n bb len:Nat}{ps:Array (Nat×Operand)}{z:List AV}{cps:List (Nat×Nat×ax)}(he:gU C.P t=some (elem,n,bb))(hz:(zeroOf C.P elem).bind AV.cells=some z)
 (hc:ji C (fun j=>some (j*n,n)) ps.toList=some cps) (hn0:0<n) (hzn:z.length=n) (hroom:len*n<=2^24) {vs:List (Nat×Nat×AV)} (hv:s.parts cps=some vs) {l:List AV} (hf:jF (fB z len) vs=some l) (hll:l.length=len*n)
 {o:Oper} (ho:o.op = .buildSlice t len ps):bN C a.eval o ρ s.hp w ⟨.sl s.hp.length 0 len n (some len),s.hp++[some (.cells l elem)],[]⟩:=by
 obtain⟨i,hu,hi,rfl,rfl⟩:=kl he;obtain⟨i',zv,hi',hzv,hzl,hzrun⟩:=pS hz;rw[hi]at hi';cases hi';have hzs:zv.cells.size=i.size:=by rw[←hzn,(hzl ρ w).toList]
 have hrep:=xS (hzl ρ w) len;obtain⟨e1,e2⟩:=sH r hc hv;obtain⟨m',h1,h2⟩:=sG (place:=fun j=>some (j*i.size,i.size)) vs _ _ _ l e1 e2 hrep hf;have hms:m'.length=len*i.size:=by rw[←h2.length,hll]
 refine bN.val (v':=.slice (some ⟨w.heap.size,0,none⟩) len len) (w':={ w with heap:=w.heap.push (.cells m'.toArray elem) }) ?_ (sJ r.mem elem (by simpa using h2) (xM (Nat.le_refl _) (by simp) (by simp[hms])));obtain⟨dst,op,ty,pos,af,gd⟩:=o;simp only at ho;subst ho;have hroom':¬(16777216<len*i.size):=by omega
 have hfill:Instr.fill (fun j=>some (j*i.size,i.size)) ((Array.range (len*i.size)).map (zv.cells[· % zv.cells.size]!)) (ps.map fun p=>(p.1,a.eval p.2)).toList=some m'.toArray:=by
  rw[Array.toList_map];rw[hzs]at h1;rw[hzs];have e3:((Array.range (len*i.size)).map (zv.cells[· % i.size]!)).toList.toArray=(Array.range (len*i.size)).map (zv.cells[· % i.size]!):=Array.toArray_toList;rw[e3]at h1;exact h1
 have hr0:(Array.range 0:Array Nat) = #[]:=rfl;rw[Array.toList_map]at hfill;by_cases hl0:len*i.size=0
 . have hfill0:Instr.fill (fun j=>some (j*i.size,i.size)) #[] (List.map (fun p=>(p.1,a.eval p.2)) ps.toList)=some m'.toArray:=by
    rw[hl0,hr0]at hfill;simpa using hfill
   simp only[execOp,Instr.buildSlice,Sem.run_bind,bC hu,Result.andThen_ok,fV hi,hl0,hr0];simp[hfill0,newRow]
 . simp only[execOp,Instr.buildSlice,Sem.run_bind,bC hu,Result.andThen_ok,fV hi];have hl00:¬(len=0\/i.size=0):=by rwa [←Nat.mul_eq_zero]
   simp[hroom',hzrun,hfill,newRow];exact fun h=>absurd h hl0
theorem NK (r:Rel C ρ s a w){t elem:TypeId}{n bb:Nat}{lo co:Operand}{z:List AV}(he:gU C.P t=some (elem,n,bb))(hz:(zeroOf C.P elem).bind AV.cells=some z)(hzn:z.length=n)(hn0:0<n)
 {k k':IntKind} {x y:Int} (hl:a.eval lo = .int k x) (hc:a.eval co = .int k' y) (h0:0<=x) (h1:x<=y) (h2:y.toNat*bb<=dh) (h3:y<=2^46) {o:Oper} (ho:o.op = .makeSlice t lo co) :
 bN C a.eval o ρ s.hp w ⟨.sl s.hp.length 0 x.toNat n (some y.toNat),s.hp++[some (.cells (fB z y.toNat) elem)],[]⟩:=by
 obtain⟨i,hu,hi,rfl,rfl⟩:=kl he;obtain⟨i',zv,hi',hzv,hzl,hzrun⟩:=pS hz;rw[hi]at hi';cases hi';have hzs:zv.cells.size=i.size:=by rw[←hzn,(hzl ρ w).toList]
 have hrep:=xS (hzl ρ w) y.toNat;have hlen:=xT z y.toNat;refine bN.val (v':=.slice (some ⟨w.heap.size,0,none⟩) x.toNat y.toNat) (w':={ w with heap:=w.heap.push (.cells ((Array.range (y.toNat*zv.cells.size)).map (zv.cells[· % zv.cells.size]!)) elem) }) ?_
  (sJ r.mem elem hrep (xM (by omega) (by simp) (by simp[hzs])))
 obtain⟨dst,op,ty,pos,af,gd⟩:=o;simp only at ho;subst ho;have hroom:dh=70368744177664:=by decide
 have w1:IntKind.i64.wrap x=x:=IntWalk.i64_in x (by omega);have w2:IntKind.i64.wrap y=y:=IntWalk.i64_in y (by omega);have hy:(y.toNat:Int)=y:=by omega
 have hb:¬((281474976710656:Int)<(i.bytes:Int)*y):=by
  have:((y.toNat*i.bytes:Nat):Int)<=70368744177664:=by omega
  rw[Int.natCast_mul,hy,Int.mul_comm]at this;omega
 have hcond:¬(((y<0\/(281474976710656:Int)<(i.bytes:Int)*y)\/x<0)\/y<x):=by omega
 have hr0:(Array.range 0:Array Nat) = #[]:=rfl;simp[execOp,Instr.makeSlice,bC hu,hl,hc,asInt,nc,sD hi,fV hi,w1,w2,hcond,newRow,hzrun,hzs];by_cases hy0:y.toNat*i.size=0
 . simp[hy0,hr0]
 . simp[hy0]
theorem NL (r:Rel C ρ s a w){e:TypeId}{xo:Operand}{x:AV}{l:List AV}(hx:V ρ w x (a.eval xo))(hl:x.cells=some l){o:Oper}(ho:o.op = .box e xo) :
 bN C a.eval o ρ s.hp w ⟨.ptr s.hp.length 0,s.hp++[some (.cells l e)],[]⟩:=by
 refine bN.val (v':=.pointer (some ⟨w.heap.size,0,none⟩)) (w':={ w with heap:=w.heap.push (.cells (a.eval xo).cells e) }) ?_ (sJ r.mem e (nd hx hl) xN);obtain⟨dst,op,ty,pos,af,gd⟩:=o;simp only at ho;subst ho;simp[execOp,Instr.box,newVar,newRow]
theorem NM (r:Rel C ρ s a w){e:TypeId}{z:List AV}(hz:(zeroOf C.P e).bind AV.cells=some z){o:Oper}(ho:o.op = .alloc e) :
 bN C a.eval o ρ s.hp w ⟨.ptr s.hp.length 0,s.hp++[some (.cells z e)],[]⟩:=by
 obtain⟨i,zv,hi,hzv,hzl,hzrun⟩:=pS hz;refine bN.val (v':=.pointer (some ⟨w.heap.size,0,none⟩)) (w':={ w with heap:=w.heap.push (.cells zv.cells e) }) ?_ (sJ r.mem e (hzl ρ w) xN);obtain⟨dst,op,ty,pos,af,gd⟩:=o;simp only at ho;subst ho;simp[execOp,Instr.alloc,hzrun,newVar,newRow]
theorem NN (r:Rel C ρ s a w){t:TypeId}{n:Nat}{ag:Bool}{xo:Operand}{x:AV}(hs:shapeOf C.P t=some (n,ag))(hx:V ρ w x (a.eval xo)){l:List AV}(hl:ew s.hp x=some l){v:AV}(hv:partOf l 0 n ag=some v)
 {o:Oper} (ho:o.op = .load t xo):bN C a.eval o ρ s.hp w ⟨v,s.hp,[]⟩:=by
 obtain⟨c,off,g,he,hg⟩:=readable r.mem hx hl;obtain⟨v',h1,h2⟩:=Ej hs hg hv;refine bN.val (v':=v') (w':=w) ?_ (gw r.mem h2);obtain⟨dst,op,ty,pos,af,gd⟩:=o;simp only at ho;subst ho;simp[execOp,Instr.loadAt,he,Instr.sureAddr,h1]
theorem NO (r:Rel C ρ s a w){t:TypeId}{n:Nat}{ag:Bool}{xo yo:Operand}{b off:Nat}{y:AV}{new l:List AV}{el:TypeId}(hs:shapeOf C.P t=some (n,ag))(hx:V ρ w (.ptr b off) (a.eval xo))(hy:V ρ w y (a.eval yo))
 (hn:y.cells=some new) (hb:s.hp.at b=some (.cells l el)) (hnn:new.length=n) (hin:off+n<=l.length) (hone:new.all cw=true) {o:Oper} (ho:o.op = .store t xo yo) :
 bN C a.eval o ρ s.hp w ⟨bJ,s.hp.put b (some (.cells (overwrite l off new) el)),[b]⟩:=by
 obtain⟨i,d0,hi,hd0,rfl,rfl⟩:=pL hs;obtain⟨h0,hbr⟩:=jN r.mem hb;have hyv:=nd hy hn;generalize hxv:a.eval xo=xv at hx;cases hx with
 | ptr _ hρ=>
  rename_i c d;obtain⟨w',h1,m1,x1⟩:=pR (off:=off) r.mem hb hρ hyv (by omega) (fun cs e fr hq=>by
   rcases hbr with ⟨c',d',cs',fr',g1,g2,g3,_⟩|⟨g1,_⟩
   . rw[hρ]at g1;cases g1;rw[hq]at g2;cases g2;have:=g3.1;omega
   . rw[hρ]at g1;cases g1) hone
  refine bN.skip (w':=w') ?_ ⟨ρ,V.undef,m1,x1⟩;obtain⟨dst,op,ty,pos,af,gd⟩:=o;simp only at ho;subst ho;have hsz:(a.eval yo).cells.size=i.size:=by rw[←hyv.toList,hnn]
  simp[execOp,Instr.storeAt,hxv,Instr.sureAddr,storeVar,fV hi,hsz,h1]
 | dy _ _ _ hρ=>rcases hbr.live with ⟨_,_,hl'⟩|hl'|hl' <;> (rw[hρ]at hl';cases hl')
end Go.Ab
namespace Go.Ab
variable {t:TypeId}
variable {P:Program} {gl:Nat->Option AV} {ρ:au} {w:World} {h:ab} {C:Cx} {s:St} {a:Act}
theorem bytes_beq (x y:List UInt8):((ByteArray.mk x.toArray) == (ByteArray.mk y.toArray))=(x == y):=by
 have e:∀x y:ByteArray,(x == y)=(x.data == y.data):=fun _ _=>rfl
 rw[e];simp
theorem km {c:Nat}{o:Obj}(h:w.heap[c]? = some o)(ho:∀cs e fr,o≠.cells cs e fr):(getObj c).run P w = .ok o w:=by
 cases o <;> first|exact absurd rfl (ho _ _ _)|simp[getObj,Sem.run,h]
theorem lI {c:Nat}{o o':Obj}(h:w.heap[c]? = some o)(ho:∀cs e fr,o≠.cells cs e fr):(setObj c o').run P w = .ok () (w.cP c o'):=by
 cases o <;> first|exact absurd rfl (ho _ _ _)|simp[setObj,Sem.run,h,World.cP]
theorem xU (m:Mem P gl ρ h w){b:Nat}{es:List (AV×AV)}(hb:h.at b=some (.map es)):h[b]? = some (some (.map es))/\∃c ms clk,ρ b = .live c 0/\w.heap[c]? = some (.map ms clk)/\es.length=ms.size /\
      ∀(i:Nat) kx vx m,es[i]? = some (kx,vx)->ms[i]? = some m->V ρ w kx m.key/\V ρ w vx m.val:=
 ⟨nj hb,m.cF b _ (nj hb)⟩
def xV:gE->TypeDesc->Prop
 | .int,d=>∃k,d = .int k
 | .str,d=>d = .string
theorem Eo {k:gE}(hk:keyOf P t=some k):∃d,P.underlying t=some d/\xV k d:=by
 unfold keyOf at hk;split at hk
 . rename_i kk hu;cases hk;exact⟨_,hu,_,rfl⟩
 . rename_i hu;cases hk;exact⟨_,hu,rfl⟩
 . cases hk
theorem sM {k:gE}(hk:keyOf P t=some k)(e:Bool)(v:Value):(Instr.checkKey e 10000 t v).run P w = .ok () w:=by
 obtain⟨d,hu,hd⟩:=Eo hk;unfold Instr.checkKey;rw[Sem.run_bind,bC hu,Result.andThen_ok];cases k
 . obtain⟨kk,rfl⟩:=hd;simp
 . cases hd;simp
theorem NP {kt:gE}{d:TypeDesc}(hd:xV kt d){k kx:AV}(hk:kt.ok k=true){k' kx':Value}(h1:V ρ w k k')(h2:V ρ w kx kx'){r:Bool}(he:pt k kx=some r) :
 Instr.sameNow d k' kx'=some r/\(r=true->kx'=k'/\Instr.sameBits 10000 kx' k'=true):=by
 cases kt
 . obtain⟨kk,rfl⟩:=hd;cases k <;> simp only[gE.ok,Bool.false_eq_true]at hk;cases kx <;> simp only[pt,reduceCtorEq,Option.ite_none_right_eq_some,Option.some.injEq]at he;obtain⟨rfl,rfl⟩:=he;cases h1;cases h2;refine⟨by simp[Instr.sameNow],fun hr=>?_⟩;simp only[beq_iff_eq]at hr;subst hr;exact⟨rfl,by simp[Instr.sameBits]⟩
 . cases hd;cases k <;> simp only[gE.ok,Bool.false_eq_true]at hk;cases kx <;> simp only[pt,reduceCtorEq,Option.some.injEq]at he;subst he;cases h1;cases h2;refine⟨by simp only[Instr.sameNow,bytes_beq],fun hr=>?_⟩;simp only[beq_iff_eq]at hr;subst hr;exact⟨rfl,by simp only[Instr.sameBits,bytes_beq,beq_self_eq_true]⟩
def xW (ρ:au)(w:World)(ms:List MapEntry)(k':Value)(i:Nat):Option (Nat×AV)->Option (Nat×Value)->Prop
 | none,none=>True
 | some (j,v),some (j',v')=>j=j'/\i<=j/\V ρ w v v'/\∃e,ms[j-i]? = some e/\e.key=k'/\Instr.sameBits 10000 e.key k'=true
 | _,_=>False
theorem Ep {kt:gE}{d:TypeDesc}(hd:xV kt d){k:AV}(hk:kt.ok k=true){k':Value}(h1:V ρ w k k') :
 ∀(es:List (AV×AV)) (ms:List MapEntry) (i:Nat) (r:Option (Nat×AV)),es.length=ms.length ->
  (∀(i:Nat) kx vx m,es[i]? = some (kx,vx)->ms[i]? = some m->V ρ w kx m.key/\V ρ w vx m.val)->jG k es i=some r ->
  ∃r',Instr.findNow d k' ms i=some r'/\xW ρ w ms k' i r r'
 | [],ms,i,r,hl,_,hf=>by
  cases ms with
  | nil=>simp only[jG,Option.some.injEq]at hf;subst hf;exact⟨none,rfl,trivial⟩
  | cons _ _=>simp at hl
 | (kx,vx)::es,ms,i,r,hl,hv,hf=>by
  cases ms with
  | nil=>simp at hl
  | cons m ms=>
   obtain⟨e1,e2⟩:=hv 0 kx vx m rfl rfl;simp only[jG]at hf;cases he:pt k kx with
   | none=>simp[he]at hf
   | some b=>
    obtain⟨g1,g2⟩:=NP hd hk h1 e1 he;cases b with
    | true=>
     simp only[he,Option.some.injEq]at hf;subst hf;exact⟨some (i,m.val),by simp[Instr.findNow,g1],rfl,Nat.le_refl _,e2,m,by simp,g2 rfl⟩
    | false=>
     simp only[he]at hf;obtain⟨r',h3,h4⟩:=Ep hd hk h1 es ms (i+1) r (by simpa using hl) (fun i kx vx m hx hm=>hv (i+1) kx vx m (by simpa using hx) (by simpa using hm)) hf;refine⟨r',by simp[Instr.findNow,g1,h3],?_⟩;cases r with
     | none=>cases r' with
       | none=>trivial
       | some _=>exact h4
     | some q=>
      cases r' with
      | none=>exact h4
      | some q'=>
       obtain⟨a1,a2,a3,e,a4,a5⟩:=h4;refine⟨a1,by omega,a3,e,?_,a5⟩;rw[show q.1-i=q.1-(i+1)+1 from by omega];simpa using a4
theorem xX {kt:gE}(hk:keyOf P t=some kt){k:AV}(ba:kt.ok k=true){k':Value}(h1:V ρ w k k'){es:List (AV×AV)}{ms:List MapEntry}(hl:es.length=ms.length)
 (hv:∀(i:Nat) kx vx m,es[i]? = some (kx,vx)->ms[i]? = some m->V ρ w kx m.key/\V ρ w vx m.val) {r:Option (Nat×AV)} (hf:jG k es 0=some r) :
 ∃r',(Instr.findKey t k' ms).run P w = .ok r' w/\xW ρ w ms k' 0 r r':=by
 obtain⟨d,hu,hd⟩:=Eo hk;obtain⟨r',h2,h3⟩:=Ep hd ba h1 es ms 0 r hl hv hf;refine⟨r',?_,h3⟩;unfold Instr.findKey;simp[bC hu,h2]
def kn (z:AV)(q:Option (Nat×AV)):AV:=match q with|some (_,v)=>v|none=>z
theorem NQ (r:Rel C ρ s a w){t kt' et:TypeId}{kt:gE}{z:AV}{xo io:Operand}{ok:Bool}(hu:C.P.underlying t=some (.map kt' et))(hk:keyOf C.P kt'=some kt)(hz:zeroOf C.P et=some z)
 {m k:AV} (hm:V ρ w m (a.eval xo)) (hkv:V ρ w k (a.eval io)) (ba:kt.ok k=true) {es:List (AV×AV)} (hes:m = .dL/\es=[]\/∃b,m = .map b/\s.hp.at b=some (.map es))
 {q:Option (Nat×AV)} (hf:jG k es 0=some q) {o:Oper} (ho:o.op = .lookup t xo io ok) :
 bN C a.eval o ρ s.hp w ⟨if ok then .aq [kn z q,.bool q.isSome] else kn z q,s.hp,[]⟩:=by
 obtain⟨dst,op,ty,pos,af,gd⟩:=o;simp only at ho;subst ho;obtain⟨zv,hz1,hz2⟩:=sI (w:=w) (ρ:=ρ) hz;have hrun:∃v',(Instr.lookup t (a.eval xo) (a.eval io) ok).run C.P w = .ok v' w/\V ρ w (if ok then .aq [kn z q,.bool q.isSome] else kn z q) v':=by
  have tail:∀(q':Option (Nat×Value)) (ms:List MapEntry),xW ρ w ms (a.eval io) 0 q q'->∃v',((match q' with
   | some (_,v)=>do let p ←(pure (v,true):Sem (Value×Bool));pure (if ok then .tuple #[p.1,.bool p.2] else p.1)
   | none=>do let z ←zeroValue et;let p ←(pure (z,false):Sem (Value×Bool));pure (if ok then .tuple #[p.1,.bool p.2] else p.1):Sem Value)).run C.P w = .ok (if ok then .tuple #[v',.bool q.isSome] else v') w/\V ρ w (kn z q) v':=by
   intro q' ms h2;cases q with
   | none=>
    cases q' with
    | some _=>exact h2.elim
    | none=>exact⟨zv,by simp[hz1],hz2⟩
   | some p=>
    cases q' with
    | none=>exact h2.elim
    | some p'=>exact⟨p'.2,by simp,h2.2.2.1⟩
  have fin:∀(v':Value),V ρ w (kn z q) v'->V ρ w (if ok then .aq [kn z q,.bool q.isSome] else kn z q) (if ok then .tuple #[v',.bool q.isSome] else v'):=by
   intro v' hv;cases ok
   . exact hv
   . exact V.gI (VL.cons hv (VL.cons (.bool _) .nil))
  unfold Instr.lookup;rcases hes with ⟨rfl,rfl⟩|⟨b,rfl,hb⟩
  . generalize hxv:a.eval xo=xv at hm;cases hm;obtain⟨q',h1,h2⟩:=xX (P:=C.P) (es:=[]) (ms:=[]) hk ba hkv rfl (by simp) hf;obtain⟨v',t1,t2⟩:=tail q' _ h2;refine⟨_,?_,fin v' t2⟩;simp only[Sem.run_bind,bC hu,Result.andThen_ok,Sem.run_pure,sM hk,h1];exact t1
  . obtain⟨_,c,ms,clk,g1,g2,g3,g4⟩:=xU r.mem hb;generalize hxv:a.eval xo=xv at hm;cases hm with
    | map hρ=>
     rw[hρ]at g1;cases g1;obtain⟨q',h1,h2⟩:=xX (P:=C.P) (ms:=ms.toList) hk ba hkv (by simpa using g3) (by simpa using g4) hf;obtain⟨v',t1,t2⟩:=tail q' _ h2;refine⟨_,?_,fin v' t2⟩;simp only[Sem.run_bind,bC hu,Result.andThen_ok,Sem.run_pure,sM hk,h1,km g2 (by simp)];exact t1
    | gr _ hρ=>rw[hρ]at g1;cases g1
 obtain⟨v',h3,h4⟩:=hrun;refine bN.val (v':=v') (w':=w) ?_ (gw r.mem h4);simp[execOp,h3]
def ko (es:List (AV×AV))(k v:AV)(q:Option (Nat×AV)):List (AV×AV):=match q with|some (j,_)=>es.set j (k,v)|none=>es++[(k,v)]
theorem sN (r:Rel C ρ s a w){t kt' et:TypeId}{kt:gE}{mo io xo:Operand}(hu:C.P.underlying t=some (.map kt' et))(hk:keyOf C.P kt'=some kt)
 {k v:AV} {b:Nat} (hm:V ρ w (.map b) (a.eval mo)) (hkv:V ρ w k (a.eval io)) (hv:V ρ w v (a.eval xo)) (ba:kt.ok k=true) {es:List (AV×AV)} (hb:s.hp.at b=some (.map es))
 {q:Option (Nat×AV)} (hf:jG k es 0=some q) {o:Oper} (ho:o.op = .mapUpdate t mo io xo\/o.op = .insert t mo io xo) :
 bN C a.eval o ρ s.hp w ⟨bJ,s.hp.put b (some (.map (ko es k v q))),[b]⟩:=by
 obtain⟨h0,c,ms,clk,g1,g2,g3,g4⟩:=xU r.mem hb;have hrun:∃ms' clk',(Instr.mapUpdate t (a.eval mo) (a.eval io) (a.eval xo)).run C.P w = .ok () (w.cP c (.map ms' clk'))/\(ko es k v q).length=ms'.size /\
  ∀(i:Nat) kx vx m,(ko es k v q)[i]? = some (kx,vx)->ms'[i]? = some m->V ρ w kx m.key/\V ρ w vx m.val:=by
  unfold Instr.mapUpdate;generalize hxv:a.eval mo=xv at hm;cases hm with
  | map hρ=>
   rw[hρ]at g1;cases g1;obtain⟨q',h1,h2⟩:=xX (P:=C.P) (ms:=ms.toList) hk ba hkv (by simpa using g3) (by simpa using g4) hf;cases q with
   | none=>
    cases q' with
    | some _=>exact h2.elim
    | none=>
     refine⟨ms.push { key:=a.eval io,val:=a.eval xo,born:=clk },clk+1,?_,by simp[ko,g3],?_⟩
     . simp only[Sem.run_bind,bC hu,Result.andThen_ok,sM hk,h1,km g2 (by simp)];exact lI g2 (by simp)
     . intro i kx vx m hx hm;simp only[ko]at hx;rw[List.getElem?_append]at hx;rw[Array.getElem?_push]at hm;split at hx
       . rw[if_neg (by omega)]at hm;exact g4 i kx vx m hx hm
       . have:i<es.length+1:=by
          have:=(List.getElem?_eq_some_iff.1 hx).1;simp at this;omega
         rw[if_pos (by omega)]at hm;cases hm;rw[show i-es.length=0 from by omega]at hx;simp at hx;obtain⟨rfl,rfl⟩:=hx;exact⟨hkv,hv⟩
   | some p=>
    cases q' with
    | none=>exact h2.elim
    | some p'=>
     obtain⟨j,pv⟩:=p;obtain⟨j',pv'⟩:=p';obtain⟨e1,_,_,e,e3,e4,e5⟩:=h2;have e1:j=j':=e1;subst e1;have e3:ms[j]? = some e:=by simpa using e3
     have hj:j<ms.size:=(Array.getElem?_eq_some_iff.1 e3).1;refine⟨ms.modify j fun e=>{ e with key:=a.eval io,val:=a.eval xo },clk,?_,by simp[ko,g3],?_⟩
     . simp only[Sem.run_bind,bC hu,Result.andThen_ok,sM hk,h1,km g2 (by simp)];simp only[e3,Option.map_some,Option.getD_some,Instr.keyThatStays,e5,if_true,Sem.run_pure,Result.andThen_ok];exact lI g2 (by simp)
     . intro i kx vx m hx hm;rw[Array.getElem?_modify]at hm;simp only[ko]at hx;rw[List.getElem?_set]at hx;by_cases hij:j=i
       . subst hij;rw[if_pos rfl]at hx hm;rw[if_pos (by omega)]at hx;simp only[e3,Option.map_some,Option.some.injEq]at hm;cases hx;subst hm;exact⟨hkv,hv⟩
       . rw[if_neg hij]at hx hm;exact g4 i kx vx m hx hm
  | gr _ hρ=>rw[hρ]at g1;cases g1
 obtain⟨ms',clk',h1,h2,h3⟩:=hrun;have hO:∀cs0 e0 fr0,w.heap[c]? = some (.cells cs0 e0 fr0)->∃cs' fr',Obj.map ms' clk' = .cells cs' e0 fr'/\cs'.size=cs0.size:=by
  intro _ _ _ hq;rw[g2]at hq;cases hq
 have x:=Ext.write r.mem h0 g1 (some (.map (ko es k v q))) (.map ms' clk') hO;refine bN.skip (w':=w.cP c (.map ms' clk')) ?_ ⟨ρ,V.undef,Mem.write r.mem h0 g1 _ _ hO ?_,x⟩
 . obtain⟨dst,op,ty,pos,af,gd⟩:=o;simp only at ho;rcases ho with rfl|rfl <;> simp[execOp,h1]
 . intro o' ho';cases ho';exact⟨c,ms',clk',g1,lG (r.mem.bound _ _ _ g1),h2,fun i kx vx m hx hm=>let ⟨a1,a2⟩:=h3 i kx vx m hx hm;⟨a1.mono x,a2.mono x⟩⟩
theorem NR (r:Rel C ρ s a w){t:TypeId}{o:Oper}(ho:o.op = .makeMap t none):bN C a.eval o ρ s.hp w ⟨.map s.hp.length,s.hp++[some (.map [])],[]⟩:=by
 have x:=Ext.alloc r.mem (some (.map [])) (.map #[] 0) (.live w.heap.size 0) (.inl ⟨0,rfl⟩);refine bN.val (v':=.map (some w.heap.size)) (w':={ w with heap:=w.heap.push (.map #[] 0) }) ?_ ⟨_,.map (au.dm _ _ _),Mem.alloc r.mem _ _ _ (.inl ⟨0,rfl⟩) ?_,x⟩
 . obtain⟨dst,op,ty,pos,af,gd⟩:=o;simp only at ho;subst ho;simp[execOp,Instr.makeMap]
 . intro o' ho';cases ho';exact⟨w.heap.size,#[],0,au.dm _ _ _,by simp,rfl,by simp⟩
theorem NS (r:Rel C ρ s a w){t:TypeId}{xo:Operand}(hu:C.P.underlying t=some .string){u:List UInt8}(hx:V ρ w (.str u) (a.eval xo)){o:Oper}(ho:o.op = .range t xo) :
 bN C a.eval o ρ s.hp w ⟨.ptr s.hp.length 0,s.hp++[some (.iter u 0)],[]⟩:=by
 have x:=Ext.alloc r.mem (some (.iter u 0)) (.stringIter ⟨u.toArray⟩ 0) (.live w.heap.size 0) (.inl ⟨0,rfl⟩);refine bN.val (v':=.pointer (some ⟨w.heap.size,0,none⟩)) (w':={ w with heap:=w.heap.push (.stringIter ⟨u.toArray⟩ 0) }) ?_ ⟨_,xN,Mem.alloc r.mem _ _ _ (.inl ⟨0,rfl⟩) ?_,x⟩
 . obtain⟨dst,op,ty,pos,af,gd⟩:=o;simp only at ho;subst ho;simp[execOp,Instr.range,bC hu,hx.iN]
 . intro o' ho';cases ho';exact⟨w.heap.size,au.dm _ _ _,by simp⟩
theorem NT (r:Rel C ρ s a w){xo:Operand}{b pos:Nat}{t:List UInt8}(hx:V ρ w (.ptr b 0) (a.eval xo))(hb:s.hp.at b=some (.iter t pos)){o:Oper}(ho:o.op = .next xo true) :
 bN C a.eval o ρ s.hp w (if pos<t.length then ⟨.aq [.bool true,.int .i64 pos,.int .i32 (Utf8.decode ⟨t.toArray⟩ pos).1],s.hp.put b (some (.iter t (pos+(Utf8.decode ⟨t.toArray⟩ pos).2))),[b]⟩ else ⟨.aq [.bool false],s.hp,[]⟩):=by
 have h0:=nj hb;obtain⟨c,g1,g2⟩:=r.mem.cF b _ h0;obtain⟨dst,op,ty,ps,af,gd⟩:=o;simp only at ho;subst ho;generalize hxv:a.eval xo=xv at hx;cases hx with
 | ptr _ hρ=>
  rw[hρ]at g1;cases g1;have hsz:(ByteArray.mk t.toArray).size=t.length:=by simp[ByteArray.size]
  by_cases hp:pos<t.length
  . rw[if_pos hp];have hO:∀cs0 e0 fr0,w.heap[c]? = some (.cells cs0 e0 fr0)->∃cs' fr',Obj.stringIter ⟨t.toArray⟩ (pos+(Utf8.decode ⟨t.toArray⟩ pos).2) = .cells cs' e0 fr'/\cs'.size=cs0.size:=by
     intro _ _ _ hq;rw[g2]at hq;cases hq
    have x:=Ext.write r.mem h0 hρ (some (.iter t (pos+(Utf8.decode ⟨t.toArray⟩ pos).2))) (.stringIter ⟨t.toArray⟩ (pos+(Utf8.decode ⟨t.toArray⟩ pos).2)) hO;refine bN.val (v':=.tuple #[.bool true,goInt pos,.int .i32 (Utf8.decode ⟨t.toArray⟩ pos).1]) (w':=w.cP c (.stringIter ⟨t.toArray⟩ (pos+(Utf8.decode ⟨t.toArray⟩ pos).2))) ?_
     ⟨ρ,V.gI (.cons (.bool _) (.cons (.int _ _) (.cons (.int _ _) .nil))),Mem.write r.mem h0 hρ _ _ hO ?_,x⟩
    . simp[execOp,Instr.next,hxv,km g2,hsz,hp,lI g2]
    . intro o' ho';cases ho';exact⟨c,hρ,lG (r.mem.bound _ _ _ hρ)⟩
  . rw[if_neg hp];refine bN.val (v':=.tuple #[.bool false]) (w':=w) ?_ (gw r.mem (V.gI (.cons (.bool _) .nil)));simp[execOp,Instr.next,hxv,km g2,hsz,hp]
 | dy _ _ _ hρ=>rw[hρ]at g1;cases g1
end Go.Ab
namespace Go.Ab
variable {e:TypeId}
variable {P:Program} {gl:Nat->Option AV} {ρ:au} {w:World} {h:ab} {C:Cx} {s:St} {a:Act}
theorem V.NU {x:AV}{x':Value}(hx:V ρ w x x'){l:List AV}{n:Nat}(hs:dF h x=some (l,n)):(∃s,x = .str s)\/∃a c,x' = .slice a n c:=by
 cases x <;> simp only[dF,reduceCtorEq,Option.some.injEq,Prod.mk.injEq]at hs
 case str s=>exact .inl ⟨s,rfl⟩
 case ae=>obtain⟨rfl,rfl⟩:=hs;cases hx;exact .inr ⟨_,_,rfl⟩
 case vs=>obtain⟨rfl,rfl⟩:=hs;cases hx <;> exact .inr ⟨_,_,rfl⟩
 case sl b off len esz cap=>
  split at hs
  . simp only[Option.map_eq_some_iff,Prod.mk.injEq]at hs;obtain⟨_,_,rfl,rfl⟩:=hs;cases hx <;> exact .inr ⟨_,_,rfl⟩
  . split at hs
    . rename_i hn;subst hn;cases hs;cases hx <;> exact .inr ⟨_,_,rfl⟩
    . cases hs
theorem xY:∀(l:List AV) (t:List UInt8) (m:List Value),bytesOf l=some t->VL ρ w l m->∃ns:List Int,m=ns.map (Value.int .u8)/\t=ns.map fun n=>UInt8.ofNat n.toNat
 | [],t,m,h,hv=>by
  simp only[bytesOf,Option.some.injEq]at h;subst h;exact⟨[],hv.iM,rfl⟩
 | x::l,t,m,h,hv=>by
  obtain⟨y,m',rfl,h1,h2⟩:=hv.cons_inv;cases x <;> first|(simp only[bytesOf,reduceCtorEq]at h;done)|skip
  rename_i k n;cases k <;> first|(simp only[bytesOf,reduceCtorEq]at h;done)|skip
  simp only[bytesOf]at h;split at h
  . rename_i t' ht;cases h;obtain⟨ns,rfl,rfl⟩:=xY l t' m' ht h2;cases h1;exact⟨n::ns,rfl,rfl⟩
  . cases h
theorem fold_push (ns:List Int):∀r:ByteArray,ns.foldl (fun r n=>r.push (UInt8.ofNat n.toNat)) r=⟨r.data++(ns.map fun n=>UInt8.ofNat n.toNat).toArray⟩:=by
 induction ns with
 | nil=>intro r;simp
 | cons n ns ih=>
  intro r;rw[List.foldl_cons,ih];apply ByteArray.ext;simp[ByteArray.push]
theorem NV (r:Rel C ρ s a w){src dst e:TypeId}{xo:Operand}(hs:C.P.underlying src=some (.slice e))(hd:C.P.underlying dst=some .string)(he:C.P.underlying e=some (.int .u8))
 {x:AV} (hx:V ρ w x (a.eval xo)) (hns:∀t,x≠.str t) {l:List AV} {n:Nat} (hl:dF s.hp x=some (l,n)) (hln:l.length=n) {t:List UInt8} (ht:bytesOf l=some t)
 {o:Oper} (ho:o.op = .convert src dst xo):bN C a.eval o ρ s.hp w ⟨.str t,s.hp,[]⟩:=by
 obtain⟨d,op,ty,pos,af,gd⟩:=o;simp only at ho;subst ho;refine bN.val (v':=.string ⟨t.toArray⟩) (w':=w) ?_ (gw r.mem (.str t));obtain⟨_,hf⟩:=kj (size:=1) r.mem hx hl (by omega);obtain⟨cs,h1,h2⟩:=hf n (Nat.le_refl _);rcases hx.NU hl with ⟨u,hu⟩|⟨ad,c,hx'⟩
 . exact absurd hu (hns u)
 . rw[hx']at h1;rw[Nat.mul_one,←hln,List.take_length]at h2;obtain⟨ns,rfl,rfl⟩:=xY l t cs ht h2;have hrun:(convert src dst (a.eval xo)).run C.P w = .ok (.string ⟨(ns.map fun n=>UInt8.ofNat n.toNat).toArray⟩) w:=by
    rw[hx'];rw[run_convert_bytes_string w src dst e ad n c hs he hd];cases ad with
    | none=>
     simp only[Builtin.firstCells,Sem.run_pure,Result.ok.injEq,and_true]at h1;have:ns=[]:=by
      cases ns with
      | nil=>rfl
      | cons _ _=>simp at h1
     subst this;rfl
    | some ad=>
     simp only[Builtin.firstCells,Nat.mul_one]at h1;rw[run_bytesToString w ad n c ns h1,fold_push];simp
   simp[execOp,hrun]
theorem Er (r:Rel C ρ s a w){t kt et ty:TypeId}{x:AV}{x':Value}(hu:C.P.underlying t=some (.map kt et))(hx:V ρ w x x'){n:Nat}(hn:x = .dL/\n=0\/∃b es,x = .map b/\s.hp.at b=some (.map es)/\es.length=n) :
 (Builtin.len_ #[t] ty #[x']).run C.P w = .ok (.int .i64 n) w:=by
 rcases hn with ⟨rfl,rfl⟩|⟨b,es,rfl,hb,rfl⟩
 . cases hx;simp[Builtin.len_,bC hu,goInt]
 . obtain⟨_,c,ms,clk,g1,g2,g3,_⟩:=xU r.mem hb;cases hx with
   | map hρ=>rw[hρ]at g1;cases g1;simp[Builtin.len_,bC hu,km g2,g3,goInt]
   | gr _ hρ=>rw[hρ]at g1;cases g1
theorem NW (r:Rel C ρ s a w){t u ty elem:TypeId}{n bb:Nat}(he:gU C.P t=some (elem,n,bb)){x y:AV}{x' y':Value}(hx:V ρ w x x')(hy:V ρ w y y')
 {src:List AV} {k:Nat} (hsrc:dF s.hp y=some (src,k)) (hl:src.length=k*n) (hone:src.all cw=true) {b off len:Nat} {cap:Option Nat} {l:List AV} {el:TypeId} (hxe:x = .sl b off len n cap) (hb:s.hp.at b=some (.cells l el))
 (hin:off+min k len*n<=l.length):∃w',(Builtin.copy_ #[t,u] ty #[x',y']).run C.P w = .ok (.int .i64 ((min k len:Nat):Int)) w'/\dP C.P C.gl ρ s.hp w ⟨.int .i64 ((min k len:Nat):Int),s.hp.put b (some (.cells (overwrite l off (src.take (min k len*n))) el)),[b]⟩ (.int .i64 ((min k len:Nat):Int)) w':=by
 subst hxe;obtain⟨i,hu,hi,rfl,rfl⟩:=kl he;obtain⟨h1,h2⟩:=kj r.mem hy hsrc hl;obtain⟨cs,h3,h4⟩:=h2 (min k len) (Nat.min_le_left _ _);obtain⟨h0,hbr⟩:=jN r.mem hb;have h3':(Builtin.firstCells i.size (Nat.min k len) y').run C.P w = .ok cs.toArray w:=h3;cases hx with
 | @sl _ c d _ _ _ capC _ hρ hlc hcap hs=>
  have hone':(src.take (min k len*i.size)).all cw=true:=by
   rw[List.all_eq_true]at hone ⊢;exact fun z hz=>hone z (List.mem_of_mem_take hz)
  have htl:(src.take (min k len*i.size)).length<=min k len*i.size:=by rw[List.length_take];exact Nat.min_le_left _ _
  obtain⟨w',g1,m1,x1⟩:=pR (off:=off) r.mem hb hρ h4 (by omega) (fun cs e fr hq=>by
   rcases hbr with ⟨c',d',cs',fr',q1,q2,q3,_⟩|⟨q1,_⟩
   . rw[hρ]at q1;cases q1;rw[hq]at q2;cases q2;have:=q3.1;omega
   . rw[hρ]at q1;cases q1) hone'
  refine⟨w',?_,ρ,.int _ _,m1,x1⟩;simp[Builtin.copy_,bC hu,h1,fV hi,h3',g1,goInt]
 | eC hρ=>
  rcases hbr with ⟨c',d',cs',fr',q1,q2,q3,_⟩|⟨q1,rfl⟩
  . rw[hρ]at q1;cases q1
  . have hz:min k 0=0:=Nat.min_zero _;refine⟨w,?_,ρ,.int _ _,?_,?_⟩
    . have h30:(Builtin.firstCells i.size 0 y').run C.P w = .ok cs.toArray w:=by rw[hz]at h3;exact h3
      simp[Builtin.copy_,bC hu,h1,fV hi,h30,goInt]
    . have:s.hp.put b (some (.cells (overwrite [] 0 (src.take (min k 0*i.size))) el))=s.hp:=by
       unfold ab.put overwrite;rw[hz];simp;apply List.ext_getElem?;intro j;rw[List.getElem?_set];split
       . rename_i e;subst e;rw[h0];have:=(List.getElem?_eq_some_iff.1 h0).1;simp[this]
       . rfl
      rw[this];exact r.mem
    . have:s.hp.put b (some (.cells (overwrite [] 0 (src.take (min k 0*i.size))) el))=s.hp:=by
       unfold ab.put overwrite;rw[hz];simp;apply List.ext_getElem?;intro j;rw[List.getElem?_set];split
       . rename_i e;subst e;rw[h0];have:=(List.getElem?_eq_some_iff.1 h0).1;simp[this]
       . rfl
      rw[this];exact Ext.refl _ _ _
 | dO _ _ hρ _ _=>rcases hbr.live with ⟨_,_,hl'⟩|hl'|hl' <;> (rw[hρ]at hl';cases hl')
 | eA hρ=>rcases hbr.live with ⟨_,_,hl'⟩|hl'|hl' <;> (rw[hρ]at hl';cases hl')
 | eE a hρ=>rcases hbr.live with ⟨_,_,hl'⟩|hl'|hl' <;> (rw[hρ]at hl';cases hl')
theorem Es {z:List AV}(hz:z.all cw=true):∀n,(fB z n).all cw=true
 | 0=>rfl
 | n+1=>by rw[fB,List.all_append,hz,Es hz n];rfl
theorem NX (r:Rel C ρ s a w){t ty elem:TypeId}{n bb:Nat}(he:gU C.P t=some (elem,n,bb)){z:List AV}(hz:(zeroOf C.P elem).bind AV.cells=some z)(hzn:z.length=n)(hone:z.all cw=true){x':Value}{b off len:Nat}{cap:Option Nat}{l:List AV}{el:TypeId}(hx:V ρ w (.sl b off len n cap) x')(hb:s.hp.at b=some (.cells l el))(hlen:0<len)
 (hin:off+len*n<=l.length):∃w',(Builtin.clear_ #[t] ty #[x']).run C.P w = .ok (.tuple #[]) w'/\dP C.P C.gl ρ s.hp w ⟨.aq [],s.hp.put b (some (.cells (overwrite l off (fB z len)) el)),[b]⟩ (.tuple #[]) w':=by
 obtain⟨i,hu,hi,rfl,rfl⟩:=kl he;obtain⟨i',zv,hi',hzv,hzl,hzrun⟩:=pS hz;rw[hi]at hi';cases hi';have hzs:zv.cells.size=i.size:=by rw[←hzn,(hzl ρ w).toList]
 have hrep:=xS (hzl ρ w) len;have hrl:=xT z len;rw[hzn]at hrl;obtain⟨h0,hbr⟩:=jN r.mem hb;cases hx with
 | @sl _ c d _ _ _ capC _ hρ hlc hcap hs=>
  obtain⟨w',g1,m1,x1⟩:=pR (off:=off) r.mem hb hρ hrep (by omega) (fun cs e fr hq=>by
   rcases hbr with ⟨c',d',cs',fr',q1,q2,q3,_⟩|⟨q1,_⟩
   . rw[hρ]at q1;cases q1;rw[hq]at q2;cases q2;have:=q3.1;omega
   . rw[hρ]at q1;cases q1) (Es hone len)
  refine⟨w',?_,ρ,.gI .nil,m1,x1⟩;obtain⟨m,rfl⟩:∃m,len=m+1:=⟨len-1,by omega⟩;simp only[Builtin.clear_];simp[bC hu,hzrun,Builtin.zeroCells];rw[Array.toList_map,Array.toList_range]at g1;rw[g1];rfl
 | eC hρ=>exact absurd hlen (Nat.lt_irrefl _)
 | dO _ _ hρ _ _=>rcases hbr.live with ⟨_,_,hl'⟩|hl'|hl' <;> (rw[hρ]at hl';cases hl')
 | eA hρ=>exact absurd hlen (Nat.lt_irrefl _)
 | eE a hρ=>exact absurd hlen (Nat.lt_irrefl _)
theorem Et {P:Program}{t ty:TypeId}(hu:P.underlying t=some (.slice e)){w:World}{a:Option Addr}{c:Nat}:(Builtin.clear_ #[t] ty #[.slice a 0 c]).run P w = .ok (.tuple #[]) w:=by
 cases a <;> simp[Builtin.clear_,bC hu]
theorem NY (r:Rel C ρ s a w){t u ty elem:TypeId}{n bb:Nat}(he:gU C.P t=some (elem,n,bb)){y:AV}{y':Value}(hy:V ρ w y y')
 {src:List AV} {k:Nat} (hsrc:dF s.hp y=some (src,k)) (hl:src.length=k*n):(Builtin.copy_ #[t,u] ty #[.slice none 0 0,y']).run C.P w = .ok (.int .i64 0) w:=by
 obtain⟨i,hu,hi,rfl,rfl⟩:=kl he;obtain⟨h1,h2⟩:=kj r.mem hy hsrc hl;obtain⟨cs,h3,h4⟩:=h2 0 (Nat.zero_le _);simp[Builtin.copy_,bC hu,h1,fV hi,h3,goInt]
theorem NZ (r:Rel C ρ s a w){t e:TypeId}{n:Nat}{i:TypeInfo}{xo:Operand}{lo hi:Option Operand}(hu:C.P.underlying t=some (.array n e))(hie:C.P.info? e=some i){b o:Nat}(hx:V ρ w (.ptr b o) (a.eval xo))
 {l:List AV} {el:TypeId} (hb:s.hp.at b=some (.cells l el)) (hin:o+n*i.size<=l.length) {la ha:Option AV} (hl:VO ρ w la (lo.map a.eval)) (hh:VO ρ w ha (hi.map a.eval)) {h' l':Nat} (h2:br ha n n=some h') (h3:br la 0 h'=some l')
 {op:Oper} (ho:op.op = .slice t xo lo hi none):bN C a.eval op ρ s.hp w ⟨if l'<n then .sl b (o+l'*i.size) (h'-l') i.size (some (n-l')) else .vs [] 0 (some 0),s.hp,[]⟩:=by
 obtain⟨d,opp,ty,pos,af,gd⟩:=op;simp only at ho;subst ho;obtain⟨h0,hbr⟩:=jN r.mem hb;generalize hxv:a.eval xo=xv at hx;cases hx with
 | @ptr _ c d _ hρ=>
  have hrun:=Nh (P:=C.P) (w:=w) (ρ:=ρ) hu hie (a:=⟨c,o+d,none⟩) hl hh h2 h3;have hh':=jM (Nat.le_refl _) h2;have hl':=jM (Nat.zero_le _) h3;refine bN.val (v':=_) (w':=w) (by simp[execOp,hxv];rw[hrun];rfl) (gw r.mem ?_);rcases hbr with ⟨c',d',cs,fr,q1,q2,q3,_⟩|⟨q1,_⟩
  . rw[hρ]at q1;cases q1;split
    . rename_i hlt;rw[if_neg (by omega)];have hmul:l'*i.size+(n-l')*i.size=n*i.size:=by rw[←Nat.add_mul];congr 1;omega
      have:(Addr.add ⟨c,o+d,none⟩ (l'*i.size))=⟨c,o+l'*i.size+d,none⟩:=by
       unfold Addr.add;split
       . rename_i hz;rw[hz];simp
       . simp;omega
      rw[this];exact .sl hρ (by omega) (by simp) ⟨cs,el,fr,q2,by have:=q3.1;omega⟩
    . rename_i hge;have e1:n=l':=by omega
      rw[if_pos e1];rw[show h'-l'=0 from by omega,show n-l'=0 from by omega];exact V.empty (by simp) (by rintro x ⟨⟩;exact .inl rfl) (by simp)
  . rw[hρ]at q1;cases q1
 | dy _ _ _ hρ=>rcases hbr.live with ⟨_,_,hl'⟩|hl'|hl' <;> (rw[hρ]at hl';cases hl')
theorem Oa {α:Type}(x:Array α)(y:α)(f:α->α):(x.push y).modify x.size f=x.push (f y):=by
 apply Array.ext_getElem?;intro i;rw[Array.getElem?_modify,Array.getElem?_push,Array.getElem?_push];by_cases h:i=x.size
 . subst h;simp
 . rw[if_neg (fun e=>h e.symm),if_neg h];simp[h]
theorem Ob (w:World)(e:TypeId)(s:ByteArray):Lib.bytesWorld w e s =
 { w with drawn:=w.drawn+1,heap:=w.heap.push (.cells (Lib.bytesCells w e s) e ((Lib.bytesCells w e s).size,(Lib.bytesCells w e s).size+1)) }:=by
 unfold Lib.bytesWorld World.freeze World.alloc World.drew;simp only[Oa];simp
theorem Oc (r:Rel C ρ s a w){src dst e:TypeId}{xo:Operand}(hs:C.P.underlying src=some .string)(hd:C.P.underlying dst=some (.slice e))(he:C.P.underlying e=some (.int .u8))(hne:¬iw C.P e=true)
 {t:List UInt8} (hx:V ρ w (.str t) (a.eval xo)) {o:Oper} (ho:o.op = .convert src dst xo) :
 bN C a.eval o ρ s.hp w ⟨.sl s.hp.length 0 t.length 1 none,s.hp++[some (.cells (t.map fun c=>.int .u8 c.toNat) e)],[]⟩:=by
 obtain⟨d,op,ty,pos,af,gd⟩:=o;simp only at ho;subst ho;have hrun:=Lib.run_convert_string_bytes (P:=C.P) w src dst e ⟨t.toArray⟩ hs hd he;rw[Ob]at hrun;have hge:=grownCap_ge w t.length 0 e;have hsz:(ByteArray.mk t.toArray).size=t.length:=by simp[ByteArray.size]
 have hcs:(Lib.bytesCells w e ⟨t.toArray⟩).size=grownCap w t.length 0 e:=by
  simp[Lib.bytesCells,hsz];omega
 have md:=r.mem.drew (w.drawn+1);have xd:=Ext.drew s.hp ρ w (w.drawn+1);have x:=Ext.alloc md (some (.cells (t.map fun c=>.int .u8 c.toNat) e)) (.cells (Lib.bytesCells w e ⟨t.toArray⟩) e ((Lib.bytesCells w e ⟨t.toArray⟩).size,(Lib.bytesCells w e ⟨t.toArray⟩).size+1)) (.live w.heap.size 0) (.inl ⟨0,rfl⟩);refine bN.val (v':=.slice (some ⟨w.heap.size,0,none⟩) t.length (grownCap w t.length 0 e))
  (w':={ w with drawn:=w.drawn+1,heap:=w.heap.push (.cells (Lib.bytesCells w e ⟨t.toArray⟩) e ((Lib.bytesCells w e ⟨t.toArray⟩).size,(Lib.bytesCells w e ⟨t.toArray⟩).size+1)) }) ?_
  ⟨ρ.dj s.hp.length (.live w.heap.size 0),?_,Mem.alloc md _ _ _ (.inl ⟨0,rfl⟩) ?_,xd.trans x⟩
 . have e1:a.eval xo = .string ⟨t.toArray⟩:=hx.iN;simp only[execOp,e1,Sem.run_bind,hrun,Result.andThen_ok,Sem.run_pure];rw[hsz]
 . exact .sl (d:=0) (au.dm _ _ _) hge (by simp) ⟨Lib.bytesCells w e ⟨t.toArray⟩,e,((Lib.bytesCells w e ⟨t.toArray⟩).size,(Lib.bytesCells w e ⟨t.toArray⟩).size+1),by simp,by rw[hcs];omega⟩
 . intro o' ho';cases ho';refine .inl ⟨w.heap.size,0,Lib.bytesCells w e ⟨t.toArray⟩,((Lib.bytesCells w e ⟨t.toArray⟩).size,(Lib.bytesCells w e ⟨t.toArray⟩).size+1),au.dm _ _ _,by simp,⟨by rw[List.length_map];omega,fun he=>absurd he hne⟩,fun i hi=>?_,fun i y z hy hz=>?_⟩
   . unfold World.frozen?;simp;omega
   . simp only[List.getElem?_map,Option.map_eq_some_iff]at hy;obtain⟨c,hc,rfl⟩:=hy;have hi:i<t.length:=(List.getElem?_eq_some_iff.1 hc).1;simp only[Lib.bytesCells,Nat.add_zero]at hz;rw[Array.getElem?_append_left (by simpa using hi)]at hz;simp[hc]at hz;subst hz;exact .int _ _
theorem pT (m:Mem P gl ρ h w){b o:Nat}{l:List AV}{e:TypeId}(hb:h.at b=some (.cells l e)){v:Value}(hx:V ρ w (.ptr b o) v) :
 ∃c d cs fr,v = .pointer (some ⟨c,o+d,none⟩)/\ρ b = .live c d/\w.heap[c]? = some (.cells cs e fr)/\Fits P e d l.length cs.size /\
  ∀(i:Nat) x y,l[i]? = some x->cs[i+d]? = some y->V ρ w x y:=by
 obtain⟨h0,hbr⟩:=jN m hb;cases hx with
 | @ptr _ c d _ hρ=>
  rcases hbr with ⟨c',d',cs,fr,q1,q2,q3,_,q5⟩|⟨q1,_⟩
  . rw[hρ]at q1;cases q1;exact⟨c,d,cs,fr,rfl,hρ,q2,q3,q5⟩
  . rw[hρ]at q1;cases q1
 | dy _ _ _ hρ=>rcases hbr.live with ⟨_,_,hl'⟩|hl'|hl' <;> (rw[hρ]at hl';cases hl')
theorem xZ {c:Nat}{cs:Array Value}{fr:Nat×Nat}(h:w.heap[c]? = some (.cells cs e fr)):w.shape? c=some (e,cs.size):=by
 simp[World.shape?,h]
theorem Od (r:Rel C ρ s a w){op:BinOp}{t:TypeId}{x y:Operand}{u ty:TypeId}{dst:Option Tmp}{pos:String}{af:Array Edge}{gd:Option (Nat×Bool)}(hcm:pI op=true)(ho:xu C.P t=true){b o:Nat}{l:List AV}{e:TypeId}(hx:V ρ w (.ptr b o) (a.eval x))(hy:V ρ w (.ptr b o) (a.eval y))
 (hb:s.hp.at b=some (.cells l e)) {op':Oper} (hop:op'=⟨dst,.binOp op t x y u,ty,pos,af,gd⟩) :
 bN C a.eval op' ρ s.hp w ⟨.bool (!(op == .neq)),s.hp,[]⟩:=by
 subst hop;unfold xu at ho;split at ho
 . rename_i te hu;obtain⟨j,hj⟩:∃j,C.P.info? te=some j:=by
    unfold iw at ho;split at ho
    . exact⟨_,‹_›⟩
    . cases ho
   obtain⟨c,d,cs,fr,e1,hρ,_⟩:=pT r.mem hb hx;obtain⟨c',d',cs',fr',e2,hρ',_⟩:=pT r.mem hb hy;rw[hρ]at hρ';cases hρ';have hE:(Op.equal t (a.eval x) (a.eval y)).run C.P w = .ok true w:=by
    rw[e1,e2];have h:∀d':Nat,(Op.equalIn (d'+1) t (.pointer (some ⟨c,o+d,none⟩)) (.pointer (some ⟨c,o+d,none⟩))).run C.P w = .ok true w:=fun d'=>by
     simp[Op.equalIn,bC hu,sizeOf,typeInfo,hj,run_sameAddr_same]
    exact h 9999
   have hg:(eqGuard op t x y (a.eval x) (a.eval y)).run C.P w = .ok () w:=by
    rw[e1,e2];exact pP (by rintro⟨h,_⟩;cases h) (by rintro _ _ ⟨h,_⟩;cases h)
   refine bN.val (v':=.bool (!(op == .neq))) (w':=w) ?_ (gw r.mem (.bool _));have hn:nf (a.eval x)=false:=by rw[e1];rfl
   cases op <;> simp only[pI,Bool.false_eq_true]at hcm
   . simp[execOp,hg,binOp_eql hn,hE]
   . simp[execOp,hg,binOp_neq hn,hE]
 . cases ho
theorem Oe (r:Rel C ρ s a w){src dst t:TypeId}{i:TypeInfo}{x:Operand}(hs:C.P.underlying src=some (.pointer t))(hd:C.P.underlying dst=some .unsafePointer)(hi:C.P.info? t=some i)(hsz:¬i.size=0)
 {b o:Nat} {l:List AV} {e:TypeId} (hx:V ρ w (.ptr b o) (a.eval x)) (hb:s.hp.at b=some (.cells l e)) (hin:o<l.length) {op:Oper} (ho:op.op = .convert src dst x) :
 bN C a.eval op ρ s.hp w ⟨.ptr b o,s.hp,[]⟩:=by
 obtain⟨dd,oo,ty,pos,af,gd⟩:=op;simp only at ho;subst ho;obtain⟨c,d,cs,fr,e1,hρ,h2,h3,_⟩:=pT r.mem hb hx;have hrun:=Lib.run_to_unsafe (P:=C.P) w (src:=src) (dst:=dst) ⟨c,o+d,none⟩ hs hd hi hsz (xZ h2) (by have:=h3.1;show o+d<cs.size;omega);exact bN.val (v':=a.eval x) (w':=w) (by rw[e1];simp[execOp,e1,hrun]) (gw r.mem hx)
theorem Of (r:Rel C ρ s a w){src dst u:TypeId}{i:TypeInfo}{x:Operand}(hs:C.P.underlying src=some .unsafePointer)(hd:C.P.underlying dst=some (.pointer u))(hi:C.P.info? u=some i)(hex:iw C.P u=true)
 (hlie:liesAt C.P C.P.depth u (C.P.cellsOf u/C.P.cellsOf u) 0 u 1=true) {b:Nat} {l:List AV} (hx:V ρ w (.ptr b 0) (a.eval x)) (hb:s.hp.at b=some (.cells l u)) (hl:l.length=C.P.cellsOf u) {op:Oper} (ho:op.op = .convert src dst x) :
 bN C a.eval op ρ s.hp w ⟨.ptr b 0,s.hp,[]⟩:=by
 obtain⟨dd,oo,ty,pos,af,gd⟩:=op;simp only at ho;subst ho;obtain⟨c,d,cs,fr,e1,hρ,h2,h3,_⟩:=pT r.mem hb hx;obtain⟨rfl,h4⟩:=h3.2 hex;have hrun:=Lib.run_from_unsafe (P:=C.P) w (src:=src) (dst:=dst) ⟨c,0+0,none⟩ hs hd hi (xZ h2) (by rw[←h4,hl];exact hlie);exact bN.val (v':=a.eval x) (w':=w) (by rw[e1];simp[execOp,e1,hrun]) (gw r.mem hx)
theorem Og (r:Rel C ρ s a w){t u ty:TypeId}{x n:Operand}{dst:Option Tmp}{pos:String}{af:Array Edge}{gd:Option (Nat×Bool)}{kk:IntKind}(hx:V ρ w .dE (a.eval x))(hn:V ρ w (.int kk 0) (a.eval n)) :
 bN C a.eval ⟨dst,.call ⟨.builtin .unsafeString,[x,n].toArray,[t,u].toArray⟩,ty,pos,af,gd⟩ ρ s.hp w ⟨.str [],s.hp,[]⟩:=by
 have e1:=hn.fG;generalize hxv:a.eval x=xv at hx;cases hx;refine bN.val (v':=.string .empty) (w':=w) ?_ (gw r.mem (V.str []));rw[fX];have hmax:IntKind.i64.max=9223372036854775807:=rfl;have hdef:Builtin.unsafeString_ [t,u].toArray ty #[.pointer none,.int kk 0] =
  (do
    let n ←asInt (.int kk 0)
    if n < 0 then runtimePanic (.error "unsafe.String: len out of range")
    if n > IntKind.i64.max then unsupported (.unsafePointer "String: a length above the largest int")
    if n=0 then pure (.string .empty)
    else runtimePanic (.error "unsafe.String: ptr is nil and len is not zero")) := rfl
 have hrun:(Builtin.unsafeString_ [t,u].toArray ty #[.pointer none,.int kk 0]).run C.P w = .ok (.string .empty) w:=by
  rw[hdef];simp[asInt,asIntOf,hmax]
 simp only[builtin,List.map_toArray,List.map_cons,List.map_nil,Sem.run_bind,hxv,e1,hrun];rfl
theorem Oh {P:Program}(hc:P.cellsOf e=1)(count off n:Nat)(hn:off+n<=count):liesAt P P.depth e count off e n=true:=by
 have hd:P.depth=(2*(P.types.size+Made.depth)+1)+1:=rfl;rw[hd];simp only[liesAt,Bool.or_eq_true];left;rw[hd];simp[rowAt,hc,hn,sameLayout,Nat.mod_one]
theorem Eu {P:Program}(w:World):∀(l:List Int) (a:Addr) (acc:ByteArray),(∀(j:Nat) x,l[j]? = some x->w.cell? (a.add j)=some (.int .u8 x)) ->
 (loadBytes a acc l.length).run P w = .ok ⟨acc.data++(l.map fun z=>UInt8.ofNat z.toNat).toArray⟩ w
 | [],a,acc,_=>by simp[loadBytes]
 | x::l,a,acc,h=>by
  have h0:w.cell? a=some (.int .u8 x):=by
   have:=h 0 x rfl;simpa[Addr.add] using this
  have ih:=Eu (P:=P) w l (a.add 1) (acc.push x.toNat.toUInt8) (fun j y hy=>by
   have:=h (j+1) y (by simpa using hy);have e:(a.add 1).add j=a.add (j+1):=by
    unfold Addr.add;by_cases hj:j=0
    . subst hj;simp
    . simp[hj];omega
   rw[e];exact this)
  simp only[List.length_cons,loadBytes,Sem.run_bind,run_load,h0,Result.andThen];rw[ih];congr 1;apply ByteArray.ext;simp[ByteArray.push]
theorem Oi {c o n:Nat}{cs:Array Value}{fr:Nat×Nat}(h:w.heap[c]? = some (.cells cs e fr))(hn:n≠0) :
 ∃fr',w.freeze ⟨c,o,none⟩ n=w.cP c (.cells cs e fr'):=by
 obtain⟨lo,hi⟩:=fr;have hlt:=(Array.getElem?_eq_some_iff.1 h).1;refine⟨if lo == hi then (o,o+n) else (min lo o,max hi (o+n)),?_⟩;unfold World.freeze World.cP;rw[if_neg hn];congr 1;apply Array.ext_getElem?;intro i;rw[Array.getElem?_modify,Array.getElem?_setIfInBounds];by_cases hi':c=i
 . subst hi';rw[if_pos rfl,if_pos rfl,h,if_pos hlt];rfl
 . rw[if_neg hi',if_neg hi']
theorem Oj (r:Rel C ρ s a w){t u ty e:TypeId}{x n:Operand}{dst:Option Tmp}{pos:String}{af:Array Edge}{gd:Option (Nat×Bool)}{kk:IntKind}{k:Int}(hu:C.P.underlying t=some (.pointer e))(hce:C.P.cellsOf e=1)
 {b o:Nat} (hx:V ρ w (.ptr b o) (a.eval x)) (hn:V ρ w (.int kk k) (a.eval n)) (hk:0<k) (hk':k<=2^46) {l:List AV} (hb:s.hp.at b=some (.cells l e)) {c:List AV} (hcut:cut l o k.toNat=some c) {t':List UInt8} (hbo:bytesOf c=some t') :
 bN C a.eval ⟨dst,.call ⟨.builtin .unsafeString,[x,n].toArray,[t,u].toArray⟩,ty,pos,af,gd⟩ ρ s.hp w ⟨.str t',s.hp.put b none,[b]⟩:=by
 obtain⟨h0,_⟩:=jN r.mem hb;obtain⟨cb,d,cs,fr,e1,hρ,h2,h3,h5⟩:=pT r.mem hb hx;have e2:=hn.fG;obtain⟨m,rfl⟩:=Int.eq_ofNat_of_zero_le (Int.le_of_lt hk);rw[Int.toNat_natCast]at hcut;unfold cut at hcut;simp only at hcut;split at hcut
 . rename_i hlen;cases hcut;have hm:o+m<=l.length:=by simp at hlen;omega
   have hm0:m≠0:=by omega
   have hsz:o+d+m<=cs.size:=by have:=h3.1;omega
   have hVL:VL ρ w ((l.drop o).take m) ((cs.toList.drop (o+d)).take m):=by
    refine⟨by simp;omega,fun i x y hx hy=>?_⟩;rw[List.getElem?_take]at hx hy;split at hx
    . rename_i hi;rw[if_pos hi,List.getElem?_drop]at hy;rw[List.getElem?_drop]at hx;refine h5 (o+i) x y hx ?_;rw[show o+i+d=o+d+i from by omega];simpa using hy
    . cases hx
   obtain⟨ns,hns,rfl⟩:=xY _ _ _ hbo hVL;have hnl:ns.length=m:=by
    have:=congrArg List.length hns;simp at this;omega
   have hcell:∀(j:Nat) z,ns[j]? = some z->w.cell? ((⟨cb,o+d,none⟩:Addr).add j)=some (.int .u8 z):=by
    intro j z hz;have hj:j<m:=by have:=(List.getElem?_eq_some_iff.1 hz).1;omega
    have h7:((cs.toList.drop (o+d)).take m)[j]? = some (.int .u8 z):=by rw[hns];simp[hz]
    rw[List.getElem?_take,if_pos hj,List.getElem?_drop]at h7;rw[Addr.fW];unfold World.cell?;simp only[h2];rw[if_neg (by simp)];simpa using h7
   have hlb:=Eu (P:=C.P) w ns ⟨cb,o+d,none⟩ .empty hcell;rw[hnl]at hlb;have hlie:=Oh (P:=C.P) hce (cs.size/C.P.cellsOf e) (o+d) m (by rw[hce,Nat.div_one];exact hsz);obtain⟨fr',hfr⟩:=Oi (o:=o+d) h2 hm0;have hrun:(Builtin.unsafeString_ [t,u].toArray ty #[.pointer (some ⟨cb,o+d,none⟩),.int kk m]).run C.P w = .ok (.string ⟨(ns.map fun z=>UInt8.ofNat z.toNat).toArray⟩) (w.cP cb (.cells cs e fr')):=by
    have hmax:IntKind.i64.max=9223372036854775807:=rfl;have h63:¬(9223372036854775807:Int)<(m:Int):=by omega
    have hneg:¬(m:Int)<0:=by omega
    have hdef:Builtin.unsafeString_ [t,u].toArray ty #[.pointer (some ⟨cb,o+d,none⟩),.int kk m] =
     (do
       let n ←asInt (.int kk m)
       if n < 0 then runtimePanic (.error "unsafe.String: len out of range")
       if n > IntKind.i64.max then unsupported (.unsafePointer "String: a length above the largest int")
       if n=0 then pure (.string .empty)
       else if ←variablesAt ⟨cb,o+d,none⟩ (←elemOf t) n.toNat then do
        let s ←loadBytes ⟨cb,o+d,none⟩ .empty n.toNat
        freeze ⟨cb,o+d,none⟩ n.toNat
        pure (.string s)
       else unsupported (.unsafePointer "String: not so many bytes at ptr")) := rfl
    rw[hdef];simp[asInt,asIntOf,hmax,h63,hneg,hm0,variablesAt,xZ h2,elemOf,bC hu,hlie,hlb,hfr]
   have hO:∀cs0 e0 fr0,w.heap[cb]? = some (.cells cs0 e0 fr0)->∃cs' fr'',Obj.cells cs e fr' = .cells cs' e0 fr''/\cs'.size=cs0.size:=by
    intro cs0 e0 fr0 hq;rw[h2]at hq;cases hq;exact⟨_,_,rfl,rfl⟩
   refine bN.val (v':=.string ⟨(ns.map fun z=>UInt8.ofNat z.toNat).toArray⟩) (w':=w.cP cb (.cells cs e fr')) ?_
    ⟨ρ,V.str _,Mem.write r.mem h0 hρ none _ hO (by rintro _ ⟨⟩),Ext.write r.mem h0 hρ none _ hO⟩
   rw[fX];simp only[builtin,List.map_toArray,List.map_cons,List.map_nil,Sem.run_bind,e1,e2,hrun];rfl
 . cases hcut
theorem Ok (r:Rel C ρ s a w){o:Oper}{io:aS}(hc:gV C o=some io)(hh:io.bh=true){q:HR}(hq:bg s io s.hp=some q):bN C a.eval o ρ s.hp w q:=by
 obtain⟨dst,op,ty,pos,af,gd⟩:=o;cases op <;> simp only[gV]at hc
 case move x=>simp only[Option.map_eq_some_iff]at hc;obtain⟨y,h1,rfl⟩:=hc;cases hh
 case assign x=>simp only[Option.map_eq_some_iff]at hc;obtain⟨y,h1,rfl⟩:=hc;cases hh
 case pick c x y=>split at hc <;> first|(cases hc;done)|(cases hc;cases hh)
 case nilCheck x=>simp only[Option.map_eq_some_iff]at hc;obtain⟨y,h1,rfl⟩:=hc;cases hh
 case unOp=>simp only[Option.map_eq_some_iff]at hc;obtain⟨y,h1,rfl⟩:=hc;cases hh
 case extract=>simp only[Option.map_eq_some_iff]at hc;obtain⟨y,h1,rfl⟩:=hc;cases hh
 case makeFunc=>
                  repeat' (first|(cases hc;done)|split at hc)
                  all_goals (cases hc;cases hh)
 case makeInterface=>split at hc <;> first|(cases hc;done)|(simp only[Option.map_eq_some_iff]at hc;obtain⟨y,h1,rfl⟩:=hc;cases hh)
 case build=>
               repeat' (first|(cases hc;done)|split at hc)
               all_goals (simp only[Option.map_eq_some_iff]at hc;obtain⟨y,h1,rfl⟩:=hc;cases hh)
 case binOp op t x y u=>
  split at hc
  . rename_i x' y' h1 h2;split at hc
    . split at hc
      . rename_i hcmp hown;cases hc;simp only[bg]at hq;split at hq
        . rename_i b o b' o' h3 h4;split at hq
          . rename_i l e hb;split at hq
            . rename_i hcond;obtain⟨rfl,rfl⟩:=hcond;cases hq;exact Od r (by simp only[Bool.and_eq_true,Bool.not_eq_true']at hcmp;exact hcmp.1) (by simp only[Bool.and_eq_true]at hown;exact hown.1) (r.aa h1 h3) (r.aa h2 h4) hb rfl
            . cases hq
          . cases hq
        . cases hq
      . split at hc
        . cases hc
        . simp only[Option.map_eq_some_iff]at hc;obtain⟨y,h1,rfl⟩:=hc;cases hh
    . cases hc;cases hh
  . cases hc
 case fieldAddr=>
                   repeat' (first|(cases hc;done)|split at hc)
                   all_goals (cases hc;cases hh)
 case field=>
               repeat' (first|(cases hc;done)|split at hc)
               all_goals (cases hc;cases hh)
 case indexAddr=>
                   repeat' (first|(cases hc;done)|split at hc)
                   all_goals (cases hc;cases hh)
 case index=>
               repeat' (first|(cases hc;done)|split at hc)
               all_goals (cases hc;cases hh)
 case alloc e=>
  split at hc
  . rename_i z hz;simp only[Option.map_eq_some_iff]at hc;obtain⟨zc,h1,rfl⟩:=hc;simp only[bg,Option.some.injEq]at hq;subst hq;exact NM r (by rw[hz];exact h1) rfl
  . cases hc
 case box e x=>
  split at hc
  . rename_i n ag x' hs hx;cases hc;simp only[bg]at hq;split at hq
    . rename_i l hl;split at hq
      . cases hq;simp only[Option.bind_eq_some_iff]at hl;obtain⟨v,h1,h2⟩:=hl;exact NL r (r.aa hx h1) h2 rfl
      . cases hq
    . cases hq
  . cases hc
 case buildSlice t len ps=>
  split at hc
  . rename_i e n bb he;split at hc
    . rename_i z l hz hl;split at hc
      . rename_i hcond;cases hc;simp only[bg]at hq;split at hq
        . rename_i vs hvs;split at hq
          . rename_i l' hl';split at hq
            . rename_i hlen;cases hq;exact NJ r he hz hl hcond.2.2 hcond.2.1 hcond.1 hvs hl' hlen rfl
            . cases hq
          . cases hq
        . cases hq
      . cases hc
    . cases hc
  . cases hc
 case load t x=>
  split at hc
  . rename_i n ag x' hs hx;cases hc;simp only[bg]at hq;split at hq
    . rename_i l hl;split at hq
      . rename_i v hv;cases hq;simp only[Option.bind_eq_some_iff]at hl;obtain⟨u,h1,h2⟩:=hl;exact NN r hs (r.aa hx h1) h2 hv rfl
      . cases hq
    . cases hq
  . cases hc
 case store t x y=>
  split at hc
  . rename_i n ag x' y' hs hx hy;cases hc;simp only[bg]at hq;split at hq
    . rename_i b off new h1 h2;split at hq
      . rename_i l el hb;split at hq
        . rename_i hcond;cases hq;simp only[Option.bind_eq_some_iff]at h2;obtain⟨u,h3,h4⟩:=h2;exact NO r hs (r.aa hx h1) (r.aa hy h3) h4 hb hcond.1 hcond.2.1 hcond.2.2 rfl
        . cases hq
      . cases hq
    . cases hq
  . cases hc
 case convert src dst x=>
  split at hc <;> try (cases hc;done)
  . cases hc;cases hh
  . cases hc;cases hh
  . cases hc;cases hh
  . rename_i e x' hs hd hx;split at hc
    . rename_i he;split at hc
      . cases hc
      . rename_i hne;cases hc;simp only[bg]at hq;split at hq
        . rename_i t h1;cases hq;exact Oc r hs hd he hne (r.aa hx h1) rfl
        . cases hq
    . cases hc
  . rename_i e x' hs hd hx;split at hc
    . rename_i he;cases hc;simp only[bg]at hq;split at hq
      . cases hq
      . rename_i y hns h1;split at hq
        . rename_i l n hl;split at hq
          . rename_i hln;split at hq
            . rename_i t ht;cases hq;exact NV r hs hd he (r.aa hx h1) (fun t e=>hns t e) hl hln ht rfl
            . cases hq
          . cases hq
        . cases hq
      . cases hq
    . cases hc
  . rename_i t x' hs hd hx;split at hc
    . rename_i i hi;split at hc
      . cases hc
      . rename_i hsz;cases hc;simp only[bg]at hq;split at hq
        . rename_i b o h1;split at hq
          . rename_i l e hb;split at hq
            . rename_i hcond;cases hq;exact Oe r hs hd hi hsz (r.aa hx h1) hb hcond.1 rfl
            . cases hq
          . cases hq
        . cases hq
    . cases hc
  . rename_i u x' hs hd hx;split at hc
    . rename_i i hi;split at hc
      . rename_i hlie;cases hc;simp only[bg]at hq;split at hq
        . rename_i b o h1;split at hq
          . rename_i l e hb;split at hq
            . rename_i hcond;cases hq;simp only[decide_eq_true_eq]at hcond;obtain⟨_,rfl,rfl,hl⟩:=hcond;simp only[Bool.and_eq_true]at hlie;exact Of r hs hd hi hlie.1 hlie.2 (r.aa hx h1) hb hl rfl
            . cases hq
          . cases hq
        . cases hq
      . cases hc
    . cases hc
 case makeMap t res=>
  cases res with
  | some _=>cases hc
  | none=>
   cases hc;simp only[bg,Option.some.injEq]at hq;subst hq;exact NR r rfl
 case makeSlice t l c=>
  split at hc
  . rename_i e n bb l' c' he hl hcc;split at hc
    . rename_i z hz;split at hc
      . rename_i hcond;cases hc;simp only[bg]at hq;split at hq
        . rename_i x y h1 h2;split at hq
          . rename_i hk;cases hq;simp only[Option.bind_eq_some_iff]at h1 h2;obtain⟨u,h3,h4⟩:=h1;obtain⟨u',h5,h6⟩:=h2;cases u <;> simp only[pq,reduceCtorEq,Option.some.injEq]at h4;cases u' <;> simp only[pq,reduceCtorEq,Option.some.injEq]at h6;subst h4;subst h6;exact NK r he hz hcond.1 hcond.2 (r.aa hl h3).fG (r.aa hcc h5).fG hk.1 hk.2.1 hk.2.2.1 hk.2.2.2.1 rfl
          . cases hq
        . cases hq
      . cases hc
    . cases hc
  . cases hc
 case slice t x lo hi mx=>
  split at hc <;> try (cases hc;done)
  . cases hc;cases hh
  . split at hc
    . cases hc;cases hh
    . cases hc
  . rename_i n e x' l' h' hu hx hlo hhi hmx;split at hc
    . rename_i i hi';cases hc;have hmx0:mx=none:=by
       cases mx with
       | none=>rfl
       | some m=>simp[ke]at hmx
      subst hmx0;simp only[bg]at hq;split at hq
      . rename_i b o la ha h1 h2 h3;split at hq
        . rename_i l el hb;split at hq
          . rename_i hin;split at hq
            . rename_i hb' hbb;split at hq
              . rename_i ll hll;cases hq;exact NZ r hu hi' (r.aa hx h1) hb hin (lH r hlo h2) (lH r hhi h3) hbb hll rfl
              . cases hq
            . cases hq
          . cases hq
        . cases hq
      . cases hq
    . cases hc
 case lookup t x i ok=>
  split at hc
  . rename_i kt et x' i' hu hx hi;split at hc
    . rename_i k z hk hz;cases hc;simp only[bg]at hq;split at hq
      . rename_i m kv h1 h2;split at hq
        . rename_i ba;split at hq
          . rename_i es hes;split at hq
            . rename_i q' hf;cases hq;have hes':m = .dL/\es=[]\/∃b,m = .map b/\s.hp.at b=some (.map es):=by
               split at hes
               . cases hes;exact .inl ⟨rfl,rfl⟩
               . split at hes
                 . rename_i b _ es' hb;cases hes;exact .inr ⟨b,rfl,hb⟩
                 . cases hes
               . cases hes
              have:=NQ r hu hk hz (r.aa hx h1) (r.aa hi h2) ba hes' hf (ok:=ok) (o:=⟨dst,.lookup t x i ok,ty,pos,af,gd⟩) rfl;cases q' <;> exact this
            . cases hq
          . cases hq
        . cases hq
      . cases hq
    . cases hc
  . cases hc
 case mapUpdate t m i x=>
  split at hc
  . rename_i kt et m' i' x' hu hm hi hx;simp only[Option.map_eq_some_iff]at hc;obtain⟨k,hk,rfl⟩:=hc;simp only[bg]at hq;split at hq
    . rename_i b kv v h1 h2 h3;split at hq
      . rename_i ba;split at hq
        . rename_i es hb;split at hq
          . rename_i j u hf;cases hq;exact sN r hu hk (r.aa hm h1) (r.aa hi h2) (r.aa hx h3) ba hb hf (.inl rfl)
          . rename_i hf;cases hq;exact sN r hu hk (r.aa hm h1) (r.aa hi h2) (r.aa hx h3) ba hb hf (.inl rfl)
          . cases hq
        . cases hq
      . cases hq
    . cases hq
  . cases hc
 case insert t m i x=>
  split at hc
  . rename_i kt et m' i' x' hu hm hi hx;simp only[Option.map_eq_some_iff]at hc;obtain⟨k,hk,rfl⟩:=hc;simp only[bg]at hq;split at hq
    . rename_i b kv v h1 h2 h3;split at hq
      . rename_i ba;split at hq
        . rename_i es hb;split at hq
          . rename_i j u hf;cases hq;exact sN r hu hk (r.aa hm h1) (r.aa hi h2) (r.aa hx h3) ba hb hf (.inr rfl)
          . rename_i hf;cases hq;exact sN r hu hk (r.aa hm h1) (r.aa hi h2) (r.aa hx h3) ba hb hf (.inr rfl)
          . cases hq
        . cases hq
      . cases hq
    . cases hq
  . cases hc
 case range t x=>
  split at hc
  . rename_i x' hu hx;cases hc;simp only[bg]at hq;split at hq
    . rename_i u h1;cases hq;exact NS r hu (r.aa hx h1) rfl
    . cases hq
  . cases hc
 case next x st=>
  cases st with
  | false=>cases hc
  | true=>
   simp only[Option.map_eq_some_iff]at hc;obtain⟨x',hx,rfl⟩:=hc;simp only[bg]at hq;split at hq
   . rename_i b h1;split at hq
     . rename_i t pos hb;have:=NT r (r.aa hx h1) hb (o:=⟨dst,.next x true,ty,‹String›,af,gd⟩) rfl;split at hq
       . rename_i hp;cases hq;rw[if_pos hp]at this;exact this
       . rename_i hp;cases hq;rw[if_neg hp]at this;exact this
     . cases hq
   . cases hq
 case call c=>
  obtain⟨callee,args,ats⟩:=c;cases callee with
  | value f=>
   simp only at hc;split at hc
   . cases hc;simp[bg]at hq
   . cases hc
  | invoke x name=>
   simp only at hc;split at hc
   . cases hc;simp[bg]at hq
   . cases hc
  | builtin b=>
   simp only at hc;split at hc <;> try (cases hc;done)
   . rename_i t x h1 h2;obtain rfl:=gu h1;obtain⟨x0,hx0,h3⟩:=nh h2;obtain rfl:=gu hx0;split at hc
     . cases hc;cases hh
     . rename_i kt et hu;cases hc;simp only[bg]at hq;split at hq
       . rename_i b' h4;split at hq
         . rename_i es he;cases hq;have hl:=Er r hu (ty:=ty) (r.aa h3 h4) (.inr ⟨b',es,rfl,he,rfl⟩);refine bN.val (v':=.int .i64 es.length) (w':=w) ?_ (gw r.mem (.int _ _));rw[fX];simp[builtin,hl]
         . cases hq
       . rename_i h4;cases hq;have hl:=Er r hu (ty:=ty) (r.aa h3 h4) (.inl ⟨rfl,rfl⟩);refine bN.val (v':=.int .i64 0) (w':=w) ?_ (gw r.mem (.int _ _));rw[fX];simp only[builtin,List.map_toArray,List.map_cons,List.map_nil,Sem.run_bind,hl];rfl
       . cases hq
     . cases hc;cases hh
     . cases hc;cases hh
     . cases hc
   . split at hc <;> first|(cases hc;done)|(cases hc;cases hh)
   . rename_i t u x y h1 h2;obtain rfl:=gu h1;obtain⟨x0,x1,hx0,h3,h4⟩:=xL h2;obtain rfl:=gu hx0;have fin:∀e n bb,gU C.P t=some (e,n,bb)->((∃e,C.P.underlying u=some (.slice e))\/C.P.underlying u=some .string)->sv C.P e n=true->iw C.P e=false->io = .append e n bb x y ->
      bN C a.eval ⟨dst,.call ⟨.builtin .append,[x0,x1].toArray,[t,u].toArray⟩,ty,pos,af,gd⟩ ρ s.hp w q:=by
      rintro e n bb he hu hzf hne rfl;simp only[bg]at hq;split at hq
      . rename_i xa ya hx hy;obtain⟨i,hu0,hi,rfl,rfl⟩:=kl he;unfold sv at hzf;split at hzf
        . rename_i z hz;obtain⟨i',zv,hi',hzv,hzl,_⟩:=pS hz;rw[hi]at hi';cases hi';have hzs:zv.cells.size=i.size:=by
           have e1:=(hzl ρ w).toList;rw[←e1];simpa using hzf
          obtain⟨v',w',g1,g2⟩:=NI (ty:=ty) r.mem ⟨hu0,hu,hi,hzv,hzs⟩ (r.aa h3 hx) (r.aa h4 hy) hne hq;refine bN.val (v':=v') (w':=w') ?_ g2;rw[fX];simp[builtin,g1]
        . cases hzf
      . cases hq
     split at hc <;> try (cases hc;done)
     . rename_i e n bb he hu;split at hc
       . rename_i hcond;cases hc;exact fin _ _ _ he (.inr hu) hcond.2.1 hcond.2.2 rfl
       . cases hc
     . rename_i e n bb e' he hu;split at hc
       . rename_i hcond;cases hc;exact fin _ _ _ he (.inl ⟨_,hu⟩) hcond.2.1 hcond.2.2 rfl
       . cases hc
   . rename_i t u x y h1 h2;obtain rfl:=gu h1;obtain⟨x0,x1,hx0,h3,h4⟩:=xL h2;obtain rfl:=gu hx0;split at hc <;> try (cases hc;done)
     rename_i e n bb he;split at hc <;> try (cases hc;done)
     rename_i hn0;cases hc;simp only[bg]at hq;split at hq <;> try (cases hq;done)
     . rename_i b off len e' cap ya hx hy;split at hq <;> try (cases hq;done)
       rename_i src k hsrc;split at hq <;> try (cases hq;done)
       rename_i hcond;obtain⟨rfl,hl,hone⟩:=hcond;split at hq <;> try (cases hq;done)
       rename_i l el hb;split at hq <;> try (cases hq;done)
       rename_i hin;cases hq;obtain⟨w',g1,g2⟩:=NW (u:=u) (ty:=ty) r he (r.aa h3 hx) (r.aa h4 hy) hsrc hl hone rfl hb hin;refine bN.val (v':=.int .i64 ((min k len:Nat):Int)) (w':=w') ?_ g2;rw[fX];simp only[builtin,List.map_toArray,List.map_cons,List.map_nil,Sem.run_bind,g1];rfl
     . rename_i ya hx hy;split at hq <;> try (cases hq;done)
       rename_i src k hsrc;split at hq <;> try (cases hq;done)
       rename_i hl;cases hq;have e0:=(r.aa h3 hx);generalize hxv:a.eval x0=xv at e0;cases e0;have g1:=NY (u:=u) (ty:=ty) r he (r.aa h4 hy) hsrc hl;refine bN.val (v':=.int .i64 0) (w':=w) ?_ (gw r.mem (.int _ _));rw[fX];simp only[builtin,List.map_toArray,List.map_cons,List.map_nil,Sem.run_bind,hxv,g1];rfl
   . rename_i t x h1 h2;obtain rfl:=gu h1;obtain⟨x0,hx0,h3⟩:=nh h2;obtain rfl:=gu hx0;split at hc <;> try (cases hc;done)
     rename_i e n bb he;split at hc <;> try (cases hc;done)
     rename_i z hz;split at hc <;> try (cases hc;done)
     rename_i hzn;cases hc;simp only[bg]at hq;split at hq <;> try (cases hq;done)
     . rename_i b off len e' cap hx;split at hq <;> try (cases hq;done)
       rename_i hcond;obtain⟨rfl,hone,_,hlen⟩:=hcond;split at hq <;> try (cases hq;done)
       rename_i l el hb;split at hq <;> try (cases hq;done)
       rename_i hin;cases hq;obtain⟨w',g1,g2⟩:=NX (ty:=ty) r he hz hzn.1 hone (r.aa h3 hx) hb hlen hin;refine bN.val (v':=.tuple #[]) (w':=w') ?_ g2;rw[fX];simp only[builtin,List.map_toArray,List.map_cons,List.map_nil,Sem.run_bind,g1];rfl
     . rename_i cap hx;cases hq;obtain⟨i,hu,_⟩:=kl he;have e0:=r.aa h3 hx;generalize hxv:a.eval x0=xv at e0;have g1:(Builtin.clear_ #[t] ty #[xv]).run C.P w = .ok (.tuple #[]) w:=by
        cases e0 <;> exact Et hu
       refine bN.val (v':=.tuple #[]) (w':=w) ?_ (gw r.mem (.gI .nil));rw[fX];simp only[builtin,List.map_toArray,List.map_cons,List.map_nil,Sem.run_bind,hxv,g1];rfl
     . rename_i hx;cases hq;obtain⟨i,hu,_⟩:=kl he;have e0:=r.aa h3 hx;generalize hxv:a.eval x0=xv at e0;have g1:(Builtin.clear_ #[t] ty #[xv]).run C.P w = .ok (.tuple #[]) w:=by
        cases e0 <;> exact Et hu
       refine bN.val (v':=.tuple #[]) (w':=w) ?_ (gw r.mem (.gI .nil));rw[fX];simp only[builtin,List.map_toArray,List.map_cons,List.map_nil,Sem.run_bind,hxv,g1];rfl
   . split at hc <;> first|(cases hc;done)|(cases hc;cases hh)
   . rename_i t u x n h1 h2;obtain rfl:=gu h1;obtain⟨x0,x1,hx0,h3,h4⟩:=xL h2;obtain rfl:=gu hx0;split at hc <;> try (cases hc;done)
     rename_i e hu;split at hc <;> try (cases hc;done)
     rename_i hce;cases hc;simp only[bg]at hq;split at hq <;> try (cases hq;done)
     . rename_i kk k h5 h6;split at hq <;> try (cases hq;done)
       rename_i hk;subst hk;cases hq;exact Og r (r.aa h3 h5) (r.aa h4 h6)
     . rename_i b o kk k h5 h6;split at hq <;> try (cases hq;done)
       rename_i hk;split at hq <;> try (cases hq;done)
       rename_i l el hb;split at hq <;> try (cases hq;done)
       rename_i hel;subst hel;split at hq <;> try (cases hq;done)
       rename_i c hcut;split at hq <;> try (cases hq;done)
       rename_i t' hbo;cases hq;exact Oj r hu hce (r.aa h3 h5) (r.aa h4 h6) hk.1 hk.2 hb hcut hbo
   . cases hc;cases hh
   . cases hc;cases hh
 case typeAssert x xt t ok=>
  split at hc
  . cases hc
  . split at hc
    . cases hc;cases hh
    . cases hc
  . cases hc
 all_goals (cases hc)
end Go.Ab
namespace Go.Ab
variable {P:Program} {gl:Nat->Option AV} {ρ:au} {w:World} {h:ab} {C:Cx} {s:St} {a:Act}
def FR (ro:Option Nat):Fence:={ fn:=fun _=>True,depth:=none,alive:=false,round:=ro }
def iy (P:Program)(nx:Next)(w1:World)(R:Value->World->Prop):Prop:=
 match nx with
 | .value v=>R v w1
 | .enter f args=>CallsIn Fence.wide 0 P f args w1 fun
   | .returned v,w'=>R v w'
   | _,_=>False
 | .round l f tmps as bd=>RoundIn Fence.wide 0 P l f tmps as bd w1 fun
   | .returned v,w'=>R v w'
   | _,_=>False
 | _=>False
def lJ (g':Value)(as':Array Value):Sem Next:=do
 let d ←Deferred.ofValue g' as'
 invoke d.target d.args
def eM (h:ab)(r:HR):Prop:=h.length<=r.h.length/\∀b,b<h.length->b∉r.wr->r.h[b]? = h[b]?
structure kp (P:Program)(gl:Nat->Option AV)(call:du):Prop where
 wr:∀g as h r,call g as h=some r->eM h r
 ok:∀g as h r,call g as h=some r->∀ρ w g' (as':List Value),Mem P gl ρ h w->V ρ w g g'->VL ρ w as as' ->
  ∃nx w1,(lJ g' as'.toArray).run P w = .ok nx w1/\iy P nx w1 fun v w'=>dP P gl ρ h w r v w'
theorem Ev {ro:Option Nat}{o:Oper}{a:Act}{next:Act->World->Prop}{Q:Exit->Act->World->Prop}{nx:Next}{w1:World}{R:Value->World->Prop}
 (h:iy P nx w1 R) (hn:∀v w',R v w'->next (a.put o.dst v) w'):o.uponIn (FR ro) 0 P a next Q (.ok nx w1):=by
 cases nx <;> simp only[iy]at h
 case value v=>exact hn _ _ h
 case enter f args=>
  refine⟨fun hd=>(by cases hd),CallsIn.mono (F:=Fence.wide) (n:=0) h ?_⟩;intro e w' he;cases e with
  | returned v=>exact hn _ _ he
  | panicked _=>exact he.elim
  | outgrown=>exact he.elim
 case round l f tmps as bd=>
  refine⟨fun hd=>(by cases hd),RoundIn.mono (F:=Fence.wide) (n:=0) h ?_⟩;intro e w' he;cases e with
  | returned v=>exact hn _ _ he
  | panicked _=>exact he.elim
  | outgrown=>exact he.elim
theorem Ol {t:TypeId}{name:String}{f:FuncId}(h:dY P t name=some f)(n:Nat)(v:Value):(method (n+1) t v name).run P w = .ok (f,v) w:=by
 unfold dY at h;split at h
 . rename_i i u hi hu;split at h
   . rename_i m hm;rw[Array.find?_toList]at hm;split at h
     . rename_i f' ptr hf hp;have hp':m.path.isEmpty=true:=by
        cases hq:m.path with|mk l=>rw[hq]at hp;simp at hp;subst hp;rfl
       unfold method;simp only[Sem.run_bind,sD hi,Result.andThen_ok,hm,hp,follow,Sem.run_pure,hf];split at h
       . rename_i e;cases h;simp[receiverAt,bC hu,Place.get]
       . cases h
       . rename_i hne;cases h;unfold receiverAt;cases u <;> first|(exact absurd rfl (hne _))|simp[bC hu,Place.get]
       . cases h
     . cases h
   . cases h
 . cases h
theorem Om (n:Nat):∃k,n+Made.depth=k+1:=by
 have:0<Made.depth:=by decide
 exact⟨n+Made.depth-1,by omega⟩
theorem Ew (f:FuncId)(args:Array Value)(R:Value->World->Prop):(∃nx w1,(lJ (.func (.func f) #[] #[]) args).run P w = .ok nx w1/\iy P nx w1 R)->∃nx w1,(callFunc f args).run P w = .ok nx w1/\iy P nx w1 R:=by
 rintro⟨nx,w1,h1,h2⟩;refine⟨nx,w1,?_,h2⟩;simpa[lJ,Deferred.ofValue,invoke] using h1
theorem Ey {call:du}(hcall:kp C.P C.gl call)(r:Rel C ρ s a w){o:Oper}{io:aS}(hc:gV C o=some io){q:HR}(hq:bw call (dY C.P) s io=some q){ro:Option Nat}
 {next:Act->World->Prop} {Q:Exit->Act->World->Prop} (hn:∀v' w',dP C.P C.gl ρ s.hp w q v' w'->next (a.put o.dst v') w'):o.wpIn (FR ro) 0 C.P a w next Q:=by
 refine⟨fun _ _=>trivial,?_⟩;have hnd:∀c,o.op≠.defer c:=by
  intro c hd;unfold gV at hc;rw[hd]at hc;cases hc
 rw[Oper.semAt_eq _ _ _ hnd];by_cases hcl:(∃f args,io = .call f args)\/∃x name args,io = .invoke x name args
 . obtain⟨dst,op,ty,pos,af,gd⟩:=o;cases op
   case call c=>
    obtain⟨callee,args,ats⟩:=c;cases callee with
    | value f=>
     simp only[gV]at hc;split at hc
     . rename_i f' as' h1 h2;cases hc;simp only[bw]at hq;split at hq
       . rename_i g as h3 h4;obtain⟨nx,w1,h5,h6⟩:=hcall.ok _ _ _ _ hq ρ w _ _ r.mem (r.aa h1 h3) (r.bY h2 h4);have he:(execOp a.eval ⟨dst,.call ⟨.value f,args,ats⟩,ty,pos,af,gd⟩).run C.P w = .ok nx w1:=by
          have e2:args.map a.eval=(args.toList.map a.eval).toArray:=by rw[←Array.toList_map,Array.toArray_toList]
          simp only[execOp,resolve,e2];exact h5
         rw[he];exact Ev h6 hn
       . cases hq
     . cases hc
    | invoke x name=>
     simp only[gV]at hc;split at hc
     . rename_i x' as' h1 h2;cases hc;simp only[bw]at hq;split at hq
       . rename_i t v as h3 h4;split at hq
         . rename_i f hf;have e1:=r.aa h1 h3;generalize hxv:a.eval x=xv at e1;cases e1 with
           | @iface _ _ v' hv=>
            have e2:args.map a.eval=(args.toList.map a.eval).toArray:=by rw[←Array.toList_map,Array.toArray_toList]
            obtain⟨nx,w1,h5,h6⟩:=hcall.ok _ _ _ _ hq ρ w (.func (.func f) #[] #[]) (v'::args.toList.map a.eval) r.mem (.fn (fi':=[]) (ca':=[]) (by simp) rfl rfl (by simp) (by simp)) (.cons hv (r.bY h2 h4));obtain⟨nx',w1',h7,h8⟩:=Ew f _ _ ⟨nx,w1,h5,h6⟩;have he:(execOp a.eval ⟨dst,.call ⟨.invoke x name,args,ats⟩,ty,pos,af,gd⟩).run C.P w = .ok nx' w1':=by
             obtain⟨k,hk⟩:=Om C.P.types.size;have hm:=Ol (P:=C.P) (w:=w) hf k v';rw[←hk]at hm;have e3:(#[v']++(args.toList.map a.eval).toArray:Array Value)=(v'::args.toList.map a.eval).toArray:=by simp
             have e4:((#[Value.iface t v']++(args.toList.map a.eval).toArray:Array Value)).extract 1 (#[Value.iface t v']++(args.toList.map a.eval).toArray).size=(args.toList.map a.eval).toArray:=by
              simp;exact List.take_of_length_le (by simp)
             have e5:(#[Value.iface t v']++(args.toList.map a.eval).toArray:Array Value)[0]? = some (.iface t v'):=by simp
             simp only[execOp,resolve,e2,hxv,Sem.run_bind,Sem.run_pure,Result.andThen_ok,invoke];rw[e4,e5];simp only[callMethod,Sem.run_bind,run_program,Result.andThen_ok,hm,e3];exact h7
            rw[he];exact Ev h8 hn
         . cases hq
       . cases hq
     . cases hc
    | builtin b=>
     exfalso;simp only[gV]at hc;repeat' (first|(cases hc;done)|split at hc)
     all_goals (cases hc;rcases hcl with ⟨_,_,h⟩|⟨_,_,_,h⟩ <;> cases h)
   case makeMap t res=>
    exfalso;cases res with
    | some _=>cases hc
    | none=>cases hc;rcases hcl with ⟨_,_,h⟩|⟨_,_,_,h⟩ <;> cases h
   case next x st=>
    exfalso;cases st with
    | false=>cases hc
    | true=>
     simp only[gV,Option.map_eq_some_iff]at hc;obtain⟨_,_,rfl⟩:=hc;rcases hcl with ⟨_,_,h⟩|⟨_,_,_,h⟩ <;> cases h
   all_goals
    exfalso;simp only[gV]at hc;repeat' (first|(cases hc;done)|split at hc)
    all_goals first
     | (cases hc;rcases hcl with ⟨_,_,h⟩|⟨_,_,_,h⟩ <;> cases h;done)
     | (simp only[Option.map_eq_some_iff]at hc;obtain⟨_,_,rfl⟩:=hc;rcases hcl with ⟨_,_,h⟩|⟨_,_,_,h⟩ <;> cases h)
 . have hq':(if io.bh then bg s io s.hp else (aP s io).map fun v=>⟨v,s.hp,[]⟩)=some q:=by
    cases io <;> first|exact hq|(exfalso;exact hcl (.inl ⟨_,_,rfl⟩))|(exfalso;exact hcl (.inr ⟨_,_,_,rfl⟩))
   split at hq'
   . rename_i hh;obtain⟨v',w',h1,h2⟩:=Ok r hc hh hq';rcases h1 with h1|⟨h1,rfl⟩
     . rw[h1];exact hn _ _ h2
     . rw[h1];exact hn _ _ h2
   . rename_i hh;simp only[Option.map_eq_some_iff]at hq';obtain⟨v,h1,rfl⟩:=hq';obtain⟨v',h2,h3⟩:=Nt r hc (by simpa using hh) h1;rw[h2];exact hn _ _ (gw r.mem h3)
theorem jn {x:Array Value}{t u:Nat}{v d:Value}:(x.setIfInBounds t v).getD u d=if u=t/\t<x.size then v else x.getD u d:=by
 simp only[Array.getD_eq_getD_getElem?,Array.getElem?_setIfInBounds];by_cases h:t=u
 . subst h;by_cases hs:t<x.size
   . simp[hs]
   . simp[hs]
 . simp[h,Ne.symm h]
theorem yb {er:ER C ρ w s.pe s.lo a.tmps}{dst:Option Tmp}{d:dU}(hd:jj C dst=some d){x:AV}{v:Value}(hv:V ρ w x v)(h:ab) :
 ER C ρ w ({ s.put d x with hp:=h }:St).pe ({ s.put d x with hp:=h }:St).lo (a.put dst v).tmps:=by
 cases dst with
 | none=>cases hd;exact er
 | some t=>
  simp only[jj]at hd;split at hd
  . rename_i hlt;split at hd
    . rename_i i hi;cases hd;have hti:=sB hi;refine⟨by simp[Act.put,er.size],er.nodup,er.lt,by simpa[St.put] using er.jk,fun j y u h1 h2=>?_,fun u y h1=>?_⟩
      . simp only[St.put,List.getElem?_set]at h1;simp only[Act.put,jn];by_cases hij:i=j
        . subst hij;rw[if_pos rfl]at h1;rw[hti]at h2;cases h2;split at h1
          . cases h1;rw[if_pos ⟨rfl,by rw[er.size];exact hlt⟩];exact hv
          . cases h1
        . rw[if_neg hij]at h1;have:u≠t:=fun e=>by
           subst e;exact hij ((List.getElem?_inj (List.getElem?_eq_some_iff.1 hti).1 er.nodup).1 (hti.trans h2.symm))
          rw[if_neg (fun e=>this e.1)];exact er.pe j y u h1 h2
      . simp only[St.put]at h1;obtain⟨g1,g2,g3⟩:=er.lo u y h1;refine⟨g1,g2,?_⟩;simp only[Act.put,jn];have:u≠t:=fun e=>by subst e;exact g2 (List.mem_of_getElem? hti)
        rw[if_neg (fun e=>this e.1)];exact g3
    . rename_i hi;cases hd;have hnt:=sC hi;refine⟨by simp[Act.put,er.size],er.nodup,er.lt,by simpa[St.put] using er.jk,fun j y u h1 h2=>?_,fun u y h1=>?_⟩
      . simp only[St.put]at h1;simp only[Act.put,jn];have:u≠t:=fun e=>by subst e;exact hnt (List.mem_of_getElem? h2)
        rw[if_neg (fun e=>this e.1)];exact er.pe j y u h1 h2
      . simp only[St.put,List.lookup_cons]at h1;simp only[Act.put,jn];split at h1
        . rename_i e;simp only[beq_iff_eq]at e;subst e;cases h1;exact⟨hlt,hnt,by rw[if_pos ⟨rfl,by rw[er.size];exact hlt⟩];exact hv⟩
        . rename_i e;simp only[beq_eq_false_iff_ne]at e;obtain⟨g1,g2,g3⟩:=er.lo u y h1;exact⟨g1,g2,by rw[if_neg (fun x=>e x.1)];exact g3⟩
  . cases hd
theorem yc (r:Rel C ρ s a w){ops:Array Oper}{o:Oper}{g:Option (ax×Bool)}(hg:sw C ops.toList o.guard=some g){b:Bool}(hb:di s g=some b):Region.wanted o (yielded ops a.tmps)=b:=by
 unfold Region.wanted;cases ho:o.guard with
 | none=>rw[ho]at hg;cases hg;cases hb;rfl
 | some jw=>
  obtain⟨j,want⟩:=jw;rw[ho]at hg;simp only[sw]at hg;split at hg
  . rename_i oj hj;split at hg
    . rename_i t ht;simp only[Option.map_eq_some_iff]at hg;obtain⟨y,hy,rfl⟩:=hg;simp only[di]at hb;have hj':ops[j]? = some oj:=by simpa using hj
      have key:∀v,s.aa y=some v->V ρ w v (a.tmps.getD t undef):=fun v hv=>r.aa hy hv
      simp only[yielded,hj',Option.bind_some,ht];split at hb
      . rename_i c hc;have:=key _ hc;cases hb;have e:=this.kh;rw[Array.getD_eq_getD_getElem?]at e;cases hq:a.tmps[t]? with
        | none=>rw[hq]at e;simp[undef]at e
        | some z=>rw[hq]at e;simp at e;subst e;simp <;> cases c <;> cases want <;> rfl
      . rename_i l hl;have:=key _ hl;cases hb;obtain⟨m,e,_⟩:=this.DU;rw[Array.getD_eq_getD_getElem?]at e;cases hq:a.tmps[t]? with
        | none=>rfl
        | some z=>rw[hq]at e;simp at e;subst e;rfl
      . cases hb
    . cases hg
  . cases hg
end Go.Ab
namespace Go.Ab
variable {s:St}
variable {h:ab}
theorem nk (v:AV):eM h ⟨v,h,[]⟩:=⟨Nat.le_refl _,fun _ _ _=>rfl⟩
theorem yd (v:AV)(l:ab)(wr:List Nat):eM h ⟨v,h++l,wr⟩:=⟨by simp,fun b hb _=>List.getElem?_append_left hb⟩
theorem Ez (v:AV)(b:Nat)(o:Option bc):eM h ⟨v,h.put b o,[b]⟩:=by
 refine⟨by simp[ab.put],fun b' _ hn=>?_⟩;simp only[List.mem_singleton]at hn;exact jl hn
theorem EA (v:AV)(b:Nat)(o:Option bc)(l:ab):eM h ⟨v,h.put b o++l,[b]⟩:=by
 refine⟨by simp[ab.put],fun b' hb hn=>?_⟩;simp only[List.mem_singleton]at hn;rw[List.getElem?_append_left (by simpa[ab.put] using hb)];exact jl hn
theorem On {elem:TypeId}{esz bytes:Nat}{x y:AV}{q:HR}(hq:fM elem esz bytes h x y=some q):eM h q:=by
 unfold fM at hq;repeat' (first|(cases hq;done)|split at hq)
 all_goals (cases hq;first|exact nk _|exact yd _ _ _|exact Ez _ _ _|exact EA _ _ _ _)
theorem Oo {io:aS}{q:HR}(hq:bg s io h=some q):eM h q:=by
 cases io <;> simp only[bg]at hq;all_goals first|(cases hq;done)|skip
 all_goals repeat' (first|(cases hq;done)|exact On hq|split at hq)
 all_goals (cases hq;first|exact nk _|exact yd _ _ _|exact Ez _ _ _|exact EA _ _ _ _)
theorem ye {call:du}{inv:fe}(hcall:∀g as h r,call g as h=some r->eM h r){s:St}{io:aS}{q:HR}(hq:bw call inv s io=some q):eM s.hp q:=by
 unfold bw at hq;split at hq
 . repeat' (first|(cases hq;done)|exact hcall _ _ _ _ hq|split at hq)
 . repeat' (first|(cases hq;done)|exact hcall _ _ _ _ hq|split at hq)
 . split at hq
   . exact Oo hq
   . simp only[Option.map_eq_some_iff]at hq;obtain⟨v,_,rfl⟩:=hq;exact nk _
theorem sO {s s':St}:∀{ps:List (Nat×Nat×ax)},(∀x∈rZ ps,s.aa x=s'.aa x)->s.parts ps=s'.parts ps
 | [],_=>rfl
 | (o,n,x)::r,h=>by
  simp only[rZ,List.mem_cons,forall_eq_or_imp]at h;simp only[St.parts,h.1,sO h.2]
theorem lK {s s':St}:∀{xs:List ax},(∀x∈xs,s.aa x=s'.aa x)->s.bY xs=s'.bY xs
 | [],_=>rfl
 | x::r,h=>by
  simp only[List.mem_cons,forall_eq_or_imp]at h;simp only[St.bY,h.1,lK h.2]
theorem nt {s':St}{x:Option ax}(h:∀y∈x.toList,s.aa y=s'.aa y):s.cE x=s'.cE x:=by
 cases x with
 | none=>rfl
 | some y=>simp only[St.cE,h y (by simp)]
theorem EB {call:du}{inv:fe}{s':St}{io:aS}(hh:s.hp=s'.hp)(h:∀x∈io.fL,s.aa x=s'.aa x):bw call inv s io=bw call inv s' io:=by
 cases io
 case slice k esz x lo hi mx=>
  simp only[aS.fL,List.mem_cons,List.mem_append,forall_eq_or_imp]at h;have h1:=h.1;have h2:s.cE lo=s'.cE lo:=nt fun y hy=>h.2 y (.inl (.inl hy))
  have h3:s.cE hi=s'.cE hi:=nt fun y hy=>h.2 y (.inl (.inr hy))
  have h4:s.cE mx=s'.cE mx:=nt fun y hy=>h.2 y (.inr hy)
  simp only[bw,aS.bh,aP,Bool.false_eq_true,if_false,hh,h1,h2,h3,h4]
 case jE n esz x lo hi=>
  simp only[aS.fL,List.mem_cons,List.mem_append,forall_eq_or_imp]at h;have h1:=h.1;have h2:s.cE lo=s'.cE lo:=nt fun y hy=>h.2 y (.inl hy)
  have h3:s.cE hi=s'.cE hi:=nt fun y hy=>h.2 y (.inr hy)
  simp only[bw,aS.bh,bg,if_true,hh,h1,h2,h3]
 case pk f fi ca=>
  simp only[aS.fL,List.mem_append]at h;have h1:s.bY fi=s'.bY fi:=lK fun y hy=>h y (.inl hy)
  have h2:s.bY ca=s'.bY ca:=lK fun y hy=>h y (.inr hy)
  simp only[bw,aS.bh,aP,Bool.false_eq_true,if_false,hh,h1,h2]
 case build zero ps=>
  have h1:s.parts ps=s'.parts ps:=sO h;simp only[bw,aS.bh,aP,Bool.false_eq_true,if_false,hh,h1]
 case dT elem len esz zero ps=>
  have h1:s.parts ps=s'.parts ps:=sO h;simp only[bw,aS.bh,bg,if_true,hh,h1]
 case mm mx xs=>
  have h1:s.bY xs=s'.bY xs:=lK h;simp only[bw,aS.bh,aP,Bool.false_eq_true,if_false,hh,h1]
 case call f as=>
  simp only[aS.fL,List.mem_cons,forall_eq_or_imp]at h;have h1:=h.1;have h2:s.bY as=s'.bY as:=lK h.2;simp only[bw,hh,h1,h2]
 case invoke f name as=>
  simp only[aS.fL,List.mem_cons,forall_eq_or_imp]at h;have h1:=h.1;have h2:s.bY as=s'.bY as:=lK h.2;simp only[bw,hh,h1,h2]
 all_goals
  simp only[aS.fL,List.mem_cons,List.not_mem_nil,or_false,forall_eq_or_imp,forall_eq]at h;simp only[bw,aS.bh,bg,aP,Bool.false_eq_true,if_false,if_true,hh,h]
theorem gZ (wr:List Nat):∀(h h':ab) (i b:Nat),h.length<=h'.length ->
 (dv wr h h' i)[b]? = if b<h.length then (if wr.contains (b+i) then h'[b]? else h[b]?) else h'[b]?
 | [],h',i,b,_=>by cases h' <;> simp[dv]
 | o::h,[],i,b,hl=>by simp at hl
 | o::h,n::h',i,b,hl=>by
  cases b with
  | zero=>simp[dv];split <;> rfl
  | succ b=>
   simp only[dv,List.getElem?_cons_succ,List.length_cons];rw[gZ wr h h' (i+1) b (by simpa using hl)];simp only[Nat.add_lt_add_iff_right];rw[show b+(i+1)=b+1+i from by omega]
theorem pU (wr:List Nat):∀(h h':ab) (i:Nat),h.length<=h'.length->(dv wr h h' i).length=h'.length
 | [],h',i,_=>by cases h' <;> simp[dv]
 | o::h,[],i,hl=>by simp at hl
 | o::h,n::h',i,hl=>by simp[dv,pU wr h h' (i+1) (by simpa using hl)]
end Go.Ab
namespace Go.Ab
variable {P:Program} {gl:Nat->Option AV} {ρ:au} {w:World} {h:ab} {C:Cx} {s:St} {a:Act}
theorem EC {L:List Oper}{o:Oper}{io:aO}(h:sx C L o=some io):jj C o.dst=some io.dst/\gV C o=some io.op/\sw C L o.guard=some io.guard:=by
 unfold sx at h;split at h
 . rename_i d op g h1 h2 h3;cases h;exact⟨h1,h2,h3⟩
 . cases h
theorem pW {L:List Oper}:∀{l:List Oper} {il:List aO},iL C L l=some il->il.length=l.length/\∀(i:Nat) (o:Oper),l[i]? = some o->∃io,il[i]? = some io/\sx C L o=some io
 | [],il,h=>by simp only[iL,Option.some.injEq]at h;subst h;exact⟨rfl,by simp⟩
 | o::r,il,h=>by
  simp only[iL]at h;split at h
  . rename_i io l h1 h2;cases h;obtain⟨g1,g2⟩:=pW h2;refine⟨by simp[g1],fun i o' ho=>?_⟩;cases i with
    | zero=>simp at ho;subst ho;exact⟨io,rfl,h1⟩
    | succ i=>simp at ho;obtain⟨x,h3,h4⟩:=g2 i o' ho;exact⟨x,by simpa using h3,h4⟩
  . cases h
theorem Oq {call:du}(hcall:kp C.P C.gl call){ro:Option Nat}{ops:Array Oper}{il:List aO}(hil:iL C ops.toList ops.toList=some il){Q:Exit->Act->World->Prop} :
 ∀(m k:Nat) (s s':al) (ρ:au) (a:Act) (w:World),k+m=ops.size->Rel C ρ s.s a w->dN call (dY C.P) (il.drop k) s=some s' ->
  (∀ρ' a' w',Rel C ρ' s'.s a' w'->Ext s.s.hp s'.s.hp ρ ρ' w w'->a'.defers=a.defers->Q .normal a' w')->wpOpsIn (FR ro) 0 C.P ops Q (List.range' k m) a w:=by
 obtain⟨hlen,hget⟩:=pW hil;intro m;induction m with
 | zero=>
  intro k s s' ρ a w hk r hq hQ;have:il.drop k=[]:=by
   rw[List.drop_eq_nil_iff];simp at hlen;omega
  rw[this]at hq;cases hq;simp only[List.range'_zero,wpOpsIn];exact hQ ρ a w r (Ext.refl _ _ _) rfl
 | succ m ih=>
  intro k s s' ρ a w hk r hq hQ;have hklt:k<ops.size:=by omega
  obtain⟨io,h1,h2⟩:=hget k ops[k] (by simp[hklt]);obtain⟨hd,hop,hg⟩:=EC h2;have hdrop:il.drop k=io::il.drop (k+1):=by
   have hk':k<il.length:=(List.getElem?_eq_some_iff.1 h1).1;rw[List.drop_eq_getElem_cons hk'];congr 1;exact(List.getElem?_eq_some_iff.1 h1).2
  rw[hdrop]at hq;simp only[dN]at hq;simp only[List.range'_succ,wpOpsIn];have ho:ops[k]? = some ops[k]:=by simp[hklt]
  rw[ho];simp only;split at hq
  . rename_i hw;rw[if_pos (yc r hg hw)];split at hq
    . rename_i q hq1;refine Ey hcall r hop hq1 ?_;rintro v' w' ⟨ρ',hv,m',x⟩;refine ih (k+1) _ s' ρ' _ w' (by omega) ⟨yb (er:=r.er.mono x) hd hv _,m'⟩ hq ?_;intro ρ2 a2 w2 r2 x2 hd2;refine hQ ρ2 a2 w2 r2 (x.trans x2) (hd2.trans ?_);unfold Act.put;split <;> rfl
    . cases hq
  . rename_i hw;rw[if_neg (by rw[yc r hg hw];simp)];refine⟨fun _ _=>trivial,ih (k+1) _ s' ρ _ w (by omega) ⟨?_,?_⟩ hq ?_⟩
    . exact yb (er:=r.er) hd V.undef s.s.hp
    . have:(s.s.put io.dst bJ).hp=s.s.hp:=by cases io.dst <;> rfl
      rw[this];exact r.mem
    . intro ρ2 a2 w2 r2 x2 hd2;have:(s.s.put io.dst bJ).hp=s.s.hp:=by cases io.dst <;> rfl
      simp only[this]at x2;refine hQ ρ2 a2 w2 r2 x2 (hd2.trans ?_);unfold Act.put;split <;> rfl
  . cases hq
theorem Rel.Ot (r:Rel C ρ s a w):Rel C ρ { s with lo:=[] } a w:=
 ⟨⟨r.er.size,r.er.nodup,r.er.lt,r.er.jk,r.er.pe,fun _ _ h=>by cases h⟩,r.mem⟩
theorem Ou {call:du}(hcall:kp C.P C.gl call){ro:Option Nat}{id:Nat}{ops:Array Oper}{il:List aO}(hil:iL C ops.toList ops.toList=some il){Q:Exit->Act->World->Prop}
 {s s':al} (r:Rel C ρ s.s a w) (hq:dN call (dY C.P) il ⟨{ s.s with lo:=[] },s.wr⟩=some s')
 (hQ:∀ρ' a' w',Rel C ρ' s'.s a' w'->Ext s.s.hp s'.s.hp ρ ρ' w w'->a'.defers=a.defers->Q .normal a' w'):(Code.region id ops false).wpIn (FR ro) 0 C.P Q a w:=by
 refine wpIn_region ?_;rw[List.range_eq_range'];exact Oq hcall hil ops.size 0 _ s' ρ a w (by omega) r.Ot hq hQ
end Go.Ab
namespace Go.Ab
structure sP (call:du)(inv:fe)(st:Nat->al)(h0:Nat->ab)(r:Nat->HR)(k:Nat)(o:aO)(un:List Nat):Prop where
 wanted:∃b,di (st k).s o.guard=some b/\(b=true->bw call inv { (st k).s with hp:=h0 k } o.op=some (r k))/\(b=false->r k=⟨bJ,h0 k,[]⟩)
 len:(h0 k).length=(st k).s.hp.length
 known:∀(b:Nat) x,(h0 k)[b]? = some (some x)->(st k).s.hp[b]? = some (some x)
 off:∀(b:Nat) x,(h0 k)[b]? = some (some x)->∀j∈un,j<k->b∉(r j).wr/\¬((st j).s.hp.length<=b/\b<(r j).h.length)
 pY:∀b∈(r k).wr,∃x,(h0 k)[b]? = some (some x)
 Ov:∀j∈un,j<k->∀b∈(r k).wr,∀x,(h0 j)[b]? ≠ some (some x)
 next:st (k+1)=⟨{ (st k).s.put o.dst (r k).v with hp:=dv (r k).wr (st k).s.hp (r k).h 0 },(r k).wr++(st k).wr⟩
theorem kq (T:List Nat):∀(h:ab) (i b:Nat),(bW T h i)[b]? = (h[b]?).map fun o=>if T.contains (b+i) then o else none
 | [],i,b=>by simp[bW]
 | o::h,i,b=>by
  cases b with
  | zero=>simp[bW]
  | succ b=>simp only[bW,List.getElem?_cons_succ];rw[kq T h (i+1) b,show b+(i+1)=b+1+i from by omega]
theorem dA (T:List Nat):∀(h:ab) (i:Nat),(bW T h i).length=h.length
 | [],i=>rfl
 | o::h,i=>by simp[bW,dA T h (i+1)]
theorem yf:∀(U:List Nat) (h:ab) (b:Nat),(mask h U)[b]? = if b∈U then (h[b]?).map fun _=>none else h[b]?
 | [],h,b=>by simp[mask]
 | u::U,h,b=>by
  have:=yf U (h.set u none) b;unfold mask at this ⊢;rw[List.foldl_cons,this];simp only[List.getElem?_set,List.mem_cons];by_cases hu:u=b
  . subst hu;by_cases hl:u<h.length
    . simp[hl]
    . simp[hl]
  . rw[if_neg hu];have:(b=u)↔False:=⟨fun e=>hu e.symm,False.elim⟩;simp[this]
theorem EE:∀(U:List Nat) (h:ab),(mask h U).length=h.length
 | [],h=>rfl
 | u::U,h=>by
  have:=EE U (h.set u none);unfold mask at this ⊢;rw[List.foldl_cons,this];simp
theorem Ow {d:bK}{b:Nat}:b∈d.own↔b∈d.wr\/(d.lo<=b/\b<d.hi):=by
 unfold bK.own;rw[List.mem_append,List.mem_range'_1];constructor
 . rintro(h|h)
   . exact .inl h
   . exact .inr (by omega)
 . rintro(h|h)
   . exact .inl h
   . exact .inr (by omega)
def EH (st:Nat->al)(h0:Nat->ab)(r:Nat->HR)(ds:List bK):Prop:=
 ∀j d,ds[j]? = some d->d.wr=(r j).wr/\d.lo=(st j).s.hp.length/\d.hi=(r j).h.length/\∀T,d.je=some T->∀(b:Nat) x,(h0 j)[b]? = some (some x)->b∈T
theorem EK {a b:List Nat}(h:fZ a b=true):∀x∈a,x∉b:=by
 intro x hx hb;have:=List.all_eq_true.1 h x hx;simp at this;exact this hb
theorem trace {call:du}{inv:fe}:∀(l:List (aO×List Nat)) (s:al) (ds:List bK) (s':al) (st0:Nat->al) (h00:Nat->ab) (r00:Nat->HR),EH st0 h00 r00 ds->dc call inv l s ds=some s' ->
 ∃st h0 r,(∀j,j<ds.length->st j=st0 j/\h0 j=h00 j/\r j=r00 j)/\st ds.length=s/\st (ds.length+l.length)=s' /\
  ∀k o un,l[k]? = some (o,un)->sP call inv st h0 r (ds.length+k) o un
 | [],s,ds,s',st0,h00,r00,hds,hq=>by
  simp only[dc,Option.some.injEq]at hq;subst hq;refine⟨fun j=>if j=ds.length then s else st0 j,h00,r00,fun j hj=>⟨by simp;omega,rfl,rfl⟩,by simp,by simp,by simp⟩
 | (o,un)::rest,s,ds,s',st0,h00,r00,hds,hq=>by
  have fin:∀(g0:ab) (q:HR) (t:Option (List Nat)) (b:Bool),di s.s o.guard=some b->(b=true->bw call inv { s.s with hp:=g0 } o.op=some q)->(b=false->q=⟨bJ,g0,[]⟩) ->
   g0.length=s.s.hp.length->(∀(b:Nat) x,g0[b]? = some (some x)->s.s.hp[b]? = some (some x)) ->
   (∀(b:Nat) x,g0[b]? = some (some x)->∀j∈un,∀d,ds[j]? = some d->b∉d.own)->(∀b∈q.wr,∃x,g0[b]? = some (some x)) ->
   (∀j∈un,∀d,ds[j]? = some d->∀b∈q.wr,∃T,d.je=some T/\b∉T)->(∀T,t=some T->∀(b:Nat) x,g0[b]? = some (some x)->b∈T) ->
   dc call inv rest ⟨{ s.s.put o.dst q.v with hp:=dv q.wr s.s.hp q.h 0 },q.wr++s.wr⟩ (ds++[⟨t,q.wr,s.s.hp.length,q.h.length⟩])=some s' ->
   ∃st h0 r,(∀j,j<ds.length->st j=st0 j/\h0 j=h00 j/\r j=r00 j)/\st ds.length=s/\st (ds.length+((o,un)::rest).length)=s' /\
    ∀k o' un',((o,un)::rest)[k]? = some (o',un')->sP call inv st h0 r (ds.length+k) o' un':=by
   intro g0 q t b hw h1 h2 h3 h4 h5 h6 h7 h8 hrec;have hds':EH (fun j=>if j=ds.length then s else st0 j) (fun j=>if j=ds.length then g0 else h00 j) (fun j=>if j=ds.length then q else r00 j) (ds++[⟨t,q.wr,s.s.hp.length,q.h.length⟩]):=by
    intro j d hj;rw[List.getElem?_append]at hj;split at hj
    . rename_i hlt;have:j≠ds.length:=by omega
      simp only[this,if_false];exact hds j d hj
    . rename_i hge;have hj0:j-ds.length=0:=by
       have:=(List.getElem?_eq_some_iff.1 hj).1;simp at this;omega
      rw[hj0]at hj;simp at hj;subst hj;have:j=ds.length:=by omega
      subst this;simp only[if_true];exact⟨trivial,trivial,trivial,h8⟩
   obtain⟨st,h0,r,e1,e2,e3,e4⟩:=trace rest _ _ s' _ _ _ hds' hrec;simp only[List.length_append,List.length_cons,List.length_nil,Nat.zero_add]at e1 e2 e3 e4;have eN:=e1 ds.length (by omega);simp only[if_true]at eN;have elt:∀j,j<ds.length->st j=st0 j/\h0 j=h00 j/\r j=r00 j:=by
    intro j hj;have:=e1 j (by omega);rw[if_neg (by omega),if_neg (by omega),if_neg (by omega)]at this;exact this
   refine⟨st,h0,r,elt,eN.1,by rw[←e3];congr 1;simp;omega,?_⟩;intro k o' un' hk;cases k with
   | zero=>
    simp at hk;obtain⟨rfl,rfl⟩:=hk;rw[Nat.add_zero];have hown:∀j,j<ds.length->∃d,ds[j]? = some d/\(∀b,b∈d.own↔b∈(r j).wr\/((st j).s.hp.length<=b/\b<(r j).h.length))/\∀T,d.je=some T->∀(b:Nat) x,(h0 j)[b]? = some (some x)->b∈T:=by
     intro j hj;obtain⟨f1,f2,f3⟩:=elt j hj;obtain⟨g1,g2,g3,g4⟩:=hds j ds[j] (by simp[hj]);refine⟨ds[j],by simp[hj],fun b=>?_,fun T hT b x hb=>g4 T hT b x (by rw[←f2];exact hb)⟩;rw[Ow,g1,g2,g3,f1,f3]
    refine⟨?_,?_,?_,?_,?_,?_,?_⟩
    . rw[eN.1,eN.2.1,eN.2.2];exact⟨b,hw,h1,h2⟩
    . rw[eN.1,eN.2.1];exact h3
    . rw[eN.1,eN.2.1];exact h4
    . rw[eN.2.1];intro b x hb j hj hlt;obtain⟨d,hd,ho,_⟩:=hown j hlt;have:=h5 b x hb j hj d hd;rw[ho]at this;exact⟨fun h=>this (.inl h),fun h=>this (.inr h)⟩
    . rw[eN.2.1,eN.2.2];exact h6
    . rw[eN.2.2];intro j hj hlt b hb x hx;obtain⟨d,hd,_,ht⟩:=hown j hlt;obtain⟨T,hT,hbT⟩:=h7 j hj d hd b hb;exact hbT (ht T hT b x hx)
    . rw[eN.1,eN.2.2,e2]
   | succ k=>
    simp at hk;have:=e4 k o' un' hk;rw[show ds.length+(k+1)=ds.length+1+k from by omega];exact this
  have keep0:∀(b:Nat) x,(bW [] s.s.hp 0)[b]? ≠ some (some x):=by
   intro b x;rw[kq];cases s.s.hp[b]? <;> simp
  have merge0:dv [] s.s.hp (bW [] s.s.hp 0) 0=s.s.hp:=by
   apply List.ext_getElem?;intro b;rw[gZ _ _ _ _ _ (by rw[dA];exact Nat.le_refl _)];split
   . simp
   . rename_i hb;rw[List.getElem?_eq_none (by rw[dA];omega),List.getElem?_eq_none (by omega)]
  have go:∀(t:Option (List Nat)) (g0:ab),di s.s o.guard=some true->(match t with|some T=>fZ T (un.flatMap fun j=>(ds[j]?).elim [] bK.own)|none=>true)=true ->
   g0=(match t with|some T=>bW T s.s.hp 0|none=>mask s.s.hp (un.flatMap fun j=>(ds[j]?).elim [] bK.own)) ->
   (match bw call inv { s.s with hp:=g0 } o.op with
     | some r=>
      if ((r.wr.all fun b=>(g0.at b).isSome) && (r.wr.isEmpty || un.all (fun j=>match ds[j]? with|some d=>(match d.je with|some T=>fZ r.wr T|none=>false)|none=>false)))=true then
       dc call inv rest ⟨{ s.s.put o.dst r.v with hp:=dv r.wr s.s.hp r.h 0 },r.wr++s.wr⟩ (ds++[⟨t,r.wr,s.s.hp.length,r.h.length⟩])
      else none
     | none=>none)=some s' ->
   ∃st h0 r,(∀j,j<ds.length->st j=st0 j/\h0 j=h00 j/\r j=r00 j)/\st ds.length=s/\st (ds.length+((o,un)::rest).length)=s' /\
    ∀k o' un',((o,un)::rest)[k]? = some (o',un')->sP call inv st h0 r (ds.length+k) o' un':=by
   intro t g0 hw hdis hg0 hq;split at hq
   . rename_i q hq1;split at hq
     . rename_i hchk;rw[Bool.and_eq_true]at hchk;obtain⟨hc1,hc2⟩:=hchk;refine fin g0 q t true hw (fun _=>hq1) (by simp) ?_ ?_ ?_ ?_ ?_ ?_ hq
       . subst hg0;cases t
         . exact EE _ _
         . exact dA _ _ _
       . intro b x hb;subst hg0;cases t
         . simp only at hb;rw[yf]at hb;split at hb
           . cases hz:s.s.hp[b]? <;> simp[hz]at hb
           . exact hb
         . simp only at hb;rw[kq]at hb;cases hz:s.s.hp[b]? with
           | none=>simp[hz]at hb
           | some z=>
            simp only[hz,Option.map_some,Option.some.injEq]at hb;split at hb
            . rw[hb]
            . cases hb
       . intro b x hb j hj d hd hbo;have hU:b∈un.flatMap fun j=>(ds[j]?).elim [] bK.own:=by
          rw[List.mem_flatMap];exact⟨j,hj,by rw[hd];exact hbo⟩
         subst hg0;cases t
         . simp only at hb;rw[yf,if_pos hU]at hb;cases hz:s.s.hp[b]? <;> simp[hz]at hb
         . simp only at hb hdis;rw[kq]at hb;cases hz:s.s.hp[b]? with
           | none=>simp[hz]at hb
           | some z=>
            simp only[hz,Option.map_some,Option.some.injEq]at hb;split at hb
            . rename_i hm;simp at hm;exact EK hdis b hm hU
            . cases hb
       . intro b hb;have:=List.all_eq_true.1 hc1 b hb;unfold ab.at at this;cases hz:g0[b]? with
         | none=>rw[hz]at this;simp at this
         | some z=>cases z with
           | none=>rw[hz]at this;simp at this
           | some z=>exact⟨z,rfl⟩
       . intro j hj d hd b hb;rw[Bool.or_eq_true]at hc2;rcases hc2 with hc2|hc2
         . simp at hc2;rw[hc2]at hb;cases hb
         . have:=List.all_eq_true.1 hc2 j hj;rw[hd]at this;simp only at this;split at this
           . rename_i T hT;exact⟨T,hT,EK this b hb⟩
           . cases this
       . intro T hT b x hb;subst hg0;subst hT;simp only at hb;rw[kq]at hb;cases hz:s.s.hp[b]? with
         | none=>simp[hz]at hb
         | some z=>
          simp only[hz,Option.map_some,Option.some.injEq]at hb;split at hb
          . rename_i hm;simpa using hm
          . cases hb
     . cases hq
   . cases hq
  simp only[dc]at hq;split at hq
  . rename_i hw;split at hq
    . cases ht:iH s.s o.op with
      | none=>
       simp only[ht]at hq;exact go none _ hw rfl rfl hq
      | some T=>
       simp only[ht]at hq;split at hq
       . rename_i hdis;exact go (some T) _ hw hdis rfl hq
       . cases hq
    . rename_i hh;split at hq
      . rename_i v hv;have hhf:o.op.bh=false:=by simpa using hh
        refine fin (bW [] s.s.hp 0) ⟨v,bW [] s.s.hp 0,[]⟩ (some []) true hw (fun _=>?_) (by simp) (dA _ _ _) (fun b x hb=>(keep0 b x hb).elim) (fun b x hb=>(keep0 b x hb).elim) (by simp) (by simp) (fun T _ b x hb=>(keep0 b x hb).elim) ?_
        . have:bw call inv { s.s with hp:=bW [] s.s.hp 0 } o.op=(aP { s.s with hp:=bW [] s.s.hp 0 } o.op).map fun v=>⟨v,bW [] s.s.hp 0,[]⟩:=by
           cases ho:o.op <;> rw[ho]at hhf <;> first|(simp[aS.bh]at hhf;done)|rfl
          rw[this];have hv':aP { s.s with hp:=bW [] s.s.hp 0 } o.op=some v:=by
           rw[←hv];have hc:=fun s' h'=>EB (call:=call) (inv:=inv) (s:=s') (s':=s') (io:=o.op) rfl h'
           have e:∀(h:ab),aP { s.s with hp:=h } o.op=aP s.s o.op:=by
            intro h;have e1:∀x,({ s.s with hp:=h }:St).aa x=s.s.aa x:=by intro x;cases x <;> rfl
            have e2:∀xs,({ s.s with hp:=h }:St).bY xs=s.s.bY xs:=fun xs=>lK fun x _=>e1 x
            have e3:∀xs,({ s.s with hp:=h }:St).cE xs=s.s.cE xs:=fun xs=>nt fun x _=>e1 x
            have e4:∀xs,({ s.s with hp:=h }:St).parts xs=s.s.parts xs:=fun xs=>sO fun x _=>e1 x
            cases o.op <;> simp only[aP,e1,e2,e3,e4]
           exact e _
          rw[hv'];rfl
        . have e:({ s.s.put o.dst v with hp:=s.s.hp }:St)=s.s.put o.dst v:=by cases o.dst <;> rfl
          simp only[merge0,dA,List.nil_append];rw[e];exact hq
      . cases hq
  . rename_i hw;refine fin (bW [] s.s.hp 0) ⟨bJ,bW [] s.s.hp 0,[]⟩ (some []) false hw (by simp) (fun _=>rfl) (dA _ _ _) (fun b x hb=>(keep0 b x hb).elim) (fun b x hb=>(keep0 b x hb).elim) (by simp) (by simp) (fun T _ b x hb=>(keep0 b x hb).elim) ?_;have e:({ s.s.put o.dst bJ with hp:=s.s.hp }:St)=s.s.put o.dst bJ:=by cases o.dst <;> rfl
    simp only[merge0,dA,List.nil_append];rw[e];exact hq
  . cases hq
end Go.Ab
namespace Go.Ab
variable {dst:Option Tmp} {d:dU} {y:ax}
variable {P:Program} {gl:Nat->Option AV} {ρ:au} {w:World} {h:ab} {C:Cx} {s:St} {a:Act}
def dC (lo:Nat)(ρ:au):au:=⟨fun b=>if b<lo then ρ b else .fresh,fun c=>ρ.X c\/∃b d,lo<=b/\ρ b = .live c d⟩
theorem cn.dC {c:Nat}(lo:Nat)(h:cn ρ c):cn (dC lo ρ) c:=by
 refine⟨fun b d hb=>?_,?_⟩
 . simp only[Ab.dC]at hb;split at hb
   . exact h.1 b d hb
   . cases hb
 . rintro(hx|⟨b,d,_,hb⟩)
   . exact h.2 hx
   . exact h.1 b d hb
theorem BR.fF {ρ ρ':au}{n:Nat}(hρ:∀b,b<n->ρ' b=ρ b)(hF:∀c,cn ρ c->cn ρ' c){b:Nat}(hb:b<n){o:bc}(h:BR P gl ρ w b o)(ht:o.top<=n):BR P gl ρ' w b o:=by
 cases o with
 | cells l e=>
  rcases h with ⟨c,d,cs,fr,h1,h2,h3,h4,h5⟩|⟨h1,h2⟩
  . exact .inl ⟨c,d,cs,fr,(hρ b hb).trans h1,h2,h3,h4,fun i x y hx hy=>(h5 i x y hx hy).fF hρ hF (dZ ht i x hx)⟩
  . exact .inr ⟨(hρ b hb).trans h1,h2⟩
 | map es=>
  obtain⟨c,ms,clk,h1,h2,h3,h4⟩:=h;have key:∀(es:List (AV×AV)),bc.top.lf es<=n->∀(i:Nat) kx vx,es[i]? = some (kx,vx)->kx.top<=n/\vx.top<=n:=by
   intro es;induction es with
   | nil=>intro _ i kx vx hx;simp at hx
   | cons p r ih=>
    intro ht i kx vx hx;obtain⟨k,v⟩:=p;simp only[bc.top.lf]at ht;cases i with
    | zero=>simp at hx;obtain⟨rfl,rfl⟩:=hx;omega
    | succ i=>exact ih (by omega) i kx vx (by simpa using hx)
  exact⟨c,ms,clk,(hρ b hb).trans h1,h2,h3,fun i kx vx m hx hm=>by
   obtain⟨g1,g2⟩:=h4 i kx vx m hx hm;obtain⟨t1,t2⟩:=key es ht i kx vx hx;exact⟨g1.fF hρ hF t1,g2.fF hρ hF t2⟩⟩
 | iter s pos=>obtain⟨c,h1,h2⟩:=h;exact⟨c,(hρ b hb).trans h1,h2⟩
 | fA=>obtain⟨c,h1,h2⟩:=h;exact⟨c,(hρ b hb).trans h1,h2⟩
 | hole=>exact(hρ b hb).trans h
 | loop st pend pe ps a bd=>
  obtain⟨c,r,az,N,h1,h2,h3,h4,h5,h6⟩:=h;exact⟨c,r,az,N,(hρ b hb).trans h1,h2,h3,h4,⟨h5.size,h5.nodup,h5.lt,h5.jk,fun i v t hv ht'=>(h5.pe i v t hv ht').fF hρ hF (dZ ht i v hv),fun _ _ hl=>by cases hl⟩,h6⟩
theorem BR.top {n:Nat}(hn:∀b,n<=b->ρ b = .fresh){b:Nat}{o:bc}(h:BR P gl ρ w b o):o.top<=n:=by
 cases o with
 | cells l e=>
  rcases h with ⟨c,d,cs,fr,h1,h2,h3,h4,h5⟩|⟨h1,h2⟩
  . refine kg fun i x hx=>?_
    have hi:=(List.getElem?_eq_some_iff.1 hx).1;have hlt:i+d<cs.size:=by have:=h3.1;omega
    exact(h5 i x cs[i+d] hx (by simp[hlt])).top hn
  . subst h2;simp[bc.top,aY]
 | map es=>
  obtain⟨c,ms,clk,h1,h2,h3,h4⟩:=h;have key:∀(es:List (AV×AV)),(∀(i:Nat) kx vx,es[i]? = some (kx,vx)->kx.top<=n/\vx.top<=n)->bc.top.lf es<=n:=by
   intro es;induction es with
   | nil=>intro _;simp[bc.top.lf]
   | cons p r ih=>
    intro hx;obtain⟨k,v⟩:=p;simp only[bc.top.lf];have:=hx 0 k v rfl;have:=ih fun i kx vx h=>hx (i+1) kx vx (by simpa using h)
    omega
  refine key es fun i kx vx hx=>?_
  have hi:=(List.getElem?_eq_some_iff.1 hx).1;obtain⟨g1,g2⟩:=h4 i kx vx ms[i] hx (by simp);exact⟨g1.top hn,g2.top hn⟩
 | iter s pos=>simp[bc.top]
 | fA=>simp[bc.top]
 | hole=>simp[bc.top]
 | loop st pend pe ps a bd=>
  obtain⟨c,r,az,N,h1,h2,h3,h4,h5,h6⟩:=h;refine kg fun i x hx=>?_
  have hi:=(List.getElem?_eq_some_iff.1 hx).1;have hp:=h5.jk;exact(h5.pe i x az[i] hx (by simp)).top hn
def VS (C:Cx)(ρ:au)(w:World)(tmps:Array Value)(y:ax)(v:AV):Prop:=
 match y with
 | .p i=>∀t,C.az[i]? = some t->V ρ w v (tmps.getD t undef)
 | .l t=>t<C.N/\t∉C.az/\V ρ w v (tmps.getD t undef)
 | .c _=>True
theorem VS.mono {h h':ab}{ρ ρ':au}{w w':World}(x:Ext h h' ρ ρ' w w'){tmps:Array Value}{y:ax}{v:AV}(hv:VS C ρ w tmps y v):VS C ρ' w' tmps y v:=by
 cases y with
 | p i=>exact fun t ht=>(hv t ht).mono x
 | l t=>exact⟨hv.1,hv.2.1,hv.2.2.mono x⟩
 | c _=>trivial
theorem sQ {v:Value}:(a.put dst v).tmps=match dst with|some t=>a.tmps.setIfInBounds t v|none=>a.tmps:=by
 cases dst <;> rfl
theorem VS.Ox (hd:jj C dst=some d)(hsz:a.tmps.size=C.N){y:ax}(hy:dt d y=true){x:AV}{v:Value}(hv:V ρ w x v):VS C ρ w (a.put dst v).tmps y x:=by
 cases dst with
 | none=>cases hd;cases y <;> simp[dt]at hy
 | some t=>
  simp only[jj]at hd;split at hd
  . rename_i hlt;split at hd
    . rename_i i hi;cases hd;have hti:=sB hi;cases y <;> simp[dt]at hy;subst hy;intro u hu;rw[hti]at hu;cases hu;rw[sQ];simp only[jn];rw[if_pos (by simp[hsz,hlt])];exact hv
    . rename_i hi;cases hd;have hnt:=sC hi;cases y <;> simp[dt]at hy;subst hy;refine⟨hlt,hnt,?_⟩;rw[sQ];simp only[jn];rw[if_pos (by simp[hsz,hlt])];exact hv
  . cases hd
theorem VS.Oy (hd:jj C dst=some d)(hnd:C.az.Nodup){y:ax}(hy:dt d y=false){x:AV}{v:Value}(hv:VS C ρ w a.tmps y x):VS C ρ w (a.put dst v).tmps y x:=by
 cases dst with
 | none=>exact hv
 | some t=>
  rw[sQ];simp only[jj]at hd;split at hd
  . rename_i hlt;split at hd
    . rename_i i hi;cases hd;have hti:=sB hi;cases y with
      | p j=>
       simp[dt]at hy;intro u hu;have hne:u≠t:=fun e=>by
        subst e;exact hy ((List.getElem?_inj (List.getElem?_eq_some_iff.1 hti).1 hnd).1 (hti.trans hu.symm))
       simp only[jn];rw[if_neg (fun e=>hne e.1)];exact hv u hu
      | l u=>
       obtain⟨g1,g2,g3⟩:=hv;have hne:u≠t:=fun e=>by subst e;exact g2 (List.mem_of_getElem? hti)
       refine⟨g1,g2,?_⟩;simp only[jn];rw[if_neg (fun e=>hne e.1)];exact g3
      | c _=>trivial
    . rename_i hi;cases hd;have hnt:=sC hi;cases y with
      | p j=>
       intro u hu;have hne:u≠t:=fun e=>by subst e;exact hnt (List.mem_of_getElem? hu)
       simp only[jn];rw[if_neg (fun e=>hne e.1)];exact hv u hu
      | l u=>
       simp[dt]at hy;obtain⟨g1,g2,g3⟩:=hv;refine⟨g1,g2,?_⟩;simp only[jn];rw[if_neg (fun e=>hy e.1.symm)];exact g3
      | c _=>trivial
  . cases hd
theorem Oz (hy:dt d y=true){x v:AV}(h:(s.put d x).aa y=some v):v=x:=by
 cases d <;> cases y <;> simp[dt]at hy
 . subst hy;simp only[St.put,St.aa,List.getElem?_set]at h;simp at h;exact h.2.symm
 . subst hy;simp only[St.put,St.aa,List.lookup_cons_self]at h;exact(Option.some.inj h).symm
theorem OA (hy:dt d y=false){x:AV}:(s.put d x).aa y=s.aa y:=by
 cases d <;> cases y <;> first|rfl|skip
 . rename_i i j;simp[dt]at hy;simp only[St.put,St.aa,List.getElem?_set];rw[if_neg hy]
 . rename_i t u;simp[dt]at hy;simp only[St.put,St.aa,List.lookup_cons];have:(u == t)=false:=by simp;exact fun e=>hy e.symm
   rw[this]
def restrict (us:List ax)(s:St)(h:ab):St:=
 { s with pe:=s.pe.mapIdx (fun i v=>if us.any (dt (.p i)) then v else .cz),lo:=s.lo.filter (fun e=>us.any (dt (.l e.1))),hp:=h }
theorem yg {p:Nat->Bool}{t:Nat}:∀(l:List (Nat×AV)),(l.filter (fun e=>p e.1)).lookup t=if p t then l.lookup t else none
 | []=>by simp
 | (u,v)::r=>by
  have ih:=yg (p:=p) (t:=t) r;by_cases hu:p u=true
  . rw[List.filter_cons_of_pos (by simpa using hu)];simp only[List.lookup_cons];by_cases e:t=u
    . subst e;simp[hu]
    . have e':(t == u)=false:=by simpa using e
      rw[e'];exact ih
  . rw[List.filter_cons_of_neg (by simpa using hu),ih];by_cases e:t=u
    . subst e;simp[hu]
    . have e':(t == u)=false:=by simpa using e
      simp only[List.lookup_cons,e']
theorem EL {us:List ax}(hy:y∈us)(h:ab):(restrict us s h).aa y=s.aa y:=by
 cases y with
 | p i=>
  have:us.any (dt (.p i))=true:=List.any_eq_true.2 ⟨_,hy,by simp[dt]⟩;simp only[restrict,St.aa,List.getElem?_mapIdx,this,if_true];cases s.pe[i]? <;> rfl
 | l t=>
  have:us.any (dt (.l t))=true:=List.any_eq_true.2 ⟨_,hy,by simp[dt]⟩;simp only[restrict,St.aa];rw[yg (p:=fun t=>us.any (dt (.l t))),if_pos this]
 | c v=>rfl
theorem OB {us:List ax}{tmps:Array Value}(hsz:tmps.size=C.N)(hnd:C.az.Nodup)(hlt:∀t∈C.az,t<C.N)(hpl:s.pe.length=C.az.length)
 (hv:∀y∈us,∀v,s.aa y=some v->VS C ρ w tmps y v) (h:ab):ER C ρ w (restrict us s h).pe (restrict us s h).lo tmps:=by
 refine⟨hsz,hnd,hlt,by simp[restrict,hpl],?_,?_⟩
 . intro i v t h1 h2;simp only[restrict,List.getElem?_mapIdx,Option.map_eq_some_iff]at h1;obtain⟨u,h3,h4⟩:=h1;split at h4
   . rename_i hu;subst h4;obtain⟨y,hy,hs⟩:=List.any_eq_true.1 hu;cases y <;> simp[dt]at hs;subst hs;exact hv _ hy u h3 t h2
   . subst h4;exact .cz _
 . intro t v h1;simp only[restrict]at h1;rw[yg (p:=fun t=>us.any (dt (.l t)))]at h1;split at h1
   . rename_i hu;obtain⟨y,hy,hs⟩:=List.any_eq_true.1 hu;cases y <;> simp[dt]at hs;subst hs;exact hv _ hy v h1
   . cases h1
end Go.Ab
namespace Go.Ab
variable {k:Nat}
structure lM (call:du)(inv:fe)(il:List aO)(un:Nat->List Nat)(st:Nat->al)(h0:Nat->ab)(r:Nat->HR):Prop where
 step:∀k o,il[k]? = some o->sP call inv st h0 r k o (un k)
 wr:∀g as h r,call g as h=some r->eM h r
def own (st:Nat->al)(r:Nat->HR)(k b:Nat):Prop:=b∈(r k).wr\/((st k).s.hp.length<=b/\b<(r k).h.length)
variable {call:du} {inv:fe} {il:List aO} {un:Nat->List Nat} {st:Nat->al} {h0:Nat->ab} {r:Nat->HR}
namespace lM
variable (T:lM call inv il un st h0 r)
include T
theorem EM (hk:k<il.length):eM (h0 k) (r k):=by
 have sk:=T.step k il[k] (by simp[hk]);obtain⟨b,_,h1,h2⟩:=sk.wanted;cases b with
 | true=>exact ye T.wr (h1 rfl)
 | false=>rw[h2 rfl];exact nk _
theorem sS (hk:k<il.length):(st k).s.hp.length<=(r k).h.length:=by
 have:=(T.EM hk).1;rw[(T.step k il[k] (by simp[hk])).len]at this;exact this
theorem sV (hk:k<il.length):(st (k+1)).s.hp.length=(r k).h.length:=by
 rw[(T.step k il[k] (by simp[hk])).next];exact pU _ _ _ _ (T.sS hk)
theorem gJ {i:Nat}:∀{j:Nat},i<=j->j<=il.length->(st i).s.hp.length<=(st j).s.hp.length
 | 0,h,_=>by
                 have:i=0:=by omega
                 subst this;exact Nat.le_refl _
 | j+1,h,hj=>by
  by_cases e:i=j+1
  . subst e;exact Nat.le_refl _
  . have h1:(st i).s.hp.length<=(st j).s.hp.length:=gJ (by omega) (by omega);have h2:=T.sS (k:=j) (by omega);have h3:=T.sV (k:=j) (by omega);omega
theorem yh (hk:k<il.length)(b:Nat):(st (k+1)).s.hp[b]? = if b<(st k).s.hp.length then (if (r k).wr.contains b then (r k).h[b]? else (st k).s.hp[b]?) else (r k).h[b]? := by
 rw[(T.step k il[k] (by simp[hk])).next];have:=gZ (r k).wr (st k).s.hp (r k).h 0 b (T.sS hk);simpa using this
theorem OC (hk:k<il.length){b:Nat}(ho:own st r k b):(st (k+1)).s.hp[b]? = (r k).h[b]? := by
 rw[T.yh hk];split
 . rename_i hlt;rcases ho with ho|ho
   . simp[ho]
   . omega
 . rfl
theorem OD (hk:k<il.length){b:Nat}(ho:¬own st r k b):(st (k+1)).s.hp[b]? = (st k).s.hp[b]? := by
 rw[T.yh hk];have h1:b∉(r k).wr:=fun h=>ho (.inl h)
 split
 . simp[h1]
 . rename_i hge;have h2:(r k).h.length<=b:=by
    rcases Nat.lt_or_ge b (r k).h.length with h|h
    . exact absurd (.inr ⟨by omega,h⟩) ho
    . exact h
   rw[List.getElem?_eq_none h2,List.getElem?_eq_none (by omega)]
theorem stays {i b:Nat}:∀{m:Nat},i<=m->m<=il.length->(∀j,i<=j->j<m->¬own st r j b)->(st m).s.hp[b]? = (st i).s.hp[b]?
 | 0,h,_,_=>by
                    have:i=0:=by omega
                    subst this;rfl
 | m+1,h,hm,ho=>by
  by_cases e:i=m+1
  . subst e;rfl
  . rw[T.OD (by omega) (ho m (by omega) (by omega))];exact stays (by omega) (by omega) fun j h1 h2=>ho j h1 (by omega)
theorem EN (hk:k<il.length)(y:ax):(st (k+1)).s.aa y=((st k).s.put il[k].dst (r k).v).aa y:=by
 rw[(T.step k il[k] (by simp[hk])).next];cases y <;> rfl
theorem yi {i:Nat}{y:ax}:∀{m:Nat},i<=m->m<=il.length->(∀(j:Nat) (o:aO),i<=j->j<m->il[j]? = some o->dt o.dst y=false)->(st m).s.aa y=(st i).s.aa y
 | 0,h,_,_=>by
                    have:i=0:=by omega
                    subst this;rfl
 | m+1,h,hm,ho=>by
  by_cases e:i=m+1
  . subst e;rfl
  . rw[T.EN (by omega),OA (ho m _ (by omega) (by omega) (by simp))];exact yi (by omega) (by omega) fun j o h1 h2 h3=>ho j o h1 (by omega) h3
theorem cz {b:Nat}(h:(st 0).s.hp[b]? = some none):∀{k:Nat},k<=il.length->(st k).s.hp[b]? = some none
 | 0,_=>h
 | k+1,hk=>by
  have ih:=cz h (k:=k) (by omega);have hlt:=(List.getElem?_eq_some_iff.1 ih).1;rw[T.yh (by omega),if_pos hlt];have:b∉(r k).wr:=by
   intro hb;have sk:=T.step k il[k] (by simp);obtain⟨x,hx⟩:=sk.pY b hb;rw[sk.known b x hx]at ih;cases ih
  simp[this,ih]
theorem EO (hk:k<=il.length):(st k).s.pe.length=(st 0).s.pe.length:=by
 induction k with
 | zero=>rfl
 | succ k ih=>
  rw[←ih (by omega),(T.step k il[k] (by simp)).next];cases il[k].dst <;> simp[St.put]
theorem bA (hk:k<=il.length):(st k).s.bA=(st 0).s.bA:=by
 induction k with
 | zero=>rfl
 | succ k ih=>
  rw[←ih (by omega),(T.step k il[k] (by simp)).next];cases il[k].dst <;> simp[St.put]
end lM
end Go.Ab
