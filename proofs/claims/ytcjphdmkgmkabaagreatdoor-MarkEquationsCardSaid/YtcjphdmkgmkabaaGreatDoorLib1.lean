import Derived.Test.YtcjphdmkgmkabaaGreatDoorLib0
import Derived.Lib.Builder
import Derived.Lib.ConvBytes
import Derived.Laws.AppendOwn
import Derived.RangeFuncLeaves
import Derived.Laws.Externs
import Derived.WalkKit
import Derived.Carry
import Derived.OpenShut
import Derived.ChangeSame
open Array renaming getD_eq_getD_getElem?→c7,getElem?_eq_some_iff→hZ,replicate→j8,toArray_toList→kw,getD→lC,toList_map→m7
open Bool renaming and_eq_true→b8,false_eq_true→ce,eq_false_iff→f8,and_true→jU,or_eq_true→n6,true_or→oO
open ByteArray renaming mk→oK
open Classical renaming em→mV
open Int renaming eq_ofNat_of_zero_le→j0
open List renaming getElem?_eq_some_iff→b5,getElem?_eq_getElem→b6,mem_cons→dN,getElem?_set→dO,map_toArray→d6,map_cons→d8,all_eq_true→d9,getElem?_append_left→fm,mem_append→fG,ext_getElem?→f7,map_nil→gF,nil_append→gT,getElem?_map→g9,length_cons→ii,drop_eq_getElem_cons→ip,length_nil→it,take_of_length_le→i4,getElem?_eq_none→i5,any_eq_true→i7,getElem?_mapIdx→i8,mem_singleton→jq,length_append→jD,getElem?_cons_succ→j1,cons_append→j2,isEmpty_iff→j3,drop_eq_nil_of_le→j6,getElem?_append→ky,replicate→kJ,getElem?_take→le,getElem?_inj→mp,flatMap_cons→mW,all_nil→m5,length_take→m6,lookup_cons→m8,drop_append→m9,take_append→ne,isEmpty_nil→nJ,foldl_cons→n7,mapM_cons→n8,all_cons→n9
open Nat renaming lt_or_ge→b9,le_refl→dY,beq→f9,lt_of_lt_of_le→iy,add_sub_cancel_left→i3,eq_of_beq_eq_true→i6,zero_add→i9,le_max_right→j4,beq_eq→j5,strongRecOn→j7,le_max_left→j9,add_zero→l9,lt_trichotomy→mU,zero_le→n3
open Option renaming map_eq_some_iff→b7,some→ci,bind_some→c9,bind_eq_some_iff→d7,map_some→fT
open Prod renaming mk→k9
open Go.Result renaming andThen_ok→c8
open Go.Sem renaming run_bind→c3,run_pure→f6
open UInt8 renaming ofNat→iz
open Go.Value renaming iface→n5
open Go.World renaming cell?→n4,freeze→oJ
set_option maxHeartbeats 8000000
set_option maxRecDepth 20000
namespace Go.Ab
variable {e:TypeId}
variable {P:Program} {gl:Nat->Option AV} {ρ:az} {w:World} {h:aa} {C:Cx} {s:St} {a:Act}
theorem V.UI {x:AV}{x':Value}(hx:V ρ w x x'){l:List AV}{n:Nat}(hs:dV h x=some (l,n)):(∃s,x = .str s)\/∃a c,x' = .slice a n c:=by
 cases x <;> simp only[dV,reduceCtorEq,ci.injEq,k9.injEq]at hs
 case str s=>simp
 case ab=>obtain⟨rfl,rfl⟩:=hs;cases hx;simp
 case vs=>obtain⟨rfl,rfl⟩:=hs;cases hx <;> exact .inr ⟨_,_,rfl⟩
 case sl b off len esz cap=>
  split at hs
  . simp only[b7,k9.injEq]at hs;obtain⟨_,_,rfl,rfl⟩:=hs;cases hx <;> exact .inr ⟨_,_,rfl⟩
  . split at hs
    . rename_i hn;subst hn;cases hs;cases hx <;> exact .inr ⟨_,_,rfl⟩
    grind
theorem Cz:∀(l:List AV) (t:List UInt8) (m:List Value),bytesOf l=some t->VL ρ w l m->∃ns:List Int,m=ns.map (Value.int .u8)/\t=ns.map fun n=>iz n.toNat
 | [],t,m,h,hv=>by
  simp only[bytesOf,ci.injEq]at h;subst h;exact⟨[],hv.kC,rfl⟩
 | x::l,t,m,h,hv=>by
  obtain⟨y,m',rfl,h1,h2⟩:=hv.cons_inv;cases x <;> first|(simp only[bytesOf,reduceCtorEq]at h;done)|skip
  rename_i k n;cases k <;> first|(simp only[bytesOf,reduceCtorEq]at h;done)|skip
  simp only[bytesOf]at h;split at h
  . rename_i t' ht;cases h;obtain⟨ns,rfl,rfl⟩:=Cz l t' m' ht h2;cases h1;exact⟨n::ns,rfl,rfl⟩
  . cases h
theorem fold_push (ns:List Int):∀r:ByteArray,ns.foldl (fun r n=>r.push (iz n.toNat)) r=⟨r.data++(ns.map fun n=>iz n.toNat).toArray⟩:=by
 induction ns<;>simp_all
theorem UJ (r:Rel C ρ s a w){src dst e:TypeId}{xo:Operand}(hs:C.P.underlying src=some (.slice e))(hd:C.P.underlying dst=some .string)(he:C.P.underlying e=some (.int .u8))
 {x:AV} (hx:V ρ w x (a.eval xo)) (hns:∀t,x≠.str t) {l:List AV} {n:Nat} (hl:dV s.hp x=some (l,n)) (hln:l.length=n) {t:List UInt8} (ht:bytesOf l=some t)
 {o:Oper} (ho:o.op = .convert src dst xo):cA C a.eval o ρ s.hp w ⟨.str t,s.hp,[]⟩:=by
 obtain⟨d,op,ty,pos,af,gd⟩:=o;simp only at ho;subst ho;refine cA.val (v':=.string ⟨t.toArray⟩) (w':=w) ?_ (iT r.mem (.str t));obtain⟨_,hf⟩:=nk (size:=1) r.mem hx hl ac;obtain⟨cs,h1,h2⟩:=hf n (dY _);rcases hx.UI hl with ⟨u,hu⟩|⟨ad,c,hx'⟩
 . grind
 . rw[hx']at h1;rw[Nat.mul_one,←hln,List.take_length]at h2;obtain⟨ns,rfl,rfl⟩:=Cz l t cs ht h2;have hrun:(convert src dst (a.eval xo)).run C.P w = .ok (.string ⟨(ns.map fun n=>iz n.toNat).toArray⟩) w:=by
    rw[hx'];rw[run_convert_bytes_string w src dst e ad n c hs he hd];cases ad with
    | none=>
     simp only[Builtin.firstCells,f6,Result.ok.injEq,and_true]at h1;have:ns=[]:=by
      cases ns with
      | nil=>rfl
      | cons _ _=>simp at h1
     subst this;rfl
    | some ad=>
     simp only[Builtin.firstCells,Nat.mul_one]at h1;rw[run_bytesToString w ad n c ns h1,fold_push];simp
   simp[execOp,hrun]
theorem Jp (r:Rel C ρ s a w){t kt et ty:TypeId}{x:AV}{x':Value}(hu:C.P.underlying t=some (.map kt et))(hx:V ρ w x x'){n:Nat}(hn:x = .eO/\n=0\/∃b es,x = .map b/\s.hp.at b=some (.map es)/\es.length=n) :
 (Builtin.len_ #[t] ty #[x']).run C.P w = .ok (.int .i64 n) w:=by
 rcases hn with ⟨rfl,rfl⟩|⟨b,es,rfl,hb,rfl⟩
 . cases hx;simp[Builtin.len_,bZ hu,goInt]
 . obtain⟨_,c,ms,clk,g1,g2,g3,_⟩:=Cu r.mem hb;cases hx with
   | map hρ=>rw[hρ]at g1;cases g1;simp[Builtin.len_,bZ hu,nu g2,g3,goInt]
   | iR _ hρ=>grind
theorem UK (r:Rel C ρ s a w){t u ty elem:TypeId}{n bb:Nat}(he:jF C.P t=some (elem,n,bb)){x y:AV}{x' y':Value}(hx:V ρ w x x')(hy:V ρ w y y')
 {src:List AV} {k:Nat} (hsrc:dV s.hp y=some (src,k)) (hl:src.length=k*n) (hone:src.all cI=true) {b off len:Nat} {cap:Option Nat} {l:List AV} {el:TypeId} (hxe:x = .sl b off len n cap) (hb:s.hp.at b=some (.cells l el))
 (hin:off+min k len*n<=l.length):∃w',(Builtin.copy_ #[t,u] ty #[x',y']).run C.P w = .ok (.int .i64 ((min k len:Nat):Int)) w'/\fg C.P C.gl ρ s.hp w ⟨.int .i64 ((min k len:Nat):Int),s.hp.put b (some (.cells (overwrite l off (src.take (min k len*n))) el)),[b]⟩ (.int .i64 ((min k len:Nat):Int)) w':=by
 subst hxe;obtain⟨i,hu,hi,rfl,rfl⟩:=nt he;obtain⟨h1,h2⟩:=nk r.mem hy hsrc hl;obtain⟨cs,h3,h4⟩:=h2 (min k len) ac;obtain⟨h0,hbr⟩:=mu r.mem hb;have h3':(Builtin.firstCells i.size (Nat.min k len) y').run C.P w = .ok cs.toArray w:=h3;cases hx with
 | @sl _ c d _ _ _ capC _ hρ hlc hcap hs=>
  have hone':(src.take (min k len*i.size)).all cI=true:=by
   rw[d9]at hone ⊢;exact bS
  have htl:(src.take (min k len*i.size)).length<=min k len*i.size:=by rw[m6];exact ac
  obtain⟨w',g1,m1,x1⟩:=sY (off:=off) r.mem hb hρ h4 ac (fun cs e fr hq=>by
   rcases hbr with ⟨c',d',cs',fr',q1,q2,q3,_⟩|⟨q1,_⟩
   . rw[hρ]at q1;cases q1;rw[hq]at q2;cases q2;have:=q3.1;omega
   grind) hone'
  refine⟨w',?_,ρ,.int _ _,m1,x1⟩;simp[Builtin.copy_,bZ hu,h1,iH hi,h3',g1,goInt]
 | gA hρ=>
  rcases hbr with ⟨c',d',cs',fr',q1,q2,q3,_⟩|⟨q1,rfl⟩
  . grind
  . have hz:min k 0=0:=Nat.min_zero _;refine⟨w,?_,ρ,.int _ _,?_,?_⟩
    . have h30:(Builtin.firstCells i.size 0 y').run C.P w = .ok cs.toArray w:=by rw[hz]at h3;exact h3
      simp[Builtin.copy_,bZ hu,h1,iH hi,h30,goInt]
    . have:s.hp.put b (some (.cells (overwrite [] 0 (src.take (min k 0*i.size))) el))=s.hp:=by
       unfold aa.put overwrite;rw[hz];simp;apply f7;intro j;rw[dO];split
       . grind
       . rfl
      rw[this];exact r.mem
    . have:s.hp.put b (some (.cells (overwrite [] 0 (src.take (min k 0*i.size))) el))=s.hp:=by
       unfold aa.put overwrite;rw[hz];simp;apply f7;intro j;rw[dO];split
       . grind
       . rfl
      grind[Ext.refl]
 | fB _ _ hρ _ _=>rcases hbr.live with ⟨_,_,hl'⟩|hl'|hl' <;> (rw[hρ]at hl';cases hl')
 | fX hρ=>rcases hbr.live with ⟨_,_,hl'⟩|hl'|hl' <;> (rw[hρ]at hl';cases hl')
 | gB a hρ=>rcases hbr.live with ⟨_,_,hl'⟩|hl'|hl' <;> (rw[hρ]at hl';cases hl')
theorem Jq {z:List AV}(hz:z.all cI=true):∀n,(fl z n).all cI=true
 | 0=>rfl
 | n+1=>by rw[fl,List.all_append,hz,Jq hz n];rfl
theorem UL (r:Rel C ρ s a w){t ty elem:TypeId}{n bb:Nat}(he:jF C.P t=some (elem,n,bb)){z:List AV}(hz:(zeroOf C.P elem).bind AV.cells=some z)(hzn:z.length=n)(hone:z.all cI=true){x':Value}{b off len:Nat}{cap:Option Nat}{l:List AV}{el:TypeId}(hx:V ρ w (.sl b off len n cap) x')(hb:s.hp.at b=some (.cells l el))(hlen:0<len)
 (hin:off+len*n<=l.length):∃w',(Builtin.clear_ #[t] ty #[x']).run C.P w = .ok (.tuple #[]) w'/\fg C.P C.gl ρ s.hp w ⟨.au [],s.hp.put b (some (.cells (overwrite l off (fl z len)) el)),[b]⟩ (.tuple #[]) w':=by
 obtain⟨i,hu,hi,rfl,rfl⟩:=nt he;obtain⟨i',zv,hi',hzv,hzl,hzrun⟩:=sZ hz;rw[hi]at hi';cases hi';have hzs:zv.cells.size=i.size:=by rw[←hzn,(hzl ρ w).toList]
 have hrep:=Cs (hzl ρ w) len;have hrl:=Ct z len;rw[hzn]at hrl;obtain⟨h0,hbr⟩:=mu r.mem hb;cases hx with
 | @sl _ c d _ _ _ capC _ hρ hlc hcap hs=>
  obtain⟨w',g1,m1,x1⟩:=sY (off:=off) r.mem hb hρ hrep ac (fun cs e fr hq=>by
   rcases hbr with ⟨c',d',cs',fr',q1,q2,q3,_⟩|⟨q1,_⟩
   . rw[hρ]at q1;cases q1;rw[hq]at q2;cases q2;have:=q3.1;omega
   grind) (Jq hone len)
  refine⟨w',?_,ρ,.jg .nil,m1,x1⟩;obtain⟨m,rfl⟩:∃m,len=m+1:=⟨len-1,ac⟩;simp only[Builtin.clear_];simp[bZ hu,hzrun,Builtin.zeroCells]<;>simp_all
 | gA hρ=>omega
 | fB _ _ hρ _ _=>rcases hbr.live with ⟨_,_,hl'⟩|hl'|hl' <;> (rw[hρ]at hl';cases hl')
 | fX hρ=>omega
 | gB a hρ=>omega
theorem Jr {P:Program}{t ty:TypeId}(hu:P.underlying t=some (.slice e)){w:World}{a:Option Addr}{c:Nat}:(Builtin.clear_ #[t] ty #[.slice a 0 c]).run P w = .ok (.tuple #[]) w:=by
 cases a <;> simp[Builtin.clear_,bZ hu]
theorem UM (r:Rel C ρ s a w){t u ty elem:TypeId}{n bb:Nat}(he:jF C.P t=some (elem,n,bb)){y:AV}{y':Value}(hy:V ρ w y y')
 {src:List AV} {k:Nat} (hsrc:dV s.hp y=some (src,k)) (hl:src.length=k*n):(Builtin.copy_ #[t,u] ty #[.slice none 0 0,y']).run C.P w = .ok (.int .i64 0) w:=by
 obtain⟨i,hu,hi,rfl,rfl⟩:=nt he;obtain⟨h1,h2⟩:=nk r.mem hy hsrc hl;obtain⟨cs,h3,h4⟩:=h2 0 (n3 _);simp[Builtin.copy_,bZ hu,h1,iH hi,h3,goInt]
theorem UN (r:Rel C ρ s a w){t e:TypeId}{n:Nat}{i:TypeInfo}{xo:Operand}{lo hi:Option Operand}(hu:C.P.underlying t=some (.array n e))(hie:C.P.info? e=some i){b o:Nat}(hx:V ρ w (.ptr b o) (a.eval xo))
 {l:List AV} {el:TypeId} (hb:s.hp.at b=some (.cells l el)) (hin:o+n*i.size<=l.length) {la ha:Option AV} (hl:VO ρ w la (lo.map a.eval)) (hh:VO ρ w ha (hi.map a.eval)) {h' l':Nat} (h2:bR ha n n=some h') (h3:bR la 0 h'=some l')
 {op:Oper} (ho:op.op = .slice t xo lo hi none):cA C a.eval op ρ s.hp w ⟨if l'<n then .sl b (o+l'*i.size) (h'-l') i.size (some (n-l')) else .vs [] 0 (some 0),s.hp,[]⟩:=by
 obtain⟨d,opp,ty,pos,af,gd⟩:=op;simp only at ho;subst ho;obtain⟨h0,hbr⟩:=mu r.mem hb;generalize hxv:a.eval xo=xv at hx;cases hx with
 | @ptr _ c d _ hρ=>
  have hrun:=TX (P:=C.P) (w:=w) (ρ:=ρ) hu hie (a:=⟨c,o+d,none⟩) hl hh h2 h3;have hh':=mr (dY _) h2;have hl':=mr (n3 _) h3;refine cA.val (v':=_) (w':=w) (by simp[execOp,hxv];rw[hrun];rfl) (iT r.mem ?_);rcases hbr with ⟨c',d',cs,fr,q1,q2,q3,_⟩|⟨q1,_⟩
  . rw[hρ]at q1;cases q1;split
    . rename_i hlt;rw[if_neg ac];have hmul:l'*i.size+(n-l')*i.size=n*i.size:=by rw[←Nat.add_mul];congr 1;omega
      have:(Addr.add ⟨c,o+d,none⟩ (l'*i.size))=⟨c,o+l'*i.size+d,none⟩:=by
       unfold Addr.add;split
       . grind
       . grind
      rw[this];exact .sl hρ ac be ⟨cs,el,fr,q2,by have:=q3.1;omega⟩
    . rename_i hge;have e1:n=l':=by omega
      rw[if_pos e1];rw[show h'-l'=0 from by omega,show n-l'=0 from by omega];exact V.empty be be be
  grind
 | eE _ _ _ hρ=>rcases hbr.live with ⟨_,_,hl'⟩|hl'|hl' <;> (rw[hρ]at hl';cases hl')
theorem UO {α:Type}(x:Array α)(y:α)(f:α->α):(x.push y).modify x.size f=x.push (f y):=by
 grind
theorem UP (w:World)(e:TypeId)(s:ByteArray):Lib.bytesWorld w e s =
 { w with drawn:=w.drawn+1,heap:=w.heap.push (.cells (Lib.bytesCells w e s) e ((Lib.bytesCells w e s).size,(Lib.bytesCells w e s).size+1)) }:=by
 unfold Lib.bytesWorld oJ World.alloc World.drew;grind[UO]
theorem UQ (r:Rel C ρ s a w){src dst e:TypeId}{xo:Operand}(hs:C.P.underlying src=some .string)(hd:C.P.underlying dst=some (.slice e))(he:C.P.underlying e=some (.int .u8))(hne:¬jY C.P e=true)
 {t:List UInt8} (hx:V ρ w (.str t) (a.eval xo)) {o:Oper} (ho:o.op = .convert src dst xo) :
 cA C a.eval o ρ s.hp w ⟨.sl s.hp.length 0 t.length 1 none,s.hp++[some (.cells (t.map fun c=>.int .u8 c.toNat) e)],[]⟩:=by
 obtain⟨d,op,ty,pos,af,gd⟩:=o;simp only at ho;subst ho;have hrun:=Lib.run_convert_string_bytes (P:=C.P) w src dst e ⟨t.toArray⟩ hs hd he;rw[UP]at hrun;have hge:=grownCap_ge w t.length 0 e;have hsz:(oK t.toArray).size=t.length:=by simp[ByteArray.size]
 have hcs:(Lib.bytesCells w e ⟨t.toArray⟩).size=grownCap w t.length 0 e:=by
  simp[Lib.bytesCells,hsz];omega
 have md:=r.mem.drew (w.drawn+1);have xd:=Ext.drew s.hp ρ w (w.drawn+1);have x:=Ext.alloc md (some (.cells (t.map fun c=>.int .u8 c.toNat) e)) (.cells (Lib.bytesCells w e ⟨t.toArray⟩) e ((Lib.bytesCells w e ⟨t.toArray⟩).size,(Lib.bytesCells w e ⟨t.toArray⟩).size+1)) (.live w.heap.size 0) be;refine cA.val (v':=.slice (some ⟨w.heap.size,0,none⟩) t.length (grownCap w t.length 0 e))
  (w':={ w with drawn:=w.drawn+1,heap:=w.heap.push (.cells (Lib.bytesCells w e ⟨t.toArray⟩) e ((Lib.bytesCells w e ⟨t.toArray⟩).size,(Lib.bytesCells w e ⟨t.toArray⟩).size+1)) }) ?_
  ⟨ρ.dT s.hp.length (.live w.heap.size 0),?_,Mem.alloc md _ _ _ be ?_,xd.trans x⟩
 . have e1:a.eval xo = .string ⟨t.toArray⟩:=hx.kD;simp only[execOp,e1,c3,hrun,c8,f6];rw[hsz]
 . exact .sl (d:=0) be hge be ⟨Lib.bytesCells w e ⟨t.toArray⟩,e,((Lib.bytesCells w e ⟨t.toArray⟩).size,(Lib.bytesCells w e ⟨t.toArray⟩).size+1),be,ac⟩
 . intro o' ho';cases ho';refine .inl ⟨w.heap.size,0,Lib.bytesCells w e ⟨t.toArray⟩,((Lib.bytesCells w e ⟨t.toArray⟩).size,(Lib.bytesCells w e ⟨t.toArray⟩).size+1),az.gC _ _ _,be,⟨bS,fun he=>absurd he hne⟩,fun i hi=>?_,fun i y z hy hz=>?_⟩
   . unfold World.frozen?;grind
   . simp only[g9,b7]at hy;obtain⟨c,hc,rfl⟩:=hy;have hi:i<t.length:=(b5.1 hc).1;simp only[Lib.bytesCells,l9]at hz;rw[Array.getElem?_append_left bS]at hz;simp[hc]at hz;subst hz;exact .int _ _
theorem td (m:Mem P gl ρ h w){b o:Nat}{l:List AV}{e:TypeId}(hb:h.at b=some (.cells l e)){v:Value}(hx:V ρ w (.ptr b o) v) :
 ∃c d cs fr,v = .pointer (some ⟨c,o+d,none⟩)/\ρ b = .live c d/\w.heap[c]? = some (.cells cs e fr)/\Fits P e d l.length cs.size /\
  ∀(i:Nat) x y,l[i]? = some x->cs[i+d]? = some y->V ρ w x y:=by
 obtain⟨h0,hbr⟩:=mu m hb;cases hx with
 | @ptr _ c d _ hρ=>
  rcases hbr with ⟨c',d',cs,fr,q1,q2,q3,_,q5⟩|⟨q1,_⟩<;>grind
 | eE _ _ _ hρ=>rcases hbr.live with ⟨_,_,hl'⟩|hl'|hl' <;> (rw[hρ]at hl';cases hl')
theorem CA {c:Nat}{cs:Array Value}{fr:Nat×Nat}(h:w.heap[c]? = some (.cells cs e fr)):w.shape? c=some (e,cs.size):=by
 simp[World.shape?,h]
theorem UR (r:Rel C ρ s a w){op:BinOp}{t:TypeId}{x y:Operand}{u ty:TypeId}{dst:Option Tmp}{pos:String}{af:Array Edge}{gd:Option (Nat×Bool)}(hcm:sN op=true)(ho:BZ C.P t=true){b o:Nat}{l:List AV}{e:TypeId}(hx:V ρ w (.ptr b o) (a.eval x))(hy:V ρ w (.ptr b o) (a.eval y))
 (hb:s.hp.at b=some (.cells l e)) {op':Oper} (hop:op'=⟨dst,.binOp op t x y u,ty,pos,af,gd⟩) :
 cA C a.eval op' ρ s.hp w ⟨.bool (!(op == .neq)),s.hp,[]⟩:=by
 subst hop;unfold BZ at ho;split at ho
 . rename_i te hu;obtain⟨j,hj⟩:∃j,C.P.info? te=some j:=by
    unfold jY at ho;grind
   obtain⟨c,d,cs,fr,e1,hρ,_⟩:=td r.mem hb hx;obtain⟨c',d',cs',fr',e2,hρ',_⟩:=td r.mem hb hy;rw[hρ]at hρ';cases hρ';have hE:(Op.equal t (a.eval x) (a.eval y)).run C.P w = .ok true w:=by
    rw[e1,e2];have h:∀d':Nat,(Op.equalIn (d'+1) t (.pointer (some ⟨c,o+d,none⟩)) (.pointer (some ⟨c,o+d,none⟩))).run C.P w = .ok true w:=fun d'=>by
     simp[Op.equalIn,bZ hu,sizeOf,typeInfo,hj,run_sameAddr_same]
    exact h 9999
   have hg:(eqGuard op t x y (a.eval x) (a.eval y)).run C.P w = .ok () w:=by
    rw[e1,e2];exact(by grind[sW])
   refine cA.val (v':=.bool (!(op == .neq))) (w':=w) ?_ (iT r.mem (.bool _));have hn:qN (a.eval x)=false:=by rw[e1];rfl
   cases op <;> simp only[sN,ce]at hcm
   . simp[execOp,hg,binOp_eql hn,hE]
   . simp[execOp,hg,binOp_neq hn,hE]
 grind
theorem US (r:Rel C ρ s a w){src dst t:TypeId}{i:TypeInfo}{x:Operand}(hs:C.P.underlying src=some (.pointer t))(hd:C.P.underlying dst=some .unsafePointer)(hi:C.P.info? t=some i)(hsz:¬i.size=0)
 {b o:Nat} {l:List AV} {e:TypeId} (hx:V ρ w (.ptr b o) (a.eval x)) (hb:s.hp.at b=some (.cells l e)) (hin:o<l.length) {op:Oper} (ho:op.op = .convert src dst x) :
 cA C a.eval op ρ s.hp w ⟨.ptr b o,s.hp,[]⟩:=by
 obtain⟨dd,oo,ty,pos,af,gd⟩:=op;simp only at ho;subst ho;obtain⟨c,d,cs,fr,e1,hρ,h2,h3,_⟩:=td r.mem hb hx;have hrun:=Lib.run_to_unsafe (P:=C.P) w (src:=src) (dst:=dst) ⟨c,o+d,none⟩ hs hd hi hsz (CA h2) (by have:=h3.1;grind);exact cA.val (v':=a.eval x) (w':=w) (by rw[e1];simp[execOp,e1,hrun]) (iT r.mem hx)
theorem UT (r:Rel C ρ s a w){src dst u:TypeId}{i:TypeInfo}{x:Operand}(hs:C.P.underlying src=some .unsafePointer)(hd:C.P.underlying dst=some (.pointer u))(hi:C.P.info? u=some i)(hex:jY C.P u=true)
 (hlie:liesAt C.P C.P.depth u (C.P.cellsOf u/C.P.cellsOf u) 0 u 1=true) {b:Nat} {l:List AV} (hx:V ρ w (.ptr b 0) (a.eval x)) (hb:s.hp.at b=some (.cells l u)) (hl:l.length=C.P.cellsOf u) {op:Oper} (ho:op.op = .convert src dst x) :
 cA C a.eval op ρ s.hp w ⟨.ptr b 0,s.hp,[]⟩:=by
 obtain⟨dd,oo,ty,pos,af,gd⟩:=op;simp only at ho;subst ho;obtain⟨c,d,cs,fr,e1,hρ,h2,h3,_⟩:=td r.mem hb hx;obtain⟨rfl,h4⟩:=h3.2 hex;have hrun:=Lib.run_from_unsafe (P:=C.P) w (src:=src) (dst:=dst) ⟨c,0+0,none⟩ hs hd hi (CA h2) bS;exact cA.val (v':=a.eval x) (w':=w) (by rw[e1];simp[execOp,e1,hrun]) (iT r.mem hx)
theorem UU (r:Rel C ρ s a w){t u ty:TypeId}{x n:Operand}{dst:Option Tmp}{pos:String}{af:Array Edge}{gd:Option (Nat×Bool)}{kk:IntKind}(hx:V ρ w .dG (a.eval x))(hn:V ρ w (.int kk 0) (a.eval n)) :
 cA C a.eval ⟨dst,.call ⟨.builtin .unsafeString,[x,n].toArray,[t,u].toArray⟩,ty,pos,af,gd⟩ ρ s.hp w ⟨.str [],s.hp,[]⟩:=by
 have e1:=hn.im;generalize hxv:a.eval x=xv at hx;cases hx;refine cA.val (v':=.string .empty) (w':=w) ?_ (iT r.mem (V.str []));rw[iJ];have hmax:IntKind.i64.max=9223372036854775807:=rfl;have hdef:Builtin.unsafeString_ [t,u].toArray ty #[.pointer none,.int kk 0] =
  (do
    let n ←asInt (.int kk 0)
    if n < 0 then runtimePanic (.error "unsafe.String: len out of range")
    if n > IntKind.i64.max then unsupported (.unsafePointer "String: a length above the largest int")
    if n=0 then pure (.string .empty)
    else runtimePanic (.error "unsafe.String: ptr is nil and len is not zero")) := rfl
 have hrun:(Builtin.unsafeString_ [t,u].toArray ty #[.pointer none,.int kk 0]).run C.P w = .ok (.string .empty) w:=by
  rw[hdef];simp[asInt,asIntOf,hmax]
 simp only[builtin,d6,d8,gF,c3,hxv,e1,hrun];rfl
theorem UW {P:Program}(hc:P.cellsOf e=1)(count off n:Nat)(hn:off+n<=count):liesAt P P.depth e count off e n=true:=by
 have hd:P.depth=(2*(P.types.size+Made.depth)+1)+1:=rfl;rw[hd];simp only[liesAt,n6];left;rw[hd];simp[rowAt,hc,hn,sameLayout,Nat.mod_one]
theorem Js {P:Program}(w:World):∀(l:List Int) (a:Addr) (acc:ByteArray),(∀(j:Nat) x,l[j]? = some x->w.cell? (a.add j)=some (.int .u8 x)) ->
 (loadBytes a acc l.length).run P w = .ok ⟨acc.data++(l.map fun z=>iz z.toNat).toArray⟩ w
 | [],a,acc,_=>by rfl
 | x::l,a,acc,h=>by
  have h0:w.cell? a=some (.int .u8 x):=by
   have:=h 0 x rfl;simpa[Addr.add] using this
  have ih:=Js (P:=P) w l (a.add 1) (acc.push x.toNat.toUInt8) (fun j y hy=>by
   have:=h (j+1) y (by simpa using hy);have e:(a.add 1).add j=a.add (j+1):=by
    unfold Addr.add;by_cases hj:j=0
    . subst hj;simp
    . simp[hj];omega
   rw[e];exact this)
  simp only[ii,loadBytes,c3,run_load,h0,Result.andThen];rw[ih];congr 1;apply ByteArray.ext;simp[ByteArray.push]
theorem UX {c o n:Nat}{cs:Array Value}{fr:Nat×Nat}(h:w.heap[c]? = some (.cells cs e fr))(hn:n≠0) :
 ∃fr',w.freeze ⟨c,o,none⟩ n=w.dD c (.cells cs e fr'):=by
 obtain⟨lo,hi⟩:=fr;have hlt:=(hZ.1 h).1;refine⟨if lo == hi then (o,o+n) else (min lo o,max hi (o+n)),?_⟩;unfold oJ World.dD;rw[if_neg hn];congr 1<;>grind
theorem UY (r:Rel C ρ s a w){t u ty e:TypeId}{x n:Operand}{dst:Option Tmp}{pos:String}{af:Array Edge}{gd:Option (Nat×Bool)}{kk:IntKind}{k:Int}(hu:C.P.underlying t=some (.pointer e))(hce:C.P.cellsOf e=1)
 {b o:Nat} (hx:V ρ w (.ptr b o) (a.eval x)) (hn:V ρ w (.int kk k) (a.eval n)) (hk:0<k) (hk':k<=2^46) {l:List AV} (hb:s.hp.at b=some (.cells l e)) {c:List AV} (hcut:cut l o k.toNat=some c) {t':List UInt8} (hbo:bytesOf c=some t') :
 cA C a.eval ⟨dst,.call ⟨.builtin .unsafeString,[x,n].toArray,[t,u].toArray⟩,ty,pos,af,gd⟩ ρ s.hp w ⟨.str t',s.hp.put b none,[b]⟩:=by
 obtain⟨h0,_⟩:=mu r.mem hb;obtain⟨cb,d,cs,fr,e1,hρ,h2,h3,h5⟩:=td r.mem hb hx;have e2:=hn.im;obtain⟨m,rfl⟩:=j0 (Int.le_of_lt hk);rw[Int.toNat_natCast]at hcut;unfold cut at hcut;simp only at hcut;split at hcut
 . rename_i hlen;cases hcut;have hm:o+m<=l.length:=by simp at hlen;omega
   have hm0:m≠0:=by omega
   have hsz:o+d+m<=cs.size:=by have:=h3.1;omega
   have hVL:VL ρ w ((l.drop o).take m) ((cs.toList.drop (o+d)).take m):=by
    refine⟨bS,fun i x y hx hy=>?_⟩;rw[le]at hx hy;split at hx
    . grind
    . cases hx
   obtain⟨ns,hns,rfl⟩:=Cz _ _ _ hbo hVL;have hnl:ns.length=m:=by
    have:=congrArg List.length hns;simp at this;omega
   have hcell:∀(j:Nat) z,ns[j]? = some z->w.cell? ((⟨cb,o+d,none⟩:Addr).add j)=some (.int .u8 z):=by
    intro j z hz;have hj:j<m:=by have:=(b5.1 hz).1;omega
    have h7:((cs.toList.drop (o+d)).take m)[j]? = some (.int .u8 z):=by rw[hns];simp[hz]
    rw[le,if_pos hj,List.getElem?_drop]at h7;rw[Addr.iI];unfold n4;simp only[h2];rw[if_neg be];simpa using h7
   have hlb:=Js (P:=C.P) w ns ⟨cb,o+d,none⟩ .empty hcell;rw[hnl]at hlb;have hlie:=UW (P:=C.P) hce (cs.size/C.P.cellsOf e) (o+d) m bS;obtain⟨fr',hfr⟩:=UX (o:=o+d) h2 hm0;have hrun:(Builtin.unsafeString_ [t,u].toArray ty #[.pointer (some ⟨cb,o+d,none⟩),.int kk m]).run C.P w = .ok (.string ⟨(ns.map fun z=>iz z.toNat).toArray⟩) (w.dD cb (.cells cs e fr')):=by
    have hmax:IntKind.i64.max=9223372036854775807:=rfl;have h63:¬(9223372036854775807:Int)<(m:Int):=by omega
    have hneg:¬(m:Int)<0:=by omega
    have hdef:Builtin.unsafeString_ [t,u].toArray ty #[.pointer (some ⟨cb,o+d,none⟩),.int kk m] =
     (do
       let n ←asInt (.int kk m)
       if n < 0 then runtimePanic (.error "unsafe.String: len out of range")
       if n > IntKind.i64.max then unsupported (.unsafePointer "String: a length above the largest int")
       if n=0 then pure (.string .empty)
       else if ←variablesAt ⟨cb,o+d,none⟩ (←elemOf t) n.toNat then do
        let s ←loadBytes ⟨cb,o+d,none⟩ .empty n.toNat
        freeze ⟨cb,o+d,none⟩ n.toNat
        pure (.string s)
       else unsupported (.unsafePointer "String: not so many bytes at ptr")) := rfl
    rw[hdef];simp[asInt,asIntOf,hmax,h63,hneg,hm0,variablesAt,CA h2,elemOf,bZ hu,hlie,hlb,hfr]
   have hO:∀cs0 e0 fr0,w.heap[cb]? = some (.cells cs0 e0 fr0)->∃cs' fr'',Obj.cells cs e fr' = .cells cs' e0 fr''/\cs'.size=cs0.size:=by
    intro cs0 e0 fr0 hq;rw[h2]at hq;cases hq;exact⟨_,_,rfl,rfl⟩
   refine cA.val (v':=.string ⟨(ns.map fun z=>iz z.toNat).toArray⟩) (w':=w.dD cb (.cells cs e fr')) ?_
    ⟨ρ,V.str _,Mem.write r.mem h0 hρ none _ hO be,Ext.write r.mem h0 hρ none _ hO⟩
   rw[iJ];simp only[builtin,d6,d8,gF,c3,e1,e2,hrun];rfl
 grind
theorem UZ (r:Rel C ρ s a w){o:Oper}{io:bg}(hc:jG C o=some io)(hh:io.bF=true){q:HR}(hq:bG s io s.hp=some q):cA C a.eval o ρ s.hp w q:=by
 obtain⟨dst,op,ty,pos,af,gd⟩:=o;cases op <;> simp only[jG]at hc
 case move x=>simp only[b7]at hc;obtain⟨y,h1,rfl⟩:=hc;cases hh
 case assign x=>simp only[b7]at hc;obtain⟨y,h1,rfl⟩:=hc;cases hh
 case pick c x y=>split at hc <;> first|(cases hc;done)|(cases hc;cases hh)
 case nilCheck x=>simp only[b7]at hc;obtain⟨y,h1,rfl⟩:=hc;cases hh
 case unOp=>simp only[b7]at hc;obtain⟨y,h1,rfl⟩:=hc;cases hh
 case extract=>simp only[b7]at hc;obtain⟨y,h1,rfl⟩:=hc;cases hh
 case makeFunc=>
                  repeat' (first|(cases hc;done)|split at hc)
                  all_goals (cases hc;cases hh)
 case makeInterface=>split at hc <;> first|(cases hc;done)|(simp only[b7]at hc;obtain⟨y,h1,rfl⟩:=hc;cases hh)
 case build=>
               repeat' (first|(cases hc;done)|split at hc)
               all_goals (simp only[b7]at hc;obtain⟨y,h1,rfl⟩:=hc;cases hh)
 case binOp op t x y u=>
  split at hc
  . rename_i x' y' h1 h2;split at hc
    . split at hc
      . rename_i hcmp hown;cases hc;simp only[bG]at hq;split at hq
        . rename_i b o b' o' h3 h4;split at hq
          . rename_i l e hb;split at hq
            . rename_i hcond;obtain⟨rfl,rfl⟩:=hcond;cases hq;exact UR r bS bS (r.ae h1 h3) (r.ae h2 h4) hb rfl
            grind
          grind
        grind
      . split at hc
        . cases hc
        . simp only[b7]at hc;obtain⟨y,h1,rfl⟩:=hc;cases hh
    . cases hc;cases hh
  grind
 case fieldAddr=>
                   repeat' (first|(cases hc;done)|split at hc)
                   all_goals (cases hc;cases hh)
 case field=>
               repeat' (first|(cases hc;done)|split at hc)
               all_goals (cases hc;cases hh)
 case indexAddr=>
                   repeat' (first|(cases hc;done)|split at hc)
                   all_goals (cases hc;cases hh)
 case index=>
               repeat' (first|(cases hc;done)|split at hc)
               all_goals (cases hc;cases hh)
 case alloc e=>
  split at hc
  . rename_i z hz;simp only[b7]at hc;obtain⟨zc,h1,rfl⟩:=hc;simp only[bG,ci.injEq]at hq;subst hq;exact UA r bS rfl
  grind
 case box e x=>
  split at hc
  . rename_i n ag x' hs hx;cases hc;simp only[bG]at hq;split at hq
    . rename_i l hl;split at hq
      . cases hq;simp only[d7]at hl;obtain⟨v,h1,h2⟩:=hl;exact Uz r (r.ae hx h1) h2 rfl
      grind
    grind
  grind
 case buildSlice t len ps=>
  split at hc
  . rename_i e n bb he;split at hc
    . rename_i z l hz hl;split at hc
      . rename_i hcond;cases hc;simp only[bG]at hq;split at hq
        . rename_i vs hvs;split at hq
          . rename_i l' hl';split at hq
            . rename_i hlen;cases hq;exact Ux r he hz hl hcond.2.2 hcond.2.1 hcond.1 hvs hl' hlen rfl
            grind
          grind
        grind
      grind
    grind
  grind
 case load t x=>
  split at hc
  . rename_i n ag x' hs hx;cases hc;simp only[bG]at hq;split at hq
    . rename_i l hl;split at hq
      . rename_i v hv;cases hq;simp only[d7]at hl;obtain⟨u,h1,h2⟩:=hl;exact UB r hs (r.ae hx h1) h2 hv rfl
      grind
    grind
  grind
 case store t x y=>
  split at hc
  . rename_i n ag x' y' hs hx hy;cases hc;simp only[bG]at hq;split at hq
    . rename_i b off new h1 h2;split at hq
      . rename_i l el hb;split at hq
        . rename_i hcond;cases hq;simp only[d7]at h2;obtain⟨u,h3,h4⟩:=h2;exact UC r hs (r.ae hx h1) (r.ae hy h3) h4 hb hcond.1 hcond.2.1 hcond.2.2 rfl
        grind
      grind
    grind
  grind
 case convert src dst x=>
  split at hc <;> try (cases hc;done)
  . cases hc;cases hh
  . cases hc;cases hh
  . cases hc;cases hh
  . rename_i e x' hs hd hx;split at hc
    . rename_i he;split at hc
      . cases hc
      . rename_i hne;cases hc;simp only[bG]at hq;split at hq
        . rename_i t h1;cases hq;exact UQ r hs hd he hne (r.ae hx h1) rfl
        grind
    grind
  . rename_i e x' hs hd hx;split at hc
    . rename_i he;cases hc;simp only[bG]at hq;split at hq
      . cases hq
      . rename_i y hns h1;split at hq
        . rename_i l n hl;split at hq
          . rename_i hln;split at hq
            . rename_i t ht;cases hq;exact UJ r hs hd he (r.ae hx h1) ac hl hln ht rfl
            grind
          grind
        grind
      grind
    grind
  . rename_i t x' hs hd hx;split at hc
    . rename_i i hi;split at hc
      . cases hc
      . rename_i hsz;cases hc;simp only[bG]at hq;split at hq
        . rename_i b o h1;split at hq
          . rename_i l e hb;split at hq
            . rename_i hcond;cases hq;exact US r hs hd hi hsz (r.ae hx h1) hb hcond.1 rfl
            grind
          grind
        grind
    grind
  . rename_i u x' hs hd hx;split at hc
    . rename_i i hi;split at hc
      . rename_i hlie;cases hc;simp only[bG]at hq;split at hq
        . rename_i b o h1;split at hq
          . rename_i l e hb;split at hq
            . rename_i hcond;cases hq;simp only[decide_eq_true_eq]at hcond;obtain⟨_,rfl,rfl,hl⟩:=hcond;simp only[b8]at hlie;exact UT r hs hd hi hlie.1 hlie.2 (r.ae hx h1) hb hl rfl
            grind
          grind
        grind
      grind
    grind
 case makeMap t res=>
  cases res with
  | some _=>cases hc
  | none=>
   cases hc;simp only[bG,ci.injEq]at hq;subst hq;exact UF r rfl
 case makeSlice t l c=>
  split at hc
  . rename_i e n bb l' c' he hl hcc;split at hc
    . rename_i z hz;split at hc
      . rename_i hcond;cases hc;simp only[bG]at hq;split at hq
        . rename_i x y h1 h2;split at hq
          . rename_i hk;cases hq;simp only[d7]at h1 h2;obtain⟨u,h3,h4⟩:=h1;obtain⟨u',h5,h6⟩:=h2;cases u <;> simp only[sw,reduceCtorEq,ci.injEq]at h4;cases u' <;> simp only[sw,reduceCtorEq,ci.injEq]at h6;subst h4;subst h6;exact Uy r he hz hcond.1 hcond.2 (r.ae hl h3).im (r.ae hcc h5).im hk.1 hk.2.1 hk.2.2.1 hk.2.2.2.1 rfl
          grind
        grind
      grind
    grind
  grind
 case slice t x lo hi mx=>
  split at hc <;> try (cases hc;done)
  . cases hc;cases hh
  . split at hc
    . cases hc;cases hh
    grind
  . rename_i n e x' l' h' hu hx hlo hhi hmx;split at hc
    . rename_i i hi';cases hc;have hmx0:mx=none:=by
       cases mx with
       | none=>rfl
       | some m=>simp[mZ]at hmx
      subst hmx0;simp only[bG]at hq;split at hq
      . rename_i b o la ha h1 h2 h3;split at hq
        . rename_i l el hb;split at hq
          . rename_i hin;split at hq
            . rename_i hb' hbb;split at hq
              . rename_i ll hll;cases hq;exact UN r hu hi' (r.ae hx h1) hb hin (pb r hlo h2) (pb r hhi h3) hbb hll rfl
              grind
            grind
          grind
        grind
      grind
    grind
 case lookup t x i ok=>
  split at hc
  . rename_i kt et x' i' hu hx hi;split at hc
    . rename_i k z hk hz;cases hc;simp only[bG]at hq;split at hq
      . rename_i m kv h1 h2;split at hq
        . rename_i bT;split at hq
          . rename_i es hes;split at hq
            . rename_i q' hf;cases hq;have hes':m = .eO/\es=[]\/∃b,m = .map b/\s.hp.at b=some (.map es):=by
               split at hes
               . grind
               . grind
               . cases hes
              have:=UE r hu hk hz (r.ae hx h1) (r.ae hi h2) bT hes' hf (ok:=ok) (o:=⟨dst,.lookup t x i ok,ty,pos,af,gd⟩) rfl;cases q' <;> exact this
            grind
          grind
        grind
      grind
    grind
  grind
 case mapUpdate t m i x=>
  split at hc
  . rename_i kt et m' i' x' hu hm hi hx;simp only[b7]at hc;obtain⟨k,hk,rfl⟩:=hc;simp only[bG]at hq;split at hq
    . rename_i b kv v h1 h2 h3;split at hq
      . rename_i bT;split at hq
        . rename_i es hb;split at hq
          . rename_i j u hf;cases hq;exact wI r hu hk (r.ae hm h1) (r.ae hi h2) (r.ae hx h3) bT hb hf (.inl rfl)
          . rename_i hf;cases hq;exact wI r hu hk (r.ae hm h1) (r.ae hi h2) (r.ae hx h3) bT hb hf (.inl rfl)
          grind
        grind
      grind
    grind
  grind
 case insert t m i x=>
  split at hc
  . rename_i kt et m' i' x' hu hm hi hx;simp only[b7]at hc;obtain⟨k,hk,rfl⟩:=hc;simp only[bG]at hq;split at hq
    . rename_i b kv v h1 h2 h3;split at hq
      . rename_i bT;split at hq
        . rename_i es hb;split at hq
          . rename_i j u hf;cases hq;exact wI r hu hk (r.ae hm h1) (r.ae hi h2) (r.ae hx h3) bT hb hf (.inr rfl)
          . rename_i hf;cases hq;exact wI r hu hk (r.ae hm h1) (r.ae hi h2) (r.ae hx h3) bT hb hf (.inr rfl)
          grind
        grind
      grind
    grind
  grind
 case range t x=>
  split at hc
  . rename_i x' hu hx;cases hc;simp only[bG]at hq;split at hq
    . rename_i u h1;cases hq;exact UG r hu (r.ae hx h1) rfl
    grind
  grind
 case next x st=>
  cases st with
  | false=>cases hc
  | true=>
   simp only[b7]at hc;obtain⟨x',hx,rfl⟩:=hc;simp only[bG]at hq;split at hq
   . rename_i b h1;split at hq
     . rename_i t pos hb;have:=UH r (r.ae hx h1) hb (o:=⟨dst,.next x true,ty,‹String›,af,gd⟩) rfl<;>grind
     grind
   grind
 case call c=>
  obtain⟨callee,args,ats⟩:=c;cases callee with
  | value f=>
   simp only at hc;split at hc
   . cases hc;simp[bG]at hq
   grind
  | invoke x name=>
   simp only at hc;split at hc
   . cases hc;simp[bG]at hq
   grind
  | builtin b=>
   simp only at hc;split at hc <;> try (cases hc;done)
   . rename_i t x h1 h2;obtain rfl:=iS h1;obtain⟨x0,hx0,h3⟩:=qO h2;obtain rfl:=iS hx0;split at hc
     . cases hc;cases hh
     . rename_i kt et hu;cases hc;simp only[bG]at hq;split at hq
       . rename_i b' h4;split at hq
         . rename_i es he;cases hq;have hl:=Jp r hu (ty:=ty) (r.ae h3 h4) (.inr ⟨b',es,rfl,he,rfl⟩);refine cA.val (v':=.int .i64 es.length) (w':=w) ?_ (iT r.mem (.int _ _));rw[iJ];simp[builtin,hl]
         grind
       . rename_i h4;cases hq;have hl:=Jp r hu (ty:=ty) (r.ae h3 h4) (.inl ⟨rfl,rfl⟩);refine cA.val (v':=.int .i64 0) (w':=w) ?_ (iT r.mem (.int _ _));rw[iJ];simp only[builtin,d6,d8,gF,c3,hl];rfl
       grind
     . cases hc;cases hh
     . cases hc;cases hh
     grind
   . split at hc <;> first|(cases hc;done)|(cases hc;cases hh)
   . rename_i t u x y h1 h2;obtain rfl:=iS h1;obtain⟨x0,x1,hx0,h3,h4⟩:=Cl h2;obtain rfl:=iS hx0;have fin:∀e n bb,jF C.P t=some (e,n,bb)->((∃e,C.P.underlying u=some (.slice e))\/C.P.underlying u=some .string)->wk C.P e n=true->jY C.P e=false->io = .append e n bb x y ->
      cA C a.eval ⟨dst,.call ⟨.builtin .append,[x0,x1].toArray,[t,u].toArray⟩,ty,pos,af,gd⟩ ρ s.hp w q:=by
      rintro e n bb he hu hzf hne rfl;simp only[bG]at hq;split at hq
      . rename_i xa ya hx hy;obtain⟨i,hu0,hi,rfl,rfl⟩:=nt he;unfold wk at hzf;split at hzf
        . rename_i z hz;obtain⟨i',zv,hi',hzv,hzl,_⟩:=sZ hz;rw[hi]at hi';cases hi';have hzs:zv.cells.size=i.size:=by
           have e1:=(hzl ρ w).toList;rw[←e1];simpa using hzf
          obtain⟨v',w',g1,g2⟩:=Uw (ty:=ty) r.mem ⟨hu0,hu,hi,hzv,hzs⟩ (r.ae h3 hx) (r.ae h4 hy) hne hq;refine cA.val (v':=v') (w':=w') ?_ g2;rw[iJ];simp[builtin,g1]
        grind
      . cases hq
     grind
   . rename_i t u x y h1 h2;obtain rfl:=iS h1;obtain⟨x0,x1,hx0,h3,h4⟩:=Cl h2;obtain rfl:=iS hx0;split at hc <;> try (cases hc;done)
     rename_i e n bb he;split at hc <;> try (cases hc;done)
     rename_i hn0;cases hc;simp only[bG]at hq;split at hq <;> try (cases hq;done)
     . rename_i b off len e' cap ya hx hy;split at hq <;> try (cases hq;done)
       rename_i src k hsrc;split at hq <;> try (cases hq;done)
       rename_i hcond;obtain⟨rfl,hl,hone⟩:=hcond;split at hq <;> try (cases hq;done)
       rename_i l el hb;split at hq <;> try (cases hq;done)
       rename_i hin;cases hq;obtain⟨w',g1,g2⟩:=UK (u:=u) (ty:=ty) r he (r.ae h3 hx) (r.ae h4 hy) hsrc hl hone rfl hb hin;refine cA.val (v':=.int .i64 ((min k len:Nat):Int)) (w':=w') ?_ g2;rw[iJ];simp only[builtin,d6,d8,gF,c3,g1];rfl
     . rename_i ya hx hy;split at hq <;> try (cases hq;done)
       rename_i src k hsrc;split at hq <;> try (cases hq;done)
       rename_i hl;cases hq;have e0:=(r.ae h3 hx);generalize hxv:a.eval x0=xv at e0;cases e0;have g1:=UM (u:=u) (ty:=ty) r he (r.ae h4 hy) hsrc hl;refine cA.val (v':=.int .i64 0) (w':=w) ?_ (iT r.mem (.int _ _));rw[iJ];simp only[builtin,d6,d8,gF,c3,hxv,g1];rfl
   . rename_i t x h1 h2;obtain rfl:=iS h1;obtain⟨x0,hx0,h3⟩:=qO h2;obtain rfl:=iS hx0;split at hc <;> try (cases hc;done)
     rename_i e n bb he;split at hc <;> try (cases hc;done)
     rename_i z hz;split at hc <;> try (cases hc;done)
     rename_i hzn;cases hc;simp only[bG]at hq;split at hq <;> try (cases hq;done)
     . rename_i b off len e' cap hx;split at hq <;> try (cases hq;done)
       rename_i hcond;obtain⟨rfl,hone,_,hlen⟩:=hcond;split at hq <;> try (cases hq;done)
       rename_i l el hb;split at hq <;> try (cases hq;done)
       rename_i hin;cases hq;obtain⟨w',g1,g2⟩:=UL (ty:=ty) r he hz hzn.1 hone (r.ae h3 hx) hb hlen hin;refine cA.val (v':=.tuple #[]) (w':=w') ?_ g2;rw[iJ];simp only[builtin,d6,d8,gF,c3,g1];rfl
     . rename_i cap hx;cases hq;obtain⟨i,hu,_⟩:=nt he;have e0:=r.ae h3 hx;generalize hxv:a.eval x0=xv at e0;have g1:(Builtin.clear_ #[t] ty #[xv]).run C.P w = .ok (.tuple #[]) w:=by
        cases e0 <;> exact Jr hu
       refine cA.val (v':=.tuple #[]) (w':=w) ?_ (iT r.mem (.jg .nil));rw[iJ];simp only[builtin,d6,d8,gF,c3,hxv,g1];rfl
     . rename_i hx;cases hq;obtain⟨i,hu,_⟩:=nt he;have e0:=r.ae h3 hx;generalize hxv:a.eval x0=xv at e0;have g1:(Builtin.clear_ #[t] ty #[xv]).run C.P w = .ok (.tuple #[]) w:=by
        cases e0 <;> exact Jr hu
       refine cA.val (v':=.tuple #[]) (w':=w) ?_ (iT r.mem (.jg .nil));rw[iJ];simp only[builtin,d6,d8,gF,c3,hxv,g1];rfl
   . split at hc <;> first|(cases hc;done)|(cases hc;cases hh)
   . rename_i t u x n h1 h2;obtain rfl:=iS h1;obtain⟨x0,x1,hx0,h3,h4⟩:=Cl h2;obtain rfl:=iS hx0;split at hc <;> try (cases hc;done)
     rename_i e hu;split at hc <;> try (cases hc;done)
     rename_i hce;cases hc;simp only[bG]at hq;split at hq <;> try (cases hq;done)
     . rename_i kk k h5 h6;split at hq <;> try (cases hq;done)
       rename_i hk;subst hk;cases hq;exact UU r (r.ae h3 h5) (r.ae h4 h6)
     . rename_i b o kk k h5 h6;split at hq <;> try (cases hq;done)
       rename_i hk;split at hq <;> try (cases hq;done)
       rename_i l el hb;split at hq <;> try (cases hq;done)
       rename_i hel;subst hel;split at hq <;> try (cases hq;done)
       rename_i c hcut;split at hq <;> try (cases hq;done)
       rename_i t' hbo;cases hq;exact UY r hu hce (r.ae h3 h5) (r.ae h4 h6) hk.1 hk.2 hb hcut hbo
   . cases hc;cases hh
   . cases hc;cases hh
 case typeAssert x xt t ok=>
  split at hc
  . cases hc
  . split at hc
    . cases hc;cases hh
    grind
  grind
 all_goals (cases hc)
end Go.Ab
namespace Go.Ab
variable {P:Program} {gl:Nat->Option AV} {ρ:az} {w:World} {h:aa} {C:Cx} {s:St} {a:Act}
def FR (ro:Option Nat):Fence:={ fn:=fun _=>True,depth:=none,alive:=false,round:=ro }
def kc (P:Program)(nx:Next)(w1:World)(R:Value->World->Prop):Prop:=
 match nx with
 | .value v=>R v w1
 | .enter f args=>CallsIn Fence.wide 0 P f args w1 fun
   | .returned v,w'=>R v w'
   | _,_=>False
 | .round l f tmps as bd=>RoundIn Fence.wide 0 P l f tmps as bd w1 fun
   | .returned v,w'=>R v w'
   | _,_=>False
 | _=>False
def pd (g':Value)(as':Array Value):Sem Next:=do
 let d ←Deferred.ofValue g' as'
 invoke d.target d.args
def fI (h:aa)(r:HR):Prop:=h.length<=r.h.length/\∀b,b<h.length->b∉r.wr->r.h[b]? = h[b]?
structure nz (P:Program)(gl:Nat->Option AV)(call:dX):Prop where
 wr:∀g as h r,call g as h=some r->fI h r
 ok:∀g as h r,call g as h=some r->∀ρ w g' (as':List Value),Mem P gl ρ h w->V ρ w g g'->VL ρ w as as' ->
  ∃nx w1,(pd g' as'.toArray).run P w = .ok nx w1/\kc P nx w1 fun v w'=>fg P gl ρ h w r v w'
theorem Jt {ro:Option Nat}{o:Oper}{a:Act}{next:Act->World->Prop}{Q:Exit->Act->World->Prop}{nx:Next}{w1:World}{R:Value->World->Prop}
 (h:kc P nx w1 R) (hn:∀v w',R v w'->next (a.put o.dst v) w'):o.uponIn (FR ro) 0 P a next Q (.ok nx w1):=by
 cases nx <;> simp only[kc]at h
 case value v=>exact hn _ _ h
 case enter f args=>
  refine⟨fun hd=>(by cases hd),CallsIn.mono (F:=Fence.wide) (n:=0) h ?_⟩<;>grind
 case round l f tmps as bd=>
  refine⟨fun hd=>(by cases hd),RoundIn.mono (F:=Fence.wide) (n:=0) h ?_⟩<;>grind
theorem Va {t:TypeId}{name:String}{f:FuncId}(h:ew P t name=some f)(n:Nat)(v:Value):(method (n+1) t v name).run P w = .ok (f,v) w:=by
 unfold ew at h;split at h
 . rename_i i u hi hu;split at h
   . rename_i m hm;rw[Array.find?_toList]at hm;split at h
     . rename_i f' ptr hf hp;have hp':m.path.isEmpty=true:=by
        cases hq:m.path with|mk l=>grind
       unfold method;simp only[c3,wA hi,c8,hm,hp,follow,f6,hf];split at h
       . rename_i e;cases h;simp[receiverAt,bZ hu,Place.get]
       . cases h
       . rename_i hne;cases h;unfold receiverAt;cases u <;> first|(exact absurd rfl (hne _))|simp[bZ hu,Place.get]
       . cases h
     . cases h
   . cases h
 . cases h
theorem Vb (n:Nat):∃k,n+Made.depth=k+1:=by
 have:0<Made.depth:=by decide
 exact⟨n+Made.depth-1,ac⟩
theorem Ju (f:FuncId)(args:Array Value)(R:Value->World->Prop):(∃nx w1,(pd (.func (.func f) #[] #[]) args).run P w = .ok nx w1/\kc P nx w1 R)->∃nx w1,(callFunc f args).run P w = .ok nx w1/\kc P nx w1 R:=by
 rintro⟨nx,w1,h1,h2⟩;refine⟨nx,w1,?_,h2⟩;simpa[pd,Deferred.ofValue,invoke] using h1
theorem Jv {call:dX}(hcall:nz C.P C.gl call)(r:Rel C ρ s a w){o:Oper}{io:bg}(hc:jG C o=some io){q:HR}(hq:bI call (ew C.P) s io=some q){ro:Option Nat}
 {next:Act->World->Prop} {Q:Exit->Act->World->Prop} (hn:∀v' w',fg C.P C.gl ρ s.hp w q v' w'->next (a.put o.dst v') w'):o.wpIn (FR ro) 0 C.P a w next Q:=by
 refine⟨fun _ _=>trivial,?_⟩;have hnd:∀c,o.op≠.defer c:=by
  intro c hd;unfold jG at hc;rw[hd]at hc;cases hc
 rw[Oper.semAt_eq _ _ _ hnd];by_cases hcl:(∃f args,io = .call f args)\/∃x name args,io = .invoke x name args
 . obtain⟨dst,op,ty,pos,af,gd⟩:=o;cases op
   case call c=>
    obtain⟨callee,args,ats⟩:=c;cases callee with
    | value f=>
     simp only[jG]at hc;split at hc
     . rename_i f' as' h1 h2;cases hc;simp only[bI]at hq;split at hq
       . rename_i g as h3 h4;obtain⟨nx,w1,h5,h6⟩:=hcall.ok _ _ _ _ hq ρ w _ _ r.mem (r.ae h1 h3) (r.cM h2 h4);have he:(execOp a.eval ⟨dst,.call ⟨.value f,args,ats⟩,ty,pos,af,gd⟩).run C.P w = .ok nx w1:=by
          have e2:args.map a.eval=(args.toList.map a.eval).toArray:=by rw[←m7,kw]
          simp only[execOp,resolve,e2];exact h5
         grind[Jt]
       grind
     grind
    | invoke x name=>
     simp only[jG]at hc;split at hc
     . rename_i x' as' h1 h2;cases hc;simp only[bI]at hq;split at hq
       . rename_i t v as h3 h4;split at hq
         . rename_i f hf;have e1:=r.ae h1 h3;generalize hxv:a.eval x=xv at e1;cases e1 with
           | @iface _ _ v' hv=>
            have e2:args.map a.eval=(args.toList.map a.eval).toArray:=by rw[←m7,kw]
            obtain⟨nx,w1,h5,h6⟩:=hcall.ok _ _ _ _ hq ρ w (.func (.func f) #[] #[]) (v'::args.toList.map a.eval) r.mem (.fn (fi':=[]) (ca':=[]) be rfl rfl be be) (.cons hv (r.cM h2 h4));obtain⟨nx',w1',h7,h8⟩:=Ju f _ _ ⟨nx,w1,h5,h6⟩;have he:(execOp a.eval ⟨dst,.call ⟨.invoke x name,args,ats⟩,ty,pos,af,gd⟩).run C.P w = .ok nx' w1':=by
             obtain⟨k,hk⟩:=Vb C.P.types.size;have hm:=Va (P:=C.P) (w:=w) hf k v';rw[←hk]at hm;have e3:(#[v']++(args.toList.map a.eval).toArray:Array Value)=(v'::args.toList.map a.eval).toArray:=by simp
             have e4:((#[n5 t v']++(args.toList.map a.eval).toArray:Array Value)).extract 1 (#[n5 t v']++(args.toList.map a.eval).toArray).size=(args.toList.map a.eval).toArray:=by
              simp;exact i4 be
             have e5:(#[n5 t v']++(args.toList.map a.eval).toArray:Array Value)[0]? = some (.iface t v'):=by simp
             simp only[execOp,resolve,e2,hxv,c3,f6,c8,invoke];rw[e4,e5];simp only[callMethod,c3,run_program,c8,hm,e3];exact h7
            grind[Jt]
         grind
       grind
     grind
    | builtin b=>
     exfalso;simp only[jG]at hc<;>grind
   case makeMap t res=>
    exfalso;cases res with
    | some _=>cases hc
    | none=>cases hc;grind
   case next x st=>
    exfalso;cases st with
    | false=>cases hc
    | true=>
     simp only[jG,b7]at hc<;>grind
   all_goals
    exfalso;simp only[jG]at hc;repeat' (first|(cases hc;done)|split at hc)
    all_goals first
     | (cases hc;rcases hcl with ⟨_,_,h⟩|⟨_,_,_,h⟩ <;> cases h;done)
     | (simp only[b7]at hc;obtain⟨_,_,rfl⟩:=hc;rcases hcl with ⟨_,_,h⟩|⟨_,_,_,h⟩ <;> cases h)
 . have hq':(if io.bF then bG s io s.hp else (aY s io).map fun v=>⟨v,s.hp,[]⟩)=some q:=by
    cases io <;> first|exact hq|(exfalso;exact hcl (.inl ⟨_,_,rfl⟩))|grind
   split at hq'
   . rename_i hh;obtain⟨v',w',h1,h2⟩:=UZ r hc hh hq';rcases h1 with h1|⟨h1,rfl⟩
     . rw[h1];exact hn _ _ h2
     . rw[h1];exact hn _ _ h2
   . rename_i hh;simp only[b7]at hq';obtain⟨v,h1,rfl⟩:=hq';obtain⟨v',h2,h3⟩:=Uj r hc bS h1;rw[h2];exact hn _ _ (iT r.mem h3)
theorem pf {x:Array Value}{t u:Nat}{v d:Value}:(x.setIfInBounds t v).getD u d=if u=t/\t<x.size then v else x.getD u d:=by
 simp only[c7,Array.getElem?_setIfInBounds]<;>grind
theorem CB {er:ER C ρ w s.pe s.lo a.tmps}{dst:Option Tmp}{d:eZ}(hd:lF C dst=some d){x:AV}{v:Value}(hv:V ρ w x v)(h:aa) :
 ER C ρ w ({ s.put d x with hp:=h }:St).pe ({ s.put d x with hp:=h }:St).lo (a.put dst v).tmps:=by
 cases dst with
 | none=>cases hd;exact er
 | some t=>
  simp only[lF]at hd;split at hd
  . rename_i hlt;split at hd
    . rename_i i hi;cases hd;have hti:=wy hi;refine⟨by simp[Act.put,er.size],er.nodup,er.lt,by simpa[St.put] using er.jH,fun j y u h1 h2=>?_,fun u y h1=>?_⟩
      . simp only[St.put,dO]at h1;simp only[Act.put,pf];by_cases hij:i=j
        . subst hij;rw[if_pos rfl]at h1;rw[hti]at h2;cases h2;split at h1
          . cases h1;rw[if_pos ⟨rfl,by rw[er.size];exact hlt⟩];exact hv
          grind
        . rw[if_neg hij]at h1;have:u≠t:=fun e=>by
           subst e;exact hij ((mp (b5.1 hti).1 er.nodup).1 bS)
          rw[if_neg ac];exact er.pe j y u h1 h2
      . simp only[St.put]at h1;obtain⟨g1,g2,g3⟩:=er.lo u y h1;refine⟨g1,g2,?_⟩;simp only[Act.put,pf]<;>grind
    . rename_i hi;cases hd;have hnt:=wz hi;refine⟨by simp[Act.put,er.size],er.nodup,er.lt,by simpa[St.put] using er.jH,fun j y u h1 h2=>?_,fun u y h1=>?_⟩
      . simp only[St.put]at h1;simp only[Act.put,pf];have:u≠t:=bS;rw[if_neg ac];exact er.pe j y u h1 h2
      . simp only[St.put,m8]at h1;simp only[Act.put,pf];split at h1
        . rename_i e;simp only[beq_iff_eq]at e;subst e;cases h1;exact⟨hlt,hnt,by rw[if_pos ⟨rfl,by rw[er.size];exact hlt⟩];exact hv⟩
        . rename_i e;simp only[beq_eq_false_iff_ne]at e;obtain⟨g1,g2,g3⟩:=er.lo u y h1<;>grind
  grind
theorem CC (r:Rel C ρ s a w){ops:Array Oper}{o:Oper}{g:Option (ay×Bool)}(hg:wm C ops.toList o.guard=some g){b:Bool}(hb:dP s g=some b):Region.wanted o (yielded ops a.tmps)=b:=by
 unfold Region.wanted;cases ho:o.guard with
 | none=>rw[ho]at hg;cases hg;cases hb;rfl
 | some jw=>
  obtain⟨j,want⟩:=jw;rw[ho]at hg;simp only[wm]at hg;split at hg
  . rename_i oj hj;split at hg
    . rename_i t ht;simp only[b7]at hg;obtain⟨y,hy,rfl⟩:=hg;simp only[dP]at hb;have hj':ops[j]? = some oj:=by simpa using hj
      have key:∀v,s.ae y=some v->V ρ w v (a.tmps.getD t undef):=fun v hv=>r.ae hy hv
      simp only[yielded,hj',c9,ht];split at hb
      . rename_i c hc;have:=key _ hc;cases hb;have e:=this.nh;rw[c7]at e;cases hq:a.tmps[t]? with
        | none=>rw[hq]at e;simp[undef]at e
        | some z=>grind
      . rename_i l hl;have:=key _ hl;cases hb;obtain⟨m,e,_⟩:=this.IT;rw[c7]at e;grind
      grind
    grind
  grind
end Go.Ab
namespace Go.Ab
variable {s:St}
variable {h:aa}
theorem qQ (v:AV):fI h ⟨v,h,[]⟩:=⟨dY _,fun _ _ _=>rfl⟩
theorem CE (v:AV)(l:aa)(wr:List Nat):fI h ⟨v,h++l,wr⟩:=⟨be,fun b hb _=>fm hb⟩
theorem Jw (v:AV)(b:Nat)(o:Option ba):fI h ⟨v,h.put b o,[b]⟩:=by
 refine⟨by simp[aa.put],fun b' _ hn=>?_⟩;simp only[jq]at hn;exact nf hn
theorem Jx (v:AV)(b:Nat)(o:Option ba)(l:aa):fI h ⟨v,h.put b o++l,[b]⟩:=by
 refine⟨by simp[aa.put],fun b' hb hn=>?_⟩;simp only[jq]at hn;rw[fm (by simpa[aa.put] using hb)];exact nf hn
theorem Vc {elem:TypeId}{esz bytes:Nat}{x y:AV}{q:HR}(hq:gw elem esz bytes h x y=some q):fI h q:=by
 unfold gw at hq;repeat' (first|(cases hq;done)|split at hq)
 all_goals (cases hq;first|exact qQ _|exact CE _ _ _|exact Jw _ _ _|grind[Jx])
theorem Vd {io:bg}{q:HR}(hq:bG s io h=some q):fI h q:=by
 cases io <;> simp only[bG]at hq;all_goals first|(cases hq;done)|skip
 all_goals repeat' (first|(cases hq;done)|exact Vc hq|split at hq)
 all_goals (cases hq;first|exact qQ _|exact CE _ _ _|exact Jw _ _ _|exact Jx _ _ _ _)
theorem CH {call:dX}{inv:fQ}(hcall:∀g as h r,call g as h=some r->fI h r){s:St}{io:bg}{q:HR}(hq:bI call inv s io=some q):fI s.hp q:=by
 unfold bI at hq;grind[Vd,b7,qQ]
theorem wJ {s s':St}:∀{ps:List (Nat×Nat×ay)},(∀x∈vI ps,s.ae x=s'.ae x)->s.parts ps=s'.parts ps
 | [],_=>rfl
 | (o,n,x)::r,h=>by
  simp only[vI,dN,forall_eq_or_imp]at h;simp only[St.parts,h.1,wJ h.2]
theorem pg {s s':St}:∀{xs:List ay},(∀x∈xs,s.ae x=s'.ae x)->s.cM xs=s'.cM xs
 | [],_=>rfl
 | x::r,h=>by
  simp only[dN,forall_eq_or_imp]at h;simp only[St.cM,h.1,pg h.2]
theorem tf {s':St}{x:Option ay}(h:∀y∈x.toList,s.ae y=s'.ae y):s.cZ x=s'.cZ x:=by
 cases x with
 | none=>rfl
 | some y=>simp only[St.cZ,h y be]
theorem Jy {call:dX}{inv:fQ}{s':St}{io:bg}(hh:s.hp=s'.hp)(h:∀x∈io.iw,s.ae x=s'.ae x):bI call inv s io=bI call inv s' io:=by
 cases io
 case slice k esz x lo hi mx=>
  simp only[bg.iw,dN,fG,forall_eq_or_imp]at h;have h1:=h.1;have h2:s.cZ lo=s'.cZ lo:=tf bS;have h3:s.cZ hi=s'.cZ hi:=tf bS;have h4:s.cZ mx=s'.cZ mx:=tf bS;simp only[bI,bg.bF,aY,ce,if_false,hh,h1,h2,h3,h4]
 case jn n esz x lo hi=>
  simp only[bg.iw,dN,fG,forall_eq_or_imp]at h;have h1:=h.1;have h2:s.cZ lo=s'.cZ lo:=tf bS;have h3:s.cZ hi=s'.cZ hi:=tf bS;simp only[bI,bg.bF,bG,if_true,hh,h1,h2,h3]
 case vF f fi ca=>
  simp only[bg.iw,fG]at h;have h1:s.cM fi=s'.cM fi:=pg bS;have h2:s.cM ca=s'.cM ca:=pg bS;simp only[bI,bg.bF,aY,ce,if_false,hh,h1,h2]
 case build zero ps=>
  have h1:s.parts ps=s'.parts ps:=wJ h;simp only[bI,bg.bF,aY,ce,if_false,hh,h1]
 case du elem len esz zero ps=>
  have h1:s.parts ps=s'.parts ps:=wJ h;simp only[bI,bg.bF,bG,if_true,hh,h1]
 case mm mx xs=>
  have h1:s.cM xs=s'.cM xs:=pg h;simp only[bI,bg.bF,aY,ce,if_false,hh,h1]
 case call f as=>
  simp only[bg.iw,dN,forall_eq_or_imp]at h;have h1:=h.1;have h2:s.cM as=s'.cM as:=pg h.2;simp only[bI,hh,h1,h2]
 case invoke f name as=>
  simp only[bg.iw,dN,forall_eq_or_imp]at h;have h1:=h.1;have h2:s.cM as=s'.cM as:=pg h.2;simp only[bI,hh,h1,h2]
 all_goals
  simp only[bg.iw,dN,List.not_mem_nil,or_false,forall_eq_or_imp,forall_eq]at h;simp only[bI,bg.bF,bG,aY,ce,if_false,if_true,hh,h]
theorem jr (wr:List Nat):∀(h h':aa) (i b:Nat),h.length<=h'.length ->
 (fe wr h h' i)[b]? = if b<h.length then (if wr.contains (b+i) then h'[b]? else h[b]?) else h'[b]?
 | [],h',i,b,_=>by rfl
 | o::h,[],i,b,hl=>by simp at hl
 | o::h,n::h',i,b,hl=>by
  cases b with
  | zero=>simp[fe];grind
  | succ b=>
   simp only[fe,j1,ii];rw[jr wr h h' (i+1) b bS];grind
theorem tg (wr:List Nat):∀(h h':aa) (i:Nat),h.length<=h'.length->(fe wr h h' i).length=h'.length
 | [],h',i,_=>by rfl
 | o::h,[],i,hl=>by simp at hl
 | o::h,n::h',i,hl=>by simp[fe,tg wr h h' (i+1) (by simpa using hl)]
end Go.Ab
namespace Go.Ab
variable {P:Program} {gl:Nat->Option AV} {ρ:az} {w:World} {h:aa} {C:Cx} {s:St} {a:Act}
theorem Jz {L:List Oper}{o:Oper}{io:aX}(h:wq C L o=some io):lF C o.dst=some io.dst/\jG C o=some io.op/\wm C L o.guard=some io.guard:=by
 unfold wq at h;grind
theorem th {L:List Oper}:∀{l:List Oper} {il:List aX},kB C L l=some il->il.length=l.length/\∀(i:Nat) (o:Oper),l[i]? = some o->∃io,il[i]? = some io/\wq C L o=some io
 | [],il,h=>by simp only[kB,ci.injEq]at h;grind
 | o::r,il,h=>by
  simp only[kB]at h;split at h
  . rename_i io l h1 h2;cases h;obtain⟨g1,g2⟩:=th h2<;>grind
  . cases h
theorem Ve {call:dX}(hcall:nz C.P C.gl call){ro:Option Nat}{ops:Array Oper}{il:List aX}(hil:kB C ops.toList ops.toList=some il){Q:Exit->Act->World->Prop} :
 ∀(m k:Nat) (s s':aq) (ρ:az) (a:Act) (w:World),k+m=ops.size->Rel C ρ s.s a w->ek call (ew C.P) (il.drop k) s=some s' ->
  (∀ρ' a' w',Rel C ρ' s'.s a' w'->Ext s.s.hp s'.s.hp ρ ρ' w w'->a'.defers=a.defers->Q .normal a' w')->wpOpsIn (FR ro) 0 C.P ops Q (List.range' k m) a w:=by
 obtain⟨hlen,hget⟩:=th hil;intro m;induction m with
 | zero=>
  intro k s s' ρ a w hk r hq hQ;have:il.drop k=[]:=by
   rw[List.drop_eq_nil_iff];simp at hlen;omega
  rw[this]at hq;cases hq;simp only[List.range'_zero,wpOpsIn];exact hQ ρ a w r (Ext.refl _ _ _) rfl
 | succ m ih=>
  intro k s s' ρ a w hk r hq hQ;have hklt:k<ops.size:=by omega
  obtain⟨io,h1,h2⟩:=hget k ops[k] be;obtain⟨hd,hop,hg⟩:=Jz h2;have hdrop:il.drop k=io::il.drop (k+1):=by
   have hk':k<il.length:=(b5.1 h1).1;rw[ip hk'];congr 1;exact(b5.1 h1).2
  rw[hdrop]at hq;simp only[ek]at hq;simp only[List.range'_succ,wpOpsIn];have ho:ops[k]? = some ops[k]:=by simp[hklt]
  rw[ho];simp only;split at hq
  . rename_i hw;rw[if_pos (CC r hg hw)];split at hq
    . rename_i q hq1;refine Jv hcall r hop hq1 ?_;rintro v' w' ⟨ρ',hv,m',x⟩;refine ih (k+1) _ s' ρ' _ w' ac ⟨CB (er:=r.er.mono x) hd hv _,m'⟩ hq ?_;intro ρ2 a2 w2 r2 x2 hd2;refine hQ ρ2 a2 w2 r2 (x.trans x2) (hd2.trans ?_);unfold Act.put;grind
    grind
  . rename_i hw;rw[if_neg (by grind[CC])];refine⟨fun _ _=>trivial,ih (k+1) _ s' ρ _ w ac ⟨?_,?_⟩ hq ?_⟩
    . exact CB (er:=r.er) hd V.undef s.s.hp
    . have:(s.s.put io.dst bD).hp=s.s.hp:=by cases io.dst <;> rfl
      rw[this];exact r.mem
    . intro ρ2 a2 w2 r2 x2 hd2;have:(s.s.put io.dst bD).hp=s.s.hp:=by cases io.dst <;> rfl
      simp only[this]at x2;refine hQ ρ2 a2 w2 r2 x2 (hd2.trans ?_);unfold Act.put;grind
  grind
theorem Rel.Vf (r:Rel C ρ s a w):Rel C ρ { s with lo:=[] } a w:=
 ⟨⟨r.er.size,r.er.nodup,r.er.lt,r.er.jH,r.er.pe,be⟩,r.mem⟩
theorem Vg {call:dX}(hcall:nz C.P C.gl call){ro:Option Nat}{id:Nat}{ops:Array Oper}{il:List aX}(hil:kB C ops.toList ops.toList=some il){Q:Exit->Act->World->Prop}
 {s s':aq} (r:Rel C ρ s.s a w) (hq:ek call (ew C.P) il ⟨{ s.s with lo:=[] },s.wr⟩=some s')
 (hQ:∀ρ' a' w',Rel C ρ' s'.s a' w'->Ext s.s.hp s'.s.hp ρ ρ' w w'->a'.defers=a.defers->Q .normal a' w'):(Code.region id ops false).wpIn (FR ro) 0 C.P Q a w:=by
 refine wpIn_region ?_;rw[List.range_eq_range'];exact Ve hcall hil ops.size 0 _ s' ρ a w ac r.Vf hq hQ
end Go.Ab
namespace Go.Ab
structure wK (call:dX)(inv:fQ)(st:Nat->aq)(h0:Nat->aa)(r:Nat->HR)(k:Nat)(o:aX)(un:List Nat):Prop where
 wanted:∃b,dP (st k).s o.guard=some b/\(b=true->bI call inv { (st k).s with hp:=h0 k } o.op=some (r k))/\(b=false->r k=⟨bD,h0 k,[]⟩)
 len:(h0 k).length=(st k).s.hp.length
 known:∀(b:Nat) x,(h0 k)[b]? = some (some x)->(st k).s.hp[b]? = some (some x)
 off:∀(b:Nat) x,(h0 k)[b]? = some (some x)->∀j∈un,j<k->b∉(r j).wr/\¬((st j).s.hp.length<=b/\b<(r j).h.length)
 ti:∀b∈(r k).wr,∃x,(h0 k)[b]? = some (some x)
 Vh:∀j∈un,j<k->∀b∈(r k).wr,∀x,(h0 j)[b]? ≠ some (some x)
 next:st (k+1)=⟨{ (st k).s.put o.dst (r k).v with hp:=fe (r k).wr (st k).s.hp (r k).h 0 },(r k).wr++(st k).wr⟩
theorem nC (T:List Nat):∀(h:aa) (i b:Nat),(cd T h i)[b]? = (h[b]?).map fun o=>if T.contains (b+i) then o else none
 | [],i,b=>by rfl
 | o::h,i,b=>by
  cases b with
  | zero=>simp[cd]
  | succ b=>simp only[cd,j1];rw[nC T h (i+1) b,show b+(i+1)=b+1+i from by omega]
theorem fh (T:List Nat):∀(h:aa) (i:Nat),(cd T h i).length=h.length
 | [],i=>rfl
 | o::h,i=>by simp[cd,fh T h (i+1)]
theorem CK:∀(U:List Nat) (h:aa) (b:Nat),(mask h U)[b]? = if b∈U then (h[b]?).map fun _=>none else h[b]?
 | [],h,b=>by rfl
 | u::U,h,b=>by
  have:=CK U (h.set u none) b;unfold mask at this ⊢;rw[n7,this];simp only[dO,dN];by_cases hu:u=b
  . subst hu;by_cases hl:u<h.length
    . simp[hl]
    . simp[hl]
  . rw[if_neg hu];have:(b=u)↔False:=⟨fun e=>hu e.symm,False.elim⟩;simp[this]
theorem JA:∀(U:List Nat) (h:aa),(mask h U).length=h.length
 | [],h=>rfl
 | u::U,h=>by
  have:=JA U (h.set u none);unfold mask at this ⊢;rw[n7,this];simp
theorem Vi {d:bY}{b:Nat}:b∈d.own↔b∈d.wr\/(d.lo<=b/\b<d.hi):=by
 unfold bY.own;grind
def JB (st:Nat->aq)(h0:Nat->aa)(r:Nat->HR)(ds:List bY):Prop:=
 ∀j d,ds[j]? = some d->d.wr=(r j).wr/\d.lo=(st j).s.hp.length/\d.hi=(r j).h.length/\∀T,d.jB=some T->∀(b:Nat) x,(h0 j)[b]? = some (some x)->b∈T
theorem JC {a b:List Nat}(h:fR a b=true):∀x∈a,x∉b:=by
 intro x hx hb;have:=d9.1 h x hx<;>grind
theorem trace {call:dX}{inv:fQ}:∀(l:List (aX×List Nat)) (s:aq) (ds:List bY) (s':aq) (st0:Nat->aq) (h00:Nat->aa) (r00:Nat->HR),JB st0 h00 r00 ds->dI call inv l s ds=some s' ->
 ∃st h0 r,(∀j,j<ds.length->st j=st0 j/\h0 j=h00 j/\r j=r00 j)/\st ds.length=s/\st (ds.length+l.length)=s' /\
  ∀k o un,l[k]? = some (o,un)->wK call inv st h0 r (ds.length+k) o un
 | [],s,ds,s',st0,h00,r00,hds,hq=>by
  simp only[dI,ci.injEq]at hq;subst hq;refine⟨fun j=>if j=ds.length then s else st0 j,h00,r00,fun j hj=>⟨bS,rfl,rfl⟩,be,be,be⟩
 | (o,un)::rest,s,ds,s',st0,h00,r00,hds,hq=>by
  have fin:∀(g0:aa) (q:HR) (t:Option (List Nat)) (b:Bool),dP s.s o.guard=some b->(b=true->bI call inv { s.s with hp:=g0 } o.op=some q)->(b=false->q=⟨bD,g0,[]⟩) ->
   g0.length=s.s.hp.length->(∀(b:Nat) x,g0[b]? = some (some x)->s.s.hp[b]? = some (some x)) ->
   (∀(b:Nat) x,g0[b]? = some (some x)->∀j∈un,∀d,ds[j]? = some d->b∉d.own)->(∀b∈q.wr,∃x,g0[b]? = some (some x)) ->
   (∀j∈un,∀d,ds[j]? = some d->∀b∈q.wr,∃T,d.jB=some T/\b∉T)->(∀T,t=some T->∀(b:Nat) x,g0[b]? = some (some x)->b∈T) ->
   dI call inv rest ⟨{ s.s.put o.dst q.v with hp:=fe q.wr s.s.hp q.h 0 },q.wr++s.wr⟩ (ds++[⟨t,q.wr,s.s.hp.length,q.h.length⟩])=some s' ->
   ∃st h0 r,(∀j,j<ds.length->st j=st0 j/\h0 j=h00 j/\r j=r00 j)/\st ds.length=s/\st (ds.length+((o,un)::rest).length)=s' /\
    ∀k o' un',((o,un)::rest)[k]? = some (o',un')->wK call inv st h0 r (ds.length+k) o' un':=by
   intro g0 q t b hw h1 h2 h3 h4 h5 h6 h7 h8 hrec;have hds':JB (fun j=>if j=ds.length then s else st0 j) (fun j=>if j=ds.length then g0 else h00 j) (fun j=>if j=ds.length then q else r00 j) (ds++[⟨t,q.wr,s.s.hp.length,q.h.length⟩]):=by
    intro j d hj;rw[ky]at hj;split at hj
    . rename_i hlt;have:j≠ds.length:=by omega
      simp only[this,if_false];exact hds j d hj
    . grind
   obtain⟨st,h0,r,e1,e2,e3,e4⟩:=trace rest _ _ s' _ _ _ hds' hrec;simp only[jD,ii,it,i9]at e1 e2 e3 e4;have eN:=e1 ds.length ac;simp only[if_true]at eN;have elt:∀j,j<ds.length->st j=st0 j/\h0 j=h00 j/\r j=r00 j:=by
    intro j hj;have:=e1 j ac;rw[if_neg ac,if_neg ac,if_neg ac]at this;exact this
   refine⟨st,h0,r,elt,eN.1,bS,?_⟩;intro k o' un' hk;cases k with
   | zero=>
    simp at hk;obtain⟨rfl,rfl⟩:=hk;rw[l9];have hown:∀j,j<ds.length->∃d,ds[j]? = some d/\(∀b,b∈d.own↔b∈(r j).wr\/((st j).s.hp.length<=b/\b<(r j).h.length))/\∀T,d.jB=some T->∀(b:Nat) x,(h0 j)[b]? = some (some x)->b∈T:=by
     intro j hj;obtain⟨f1,f2,f3⟩:=elt j hj;obtain⟨g1,g2,g3,g4⟩:=hds j ds[j] (by simp[hj]);refine⟨ds[j],by simp[hj],fun b=>?_,fun T hT b x hb=>bS⟩;rw[Vi,g1,g2,g3,f1,f3]
    refine⟨?_,?_,?_,?_,?_,?_,?_⟩<;>grind
   | succ k=>
    grind
  have keep0:∀(b:Nat) x,(cd [] s.s.hp 0)[b]? ≠ some (some x):=by
   intro b x;rw[nC];cases s.s.hp[b]? <;> simp
  have merge0:fe [] s.s.hp (cd [] s.s.hp 0) 0=s.s.hp:=by
   apply f7;intro b;rw[jr _ _ _ _ _ (by rw[fh];simp)];split
   . simp
   . grind[i5,fh]
  have go:∀(t:Option (List Nat)) (g0:aa),dP s.s o.guard=some true->(match t with|some T=>fR T (un.flatMap fun j=>(ds[j]?).elim [] bY.own)|none=>true)=true ->
   g0=(match t with|some T=>cd T s.s.hp 0|none=>mask s.s.hp (un.flatMap fun j=>(ds[j]?).elim [] bY.own)) ->
   (match bI call inv { s.s with hp:=g0 } o.op with
     | some r=>
      if ((r.wr.all fun b=>(g0.at b).isSome) && (r.wr.isEmpty || un.all (fun j=>match ds[j]? with|some d=>(match d.jB with|some T=>fR r.wr T|none=>false)|none=>false)))=true then
       dI call inv rest ⟨{ s.s.put o.dst r.v with hp:=fe r.wr s.s.hp r.h 0 },r.wr++s.wr⟩ (ds++[⟨t,r.wr,s.s.hp.length,r.h.length⟩])
      else none
     | none=>none)=some s' ->
   ∃st h0 r,(∀j,j<ds.length->st j=st0 j/\h0 j=h00 j/\r j=r00 j)/\st ds.length=s/\st (ds.length+((o,un)::rest).length)=s' /\
    ∀k o' un',((o,un)::rest)[k]? = some (o',un')->wK call inv st h0 r (ds.length+k) o' un':=by
   intro t g0 hw hdis hg0 hq;split at hq
   . rename_i q hq1;split at hq
     . rename_i hchk;rw[b8]at hchk;obtain⟨hc1,hc2⟩:=hchk;refine fin g0 q t true hw (fun _=>hq1) be ?_ ?_ ?_ ?_ ?_ ?_ hq
       . grind[JA,fh]
       . grind[CK,nC,ci.injEq]
       . intro b x hb j hj d hd hbo;have hU:b∈un.flatMap fun j=>(ds[j]?).elim [] bY.own:=by
          rw[List.mem_flatMap];exact⟨j,hj,bS⟩
         subst hg0;cases t
         . simp only at hb;rw[CK,if_pos hU]at hb;grind
         grind[nC,ci.injEq,JC]
       . intro b hb;have:=d9.1 hc1 b hb;unfold aa.at at this;cases hz:g0[b]? with
         | none=>grind
         | some z=>cases z<;>grind
       . intro j hj d hd b hb;rw[n6]at hc2;grind[JC]
       grind[nC,ci.injEq]
     grind
   . cases hq
  simp only[dI]at hq;split at hq
  . rename_i hw;split at hq
    . cases ht:je s.s o.op with
      | none=>
       simp only[ht]at hq;exact go none _ hw rfl rfl hq
      | some T=>
       simp only[ht]at hq;split at hq
       . rename_i hdis;exact go (some T) _ hw hdis rfl hq
       grind
    . rename_i hh;split at hq
      . rename_i v hv;have hhf:o.op.bF=false:=by simpa using hh
        refine fin (cd [] s.s.hp 0) ⟨v,cd [] s.s.hp 0,[]⟩ (some []) true hw (fun _=>?_) be (fh _ _ _) bS bS be be bS ?_
        . have:bI call inv { s.s with hp:=cd [] s.s.hp 0 } o.op=(aY { s.s with hp:=cd [] s.s.hp 0 } o.op).map fun v=>⟨v,cd [] s.s.hp 0,[]⟩:=by
           cases ho:o.op <;> rw[ho]at hhf <;> first|(simp[bg.bF]at hhf;done)|rfl
          rw[this];have hv':aY { s.s with hp:=cd [] s.s.hp 0 } o.op=some v:=by
           rw[←hv];have hc:=fun s' h'=>Jy (call:=call) (inv:=inv) (s:=s') (s':=s') (io:=o.op) rfl h'
           have e:∀(h:aa),aY { s.s with hp:=h } o.op=aY s.s o.op:=by
            intro h;have e1:∀x,({ s.s with hp:=h }:St).ae x=s.s.ae x:=by intro x;cases x <;> rfl
            have e2:∀xs,({ s.s with hp:=h }:St).cM xs=s.s.cM xs:=(by grind[pg]);have e3:∀xs,({ s.s with hp:=h }:St).cZ xs=s.s.cZ xs:=fun xs=>(by rfl)
            have e4:∀xs,({ s.s with hp:=h }:St).parts xs=s.s.parts xs:=(by grind[wJ]);cases o.op <;> simp only[aY,e1,e2,e3,e4]
           exact e _
          grind
        . have e:({ s.s.put o.dst v with hp:=s.s.hp }:St)=s.s.put o.dst v:=by cases o.dst <;> rfl
          grind[fh]
      grind
  . rename_i hw;refine fin (cd [] s.s.hp 0) ⟨bD,cd [] s.s.hp 0,[]⟩ (some []) false hw be (fun _=>rfl) (fh _ _ _) bS bS be be bS ?_;have e:({ s.s.put o.dst bD with hp:=s.s.hp }:St)=s.s.put o.dst bD:=by cases o.dst <;> rfl
    grind[fh]
  grind
end Go.Ab
namespace Go.Ab
variable {dst:Option Tmp} {d:eZ} {y:ay}
variable {P:Program} {gl:Nat->Option AV} {ρ:az} {w:World} {h:aa} {C:Cx} {s:St} {a:Act}
def eA (lo:Nat)(ρ:az):az:=⟨fun b=>if b<lo then ρ b else .fresh,fun c=>ρ.X c\/∃b d,lo<=b/\ρ b = .live c d⟩
theorem cW.eA {c:Nat}(lo:Nat)(h:cW ρ c):cW (eA lo ρ) c:=by
 refine⟨fun b d hb=>?_,?_⟩
 . simp only[Ab.eA]at hb;split at hb
   . exact h.1 b d hb
   grind
 . rintro(hx|⟨b,d,_,hb⟩)
   . exact h.2 hx
   . exact h.1 b d hb
theorem BR.ik {ρ ρ':az}{n:Nat}(hρ:∀b,b<n->ρ' b=ρ b)(hF:∀c,cW ρ c->cW ρ' c){b:Nat}(hb:b<n){o:ba}(h:BR P gl ρ w b o)(ht:o.top<=n):BR P gl ρ' w b o:=by
 cases o with
 | cells l e=>
  rcases h with ⟨c,d,cs,fr,h1,h2,h3,h4,h5⟩|⟨h1,h2⟩
  . exact .inl ⟨c,d,cs,fr,(hρ b hb).trans h1,h2,h3,h4,fun i x y hx hy=>(h5 i x y hx hy).ik hρ hF (fC ht i x hx)⟩
  . exact .inr ⟨(hρ b hb).trans h1,h2⟩
 | map es=>
  obtain⟨c,ms,clk,h1,h2,h3,h4⟩:=h;have key:∀(es:List (AV×AV)),ba.top.oH es<=n->∀(i:Nat) kx vx,es[i]? = some (kx,vx)->kx.top<=n/\vx.top<=n:=by
   intro es;induction es with
   | nil=>simp
   | cons p r ih=>
    intro ht i kx vx hx;obtain⟨k,v⟩:=p;simp only[ba.top.oH]at ht<;>grind
  exact⟨c,ms,clk,(hρ b hb).trans h1,h2,h3,fun i kx vx m hx hm=>by
   obtain⟨g1,g2⟩:=h4 i kx vx m hx hm;obtain⟨t1,t2⟩:=key es ht i kx vx hx;exact⟨g1.ik hρ hF t1,g2.ik hρ hF t2⟩⟩
 | iter s pos=>obtain⟨c,h1,h2⟩:=h;exact⟨c,(hρ b hb).trans h1,h2⟩
 | hJ=>obtain⟨c,h1,h2⟩:=h;exact⟨c,(hρ b hb).trans h1,h2⟩
 | hole=>exact(hρ b hb).trans h
 | loop st pend pe ps a bd=>
  obtain⟨c,r,aR,N,h1,h2,h3,h4,h5,h6⟩:=h;exact⟨c,r,aR,N,(hρ b hb).trans h1,h2,h3,h4,⟨h5.size,h5.nodup,h5.lt,h5.jH,fun i v t hv ht'=>(h5.pe i v t hv ht').ik hρ hF (fC ht i v hv),be⟩,h6⟩
theorem BR.top {n:Nat}(hn:∀b,n<=b->ρ b = .fresh){b:Nat}{o:ba}(h:BR P gl ρ w b o):o.top<=n:=by
 cases o with
 | cells l e=>
  rcases h with ⟨c,d,cs,fr,h1,h2,h3,h4,h5⟩|⟨h1,h2⟩
  . refine nd fun i x hx=>?_
    have hi:=(b5.1 hx).1;have hlt:i+d<cs.size:=by have:=h3.1;omega
    exact(h5 i x cs[i+d] hx be).top hn
  . subst h2;simp[ba.top,bc]
 | map es=>
  obtain⟨c,ms,clk,h1,h2,h3,h4⟩:=h;have key:∀(es:List (AV×AV)),(∀(i:Nat) kx vx,es[i]? = some (kx,vx)->kx.top<=n/\vx.top<=n)->ba.top.oH es<=n:=by
   intro es;induction es with
   | nil=>intro _;simp[ba.top.oH]
   | cons p r ih=>
    intro hx;obtain⟨k,v⟩:=p;simp only[ba.top.oH];have:=hx 0 k v rfl;have:=ih fun i kx vx h=>hx (i+1) kx vx bS
    omega
  refine key es fun i kx vx hx=>?_
  have hi:=(b5.1 hx).1;obtain⟨g1,g2⟩:=h4 i kx vx ms[i] hx be;exact⟨g1.top hn,g2.top hn⟩
 | iter s pos=>simp[ba.top]
 | hJ=>simp[ba.top]
 | hole=>simp[ba.top]
 | loop st pend pe ps a bd=>
  obtain⟨c,r,aR,N,h1,h2,h3,h4,h5,h6⟩:=h;refine nd fun i x hx=>?_
  have hi:=(b5.1 hx).1;have hp:=h5.jH;exact(h5.pe i x aR[i] hx be).top hn
def VS (C:Cx)(ρ:az)(w:World)(tmps:Array Value)(y:ay)(v:AV):Prop:=
 match y with
 | .p i=>∀t,C.aR[i]? = some t->V ρ w v (tmps.getD t undef)
 | .l t=>t<C.N/\t∉C.aR/\V ρ w v (tmps.getD t undef)
 | .c _=>True
theorem VS.mono {h h':aa}{ρ ρ':az}{w w':World}(x:Ext h h' ρ ρ' w w'){tmps:Array Value}{y:ay}{v:AV}(hv:VS C ρ w tmps y v):VS C ρ' w' tmps y v:=by
 cases y with
 | p i=>exact fun t ht=>(hv t ht).mono x
 | l t=>exact⟨hv.1,hv.2.1,hv.2.2.mono x⟩
 | c _=>trivial
theorem wL {v:Value}:(a.put dst v).tmps=match dst with|some t=>a.tmps.setIfInBounds t v|none=>a.tmps:=by
 cases dst <;> rfl
theorem VS.CL (hd:lF C dst=some d)(hsz:a.tmps.size=C.N){y:ay}(hy:dW d y=true){x:AV}{v:Value}(hv:V ρ w x v):VS C ρ w (a.put dst v).tmps y x:=by
 cases dst with
 | none=>cases hd;cases y <;> simp[dW]at hy
 | some t=>
  simp only[lF]at hd;split at hd
  . rename_i hlt;split at hd
    . rename_i i hi;cases hd;have hti:=wy hi;cases y <;> simp[dW]at hy;subst hy;intro u hu;rw[hti]at hu;cases hu;rw[wL];simp_all
    . rename_i hi;cases hd;have hnt:=wz hi;cases y <;> simp[dW]at hy;subst hy;refine⟨hlt,hnt,?_⟩;rw[wL];simp_all
  grind
theorem VS.Vj (hd:lF C dst=some d)(hnd:C.aR.Nodup){y:ay}(hy:dW d y=false){x:AV}{v:Value}(hv:VS C ρ w a.tmps y x):VS C ρ w (a.put dst v).tmps y x:=by
 cases dst with
 | none=>exact hv
 | some t=>
  rw[wL];simp only[lF]at hd;split at hd
  . rename_i hlt;split at hd
    . rename_i i hi;cases hd;have hti:=wy hi;cases y with
      | p j=>
       simp[dW]at hy;intro u hu;have hne:u≠t:=fun e=>by
        grind[mp]
       simp only[pf];rw[if_neg ac];exact hv u hu
      | l u=>
       obtain⟨g1,g2,g3⟩:=hv;have hne:u≠t:=bS;refine⟨g1,g2,?_⟩;simp only[pf]<;>grind
      | c _=>trivial
    . rename_i hi;cases hd;have hnt:=wz hi;cases y with
      | p j=>
       intro u hu;have hne:u≠t:=bS;simp only[pf];rw[if_neg ac];exact hv u hu
      | l u=>
       simp[dW]at hy;obtain⟨g1,g2,g3⟩:=hv;refine⟨g1,g2,?_⟩<;>simp_all
      | c _=>trivial
  grind
theorem Vk (hy:dW d y=true){x v:AV}(h:(s.put d x).ae y=some v):v=x:=by
 cases d <;> cases y <;> simp[dW]at hy
 . subst hy;simp only[St.put,St.ae,dO]at h<;>grind
 . subst hy;simp only[St.put,St.ae,List.lookup_cons_self]at h<;>grind
theorem Vl (hy:dW d y=false){x:AV}:(s.put d x).ae y=s.ae y:=by
 cases d <;> cases y <;> first|rfl|skip
 . rename_i i j;simp[dW]at hy;simp only[St.put,St.ae,dO]<;>grind
 . rename_i t u;simp[dW]at hy;simp only[St.put,St.ae,m8]<;>grind
def restrict (us:List ay)(s:St)(h:aa):St:=
 { s with pe:=s.pe.mapIdx (fun i v=>if us.any (dW (.p i)) then v else .db),lo:=s.lo.filter (fun e=>us.any (dW (.l e.1))),hp:=h }
theorem CM {p:Nat->Bool}{t:Nat}:∀(l:List (Nat×AV)),(l.filter (fun e=>p e.1)).lookup t=if p t then l.lookup t else none
 | []=>by simp
 | (u,v)::r=>by
  have ih:=CM (p:=p) (t:=t) r<;>grind
theorem JD {us:List ay}(hy:y∈us)(h:aa):(restrict us s h).ae y=s.ae y:=by
 cases y with
 | p i=>
  have:us.any (dW (.p i))=true:=i7.2 ⟨_,hy,by simp[dW]⟩;simp only[restrict,St.ae,i8,this,if_true]<;>grind
 | l t=>
  have:us.any (dW (.l t))=true:=i7.2 ⟨_,hy,by simp[dW]⟩;simp only[restrict,St.ae];rw[CM (p:=fun t=>us.any (dW (.l t))),if_pos this]
 | c v=>rfl
theorem Vm {us:List ay}{tmps:Array Value}(hsz:tmps.size=C.N)(hnd:C.aR.Nodup)(hlt:∀t∈C.aR,t<C.N)(hpl:s.pe.length=C.aR.length)
 (hv:∀y∈us,∀v,s.ae y=some v->VS C ρ w tmps y v) (h:aa):ER C ρ w (restrict us s h).pe (restrict us s h).lo tmps:=by
 refine⟨hsz,hnd,hlt,by simp[restrict,hpl],?_,?_⟩
 . intro i v t h1 h2;simp only[restrict,i8,b7]at h1;obtain⟨u,h3,h4⟩:=h1;split at h4
   . rename_i hu;subst h4;obtain⟨y,hy,hs⟩:=i7.1 hu;cases y <;> simp[dW]at hs;subst hs;exact hv _ hy u h3 t h2
   . subst h4;exact .db _
 . intro t v h1;simp only[restrict]at h1;rw[CM (p:=fun t=>us.any (dW (.l t)))]at h1;split at h1
   . rename_i hu;obtain⟨y,hy,hs⟩:=i7.1 hu;cases y <;> simp[dW]at hs;subst hs;exact hv _ hy v h1
   grind
end Go.Ab
namespace Go.Ab
variable {k:Nat}
structure ph (call:dX)(inv:fQ)(il:List aX)(un:Nat->List Nat)(st:Nat->aq)(h0:Nat->aa)(r:Nat->HR):Prop where
 step:∀k o,il[k]? = some o->wK call inv st h0 r k o (un k)
 wr:∀g as h r,call g as h=some r->fI h r
def own (st:Nat->aq)(r:Nat->HR)(k b:Nat):Prop:=b∈(r k).wr\/((st k).s.hp.length<=b/\b<(r k).h.length)
variable {call:dX} {inv:fQ} {il:List aX} {un:Nat->List Nat} {st:Nat->aq} {h0:Nat->aa} {r:Nat->HR}
namespace ph
variable (T:ph call inv il un st h0 r)
include T
theorem JE (hk:k<il.length):fI (h0 k) (r k):=by
 have sk:=T.step k il[k] (by simp[hk]);obtain⟨b,_,h1,h2⟩:=sk.wanted;cases b with
 | true=>exact CH T.wr (h1 rfl)
 | false=>rw[h2 rfl];exact qQ _
theorem wM (hk:k<il.length):(st k).s.hp.length<=(r k).h.length:=by
 have:=(T.JE hk).1;rw[(T.step k il[k] (by simp[hk])).len]at this;exact this
theorem wN (hk:k<il.length):(st (k+1)).s.hp.length=(r k).h.length:=by
 rw[(T.step k il[k] (by simp[hk])).next];exact tg _ _ _ _ (T.wM hk)
theorem jh {i:Nat}:∀{j:Nat},i<=j->j<=il.length->(st i).s.hp.length<=(st j).s.hp.length
 | 0,h,_=>by grind
 | j+1,h,hj=>by
  by_cases e:i=j+1
  . grind
  . have h1:(st i).s.hp.length<=(st j).s.hp.length:=jh ac ac;have h2:=T.wM (k:=j) ac;have h3:=T.wN (k:=j) ac;omega
theorem CN (hk:k<il.length)(b:Nat):(st (k+1)).s.hp[b]? = if b<(st k).s.hp.length then (if (r k).wr.contains b then (r k).h[b]? else (st k).s.hp[b]?) else (r k).h[b]? := by
 rw[(T.step k il[k] (by simp[hk])).next];have:=jr (r k).wr (st k).s.hp (r k).h 0 b (T.wM hk)<;>grind
theorem Vn (hk:k<il.length){b:Nat}(ho:own st r k b):(st (k+1)).s.hp[b]? = (r k).h[b]? := by
 rw[T.CN hk];split
 . rename_i hlt;rcases ho with ho|ho<;>grind
 . rfl
theorem Vo (hk:k<il.length){b:Nat}(ho:¬own st r k b):(st (k+1)).s.hp[b]? = (st k).s.hp[b]? := by
 rw[T.CN hk];have h1:b∉(r k).wr:=fun h=>ho (.inl h)
 split
 . simp[h1]
 . rename_i hge;have h2:(r k).h.length<=b:=by
    rcases b9 b (r k).h.length with h|h
    . exact absurd (.inr ⟨ac,h⟩) ho
    . exact h
   grind
theorem stays {i b:Nat}:∀{m:Nat},i<=m->m<=il.length->(∀j,i<=j->j<m->¬own st r j b)->(st m).s.hp[b]? = (st i).s.hp[b]?
 | 0,h,_,_=>by grind
 | m+1,h,hm,ho=>by
  by_cases e:i=m+1
  . grind
  . rw[T.Vo ac (ho m ac ac)];exact stays ac ac fun j h1 h2=>ho j h1 ac
theorem JF (hk:k<il.length)(y:ay):(st (k+1)).s.ae y=((st k).s.put il[k].dst (r k).v).ae y:=by
 rw[(T.step k il[k] (by simp[hk])).next];rfl
theorem CO {i:Nat}{y:ay}:∀{m:Nat},i<=m->m<=il.length->(∀(j:Nat) (o:aX),i<=j->j<m->il[j]? = some o->dW o.dst y=false)->(st m).s.ae y=(st i).s.ae y
 | 0,h,_,_=>by grind
 | m+1,h,hm,ho=>by
  by_cases e:i=m+1
  . grind
  . rw[T.JF ac,Vl (ho m _ ac ac be)];exact CO ac ac fun j o h1 h2 h3=>ho j o h1 ac h3
theorem db {b:Nat}(h:(st 0).s.hp[b]? = some none):∀{k:Nat},k<=il.length->(st k).s.hp[b]? = some none
 | 0,_=>h
 | k+1,hk=>by
  have ih:=db h (k:=k) ac;have hlt:=(b5.1 ih).1;rw[T.CN ac,if_pos hlt];have:b∉(r k).wr:=by
   intro hb;have sk:=T.step k il[k] be;obtain⟨x,hx⟩:=sk.ti b hb;rw[sk.known b x hx]at ih;cases ih
  grind
theorem JG (hk:k<=il.length):(st k).s.pe.length=(st 0).s.pe.length:=by
 induction k with
 | zero=>rfl
 | succ k ih=>
  rw[←ih ac,(T.step k il[k] be).next];cases il[k].dst <;> simp[St.put]
theorem bV (hk:k<=il.length):(st k).s.bV=(st 0).s.bV:=by
 induction k with
 | zero=>rfl
 | succ k ih=>
  rw[←ih ac,(T.step k il[k] be).next];cases il[k].dst <;> simp[St.put]
end ph
end Go.Ab
namespace Go.Ab
variable {call:dX} {inv:fQ} {il:List aX} {un:Nat->List Nat} {st:Nat->aq} {h0:Nat->aa} {r:Nat->HR} {C:Cx} {bits:List Nat} {ρ0:az} {w0:World} {df:List Deferred}
structure Inv (C:Cx)(il:List aX)(st:Nat->aq)(r:Nat->HR)(bits:List Nat)(ρ0:az)(w0:World)(df:List Deferred)(S:Nat->Prop)(ρ:az)(H:aa)(a:Act)(w:World):Prop where
 hlen:H.length=(st il.length).s.hp.length
 mem:Mem C.P C.gl ρ H w
 ext:Ext (st 0).s.hp H ρ0 ρ w0 w
 wO:∀k,k<il.length->¬S k->∀b,(st k).s.hp.length<=b->b<(r k).h.length->H[b]? = some (some .hole)
 heap:∀b k,k<=il.length->(∀i,i<k->own st r i b->S i)->(∀j,k<=j->j<il.length->S j->¬own st r j b)->∀o,(st k).s.hp[b]? = some (some o)->H[b]? = some (some o)/\o.top<=(st k).s.hp.length
 slot:∀y k,k<=il.length->(∀(i:Nat) o,i<k->il[i]? = some o->dW o.dst y=true->S i)->(∀(j:Nat) o,k<=j->il[j]? = some o->S j->dW o.dst y=false) ->
  ∀v,(st k).s.ae y=some v->VS C ρ w a.tmps y v/\((∃c,y = .c c)\/v.top<=(st k).s.hp.length)
 size:a.tmps.size=C.N
 hJ:a.defers=df
 CP:∀i,S i->i<il.length->∀j,j<i->(bits.getD i 0).testBit j=true->S j
theorem Inv.after (T:ph call inv il un st h0 r){S:Nat->Prop}{ρ:az}{H:aa}{a:Act}{w:World}(I:Inv C il st r bits ρ0 w0 df S ρ H a w)(hnd:C.aR.Nodup){k:Nat}{io:aX}(hio:il[k]? = some io)(hS:¬S k)
 (hap:∀(i:Nat) oi,il[i]? = some oi->∀j∈un i,∃oj,il[j]? = some oj/\qB oj oi=true)
 (hb1:∀j,j<k->¬S j->j∈un k) (hb2:∀j,k<j->j<il.length->S j->k∈un j) (hb3:∀j,j<k->(bits.getD k 0).testBit j=true->S j)
 (hkey:∀(b:Nat) x,(h0 k)[b]? = some (some x)->H[b]? = some (some x)) {dst:Option Tmp} (hd:lF C dst=some io.dst) {v':Value} {w':World} {ρ':az}
 (hv:V ρ' w' (r k).v v') (m':Mem C.P C.gl ρ' (r k).h w') (x:Ext (h0 k) (r k).h (eA (st k).s.hp.length ρ) ρ' w w') :
 ∃ρn H',Inv C il st r bits ρ0 w0 df (fun i=>S i\/i=k) ρn H' (a.put dst v') w':=by
 have hk:k<il.length:=(b5.1 hio).1;have hioe:il[k]=io:=(b5.1 hio).2;have sk:=T.step k io hio;have hlo:(h0 k).length=(st k).s.hp.length:=sk.len;have hle:=T.wM hk;have hnx:=T.wN hk;have hwr:=T.JE hk;have hmn:=T.jh (i:=k+1) (j:=il.length) ac (dY _);generalize hloe:(st k).s.hp.length=lo at *
 generalize hhie:(r k).h.length=hi at *
 let ownb:Nat->Bool:=fun b=>(r k).wr.contains b || (decide (lo<=b) && decide (b<hi))
 have ownb_iff:∀b,ownb b=true↔own st r k b:=by
  intro b;simp only[ownb,own,hloe,hhie];simp
 let ρn:az:=⟨fun b=>if b<hi then ρ' b else ρ b,ρ.X⟩
 let H':aa:=H.mapIdx fun b o=>if ownb b then ((r k).h[b]?).join else o
 have hH':∀b,H'[b]? = (H[b]?).map fun o=>if ownb b then ((r k).h[b]?).join else o:=by
  intro b;simp only[H',i8]
 have hH'len:H'.length=H.length:=by simp[H']
 have cut_eq:∀b,b<lo->(eA lo ρ) b=ρ b:=fun b hb=>by simp only[eA];grind
 have cut_ge:∀b,lo<=b->(eA lo ρ) b = .fresh:=fun b hb=>by simp only[eA];grind
 have fresh_new:∀b,lo<=b->b<hi->ρ b = .fresh:=fun b h1 h2=>I.mem.dc b .hole (I.wO k hk hS b ac ac)
 have h0none:∀b,b<lo->H[b]? = some none->(h0 k)[b]? = some none:=by
  intro b hb hn;cases hz:(h0 k)[b]? with
  | none=>grind
  | some z=>cases z with
    | none=>rfl
    | some z=>grind
 have ρn_lt:∀b,b<hi->ρn b=ρ' b:=bS;have ρn_ge:∀b,hi<=b->ρn b=ρ b:=bS;have E:Ext H H' ρ ρn w w':=by
  refine⟨x.os,x.tape,x.output,x.size,ac,rfl,?_,?_,?_,?_,?_,?_,?_,x.shape⟩
  . intro b hb;have:ownb b=false:=by
     rw[f8];intro ho;rcases (ownb_iff b).1 ho with h|⟨h1,h2⟩
     . obtain⟨z,hz⟩:=sk.ti b h;grind
     . rw[I.wO k hk hS b h1 h2]at hb;cases hb
    rw[hH' b,hb];simp[this]
  . intro b hb;rcases b9 b hi with h|h
    . rw[ρn_lt b h];have hblo:b<lo:=by
       rcases b9 b lo with h'|h'
       . exact h'
       . rw[I.wO k hk hS b ac ac]at hb;cases hb
      rw[x.same b bS,cut_eq b hblo]
    grind
  . intro b c d hb;rcases b9 b hi with h|h
    . rw[ρn_lt b h];rcases b9 b lo with h'|h'
      . exact x.live b c d bS
      grind
    grind
  . intro b hb;rcases b9 b hi with h|h
    . rw[ρn_lt b h];rcases b9 b lo with h'|h'
      . exact x.dead b bS
      grind
    grind
  . intro b hb;rcases b9 b hi with h|h
    . rw[ρn_lt b h];rcases b9 b lo with h'|h'
      . exact x.nil b bS
      grind
    grind
  . intro c hc hu;refine x.ck c hc fun b d hb=>?_
    grind
  . intro b c d hb hc;rcases b9 b hi with h|h
    . rw[ρn_lt b h]at hb;rcases x.back b c d hb hc with h1|⟨b0,d0,h1,h2⟩
      . grind
      grind
    grind
 have hFree:∀c,cW ρ' c->cW ρn c:=by
  intro c hc;have hX:ρ'.X=(eA lo ρ).X:=x.X;have h2:=hc.2;rw[hX]at h2;refine⟨fun b d hb=>?_,fun hx=>h2 (.inl hx)⟩;rcases b9 b hi with h|h
  . rw[ρn_lt b h]at hb;exact hc.1 b d hb
  . rw[ρn_ge b h]at hb;exact h2 (.inr ⟨b,d,ac,hb⟩)
 have top':∀{y:AV} {u:Value},V ρ' w' y u->y.top<=hi:=fun hy=>hy.top fun b hb=>m'.fresh b ac
 have hM:Mem C.P C.gl ρn H' w':=by
  refine⟨?_,?_,?_,?_,?_,?_,fun g v hg=>(I.mem.gl g v hg).mono E⟩
  . intro b o hb;rw[hH' b]at hb;cases hz:H[b]? with
    | none=>grind
    | some z=>
     rw[hz]at hb;simp only[fT,ci.injEq]at hb;have useR:(r k).h[b]? = some (some o)->BR C.P C.gl ρn w' b o:=by
      intro hr;have hb':b<hi:=by have:=(b5.1 hr).1;omega
      have hbr:=m'.dc b o hr;exact hbr.ik (n:=hi) ac hFree hb' (hbr.top fun b hb=>m'.fresh b ac)
     split at hb
     . grind
     . rename_i hno;subst hb;have hno':¬own st r k b:=bS;have hbr:=I.mem.dc b o hz;rcases b9 b lo with h'|h'
       . cases hz0:(h0 k)[b]? with
         | none=>grind
         | some z0=>
          cases z0 with
          | some o'=>
           have:=hkey b o' hz0;rw[hz]at this;cases this;refine useR ?_;rw[hwr.2 b ac bS,hz0]
          | none=>
           refine hbr.mono E ?_ ?_
           . rw[ρn_lt b ac,x.same b hz0,cut_eq b h']
           . intro c d hl;refine x.ck c (I.mem.bound b c d hl) fun b' d' hb'=>?_
             rcases b9 b' lo with h''|h''
             . rw[cut_eq b' h'']at hb';have:=I.mem.inj _ _ _ _ _ hl hb';grind
             grind
       . have hge:hi<=b:=by
          rcases b9 b hi with h|h
          . grind
          . exact h
         refine hbr.mono E (ρn_ge b hge) ?_;intro c d hl;refine x.ck c (I.mem.bound b c d hl) fun b' d' hb'=>?_
         rcases b9 b' lo with h''|h''
         . rw[cut_eq b' h'']at hb';have:=I.mem.inj _ _ _ _ _ hl hb';omega
         grind
  . intro b hb;rw[hH'len,I.hlen]at hb;rw[ρn_ge b ac];exact I.mem.fresh b (by rw[I.hlen];exact hb)
  . have key:∀b b' c d d',b<hi->hi<=b'->ρ' b = .live c d->ρ b' = .live c d'->False:=by
     intro b b' c d d' h1 h2 h3 h4;have:=m'.xo b c d h3;rw[x.X]at this;exact this (.inr ⟨b',d',ac,h4⟩)
    intro b b' c d d' h1 h2;rcases b9 b hi with h|h <;> rcases b9 b' hi with h'|h'
    . rw[ρn_lt b h]at h1;rw[ρn_lt b' h']at h2;exact m'.inj _ _ _ _ _ h1 h2
    . grind
    . grind
    . rw[ρn_ge b h]at h1;rw[ρn_ge b' h']at h2;exact I.mem.inj _ _ _ _ _ h1 h2
  . intro b c d hb;rcases b9 b hi with h|h
    . rw[ρn_lt b h]at hb;exact m'.bound _ _ _ hb
    . rw[ρn_ge b h]at hb;exact iy (I.mem.bound _ _ _ hb) x.size
  . intro c hc;exact iy (I.mem.xb c hc) x.size
  . intro b c d hb hX;rcases b9 b hi with h|h
    . rw[ρn_lt b h]at hb;have:=m'.xo b c d hb;rw[x.X]at this;exact this (.inl hX)
    . rw[ρn_ge b h]at hb;exact I.mem.xo _ _ _ hb hX
 have hvn:V ρn w' (r k).v v':=hv.ik (n:=hi) ac hFree (top' hv);refine⟨ρn,H',⟨by rw[hH'len];exact I.hlen,hM,I.ext.trans E,?_,?_,?_,?_,?_,?_⟩⟩
 . -- holes
   intro k' hk' hS' b h1 h2;have hne:k'≠k:=ac;have hh:=I.wO k' hk' bS b h1 h2;have:ownb b=false:=by
    rw[f8];intro ho;rcases (ownb_iff b).1 ho with h|⟨h3,h4⟩
    . obtain⟨z,hz⟩:=sk.ti b h;rw[hkey b z hz]at hh;cases hh;have hst:=sk.known b _ hz;rcases mU k' k with hlt|heq|hgt
      . -- made by k' in the text's order, so k' has been carried out
        have hun:k'∈un k:=bS;exact(sk.off b _ hz k' hun hlt).2 ⟨h1,h2⟩
      . omega
      . have hlen':=(b5.1 hz).1;have:=T.jh (i:=k) (j:=k') ac ac;omega
    . rcases mU k' k with hlt|heq|hgt
      . have h5:=T.wN hk';have h6:=T.jh (i:=k'+1) (j:=k) ac ac;omega
      . omega
      . have h6:=T.jh (i:=k+1) (j:=k') ac ac;omega
   rw[hH' b,hh];simp[this]
 . -- heap
   intro b m hm h1 h2 o ho;by_cases bT:own st r k b
   . have hkm:k<m:=by
      rcases b9 k m with h|h
      . exact h
      . grind
     have hst:=T.stays (i:=k+1) (b:=b) (m:=m) ac hm (fun j hj1 hj2 hoj=>by
      have hSj:S j:=bS;have hun:=hb2 j ac ac hSj;have sj:=T.step j il[j] be;rcases hoj with hoj|hoj
      . obtain⟨z,hz⟩:=sj.ti b hoj;have:=sj.off b z hz k hun ac;grind
      . have hlj:=T.jh (i:=k+1) (j:=j) ac ac;rcases bT with bT|bT
        . obtain⟨z,hz⟩:=sk.ti b bT;grind
        . omega)
     rw[hst,T.Vn hk bT]at ho;have hbl:b<H.length:=by
      have:=(b5.1 ho).1;have:=I.hlen;omega
     refine⟨?_,?_⟩
     . grind
     . have:=(m'.dc b o ho).top (n:=hi) (fun b hb=>m'.fresh b ac);have:=T.jh (i:=k+1) (j:=m) ac hm;omega
   . have hno:ownb b=false:=by rw[f8];exact bS
     obtain⟨g1,g2⟩:=I.heap b m hm bS bS o ho;grind
 . -- slots
   intro y m hm h1 h2 v hv0;by_cases hy:dW io.dst y=true
   . have hkm:k<m:=by
      rcases b9 k m with h|h
      . exact h
      . grind
     have hst:=T.CO (i:=k+1) (y:=y) (m:=m) ac hm (fun j oj hj1 hj2 hoj=>by
      rw[f8];intro hyj;have hSj:S j:=bS;have hun:=hb2 j ac ac hSj;obtain⟨ok,bT,hapt⟩:=hap j oj hoj k hun;rw[hio]at bT;cases bT;simp only[qB,b8,Bool.not_eq_true']at hapt;have:=hapt.2;cases hd1:io.dst <;> cases hd2:oj.dst <;> cases y <;> simp[hd1,hd2,dW,Ip]at hy hyj this
      . omega
      omega)
     rw[hst,T.JF hk,hioe]at hv0;have:=Vk hy hv0;subst this;refine⟨VS.CL hd I.size hy hvn,.inr ?_⟩;have:=T.jh (i:=k+1) (j:=m) ac hm;grind
   . have hy':dW io.dst y=false:=by simpa using hy
     obtain⟨g1,g2⟩:=I.slot y m hm bS bS v hv0;exact⟨(g1.mono E).Vj hd hnd hy',g2⟩
 . rw[wL];cases dst <;> simp[I.size]
 . rw[←I.hJ];unfold Act.put;grind
 . intro i hSi hi' j hj hbit;rcases hSi with hSi|rfl
   . exact .inl (I.CP i hSi hi' j hj hbit)
   grind
end Go.Ab
namespace Go.Ab
variable {call:dX} {il:List aX} {st:Nat->aq} {h0:Nat->aa} {r:Nat->HR} {C:Cx} {bits:List Nat} {ρ0:az} {w0:World} {df:List Deferred} {ops:Array Oper}
theorem Vp {α:Type}{l:List α}{i:Nat}{x:α}(h:l[i]? = some x):(x,i)∈l.zipIdx:=by
 grind
theorem JH (h:qI ops.toList bits=true){i:Nat}{o:Oper}(ho:ops[i]? = some o) :
 (∀e∈o.after,Region.binds .any e=true->e.on<i)/\∀j,j<i->(bits.getD i 0).testBit j=true->∃e∈o.after,Region.binds .any e=true/\(e.on=j\/(j<e.on/\(bits.getD e.on 0).testBit j=true)):=by
 have:=d9.1 h (o,i) bS;grind
theorem JI {b i j:Nat}:j∈jZ b i↔j<i/\b.testBit j=false:=by
 simp[jZ]
theorem Vq (h:qJ il bits=true)(i:Nat)(oi:aX)(ho:il[i]? = some oi):∀j∈jZ (bits.getD i 0) i,∃oj,il[j]? = some oj/\qB oj oi=true:=by
 intro j hj;have:=d9.1 h (oi,i) (Vp ho)<;>grind
theorem Inv.step (hcall:nz C.P C.gl call)(T:ph call (ew C.P) il (fun k=>jZ (bits.getD k 0) k) st h0 r)(hil:kB C ops.toList ops.toList=some il)(hbits:qI ops.toList bits=true)(hdraw:qJ il bits=true)
 (hnd:C.aR.Nodup) (hlt:∀t∈C.aR,t<C.N) (hpl:(st 0).s.pe.length=C.aR.length) (hgl:∀g v,C.gl g=some v->v.top<=(st 0).s.hp.length) {S:Nat->Prop} {ρ:az} {H:aa} {a:Act} {w:World}
 (I:Inv C il st r bits ρ0 w0 df S ρ H a w) {k:Nat} {o:Oper} (ho:ops[k]? = some o) (hS:¬S k) (hready:∀e∈o.after,Region.binds .any e=true->S e.on) {ro:Option Nat} {K:Act->World->Prop} {Q:Exit->Act->World->Prop}
 (hK:∀ρn H' a' w',Inv C il st r bits ρ0 w0 df (fun i=>S i\/i=k) ρn H' a' w'->K a' w'):wpOpIn (FR ro) 0 C.P ops Q k K a w:=by
 obtain⟨hlen,hget⟩:=th hil;obtain⟨io,hio,hoi⟩:=hget k o bS;obtain⟨hd,hop,hg⟩:=Jz hoi;have hk:k<il.length:=(b5.1 hio).1;have sk:=T.step k io hio;obtain⟨hbb,hbt⟩:=JH hbits ho;have hb3:∀j,j<k->(bits.getD k 0).testBit j=true->S j:=by
  intro j hj hbit;obtain⟨e,he,hb,hor⟩:=hbt j hj hbit;have hSe:=hready e he hb;have hek:=hbb e he hb;rcases hor with rfl|hor
  . exact hSe
  . exact I.CP e.on hSe ac j hor.1 hor.2
 have hb1:∀j,j<k->¬S j->j∈jZ (bits.getD k 0) k:=by
  intro j hj hSj;rw[JI];refine⟨hj,?_⟩;rw[f8];exact bS
 have hb2:∀j,k<j->j<il.length->S j->k∈jZ (bits.getD j 0) j:=by
  intro j hj hjl hSj;rw[JI];refine⟨hj,?_⟩;rw[f8];exact fun hbit=>hS (I.CP j hSj hjl k hj hbit)
 have hap:=Vq hdraw;have hkey:∀(b:Nat) x,(h0 k)[b]? = some (some x)->H[b]? = some (some x)/\x.top<=(st k).s.hp.length:=by
  intro b x hb;refine I.heap b k ac ?_ ?_ x (sk.known b x hb)
  . intro i hi hoi;rcases mV (S i) with h|h
    . exact h
    . have:=sk.off b x hb i (hb1 i hi h) hi;rcases hoi with hoi|hoi<;>grind
  . intro j hj hjl hSj hoj;have hne:j≠k:=bS;have hun:=hb2 j ac hjl hSj;rcases hoj with hoj|hoj
    . exact(T.step j il[j] be).Vh k hun ac b hoj x hb
    . have h1:=(b5.1 hb).1;rw[sk.len]at h1;have:=T.jh (i:=k) (j:=j) ac ac<;>grind
 have hslot:∀y∈io.iw,∀v,(st k).s.ae y=some v->VS C ρ w a.tmps y v/\((∃c,y = .c c)\/v.top<=(st k).s.hp.length):=by
  intro y hy v hv;refine I.slot y k ac ?_ ?_ v hv
  . intro i oi hi hoi hs;rcases mV (S i) with h|h
    . exact h
    . obtain⟨oj,hoj,hapt⟩:=hap k io hio i (hb1 i hi h);rw[hoi]at hoj;cases hoj;simp only[qB,b8]at hapt<;>grind
  . intro j oj hj hoj hSj;have hne:j≠k:=bS;have hjl:=(b5.1 hoj).1;obtain⟨ok,bT,hapt⟩:=hap j oj hoj k bS;rw[hio]at bT;cases bT;simp only[qB,b8]at hapt<;>grind
 have js:∀{x:AV} {v:Value},V ρ w x v->x.top<=(st k).s.hp.length->V (eA (st k).s.hp.length ρ) w x v:=fun hv ht=>
  hv.ik (fun b hb=>by simp only[eA];grind) (fun c hc=>hc.eA _) ht
 have hmem:Mem C.P C.gl (eA (st k).s.hp.length ρ) (h0 k) w:=by
  refine⟨?_,?_,?_,?_,?_,?_,?_⟩
  . intro b x hb;have h1:=(b5.1 hb).1;rw[sk.len]at h1;obtain⟨g1,g2⟩:=hkey b x hb;exact(I.mem.dc b x g1).ik (fun b hb=>by simp only[eA];grind) (fun c hc=>hc.eA _) h1 g2
  . intro b hb;rw[sk.len]at hb;simp only[eA];grind
  . intro b b' c d d' h1 h2;simp only[eA]at h1 h2;split at h1
    . split at h2
      . exact I.mem.inj _ _ _ _ _ h1 h2
      grind
    grind
  . intro b c d h1;simp only[eA]at h1;split at h1
    . exact I.mem.bound _ _ _ h1
    grind
  . rintro c (hc|⟨b,d,_,hb⟩)
    . exact I.mem.xb c hc
    . exact I.mem.bound _ _ _ hb
  . intro b c d h1 hX;simp only[eA]at h1;split at h1
    . rename_i hlt';rcases hX with hX|⟨b',d',hge,hb'⟩
      . exact I.mem.xo _ _ _ h1 hX
      . have:=I.mem.inj _ _ _ _ _ h1 hb'<;>grind
    grind
  . intro g v hg';refine js (I.mem.gl g v hg') ?_;have:=hgl g v hg';have:=T.jh (i:=0) (j:=k) ac ac;omega
 have hrel:Rel C (eA (st k).s.hp.length ρ) (restrict io.iw (st k).s (h0 k)) a w:=by
  refine⟨Vm I.size hnd hlt (by rw[T.JG ac];exact hpl) ?_ _,hmem⟩;intro y hy v hv;obtain⟨g1,g2⟩:=hslot y hy v hv;cases y with
  | p i=>exact fun t ht=>js (g1 t ht) bS
  | l t=>exact⟨g1.1,g1.2.1,js g1.2.2 bS⟩
  | c _=>trivial
 have hfin:∀(v':Value) (w':World) (ρ':az),V ρ' w' (r k).v v'->Mem C.P C.gl ρ' (r k).h w'->Ext (h0 k) (r k).h (eA (st k).s.hp.length ρ) ρ' w w'->K (a.put o.dst v') w':=by
  intro v' w' ρ' hv m' x;obtain⟨ρn,H',I'⟩:=Inv.after T I hnd hio hS hap hb1 hb2 hb3 bS hd hv m' x;exact bS
 obtain⟨b,hw,hb1',hb0'⟩:=sk.wanted;have hwr:dP (restrict io.iw (st k).s (h0 k)) io.guard=some b:=by
  rw[←hw];unfold dP;cases hgd:io.guard with
  | none=>rfl
  | some g=>
   obtain⟨y,want⟩:=g;simp only;rw[JD (s:=(st k).s) (y:=y) (us:=io.iw) (by simp[aX.iw,hgd])]
 have hwant:=CC hrel hg hwr;unfold wpOpIn;rw[ho];simp only[hwant];cases b with
 | true=>
  simp only[if_true];have hq:bI call (ew C.P) (restrict io.iw (st k).s (h0 k)) io.op=some (r k):=by
   rw[←hb1' rfl];refine Jy rfl fun y hy=>?_
   rw[JD (by simp[aX.iw,hy])];cases y <;> rfl
  refine Jv hcall hrel hop hq ?_;rintro v' w' ⟨ρ',hv,m',x⟩;exact hfin v' w' ρ' hv m' x
 | false=>
  simp only[ce,if_false];refine⟨fun _ _=>trivial,?_⟩;have e:=hb0' rfl;refine hfin undef w (eA (st k).s.hp.length ρ) ?_ ?_ ?_
  . grind[V.undef]
  . grind
  grind[Ext.refl]
end Go.Ab
namespace Go.Ab
variable {call:dX} {il:List aX} {st:Nat->aq} {h0:Nat->aa} {r:Nat->HR} {C:Cx} {bits:List Nat} {ρ0:az} {w0:World} {df:List Deferred} {ops:Array Oper}
theorem all_true (l:List Bool)(h:l.count false=0)(i:Nat)(hi:i<l.length):l[i]? = some true:=by
 grind
theorem Vr (hcall:nz C.P C.gl call)(T:ph call (ew C.P) il (fun k=>jZ (bits.getD k 0) k) st h0 r)(hil:kB C ops.toList ops.toList=some il)(hbits:qI ops.toList bits=true)(hdraw:qJ il bits=true)
 (hnd:C.aR.Nodup) (hlt:∀t∈C.aR,t<C.N) (hpl:(st 0).s.pe.length=C.aR.length) (hgl:∀g v,C.gl g=some v->v.top<=(st 0).s.hp.length) {ro:Option Nat} {Q:Exit->Act->World->Prop}
 (hQ:∀(S:Nat->Prop) ρ H a w,(∀i,i<il.length->S i)->Inv C il st r bits ρ0 w0 df S ρ H a w->Q .normal a w) :
 ∀(fuel:Nat) (listed:Array Bool) (ρ:az) (H:aa) (a:Act) (w:World),listed.size=ops.size->Inv C il st r bits ρ0 w0 df (fun i=>listed[i]? = some true) ρ H a w->listed.toList.count false<=fuel ->
  wpAnyIn (FR ro) 0 C.P .any ops Q fuel listed a w:=by
 have hlen:il.length=ops.size:=by have:=(th hil).1;simpa using this
 intro fuel;induction fuel with
 | zero=>
  intro listed ρ H a w hsz I hc;have hall:∀i,i<ops.size->listed[i]? = some true:=fun i hi=>by
   have:=all_true listed.toList ac i bS;grind
  refine⟨?_,hQ _ ρ H a w bS I⟩;rw[List.eq_nil_iff_forall_not_mem];intro i hi;obtain⟨h1,o,h2,_⟩:=mem_ready.1 hi;have hi':=(hZ.1 h2).1<;>simp_all
 | succ fuel ih=>
  intro listed ρ H a w hsz I hc;refine⟨fun hr=>?_,fun k hk=>?_⟩
  . refine hQ _ ρ H a w (fun i=>?_) I;induction i using j7 with
    | _ i ihi=>
     intro hi;have hi':i<ops.size:=by omega
     have hl:i<listed.size:=by omega
     cases hq:listed[i] with
     | true=>grind
     | false=>
      exfalso;have:i∈Region.ready .any ops listed:=by
       rw[mem_ready];refine⟨by simp_all,ops[i],be,fun e he hb=>?_⟩;have hon:=(JH (bits:=bits) hbits (i:=i) (o:=ops[i]) be).1 e he hb;have:=ihi e.on hon ac;rw[c7,this];rfl
      grind
  . obtain⟨h1,o,h2,h3⟩:=mem_ready.1 hk;have hk':=(hZ.1 h2).1;have hl:k<listed.size:=by omega
    have hkf:listed[k]? = some false:=by
     rw[c7]at h1;cases hq:listed[k]? with
     | none=>grind
     | some b=>grind
    refine Inv.step hcall T hil hbits hdraw hnd hlt hpl hgl I h2 bS (fun e he hb=>?_) ?_
    . have:=h3 e he hb;rw[c7]at this;grind
    grind
theorem Vs (hcall:nz C.P C.gl call)(hmix:C.P.follows .mixedOrders=true)(hwr:∀g as h r,call g as h=some r->fI h r){ro:Option Nat}{id:Nat}{ρ:az}{a:Act}{w:World}(hil:kB C ops.toList ops.toList=some il)(hbits:qI ops.toList bits=true)(hdraw:qJ il bits=true)
 {Q:Exit->Act->World->Prop} {s s':aq} (rel:Rel C ρ s.s a w) (hq:dI call (ew C.P) (il.zipIdx.map fun (o,i)=>(o,jZ (bits.getD i 0) i)) ⟨{ s.s with lo:=[] },s.wr⟩ []=some s')
 (hQ:∀ρ' a' w',Rel C ρ' s'.s a' w'->Ext s.s.hp s'.s.hp ρ ρ' w w'->a'.defers=a.defers->s'.s.bV=s.s.bV->Q .normal a' w'):(Code.region id ops true).wpIn (FR ro) 0 C.P Q a w:=by
 obtain⟨hlen,hget⟩:=th hil;have hlen':il.length=ops.size:=by simpa using hlen
 obtain⟨st,h0,r,_,e2,e3,e4⟩:=trace _ _ [] s' (fun _=>s) (fun _=>[]) (fun _=>⟨.db,[],[]⟩) (by intro j d hj;simp at hj) hq;simp only[it,i9,List.length_map,List.length_zipIdx]at e2 e3 e4;have T:ph call (ew C.P) il (fun k=>jZ (bits.getD k 0) k) st h0 r:=by
  refine⟨fun k o ho=>e4 k o _ ?_,hwr⟩;rw[g9,List.getElem?_zipIdx,ho];simp
 have hst0:(st 0).s.hp=s.s.hp:=by rw[e2]
 have hpe0:(st 0).s.pe=s.s.pe:=by rw[e2]
 have hn:(st il.length)=s':=e3;have er:=rel.er;have hgl:∀g v,C.gl g=some v->v.top<=(st 0).s.hp.length:=fun g v hg=>by
  rw[hst0];exact(rel.mem.gl g v hg).top fun b hb=>rel.mem.fresh b hb
 refine wpIn_region_any hmix ?_;have md:=rel.mem.drew (w.drawn+1);have xd:=Ext.drew s.s.hp ρ w (w.drawn+1);have hmono:=T.jh (i:=0) (j:=il.length) ac (dY _);let H0:aa:=s.s.hp++kJ ((st il.length).s.hp.length-s.s.hp.length) (some .hole)
 have hH0:∀b,H0[b]? = if b<s.s.hp.length then s.s.hp[b]? else if b<(st il.length).s.hp.length then some (some .hole) else none:=by
  intro b;simp only[H0];rw[ky];split
  . rfl
  . grind
 have hH0len:H0.length=(st il.length).s.hp.length:=by
  simp only[H0];rw[hst0]at hmono;simp;omega
 have hext:Ext (st 0).s.hp H0 ρ ρ w { w with drawn:=w.drawn+1 }:=by
  rw[hst0];refine⟨xd.os,xd.tape,xd.output,xd.size,bS,rfl,?_,xd.same,xd.live,xd.dead,xd.nil,xd.ck,xd.back,xd.shape⟩;intro b hb;rw[hH0 b,if_pos (b5.1 hb).1];exact hb
 have hmem:Mem C.P C.gl ρ H0 { w with drawn:=w.drawn+1 }:=by
  refine⟨?_,?_,md.inj,md.bound,md.xb,md.xo,md.gl⟩
  . intro b o hb;rw[hH0 b]at hb;split at hb
    . exact md.dc b o hb
    . split at hb
      . cases hb;exact md.fresh b ac
      grind
  . intro b hb;rw[hH0len]at hb;rw[hst0]at hmono;exact md.fresh b ac
 have init:Inv C il st r bits ρ w a.defers (fun i=>(j8 ops.size false)[i]? = some true) ρ H0 a { w with drawn:=w.drawn+1 }:=by
  have hnone:∀i:Nat,¬(j8 ops.size false)[i]? = some true:=by
   intro i h;rw[Array.getElem?_replicate]at h;split at h <;> cases h
  refine⟨hH0len,hmem,hext,?_,?_,?_,er.size,rfl,?_⟩
  . intro k hk _ b h1 h2;have g1:=T.jh (i:=0) (j:=k) ac ac;have g2:=T.wN hk;have g3:=T.jh (i:=k+1) (j:=il.length) ac (dY _)<;>grind
  . intro b k hk h1 _ o ho;have hst:=T.stays (i:=0) (b:=b) (m:=k) ac hk bS;rw[hst,hst0]at ho;have hlt:=(b5.1 ho).1;refine⟨bS,?_⟩;have h3:=(rel.mem.dc b o ho).top (n:=s.s.hp.length) fun b hb=>rel.mem.fresh b hb
    have g1:=T.jh (i:=0) (j:=k) ac hk<;>grind
  . intro y k hk h1 _ v hv;have hst:=T.CO (i:=0) (y:=y) (m:=k) ac hk bS;rw[hst,e2]at hv;have g1:=T.jh (i:=0) (j:=k) ac hk;rw[hst0]at g1;cases y with
    | p i=>
     simp only[St.ae]at hv;have hi:=(b5.1 hv).1;have hp:=er.jH;refine⟨fun t ht=>(er.pe i v t hv ht).mono xd,.inr ?_⟩;have h3:=(er.pe i v C.aR[i] hv be).top (n:=s.s.hp.length) fun b hb=>rel.mem.fresh b hb<;>grind
    | l t=>simp[St.ae]at hv
    | c c=>exact⟨trivial,.inl ⟨c,rfl⟩⟩
  . grind
 refine Vr hcall T hil hbits hdraw er.nodup er.lt (by rw[hpe0];exact er.jH) hgl (ρ0:=ρ) (w0:=w) (df:=a.defers) ?_ ops.size _ ρ H0 a _ be init ?_
 . intro S ρ1 H a1 w1 hall I;have hblk:∀b o,(st il.length).s.hp[b]? = some (some o)->H[b]? = some (some o):=fun b o ho=>
    (I.heap b il.length (dY _) bS ac o ho).1
   have hslot:∀y v,(st il.length).s.ae y=some v->VS C ρ1 w1 a1.tmps y v:=fun y v hv=>
    (I.slot y il.length (dY _) bS (fun j o hj ho=>by
     grind) v hv).1
   rw[hn]at hblk hslot;have hl1:H.length=s'.s.hp.length:=by rw[I.hlen,hn]
   refine hQ ρ1 a1 w1 ⟨⟨I.size,er.nodup,er.lt,?_,fun i v t hv ht=>hslot (.p i) v hv t ht,fun t v hv=>hslot (.l t) v hv⟩,?_⟩ ?_ I.hJ ?_
   . rw[←hn,T.JG (dY _),hpe0];exact er.jH
   . exact⟨fun b o hb=>I.mem.dc b o (hblk b o hb),fun b hb=>I.mem.fresh b ac,I.mem.inj,I.mem.bound,I.mem.xb,I.mem.xo,I.mem.gl⟩
   . have x:=I.ext;rw[hst0]at x;refine⟨x.os,x.tape,x.output,x.size,bS,x.X,fun b hb=>?_,x.same,x.live,x.dead,x.nil,x.ck,x.back,x.shape⟩;rw[←hn];exact T.db bS (dY _)
   . rw[←hn,T.bV (dY _),e2]
 simp
end Go.Ab
namespace Go.Ab
variable {c:Code}
variable {P:Program} {gl:Nat->Option AV} {ρ:az} {w:World} {h:aa} {C:Cx} {s:St} {a:Act}
section scope
variable {F:Fence} {n:Nat} {b:Frame} {k:List Item} {cs:List Frame} {Q:Exit->Act->World->Prop}
theorem qR:step P (lone (b.atR a (.code (.scope c)::k)) cs w) = .next (lone (b.atR a (.code c :: .inScope c::k)) cs w):=
 (by rfl)
theorem Vt:step P (lone (b.atR a (.inScope c::k)) cs w) = .next (lone (b.atR a k) cs w):=
 (by rfl)
def noGoto (Q:Exit->Act->World->Prop):Exit->Act->World->Prop
 | .goto _,_,_=>False
 | e,a,w=>Q e a w
theorem Vu (h:c.wpIn F n P (noGoto Q) a w):(Code.scope c).wpIn F n P Q a w:=by
 intro b k cs hro hb hr;have h0:(lone (b.atR a (.code (.scope c)::k)) cs w).fenced P F:=fenced_calm hb hr rfl;obtain⟨e,a₁,w₁,hq,harr⟩:=h b (.inScope c::k) cs hro hb hr;cases e with
 | normal=>exact⟨.normal,a₁,w₁,hq,.head h0 qR (StepsIn.trans harr (.one (fenced_calm hb hr rfl) Vt))⟩
 | exit id=>exact⟨_,a₁,w₁,hq,fun k' hk=>.head h0 qR (harr.1 k' (by simp[exitTo,hk])),
     fun hr' hk=>let ⟨k₁,h1,h2⟩:=harr.2 hr' (by simp[exitTo,hk]);⟨k₁,h1,.head h0 qR h2⟩⟩
 | goto l=>exact hq.elim
 | ret=>exact⟨_,a₁,w₁,hq,.of_steps (.one h0 qR) harr⟩
 | panic ch=>exact⟨_,a₁,w₁,hq,.of_steps (.one h0 qR) harr⟩
 | outgrown=>exact⟨_,a₁,w₁,hq,.of_steps (.one h0 qR) harr⟩
end scope
def fZ (s s':aq):Prop:=s.s.hp.length<=s'.s.hp.length/\(∀b∈s.wr,b∈s'.wr)/\∀b,b<s.s.hp.length->b∉s'.wr->s'.s.hp[b]? = s.s.hp[b]?
theorem fZ.refl (s:aq):fZ s s:=⟨dY _,fun _ h=>h,fun _ _ _=>rfl⟩
theorem fZ.trans {s s1 s2:aq}(x:fZ s s1)(y:fZ s1 s2):fZ s s2:=
 ⟨Nat.le_trans x.1 y.1,fun b hb=>y.2.1 b (x.2.1 b hb),fun b hb hn=>by
  rw[y.2.2 b (iy hb x.1) hn,x.2.2 b hb (fun h=>hn (y.2.1 b h))]⟩
theorem fZ.step {s:aq}{q:HR}{x:St}(hx:x.hp=q.h)(hq:fI s.s.hp q):fZ s ⟨x,q.wr++s.wr⟩:=
 ⟨by rw[hx];exact hq.1,fun b hb=>bS,fun b hb hn=>by
  simp only[fG,not_or]at hn;show x.hp[b]? = _;rw[hx];exact hq.2 b hb hn.1⟩
theorem fZ.same {s:aq}{x:St}(hx:x.hp=s.s.hp):fZ s ⟨x,s.wr⟩:=⟨bS,fun _ h=>h,fun b _ _=>by grind⟩
theorem CV (s:St)(d:eZ)(v:AV):(s.put d v).hp=s.hp:=by cases d <;> rfl
theorem CW {call:dX}{inv:fQ}(hcall:∀g as h r,call g as h=some r->fI h r):∀(l:List aX) (s s':aq),ek call inv l s=some s'->fZ s s'
 | [],s,s',h=>by cases h;exact .refl _
 | o::l,s,s',h=>by
  simp only[ek]at h;split at h
  . split at h
    . rename_i q hq;exact(fZ.step rfl (CH hcall hq)).trans (CW hcall l _ s' h)
    . cases h
  . exact(fZ.same (CV _ _ _)).trans (CW hcall l _ s' h)
  . cases h
theorem CX {call:dX}{inv:fQ}:∀(l:List aX) (s s':aq),ek call inv l s=some s'->s'.s.bV=s.s.bV
 | [],s,s',h=>by cases h;rfl
 | o::l,s,s',h=>by
  have hp:∀(s:St) (d:eZ) (v:AV),(s.put d v).bV=s.bV:=fun s d v=>by cases d <;> rfl
  simp only[ek]at h;split at h
  . split at h
    . exact(CX l _ s' h).trans (hp _ _ _)
    . cases h
  . exact(CX l _ s' h).trans (hp _ _ _)
  . cases h
theorem Vv {call:dX}{inv:fQ}(hcall:∀g as h r,call g as h=some r->fI h r){l:List (aX×List Nat)}{s s':aq}(h:dI call inv l s []=some s'):fZ s s':=by
 obtain⟨st,h0,r,_,e2,e3,e4⟩:=trace l s [] s' (fun _=>s) (fun _=>[]) (fun _=>⟨.db,[],[]⟩) (by intro j d hj;simp at hj) h;simp only[it,i9]at e2 e3 e4;have key:∀k,k<=l.length->fZ (st 0) (st k):=by
  intro k;induction k with
  | zero=>intro _;exact .refl _
  | succ k ih=>
   intro hk;refine(ih ac).trans ?_;have sk:=e4 k l[k].1 l[k].2 (b6 ac);have hwr:fI (h0 k) (r k):=by
    obtain⟨b,_,h1,h2⟩:=sk.wanted;cases b with
    | true=>exact CH hcall (h1 rfl)
    | false=>rw[h2 rfl];exact qQ _
   have hl:(st k).s.hp.length<=(r k).h.length:=by have:=hwr.1;rw[sk.len]at this;exact this
   rw[sk.next];refine⟨by grind[tg],fun b hb=>bS,fun b hb hn=>?_⟩;simp only[fG,not_or]at hn;show (fe (r k).wr (st k).s.hp (r k).h 0)[b]? = _;rw[jr _ _ _ _ _ hl,if_pos hb];grind
 grind
def DF (ρ:az)(ds:List Nat)(l:List Deferred):Prop:=
 ds.length=l.length/\∀(i:Nat) b d,ds[i]? = some b->l[i]? = some d->∃c,d = { target:=.collected c,args:=#[] }/\(ρ b = .live c 0\/ρ b = .dead)
theorem DF.mono {h h':aa}{ρ ρ':az}{w w':World}(x:Ext h h' ρ ρ' w w'){ds:List Nat}{l:List Deferred}(hd:DF ρ ds l):DF ρ' ds l:=
 ⟨hd.1,fun i b d h1 h2=>by
  obtain⟨c,h3,h4⟩:=hd.2 i b d h1 h2;refine⟨c,h3,?_⟩;rcases h4 with h4|h4
  . exact x.live _ _ _ h4
  . exact .inr (x.dead _ h4)⟩
theorem CY:∀(ds:List Nat) (s s':aq),mj ds s=some s'->fZ s s'/\s'.s.pe=s.s.pe/\s'.s.lo=s.s.lo
 | [],s,s',h=>by cases h;exact⟨.refl _,rfl,rfl⟩
 | d::ds,s,s',h=>by
  simp only[mj]at h;split at h
  . obtain⟨h1,h2,h3⟩:=CY ds _ s' h;refine⟨fZ.trans ⟨by simp[aa.put],fun b hb=>bS,fun b hb hn=>?_⟩ h1,h2,h3⟩;simp only[dN,not_or]at hn;exact nf hn.1
  . cases h
theorem JJ {F:Fence}{n:Nat}{fn:Func}{tmps:Array Value}{R:Ending->World->Prop}:∀(ds:List Nat) (l:List Deferred) (s s':aq) (w:World),DF ρ ds l->Mem P gl ρ s.s.hp w->mj ds s=some s' ->
 (∀w',Mem P gl ρ s'.s.hp w'->Ext s.s.hp s'.s.hp ρ ρ w w'->LeavesInM F n P fn tmps R [] .returning w')->LeavesInM F n P fn tmps R l .returning w
 | [],l,s,s',w,hd,m,hq,hk=>by
  have:l=[]:=by have:=hd.1;cases l <;> simp_all
  subst this;cases hq;grind[Ext.refl]
 | b::ds,[],s,s',w,hd,m,hq,hk=>by have:=hd.1;grind
 | b::ds,d::l,s,s',w,hd,m,hq,hk=>by
  simp only[mj]at hq;split at hq
  . rename_i hb;have h0:=qP hb;obtain⟨c,g1,g2⟩:=m.dc b _ h0;obtain⟨c',g3,g4⟩:=hd.2 0 b d rfl rfl;have:c'=c:=by
     rcases g4 with g4|g4
     . grind
     . grind
    subst this;have hO:∀cs0 e0 fr0,w.heap[c']? = some (.cells cs0 e0 fr0)->∃cs' fr',Obj.deferred none = .cells cs' e0 fr'/\cs'.size=cs0.size:=by
     intro _ _ _ hq';rw[g2]at hq';cases hq'
    have x:=Ext.write m h0 g1 none (.deferred none) hO;have m1:=Mem.write m h0 g1 none (.deferred none) hO be;refine⟨be,.inl ⟨c',w.dD c' (.deferred none),by rw[g3],?_,?_⟩⟩
    . simp[Instr.takeDeferred,nu g2,pc g2]
    . exact JJ ds l _ s' _ ⟨by have:=hd.1;grind,fun i b d h1 h2=>hd.2 (i+1) b d bS bS⟩ m1 hq
       fun w' m' x'=>hk w' m' (x.trans x')
  grind
theorem JK {ρ ρ':az}{w w':World}{h:aa}(m:Mem P gl ρ h w){s:aq}(hwr:h.length<=s.s.hp.length/\∀b,b<h.length->b∉s.wr->s.s.hp[b]? = h[b]?){v:AV}{v':Value}(hv:V ρ' w' v v')(m':Mem P gl ρ' s.s.hp w')(x:Ext h s.s.hp ρ ρ' w w') :
 fg P gl ρ h w (dy v h.length s) v' w':=by
 unfold dy;split
 . rename_i hc;simp only[b8,decide_eq_true_eq]at hc;obtain⟨htop,htight⟩:=hc;have hb:∀b,b<h.length->ρ b≠.fresh->True:=be;have cut_lt:∀b,b<h.length->(jI h.length ρ') b=ρ' b:=fun b hb=>by simp only[jI];grind
   have cut_ge:∀b,h.length<=b->(jI h.length ρ') b = .fresh:=fun b hb=>by simp only[jI];grind
   have ck:∀b,ρ b≠.fresh->b<h.length:=fun b hb=>by
    rcases b9 b h.length with h'|h'
    . exact h'
    . exact absurd (m.fresh b h') hb
   have get:∀b,(s.s.hp.take h.length)[b]? = if b<h.length then s.s.hp[b]? else none:=fun b=>by
    grind
   refine⟨jI h.length ρ',hv.cut htop,?_,?_⟩
   . refine⟨?_,?_,?_,?_,m'.xb,?_,fun g u hg=>(m'.gl g u hg).cut ?_⟩
     . intro b o hb;rw[get b]at hb;split at hb
       . rename_i hlt;refine(m'.dc b o hb).ik (n:=h.length) cut_lt (fun c hc=>hc.cut _) hlt ?_;rcases mV (b∈s.wr) with hw|hw
         . have:=d9.1 htight b hw;unfold aa.at at this;grind
         . rw[hwr.2 b hlt hw]at hb;exact(m.dc b o hb).top bS
       grind
     . grind
     . intro b b' c d d' h1 h2;simp only[jI]at h1 h2;split at h1
       . split at h2
         . exact m'.inj _ _ _ _ _ h1 h2
         grind
       grind
     . intro b c d h1;simp only[jI]at h1;split at h1
       . exact m'.bound _ _ _ h1
       grind
     . intro b c d h1;simp only[jI]at h1;split at h1
       . exact m'.xo _ _ _ h1
       grind
     . exact(m.gl g u hg).top bS
   . refine⟨x.os,x.tape,x.output,x.size,bS,x.X,?_,?_,?_,?_,?_,x.ck,?_,x.shape⟩
     . intro b hb;have hlt:=(b5.1 hb).1;rw[get b,if_pos hlt];exact x.db b hb
     . intro b hb;have hlt:=(b5.1 hb).1;rw[cut_lt b hlt];exact x.same b hb
     . intro b c d hb;rw[cut_lt b bS];exact x.live b c d hb
     . intro b hb;rw[cut_lt b bS];exact x.dead b hb
     . intro b hb;rw[cut_lt b bS];exact x.nil b hb
     . intro b c d hb hc;simp only[jI]at hb;split at hb
       . exact x.back b c d hb hc
       grind
 . exact⟨ρ',hv,m',x⟩
theorem JL {h:aa}{s:aq}(hwr:h.length<=s.s.hp.length/\∀b,b<h.length->b∉s.wr->s.s.hp[b]? = h[b]?)(v:AV):fI h (dy v h.length s):=by
 unfold dy;have key:∀b,b<h.length->b∉s.wr.filter (· < h.length)->b∉s.wr:=by
  intro b hb hn hm;exact bS
 split
 . refine⟨bS,fun b hb hn=>?_⟩;grind
 . exact⟨hwr.1,fun b hb hn=>bS⟩
end Go.Ab
namespace Go.Ab
variable {P:Program} {gl:Nat->Option AV} {ρ:az} {w:World} {h:aa} {C:Cx} {s:St} {a:Act}
def wP:Ex->Exit
 | .normal=>.normal
 | .exit i=>.exit i
 | .ret=>.ret
structure mw (P:Program)(gl:Nat->Option AV)(run:ak->aq->Option (Ex×aq)):Prop where
 wr:∀c s e s',run c s=some (e,s')->fZ s s'
 ok:∀c s e s',run c s=some (e,s')->∀aR N rd code,fW ⟨P,gl,aR,N⟩ rd code=some c->∀ρ a w ro,Rel ⟨P,gl,aR,N⟩ ρ s.s a w->DF ρ s.s.bV a.defers->(rd=false->ro=none) ->
  ∀Q:Exit->Act->World->Prop,(∀ρ' a' w',Rel ⟨P,gl,aR,N⟩ ρ' s'.s a' w'->DF ρ' s'.s.bV a'.defers->Ext s.s.hp s'.s.hp ρ ρ' w w'->Q (wP e) a' w')->code.wpIn (FR ro) 0 P Q a w
def nD (P:Program)(gl:Nat->Option AV)(FT:FuncId->Option dv):Prop:=
 ∀f fi, FT f = some fi -> ∃fn aR, P.funcs[f]? = some fn /\ (fn.name == "runtime.NumGoroutine") = false /\ wx P gl aR fn = some fi
def cD (P:Program)(gl:Nat->Option AV)(ext:FuncId->List AV->aa->Option HR):Prop:=
 ∀f all h r,ext f all h=some r->fI h r/\∀ρ w (as':List Value),Mem P gl ρ h w->VL ρ w all as' ->
  ∃nx w1,(callFunc f as'.toArray).run P w = .ok nx w1/\kc P nx w1 fun v w'=>fg P gl ρ h w r v w'
theorem Vw {aR:List Nat}{fn:Func}{fi:dv}(h:wx P gl aR fn=some fi) :
 ∃c,fn.body=some c/\fW ⟨P,gl,aR,fn.ntmps⟩ false c=some fi.body/\mq ⟨P,gl,aR,fn.ntmps⟩ fn.results.toList=some fi.results/\fi.aR=aR/\fi.N=fn.ntmps/\(∀t∈aR,t<fn.ntmps)/\aR.Nodup:=by
 unfold wx at h;grind
def wQ (tmps:Array Value):ResultVar->Sem Value
 | .tmp t=>pure (tmps.getD t undef)
 | .cell p t=>do loadVar t (←asAddr (tmps.getD p undef))
theorem CZ (r:Rel C ρ s a w):∀(l:List ResultVar) (cr:List fA) (vs:List AV),mq C l=some cr->dx s cr=some vs ->
 ∃m:List Value,(l.mapM (wQ a.tmps)).run C.P w = .ok m w/\VL ρ w vs m
 | [],cr,vs,h1,h2=>by
  simp only[mq,ci.injEq]at h1;subst h1;simp only[dx,ci.injEq]at h2;subst h2;exact⟨[],be,.nil⟩
 | .tmp t::l,cr,vs,h1,h2=>by
  simp only[mq]at h1;split at h1
  . rename_i x l' hx hl;cases h1;simp only[dx]at h2;split at h2
    . rename_i v vs' hv hvs;cases h2;obtain⟨m,h3,h4⟩:=CZ r l l' vs' hl hvs;refine⟨a.tmps.getD t undef::m,?_,.cons (r.ae hx hv) h4⟩;rw[n8];simp only[wQ,c3,f6,c8];rw[h3];rfl
    . cases h2
  . cases h1
 | .cell p t::l,cr,vs,h1,h2=>by
  simp only[mq]at h1;split at h1
  . rename_i x n ag l' hx hs hl;cases h1;simp only[dx]at h2;split at h2
    . rename_i v vs' hv hvs;cases h2;obtain⟨m,h3,h4⟩:=CZ r l l' vs' hl hvs;simp only[d7]at hv;obtain⟨px,g1,pl,g2,g3⟩:=hv;obtain⟨c,o,g,e1,e2⟩:=readable r.mem (r.ae hx g1) g2;obtain⟨v',e3,e4⟩:=Ji hs e2 g3;have e1':a.tmps.getD p undef = .pointer (some ⟨c,o,none⟩):=e1;refine⟨v'::m,?_,.cons e4 h4⟩;rw[n8];simp only[wQ,c3,e1',asAddr,f6,c8,e3]<;>simp_all
    grind
  grind
theorem Vx {vs:List AV}{m:List Value}(h:VL ρ w vs m):V ρ w (aW vs) (if h:m.toArray.size=1 then m.toArray[0] else .tuple m.toArray):=by
 match vs,m,h with
 | [],m,h=>rw[h.kC];exact V.jg .nil
 | [v],m,h=>
  obtain⟨y,m',rfl,h1,h2⟩:=h.cons_inv;rw[h2.kC];exact h1
 | v::u::vs,m,h=>
  obtain⟨y,m',rfl,h1,h2⟩:=h.cons_inv;obtain⟨z,m'',rfl,h3,h4⟩:=h2.cons_inv;rw[dif_neg be];exact V.jg ac
theorem Vy (r:Rel C ρ s a w){fn:Func}{cr:List fA}{vs:List AV}(h1:mq C fn.results.toList=some cr)(h2:dx s cr=some vs) :
 ∃v,(results fn a.tmps).run C.P w = .ok v w/\V ρ w (aW vs) v:=by
 obtain⟨m,h3,h4⟩:=CZ r fn.results.toList cr vs h1 h2;refine⟨_,?_,Vx h4⟩;have e:results fn a.tmps=(do let vs ←fn.results.mapM (wQ a.tmps);pure (if h:vs.size=1 then vs[0] else .tuple vs)):=by
  unfold results;congr 1
 rw[e,c3,Array.mapM_eq_mapM_toList,Sem.run_map,h3];rfl
theorem Vz {aR:List Nat}{N:Nat}{all:List AV}{as':List Value}(hv:VL ρ w all as')(hn:as'.length<=N)(hlt:∀t∈aR,t<N)(hnd:aR.Nodup) :
 ER ⟨P,gl,aR,N⟩ ρ w (aR.map fun t=>(all[t]?).getD bD) [] (as'.toArray++j8 (N-as'.toArray.size) undef):=by
 refine⟨bS,hnd,hlt,be,fun i v t h1 h2=>?_,be⟩;simp only[g9,b7]at h1;obtain⟨u,h3,rfl⟩:=h1;have h2':aR[i]? = some t:=h2;rw[h3]at h2';obtain rfl:u=t:=bS;rw[c7,Array.getElem?_append];split
 . rename_i hlt';have hl:u<as'.length:=by simpa using hlt'
   have hl2:u<all.length:=by rw[hv.length];exact hl
   have:=hv.2 u all[u] as'[u] (b6 hl2) (b6 hl)<;>grind
 . rename_i hge;have hl:as'.length<=u:=by simpa using hge
   have hl2:all.length<=u:=by rw[hv.length];exact hl
   grind[i5,V.undef]
theorem JM {run:ak->aq->Option (Ex×aq)}(hrun:mw P gl run){FT:FuncId->Option dv}{f:FuncId}{all:List AV}{h:aa}{q:HR}(hq:ix run FT f all h=some q):fI h q:=by
 unfold ix at hq;split at hq <;> try (cases hq;done)
 split at hq <;> try (cases hq;done)
 split at hq <;> try (cases hq;done)
 rename_i e s hr;split at hq <;> try (cases hq;done)
 split at hq <;> try (cases hq;done)
 rename_i s2 ht;split at hq <;> try (cases hq;done)
 cases hq;have h1:=hrun.wr _ _ _ _ hr;have h2:=(CY _ _ _ ht).1;have h3:=h1.trans h2;exact JL ⟨h3.1,fun b hb hn=>h3.2.2 b hb hn⟩ _
theorem wR {run:ak->aq->Option (Ex×aq)}(hrun:mw P gl run){FT:FuncId->Option dv}(hFT:nD P gl FT){f:FuncId}{all:List AV}{h:aa}{q:HR}(hq:ix run FT f all h=some q)
 {as':List Value} (m:Mem P gl ρ h w) (hv:VL ρ w all as') :
 (callFunc f as'.toArray).run P w = .ok (.enter f as'.toArray) w/\CallsIn Fence.wide 0 P f as'.toArray w fun
   | .returned v,w'=>fg P gl ρ h w q v w'
   | _,_=>False:=by
 unfold ix at hq;split at hq <;> try (cases hq;done)
 rename_i fi hfi;obtain⟨fn,aR,hfn,hname,hcf⟩:=hFT f fi hfi;obtain⟨c,hbody,hcode,hres,rfl,hN,hlt,hnd⟩:=Vw hcf;split at hq <;> try (cases hq;done)
 rename_i hnl;split at hq <;> try (cases hq;done)
 rename_i e s hr;split at hq <;> try (cases hq;done)
 rename_i he;split at hq <;> try (cases hq;done)
 rename_i s2 ht;split at hq <;> try (cases hq;done)
 rename_i vs hvs;cases hq;refine⟨?_,?_⟩
 . have hne : fn.name ≠ "runtime.NumGoroutine" := by simpa using hname
   simp[callFunc,hfn,hne,hbody]
 . refine callsIn_of_wp_marks (F:=Fence.wide) (n:=0) hfn hbody trivial ?_;have hlen:as'.length<=fn.ntmps:=by rw[←hv.length];omega
   have er:=Vz (P:=P) (gl:=gl) hv hlen hlt hnd;refine hrun.ok _ _ _ _ hr fi.aR fn.ntmps false c hcode ρ _ w none ⟨er,m⟩ ⟨rfl,be⟩ (fun _=>rfl) _ ?_;intro ρ' a' w' r' d' x';have hfin:LeavesInM Fence.wide 0 P fn a'.tmps (fun
    | .returned v,w'=>fg P gl ρ h w (dy (aW vs) h.length s2) v w'
    | _,_=>False) a'.defers .returning w':=by
    refine JJ s.s.bV a'.defers s s2 w' d' r'.mem ht ?_;intro w2 m2 x2;have hx:=CY _ _ _ ht;have r2:Rel ⟨P,gl,fi.aR,fn.ntmps⟩ ρ' s2.s a' w2:=⟨by rw[hx.2.1,hx.2.2];exact r'.er.mono x2,m2⟩;obtain⟨v,g1,g2⟩:=Vy r2 hres hvs;have h3:=(hrun.wr _ _ _ _ hr).trans hx.1;exact⟨v,g1,JK m ⟨h3.1,fun b hb hn=>h3.2.2 b hb hn⟩ g2 m2 (x'.trans x2)⟩
   rcases he with rfl|rfl
   . exact hfin
   . exact hfin
end Go.Ab
namespace Go.Ab
variable {run:ak->aq->Option (Ex×aq)}
variable {P:Program} {gl:Nat->Option AV} {ρ:az} {w:World} {h:aa} {C:Cx} {s:St} {a:Act}
theorem JN {C:Cx}:∀(ts:List Tmp) (ds:List eZ) (as:List AV) (as':List Value) (s s0:St) (tmps:Array Value),nc C ts=some ds->VL ρ w as as'->ER C ρ w s.pe s.lo tmps->qC s ds as=some s0 ->
 ts.length=as'.length/\ER C ρ w s0.pe s0.lo ((ts.zip as').foldl (fun tmps (t,a)=>tmps.setIfInBounds t a) tmps)/\s0.hp=s.hp/\s0.bV=s.bV
 | [],ds,as,as',s,s0,tmps,hd,hv,er,hq=>by
  cases hd;cases as with
  | nil=>cases hq;rw[hv.kC];simp_all
  | cons _ _=>cases hq
 | t::ts,ds,as,as',s,s0,tmps,hd,hv,er,hq=>by
  simp only[nc]at hd;split at hd
  . rename_i d l h1 h2;cases hd;cases as with
    | nil=>cases hq
    | cons x as=>
     obtain⟨y,as',rfl,hy,hl⟩:=hv.cons_inv;simp only[qC]at hq;have er':=CB (s:=s) (a:=⟨tmps,[]⟩) (er:=er) h1 hy s.hp;have e:({ s.put d x with hp:=s.hp }:St)=s.put d x:=by cases d <;> rfl
     rw[e]at er';obtain⟨g1,g2,g3,g4⟩:=JN ts l as as' (s.put d x) s0 _ h2 hl er' hq;exact⟨by simp[g1],g2,g3.trans (CV _ _ _),g4.trans (by cases d <;> rfl)⟩
  grind
theorem wS {c:Nat}{r:Loop}(h:w.heap[c]? = some (.loop r)):(Instr.getLoop c).run P w = .ok r w:=by
 simp[Instr.getLoop,nu h]
theorem wT (m:Mem P gl ρ h w){b:Nat}{st:LoopState}{pend:Option Ex}{pe:List AV}{ps:List eZ}{as bd:ak}(hb:h.at b=some (.loop st pend pe ps as bd)) :
 h[b]? = some (some (.loop st pend pe ps as bd))/\∃c r aR N,ρ b = .live c 0/\w.heap[c]? = some (.loop r)/\r.state=st/\oZ pend r.pending /\
  ER ⟨P,gl,aR,N⟩ ρ w pe [] r.tmps/\nc ⟨P,gl,aR,N⟩ r.params.toList=some ps/\fW ⟨P,gl,aR,N⟩ true r.assign=some as/\fW ⟨P,gl,aR,N⟩ true r.body=some bd:=
 ⟨qP hb,m.dc b _ (qP hb)⟩
theorem Da (m:Mem P gl ρ h w){b c:Nat}{o0:ba}(h0:h[b]? = some (some o0))(hρ:ρ b = .live c 0){r:Loop}(hr:w.heap[c]? = some (.loop r))(r':Loop){st':LoopState}{pend':Option Ex}{pe:List AV}{ps:List eZ}{as bd:ak}{aR:List Nat}{N:Nat}
 (hst:r'.state=st') (hp:oZ pend' r'.pending) (er:ER ⟨P,gl,aR,N⟩ ρ w pe [] r'.tmps) (h1:nc ⟨P,gl,aR,N⟩ r'.params.toList=some ps) (h2:fW ⟨P,gl,aR,N⟩ true r'.assign=some as) (h3:fW ⟨P,gl,aR,N⟩ true r'.body=some bd) :
 Mem P gl ρ (h.put b (some (.loop st' pend' pe ps as bd))) (w.dD c (.loop r'))/\Ext h (h.put b (some (.loop st' pend' pe ps as bd))) ρ ρ w (w.dD c (.loop r')):=by
 have hO:∀cs0 e0 fr0,w.heap[c]? = some (.cells cs0 e0 fr0)->∃cs' fr',Obj.loop r' = .cells cs' e0 fr'/\cs'.size=cs0.size:=by
  intro _ _ _ hq';rw[hr]at hq';cases hq'
 have x:=Ext.write m h0 hρ (some (.loop st' pend' pe ps as bd)) (.loop r') hO;refine⟨Mem.write m h0 hρ _ _ hO ?_,x⟩;intro o' ho;cases ho;exact⟨c,r',aR,N,hρ,pa bS,hst,hp,er.mono x,h1,h2,h3⟩
def nE (run:ak->aq->Option (Ex×aq))(b:Nat)(as:List AV)(h:aa):Option HR:=
 match h.at b with
 | some (.loop .ready none pe ps a bd)=>
  match qC ⟨pe,[],h,[]⟩ ps as with
  | some s0=>match run a ⟨s0,[]⟩ with
    | some (.normal,s1)=>match s1.s.hp.at b with
      | some (.loop .ready none pe' ps' a' bd')=>
       match run bd ⟨{ s1.s with hp:=s1.s.hp.put b (some (.loop .busy none pe' ps' a' bd')) },b::s1.wr⟩ with
       | some (e,s2)=>match s2.s.hp.at b,s2.s.bV with
         | some (.loop .busy none pe' ps' a' bd'),[]=>
          some (dy (.bool (decide (e = .normal))) h.length ⟨{ s2.s with hp:=s2.s.hp.put b (some (if e = .normal then .loop .ready none pe' ps' a' bd' else .loop .done (some e) pe' ps' a' bd')) },b::s2.wr⟩)
         | _,_=>none
       | none=>none
      | _=>none
    | _=>none
  | none=>none
 | _=>none
theorem wU (s:aq)(b:Nat)(o:Option ba):fZ s ⟨{ s.s with hp:=s.s.hp.put b o },b::s.wr⟩:=
 ⟨by simp[aa.put],fun _ hb=>bS,fun b' _ hn=>by
  simp only[dN,not_or]at hn;exact nf hn.1⟩
theorem JO:∀(ds:List eZ) (as:List AV) (s s0:St),qC s ds as=some s0->s0.hp=s.hp
 | [],[],s,s0,h=>by cases h;rfl
 | [],_::_,s,s0,h=>by cases h
 | _::_,[],s,s0,h=>by cases h
 | d::ds,v::as,s,s0,h=>(JO ds as _ s0 h).trans (CV _ _ _)
theorem VA (hrun:mw P gl run){b:Nat}{as:List AV}{h:aa}{q:HR}(hq:nE run b as h=some q):fI h q:=by
 unfold nE at hq;split at hq <;> try (cases hq;done)
 split at hq <;> try (cases hq;done)
 rename_i s0 hp;split at hq <;> try (cases hq;done)
 rename_i s1 hr1;split at hq <;> try (cases hq;done)
 split at hq <;> try (cases hq;done)
 rename_i e s2 hr2;split at hq <;> try (cases hq;done)
 rename_i pe2 ps2 ai2 bi2 hb2 hd2;cases hq;have h1:=hrun.wr _ _ _ _ hr1;have h2:=hrun.wr _ _ _ _ hr2;have h3:=(h1.trans (wU s1 b _)).trans h2;have h4:=h3.trans (wU s2 b (some (if e = .normal then .loop .ready none pe2 ps2 ai2 bi2 else .loop .done (some e) pe2 ps2 ai2 bi2)));have hhp:=JO _ _ _ _ hp;refine JL ⟨?_,?_⟩ _
 . have:=h4.1;grind
 . intro b' hb' hn;have:=h4.2.2 b' bS hn;grind
theorem VB (l:Nat):Fence.wide.inRound l=FR (some l):=rfl
theorem VC (hrun:mw P gl run){b:Nat}{as:List AV}{h:aa}{q:HR}(hq:nE run b as h=some q)(m:Mem P gl ρ h w){g':Value}(hg:V ρ w (.fn (.yield b) [] []) g')
 {as':List Value} (hv:VL ρ w as as'):∃nx w1,(pd g' as'.toArray).run P w = .ok nx w1/\kc P nx w1 fun v w'=>fg P gl ρ h w q v w':=by
 have hq0:=hq;unfold nE at hq;split at hq <;> try (cases hq;done)
 rename_i pe ps ai bi hb;split at hq <;> try (cases hq;done)
 rename_i s0 hp;split at hq <;> try (cases hq;done)
 rename_i s1 hr1;split at hq <;> try (cases hq;done)
 rename_i pe1 ps1 ai1 bi1 hb1;split at hq <;> try (cases hq;done)
 rename_i e s2 hr2;split at hq <;> try (cases hq;done)
 rename_i pe2 ps2 ai2 bi2 hb2 hd2;cases hq;obtain⟨h0,c,r,aR,N,g1,g2,g3,g4,g5,g6,g7,g8⟩:=wT m hb;have hge:g' = .func (.yield c) #[] #[]:=by
  cases hg with
  | yield hρ=>grind
  | fn hf=>grind
  | iG _ hρ=>grind
 subst hge;obtain⟨p1,p2,p3,p4⟩:=JN (C:=⟨P,gl,aR,N⟩) r.params.toList ps as as' ⟨pe,[],h,[]⟩ s0 r.tmps g6 hv g5 hp;have hsz:as'.toArray.size=r.params.size:=by simpa using p1.symm
 let tm:=(r.params.zip as'.toArray).foldl (fun tmps (t,a)=>tmps.setIfInBounds t a) r.tmps
 have htm:tm=(r.params.toList.zip as').foldl (fun tmps (t,a)=>tmps.setIfInBounds t a) r.tmps:=by
  simp only[tm,←Array.foldl_toList,Array.toList_zip]
 refine⟨.round c r.fn tm r.assign r.body,w,?_,?_⟩
 . simp only[pd,Deferred.ofValue,invoke,c3,f6,c8,Instr.yield];rw[wS g2];simp[hsz,tm]
 . refine roundIn_of_wpIn (F:=Fence.wide) (n:=0) trivial ?_;rw[VB];have w1:=hrun.wr _ _ _ _ hr1;have w2:=hrun.wr _ _ _ _ hr2;refine hrun.ok ai ⟨s0,[]⟩ .normal s1 hr1 aR N true r.assign g7 ρ ⟨tm,[]⟩ w (some c) ⟨bS,bS⟩ ⟨bS,fun i b d hi _=>by grind⟩ be _ ?_;intro ρ1 a1 v1 r1 d1 x1;rw[show (aq.mk s0 []).s.hp=h from p3]at x1;obtain⟨h1',c1,rr1,pers1,N1,k1,k2,k3,k4,k5,k6,k7,k8⟩:=wT r1.mem hb1;have hc1:c1=c:=by
    rcases x1.live b c 0 g1 with hh|hh
    . grind
    . grind
   subst hc1;obtain⟨m2,x2⟩:=Da (st':=.busy) r1.mem h1' k1 k2 { rr1 with state:=.busy } rfl k4 k5 k6 k7 k8;refine⟨v1.dD c1 (.loop { rr1 with state:=.busy }),?_,?_⟩
   . simp[Instr.beginRound,wS k2,pc k2,k3]
   . refine hrun.ok bi _ e s2 hr2 aR N true r.body g8 ρ1 a1 _ (some c1) ⟨r1.er.mono x2,m2⟩ (d1.mono x2) be _ ?_;intro ρ2 a2 v2 r2 d2 x3;obtain⟨h2',c2,rr2,pers2,N2,l1,l2,l3,l4,l5,l6,l7,l8⟩:=wT r2.mem hb2;have hc2:c2=c1:=by
      rcases x3.live b c1 0 k1 with hh|hh
      . grind
      . grind
     subst hc2;have fin:∀(jump:Option Code) (st':LoopState) (pend':Option Ex),oZ pend' jump->(if jump.isNone then LoopState.ready else LoopState.done)=st'->jump.isNone=decide (e = .normal) ->
      (if e = .normal then ba.loop .ready none pe2 ps2 ai2 bi2 else .loop .done (some e) pe2 ps2 ai2 bi2) = .loop st' pend' pe2 ps2 ai2 bi2 ->
      ∃v w',(Instr.endRound c2 jump).run P v2 = .ok v w'/\fg P gl ρ h w (dy (.bool (decide (e = .normal))) h.length ⟨{ s2.s with hp:=s2.s.hp.put b (some (if e = .normal then .loop .ready none pe2 ps2 ai2 bi2 else .loop .done (some e) pe2 ps2 ai2 bi2)) },b::s2.wr⟩) v w':=by
      intro jump st' pend' q1 q2 q3 q4;obtain⟨m4,x4⟩:=Da (st':=st') (pend':=pend') r2.mem h2' l1 l2 { rr2 with state:=if jump.isNone then .ready else .done,pending:=jump } q2 q1 l5 l6 l7 l8;refine⟨.bool jump.isNone,v2.dD c2 (.loop { rr2 with state:=if jump.isNone then .ready else .done,pending:=jump }),?_,?_⟩
      . simp[Instr.endRound,wS l2,pc l2]
      . have h3:=(w1.trans (by grind[wU])).trans w2;have h4:=h3.trans (wU s2 b (some (if e = .normal then .loop .ready none pe2 ps2 ai2 bi2 else .loop .done (some e) pe2 ps2 ai2 bi2)));refine JK (ρ':=ρ2) m ⟨?_,?_⟩ (by rw[q3];exact .bool _) bS (by rw[q4];exact((x1.trans x2).trans x3).trans x4)
        . have:=h4.1;grind
        . intro b' hb' hn;have:=h4.2.2 b' bS hn;grind
     cases e with
     | normal=>exact fin none .ready none trivial rfl be be
     | ret=>exact fin (some .ret) .done (some .ret) trivial rfl be be
     | exit i=>exact fin (some (.exit i)) .done (some (.exit i)) rfl rfl be be
theorem Db (hrun:mw P gl run){ext:FuncId->List AV->aa->Option HR}(hext:cD P gl ext){FT:FuncId->Option dv}(hFT:nD P gl FT):nz P gl (iF run ext FT):=by
 have round_eq:∀b as h,iF run ext FT (.fn (.yield b) [] []) as h=nE run b as h:=fun _ _ _=>rfl
 refine⟨fun g as h r hq=>?_,fun g as h r hq ρ w g' as' m hg hv=>?_⟩
 . cases g <;> try (cases hq;done)
   rename_i f fi ca;cases f <;> try (cases hq;done)
   . simp only[iF]at hq;split at hq
     . rename_i q hq1;cases hq;exact(hext _ _ _ _ hq1).1
     grind[JM]
   . cases fi <;> cases ca <;> try (cases hq;done)
     grind[VA]
 . cases g <;> try (cases hq;done)
   rename_i f fi ca;cases f <;> try (cases hq;done)
   . rename_i f;cases hg with
     | @fn _ _ _ fi' ca' hf h1 h2 g1 g2=>
      have hall:VL ρ w (fi++as++ca) (fi'++as'++ca'):=(VL.append ⟨h1,g1⟩ hv).append ⟨h2,g2⟩;have happ:∀(nx:Next) (w1:World),(callFunc f (fi'++as'++ca').toArray).run P w = .ok nx w1->(pd (.func (.func f) fi'.toArray ca'.toArray) as'.toArray).run P w = .ok nx w1:=by
       intro nx w1 hc;simp only[pd,Deferred.ofValue,invoke,c3,f6,c8];rw[←hc];congr 2;simp
      simp only[iF]at hq;split at hq
      . rename_i q hq1;cases hq;obtain⟨nx,w1,h3,h4⟩:=(hext _ _ _ _ hq1).2 ρ w _ m hall<;>grind
      . obtain⟨h3,h4⟩:=wR hrun hFT hq m hall;exact⟨_,_,happ _ _ h3,h4⟩
   . cases fi <;> cases ca <;> try (cases hq;done)
     grind[VC]
end Go.Ab
namespace Go.Ab
variable {P:Program} {gl:Nat->Option AV} {ρ:az} {w:World} {h:aa} {s:St} {a:Act} {ext:FuncId->List AV->aa->Option HR} {FT:FuncId->Option dv}
theorem VD (hext:cD P gl ext)(hFT:nD P gl FT):∀n,(∀k,k<n->mw P gl (bw ext (ew P) FT k))->∀c s e s',bw ext (ew P) FT n c s=some (e,s')->fZ s s':=by
 intro n;cases n with
 | zero=>intro _ c s e s' hq;cases hq
 | succ n=>
  intro ih c s e s' hq;have ihn:=ih n ac;have hcall:=(Db ihn hext hFT).wr;cases c <;> simp only[bw]at hq
  case skip=>cases hq;exact .refl _
  case region ops=>
   split at hq
   . rename_i s1 hr;cases hq;exact(fZ.same (s:=s) (x:={ s.s with lo:=[] }) rfl).trans (CW hcall _ _ _ hr)
   grind
  case draw ops=>
   split at hq
   . rename_i s1 hr;cases hq;exact(fZ.same (s:=s) (x:={ s.s with lo:=[] }) rfl).trans (Vv hcall hr)
   grind
  case seq x y=>
   split at hq
   . rename_i s1 hr;exact(ihn.wr _ _ _ _ hr).trans (ihn.wr _ _ _ _ hq)
   . exact ihn.wr _ _ _ _ hq
  case cond x p q=>
   split at hq
   . exact ihn.wr _ _ _ _ hq
   grind
  case block id x=>
   split at hq
   . rename_i s1 hr;split at hq <;> (cases hq;exact ihn.wr _ _ _ _ hr)
   . exact ihn.wr _ _ _ _ hq
  case loop x=>
   split at hq
   . rename_i s1 hr;exact(ihn.wr _ _ _ _ hr).trans (ihn.wr _ _ _ _ hq)
   . exact ihn.wr _ _ _ _ hq
  case exit id=>cases hq;exact .refl _
  case ret=>cases hq;exact .refl _
  case rangeFunc inner f ps as bd=>
   split at hq
   . cases hq
   . split at hq
     . split at hq
       . rename_i r hr;split at hq
         . split at hq
           . cases hq
           . cases hq;have h1:=JM ihn hr;refine⟨?_,fun b hb=>by grind,fun b hb hn=>?_⟩
             . have:=h1.1;simp only[jD,ii,it]at this;simp[aa.put];omega
             . simp only[j2,dN,fG,not_or]at hn;show (r.h.set _ _)[b]? = _;rw[nf hn.1,h1.2 b bS hn.2.1,fm hb]
         grind
       grind
     grind
  grind
theorem VE {p:Nat->Prop}(h:∃n,p n):∃n,p n/\∀m,p m->n<=m:=by
 obtain⟨n,hn⟩:=h;induction n using j7<;>grind
open Classical in
theorem VF {n:Nat}{aR:List Nat}{N:Nat}{rd:Bool}{code:Code}{c:ak}(hcode:fW ⟨P,gl,aR,N⟩ rd code=some c)(ih:∀k,k<n->mw P gl (bw ext (ew P) FT k)){s s':aq}{e:Ex}(hq:bw ext (ew P) FT n (.loop c) s=some (e,s'))
 {ro:Option Nat} (r:Rel ⟨P,gl,aR,N⟩ ρ s.s a w) (d:DF ρ s.s.bV a.defers) (hrd:rd=false->ro=none) {Q:Exit->Act->World->Prop}
 (hQ:∀ρ' a' w',Rel ⟨P,gl,aR,N⟩ ρ' s'.s a' w'->DF ρ' s'.s.bV a'.defers->Ext s.s.hp s'.s.hp ρ ρ' w w'->Q (wP e) a' w'):(Code.loop code).wpIn (FR ro) 0 P Q a w:=by
 let At:Nat->Act->World->Prop:=fun m a1 w1=>m<=n/\∃(s1:aq) (ρ1:az),bw ext (ew P) FT m (.loop c) s1=some (e,s')/\Rel ⟨P,gl,aR,N⟩ ρ1 s1.s a1 w1/\DF ρ1 s1.s.bV a1.defers/\Ext s.s.hp s1.s.hp ρ ρ1 w w1
 let I:Act->World->Prop:=fun a1 w1=>∃m,At m a1 w1
 let μ:Act->World->Nat:=fun a1 w1=>if h:∃m,At m a1 w1 then Classical.choose (VE h) else 0
 have hμ:∀a1 w1 m,At m a1 w1->μ a1 w1<=m:=by
  intro a1 w1 m hm;have hex:∃m,At m a1 w1:=⟨m,hm⟩;simp only[μ,dif_pos hex];exact bS
 refine wpIn_loop I μ ⟨n,dY _,s,ρ,hq,r,d,Ext.refl _ _ _⟩ ?_;intro a1 w1 hI;have hμe:At (μ a1 w1) a1 w1:=by
  have hI':∃m,At m a1 w1:=hI;simp only[μ,dif_pos hI'];exact bS
 obtain⟨hle,s1,ρ1,hq1,r1,d1,x1⟩:=hμe;generalize hm:μ a1 w1=m at *
 cases m with
 | zero=>cases hq1
 | succ m=>
  have ihm:=ih m ac;simp only[bw]at hq1;cases hr:bw ext (ew P) FT m c s1 with
  | none=>grind
  | some p=>
   obtain⟨e2,s2⟩:=p;rw[hr]at hq1;refine ihm.ok c s1 e2 s2 hr aR N rd code hcode ρ1 a1 w1 ro r1 d1 hrd _ ?_;intro ρ2 a2 w2 r2 d2 x2;cases e2 with
   | normal=>
    simp only at hq1;have hat:At m a2 w2:=⟨ac,s2,ρ2,hq1,r2,d2,x1.trans x2⟩;exact⟨⟨m,hat⟩,by have:=hμ a2 w2 m hat;omega⟩
   | exit i=>cases hq1;exact hQ ρ2 a2 w2 r2 d2 (x1.trans x2)
   | ret=>cases hq1;exact hQ ρ2 a2 w2 r2 d2 (x1.trans x2)
end Go.Ab
namespace Go.Ab
variable {P:Program} {gl:Nat->Option AV} {ρ:az} {w:World} {h:aa} {s:St} {a:Act} {ext:FuncId->List AV->aa->Option HR} {FT:FuncId->Option dv}
theorem VG {C:Cx}{ops:List Oper}{draw:Bool}{c:ak}(h:wu C ops draw=some c):∃il,kB C ops ops=some il /\
 ((draw=false/\c = .region il)\/(draw=true/\∃bits,qI ops bits=true/\qJ il bits=true/\c = .draw (il.zipIdx.map fun (o,i)=>(o,jZ (bits.getD i 0) i)))):=by
 unfold wu at h;grind
theorem VH {fn:FuncId}{tmps:Array Value}{ps:Array Tmp}{as bd:Code}:(Instr.enterLoop fn tmps ps as bd none).run P w =
 .ok (w.heap.size+1,[{ target:=.collected w.heap.size,args:=#[] }])
   { w with heap:=(w.heap.push (.deferred (some []))).push (.loop { state:=.ready,pending:=none,fn,tmps,params:=ps,assign:=as,body:=bd,defers:=w.heap.size }) }:=by
 simp[Instr.enterLoop];rfl
theorem VI {n:Nat}(ihn:mw P gl (bw ext (ew P) FT n))(hFT:nD P gl FT){aR:List Nat}{N:Nat}{g:Operand}{ps:Array Tmp}{as bd:Code}{fi:ay}{dps:List eZ}{ai bi:ak}
 (hg:ij ⟨P,gl,aR,N⟩ g=some fi) (hps:nc ⟨P,gl,aR,N⟩ ps.toList=some dps) (has:fW ⟨P,gl,aR,N⟩ true as=some ai) (hbd:fW ⟨P,gl,aR,N⟩ true bd=some bi)
 {s s':aq} {e:Ex} (hq:bw ext (ew P) FT (n+1) (.rangeFunc false fi dps ai bi) s=some (e,s')) (r:Rel ⟨P,gl,aR,N⟩ ρ s.s a w) (d:DF ρ s.s.bV a.defers) {Q:Exit->Act->World->Prop}
 (hQ:∀ρ' a' w',Rel ⟨P,gl,aR,N⟩ ρ' s'.s a' w'->DF ρ' s'.s.bV a'.defers->Ext s.s.hp s'.s.hp ρ ρ' w w'->Q (wP e) a' w'):(Code.rangeFunc g ps as bd).wpIn (FR none) 0 P Q a w:=by
 simp only[bw,ce,if_false]at hq;split at hq <;> try (cases hq;done)
 rename_i gf l1 l2 hgv;split at hq <;> try (cases hq;done)
 rename_i q hcall;split at hq <;> try (cases hq;done)
 rename_i st pend pe' ps' a' b' hb;split at hq <;> try (cases hq;done)
 rename_i hst;cases hq;have hgV:=r.ae hg hgv;generalize hge:a.eval g=gv at hgV;cases hgV with
 | @fn _ _ _ fi' ca' hf h1 h2 g1 g2=>
  refine wpIn_rangeFunc fun fnId _=>?_
  have x1:=Ext.alloc r.mem (some .hJ) (.deferred (some [])) (.live w.heap.size 0) be;have m1:=Mem.alloc r.mem (some .hJ) (.deferred (some [])) (.live w.heap.size 0) be (by
   intro o' ho;cases ho;exact⟨w.heap.size,az.gC _ _ _,be⟩)
  generalize hρ1:ρ.dT s.s.hp.length (.live w.heap.size 0)=ρ1 at *
  generalize hw1:({ w with heap:=w.heap.push (.deferred (some [])) }:World)=v1 at *
  have hv1s:v1.heap.size=w.heap.size+1:=by rw[←hw1];simp
  let rec0:Loop:={ state:=.ready,pending:=none,fn:=fnId,tmps:=a.tmps,params:=ps,assign:=as,body:=bd,defers:=w.heap.size }
  have hl1:(s.s.hp++[some ba.hJ]).length=s.s.hp.length+1:=by simp
  have x2:=Ext.alloc m1 (some (.loop .ready none s.s.pe dps ai bi)) (.loop rec0) (.live v1.heap.size 0) be;have er1:ER ⟨P,gl,aR,N⟩ ρ1 v1 s.s.pe [] a.tmps:=⟨r.er.size,r.er.nodup,r.er.lt,r.er.jH,fun i v t hv ht=>(r.er.pe i v t hv ht).mono x1,be⟩;have m2:=Mem.alloc m1 (some (.loop .ready none s.s.pe dps ai bi)) (.loop rec0) (.live v1.heap.size 0) be (by
   intro o' ho;cases ho;exact⟨v1.heap.size,rec0,aR,N,az.gC _ _ _,be,rfl,trivial,er1.mono x2,hps,has,hbd⟩)
  rw[hl1]at x2 m2;have happ:s.s.hp++[some ba.hJ]++[some (.loop .ready none s.s.pe dps ai bi)]=s.s.hp++[some ba.hJ,some (.loop .ready none s.s.pe dps ai bi)]:=by simp
  rw[happ]at x2 m2;generalize hρ2:ρ1.dT (s.s.hp.length+1) (.live v1.heap.size 0)=ρ2 at *
  generalize hw2:({ v1 with heap:=v1.heap.push (.loop rec0) }:World)=v2 at *
  have x12:=x1.trans x2;have hyield:V ρ2 v2 (.fn (.yield (s.s.hp.length+1)) [] []) (.func (.yield (w.heap.size+1)) #[] #[]):=by
   rw[←hv1s];exact .yield (d:=0) (by grind[az.gC])
  have hall:VL ρ2 v2 (l1++[.fn (.yield (s.s.hp.length+1)) [] []]++l2) (fi'++[.func (.yield (w.heap.size+1)) #[] #[]]++ca'):=by
   have e1:VL ρ2 v2 l1 fi':=VL.mono x12 ⟨h1,g1⟩;have e2:VL ρ2 v2 l2 ca':=VL.mono x12 ⟨h2,g2⟩;exact(e1.append (.cons hyield .nil)).append e2
  obtain⟨hcf,hcalls⟩:=wR ihn hFT hcall m2 hall;refine⟨w.heap.size+1,[{ target:=.collected w.heap.size,args:=#[] }],v2,{ target:=.fn (.func gf) ca'.toArray,args:=fi'.toArray ++ #[.func (.yield (w.heap.size+1)) #[] #[]] },v2,gf,
   (fi'++[Value.func (.yield (w.heap.size+1)) #[] #[]]++ca').toArray,v2,?_,?_,fun _ _=>trivial,?_,fun hd=>(by cases hd),?_⟩
  . rw[show (FR none).round=none from rfl,VH,←hw2,←hw1]
  . have e:resolve a.eval (rangeCall g (w.heap.size+1)) 0=Deferred.ofValue (a.eval g) #[.func (.yield (w.heap.size+1)) #[] #[]]:=by
     simp[resolve,Act.eval]
    rw[e,hge];rfl
  . simp only[invoke]<;>grind
  . refine CallsIn.mono (F:=Fence.wide) (n:=0) hcalls ?_;intro en w3 hen;cases en with
    | panicked _=>grind
    | outgrown=>grind
    | returned v=>
     obtain⟨ρ3,hv3,m3,x3⟩:=hen;obtain⟨h0',c,rr,pers',N',k1,k2,k3,k4,k5,k6,k7,k8⟩:=wT m3 hb;have hc:c=w.heap.size+1:=by
      have hl:ρ2 (s.s.hp.length+1) = .live (w.heap.size+1) 0:=by rw[←hρ2,←hv1s];exact be
      rcases x3.live _ _ _ hl with hh|hh
      . grind
      . grind
     subst hc;obtain⟨m4,x4⟩:=Da (st':=.exhausted) (pend':=pend) m3 h0' k1 k2 { rr with state:=.exhausted } rfl k4 k5 k6 k7 k8;have xx:=(x12.trans x3).trans x4;refine⟨rr.pending,w3.dD (w.heap.size+1) (.loop { rr with state:=.exhausted }),?_,?_⟩
     . have hnb:(rr.state == LoopState.busy)=false:=by rw[k3];simpa using hst
       simp only[Instr.endLoop,c3,wS k2,c8,hnb,ce,if_false,f6,pc k2 be]
     . have hrel:Rel ⟨P,gl,aR,N⟩ ρ3 { s.s with hp:=q.h.put (s.s.hp.length+1) (some (.loop .exhausted pend pe' ps' a' b')),bV:=s.s.hp.length::s.s.bV } { a with defers:=[{ target:=.collected w.heap.size,args:=#[] }]++a.defers } (w3.dD (w.heap.size+1) (.loop { rr with state:=.exhausted })):=
        ⟨(r.er.mono xx:ER ⟨P,gl,aR,N⟩ ρ3 _ s.s.pe s.s.lo a.tmps),m4⟩
       have hdf:DF ρ3 (s.s.hp.length::s.s.bV) ([{ target:=.collected w.heap.size,args:=#[] }]++a.defers):=by
        have hl:ρ1 s.s.hp.length = .live w.heap.size 0:=by rw[←hρ1];exact be
        have d1:DF ρ1 (s.s.hp.length::s.s.bV) ([{ target:=.collected w.heap.size,args:=#[] }]++a.defers):=by
         have d0:=d.mono x1;refine⟨by simp[d0.1],fun i b dd hi hi'=>?_⟩;cases i with
         | zero=>grind
         | succ i=>exact d0.2 i b dd bS bS
        exact((d1.mono x2).mono x3).mono x4
       have hfin:=hQ ρ3 _ _ hrel hdf xx;have key:∀(W:World) (a':Act) (jp:Option Code),oZ pend jp->Q (wP (pend.getD .normal)) a' W->(match jp with|none=>Q .normal a' W|some c=>c.wpIn (FR none) 0 P Q a' W):=by
        intro W a' jp k4 hfin;cases pend with
        | none=>
         cases jp with
         | none=>exact hfin
         | some _=>exact k4.elim
        | some e1=>
         cases e1 with
         | normal=>cases jp <;> exact k4.elim
         | exit i=>
          cases jp with
          | none=>exact k4.elim
          | some cc=>
           cases cc <;> simp only[oZ]at k4;subst k4;exact wpIn_exit hfin
         | ret=>
          cases jp with
          | none=>exact k4.elim
          | some cc=>
           cases cc <;> simp only[oZ]at k4;exact wpIn_ret hfin
       grind
theorem Dc (hmix:P.follows .mixedOrders=true)(hext:cD P gl ext)(hFT:nD P gl FT):∀n,mw P gl (bw ext (ew P) FT n):=by
 intro n;induction n using j7 with
 | _ n ih=>
  refine⟨VD hext hFT n ih,?_⟩;cases n with
  | zero=>intro c s e s' hq;cases hq
  | succ n=>
   have ihn:=ih n ac;have hcall:=Db ihn hext hFT;intro c s e s' hq aR N rd code hcode ρ a w ro r d hrd Q hQ;cases code <;> simp only[fW]at hcode
   case skip=>
    cases hcode;simp only[bw,ci.injEq,k9.injEq]at hq;obtain⟨rfl,rfl⟩:=hq;exact wpIn_skip (hQ ρ a w r d (Ext.refl _ _ _))
   case label l=>
    cases hcode;simp only[bw,ci.injEq,k9.injEq]at hq;obtain⟨rfl,rfl⟩:=hq;exact wpIn_label (hQ ρ a w r d (Ext.refl _ _ _))
   case exit id=>
    cases hcode;simp only[bw,ci.injEq,k9.injEq]at hq;obtain⟨rfl,rfl⟩:=hq;exact wpIn_exit (hQ ρ a w r d (Ext.refl _ _ _))
   case ret=>
    cases hcode;simp only[bw,ci.injEq,k9.injEq]at hq;obtain⟨rfl,rfl⟩:=hq;exact wpIn_ret (hQ ρ a w r d (Ext.refl _ _ _))
   case region id ops draw=>
    simp only[ci.injEq]at hcode;cases hc:wu ⟨P,gl,aR,N⟩ ops.toList draw with
    | none=>rw[hc]at hcode;simp at hcode;subst hcode;simp[bw]at hq
    | some c'=>
     rw[hc]at hcode;simp at hcode;subst hcode;obtain⟨il,hil,hor⟩:=VG hc;rcases hor with ⟨rfl,rfl⟩|⟨rfl,bits,hb1,hb2,rfl⟩
     . simp only[bw]at hq;split at hq
       . rename_i s1 hr;cases hq;have hdfs:=CX _ _ _ hr;refine Vg hcall hil r hr ?_;intro ρ' a' w' r' x' hd';refine hQ ρ' a' w' r' ?_ x';rw[hdfs,hd'];exact d.mono x'
       grind
     . simp only[bw]at hq;split at hq
       . rename_i s1 hr;cases hq;refine Vs hcall hmix hcall.wr hil hb1 hb2 r hr ?_;intro ρ' a' w' r' x' hd' hdfs;refine hQ ρ' a' w' r' ?_ x';rw[hdfs,hd'];exact d.mono x'
       grind
   case seq x y=>
    split at hcode
    . rename_i cx cy hx hy;cases hcode;simp only[bw]at hq;refine wpIn_seq ?_;cases hr:bw ext (ew P) FT n cx s with
      | none=>grind
      | some p=>
       obtain⟨e1,s1⟩:=p;rw[hr]at hq;refine ihn.ok cx s e1 s1 hr aR N rd x hx ρ a w ro r d hrd _ ?_;intro ρ1 a1 w1 r1 d1 x1;cases e1 with
       | normal=>exact ihn.ok cy s1 e s' hq aR N rd y hy ρ1 a1 w1 ro r1 d1 hrd Q fun ρ2 a2 w2 r2 d2 x2=>hQ ρ2 a2 w2 r2 d2 (x1.trans x2)
       | exit i=>cases hq;exact hQ ρ1 a1 w1 r1 d1 x1
       | ret=>cases hq;exact hQ ρ1 a1 w1 r1 d1 x1
    grind
   case cond t x y=>
    split at hcode
    . rename_i ct cx cy ht hx hy;cases hcode;simp only[bw]at hq;split at hq
      . rename_i b hb;have e1:=(r.ae ht hb).nh;refine wpIn_cond e1 ?_;cases b with
        | true=>exact ihn.ok cx s e s' hq aR N rd x hx ρ a w ro r d hrd Q hQ
        | false=>exact ihn.ok cy s e s' hq aR N rd y hy ρ a w ro r d hrd Q hQ
      grind
    grind
   case block id x=>
    simp only[b7]at hcode;obtain⟨cx,hx,rfl⟩:=hcode;simp only[bw]at hq;refine wpIn_block ?_;cases hr:bw ext (ew P) FT n cx s with
    | none=>grind
    | some p=>
     obtain⟨e1,s1⟩:=p;rw[hr]at hq;refine ihn.ok cx s e1 s1 hr aR N rd x hx ρ a w ro r d hrd _ ?_;intro ρ1 a1 w1 r1 d1 x1;cases e1 with
     | normal=>cases hq;exact hQ ρ1 a1 w1 r1 d1 x1
     | exit i=>
      simp only at hq;show (if i=id then Q .normal a1 w1 else Q (.exit i) a1 w1);split at hq
      . rename_i hi;cases hq;rw[if_pos hi];exact hQ ρ1 a1 w1 r1 d1 x1
      . rename_i hi;cases hq;rw[if_neg hi];exact hQ ρ1 a1 w1 r1 d1 x1
     | ret=>cases hq;exact hQ ρ1 a1 w1 r1 d1 x1
   case loop x=>
    grind[b7,VF]
   case scope x=>
    simp only[b7]at hcode;obtain⟨cx,hx,rfl⟩:=hcode;refine Vu ?_;simp only[bw]at hq;cases hr:bw ext (ew P) FT n cx s with
    | none=>grind
    | some p=>
     obtain⟨e1,s1⟩:=p;rw[hr]at hq;refine ihn.ok cx s e1 s1 hr aR N rd x hx ρ a w ro r d hrd _ ?_;intro ρ1 a1 w1 r1 d1 x1;cases e1 with
     | normal=>
      simp only at hq;cases n with
      | zero=>cases hq
      | succ n=>
       simp only[bw,ci.injEq,k9.injEq]at hq;obtain⟨rfl,rfl⟩:=hq;exact hQ ρ1 a1 w1 r1 d1 x1
     | exit i=>cases hq;exact hQ ρ1 a1 w1 r1 d1 x1
     | ret=>cases hq;exact hQ ρ1 a1 w1 r1 d1 x1
   case rangeFunc g ps as bd=>
    split at hcode
    . rename_i fi dps ai bi h1 h2 h3 h4;cases hcode;cases rd with
      | true=>simp[bw]at hq
      | false=>
       rw[hrd rfl];grind[VI]
    grind
   all_goals
    cases hcode;simp[bw]at hq
end Go.Ab
namespace Go.Ab
variable {P:Program} {gl:Nat->Option AV} {ρ:az} {w:World} {h:aa}
def Dd:AV->AV->Bool
 | .int k a,.int k' b=>decide (k=k') && a == b
 | .str a,.str b=>a == b
 | .bool a,.bool b=>a == b
 | .dG,.dG | .ab,.ab | .eO,.eO | .fO,.fO | .dh,.dh=>true
 | .fn (.func f) [] [],.fn (.func g) [] []=>f == g
 | _,_=>false
def wV:List AV->List AV->Bool
 | [],[]=>true
 | a::l,b::m=>Dd a b && wV l m
 | _,_=>false
theorem VJ {a b:AV}(h:Dd a b=true):a=b:=by
 unfold Dd at h;grind
theorem JP:∀{a b:List AV},wV a b=true->a=b
 | [],[],_=>rfl
 | _::_,_::_,h=>by
  simp only[wV,b8]at h;rw[VJ h.1,JP h.2]
 | [],_::_,h=>by cases h
 | _::_,[],h=>by cases h
theorem kc.mono {nx:Next}{w1:World}{R R':Value->World->Prop}(h:kc P nx w1 R)(hr:∀v w',R v w'->R' v w'):kc P nx w1 R':=by
 cases nx <;> simp only[kc]at h ⊢
 case value v=>grind
 case enter f args=>
  grind[CallsIn.mono]
 grind[RoundIn.mono]
theorem Mem.bare (hgl:∀g v,gl g=some v->v.top=0)(m:Mem P gl ρ h w):Mem P gl (eA 0 ρ) [] w:=by
 refine⟨be,fun b _=>rfl,?_,?_,?_,?_,fun g v hg=>?_⟩
 . intro b b' c d d' h1;simp[eA]at h1
 . intro b c d h1;simp[eA]at h1
 . rintro c (hc|⟨b,d,_,hb⟩)
   . exact m.xb c hc
   . exact m.bound b c d hb
 . intro b c d h1;simp[eA]at h1
 . exact(m.gl g v hg).ik (n:=0) be (fun c hc=>hc.eA 0) bS
theorem VL.bare {l:List AV}{m:List Value}(hl:bc l=0)(h:VL ρ w l m):VL (eA 0 ρ) w l m:=
 ⟨h.1,fun i x y hx hy=>(h.2 i x y hx hy).ik (n:=0) be (fun c hc=>hc.eA 0) (fC ac i x hx)⟩
end Go.Ab
namespace Go.Ab
variable {P:Program} {gl:Nat->Option AV} {ρ:az} {w:World} {h:aa}
inductive XK where
 | qS|qT|index|count|same
 deriving DecidableEq
def VK:Array Value->Sem Value:=fun args=>do
 let (x, y, b) ←Extern.MathBitsCarry.three "Sub64" args
 pure (Extern.MathBitsCarry.pair ((x+Extern.MathBitsCarry.m64-y-b)%Extern.MathBitsCarry.m64) (if x<y+b then 1 else 0))
def XK.entry:XK->Array Value->Sem Value
 | .qS=>add64Entry
 | .qT=>VK
 | .index=>Extern.BytealgIndexByte.indexByte
 | .count=>Extern.BytealgCount.count
 | .same=>Extern.AbiNoEscape.same
def XK.run:XK->List AV->Option AV
 | .qS,[.int .u64 x,.int .u64 y,.int .u64 c]=>if 0<=x/\0<=y/\0<=c/\c<=1 then some (.au [.int .u64 ((x+y+c)%18446744073709551616),.int .u64 ((x+y+c)/18446744073709551616)]) else none
 | .qT,[.int .u64 x,.int .u64 y,.int .u64 c]=>if 0<=x/\0<=y/\0<=c/\c<=1 then some (.au [.int .u64 ((x.toNat+18446744073709551616-y.toNat-c.toNat)%18446744073709551616:Nat),.int .u64 (if x.toNat<y.toNat+c.toNat then 1 else 0:Nat)]) else none
 | .index,[.str s,.int .u8 c]=>some (.int .i64 (firstIdx ⟨s.toArray⟩ c.toNat.toUInt8))
 | .count,[.str s,.int .u8 c]=>some (.int .i64 ((oK s.toArray).foldl (fun n x=>if x == c.toNat.toUInt8 then n+1 else n) ((0:Nat):Int)))
 | .same,[x]=>some x
 | _,_=>none
structure pj (P:Program)(f:Nat)(k:XK):Prop where
 fn : ∃fn, P.funcs[f]? = some fn /\ (fn.name == "runtime.NumGoroutine") = false /\ fn.body.isNone = true /\ Extern.findNext fn = none /\ Extern.find fn = some k.entry
def pk:List (Nat×XK)->FuncId->List AV->aa->Option HR
 | [],_,_,_=>none
 | (g,k)::L,f,all,h=>if f9 g f then (match k.run all with|some v=>some ⟨v,h,[]⟩|none=>none) else pk L f all h
theorem VM {x y c:Int}(hc0:0<=c)(hc:c<=1)(n:String)(k:Nat×Nat×Nat->Sem Value) :
 ((Extern.MathBitsCarry.three n #[.int .u64 x,.int .u64 y,.int .u64 c]) >>= k).run P w=(k (x.toNat,y.toNat,c.toNat)).run P w:=by
 obtain⟨c',rfl⟩:=j0 hc0;have:c'=0\/c'=1:=by omega
 rcases this with rfl|rfl <;> rfl
theorem XK.qU (k:XK){all:List AV}{as':List Value}(hv:VL ρ w all as'){v:AV}(hq:k.run all=some v):∃v',(k.entry as'.toArray).run P w = .ok v' w/\V ρ w v v':=by
 unfold XK.run at hq;split at hq <;> try (cases hq;done)
 . rename_i x y c;split at hq <;> try (cases hq;done)
   rename_i hc;cases hq;obtain⟨a1,m1,rfl,e1,hv⟩:=hv.cons_inv;obtain⟨a2,m2,rfl,e2,hv⟩:=hv.cons_inv;obtain⟨a3,m3,rfl,e3,hv⟩:=hv.cons_inv;obtain rfl:=hv.kC;cases e1;cases e2;cases e3;exact⟨_,run_add64 x y c hc.1 hc.2.1 hc.2.2.1 hc.2.2.2 w,V.jg (.cons (.int _ _) (.cons (.int _ _) .nil))⟩
 . rename_i x y c;split at hq <;> try (cases hq;done)
   rename_i hc;cases hq;obtain⟨a1,m1,rfl,e1,hv⟩:=hv.cons_inv;obtain⟨a2,m2,rfl,e2,hv⟩:=hv.cons_inv;obtain⟨a3,m3,rfl,e3,hv⟩:=hv.cons_inv;obtain rfl:=hv.kC;cases e1;cases e2;cases e3;exact⟨_, VM hc.2.2.1 hc.2.2.2 "Sub64" _, V.jg (.cons (.int _ _) (.cons (.int _ _) .nil))⟩
 . rename_i s c;cases hq;obtain⟨a1,m1,rfl,e1,hv⟩:=hv.cons_inv;obtain⟨a2,m2,rfl,e2,hv⟩:=hv.cons_inv;obtain rfl:=hv.kC;cases e1;cases e2;exact⟨_,run_indexByte_string ⟨s.toArray⟩ c w,.int _ _⟩
 . rename_i s c;cases hq;obtain⟨a1,m1,rfl,e1,hv⟩:=hv.cons_inv;obtain⟨a2,m2,rfl,e2,hv⟩:=hv.cons_inv;obtain rfl:=hv.kC;cases e1;cases e2;exact⟨_,rfl,.int _ _⟩
 . rename_i x;cases hq;obtain⟨a1,m1,rfl,e1,hv⟩:=hv.cons_inv;obtain rfl:=hv.kC;exact⟨a1,rfl,e1⟩
theorem De:∀{L:List (Nat×XK)},(∀p∈L,pj P p.1 p.2)->cD P gl (pk L)
 | [],_=>fun f all h r hq=>by cases hq
 | (g,k)::L,hL=>fun f all h r hq=>by
  simp only[pk]at hq;split at hq
  . rename_i hg;have hg':=i6 hg;subst hg';split at hq
    . rename_i v hv;cases hq;refine⟨qQ _,fun ρ w as' m hl=>?_⟩;obtain⟨fn,h1,h2,h3,h4,h5⟩:=(hL (g,k) be).fn;obtain⟨v',h6,h7⟩:=XK.qU (P:=P) k hl hv;refine⟨.value v',w,?_,iT m h7⟩;rw[run_callFunc_extern h1 h2 h3 h4 h5,h6];rfl
    grind
  . exact De bS f all h r hq
end Go.Ab
namespace Go.Ab
variable {P:Program} {gl:Nat->Option AV} {ρ:az} {w:World} {h:aa}
def wW:Option Nat->Option Nat->Bool
 | none,none=>true
 | some a,some b=>f9 a b
 | _,_=>false
theorem JQ {a b:Option Nat}(h:wW a b=true):a=b:=by
 unfold wW at h;split at h<;>simp_all
mutual
def pn:AV->AV->Bool
 | .db,.db=>true
 | .int k a,.int k' b=>decide (k=k') && a == b
 | .str a,.str b=>a == b
 | .bool a,.bool b=>a == b
 | .dG,.dG | .ab,.ab | .eO,.eO | .fO,.fO | .dh,.dh=>true
 | .ptr b o,.ptr b' o'=>f9 b b' && f9 o o'
 | .vp l,.vp m=>kE l m
 | .sl b o n e c,.sl b' o' n' e' c'=>f9 b b' && f9 o o' && f9 n n' && f9 e e' && wW c c'
 | .vs l n c,.vs l' n' c'=>kE l l' && f9 n n' && wW c c'
 | .map b,.map b'=>f9 b b'
 | .fn (.func f) x y,.fn (.func g) x' y'=>f9 f g && kE x x' && kE y y'
 | .iface t v,.iface t' v'=>f9 t t' && pn v v'
 | .agg l,.agg m=>kE l m
 | .au l,.au m=>kE l m
 | _,_=>false
def kE:List AV->List AV->Bool
 | [],[]=>true
 | a::l,b::m=>pn a b && kE l m
 | _,_=>false
end
mutual
theorem tj:∀(a b:AV),pn a b=true->a=b:=by
 intro a b h;unfold pn at h;split at h <;> first|rfl|(simp at h;done)|skip
 . grind
 . grind
 . grind
 . simp_all
 . rw[my _ _ h]
 . simp only[b8,j5]at h;grind[JQ]
 . simp only[b8,j5]at h;rw[my _ _ h.1.1,h.1.2,JQ h.2]
 . simp_all
 . simp only[b8,j5]at h;rw[h.1.1,my _ _ h.1.2,my _ _ h.2]
 . simp only[b8,j5]at h;rw[h.1,tj _ _ h.2]
 . rw[my _ _ h]
 . rw[my _ _ h]
theorem my:∀(a b:List AV),kE a b=true->a=b:=by
 intro a b h;cases a <;> cases b <;> simp only[kE,b8]at h <;> first|rfl|(simp at h;done)|skip
 rw[tj _ _ h.1,my _ _ h.2]
end
def wX:List (AV×AV)->List (AV×AV)->Bool
 | [],[]=>true
 | (a,b)::l,(c,d)::m=>pn a c && pn b d && wX l m
 | _,_=>false
theorem JR:∀{a b:List (AV×AV)},wX a b=true->a=b
 | [],[],_=>rfl
 | (a,b)::l,(c,d)::m,h=>by
  simp only[wX,b8]at h;rw[tj _ _ h.1.1,tj _ _ h.1.2,JR h.2]
 | [],_::_,h=>by cases h
 | _::_,[],h=>by cases h
def wY:ba->ba->Bool
 | .cells l e,.cells m f=>f9 e f && kE l m
 | .map l,.map m=>wX l m
 | .iter s p,.iter t q=>s == t && f9 p q
 | .hJ,.hJ=>true
 | _,_=>false
theorem JS {a b:ba}(h:wY a b=true):a=b:=by
 unfold wY at h;split at h
 . simp only[b8,j5]at h;grind[my]
 . rw[JR h]
 . simp_all
 . rfl
 . cases h
def qV:aa->aa->Bool
 | [],[]=>true
 | none::l,none::m=>qV l m
 | some a::l,some b::m=>wY a b && qV l m
 | _,_=>false
theorem Df:∀{a b:aa},qV a b=true->a=b
 | [],[],_=>rfl
 | none::l,none::m,h=>by simp only[qV]at h;rw[Df h]
 | some a::l,some b::m,h=>by
  simp only[qV,b8]at h;rw[JS h.1,Df h.2]
 | [],_::_,h=>by cases h
 | _::_,[],h=>by rename_i o _;cases o <;> cases h
 | none::_,some _::_,h=>by cases h
 | some _::_,none::_,h=>by cases h
def nF:aa->aa->Bool
 | [],[]=>true
 | none::l,_::m=>nF l m
 | some a::l,some b::m=>wY a b && nF l m
 | _,_=>false
theorem Dg:∀{a b:aa},nF a b=true->a.length=b.length/\∀(i:Nat) x,a[i]? = some (some x)->b[i]? = some (some x)
 | [],[],_=>⟨rfl,be⟩
 | none::l,o::m,h=>by
  simp only[nF]at h;obtain⟨h1,h2⟩:=Dg h;refine⟨by simp[h1],fun i x hx=>?_⟩;cases i with
  | zero=>simp at hx
  | succ i=>exact h2 i x (by simpa using hx)
 | some a::l,some b::m,h=>by
  simp only[nF,b8]at h;obtain⟨h1,h2⟩:=Dg h.2;refine⟨by simp[h1],fun i x hx=>?_⟩;cases i with
  | zero=>simp at hx ⊢;rw[←JS h.1,hx]
  | succ i=>exact h2 i x (by simpa using hx)
 | [],_::_,h=>by cases h
 | o::_,[],h=>by cases o <;> cases h
 | some _::_,none::_,h=>by cases h
structure cm where
 f:Nat
 as:List AV
 h:aa
 r:HR
def wZ (r:HR):Option HR->Bool
 | some q=>pn q.v r.v && qV q.h r.h && q.wr == r.wr
 | none=>false
theorem VN {r:HR}{q:Option HR}(h:wZ r q=true):q=some r:=by
 unfold wZ at h;split at h
 . rename_i q;simp only[b8,beq_iff_eq]at h;obtain⟨v,hh,wr⟩:=q;obtain⟨v',hh',wr'⟩:=r;grind[tj,Df]
 . cases h
def po (f:Nat)(all:List AV)(h:aa):List cm->Option HR
 | []=>none
 | e::T=>if f9 e.f f then (if kE e.as all then (if nF e.h h then some ⟨e.r.v,fe e.r.wr h e.r.h 0,e.r.wr⟩ else po f all h T) else po f all h T) else po f all h T
def xc (T:List cm)(ext:FuncId->List AV->aa->Option HR):FuncId->List AV->aa->Option HR:=fun f all h=>
 match po f all h T with
 | some r=>some r
 | none=>ext f all h
def bX (P:Program)(gl:Nat->Option AV)(e:cm):Prop:=
 fI e.h e.r/\∀ρ w (as':List Value),Mem P gl ρ e.h w->VL ρ w e.as as'->∃nx w1,(callFunc e.f as'.toArray).run P w = .ok nx w1/\kc P nx w1 fun v w'=>fg P gl ρ e.h w e.r v w'
theorem JT {f:Nat}{all:List AV}{h:aa}:∀{T:List cm} {r:HR},po f all h T=some r->∃e∈T,e.f=f/\e.as=all/\nF e.h h=true/\r=⟨e.r.v,fe e.r.wr h e.r.h 0,e.r.wr⟩
 | [],r,h=>by cases h
 | e::T,r,hq=>by
  have rest:po f all h T=some r->∃e'∈e::T,e'.f=f/\e'.as=all/\nF e'.h h=true/\r=⟨e'.r.v,fe e'.r.wr h e'.r.h 0,e'.r.wr⟩:=fun hr=>by
   obtain⟨e',h1,h2⟩:=JT hr;exact⟨e',List.mem_cons_of_mem _ h1,h2⟩
  simp only[po]at hq;split at hq
  . rename_i hf;split at hq
    . rename_i ha;split at hq
      . rename_i hs;cases hq;exact⟨e,List.mem_cons_self,i6 hf,my _ _ ha,hs,rfl⟩
      . exact rest hq
    . exact rest hq
  . exact rest hq
theorem VP {h0:aa}{r:HR}(hs:h0.length=h.length/\∀(i:Nat) x,h0[i]? = some (some x)->h[i]? = some (some x))(hwr:fI h0 r)(m:Mem P gl ρ h w){v':Value}{w':World}(hd:fg P gl ρ h0 w r v' w') :
 fg P gl ρ h w ⟨r.v,fe r.wr h r.h 0,r.wr⟩ v' w':=by
 obtain⟨ρ',hv,m',x⟩:=hd;obtain⟨hl,hk⟩:=hs;have hle:h.length<=r.h.length:=by have:=hwr.1;omega
 have get:=fun b=>jr r.wr h r.h 0 b hle
 have hml:=tg r.wr h r.h 0 hle;have h0none:∀b,b<h.length->h[b]? = some none->h0[b]? = some none:=by
  intro b hb hn;cases hz:h0[b]? with
  | none=>grind
  | some z=>cases z<;>grind
 have E:Ext h (fe r.wr h r.h 0) ρ ρ' w w':=by
  refine⟨x.os,x.tape,x.output,x.size,ac,x.X,?_,?_,x.live,x.dead,x.nil,?_,?_,x.shape⟩
  . intro b hb;have hlt:=(b5.1 hb).1;rw[get b,if_pos hlt];split
    . exact x.db b bS
    omega
  . intro b hb;exact x.same b (h0none b (b5.1 hb).1 hb)
  . intro c hc hu;refine x.ck c hc fun b d hb=>?_<;>grind
  . intro b c d hb hc;rcases x.back b c d hb hc with h1|⟨b0,d0,h1,h2⟩<;>grind
 refine⟨ρ',hv,⟨?_,?_,m'.inj,m'.bound,m'.xb,m'.xo,m'.gl⟩,E⟩
 . intro b o hb;rw[get b]at hb;split at hb
   . rename_i hlt;split at hb
     . exact m'.dc b o hb
     . rename_i hno;simp only[l9,List.contains_eq_mem,decide_eq_true_eq]at hno;cases hz:h0[b]? with
       | none=>grind
       | some z=>
        cases z with
        | some o'=>
         have:=hk b o' hz;rw[hb]at this;cases this;exact m'.dc b o (by rw[hwr.2 b ac hno,hz])
        | none=>
         refine(m.dc b o hb).mono E (x.same b hz) fun c d hl'=>?_
         refine x.ck c (m.bound b c d hl') fun b' d' hb'=>?_
         have:=m.inj _ _ _ _ _ hl' hb'<;>grind
   . exact m'.dc b o hb
 . intro b hb;rw[hml]at hb;exact m'.fresh b hb
theorem JU {T:List cm}(hT:∀e∈T,bX P gl e){ext:FuncId->List AV->aa->Option HR}(hext:cD P gl ext):cD P gl (xc T ext):=by
 intro f all h r hq;unfold xc at hq;split at hq
 . rename_i q hv;cases hq;obtain⟨e,he,rfl,rfl,hs,rfl⟩:=JT hv;obtain⟨hwr,bT⟩:=hT e he;have hsp:=Dg hs;have hle:h.length<=e.r.h.length:=by have:=hwr.1;omega
   refine⟨⟨by grind[tg],fun b hb hn=>?_⟩,fun ρ w as' m hl=>?_⟩
   . show (fe e.r.wr h e.r.h 0)[b]? = _;rw[jr _ _ _ _ _ hle,if_pos hb];grind
   . have m0:Mem P gl ρ e.h w:=⟨fun b o hb=>m.dc b o (hsp.2 b o hb),fun b hb=>m.fresh b ac,m.inj,m.bound,m.xb,m.xo,m.gl⟩;obtain⟨nx,w1,h1,h2⟩:=bT ρ w as' m0 hl;exact⟨nx,w1,h1,h2.mono (by grind[VP])⟩
 . exact hext f all h r hq
theorem VQ {call:dX}(hcall:nz P gl call){f:Nat}{as:List AV}{h:aa}{r:HR}(hq:wZ r (call (.fn (.func f) [] []) as h)=true):bX P gl ⟨f,as,h,r⟩:=by
 have hq':=VN hq;refine⟨hcall.wr _ _ _ _ hq',fun ρ w as' m hl=>?_⟩;obtain⟨nx,w1,h1,h2⟩:=hcall.ok _ _ _ _ hq' ρ w (.func (.func f) #[] #[]) as' m (.fn (fi':=[]) (ca':=[]) be rfl rfl be be) hl;exact Ju f _ _ ⟨nx,w1,h1,h2⟩
end Go.Ab
namespace Go.Ab
variable {ext:FuncId->List AV->aa->Option HR} {inv:fQ} {FT:FuncId->Option dv}
def qW (c c':dX):Prop:=∀g as h r,c g as h=some r->c' g as h=some r
def xe (r r':ak->aq->Option (Ex×aq)):Prop:=∀c s x,r c s=some x->r' c s=some x
theorem xf {c c':dX}(hc:qW c c'){s:St}{io:bg}{q:HR}(h:bI c inv s io=some q):bI c' inv s io=some q:=by
 cases io <;> first|exact h|skip
 case call f as=>
  simp only[bI]at h ⊢;split at h
  . exact hc _ _ _ _ h
  . cases h
 case invoke f name as=>
  simp only[bI]at h ⊢;split at h
  . split at h
    . exact hc _ _ _ _ h
    . cases h
  . cases h
theorem nG {c c':dX}(hc:qW c c'):∀(l:List aX) (s s':aq),ek c inv l s=some s'->ek c' inv l s=some s'
 | [],s,s',h=>h
 | o::l,s,s',h=>by
  simp only[ek]at h ⊢;split at h
  . split at h
    . rename_i q hq;simp only[xf hc hq];exact nG hc l _ s' h
    . cases h
  . exact nG hc l _ s' h
  . cases h
theorem lH {c c':dX}(hc:qW c c'):∀(l:List (aX×List Nat)) (s s':aq) (ds:List bY),dI c inv l s ds=some s'->dI c' inv l s ds=some s'
 | [],s,s',ds,h=>h
 | (o,un)::l,s,s',ds,h=>by
  simp only[dI]at h ⊢;split at h
  . split at h
    . rename_i hh;cases ht:je s.s o.op with
      | none=>
       simp only[ht]at h ⊢;simp only[if_true]at h ⊢;split at h
       . rename_i q hq;simp only[xf hc hq];split at h
         . rename_i hk;rw[if_pos hh];simp only[hk,if_true];exact lH hc l _ s' _ h
         . cases h
       . cases h
      | some T=>
       simp only[ht]at h ⊢;split at h
       . rename_i hd;rw[if_pos hd];split at h
         . rename_i q hq;simp only[xf hc hq];split at h
           . rename_i hk;rw[if_pos hh];simp only[hk,if_true];exact lH hc l _ s' _ h
           . cases h
         . cases h
       . cases h
    . rename_i hh;rw[if_neg hh];split at h
      . exact lH hc l _ s' _ h
      . cases h
  . exact lH hc l _ s' _ h
  . cases h
theorem xg {r r':ak->aq->Option (Ex×aq)}(hr:xe r r'){f:FuncId}{all:List AV}{h:aa}{q:HR}(hq:ix r FT f all h=some q):ix r' FT f all h=some q:=by
 unfold ix at hq ⊢;split at hq <;> try (cases hq;done)
 rename_i fi hfi;split at hq <;> try (cases hq;done)
 rename_i hn;rw[if_neg hn];split at hq <;> try (cases hq;done)
 rename_i e s hrun;rw[hr _ _ _ hrun];exact hq
theorem JV {r r':ak->aq->Option (Ex×aq)}(hr:xe r r'):qW (iF r ext FT) (iF r' ext FT):=by
 intro g as h q hq;cases g <;> try (cases hq;done)
 rename_i f fi ca;cases f <;> try (cases hq;done)
 . simp only[iF]at hq ⊢;grind[xg]
 . cases fi <;> cases ca <;> try (cases hq;done)
   rename_i b;change nE r b as h=some q at hq
   change nE r' b as h=some q
   unfold nE at hq ⊢;split at hq <;> try (cases hq;done)
   split at hq <;> try (cases hq;done)
   split at hq <;> try (cases hq;done)
   rename_i h3;simp only[hr _ _ _ h3];split at hq <;> try (cases hq;done)
   rename_i h4;split at hq <;> try (cases hq;done)
   rename_i h5;simp only[hr _ _ _ h5];exact hq
theorem VR:∀n,xe (bw ext inv FT n) (bw ext inv FT (n+1)):=by
 intro n;induction n with
 | zero=>intro c s x h;cases h
 | succ n ih=>
  intro c s x h;have hc:qW (iF (bw ext inv FT n) ext FT) (iF (bw ext inv FT (n+1)) ext FT):=JV ih;cases c <;> first|exact h|skip
  case region ops=>
   rw[bw]at h ⊢;grind[nG]
  case draw ops=>
   rw[bw]at h ⊢;grind[lH]
  case seq a b=>
   rw[bw]at h ⊢;cases hr:bw ext inv FT n a s with
   | none=>grind
   | some p=>
    rw[ih _ _ _ hr];rw[hr]at h;obtain⟨e,s1⟩:=p;cases e with
    | normal=>exact ih _ _ _ h
    | exit _=>exact h
    | ret=>exact h
  case cond t a b=>
   rw[bw]at h ⊢;split at h
   . exact ih _ _ _ h
   . cases h
  case block id a=>
   rw[bw]at h ⊢;cases hr:bw ext inv FT n a s with
   | none=>grind
   | some p=>
    rw[ih _ _ _ hr];grind
  case loop a=>
   rw[bw]at h ⊢;cases hr:bw ext inv FT n a s with
   | none=>grind
   | some p=>
    rw[ih _ _ _ hr];rw[hr]at h;obtain⟨e,s1⟩:=p;cases e with
    | normal=>exact ih _ _ _ h
    | exit _=>exact h
    | ret=>exact h
  case rangeFunc inner f ps a b=>
   rw[bw]at h ⊢;split at h
   . cases h
   . rename_i hi;rw[if_neg hi];grind[xg]
theorem xh {n m:Nat}(h:n<=m):xe (bw ext inv FT n) (bw ext inv FT m):=by
 induction h with
 | refl=>exact fun _ _ _ h=>h
 | step _ ih=>exact fun c s x hx=>VR _ c s x (ih c s x hx)
end Go.Ab
namespace Go.Ab
variable {P:Program} {gl:Nat->Option AV} {w:World} {ext:FuncId->List AV->aa->Option HR} {FT:FuncId->Option dv}
def bare:az:=⟨fun _=>.fresh,fun _=>False⟩
theorem VT (hgl:∀g v,gl g=some v->V bare w v (.pointer (some ⟨g,0,none⟩))):Mem P gl bare [] w:=
 ⟨be,fun _ _=>rfl,fun b b' c d d' h=>(by cases h),fun b c d h=>(by cases h),fun c h=>False.elim h,fun b c d h=>(by cases h),hgl⟩
theorem VU (hmix:P.follows .mixedOrders=true)(hext:cD P gl ext)(hFT:nD P gl FT){n:Nat}{f:FuncId}{as:List AV}{q:HR}(hq:ix (bw ext (ew P) FT n) FT f as []=some q)
 (hgl:∀g v,gl g=some v->V bare w v (.pointer (some ⟨g,0,none⟩))) {as':List Value} (hv:VL bare w as as') :
 Calls P f as'.toArray w fun e w'=>∃v',e = .returned v'/\(∃ρ',V ρ' w' q.v v')/\w'.os=w.os/\w'.tape=w.tape/\w'.output=w.output/\w.heap.size<=w'.heap.size/\∀c,c<w.heap.size->w'.heap[c]? = w.heap[c]? := by
 obtain⟨_,h2⟩:=wR (by grind[Dc]) hFT hq (VT hgl) hv;have h3:=callsIn_wide.1 h2;refine h3.mono fun e w' he=>?_
 cases e with
 | returned v=>
  obtain⟨ρ',hv',m',x⟩:=he;exact⟨v,rfl,⟨ρ',hv'⟩,x.os,x.tape,x.output,x.size,fun c hc=>x.ck c hc fun b d hb=>by cases hb⟩
 | panicked _=>grind
 | outgrown=>grind
end Go.Ab
namespace Go.Ab
open Go.ChangeShapes Go.WideShapes Go.RowKit
variable {H:Type} {enc:TypeId×Value->H} {P:Program}
theorem VV {W W':World}(h:W'.os=W.os/\W'.tape=W.tape/\W'.output=W.output/\W.heap.size<=W'.heap.size/\∀c,c<W.heap.size->W'.heap[c]? = W.heap[c]?):Below W.heap.size W W':=
 ⟨h.1,h.2.1,h.2.2.1,h.2.2.2.1,h.2.2.2.2⟩
theorem JW (hl:laidOutB P=true){W W':World}(hb:Below W.heap.size W W'):∀{ts:List TypeId} {vs:List Value} {ds:List (DataW H)} {ps:List MemPlace},(∀t∈ts,P.readableRec t=true/\t<P.types.size) ->
 DataW.TrodAll enc P W 0 (fun _=>true) true ts vs ds ps->(∀x∈ps,x.block<W.heap.size)->∀sp:Nat->Bool,(∀p∈ps,sp p.block=true)->DataW.TrodAll enc P W' 0 sp true ts vs ds ps
 | [],vs,ds,ps,_,h,_,sp,_=>by obtain⟨rfl,rfl,rfl⟩:=trodAll_nil h;rfl
 | t::ts,vs,ds,ps,ht,h,hlt,sp,hsp=>by
  obtain⟨v,vs',d,ds',p,q,rfl,rfl,rfl,h1,h2⟩:=trodAll_cons h;obtain⟨g1,g2⟩:=ht t be;refine trodAll_cons_mk (WideElems.Trod_stays hl g1 g2 h1 (fun x hx=>hb.same (hlt x (by simp[hx]))) (fun x hx=>hsp x (by simp[hx]))) ?_;exact JW hl hb (fun t ht'=>ht t (by simp[ht'])) h2 (fun x hx=>hlt x (by simp[hx])) sp fun x hx=>hsp x (by simp[hx])
theorem VW {f:Func}{s:ChangeSpec}{apart fresh handsOn again:Bool}{W W':World}{args:Array Value}{ds gs:List (DataW H)}{before:List MemPlace}(hW:DataW.Whole enc P f.params.toList s.vars apart W args.toList ds gs before)
 (hl:laidOutB P=true) (ht:∀t∈f.params.toList,P.readableRec t=true/\t<P.types.size) (hvars:s.vars=[]) (hb:Below W.heap.size W W')
 {bt:TypeId} (hbt:P.underlying bt=some .bool) (hrt:f.resultTypes = #[bt]) (h1:(s.fn H (ds++gs)).results=[.lit (.bool true)]) (h2:(s.fn H (ds++gs)).args=ds) (h3:(s.fn H (ds++gs)).vars=[]) :
 s.post enc P f apart fresh handsOn again W args (.bool true) W':=by
 have hlt:∀x∈before,x.block<W.heap.size:=fun x hx=>by simpa using hW.lt x hx
 have hold:∀p∈before,(fun b=>decide (b<W.heap.size)) p.block=true:=bS;have hW':=hW;obtain⟨p,q,hA,hV,hpq,hz,hn⟩:=hW';rw[hvars]at hV;obtain⟨hgs,hq⟩:=trodVars_none hV;subst hq;rw[List.append_nil]at hpq;subst hpq;have hargs:=JW hl hb ht hA hlt;have hargs':∀sp:Nat->Bool,(∀p∈before,sp p.block=true)->DataW.TrodAll enc P W' 0 sp true f.params.toList args.toList (s.fn H (ds++gs)).args before:=by
  rw[h2];exact hargs
 have hres:∀(b:Nat) (sp:Nat->Bool) (hd:Bool),DataW.TrodAll enc P W' b sp hd f.resultTypes.toList ((Value.bool true).resultList f.resultTypes.size) (s.fn H (ds++gs)).results []:=by
  intro b sp hd;rw[h1,hrt];exact trodAll_cons_mk (shut_bool hbt true) trodAll_mk0
 have hvar:∀sp:Nat->Bool,DataW.TrodVars enc P W' sp s.vars (s.fn H (ds++gs)).vars []:=by
  intro sp;rw[hvars,h3];rfl
 have hkept:W.keptBut W' (fun _=>False):=by
  refine⟨hb.os,hb.output,fun i hi=>?_⟩;have:=(World.keptBut_refl W (fun _=>False)).2.2 i hi;rw[hb.block i hi];exact this
 refine⟨ds,gs,before,[],before,[],hW,hres _ _ _,hargs' _ hold,hvar _,World.keptBut_mono be hkept,fun _=>?_⟩;refine⟨ok_one hrt rfl (okWide_bool_mk hbt true),_,_,([]++before)++[],⟨[]++before,[],trodAll_append (hargs' _ (fun _ _=>rfl)) (hres _ _ _),hvar _,rfl,?_,?_⟩,?_⟩
 . intro b off hp;have hp':MemPlace.cell b off∈before:=by simpa using hp
   have hlt':=hlt _ hp';rw[IQ (w:=W) (hb.block b hlt')];exact hz b off hp'
 . grind
 grind
end Go.Ab
namespace Go.Ab
variable {P:Program} {gl:Nat->Option AV} {ρ:az} {w:World} {h:aa}
mutual
def de:AV->Bool
 | .vp l=>l.isEmpty
 | .vs l _ _=>l.isEmpty
 | .fn _ a b=>fj a && fj b
 | .iface _ v=>de v
 | .agg l=>fj l
 | .au l=>fj l
 | _=>true
def fj:List AV->Bool
 | []=>true
 | v::r=>de v && fj r
end
theorem iA:∀{l:List AV} {i:Nat} {x:AV},fj l=true->l[i]? = some x->de x=true
 | [],i,x,_,h=>by simp at h
 | v::r,0,x,h,hx=>by simp only[fj,b8]at h;grind
 | v::r,i+1,x,h,hx=>by simp only[fj,b8]at h;simp at hx;exact iA h.2 hx
inductive Rn (ks:List Nat) (N:Nat):AV->AV->Prop
 | same {v:AV} (ht:v.top=0):Rn ks N v v
 | sl {i b off len esz:Nat} {cap:Option Nat} (hi:ks[i]? = some b):Rn ks N (.sl b off len esz cap) (.sl (N+i) off len esz cap)
 | ptr {i b off:Nat} (hi:ks[i]? = some b):Rn ks N (.ptr b off) (.ptr (N+i) off)
 | map {i b:Nat} (hi:ks[i]? = some b):Rn ks N (.map b) (.map (N+i))
 | vs {l l0:List AV} {n:Nat} {cap:Option Nat} (hl:l.length=l0.length) (hg:∀(i:Nat) x y,l[i]? = some x->l0[i]? = some y->Rn ks N x y):Rn ks N (.vs l n cap) (.vs l0 n cap)
 | agg {l l0:List AV} (hl:l.length=l0.length) (hg:∀(i:Nat) x y,l[i]? = some x->l0[i]? = some y->Rn ks N x y):Rn ks N (.agg l) (.agg l0)
 | au {l l0:List AV} (hl:l.length=l0.length) (hg:∀(i:Nat) x y,l[i]? = some x->l0[i]? = some y->Rn ks N x y):Rn ks N (.au l) (.au l0)
 | fn {f:Fn} {fi fi0 ca ca0:List AV} (hf:∀l,f≠.yield l) (h1:fi.length=fi0.length) (h2:ca.length=ca0.length) (g1:∀(i:Nat) x y,fi[i]? = some x->fi0[i]? = some y->Rn ks N x y)
     (g2:∀(i:Nat) x y,ca[i]? = some x->ca0[i]? = some y->Rn ks N x y):Rn ks N (.fn f fi ca) (.fn f fi0 ca0)
def qX (ks:List Nat)(N:Nat)(l l0:List AV):Prop:=l.length=l0.length/\∀(i:Nat) x y,l[i]? = some x->l0[i]? = some y->Rn ks N x y
inductive tn (ks:List Nat) (N:Nat):ba->ba->Prop
 | cells {l l0:List AV} {e:TypeId} (h:qX ks N l l0):tn ks N (.cells l e) (.cells l0 e)
 | map {es es0:List (AV×AV)} (h1:qX ks N (es.map (·.1)) (es0.map (·.1))) (h2:qX ks N (es.map (·.2)) (es0.map (·.2))):tn ks N (.map es) (.map es0)
def xi:ba->Bool
 | .cells l _=>fj l
 | .map es=>fj (es.map (·.1)) && fj (es.map (·.2))
 | _=>true
theorem qX.cons {ks:List Nat}{N:Nat}{x y:AV}{l m:List AV}(h1:Rn ks N x y)(h2:qX ks N l m):qX ks N (x::l) (y::m):=by
 refine⟨by simp[h2.1],fun i a b ha hb=>?_⟩;cases i with
 | zero=>grind
 | succ i=>simp at ha hb;exact h2.2 i a b ha hb
theorem JX {ρ' ρ1:az}{a:AV}{v:Value}(ht:a.top=0)(hn:de a=true)(hv:V ρ' w a v):V ρ1 w a v:=by
 have key:∀{a v},V ρ' w a v->a.top=0->de a=true->V ρ1 w a v:=by
  intro a v hv;induction hv with
  | db v=>exact fun _ _=>.db v
  | bool b=>exact fun _ _=>.bool b
  | int k n=>exact fun _ _=>.int k n
  | str s=>exact fun _ _=>.str s
  | dG=>exact fun _ _=>.dG
  | ptr o hb=>exact fun h _=>by simp[AV.top]at h
  | eE o c o' hb=>exact fun h _=>by simp[AV.top]at h
  | @vp l c o g hf hc _ ih=>intro _ hn;simp only[de,j3]at hn;subst hn;exact .vp c o g be be be
  | ab=>exact fun _ _=>.ab
  | sl hb hl hcap hs=>exact fun h _=>by simp[AV.top]at h
  | gA hb=>exact fun h _=>by simp[AV.top]at h
  | fB c o' hb hl hcap=>exact fun h _=>by simp[AV.top]at h
  | fX hb=>exact fun h _=>by simp[AV.top]at h
  | gB a hb=>exact fun h _=>by simp[AV.top]at h
  | @vs l len capC cap c o g hf hl hcap hc _ ih=>intro _ hn;simp only[de,j3]at hn;subst hn;exact .vs c o g be hl hcap be be
  | ff hcap=>exact fun _ _=>.ff hcap
  | fY a hcap=>exact fun _ _=>.fY a hcap
  | eO=>exact fun _ _=>.eO
  | map hb=>exact fun h _=>by simp[AV.top]at h
  | iR v hb=>exact fun h _=>by simp[AV.top]at h
  | yield hb=>exact fun h _=>by simp[AV.top]at h
  | @fn f fi ca _ _ hf h1 h2 _ _ ih1 ih2=>
   intro h hn;have hh:bc fi<=0/\bc ca<=0:=by
    cases f <;> simp only[AV.top]at h <;> exact⟨ac,ac⟩
   simp only[de,b8]at hn;exact .fn hf h1 h2 (fun i x y a b=>ih1 i x y a b (by have:=fC hh.1 i x a;omega) (iA hn.1 a)) (fun i x y a b=>ih2 i x y a b (by have:=fC hh.2 i x a;omega) (iA hn.2 a))
  | iG v hb=>exact fun h _=>by simp[AV.top]at h
  | fO=>exact fun _ _=>.fO
  | iface _ ih=>exact fun h hn=>.iface (ih (by simpa only[AV.top] using h) (by simpa only[de] using hn))
  | dh=>exact fun _ _=>.dh
  | agg hl _ ih=>exact fun h hn=>.agg hl (fun i x y a b=>ih i x y a b (by have:=fC (n:=0) (by simpa only[AV.top,Nat.le_zero] using h) i x a;omega) (iA (by simpa only[de] using hn) a))
  | au hl _ ih=>exact fun h hn=>.au hl (fun i x y a b=>ih i x y a b (by have:=fC (n:=0) (by simpa only[AV.top,Nat.le_zero] using h) i x a;omega) (iA (by simpa only[de] using hn) a))
 grind
theorem Rn.view {ks:List Nat}{N:Nat}{ρ' ρ1:az}(hρ:∀(i b:Nat),ks[i]? = some b->ρ1 (N+i)=ρ' b){a a1:AV}(hr:Rn ks N a a1) :
 (de a=true\/∀c,cW ρ' c->cW ρ1 c)->∀{v:Value},V ρ' w a v->V ρ1 w a1 v:=by
 induction hr with
 | @same a ht=>
  intro hF v hv;rcases hF with hF|hF
  . exact JX ht hF hv
  . exact hv.ik (n:=0) be hF ac
 | sl hi=>
  intro _ v hv;cases hv with
  | sl h1 h2 h3 h4=>exact .sl bS h2 h3 h4
  | gA h1=>exact .gA bS
  | fB c o' h1 h2 h3=>exact .fB c o' bS h2 h3
  | fX h1=>exact .fX bS
  | gB a h1=>exact .gB a bS
 | ptr hi=>
  intro _ v hv;cases hv with
  | ptr _ h1=>exact .ptr _ bS
  | eE _ _ _ h1=>exact .eE _ _ _ bS
 | map hi=>
  intro _ v hv;cases hv with
  | map h1=>exact .map bS
  | iR c h1=>exact .iR c bS
 | @vs l l0 n cap hl hg ih=>
  intro hF v hv;cases hv with
  | vs c o g hf h2 h3 h4 h5=>
   by_cases hn:l=[]
   . subst hn;have:l0=[]:=bS;subst this;exact .vs c o g be h2 h3 be be
   . have hF':∀c,cW ρ' c->cW ρ1 c:=by
      rcases hF with hF|hF
      . simp only[de,j3]at hF;grind
      . exact hF
     refine .vs c o g bS h2 h3 bS (fun i y hy=>?_);have hi:i<l.length:=by have:=(b5.1 hy).1;omega
     exact ih i _ y (b6 hi) hy (.inr hF') (h5 i _ (b6 hi))
  | ff hc=>
   have:l0=[]:=bS;subst this;exact .ff hc
  | fY a hc=>
   have:l0=[]:=bS;subst this;exact .fY a hc
 | @agg l l0 hl hg ih=>
  intro hF v hv;cases hv with
  | @agg _ mm h1 h2=>
   refine .agg ac fun i y z hy hz=>?_
   have hi:i<l.length:=by have:=(b5.1 hy).1;omega
   exact ih i _ y (b6 hi) hy (hF.imp (fun h=>by simp only[de]at h;exact iA h (b6 hi)) id) (h2 i _ z (b6 hi) hz)
 | @au l l0 hl hg ih=>
  intro hF v hv;cases hv with
  | @au _ mm h1 h2=>
   refine .au ac fun i y z hy hz=>?_
   have hi:i<l.length:=by have:=(b5.1 hy).1;omega
   exact ih i _ y (b6 hi) hy (hF.imp (fun h=>by simp only[de]at h;exact iA h (b6 hi)) id) (h2 i _ z (b6 hi) hz)
 | @fn f fi fi0 ca ca0 hf h1 h2 g1 g2 ih1 ih2=>
  intro hF v hv;cases hv with
  | fn hf' a1 a2 a3 a4=>
   refine .fn hf ac ac (fun i y z hy hz=>?_) (fun i y z hy hz=>?_)
   . have hi:i<fi.length:=by have:=(b5.1 hy).1;omega
     exact ih1 i _ y (b6 hi) hy (hF.imp (fun h=>by simp only[de,b8]at h;exact iA h.1 (b6 hi)) id) (a3 i _ z (b6 hi) hz)
   . have hi:i<ca.length:=by have:=(b5.1 hy).1;omega
     exact ih2 i _ y (b6 hi) hy (hF.imp (fun h=>by simp only[de,b8]at h;exact iA h.2 (b6 hi)) id) (a4 i _ z (b6 hi) hz)
  | yield _=>grind
  | iG _ _=>grind
inductive Fr (h:aa) (S:List Nat):AV->AV->Prop
 | same {v:AV} (ht:v.top=0):Fr h S v v
 | nil {cap:Option Nat} (hc:∀n,cap=some n->n=0):Fr h S .ab (.vs [] 0 cap)
 | sl {b off len esz:Nat} {cap cap':Option Nat} {l m m0:List AV} {e:TypeId} (hb:b∈S) (ha:h.at b=some (.cells l e)) (hc:cut l off (len*esz)=some m) (hl:m.length=m0.length)
     (hg:∀(i:Nat) x y,m[i]? = some x->m0[i]? = some y->Fr h S x y) (hcc:cap'=cap\/cap'=none:=by exact .inl rfl):Fr h S (.sl b off len esz cap) (.vs m0 len cap')
 | ptr {b off:Nat} {l m0:List AV} {e:TypeId} (hb:b∈S) (ha:h.at b=some (.cells l e)) (hl:(l.drop off).length=m0.length)
     (hg:∀(i:Nat) x y,(l.drop off)[i]? = some x->m0[i]? = some y->Fr h S x y):Fr h S (.ptr b off) (.vp m0)
 | vs {l l0:List AV} {n:Nat} {cap:Option Nat} (hl:l.length=l0.length) (hg:∀(i:Nat) x y,l[i]? = some x->l0[i]? = some y->Fr h S x y):Fr h S (.vs l n cap) (.vs l0 n cap)
 | agg {l l0:List AV} (hl:l.length=l0.length) (hg:∀(i:Nat) x y,l[i]? = some x->l0[i]? = some y->Fr h S x y):Fr h S (.agg l) (.agg l0)
 | au {l l0:List AV} (hl:l.length=l0.length) (hg:∀(i:Nat) x y,l[i]? = some x->l0[i]? = some y->Fr h S x y):Fr h S (.au l) (.au l0)
 | fn {f:Fn} {fi fi0 ca ca0:List AV} (hf:∀l,f≠.yield l) (h1:fi.length=fi0.length) (h2:ca.length=ca0.length) (g1:∀(i:Nat) x y,fi[i]? = some x->fi0[i]? = some y->Fr h S x y)
     (g2:∀(i:Nat) x y,ca[i]? = some x->ca0[i]? = some y->Fr h S x y):Fr h S (.fn f fi ca) (.fn f fi0 ca0)
def iB (h:aa)(S:List Nat)(l l0:List AV):Prop:=l.length=l0.length/\∀(i:Nat) x y,l[i]? = some x->l0[i]? = some y->Fr h S x y
def dJ (ρ:az)(S:List Nat):az:=⟨fun _=>.fresh,fun c=>ρ.X c\/∃b d,ρ b = .live c d/\b∉S⟩
theorem cW.dJ {c:Nat}(S:List Nat)(hf:cW ρ c):cW (dJ ρ S) c:=by
 refine⟨fun b d hb=>by simp[Go.Ab.dJ]at hb,?_⟩;rintro(hx|⟨b,d,hb,_⟩)
 . exact hf.2 hx
 . exact hf.1 b d hb
theorem Fr.view (m:Mem P gl ρ h w){S:List Nat}{a a0:AV}(hr:Fr h S a a0):∀{v:Value},V ρ w a v->V (dJ ρ S) w a0 v:=by
 have hfree:∀{b c d},b∈S->ρ b = .live c d->cW (dJ ρ S) c:=fun {b c d} hb hl=>by
  refine⟨fun b d hb=>by simp[Go.Ab.dJ]at hb,?_⟩;rintro(hx|⟨b',d',hb',hn⟩)
  . exact m.xo _ _ _ hl hx
  . exact hn (m.inj _ _ _ _ _ hb' hl ▸ hb)
 have hat:∀{b o},h.at b=some o->h[b]? = some (some o):=fun {b o} hb=>by
  unfold aa.at at hb;grind
 induction hr with
 | same ht=>exact fun hv=>hv.ik (n:=0) be (fun c hc=>hc.dJ S) ac
 | nil hc=>
  intro v hv;cases hv;exact .ff hc
 | @sl b off len esz cap cap' l m' m0 e hb ha hc hl hg hcc ih=>
  intro v hv;have hB:=m.dc b _ (hat ha);have hcut:m'.length=len*esz/\∀i,i<m'.length->m'[i]? = l[off+i]? := by
   simp only[cut]at hc;split at hc
   . grind
   . cases hc
  cases hv with
  | @sl _ c d _ _ _ capC _ h1 h2 h3 h4=>
   have h3:∀n,cap'=some n->capC=n:=bS;rcases hB with ⟨c',d',cs,fr,g1,g2,g3,g4,g5⟩|⟨g1,_⟩
   . rw[h1]at g1;cases g1;refine .vs c (off+d) (fun i=>cs.getD (off+d+i) (.bool false)) bS h2 h3 (fun i hi=>?_) (fun i y hy=>?_)
     . have hi':i<m'.length:=by omega
       have hlt:off+i<l.length:=by
        have:=hcut.2 i hi';rw[b6 hi']at this;exact(b5.1 this.symm).1
       have:off+d+i<cs.size:=by have:=g3.1;omega
       simp only[n4,g2];simp[this,lC]
     . have hi:i<m0.length:=(b5.1 hy).1;have hi':i<m'.length:=by omega
       have hx:=hcut.2 i hi';rw[b6 hi']at hx;have hlt:off+i<l.length:=(b5.1 hx.symm).1;have hs:off+d+i<cs.size:=by have:=g3.1;omega
       refine ih i m'[i] y (b6 hi') hy ?_;refine g5 (off+i) _ _ hx.symm ?_;rw[show off+i+d=off+d+i from by omega];simp[hs,lC]
   grind
  | @gA _ _ h1=>
   rcases hB with ⟨c',d',cs,fr,g1,_⟩|⟨g1,g2⟩
   . grind
   . have:m0=[]:=bS;subst this;exact .ff bS
  | fB c o' h1 _ _=>
   rcases hB with ⟨c',d',cs,fr,g1,_⟩|⟨g1,g2⟩ <;> (rw[h1]at g1;cases g1)
  | gB a h1=>
   rcases hB with ⟨c',d',cs,fr,g1,_⟩|⟨g1,g2⟩ <;> (rw[h1]at g1;cases g1)
  | fX h1=>
   rcases hB with ⟨c',d',cs,fr,g1,_⟩|⟨g1,g2⟩ <;> (rw[h1]at g1;cases g1)
 | @ptr b off l m0 e hb ha hl hg ih=>
  intro v hv;have hB:=m.dc b _ (hat ha);cases hv with
  | @ptr _ c d _ h1=>
   rcases hB with ⟨c',d',cs,fr,g1,g2,g3,g4,g5⟩|⟨g1,_⟩
   . rw[h1]at g1;cases g1;refine .vp c (off+d) (fun i=>cs.getD (off+d+i) (.bool false)) bS (fun i hi=>?_) (fun i y hy=>?_)
     . have:off+d+i<cs.size:=by have:=g3.1;simp at hl;omega
       simp only[n4,g2];simp[this,lC]
     . have hi:i<m0.length:=(b5.1 hy).1;have hi':i<(l.drop off).length:=by omega
       have hlt:off+i<l.length:=by simp at hi';omega
       have hs:off+d+i<cs.size:=by have:=g3.1;omega
       refine ih i _ y (b6 hi') hy ?_;refine g5 (off+i) _ _ be ?_;rw[show off+i+d=off+d+i from by omega];simp[hs,lC]
   grind
  | eE _ c o' h1=>
   rcases hB with ⟨c',d',cs,fr,g1,_⟩|⟨g1,g2⟩ <;> (rw[h1]at g1;cases g1)
 | @vs l l0 n cap hl hg ih=>
  intro v hv;cases hv with
  | vs c o g hf h2 h3 h4 h5=>
   refine .vs c o g (fun hn=>(hf fun e=>?_).dJ S) h2 h3 bS (fun i y hy=>?_)
   . grind
   . have hi:i<l.length:=by have:=(b5.1 hy).1;omega
     exact ih i _ y (b6 hi) hy (h5 i _ (b6 hi))
  | ff hc=>
   have:l0=[]:=bS;subst this;exact .ff hc
  | fY a hc=>
   have:l0=[]:=bS;subst this;exact .fY a hc
 | @agg l l0 hl hg ih=>
  intro v hv;cases hv with
  | @agg _ mm h1 h2=>
   refine .agg ac fun i y z hy hz=>?_
   have hi:i<l.length:=by have:=(b5.1 hy).1;omega
   exact ih i _ y (b6 hi) hy (h2 i _ z (b6 hi) hz)
 | @au l l0 hl hg ih=>
  intro v hv;cases hv with
  | @au _ mm h1 h2=>
   refine .au ac fun i y z hy hz=>?_
   have hi:i<l.length:=by have:=(b5.1 hy).1;omega
   exact ih i _ y (b6 hi) hy (h2 i _ z (b6 hi) hz)
 | @fn f fi fi0 ca ca0 hf h1 h2 g1 g2 ih1 ih2=>
  intro v hv;cases hv with
  | fn hf' a1 a2 a3 a4=>
   refine .fn hf ac ac (fun i y z hy hz=>?_) (fun i y z hy hz=>?_)
   . have hi:i<fi.length:=by have:=(b5.1 hy).1;omega
     exact ih1 i _ y (b6 hi) hy (a3 i _ z (b6 hi) hz)
   . have hi:i<ca.length:=by have:=(b5.1 hy).1;omega
     exact ih2 i _ y (b6 hi) hy (a4 i _ z (b6 hi) hz)
  | yield _=>grind
  | iG _ _=>grind
theorem iB.view (m:Mem P gl ρ h w){S:List Nat}{l l0:List AV}(hr:iB h S l l0){vs:List Value}(hv:VL ρ w l vs):VL (dJ ρ S) w l0 vs:=
 ⟨by rw[←hr.1];exact hv.1,fun i y z hy hz=>by
  have hi:i<l.length:=by have:=(b5.1 hy).1;have:=hr.1;omega
  exact(hr.2 i _ y (b6 hi) hy).view m (hv.2 i _ z (b6 hi) hz)⟩
theorem Mem.dJ (hgl:∀g v,gl g=some v->v.top=0)(m:Mem P gl ρ h w)(S:List Nat):Mem P gl (dJ ρ S) [] w:=by
 refine⟨be,fun b _=>rfl,?_,?_,?_,?_,fun g v hg=>?_⟩
 . intro b b' c d d' h1;simp[Go.Ab.dJ]at h1
 . intro b c d h1;simp[Go.Ab.dJ]at h1
 . rintro c (hc|⟨b,d,hb,_⟩)
   . exact m.xb c hc
   . exact m.bound b c d hb
 . intro b c d h1;simp[Go.Ab.dJ]at h1
 . exact(m.gl g v hg).ik (n:=0) be (fun c hc=>hc.dJ S) bS
theorem JY (m:Mem P gl ρ h w){S ks:List Nat}{v v1:AV}{hh:aa}{bs:List ba}{v':Value}{w':World}(hnd:ks.Nodup)(hv1:Rn ks h.length v v1)(hlen:ks.length=bs.length)
 (hbs:∀(i b:Nat) o1,ks[i]? = some b->bs[i]? = some o1->∃o,hh.at b=some o/\tn ks h.length o o1/\(S=[]\/xi o=true)) (hn:S=[]\/de v=true) (hd:fg P gl (dJ ρ S) [] w ⟨v,hh,[]⟩ v' w') :
 fg P gl ρ h w ⟨v1,h++bs.map some,[]⟩ v' w':=by
 obtain⟨ρ',hv,m',x⟩:=hd;have ck:∀c,c<w.heap.size->w'.heap[c]? = w.heap[c]? := fun c hc=>x.ck c hc fun b d hb=>by simp[Go.Ab.dJ]at hb
 have new:∀b c d,ρ' b = .live c d->w.heap.size<=c:=fun b c d hb=>by
  rcases b9 c w.heap.size with hc|hc
  . rcases x.back b c d hb hc with h1|⟨b0,d0,h1,_⟩ <;> simp[Go.Ab.dJ]at h1
  omega
 have hat:∀{b o},hh.at b=some o->hh[b]? = some (some o):=fun {b o} hb=>by
  unfold aa.at at hb;grind
 let ρ1:az:=⟨fun b=>if b<h.length then ρ b else match ks[b-h.length]? with|some k=>ρ' k|none=>.fresh,ρ.X⟩
 have hlt:∀b,b<h.length->ρ1 b=ρ b:=bS;have hge:∀(i k:Nat),ks[i]? = some k->ρ1 (h.length+i)=ρ' k:=bS;have hback:∀b c d,h.length<=b->ρ1 b = .live c d->∃k:Nat,ks[b-h.length]? = some k/\ρ' k = .live c d:=bS;have hfr:∀b,ρ b≠.fresh->b<h.length:=fun b hb=>by
  rcases b9 b h.length with h1|h1
  . exact h1
  . exact absurd (m.fresh b h1) hb
 have E:Ext h (h++bs.map some) ρ ρ1 w w':=by
  refine⟨x.os,x.tape,x.output,x.size,be,rfl,?_,?_,?_,?_,?_,?_,?_,x.shape⟩
  . grind
  . grind
  . grind
  . grind
  . grind
  . grind
  . grind
 have hF:S=[]->∀c,cW ρ' c->cW ρ1 c:=by
  intro hS c hc;have hX:ρ'.X=(dJ ρ S).X:=x.X;have h2:=hc.2;rw[hX]at h2;refine⟨fun b d hb=>?_,fun hx=>h2 (.inl hx)⟩;rcases b9 b h.length with h1|h1
  . rw[hlt b h1]at hb;exact h2 (.inr ⟨b,d,hb,bS⟩)
  . obtain⟨k,_,hk⟩:=hback b c d h1 hb;exact hc.1 _ _ hk
 have hvs:∀{a a1:AV} {u:Value},(S=[]\/de a=true)->Rn ks h.length a a1->V ρ' w' a u->V ρ1 w' a1 u:=fun {a a1 u} hc hr hu=>
  hr.view hge bS hu
 refine⟨ρ1,hvs hn hv1 hv,m.ext E ?_ ?_ ?_ ?_,E⟩
 . intro b o hb;rcases b9 b h.length with h1|h1
   . rw[fm h1]at hb;exact(m.dc b o hb).mono E (hlt b h1) fun c d hl=>ck c (m.bound b c d hl)
   . rw[List.getElem?_append_right h1]at hb;obtain⟨o1,hq,rfl⟩:∃o1,bs[b-h.length]? = some o1/\o1=o:=by grind
     have hi:b-h.length<ks.length:=by have:=(b5.1 hq).1;omega
     have hk:ks[b-h.length]? = some ks[b-h.length]:=b6 hi;obtain⟨o,ho,hB,hnb⟩:=hbs _ _ _ hk hq;have hB':=m'.dc _ _ (hat ho);have hb1:ρ1 b=ρ' ks[b-h.length]:=by have:=hge _ _ hk;rwa [show h.length+(b-h.length)=b from by omega]at this
     cases hB with
     | @cells l l0 e hl=>
      rcases hB' with ⟨c,d,cs,fr,g1,g2,g3,g4,g5⟩|⟨g1,g2⟩
      . refine .inl ⟨c,d,cs,fr,hb1.trans g1,g2,⟨by have:=hl.1;have:=g3.1;omega,fun he=>⟨(g3.2 he).1,by have:=hl.1;have:=(g3.2 he).2;omega⟩⟩,g4,fun i y z hy hz=>?_⟩;have hi:i<l.length:=by have:=(b5.1 hy).1;have:=hl.1;omega
        exact hvs (hnb.imp id fun hh'=>iA hh' (b6 hi)) (hl.2 i _ y (b6 hi) hy) (g5 i _ z (b6 hi) hz)
      . refine .inr ⟨hb1.trans g1,?_⟩;have:=hl.1;grind
     | @map es es0 hl1 hl2=>
      obtain⟨c,ms,clk,g1,g2,g3,g4⟩:=hB';have hle:es.length=es0.length:=by have:=hl1.1;simpa using this
      refine⟨c,ms,clk,hb1.trans g1,g2,ac,fun i kx vx mm hx hm=>?_⟩;have hi:i<es.length:=by have:=(b5.1 hx).1;omega
      have he:es[i]? = some (es[i].1,es[i].2):=b6 hi;obtain⟨q1,q2⟩:=g4 i _ _ mm he hm;have r1:=hl1.2 i es[i].1 kx (by simp[he]) (by simp[hx]);have r2:=hl2.2 i es[i].2 vx (by simp[he]) (by simp[hx]);have hnn:S=[]\/(de es[i].1=true/\de es[i].2=true):=hnb.imp id fun hh'=>by
       simp only[xi,b8]at hh';exact⟨iA hh'.1 (i:=i) (by simp[he]),iA hh'.2 (i:=i) (by simp[he])⟩
      grind
 . grind
 . intro b b' c d d' h1 h2;rcases b9 b h.length with hb|hb <;> rcases b9 b' h.length with hb'|hb'
   . rw[hlt b hb]at h1;rw[hlt b' hb']at h2;exact m.inj _ _ _ _ _ h1 h2
   . obtain⟨k,_,hk⟩:=hback _ _ _ hb' h2;rw[hlt b hb]at h1;have:=m.bound _ _ _ h1;grind
   . obtain⟨k,_,hk⟩:=hback _ _ _ hb h1;rw[hlt b' hb']at h2;have:=m.bound _ _ _ h2;grind
   . obtain⟨k,e1,hk⟩:=hback _ _ _ hb h1;obtain⟨k',e2,hk'⟩:=hback _ _ _ hb' h2;have:=m'.inj _ _ _ _ _ hk hk';subst this;obtain⟨l1,q1⟩:=b5.1 e1;obtain⟨l2,q2⟩:=b5.1 e2;have:=(List.getElem_inj hnd).1 (q1.trans q2.symm);omega
 . intro b c d hb;rcases b9 b h.length with h1|h1
   . rw[hlt b h1]at hb;exact iy (m.bound _ _ _ hb) x.size
   . obtain⟨k,_,hk⟩:=hback _ _ _ h1 hb;exact m'.bound _ _ _ hk
theorem JZ (hgl:∀g v,gl g=some v->v.top=0){f:Nat}{as as0:List AV}{v v1:AV}{hh:aa}{bs:List ba}{S ks:List Nat}(hr:iB h S as as0)(hnd:ks.Nodup)(hv1:Rn ks h.length v v1)(hlen:ks.length=bs.length)
 (hbs:∀(i b:Nat) o1,ks[i]? = some b->bs[i]? = some o1->∃o,hh.at b=some o/\tn ks h.length o o1/\(S=[]\/xi o=true)) (hn:S=[]\/de v=true)
 (hloc:bX P gl ⟨f,as0,[],⟨v,hh,[]⟩⟩):bX P gl ⟨f,as,h,⟨v1,h++bs.map some,[]⟩⟩:=by
 refine⟨CE _ _ _,fun ρ w as' m hl=>?_⟩;obtain⟨nx,w1,h1,h2⟩:=hloc.2 (dJ ρ S) w as' (m.dJ hgl S) (hr.view m hl);exact⟨nx,w1,h1,h2.mono fun v w' hd=>JY m hnd hv1 hlen hbs hn hd⟩
end Go.Ab
namespace Go.Ab
variable {c:ak} {s:aq} {Q:aq->Prop} {l:List aX} {a b n:Int} {x y i:ay} {t:Nat} {pe as:List AV} {lo:List (Nat×AV)} {hp:aa} {df wr:List Nat} {d:eZ} {v:AV} {r:HR} {args:List ay} {k:IntKind}
structure aw where
 ext:FuncId->List AV->aa->Option HR
 inv:fQ
 FT:FuncId->Option dv
abbrev aw.ev (M:aw)(n:Nat):=bw M.ext M.inv M.FT n
abbrev aw.call (M:aw)(n:Nat):=iF (M.ev n) M.ext M.FT
structure W (M:aw)(c:ak)(s:aq)(Q:Ex->aq->Prop):Prop where
 out:∃n e s',M.ev n c s=some (e,s')/\Q e s'
structure WO (M:aw)(l:List aX)(s:aq)(Q:aq->Prop):Prop where
 out:∃n s',ek (M.call n) M.inv l s=some s'/\Q s'
structure WD (M:aw)(l:List (aX×List Nat))(s:aq)(ds:List bY)(Q:aq->Prop):Prop where
 out:∃n s',dI (M.call n) M.inv l s ds=some s'/\Q s'
structure WC (M:aw)(g:AV)(as:List AV)(h:aa)(Q:HR->Prop):Prop where
 out:∃n r,M.call n g as h=some r/\Q r
def aV (M:aw)(f:FuncId)(as:List AV)(h:aa)(r:HR):Prop:=∃n,ix (M.ev n) M.FT f as h=some r
variable {M:aw}
theorem xj {n m:Nat}(h:n<=m){c:ak}{s:aq}{x:Ex×aq}(hx:M.ev n c s=some x):M.ev m c s=some x:=xh h c s x hx
theorem kd {n m:Nat}(h:n<=m):qW (M.call n) (M.call m):=JV (xh h)
theorem W.mono {Q R:Ex->aq->Prop}(h:W M c s Q)(hr:∀e s',Q e s'->R e s'):W M c s R:=by
 obtain⟨⟨n,e,s',h1,h2⟩⟩:=h;exact⟨⟨n,e,s',h1,hr _ _ h2⟩⟩
theorem WO.mono {R:aq->Prop}(h:WO M l s Q)(hr:∀s',Q s'->R s'):WO M l s R:=by
 obtain⟨⟨n,s',h1,h2⟩⟩:=h;exact⟨⟨n,s',h1,hr _ h2⟩⟩
structure SQ (M:aw)(b:ak)(Q:Ex->aq->Prop)(e:Ex)(s:aq):Prop where
 out:match e with
  | .normal=>W M b s Q
  | e=>Q e s
structure BQ (id:Nat)(Q:Ex->aq->Prop)(e:Ex)(s:aq):Prop where
 out:match e with
  | .exit i=>if i=id then Q .normal s else Q (.exit i) s
  | e=>Q e s
structure LQ (M:aw)(c:ak)(Q:Ex->aq->Prop)(e:Ex)(s:aq):Prop where
 out:match e with
  | .normal=>W M (.loop c) s Q
  | e=>Q e s
theorem agH {Q:Ex->aq->Prop}(h:Q .normal s):W M .skip s Q:=⟨⟨1,.normal,s,rfl,h⟩⟩
theorem agR {Q:Ex->aq->Prop}(h:Q .ret s):W M .ret s Q:=⟨⟨1,.ret,s,rfl,h⟩⟩
theorem alL {i:Nat}{Q:Ex->aq->Prop}(h:Q (.exit i) s):W M (.exit i) s Q:=⟨⟨1,.exit i,s,rfl,h⟩⟩
theorem afc {a b:ak}{Q:Ex->aq->Prop}(h:W M a s (SQ M b Q)):W M (.seq a b) s Q:=by
 obtain⟨⟨n,e,s1,h1,⟨h2⟩⟩⟩:=h;cases e with
 | normal=>
  obtain⟨⟨m,e,s2,h3,h4⟩⟩:=h2;refine⟨⟨max n m+1,e,s2,?_,h4⟩⟩;show bw _ _ _ _ _ _=_;rw[bw,show bw M.ext M.inv M.FT (max n m) _ s=_ from xj ac h1];exact xj ac h3
 | exit i=>refine⟨⟨n+1,.exit i,s1,?_,h2⟩⟩;show bw _ _ _ _ _ _=_;rw[bw,show bw _ _ _ n a s=_ from h1]
 | ret=>refine⟨⟨n+1,.ret,s1,?_,h2⟩⟩;show bw _ _ _ _ _ _=_;rw[bw,show bw _ _ _ n a s=_ from h1]
theorem ain {id:Nat}{Q:Ex->aq->Prop}(h:W M c s (BQ id Q)):W M (.block id c) s Q:=by
 obtain⟨⟨n,e,s1,h1,⟨h2⟩⟩⟩:=h;have h1':bw M.ext M.inv M.FT n c s=some (e,s1):=h1;cases e with
 | normal=>refine⟨⟨n+1,.normal,s1,?_,h2⟩⟩;show bw _ _ _ _ _ _=_;rw[bw,h1']
 | ret=>refine⟨⟨n+1,.ret,s1,?_,h2⟩⟩;show bw _ _ _ _ _ _=_;rw[bw,h1']
 | exit i=>
  simp only at h2;split at h2
  . rename_i hi;refine⟨⟨n+1,.normal,s1,?_,h2⟩⟩;show bw _ _ _ _ _ _=_;rw[bw,h1'];grind
  . rename_i hi;refine⟨⟨n+1,.exit i,s1,?_,h2⟩⟩;show bw _ _ _ _ _ _=_;rw[bw,h1'];grind
theorem W.loop {Q:Ex->aq->Prop}(h:W M c s (LQ M c Q)):W M (.loop c) s Q:=by
 obtain⟨⟨n,e,s1,h1,⟨h2⟩⟩⟩:=h;have h1':bw M.ext M.inv M.FT n c s=some (e,s1):=h1;cases e with
 | normal=>
  obtain⟨⟨m,e,s2,h3,h4⟩⟩:=h2;refine⟨⟨max n m+1,e,s2,?_,h4⟩⟩;show bw _ _ _ _ _ _=_;rw[bw,show bw M.ext M.inv M.FT (max n m) _ s=_ from xj ac h1];exact xj ac h3
 | exit i=>refine⟨⟨n+1,.exit i,s1,?_,h2⟩⟩;show bw _ _ _ _ _ _=_;rw[bw,h1']
 | ret=>refine⟨⟨n+1,.ret,s1,?_,h2⟩⟩;show bw _ _ _ _ _ _=_;rw[bw,h1']
theorem W.cond {t:Bool}{a b:ak}{Q:Ex->aq->Prop}(h:s.s.ae x=some (.bool t))(h1:t=true->W M a s Q)(h2:t=false->W M b s Q):W M (.cond x a b) s Q:=by
 cases t with
 | true=>
  obtain⟨⟨n,e,s',h3,h4⟩⟩:=h1 rfl;refine⟨⟨n+1,e,s',?_,h4⟩⟩;show bw _ _ _ _ _ _=_;rw[bw,h];exact h3
 | false=>
  obtain⟨⟨n,e,s',h3,h4⟩⟩:=h2 rfl;refine⟨⟨n+1,e,s',?_,h4⟩⟩;show bw _ _ _ _ _ _=_;rw[bw,h];exact h3
theorem afH {a b:ak}{Q:Ex->aq->Prop}(h:s.s.ae x=some (.bool true))(h1:W M a s Q):W M (.cond x a b) s Q:=W.cond h (fun _=>h1) (fun h=>by cases h)
theorem ahB {a b:ak}{Q:Ex->aq->Prop}(h:s.s.ae x=some (.bool false))(h1:W M b s Q):W M (.cond x a b) s Q:=W.cond h (fun h=>by cases h) (fun _=>h1)
theorem afl {Q:Ex->aq->Prop}(h:WO M l ⟨⟨pe,[],hp,df⟩,wr⟩ (Q .normal)):W M (.region l) ⟨⟨pe,lo,hp,df⟩,wr⟩ Q:=by
 obtain⟨⟨n,s',h1,h2⟩⟩:=h;refine⟨⟨n+1,.normal,s',?_,h2⟩⟩;show bw _ _ _ _ _ _=_;rw[bw,h1]
theorem ajJ {l:List (aX×List Nat)}{Q:Ex->aq->Prop}(h:WD M l ⟨⟨pe,[],hp,df⟩,wr⟩ [] (Q .normal)):W M (.draw l) ⟨⟨pe,lo,hp,df⟩,wr⟩ Q:=by
 obtain⟨⟨n,s',h1,h2⟩⟩:=h;refine⟨⟨n+1,.normal,s',?_,h2⟩⟩;show bw _ _ _ _ _ _=_;rw[bw,h1]
theorem afm (h:Q s):WO M [] s Q:=⟨⟨0,s,rfl,h⟩⟩
def bg.qY:bg->Bool
 | .call .. | .invoke .. => false
 | _=>true
structure WP (M:aw)(s:St)(op:bg)(Q:HR->Prop):Prop where
 out:∃n r,bI (M.call n) M.inv s op=some r/\Q r
theorem WO.op {d:eZ}{op:bg}{l:List aX}{s:aq}{Q:aq->Prop}(h:WP M s.s op fun r=>WO M l ⟨{ s.s.put d r.v with hp:=r.h },r.wr++s.wr⟩ Q):WO M (⟨d,op,none⟩::l) s Q:=by
 obtain⟨⟨n,r,h1,⟨⟨m,s',h2,h3⟩⟩⟩⟩:=h;refine⟨⟨max n m,s',?_,h3⟩⟩;simp only[ek,dP];rw[xf (kd ac) h1];exact nG (kd ac) _ _ _ h2
theorem WO.skip {op:bg}{t want:Bool}(hx:s.s.ae x=some (.bool t))(ht:(t == want)=false)(h:WO M l ⟨s.s.put d bD,s.wr⟩ Q):WO M (⟨d,op,some (x,want)⟩::l) s Q:=by
 obtain⟨⟨n,s',h1,h2⟩⟩:=h;refine⟨⟨n,s',?_,h2⟩⟩;simp only[ek,dP,hx,ht];exact h1
theorem WO.take {op:bg}{t want:Bool}(hx:s.s.ae x=some (.bool t))(ht:(t == want)=true)(h:WO M (⟨d,op,none⟩::l) s Q):WO M (⟨d,op,some (x,want)⟩::l) s Q:=by
 obtain⟨⟨n,s',h1,h2⟩⟩:=h;refine⟨⟨n,s',?_,h2⟩⟩;simp only[ek,dP,hx,ht]at h1 ⊢;exact h1
theorem WO.VX {op:bg}(hx:s.s.ae x=some (.au [])){want:Bool}(h:WO M l ⟨s.s.put d bD,s.wr⟩ Q):WO M (⟨d,op,some (x,want)⟩::l) s Q:=by
 obtain⟨⟨n,s',h1,h2⟩⟩:=h;refine⟨⟨n,s',?_,h2⟩⟩;simp only[ek,dP,hx];exact h1
theorem ahY {op:bg}(hx:s.s.ae x=some (.bool true))(h:WO M (⟨d,op,none⟩::l) s Q):WO M (⟨d,op,some (x,true)⟩::l) s Q:=WO.take hx rfl h
theorem ajK {op:bg}(hx:s.s.ae x=some (.bool false))(h:WO M (⟨d,op,none⟩::l) s Q):WO M (⟨d,op,some (x,false)⟩::l) s Q:=WO.take hx rfl h
theorem ait {op:bg}(hx:(St.mk pe lo hp df).ae x=some (.bool false))(h:WO M l ⟨⟨pe,(t,bD)::lo,hp,df⟩,wr⟩ Q):WO M (⟨.l t,op,some (x,true)⟩::l) ⟨⟨pe,lo,hp,df⟩,wr⟩ Q:=WO.skip hx rfl h
theorem alM {op:bg}(hx:(St.mk pe lo hp df).ae x=some (.bool true))(h:WO M l ⟨⟨pe,(t,bD)::lo,hp,df⟩,wr⟩ Q):WO M (⟨.l t,op,some (x,false)⟩::l) ⟨⟨pe,lo,hp,df⟩,wr⟩ Q:=WO.skip hx rfl h
theorem WP.pure {s:St}{op:bg}{Q:HR->Prop}(hh:op.bF=false)(hv:aY s op=some v)(h:Q ⟨v,s.hp,[]⟩):WP M s op Q:=by
 refine⟨⟨0,_,?_,h⟩⟩;cases op <;> first|(cases hh;done)|simp only[bI,bg.bF,hv,ce,if_false,fT]
theorem WP.heap {s:St}{op:bg}{Q:HR->Prop}(hh:op.bF=true)(hc:op.qY=true)(hv:bG s op s.hp=some r)(h:Q r):WP M s op Q:=by
 refine⟨⟨0,_,?_,h⟩⟩;cases op <;> first|(cases hh;done)|(cases hc;done)|(simp only[bI,bg.bF,if_true];exact hv)
theorem WP.call {s:St}{f:ay}{g:AV}{Q:HR->Prop}(hf:s.ae f=some g)(ha:s.cM args=some as)(h:WC M g as s.hp Q):WP M s (.call f args) Q:=by
 obtain⟨⟨n,r,h1,h2⟩⟩:=h;refine⟨⟨n,r,?_,h2⟩⟩;simp only[bI,hf,ha];exact h1
theorem WP.invoke {s:St}{name:String}{t:TypeId}{f:FuncId}{Q:HR->Prop}(hf:s.ae x=some (.iface t v))(ha:s.cM args=some as)(hi:M.inv t name=some f)(h:WC M (.fn (.func f) [] []) (v::as) s.hp Q):WP M s (.invoke x name args) Q:=by
 obtain⟨⟨n,r,h1,h2⟩⟩:=h;refine⟨⟨n,r,?_,h2⟩⟩;simp only[bI,hf,ha,hi];exact h1
theorem WC.ext {f:FuncId}{fi ca:List AV}{h:aa}{Q:HR->Prop}(he:M.ext f (fi++as++ca) h=some r)(hq:Q r):WC M (.fn (.func f) fi ca) as h Q:=
 ⟨⟨0,r,by simp only[iF,he],hq⟩⟩
theorem WO.VY {f:ay}{g:FuncId}{fi ca:List AV}(hf:s.s.ae f=some (.fn (.func g) fi ca))(ha:s.s.cM args=some as)(he:M.ext g (fi++as++ca) s.s.hp=some r)
 (h:WO M l ⟨{ s.s.put d r.v with hp:=r.h },r.wr++s.wr⟩ Q):WO M (⟨d,.call f args,none⟩::l) s Q:=WO.op (WP.call hf ha (WC.ext he h))
theorem abL {op:bg}(hv:aY ⟨pe,lo,hp,df⟩ op=some v)(hh:op.bF=false)(h:WO M l ⟨⟨pe,(t,v)::lo,hp,df⟩,wr⟩ Q) :
 WO M (⟨.l t,op,none⟩::l) ⟨⟨pe,lo,hp,df⟩,wr⟩ Q:=WO.op (WP.pure hh hv h)
theorem afx {i:Nat}{op:bg}(hv:aY ⟨pe,lo,hp,df⟩ op=some v)(hh:op.bF=false)(h:WO M l ⟨⟨pe.set i v,lo,hp,df⟩,wr⟩ Q) :
 WO M (⟨.p i,op,none⟩::l) ⟨⟨pe,lo,hp,df⟩,wr⟩ Q:=WO.op (WP.pure hh hv h)
theorem WO.hl {op:bg}(hv:bG ⟨pe,lo,hp,df⟩ op hp=some r)(hh:op.bF=true)(hc:op.qY=true)
 (h:WO M l ⟨⟨pe,(t,r.v)::lo,r.h,df⟩,r.wr++wr⟩ Q):WO M (⟨.l t,op,none⟩::l) ⟨⟨pe,lo,hp,df⟩,wr⟩ Q:=WO.op (WP.heap hh hc hv h)
theorem WO.hn {op:bg}(hv:bG ⟨pe,lo,hp,df⟩ op hp=some r)(hh:op.bF=true)(hc:op.qY=true)
 (h:WO M l ⟨⟨pe,lo,r.h,df⟩,r.wr++wr⟩ Q):WO M (⟨.no,op,none⟩::l) ⟨⟨pe,lo,hp,df⟩,wr⟩ Q:=WO.op (WP.heap hh hc hv h)
theorem abd (hx:(St.mk pe lo hp df).ae x=some (.int k a))(hy:(St.mk pe lo hp df).ae y=some (.int k b))
 (h1:a<b->WO M l ⟨⟨pe,(t,.bool true)::lo,hp,df⟩,wr⟩ Q) (h2:b<=a->WO M l ⟨⟨pe,(t,.bool false)::lo,hp,df⟩,wr⟩ Q):WO M (⟨.l t,.bin .lss x y,none⟩::l) ⟨⟨pe,lo,hp,df⟩,wr⟩ Q:=by
 refine WO.op (WP.pure (v:=.bool (decide (a<b))) rfl (by simp[aY,hx,hy,cU]) ?_);by_cases h:a<b
 . rw[decide_eq_true h];exact h1 h
 . rw[decide_eq_false h];exact h2 ac
theorem aiZ (hx:(St.mk pe lo hp df).ae x=some (.int k a))(hy:(St.mk pe lo hp df).ae y=some (.int k b))
 (h1:a<=b->WO M l ⟨⟨pe,(t,.bool true)::lo,hp,df⟩,wr⟩ Q) (h2:b<a->WO M l ⟨⟨pe,(t,.bool false)::lo,hp,df⟩,wr⟩ Q):WO M (⟨.l t,.bin .leq x y,none⟩::l) ⟨⟨pe,lo,hp,df⟩,wr⟩ Q:=by
 refine WO.op (WP.pure (v:=.bool (decide (a<=b))) rfl (by simp[aY,hx,hy,cU]) ?_);by_cases h:a<=b
 . rw[decide_eq_true h];exact h1 h
 . rw[decide_eq_false h];exact h2 ac
theorem aev (hx:(St.mk pe lo hp df).ae x=some (.int k a))(hy:(St.mk pe lo hp df).ae y=some (.int k b))
 (h1:b<a->WO M l ⟨⟨pe,(t,.bool true)::lo,hp,df⟩,wr⟩ Q) (h2:a<=b->WO M l ⟨⟨pe,(t,.bool false)::lo,hp,df⟩,wr⟩ Q):WO M (⟨.l t,.bin .gtr x y,none⟩::l) ⟨⟨pe,lo,hp,df⟩,wr⟩ Q:=by
 refine WO.op (WP.pure (v:=.bool (decide (a > b))) rfl (by simp[aY,hx,hy,cU]) ?_);by_cases h:b<a
 . rw[decide_eq_true h];exact h1 h
 . rw[decide_eq_false h];exact h2 ac
theorem agV (hx:(St.mk pe lo hp df).ae x=some (.int k a))(hy:(St.mk pe lo hp df).ae y=some (.int k b))
 (h1:b<=a->WO M l ⟨⟨pe,(t,.bool true)::lo,hp,df⟩,wr⟩ Q) (h2:a<b->WO M l ⟨⟨pe,(t,.bool false)::lo,hp,df⟩,wr⟩ Q):WO M (⟨.l t,.bin .geq x y,none⟩::l) ⟨⟨pe,lo,hp,df⟩,wr⟩ Q:=by
 refine WO.op (WP.pure (v:=.bool (decide (a>=b))) rfl (by simp[aY,hx,hy,cU]) ?_);by_cases h:b<=a
 . rw[decide_eq_true h];exact h1 h
 . rw[decide_eq_false h];exact h2 ac
theorem aeJ (hx:(St.mk pe lo hp df).ae x=some (.int k a))(hy:(St.mk pe lo hp df).ae y=some (.int k b))
 (h1:a=b->WO M l ⟨⟨pe,(t,.bool true)::lo,hp,df⟩,wr⟩ Q) (h2:a≠b->WO M l ⟨⟨pe,(t,.bool false)::lo,hp,df⟩,wr⟩ Q):WO M (⟨.l t,.bin .eql x y,none⟩::l) ⟨⟨pe,lo,hp,df⟩,wr⟩ Q:=by
 refine WO.op (WP.pure (v:=.bool (a == b)) rfl (by simp[aY,hx,hy,cU]) ?_);by_cases h:a=b
 . rw[beq_iff_eq.2 h];exact h1 h
 . rw[beq_eq_false_iff_ne.2 h];exact h2 h
theorem acr (hx:(St.mk pe lo hp df).ae x=some (.int k a))(hy:(St.mk pe lo hp df).ae y=some (.int k b))
 (h1:a≠b->WO M l ⟨⟨pe,(t,.bool true)::lo,hp,df⟩,wr⟩ Q) (h2:a=b->WO M l ⟨⟨pe,(t,.bool false)::lo,hp,df⟩,wr⟩ Q):WO M (⟨.l t,.bin .neq x y,none⟩::l) ⟨⟨pe,lo,hp,df⟩,wr⟩ Q:=by
 refine WO.op (WP.pure (v:=.bool (a != b)) rfl (by simp[aY,hx,hy,cU]) ?_);by_cases h:a=b
 . rw[bne_eq_false_iff_eq.2 h];exact h2 h
 . rw[bne_iff_ne.2 h];exact h1 h
theorem agL {a b:List UInt8}(hx:(St.mk pe lo hp df).ae x=some (.str a))(hy:(St.mk pe lo hp df).ae y=some (.str b))
 (h1:a=b->WO M l ⟨⟨pe,(t,.bool true)::lo,hp,df⟩,wr⟩ Q) (h2:a≠b->WO M l ⟨⟨pe,(t,.bool false)::lo,hp,df⟩,wr⟩ Q):WO M (⟨.l t,.bin .eql x y,none⟩::l) ⟨⟨pe,lo,hp,df⟩,wr⟩ Q:=by
 refine WO.op (WP.pure (v:=.bool (a == b)) rfl (by simp[aY,hx,hy,cU]) ?_);by_cases h:a=b
 . rw[beq_iff_eq.2 h];exact h1 h
 . rw[beq_eq_false_iff_ne.2 h];exact h2 h
theorem ajA {a b:List UInt8}(hx:(St.mk pe lo hp df).ae x=some (.str a))(hy:(St.mk pe lo hp df).ae y=some (.str b))
 (h1:a≠b->WO M l ⟨⟨pe,(t,.bool true)::lo,hp,df⟩,wr⟩ Q) (h2:a=b->WO M l ⟨⟨pe,(t,.bool false)::lo,hp,df⟩,wr⟩ Q):WO M (⟨.l t,.bin .neq x y,none⟩::l) ⟨⟨pe,lo,hp,df⟩,wr⟩ Q:=by
 refine WO.op (WP.pure (v:=.bool !(a == b)) rfl (by simp[aY,hx,hy,cU]) ?_);by_cases h:a=b
 . rw[beq_iff_eq.2 h];exact h2 h
 . rw[beq_eq_false_iff_ne.2 h];exact h1 h
theorem pq (h : -9223372036854775808<=n/\n<9223372036854775808):IntKind.i64.wrap n=n:=IntWalk.i64_in _ ac
theorem ajM (hx:(St.mk pe lo hp df).ae x=some (.int .i64 a))(hy:(St.mk pe lo hp df).ae y=some (.int .i64 b))
 (hr : -9223372036854775808<=a+b/\a+b<9223372036854775808) (h:WO M l ⟨⟨pe,(t,.int .i64 (a+b))::lo,hp,df⟩,wr⟩ Q):WO M (⟨.l t,.bin .add x y,none⟩::l) ⟨⟨pe,lo,hp,df⟩,wr⟩ Q:=
 WO.op (WP.pure (v:=.int .i64 (a+b)) rfl (by simp[aY,hx,hy,cU,pq hr]) h)
theorem aku (hx:(St.mk pe lo hp df).ae x=some (.int .i64 a))(hy:(St.mk pe lo hp df).ae y=some (.int .i64 b))
 (hr : -9223372036854775808<=a-b/\a-b<9223372036854775808) (h:WO M l ⟨⟨pe,(t,.int .i64 (a-b))::lo,hp,df⟩,wr⟩ Q):WO M (⟨.l t,.bin .sub x y,none⟩::l) ⟨⟨pe,lo,hp,df⟩,wr⟩ Q:=
 WO.op (WP.pure (v:=.int .i64 (a-b)) rfl (by simp[aY,hx,hy,cU,pq hr]) h)
theorem ams (hx:(St.mk pe lo hp df).ae x=some (.int .i64 a))(hy:(St.mk pe lo hp df).ae y=some (.int .i64 b))
 (hr : -9223372036854775808<=a*b/\a*b<9223372036854775808) (h:WO M l ⟨⟨pe,(t,.int .i64 (a*b))::lo,hp,df⟩,wr⟩ Q):WO M (⟨.l t,.bin .mul x y,none⟩::l) ⟨⟨pe,lo,hp,df⟩,wr⟩ Q:=
 WO.op (WP.pure (v:=.int .i64 (a*b)) rfl (by simp[aY,hx,hy,cU,pq hr]) h)
theorem alI (hx:(St.mk pe lo hp df).ae x=some (.int .i64 a))(hy:(St.mk pe lo hp df).ae y=some (.int .i64 b))
 (hb:0<b) (hr : -9223372036854775808<=a/\a<9223372036854775808) (h:WO M l ⟨⟨pe,(t,.int .i64 (a.tdiv b))::lo,hp,df⟩,wr⟩ Q):WO M (⟨.l t,.bin .quo x y,none⟩::l) ⟨⟨pe,lo,hp,df⟩,wr⟩ Q:=by
 have hb':b≠0:=by omega
 have h1:(a.tdiv b).natAbs<=a.natAbs:=by rw[Int.natAbs_tdiv];exact Nat.div_le_self _ _
 have h2 : -9223372036854775808<=a.tdiv b/\a.tdiv b<9223372036854775808:=by
  rcases Int.le_total 0 a with h0|h0
  . omega
  . have:a.tdiv b<=0:=by
     have:=Int.tdiv_nonneg (a:=-a) (b:=b) ac ac;rw[Int.neg_tdiv]at this;omega
    omega
 exact WO.op (WP.pure (v:=.int .i64 (a.tdiv b)) rfl (by simp[aY,hx,hy,cU,hb',pq h2]) h)
theorem alJ (hx:(St.mk pe lo hp df).ae x=some (.int k a))(hy:(St.mk pe lo hp df).ae y=some (.int k b))
 (hb:b≠0) (h:WO M l ⟨⟨pe,(t,.int k (a.tmod b))::lo,hp,df⟩,wr⟩ Q):WO M (⟨.l t,.bin .rem x y,none⟩::l) ⟨⟨pe,lo,hp,df⟩,wr⟩ Q:=
 WO.op (WP.pure (v:=.int k (a.tmod b)) rfl (by simp[aY,hx,hy,cU,hb]) h)
theorem ajQ {esz:Nat}{c:List AV}{len:Nat}{cap:Option Nat}(hx:(St.mk pe lo hp df).ae x=some (.vs c len cap))(hy:(St.mk pe lo hp df).ae i=some (.int k n))
 (hb:0<=n/\n<len) (h:WO M l ⟨⟨pe,(t,.vp (c.drop (n.toNat*esz)))::lo,hp,df⟩,wr⟩ Q):WO M (⟨.l t,.dw none esz x i,none⟩::l) ⟨⟨pe,lo,hp,df⟩,wr⟩ Q:=
 WO.op (WP.pure (v:=.vp (c.drop (n.toNat*esz))) rfl (by simp[aY,hx,hy,oF,hb]) h)
theorem alN {esz b o len:Nat}{cap:Option Nat}(hx:(St.mk pe lo hp df).ae x=some (.sl b o len esz cap))(hy:(St.mk pe lo hp df).ae i=some (.int k n))
 (hb:0<=n/\n<len) (h:WO M l ⟨⟨pe,(t,.ptr b (o+n.toNat*esz))::lo,hp,df⟩,wr⟩ Q):WO M (⟨.l t,.dw none esz x i,none⟩::l) ⟨⟨pe,lo,hp,df⟩,wr⟩ Q:=
 WO.op (WP.pure (v:=.ptr b (o+n.toNat*esz)) rfl (by simp[aY,hx,hy,oF,hb]) h)
theorem alO {s:List UInt8}(hx:(St.mk pe lo hp df).ae x=some (.str s))(hy:(St.mk pe lo hp df).ae i=some (.int k n))
 (hb:0<=n/\n<s.length) (h:WO M l ⟨⟨pe,(t,.int .u8 (s[n.toNat]!).toNat)::lo,hp,df⟩,wr⟩ Q):WO M (⟨.l t,.index x i,none⟩::l) ⟨⟨pe,lo,hp,df⟩,wr⟩ Q:=by
 have h1:n.toNat<s.length:=by omega
 refine WO.op (WP.pure (v:=.int .u8 (s[n.toNat]!).toNat) rfl ?_ h);simp[aY,hx,hy,vG,hb.1,h1]
theorem cV {b:ak}{s:aq}{Q}(h:W M b s Q):SQ M b Q .normal s:=⟨h⟩
theorem vJ {b:ak}{s:aq}{Q}{i:Nat}(h:Q (.exit i) s):SQ M b Q (.exit i) s:=⟨h⟩
theorem ku {b:ak}{s:aq}{Q}(h:Q .ret s):SQ M b Q .ret s:=⟨h⟩
theorem oI {b:Nat}{s:aq}{Q}(h:Q .normal s):BQ b Q .normal s:=⟨h⟩
theorem sA {b:Nat}{s:aq}{Q}(h:Q .ret s):BQ b Q .ret s:=⟨h⟩
theorem vK {b:Nat}{s:aq}{Q}(h:Q .normal s):BQ b Q (.exit b) s:=⟨bS⟩
theorem SL {b i:Nat}{s:aq}{Q}(hn:f9 i b=false)(h:Q (.exit i) s):BQ b Q (.exit i) s:=
 ⟨by simp only;rw[if_neg (fun e=>by simp_all)];exact h⟩
theorem iO {b:ak}{s:aq}{Q}(h:W M (.loop b) s Q):LQ M b Q .normal s:=⟨h⟩
theorem SM {b:ak}{s:aq}{Q}{i:Nat}(h:Q (.exit i) s):LQ M b Q (.exit i) s:=⟨h⟩
theorem SN {b:ak}{s:aq}{Q}(h:Q .ret s):LQ M b Q .ret s:=⟨h⟩
theorem bH {f N:Nat}{aR:List Nat}{res:List fA}{body:ak}{hh:aa}(hft:M.FT f=some ⟨N,aR,res,body⟩)(hN:as.length<=N)
 (h:W M body ⟨⟨aR.map (fun t=>(as[t]?).getD bD),[],[],[]⟩,[]⟩ fun e s=>(e = .normal\/e = .ret)/\s.s.bV=[]/\∃vs,dx s.s res=some vs/\aW vs=v/\(if v.top<=0 then [] else s.s.hp)=hh):aV M f as [] ⟨v,hh,[]⟩:=by
 obtain⟨⟨n,e,s,h1,h2,h3,vs,h4,h5,h6⟩⟩:=h;refine⟨n,?_⟩;have h1':bw M.ext M.inv M.FT n body ⟨⟨aR.map (fun t=>(as[t]?).getD bD),[],[],[]⟩,[]⟩=some (e,s):=h1;simp only[ix,hft];rw[if_neg ac];simp only[aw.ev,h1',if_pos h2,h3,mj,h4];subst h5;subst h6;have ht:tight s.s.hp 0 s.wr=true:=by
  simp only[tight,d9];intro b _;split <;> simp
 have hf:s.wr.filter (fun b=>decide (b<0))=[]:=by simp
 simp only[dy,it,ht,jU,hf,List.take_zero,decide_eq_true_eq]<;>grind
end Go.Ab
namespace Go.Ab
variable {FT:FuncId->Option dv} {h:aa} {S:List Nat}
variable {P:Program} {gl:Nat->Option AV}
abbrev Spec:=List AV->aa->Option HR
def bk:List (Nat×Spec)->FuncId->List AV->aa->Option HR
 | [],_,_,_=>none
 | (g,sp)::T,f,as,h=>if f9 g f then sp as h else bk T f as h
def aT (P:Program)(gl:Nat->Option AV)(f:Nat)(sp:Spec):Prop:=∀as h r,sp as h=some r->bX P gl ⟨f,as,h,r⟩
theorem bA:cD P gl (bk []):=fun _ _ _ _ h=>by cases h
theorem aO {f:Nat}{sp:Spec}{T:List (Nat×Spec)}(h:aT P gl f sp)(hT:cD P gl (bk T)):cD P gl (bk ((f,sp)::T)):=by
 intro g all hp r hq;simp only[bk]at hq;split at hq
 . rename_i e;have e':=i6 e;subst e';exact h _ _ _ hq
 . exact hT g all hp r hq
def nH (k:XK):Spec:=fun as h=>(k.run as).map fun v=>⟨v,h,[]⟩
theorem xk {f:Nat}{k:XK}(h:pj P f k):aT P gl f (nH k):=by
 intro as hp r hq;have:=De (P:=P) (gl:=gl) (L:=[(f,k)]) bS f as hp r;simp only[pk,Nat.beq_refl,if_true]at this;simp only[nH,b7]at hq;obtain⟨v,hv,rfl⟩:=hq;exact this bS
def Dh (as0:List AV)(v:AV):Spec:=fun as h=>if wV as as0 then some ⟨v,h,[]⟩ else none
theorem VZ (hgl:∀g v,gl g=some v->v.top=0){f:Nat}{as0:List AV}{v:AV}(hv:v.top=0)(htop:bc as0=0)(hloc:bX P gl ⟨f,as0,[],⟨v,[],[]⟩⟩):aT P gl f (Dh as0 v):=by
 intro as h r hq;simp only[Dh]at hq;split at hq
 . rename_i e;have e':=JP e;subst e';cases hq;have:=JZ (h:=h) (S:=[]) (ks:=[]) (bs:=[]) hgl (as:=as) ⟨rfl,fun i x y hx hy=>by rw[hx]at hy;cases hy;exact .same (by have:=fC (n:=0) ac i x hx;omega)⟩ be (.same hv) rfl be (.inl rfl) hloc<;>grind
 grind
structure kG (P:Program)(gl:Nat->Option AV)(FT:FuncId->Option dv):Prop where
 mix:P.follows .mixedOrders=true
 ft:nD P gl FT
 gl:∀g v,gl g=some v->v.top=0
abbrev aZ (P:Program)(FT:FuncId->Option dv)(T:List (Nat×Spec)):aw:=⟨bk T,ew P,FT⟩
theorem qU (hs:kG P gl FT){T:List (Nat×Spec)}(hT:cD P gl (bk T)){f:Nat}{as:List AV}{h:aa}{r:HR}(hr:aV (aZ P FT T) f as h r)(hw:fI h r):bX P gl ⟨f,as,h,r⟩:=by
 obtain⟨n,hn⟩:=hr;refine⟨hw,fun ρ w as' m hv=>?_⟩;obtain⟨h1,h2⟩:=wR (Dc hs.mix hT hs.ft n) hs.ft hn m hv;refine⟨_,_,h1,?_⟩;refine CallsIn.mono h2 fun e w' he=>?_<;>grind
theorem Wa (hs:kG P gl FT){T:List (Nat×Spec)}(hT:cD P gl (bk T)){f:Nat}{as as0:List AV}{h:aa}{S ks:List Nat}{v v1:AV}{hh:aa}{bs:List ba}(hr:aV (aZ P FT T) f as0 [] ⟨v,hh,[]⟩)
 (hv:iB h S as as0) (hnd:ks.Nodup) (hv1:Rn ks h.length v v1) (hlen:ks.length=bs.length)
 (hbs:∀(i b:Nat) o1,ks[i]? = some b->bs[i]? = some o1->∃o,hh.at b=some o/\tn ks h.length o o1/\(S=[]\/xi o=true)) (hn:S=[]\/de v=true):bX P gl ⟨f,as,h,⟨v1,h++bs.map some,[]⟩⟩:=
 JZ hs.gl hv hnd hv1 hlen hbs hn (qU hs hT hr ⟨n3 _,fun _ hb=>bS⟩)
theorem Di (hs:kG P gl FT){T:List (Nat×Spec)}(hT:cD P gl (bk T)){f:Nat}{as as0:List AV}{h hh:aa}{S:List Nat}{v:AV}(hr:aV (aZ P FT T) f as0 [] ⟨v,hh,[]⟩)
 (hv:iB h S as as0) (ht:v.top=0) (hn:S=[]\/de v=true):bX P gl ⟨f,as,h,⟨v,h,[]⟩⟩:=by
 have:=Wa hs hT (ks:=[]) (bs:=[]) hr hv be (.same ht) rfl be hn<;>grind
theorem iB.nil:iB h S [] []:=⟨rfl,be⟩
theorem iB.cons {x y:AV}{l m:List AV}(h1:Fr h S x y)(h2:iB h S l m):iB h S (x::l) (y::m):=by
 refine⟨by simp[h2.1],fun i a b ha hb=>?_⟩;cases i with
 | zero=>grind
 | succ i=>simp at ha hb;exact h2.2 i a b ha hb
theorem iB.same {l:List AV}(ht:bc l=0):iB h S l l:=
 ⟨rfl,fun i x y hx hy=>by rw[hx]at hy;cases hy;exact .same (by have:=fC (n:=0) ac i x hx;omega)⟩
theorem Fr.mono {S':List Nat}(hs:∀b∈S,b∈S'){x y:AV}(hf:Fr h S x y):Fr h S' x y:=by
 induction hf with
 | same ht=>exact .same ht
 | nil hc=>exact .nil hc
 | sl hb ha hc hl _ hcc ih=>exact .sl (hs _ hb) ha hc hl ih hcc
 | ptr hb ha hl _ ih=>exact .ptr (hs _ hb) ha hl ih
 | vs hl _ ih=>exact .vs hl ih
 | agg hl _ ih=>exact .agg hl ih
 | au hl _ ih=>exact .au hl ih
 | fn hf h1 h2 _ _ ih1 ih2=>exact .fn hf h1 h2 ih1 ih2
def arr {α:Type}(f:α->List AV)(l:List α):List AV:=l.flatMap f
def ints (l:List Int):List AV:=arr (fun x=>[.int .i64 x]) l
theorem Wb {a b:List AV}:fj (a++b)=(fj a && fj b):=by
 induction a with
 | nil=>rfl
 | cons x a ih=>simp only[j2,fj,ih,Bool.and_assoc]
theorem kH {α:Type}{f:α->List AV}(hf:∀a,fj (f a)=true):∀l:List α,fj (arr f l)=true
 | []=>rfl
 | a::l=>by
  have:=kH hf l;simp only[arr,mW,Wb,hf]at this ⊢;simpa using this
def Sl {α:Type}(f:α->List AV)(h:aa)(v:AV)(l:List α):Prop:=
 (v = .ab/\l=[])\/(∃cap,v = .vs (arr f l) l.length cap)\/(∃b off esz cap c e,v = .sl b off l.length esz cap/\h.at b=some (.cells c e)/\cut c off (l.length*esz)=some (arr f l))
theorem Wc {a b:List AV}:bc (a++b)=max (bc a) (bc b):=by
 induction a with
 | nil=>rfl
 | cons x a ih=>simp only[j2,bc,ih];omega
theorem jK {α:Type}{f:α->List AV}(hf:∀a,bc (f a)=0):∀l:List α,bc (arr f l)=0
 | []=>rfl
 | a::l=>by
  have:=jK hf l;simp only[arr,mW,Wc,hf]at this ⊢;omega
theorem Sl.fr {α:Type}{f:α->List AV}(hf:∀a,bc (f a)=0){h:aa}{v:AV}{l:List α}(hs:Sl f h v l):∃S cap,Fr h S v (.vs (arr f l) l.length cap):=by
 rcases hs with ⟨rfl,rfl⟩|⟨cap,rfl⟩|⟨b,off,esz,cap,c,e,rfl,h1,h2⟩
 . exact⟨[],none,.nil be⟩
 . exact⟨[],cap,.same (by simp only[AV.top];exact jK hf l)⟩
 . refine⟨[b],cap,.sl be h1 h2 rfl fun i x y hx hy=>?_⟩;rw[hx]at hy;cases hy;exact .same (by have:=fC (n:=0) (Nat.le_of_eq (jK hf l)) i x hx;omega)
end Go.Ab
namespace Go.Ab
variable {t i j n b esz0 bytes:Nat} {l:List aX} {pe a new:List AV} {lo:List (Nat×AV)} {hp h' h:aa} {df wr w':List Nat} {v:AV} {Q:aq->Prop} {op:bg} {ag:Bool} {x y:ay} {e elem:TypeId} {o:Option ba}
variable {M:aw}
theorem ahR {c a b:ay}(hc:(St.mk pe lo hp df).ae c=some (.bool true))(ha:(St.mk pe lo hp df).ae a=some v)
 (h:WO M l ⟨⟨pe,(t,v)::lo,hp,df⟩,wr⟩ Q):WO M (⟨.l t,.pick c a b,none⟩::l) ⟨⟨pe,lo,hp,df⟩,wr⟩ Q:=
 WO.op (WP.pure (v:=v) rfl (by simp only[aY,hc,ha];cases (St.mk pe lo hp df).ae b <;> simp) h)
theorem ahX {c a b:ay}(hc:(St.mk pe lo hp df).ae c=some (.bool false))(hb:(St.mk pe lo hp df).ae b=some v)
 (h:WO M l ⟨⟨pe,(t,v)::lo,hp,df⟩,wr⟩ Q):WO M (⟨.l t,.pick c a b,none⟩::l) ⟨⟨pe,lo,hp,df⟩,wr⟩ Q:=
 WO.op (WP.pure (v:=v) rfl (by simp only[aY,hc,hb];cases (St.mk pe lo hp df).ae a <;> simp) h)
theorem afC (hv:bG ⟨pe,lo,hp,df⟩ op hp=some ⟨v,h',w'⟩)(hh:op.bF=true)(hc:op.qY=true)
 (h:WO M l ⟨⟨pe,(t,v)::lo,h',df⟩,w'++wr⟩ Q):WO M (⟨.l t,op,none⟩::l) ⟨⟨pe,lo,hp,df⟩,wr⟩ Q:=WO.op (WP.heap hh hc hv h)
theorem aiq (hv:bG ⟨pe,lo,hp,df⟩ op hp=some ⟨v,h',w'⟩)(hh:op.bF=true)(hc:op.qY=true)
 (h:WO M l ⟨⟨pe.set i v,lo,h',df⟩,w'++wr⟩ Q):WO M (⟨.p i,op,none⟩::l) ⟨⟨pe,lo,hp,df⟩,wr⟩ Q:=WO.op (WP.heap hh hc hv h)
theorem alP (hv:bG ⟨pe,lo,hp,df⟩ op hp=some ⟨v,h',w'⟩)(hh:op.bF=true)(hc:op.qY=true)
 (h:WO M l ⟨⟨pe,lo,h',df⟩,w'++wr⟩ Q):WO M (⟨.no,op,none⟩::l) ⟨⟨pe,lo,hp,df⟩,wr⟩ Q:=WO.op (WP.heap hh hc hv h)
theorem gD {α:Type}{f:α->List AV}(a:α)(l:List α):arr f (a::l)=f a++arr f l:=rfl
theorem xl {α:Type}{f:α->List AV}(l m:List α):arr f (l++m)=arr f l++arr f m:=by simp[arr]
section
variable {α:Type} {f:α->List AV} {esz:Nat}
theorem ke (hf:∀a,(f a).length=esz):∀l:List α,(arr f l).length=l.length*esz
 | []=>by simp[arr]
 | a::l=>by rw[gD,jD,hf,ke hf l,ii,Nat.add_mul];omega
theorem Dj (hf:∀a,(f a).length=esz):∀(l:List α) (i:Nat),(arr f l).drop (i*esz)=arr f (l.drop i)
 | [],i=>by simp[arr]
 | a::l,0=>by simp
 | a::l,i+1=>by
  rw[gD,m9,show (i+1)*esz=esz+i*esz from by grind,hf,i3,Dj hf l i,List.drop_succ_cons,j6 bS];rfl
theorem Dk (hf:∀a,(f a).length=esz):∀(l:List α) (i:Nat),(arr f l).take (i*esz)=arr f (l.take i)
 | [],i=>by simp[arr]
 | a::l,0=>by simp[arr]
 | a::l,i+1=>by
  rw[gD,ne,show (i+1)*esz=esz+i*esz from by grind,hf,i3,Dk hf l i,List.take_succ_cons,i4 bS];rfl
theorem ji (hf:∀a,(f a).length=esz){l:List α}{i n:Nat}(h:i+n<=l.length):cut (arr f l) (i*esz) (n*esz)=some (arr f ((l.drop i).take n)):=by
 simp only[cut,Dj hf,Dk hf,ke hf]<;>grind
theorem Wd [ia:Inhabited α](hf:∀a,(f a).length=esz){l:List α}{i:Nat}(h:i<l.length):∃r,(arr f l).drop (i*esz)=f l[i]! ++ r:=by
 refine⟨arr f (l.drop (i+1)),?_⟩;grind[Dj,ip,gD]
theorem We {r:List AV}(h:j+n<=a.length)(hn:ag=true\/0<n):partOf (a++r) j n ag=partOf a j n ag:=by
 cases ag with
 | true => 
   simp only[partOf,if_true,cut]<;>grind
 | false=>
  simp only[partOf,ce,if_false]<;>grind
theorem Ka:partOf (a.drop j) 0 n ag=partOf a j n ag:=by
 cases ag <;> simp[partOf,cut]
theorem Kb [ia:Inhabited α](hf:∀a,(f a).length=esz){l:List α}{i j n:Nat}{ag:Bool}(h:i<l.length)(hj:j+n<=esz)(hn:0<n):partOf ((arr f l).drop (i*esz)) j n ag=partOf (f l[i]!) j n ag:=by
 obtain⟨r,hr⟩:=Wd hf h;grind[We]
theorem Wf {b r:List AV}(h:j+new.length<=b.length):overwrite (a++(b++r)) (a.length+j) new=a++(overwrite b j new++r):=by
 have h1:(a++(b++r)).take (a.length+j)=a++b.take j:=by
  rw[ne,i4 ac,i3,List.take_append_of_le_length ac]
 have h2:(a++(b++r)).drop (a.length+j+new.length)=b.drop (j+new.length)++r:=by
  rw[m9,j6 ac,gT,show a.length+j+new.length-a.length=j+new.length from by omega,List.drop_append_of_le_length h]
 simp only[overwrite,h1,h2,List.append_assoc]
theorem Wg [ia:Inhabited α](hf:∀a,(f a).length=esz){l:List α}{i j:Nat}{new:List AV}{a:α}(h:i<l.length)(hj:j+new.length<=esz)(ha:overwrite (f l[i]!) j new=f a):overwrite (arr f l) (i*esz+j) new=arr f (l.set i a):=by
 have e:arr f l=arr f (l.take i)++(f l[i]! ++ arr f (l.drop (i+1))):=by
  rw[←gD,←xl,getElem!_pos l i h,←ip h,List.take_append_drop]
 have hl:(arr f (l.take i)).length=i*esz:=by rw[ke hf,m6];congr 1;omega
 grind[Wf,gD,xl,List.set_eq_take_append_cons_drop]
theorem Dl (a:α):∀n:Nat,fl (f a) n=arr f (kJ n a)
 | 0=>rfl
 | n+1=>by rw[fl,Dl a n,List.replicate_succ,gD]
end
variable {α:Type} {ia:Inhabited α} {f:α->List AV} {esz:Nat}
theorem agT {c:List α}(hx:(St.mk pe lo hp df).ae x=some (.vp ((arr f c).drop (i*esz))))
 (hf:∀a,(f a).length=esz) (hi:i<c.length) (hn:0<n/\0+n<=esz) (hv:partOf (f c[i]!) 0 n ag=some v) (h:WO M l ⟨⟨pe,(t,v)::lo,hp,df⟩,wr⟩ Q):WO M (⟨.l t,.load n ag x,none⟩::l) ⟨⟨pe,lo,hp,df⟩,wr⟩ Q:=
 afC (v:=v) (h':=hp) (w':=[]) (by simp only[bG,hx,c9,fP,Kb hf hi hn.2 hn.1,hv]) rfl rfl h
theorem ahJ {c:List α}(hx:(St.mk pe lo hp df).ae x=some (.ptr b (0+i*esz)))(hb:hp.at b=some (.cells (arr f c) e))
 (hf:∀a,(f a).length=esz) (hi:i<c.length) (hn:0<n/\0+n<=esz) (hv:partOf (f c[i]!) 0 n ag=some v) (h:WO M l ⟨⟨pe,(t,v)::lo,hp,df⟩,wr⟩ Q):WO M (⟨.l t,.load n ag x,none⟩::l) ⟨⟨pe,lo,hp,df⟩,wr⟩ Q:=
 afC (v:=v) (h':=hp) (w':=[]) (by simp only[bG,hx,c9,fP,hb,i9,Kb hf hi hn.2 hn.1,hv]) rfl rfl h
theorem alH {a:AV}{c:List AV}(hx:(St.mk pe lo hp df).ae x=some a)(hb:fP hp a=some c)(hv:partOf c 0 n ag=some v)
 (h:WO M l ⟨⟨pe,(t,v)::lo,hp,df⟩,wr⟩ Q):WO M (⟨.l t,.load n ag x,none⟩::l) ⟨⟨pe,lo,hp,df⟩,wr⟩ Q:=
 afC (v:=v) (h':=hp) (w':=[]) (by simp only[bG,hx,c9,hb,hv]) rfl rfl h
theorem WO.Wh {c:List α}{a:α}(hx:(St.mk pe lo hp df).ae x=some (.ptr b (0+i*esz+j)))(hy:((St.mk pe lo hp df).ae y).bind AV.cells=some new)(hb:hp.at b=some (.cells (arr f c) e))
 (hf:∀a,(f a).length=esz) (hi:i<c.length) (hn:new.length=n/\j+n<=esz/\new.all cI=true) (ha:overwrite (f c[i]!) j new=f a) (h:WO M l ⟨⟨pe,lo,hp.put b (some (.cells (arr f (c.set i a)) e)),df⟩,b::wr⟩ Q):WO M (⟨.no,.store n x y,none⟩::l) ⟨⟨pe,lo,hp,df⟩,wr⟩ Q:=by
 obtain⟨h1,h2,h3⟩:=hn;have hle:i*esz+esz<=c.length*esz:=by rw[←Nat.succ_mul];exact Nat.mul_le_mul_right _ hi
 refine alP (v:=bD) (h':=hp.put b (some (.cells (arr f (c.set i a)) e))) (w':=[b]) ?_ rfl rfl h;simp only[bG,hx,hy,hb,i9];rw[if_pos ⟨h1,by grind[ke],h3⟩,Wg hf hi ac ha]
theorem ais {c:List α}{a:α}(hx:(St.mk pe lo hp df).ae x=some (.ptr b (0+i*esz)))(hy:((St.mk pe lo hp df).ae y).bind AV.cells=some new)(hb:hp.at b=some (.cells (arr f c) e))
 (hf:∀a,(f a).length=esz) (hi:i<c.length) (hn:new.length=n/\0+n<=esz/\new.all cI=true) (ha:overwrite (f c[i]!) 0 new=f a) (h:WO M l ⟨⟨pe,lo,hp.put b (some (.cells (arr f (c.set i a)) e)),df⟩,b::wr⟩ Q):WO M (⟨.no,.store n x y,none⟩::l) ⟨⟨pe,lo,hp,df⟩,wr⟩ Q:=
 WO.Wh (j:=0) hx hy hb hf hi hn ha h
theorem amF {zero:List AV}{k k':IntKind}{a b:Int}(hx:(St.mk pe lo hp df).ae x=some (.int k a))(hy:(St.mk pe lo hp df).ae y=some (.int k' b))
 (hc:0<=a/\a<=b/\b.toNat*bytes<=cz/\b<=2^46/\zero.length=esz0) (h:WO M l ⟨⟨pe,(t,.sl hp.length 0 a.toNat esz0 (some b.toNat))::lo,hp++[some (.cells (fl zero b.toNat) elem)],df⟩,wr⟩ Q) :
 WO M (⟨.l t,.gZ elem esz0 bytes zero x y,none⟩::l) ⟨⟨pe,lo,hp,df⟩,wr⟩ Q:=
 afC (v:=.sl hp.length 0 a.toNat esz0 (some b.toNat)) (h':=hp++[some (.cells (fl zero b.toNat) elem)]) (w':=[]) (by simp only[bG,hx,hy,c9,sw];grind) rfl rfl h
theorem cJ {o:ba}(hb:h.at b=some o):b<h.length:=by
 unfold aa.at at hb;grind
theorem cC {x:Option ba}:aa.at (h++[x]) h.length=x:=by simp[aa.at]
theorem cE {l:aa}{o:ba}(hb:h.at b=some o):aa.at (h++l) b=some o:=by
 have:=cJ hb;simp only[aa.at]at hb ⊢<;>grind
theorem eu (hb:b<h.length):aa.at (h.put b o) b=o:=by
 simp[aa.at,aa.put,hb]
theorem pr {a:Nat}{x:ba}(hn:a≠b)(ha:h.at a=some x):aa.at (h.put b o) a=some x:=by
 have:¬b=a:=ac;simp only[aa.at,aa.put,dO,if_neg this]at ha ⊢;exact ha
theorem dQ:(h.put b o).length=h.length:=by simp[aa.put]
theorem anm {b:AV}(hx:(St.mk pe lo hp df).ae x=some .ab)(hy:(St.mk pe lo hp df).ae y=some b)(hs:dV hp b=some (new,n))
 (hc:new.length=n*esz0/\0<bytes/\new.all cI=true) (hn:0<n/\n*bytes<=cz) (h:WO M l ⟨⟨pe,(t,.sl hp.length 0 n esz0 none)::lo,hp++[some (.cells new elem)],df⟩,wr⟩ Q):WO M (⟨.l t,.append elem esz0 bytes x y,none⟩::l) ⟨⟨pe,lo,hp,df⟩,wr⟩ Q:=by
 refine afC (v:=.sl hp.length 0 n esz0 none) (h':=hp++[some (.cells new elem)]) (w':=[]) ?_ rfl rfl h;simp only[bG,hx,hy,gw,hs,if_pos hc]<;>grind
theorem ann {c off len:Nat}{b:AV}{ck:List AV}(hx:(St.mk pe lo hp df).ae x=some (.sl c off len esz0 none))(hy:(St.mk pe lo hp df).ae y=some b)(hs:dV hp b=some (new,n))
 (hc:new.length=n*esz0/\0<bytes/\new.all cI=true) (hn:0<n/\(len+n)*bytes<=cz) (hb:hp.at c=some (.cells ck elem)) (ho:ck.length=off+len*esz0)
 (h:WO M l ⟨⟨pe,(t,.sl hp.length 0 (len+n) esz0 none)::lo,hp.put c none++[some (.cells (ck.drop off++new) elem)],df⟩,c::wr⟩ Q):WO M (⟨.l t,.append elem esz0 bytes x y,none⟩::l) ⟨⟨pe,lo,hp,df⟩,wr⟩ Q:=by
 refine afC (v:=.sl hp.length 0 (len+n) esz0 none) (h':=hp.put c none++[some (.cells (ck.drop off++new) elem)]) (w':=[c]) ?_ rfl rfl h;simp only[bG,hx,hy,gw,hs,if_pos hc,hb]<;>grind
def bg.ro:bg->Bool
 | .load .. => true
 | op=>!op.bF
def bY.clean (d:bY):Prop:=d.wr=[]/\d.hi=d.lo
theorem tp {T:List Nat}:aa.at (cd T h 0) b=if T.contains b then h.at b else none:=by
 unfold aa.at;grind[nC]
theorem tr {T:List Nat}:fe [] h (cd T h 0) 0=h:=by
 apply f7;intro b;rw[jr _ _ _ _ _ (by rw[fh];simp)];grind[i5,fh]
def dK:Option AV->List Nat
 | some (.ptr b _)=>[b]
 | some (.sl b _ _ _ _)=>[b]
 | some (.map b)=>[b]
 | _=>[]
theorem Kc {s:St}:je s (.load n ag x)=some (dK (s.ae x)):=by
 rfl
theorem Kd {a:AV}:fP (cd (dK (some a)) h 0) a=fP h a:=by
 cases a <;> first|rfl|skip
 simp[fP,dK,tp]
theorem xn {call:dX}{inv:fQ}{s:St}{a:AV}(ha:s.ae x=some a)(hp':aa):bI call inv { s with hp:=hp' } (.load n ag x)=(fP hp' a).bind fun l=>(partOf l 0 n ag).map fun v=>⟨v,hp',[]⟩:=by
 have hx':St.ae { s with hp:=hp' } x=some a:=by rw[←ha];cases x <;> rfl
 simp only[bI,bg.bF,if_true,bG,hx',c9]<;>grind
theorem xp {call:dX}{inv:fQ}:∀(l:List (aX×List Nat)) (s:aq) (ds:List bY),l.all (fun p=>p.1.op.ro)=true->(∀d∈ds,d.clean)->dI call inv l s ds=ek call inv (l.map (·.1)) s
 | [],s,ds,_,_=>rfl
 | (o,un)::l,s,ds,hl,hd=>by
  simp only[n9,b8]at hl;obtain⟨ho,hl⟩:=hl;have hcl:∀t,(∀d∈ds++[(⟨t,[],s.s.hp.length,s.s.hp.length⟩:bY)],d.clean):=fun t d hm=>by
   rcases fG.1 hm with h1|h1
   . grind
   . simp only[jq]at h1;subst h1;exact⟨rfl,rfl⟩
  simp only[dI,d8,ek];split
  . by_cases hh:o.op.bF=true
    . have hop:∃n ag x,o.op = .load n ag x:=by
       cases hq:o.op <;> rw[hq]at ho hh <;> first|(cases hh;done)|(cases ho;done)|simp
      obtain⟨n,ag,x,hop⟩:=hop;have hU:un.flatMap (fun j=>(ds[j]?).elim [] bY.own)=[]:=by
       rw[List.flatMap_eq_nil_iff];intro j _;cases hj:ds[j]? with
       | none=>rfl
       | some d=>
        obtain⟨c1,c2⟩:=hd d bS;simp[bY.own,c1,c2]
      simp only[hop,bg.bF,if_true,Kc,hU];have hdis:∀T,fR T []=true:=fun T=>by simp[fR]
      simp only[hdis,if_true];cases ha:s.s.ae x with
      | none=>
       have e1:∀hp',bI call inv { s.s with hp:=hp' } (.load n ag x)=none:=fun hp'=>by
        have hx':St.ae { s.s with hp:=hp' } x=none:=by rw[←ha];cases x <;> rfl
        simp only[bI,bg.bF,if_true,bG,hx',Option.bind_none]
       simp_all
      | some a=>
       have e2:=xn (call:=call) (inv:=inv) (n:=n) (ag:=ag) ha s.s.hp;rw[xn ha,Kd,show bI call inv s.s (.load n ag x)=_ from e2];cases fP s.s.hp a with
       | none=>rfl
       | some c=>
        simp only[c9];cases partOf c 0 n ag with
        | none=>rfl
        | some v=>
         simp only[fT,m5,nJ,oO,jU,if_true,tr,gT];have:=xp (call:=call) (inv:=inv) l ⟨{ s.s.put o.dst v with hp:=s.s.hp },s.wr⟩ (ds++[⟨some (dK (some a)),[],s.s.hp.length,s.s.hp.length⟩]) hl (hcl _);rw[←this];simp[fh]
    . have hh':o.op.bF=false:=by simpa using hh
      rw[if_neg hh];have e2:bI call inv s.s o.op=(aY s.s o.op).map fun v=>⟨v,s.s.hp,[]⟩:=by
       cases hq:o.op <;> rw[hq]at hh' <;> first|(cases hh';done)|simp only[bI,bg.bF,ce,if_false]
      rw[e2];cases aY s.s o.op with
      | none=>rfl
      | some v=>
       simp only[fT,gT];have hput:({ s.s.put o.dst v with hp:=s.s.hp }:St)=s.s.put o.dst v:=by cases o.dst <;> rfl
       rw[hput];exact xp l _ _ hl (hcl _)
  . exact xp l _ _ hl (hcl _)
  . rfl
theorem amR {l:List (aX×List Nat)}{Q:Ex->aq->Prop}(hl:l.all (fun p=>p.1.op.ro)=true)(h:WO M (l.map (·.1)) ⟨⟨pe,[],hp,df⟩,wr⟩ (Q .normal)):W M (.draw l) ⟨⟨pe,lo,hp,df⟩,wr⟩ Q:=by
 obtain⟨⟨n,s',h1,h2⟩⟩:=h;exact ajJ ⟨⟨n,s',by grind[xp],h2⟩⟩
end Go.Ab
namespace Go.Ab
variable {t n:Nat} {x y:ay} {l:List (aX×List Nat)} {pe:List AV} {lo:List (Nat×AV)} {hp:aa} {df wr un T:List Nat} {a b:Int} {Q:aq->Prop} {s:aq} {ds:List bY} {d:eZ}
variable {M:aw}
theorem amV {l:List aX}(hx:(St.mk pe lo hp df).ae x=some (.int .i64 a))(hy:(St.mk pe lo hp df).ae y=some (.int .i64 b))
 (ha:0<=a/\0<b) (hr:a<9223372036854775808) (h:0<=a/b->a/b<=a->WO M l ⟨⟨pe,(t,.int .i64 (a/b))::lo,hp,df⟩,wr⟩ Q):WO M (⟨.l t,.bin .quo x y,none⟩::l) ⟨⟨pe,lo,hp,df⟩,wr⟩ Q:=by
 refine alI hx hy ha.2 ⟨ac,hr⟩ ?_;rw[Int.tdiv_eq_ediv_of_nonneg ha.1];exact h (Int.ediv_nonneg ha.1 ac) (Int.ediv_le_self _ ha.1)
theorem amU {l:List aX}{k:IntKind}(hx:(St.mk pe lo hp df).ae x=some (.int k a))(hy:(St.mk pe lo hp df).ae y=some (.int k b))
 (ha:0<=a/\0<b) (h:0<=a%b->a%b<b->WO M l ⟨⟨pe,(t,.int k (a%b))::lo,hp,df⟩,wr⟩ Q):WO M (⟨.l t,.bin .rem x y,none⟩::l) ⟨⟨pe,lo,hp,df⟩,wr⟩ Q:=by
 refine alJ hx hy ac ?_;rw[Int.tmod_eq_emod_of_nonneg ha.1];exact h (Int.emod_nonneg _ ac) (Int.emod_lt_of_pos _ ha.2)
theorem acq {f:ay}{args:List ay}{l:List aX}{h':aa}{wr':List Nat}{g:FuncId}{fi ca as:List AV}{v:AV}(hf:(St.mk pe lo hp df).ae f=some (.fn (.func g) fi ca))(ha:(St.mk pe lo hp df).cM args=some as)
 (he:M.ext g (fi++as++ca) hp=some ⟨v,h',wr'⟩) (h:WO M l ⟨⟨pe,(t,v)::lo,h',df⟩,wr'++wr⟩ Q):WO M (⟨.l t,.call f args,none⟩::l) ⟨⟨pe,lo,hp,df⟩,wr⟩ Q:=WO.VY hf ha he h
theorem amS {bytes:Nat}{elem:TypeId}{l:List aX}{k k':IntKind}{z:Int}{kz:IntKind}(hx:(St.mk pe lo hp df).ae x=some (.int k a))(hy:(St.mk pe lo hp df).ae y=some (.int k' b))
 (hc:0<=a/\a<=b/\b.toNat*bytes<=70368744177664/\b<=70368744177664) (h:WO M l ⟨⟨pe,(t,.sl hp.length 0 a.toNat 1 (some b.toNat))::lo,hp++[some (.cells (arr (fun x=>[.int kz x]) (kJ b.toNat z)) elem)],df⟩,wr⟩ Q) :
 WO M (⟨.l t,.gZ elem 1 bytes [.int kz z] x y,none⟩::l) ⟨⟨pe,lo,hp,df⟩,wr⟩ Q:=by
 refine amF hx hy ⟨hc.1,hc.2.1,by simp only[cz];omega,ac,rfl⟩ ?_;have e:=Dl (f:=fun x=>[AV.int kz x]) z b.toNat;grind
theorem ajN (h:Q s):WD M [] s ds Q:=⟨⟨0,s,rfl,h⟩⟩
def bY.key (d:bY):Option (List Nat)×List Nat:=(d.jB,d.own)
theorem Ke {call:dX}{inv:fQ}:∀(l:List (aX×List Nat)) (s:aq) (ds ds':List bY),ds.map bY.key=ds'.map bY.key->dI call inv l s ds=dI call inv l s ds'
 | [],_,_,_,_=>rfl
 | (o,un)::l,s,ds,ds',hk=>by
  have h1:∀j:Nat,(ds[j]?).elim [] bY.own=(ds'[j]?).elim [] bY.own:=fun j=>by
   have:=congrArg (fun x:List (Option (List Nat)×List Nat)=>x[j]?) hk;simp only[g9]at this;cases h3:ds[j]? <;> cases h4:ds'[j]? <;> rw[h3,h4]at this <;> simp[bY.key]at this ⊢<;>grind
  have h2:∀j:Nat,(ds[j]?).map bY.jB=(ds'[j]?).map bY.jB:=fun j=>by
   have:=congrArg (fun x:List (Option (List Nat)×List Nat)=>x[j]?) hk;simp only[g9]at this;cases h3:ds[j]? <;> cases h4:ds'[j]? <;> rw[h3,h4]at this <;> simp[bY.key]at this ⊢<;>grind
  have h7:(fun j:Nat=>(ds[j]?).elim [] bY.own)=(fun j:Nat=>(ds'[j]?).elim [] bY.own):=funext h1;have h8:∀d s,dI call inv l s (ds++[d])=dI call inv l s (ds'++[d]):=fun d s=>Ke l s _ _ (by simp[hk])
  unfold dI;simp only[h7,h8]<;>grind
theorem WD.norm {d d':bY}(hk:d.key=d'.key)(h:WD M l s (ds++[d]) Q):WD M l s (ds++[d']) Q:=by
 obtain⟨⟨n,s',h1,h2⟩⟩:=h;exact⟨⟨n,s',by grind[Ke],h2⟩⟩
theorem WD.Wk {o:aX}(hh:o.op.bF=false)(h:WO M [o] s fun s'=>WD M l s' (ds++[⟨some [],[],s.s.hp.length,s.s.hp.length⟩]) Q):WD M ((o,un)::l) s ds Q:=by
 obtain⟨⟨n,s1,h1,⟨⟨m,s',h2,h3⟩⟩⟩⟩:=h;refine⟨⟨max n m,s',?_,h3⟩⟩;have h1':=nG (inv:=M.inv) (kd (j9 n m)) _ _ _ h1;have h2':=lH (inv:=M.inv) (kd (j4 n m)) _ _ _ _ h2;simp only[ek]at h1';have e2:bI (M.call (max n m)) M.inv s.s o.op=(aY s.s o.op).map fun v=>⟨v,s.s.hp,[]⟩:=by
  cases hq:o.op <;> rw[hq]at hh <;> first|(cases hh;done)|simp only[bI,bg.bF,ce,if_false]
 rw[e2]at h1';cases hw:dP s.s o.guard with
 | none=>grind
 | some t=>
  rw[hw]at h1';cases t with
  | true=>
   simp only[dI,hw,hh,ce,if_false];cases hp:aY s.s o.op with
   | none=>grind
   | some v=>
    rw[hp]at h1';simp only[fT,gT,ci.injEq]at h1';have hput:({ s.s.put o.dst v with hp:=s.s.hp }:St)=s.s.put o.dst v:=by cases o.dst <;> rfl
    grind
  | false=>
   simp only[ci.injEq]at h1';simp only[dI,hw]<;>grind
theorem Dm {h:aa}{b:Nat}{o:Option ba}:fe [b] h (aa.put (cd T h 0) b o) 0=aa.put h b o:=by
 apply f7;intro c;rw[jr _ _ _ _ _ (by simp[aa.put,fh])];simp only[aa.put,dO,fh,nC]<;>grind
theorem WD.Wl {ag:Bool}{a:AV}(ha:s.s.ae x=some a)(hT:dK (some a)=T)(hd:fR T (un.flatMap fun j=>(ds[j]?).elim [] bY.own)=true)
 (h:WO M [⟨d,.load n ag x,none⟩] s fun s'=>WD M l s' (ds++[⟨some T,[],s.s.hp.length,s.s.hp.length⟩]) Q):WD M ((⟨d,.load n ag x,none⟩,un)::l) s ds Q:=by
 obtain⟨⟨k,s1,h1,⟨⟨m,s',h2,h3⟩⟩⟩⟩:=h;refine⟨⟨max k m,s',?_,h3⟩⟩;have h1':=nG (inv:=M.inv) (kd (j9 k m)) _ _ _ h1;have h2':=lH (inv:=M.inv) (kd (j4 k m)) _ _ _ _ h2;simp only[ek,dP]at h1';subst hT;simp only[dI,dP,bg.bF,if_true,Kc,ha,hd];rw[xn ha,Kd];rw[show bI (M.call (max k m)) M.inv s.s (.load n ag x)=_ from xn ha s.s.hp]at h1';cases hr:fP s.s.hp a with
 | none=>grind
 | some c=>
  rw[hr]at h1';simp only[c9]at h1' ⊢;cases hp:partOf c 0 n ag with
  | none=>grind
  | some v=>
   rw[hp]at h1';simp only[fT,gT,ci.injEq]at h1';simp only[fT,m5,nJ,oO,jU,if_true,tr,gT,fh]<;>grind
theorem WD.Wm {b off:Nat}(ha:s.s.ae x=some (.ptr b off))(hd:fR [b] (un.flatMap fun j=>(ds[j]?).elim [] bY.own)=true)
 (hu:un.all (fun j=>match ds[j]? with|some d=>(match d.jB with|some T=>fR [b] T|none=>false)|none=>false)=true)
 (h:WO M [⟨.no,.store n x y,none⟩] s fun s'=>WD M l s' (ds++[⟨some [b],[b],s.s.hp.length,s.s.hp.length⟩]) Q):WD M ((⟨.no,.store n x y,none⟩,un)::l) s ds Q:=by
 obtain⟨⟨k,s1,h1,⟨⟨m,s',h2,h3⟩⟩⟩⟩:=h;refine⟨⟨max k m,s',?_,h3⟩⟩;have h1':=nG (inv:=M.inv) (kd (j9 k m)) _ _ _ h1;have h2':=lH (inv:=M.inv) (kd (j4 k m)) _ _ _ _ h2;simp only[ek,dP,bI,bg.bF,if_true,bG,ha]at h1';have hx':∀hp',St.ae { s.s with hp:=hp' } x=some (.ptr b off):=fun hp'=>by rw[←ha];rfl
 have hy':∀hp',St.ae { s.s with hp:=hp' } y=s.s.ae y:=fun hp'=>by rfl
 have hk:aa.at (cd [b] s.s.hp 0) b=s.s.hp.at b:=by simp[tp]
 simp only[dI,dP,bg.bF,if_true,je,ha,hd,bI,bG,hx',hy'];cases hy:s.s.ae y with
 | none=>grind
 | some yv=>
  rw[hy]at h1';simp only[c9]at h1' ⊢;cases hc:yv.cells with
  | none=>grind
  | some new=>
   rw[hc]at h1';simp only at h1' ⊢;cases hb:s.s.hp.at b with
   | none=>grind
   | some o=>
    rw[hb]at h1';cases o with
    | cells c e=>
     simp only at h1' ⊢;by_cases hcond:new.length=n/\off+n<=c.length/\new.all cI=true
     . simp only[if_pos hcond,ci.injEq]at h1';simp only[if_pos hcond,n9,m5,jU,List.isEmpty_cons,Bool.false_or,hk,hb,Option.isSome_some,Dm,dQ,fh]<;>grind
     grind
    | map _=>cases h1'
    | iter _ _=>cases h1'
    | hJ=>cases h1'
    | hole=>cases h1'
    | loop _ _ _ _ _ _=>cases h1'
theorem WD.Wn {f:ay}{args:List ay}{g:FuncId}{fi ca as:List AV}{v:AV}{hn:aa}(hf:s.s.ae f=some (.fn (.func g) fi ca))(ha:s.s.cM args=some as)
 (hU:(un.flatMap fun j=>(ds[j]?).elim [] bY.own)=[]) (he:M.ext g (fi++as++ca) s.s.hp=some ⟨v,s.s.hp++hn,[]⟩)
 (h:WD M l ⟨{ s.s.put d v with hp:=s.s.hp++hn },s.wr⟩ (ds++[⟨none,[],s.s.hp.length,s.s.hp.length+hn.length⟩]) Q):WD M ((⟨d,.call f args,none⟩,un)::l) s ds Q:=by
 obtain⟨⟨m,s',h2,h3⟩⟩:=h;refine⟨⟨m,s',?_,h3⟩⟩;have hm:mask s.s.hp []=s.s.hp:=rfl;have hcall:bI (M.call m) M.inv { s.s with hp:=s.s.hp } (.call f args)=some ⟨v,s.s.hp++hn,[]⟩:=by
  simp only[bI,hf,ha,iF,he]
 have hmerge:fe [] s.s.hp (s.s.hp++hn) 0=s.s.hp++hn:=by
  apply f7;intro c;rw[jr _ _ _ _ _ be];split
  . grind
  . rfl
 simp only[dI,dP,bg.bF,if_true,je,hU,hm]<;>grind
theorem xq {t:Option (List Nat)}{w:List Nat}:bY.key ⟨t,w,n,n⟩=bY.key ⟨t,w,0,0⟩:=by simp[bY.key,bY.own]
theorem ajP {o:aX}(hh:o.op.bF=false)(h:WO M [o] s fun s'=>WD M l s' (ds++[⟨some [],[],0,0⟩]) Q):WD M ((o,un)::l) s ds Q:=
 WD.Wk hh (h.mono fun _ h=>h.norm xq.symm)
theorem akp {ag:Bool}{a:AV}(ha:s.s.ae x=some a)(hT:dK (some a)=T)(hd:fR T (un.flatMap fun j=>(ds[j]?).elim [] bY.own)=true)
 (h:WO M [⟨d,.load n ag x,none⟩] s fun s'=>WD M l s' (ds++[⟨some T,[],0,0⟩]) Q):WD M ((⟨d,.load n ag x,none⟩,un)::l) s ds Q:=
 WD.Wl ha hT hd (h.mono fun _ h=>h.norm xq.symm)
theorem alX {b off:Nat}(ha:s.s.ae x=some (.ptr b off))(hd:fR [b] (un.flatMap fun j=>(ds[j]?).elim [] bY.own)=true)
 (hu:un.all (fun j=>match ds[j]? with|some d=>(match d.jB with|some T=>fR [b] T|none=>false)|none=>false)=true)
 (h:WO M [⟨.no,.store n x y,none⟩] s fun s'=>WD M l s' (ds++[⟨some [b],[b],0,0⟩]) Q):WD M ((⟨.no,.store n x y,none⟩,un)::l) s ds Q:=
 WD.Wm ha hd hu (h.mono fun _ h=>h.norm xq.symm)
end Go.Ab
