/-
  Own work: functions known by their contracts: a table, how it grows.
-/
import Derived.Test.YtcjphdmkgmkabaaGreatDoorLib1
import Derived.Test.YtcjphdmkgmkabaaGreatDoorLib0
import Derived.OpenShut
import Derived.Laws.RangeString
import Derived.Lib.DecodeN
import Derived.Deep.Slices
import Derived.Deep.Strs
import Derived.Below
set_option maxHeartbeats 8000000
set_option maxRecDepth 20000
namespace Go.Ab
variable {FT:FuncId->Option dg} {h:ab} {S:List Nat}
variable {P:Program} {gl:Nat->Option AV}
abbrev Spec:=List AV->ab->Option HR
def bk:List (Nat×Spec)->FuncId->List AV->ab->Option HR
 | [],_,_,_=>none
 | (g,sp)::T,f,as,h=>if Nat.beq g f then sp as h else bk T f as h
def aS (P:Program)(gl:Nat->Option AV)(f:Nat)(sp:Spec):Prop:=∀as h r,sp as h=some r->bT P gl ⟨f,as,h,r⟩
theorem bA:cz P gl (bk []):=fun _ _ _ _ h=>by cases h
theorem aL {f:Nat}{sp:Spec}{T:List (Nat×Spec)}(h:aS P gl f sp)(hT:cz P gl (bk T)):cz P gl (bk ((f,sp)::T)):=by
 intro g all hp r hq;simp only[bk]at hq;split at hq
 . rename_i e;have e':=Nat.eq_of_beq_eq_true e;subst e';exact h _ _ _ hq
 . exact hT g all hp r hq
def my (k:XK):Spec:=fun as h=>(k.run as).map fun v=>⟨v,h,[]⟩
theorem vn {f:Nat}{k:XK}(h:nG P f k):aS P gl f (my k):=by
 intro as hp r hq;have:=Bc (P:=P) (gl:=gl) (L:=[(f,k)]) (fun p hp=>by simp only[List.mem_singleton]at hp;subst hp;exact h) f as hp r;simp only[nH,Nat.beq_refl,if_true]at this;simp only[my,Option.map_eq_some_iff]at hq;obtain⟨v,hv,rfl⟩:=hq;exact this (by simp only[hv])
def Bg (as0:List AV)(v:AV):Spec:=fun as h=>if uU as as0 then some ⟨v,h,[]⟩ else none
theorem SN (hgl:∀g v,gl g=some v->v.top=0){f:Nat}{as0:List AV}{v:AV}(hv:v.top=0)(htop:br as0=0)(hloc:bT P gl ⟨f,as0,[],⟨v,[],[]⟩⟩):aS P gl f (Bg as0 v):=by
 intro as h r hq;simp only[Bg]at hq;split at hq
 . rename_i e;have e':=HF e;subst e';cases hq;have:=HP (h:=h) (S:=[]) (ks:=[]) (bs:=[]) hgl (as:=as) ⟨rfl,fun i x y hx hy=>by rw[hx]at hy;cases hy;exact .same (by have:=fm (n:=0) (by omega) i x hx;omega)⟩ (by simp) (.same hv) rfl (by simp) (.inl rfl) hloc;simpa using this
 . cases hq
structure jK (P:Program)(gl:Nat->Option AV)(FT:FuncId->Option dg):Prop where
 mix:P.follows .mixedOrders=true
 ft:mq P gl FT
 gl:∀g v,gl g=some v->v.top=0
abbrev aV (P:Program)(FT:FuncId->Option dg)(T:List (Nat×Spec)):ax:=⟨bk T,fe P,FT⟩
theorem pK (hs:jK P gl FT){T:List (Nat×Spec)}(hT:cz P gl (bk T)){f:Nat}{as:List AV}{h:ab}{r:HR}(hr:aT (aV P FT T) f as h r)(hw:fA h r):bT P gl ⟨f,as,h,r⟩:=by
 obtain⟨n,hn⟩:=hr;refine⟨hw,fun ρ w as' m hv=>?_⟩;obtain⟨h1,h2⟩:=uQ (Ba hs.mix hT hs.ft n) hs.ft hn m hv;refine⟨_,_,h1,?_⟩;refine CallsIn.mono h2 fun e w' he=>?_
 cases e with
 | returned v=>exact he
 | panicked _=>exact he
 | outgrown=>exact he
theorem SO (hs:jK P gl FT){T:List (Nat×Spec)}(hT:cz P gl (bk T)){f:Nat}{as as0:List AV}{h:ab}{S ks:List Nat}{v v1:AV}{hh:ab}{bs:List bC}(hr:aT (aV P FT T) f as0 [] ⟨v,hh,[]⟩)
 (hv:gP h S as as0) (hnd:ks.Nodup) (hv1:Rn ks h.length v v1) (hlen:ks.length=bs.length)
 (hbs:∀(i b:Nat) o1,ks[i]? = some b->bs[i]? = some o1->∃o,hh.at b=some o/\rR ks h.length o o1/\(S=[]\/vj o=true)) (hn:S=[]\/dm v=true):bT P gl ⟨f,as,h,⟨v1,h++bs.map some,[]⟩⟩:=
 HP hs.gl hv hnd hv1 hlen hbs hn (pK hs hT hr ⟨Nat.zero_le _,fun _ hb=>absurd hb (Nat.not_lt_zero _)⟩)
theorem HQ (hs:jK P gl FT){T:List (Nat×Spec)}(hT:cz P gl (bk T)){f:Nat}{as as0:List AV}{h hh:ab}{S:List Nat}{v:AV}(hr:aT (aV P FT T) f as0 [] ⟨v,hh,[]⟩)
 (hv:gP h S as as0) (ht:v.top=0) (hn:S=[]\/dm v=true):bT P gl ⟨f,as,h,⟨v,h,[]⟩⟩:=by
 have:=SO hs hT (ks:=[]) (bs:=[]) hr hv (by simp) (.same ht) rfl (by simp) hn;simpa using this
theorem gP.nil:gP h S [] []:=⟨rfl,by simp⟩
theorem gP.cons {x y:AV}{l m:List AV}(h1:Fr h S x y)(h2:gP h S l m):gP h S (x::l) (y::m):=by
 refine⟨by simp[h2.1],fun i a b ha hb=>?_⟩;cases i with
 | zero=>simp at ha hb;subst ha;subst hb;exact h1
 | succ i=>simp at ha hb;exact h2.2 i a b ha hb
theorem gP.same {l:List AV}(ht:br l=0):gP h S l l:=
 ⟨rfl,fun i x y hx hy=>by rw[hx]at hy;cases hy;exact .same (by have:=fm (n:=0) (by omega) i x hx;omega)⟩
theorem Fr.mono {S':List Nat}(hs:∀b∈S,b∈S'){x y:AV}(hf:Fr h S x y):Fr h S' x y:=by
 induction hf with
 | same ht=>exact .same ht
 | nil hc=>exact .nil hc
 | sl hb ha hc hl _ hcc ih=>exact .sl (hs _ hb) ha hc hl ih hcc
 | ptr hb ha hl _ ih=>exact .ptr (hs _ hb) ha hl ih
 | vs hl _ ih=>exact .vs hl ih
 | agg hl _ ih=>exact .agg hl ih
 | au hl _ ih=>exact .au hl ih
 | fn hf h1 h2 _ _ ih1 ih2=>exact .fn hf h1 h2 ih1 ih2
def arr {α:Type}(f:α->List AV)(l:List α):List AV:=l.flatMap f
def ints (l:List Int):List AV:=arr (fun x=>[.int .i64 x]) l
theorem SP {a b:List AV}:ff (a++b)=(ff a && ff b):=by
 induction a with
 | nil=>simp[ff]
 | cons x a ih=>simp only[List.cons_append,ff,ih,Bool.and_assoc]
theorem nL {α:Type}{f:α->List AV}(hf:∀a,ff (f a)=true):∀l:List α,ff (arr f l)=true
 | []=>rfl
 | a::l=>by
  have:=nL hf l;simp only[arr,List.flatMap_cons,SP,hf]at this ⊢;simpa using this
def Sl {α:Type}(f:α->List AV)(h:ab)(v:AV)(l:List α):Prop:=
 (v = .ae/\l=[])\/(∃cap,v = .vs (arr f l) l.length cap)\/(∃b off esz cap c e,v = .sl b off l.length esz cap/\h.at b=some (.cells c e)/\cut c off (l.length*esz)=some (arr f l))
theorem SR {a b:List AV}:br (a++b)=max (br a) (br b):=by
 induction a with
 | nil=>simp[br]
 | cons x a ih=>simp only[List.cons_append,br,ih];omega
theorem pP {α:Type}{f:α->List AV}(hf:∀a,br (f a)=0):∀l:List α,br (arr f l)=0
 | []=>rfl
 | a::l=>by
  have:=pP hf l;simp only[arr,List.flatMap_cons,SR,hf]at this ⊢;omega
theorem Sl.fr {α:Type}{f:α->List AV}(hf:∀a,br (f a)=0){h:ab}{v:AV}{l:List α}(hs:Sl f h v l):∃S cap,Fr h S v (.vs (arr f l) l.length cap):=by
 rcases hs with ⟨rfl,rfl⟩|⟨cap,rfl⟩|⟨b,off,esz,cap,c,e,rfl,h1,h2⟩
 . exact⟨[],none,.nil (by simp)⟩
 . exact⟨[],cap,.same (by simp only[AV.top];exact pP hf l)⟩
 . refine⟨[b],cap,.sl (List.mem_singleton.2 rfl) h1 h2 rfl fun i x y hx hy=>?_⟩;rw[hx]at hy;cases hy;exact .same (by have:=fm (n:=0) (Nat.le_of_eq (pP hf l)) i x hx;omega)
end Go.Ab

/-
  Own work: the calculus of runs: memory, drawn regions that only read, slots told true or false.
-/
namespace Go.Ab
variable {t i n b esz0 bytes:Nat} {l:List aU} {pe:List AV} {lo:List (Nat×AV)} {hp h' h:ab} {df wr w':List Nat} {v a:AV} {Q:aq->Prop} {op:bc} {ag:Bool} {x y:aO} {elem:TypeId} {o:Option bC}
variable {M:ax}
theorem acZ {c a b:aO}(hc:(St.mk pe lo hp df).aa c=some (.bool true))(ha:(St.mk pe lo hp df).aa a=some v)
 (h:WO M l ⟨⟨pe,(t,v)::lo,hp,df⟩,wr⟩ Q):WO M (⟨.l t,.pick c a b,none⟩::l) ⟨⟨pe,lo,hp,df⟩,wr⟩ Q:=
 WO.op (WP.pure (v:=v) rfl (by simp only[aY,hc,ha];cases (St.mk pe lo hp df).aa b <;> simp) h)
theorem aej {c a b:aO}(hc:(St.mk pe lo hp df).aa c=some (.bool false))(hb:(St.mk pe lo hp df).aa b=some v)
 (h:WO M l ⟨⟨pe,(t,v)::lo,hp,df⟩,wr⟩ Q):WO M (⟨.l t,.pick c a b,none⟩::l) ⟨⟨pe,lo,hp,df⟩,wr⟩ Q:=
 WO.op (WP.pure (v:=v) rfl (by simp only[aY,hc,hb];cases (St.mk pe lo hp df).aa a <;> simp) h)
theorem acT (hv:bK ⟨pe,lo,hp,df⟩ op hp=some ⟨v,h',w'⟩)(hh:op.bJ=true)(hc:op.pO=true)
 (h:WO M l ⟨⟨pe,(t,v)::lo,h',df⟩,w'++wr⟩ Q):WO M (⟨.l t,op,none⟩::l) ⟨⟨pe,lo,hp,df⟩,wr⟩ Q:=WO.op (WP.heap hh hc hv h)
theorem acY (hv:bK ⟨pe,lo,hp,df⟩ op hp=some ⟨v,h',w'⟩)(hh:op.bJ=true)(hc:op.pO=true)
 (h:WO M l ⟨⟨pe.set i v,lo,h',df⟩,w'++wr⟩ Q):WO M (⟨.p i,op,none⟩::l) ⟨⟨pe,lo,hp,df⟩,wr⟩ Q:=WO.op (WP.heap hh hc hv h)
theorem agF (hv:bK ⟨pe,lo,hp,df⟩ op hp=some ⟨v,h',w'⟩)(hh:op.bJ=true)(hc:op.pO=true)
 (h:WO M l ⟨⟨pe,lo,h',df⟩,w'++wr⟩ Q):WO M (⟨.no,op,none⟩::l) ⟨⟨pe,lo,hp,df⟩,wr⟩ Q:=WO.op (WP.heap hh hc hv h)
theorem ki {α:Type}{f:α->List AV}(a:α)(l:List α):arr f (a::l)=f a++arr f l:=rfl
theorem SS {α:Type}{f:α->List AV}(l m:List α):arr f (l++m)=arr f l++arr f m:=by simp[arr]
section
variable {α:Type} {f:α->List AV} {esz:Nat}
theorem pQ (hf:∀a,(f a).length=esz):∀l:List α,(arr f l).length=l.length*esz
 | []=>by simp[arr]
 | a::l=>by rw[ki,List.length_append,hf,pQ hf l,List.length_cons,Nat.add_mul];omega
theorem Bh (hf:∀a,(f a).length=esz):∀(l:List α) (i:Nat),(arr f l).drop (i*esz)=arr f (l.drop i)
 | [],i=>by simp[arr]
 | a::l,0=>by simp
 | a::l,i+1=>by
  rw[ki,List.drop_append,show (i+1)*esz=esz+i*esz from by rw[Nat.add_mul];omega,hf,Nat.add_sub_cancel_left,Bh hf l i,List.drop_succ_cons,List.drop_eq_nil_of_le (by rw[hf];omega)];rfl
theorem Bi (hf:∀a,(f a).length=esz):∀(l:List α) (i:Nat),(arr f l).take (i*esz)=arr f (l.take i)
 | [],i=>by simp[arr]
 | a::l,0=>by simp[arr]
 | a::l,i+1=>by
  rw[ki,List.take_append,show (i+1)*esz=esz+i*esz from by rw[Nat.add_mul];omega,hf,Nat.add_sub_cancel_left,Bi hf l i,List.take_succ_cons,List.take_of_length_le (by rw[hf];omega)];rfl
theorem kj (hf:∀a,(f a).length=esz){l:List α}{i n:Nat}(h:i+n<=l.length):cut (arr f l) (i*esz) (n*esz)=some (arr f ((l.drop i).take n)):=by
 simp only[cut,Bh hf,Bi hf,pQ hf];rw[if_pos (by rw[List.length_take,List.length_drop];congr 1;omega)]
theorem SU [ia:Inhabited α](hf:∀a,(f a).length=esz){l:List α}{i:Nat}(h:i<l.length):∃r,(arr f l).drop (i*esz)=f l[i]! ++ r:=by
 refine⟨arr f (l.drop (i+1)),?_⟩;rw[Bh hf,List.drop_eq_getElem_cons h,ki,getElem!_pos l i h]
theorem SV {a r:List AV}{j:Nat}(h:j+n<=a.length)(hn:ag=true\/0<n):partOf (a++r) j n ag=partOf a j n ag:=by
 cases ag with
 | true => 
   simp only[partOf,if_true,cut];rw[List.drop_append,List.take_append_of_le_length (by simp;omega)]
 | false=>
  simp only[partOf,Bool.false_eq_true,if_false];have:0<n:=by simpa using hn
  rw[List.getElem?_append_left (by omega)]
theorem HS {a:List AV}{j:Nat}:partOf (a.drop j) 0 n ag=partOf a j n ag:=by
 cases ag <;> simp[partOf,cut]
theorem HT [ia:Inhabited α](hf:∀a,(f a).length=esz){l:List α}{i j n:Nat}{ag:Bool}(h:i<l.length)(hj:j+n<=esz)(hn:0<n):partOf ((arr f l).drop (i*esz)) j n ag=partOf (f l[i]!) j n ag:=by
 obtain⟨r,hr⟩:=SU hf h;rw[hr,SV (by rw[hf];exact hj) (.inr hn)]
theorem HU (a:α):∀n:Nat,fZ (f a) n=arr f (List.replicate n a)
 | 0=>rfl
 | n+1=>by rw[fZ,HU a n,List.replicate_succ,ki]
end
variable {α:Type} {ia:Inhabited α} {f:α->List AV} {esz:Nat}
theorem agd {c:List α}(hx:(St.mk pe lo hp df).aa x=some (.vp ((arr f c).drop (i*esz))))
 (hf:∀a,(f a).length=esz) (hi:i<c.length) (hn:0<n/\0+n<=esz) (hv:partOf (f c[i]!) 0 n ag=some v) (h:WO M l ⟨⟨pe,(t,v)::lo,hp,df⟩,wr⟩ Q):WO M (⟨.l t,.load n ag x,none⟩::l) ⟨⟨pe,lo,hp,df⟩,wr⟩ Q:=
 acT (v:=v) (h':=hp) (w':=[]) (by simp only[bK,hx,Option.bind_some,fo,HT hf hi hn.2 hn.1,hv]) rfl rfl h
theorem aie {c:List α}{e:TypeId}(hx:(St.mk pe lo hp df).aa x=some (.ptr b (0+i*esz)))(hb:hp.at b=some (.cells (arr f c) e))
 (hf:∀a,(f a).length=esz) (hi:i<c.length) (hn:0<n/\0+n<=esz) (hv:partOf (f c[i]!) 0 n ag=some v) (h:WO M l ⟨⟨pe,(t,v)::lo,hp,df⟩,wr⟩ Q):WO M (⟨.l t,.load n ag x,none⟩::l) ⟨⟨pe,lo,hp,df⟩,wr⟩ Q:=
 acT (v:=v) (h':=hp) (w':=[]) (by simp only[bK,hx,Option.bind_some,fo,hb,Nat.zero_add,HT hf hi hn.2 hn.1,hv]) rfl rfl h
theorem ahd {c:List AV}(hx:(St.mk pe lo hp df).aa x=some a)(hb:fo hp a=some c)(hv:partOf c 0 n ag=some v)
 (h:WO M l ⟨⟨pe,(t,v)::lo,hp,df⟩,wr⟩ Q):WO M (⟨.l t,.load n ag x,none⟩::l) ⟨⟨pe,lo,hp,df⟩,wr⟩ Q:=
 acT (v:=v) (h':=hp) (w':=[]) (by simp only[bK,hx,Option.bind_some,hb,hv]) rfl rfl h
theorem WO.SW {zero:List AV}{k k':IntKind}{a b:Int}(hx:(St.mk pe lo hp df).aa x=some (.int k a))(hy:(St.mk pe lo hp df).aa y=some (.int k' b))
 (hc:0<=a/\a<=b/\b.toNat*bytes<=dG/\b<=2^46/\zero.length=esz0) (h:WO M l ⟨⟨pe,(t,.sl hp.length 0 a.toNat esz0 (some b.toNat))::lo,hp++[some (.cells (fZ zero b.toNat) elem)],df⟩,wr⟩ Q) :
 WO M (⟨.l t,.gA elem esz0 bytes zero x y,none⟩::l) ⟨⟨pe,lo,hp,df⟩,wr⟩ Q:=
 acT (v:=.sl hp.length 0 a.toNat esz0 (some b.toNat)) (h':=hp++[some (.cells (fZ zero b.toNat) elem)]) (w':=[]) (by simp only[bK,hx,hy,Option.bind_some,ri];rw[if_pos hc]) rfl rfl h
theorem eE {o:bC}(hb:h.at b=some o):b<h.length:=by
 unfold ab.at at hb;cases hz:h[b]? with
 | none=>rw[hz]at hb;cases hb
 | some z=>exact(List.getElem?_eq_some_iff.1 hz).1
theorem bX {x:Option bC}:ab.at (h++[x]) h.length=x:=by simp[ab.at]
theorem bS {l:ab}{o:bC}(hb:h.at b=some o):ab.at (h++l) b=some o:=by
 have:=eE hb;simp only[ab.at]at hb ⊢;rw[List.getElem?_append_left this];exact hb
theorem cW (hb:b<h.length):ab.at (h.put b o) b=o:=by
 simp[ab.at,ab.put,hb]
theorem pR {a:Nat}{x:bC}(hn:a≠b)(ha:h.at a=some x):ab.at (h.put b o) a=some x:=by
 have:¬b=a:=fun e=>hn e.symm
 simp only[ab.at,ab.put,List.getElem?_set,if_neg this]at ha ⊢;exact ha
theorem fw:(h.put b o).length=h.length:=by simp[ab.put]
theorem ait {b:AV}{new:List AV}(hx:(St.mk pe lo hp df).aa x=some .ae)(hy:(St.mk pe lo hp df).aa y=some b)(hs:eO hp b=some (new,n))
 (hc:new.length=n*esz0/\0<bytes/\new.all cV=true) (hn:0<n/\n*bytes<=dG) (h:WO M l ⟨⟨pe,(t,.sl hp.length 0 n esz0 none)::lo,hp++[some (.cells new elem)],df⟩,wr⟩ Q):WO M (⟨.l t,.append elem esz0 bytes x y,none⟩::l) ⟨⟨pe,lo,hp,df⟩,wr⟩ Q:=by
 refine acT (v:=.sl hp.length 0 n esz0 none) (h':=hp++[some (.cells new elem)]) (w':=[]) ?_ rfl rfl h;simp only[bK,hx,hy,jB,hs,if_pos hc];rw[if_neg (by omega),if_pos hn.2]
theorem aiq {c off len:Nat}{b:AV}{new bY:List AV}(hx:(St.mk pe lo hp df).aa x=some (.sl c off len esz0 none))(hy:(St.mk pe lo hp df).aa y=some b)(hs:eO hp b=some (new,n))
 (hc:new.length=n*esz0/\0<bytes/\new.all cV=true) (hn:0<n/\(len+n)*bytes<=dG) (hb:hp.at c=some (.cells bY elem)) (ho:bY.length=off+len*esz0)
 (h:WO M l ⟨⟨pe,(t,.sl hp.length 0 (len+n) esz0 none)::lo,hp.put c none++[some (.cells (bY.drop off++new) elem)],df⟩,c::wr⟩ Q):WO M (⟨.l t,.append elem esz0 bytes x y,none⟩::l) ⟨⟨pe,lo,hp,df⟩,wr⟩ Q:=by
 refine acT (v:=.sl hp.length 0 (len+n) esz0 none) (h':=hp.put c none++[some (.cells (bY.drop off++new) elem)]) (w':=[c]) ?_ rfl rfl h;simp only[bK,hx,hy,jB,hs,if_pos hc,hb];rw[if_neg (by omega),if_pos ⟨trivial,hn.2⟩,if_pos ⟨ho,trivial⟩]
def bc.ro:bc->Bool
 | .load .. => true
 | op=>!op.bJ
def cn.clean (d:cn):Prop:=d.wr=[]/\d.hi=d.lo
theorem Bj {T:List Nat}:ab.at (dw T h 0) b=if T.contains b then h.at b else none:=by
 unfold ab.at;rw[nD];cases h[b]? <;> simp
theorem HV {T:List Nat}:eu [] h (dw T h 0) 0=h:=by
 apply List.ext_getElem?;intro b;rw[jI _ _ _ _ _ (by rw[fS];exact Nat.le_refl _)];split
 . simp
 . rename_i hb;rw[List.getElem?_eq_none (by rw[fS];omega),List.getElem?_eq_none (by omega)]
def kZ:Option AV->List Nat
 | some (.ptr b _)=>[b]
 | some (.sl b _ _ _ _)=>[b]
 | some (.map b)=>[b]
 | _=>[]
theorem HW {s:St}:jC s (.load n ag x)=some (kZ (s.aa x)):=by
 simp only[jC];cases s.aa x with
 | none=>rfl
 | some a=>cases a <;> rfl
theorem HX:fo (dw (kZ (some a)) h 0) a=fo h a:=by
 cases a <;> first|rfl|skip
 simp[fo,kZ,Bj]
theorem vo {call:dS}{inv:fE}{s:St}(ha:s.aa x=some a)(hp':ab):bU call inv { s with hp:=hp' } (.load n ag x)=(fo hp' a).bind fun l=>(partOf l 0 n ag).map fun v=>⟨v,hp',[]⟩:=by
 have hx':St.aa { s with hp:=hp' } x=some a:=by rw[←ha];cases x <;> rfl
 simp only[bU,bc.bJ,if_true,bK,hx',Option.bind_some];cases fo hp' a with
 | none=>rfl
 | some l=>simp only[Option.bind_some];cases partOf l 0 n ag <;> rfl
theorem vt {call:dS}{inv:fE}:∀(l:List (aU×List Nat)) (s:aq) (ds:List cn),l.all (fun p=>p.1.op.ro)=true->(∀d∈ds,d.clean)->dT call inv l s ds=fa call inv (l.map (·.1)) s
 | [],s,ds,_,_=>rfl
 | (o,un)::l,s,ds,hl,hd=>by
  simp only[List.all_cons,Bool.and_eq_true]at hl;obtain⟨ho,hl⟩:=hl;have hcl:∀t,(∀d∈ds++[(⟨t,[],s.s.hp.length,s.s.hp.length⟩:cn)],d.clean):=fun t d hm=>by
   rcases List.mem_append.1 hm with h1|h1
   . exact hd d h1
   . simp only[List.mem_singleton]at h1;subst h1;exact⟨rfl,rfl⟩
  simp only[dT,List.map_cons,fa];split
  . by_cases hh:o.op.bJ=true
    . have hop:∃n ag x,o.op = .load n ag x:=by
       cases hq:o.op <;> rw[hq]at ho hh <;> first|(cases hh;done)|(cases ho;done)|exact⟨_,_,_,rfl⟩
      obtain⟨n,ag,x,hop⟩:=hop;have hU:un.flatMap (fun j=>(ds[j]?).elim [] cn.own)=[]:=by
       rw[List.flatMap_eq_nil_iff];intro j _;cases hj:ds[j]? with
       | none=>rfl
       | some d=>
        obtain⟨c1,c2⟩:=hd d (List.mem_of_getElem? hj);simp[cn.own,c1,c2]
      simp only[hop,bc.bJ,if_true,HW,hU];have hdis:∀T,gV T []=true:=fun T=>by simp[gV]
      simp only[hdis,if_true];cases ha:s.s.aa x with
      | none=>
       have e1:∀hp',bU call inv { s.s with hp:=hp' } (.load n ag x)=none:=fun hp'=>by
        have hx':St.aa { s.s with hp:=hp' } x=none:=by rw[←ha];cases x <;> rfl
        simp only[bU,bc.bJ,if_true,bK,hx',Option.bind_none]
       rw[e1,show bU call inv s.s (.load n ag x)=none from e1 s.s.hp]
      | some a=>
       have e2:=vo (call:=call) (inv:=inv) (n:=n) (ag:=ag) ha s.s.hp;rw[vo ha,HX,show bU call inv s.s (.load n ag x)=_ from e2];cases fo s.s.hp a with
       | none=>rfl
       | some c=>
        simp only[Option.bind_some];cases partOf c 0 n ag with
        | none=>rfl
        | some v=>
         simp only[Option.map_some,List.all_nil,List.isEmpty_nil,Bool.true_or,Bool.and_true,if_true,HV,List.nil_append];have:=vt (call:=call) (inv:=inv) l ⟨{ s.s.put o.dst v with hp:=s.s.hp },s.wr⟩ (ds++[⟨some (kZ (some a)),[],s.s.hp.length,s.s.hp.length⟩]) hl (hcl _);rw[←this];simp[fS]
    . have hh':o.op.bJ=false:=by simpa using hh
      rw[if_neg hh];have e2:bU call inv s.s o.op=(aY s.s o.op).map fun v=>⟨v,s.s.hp,[]⟩:=by
       cases hq:o.op <;> rw[hq]at hh' <;> first|(cases hh';done)|simp only[bU,bc.bJ,Bool.false_eq_true,if_false]
      rw[e2];cases aY s.s o.op with
      | none=>rfl
      | some v=>
       simp only[Option.map_some,List.nil_append];have hput:({ s.s.put o.dst v with hp:=s.s.hp }:St)=s.s.put o.dst v:=by cases o.dst <;> rfl
       rw[hput];exact vt l _ _ hl (hcl _)
  . exact vt l _ _ hl (hcl _)
  . rfl
theorem agL {l:List (aU×List Nat)}{Q:Ex->aq->Prop}(hl:l.all (fun p=>p.1.op.ro)=true)(h:WO M (l.map (·.1)) ⟨⟨pe,[],hp,df⟩,wr⟩ (Q .normal)):W M (.draw l) ⟨⟨pe,lo,hp,df⟩,wr⟩ Q:=by
 obtain⟨⟨n,s',h1,h2⟩⟩:=h;exact aet ⟨⟨n,s',by rw[vt l _ _ hl (by simp)];exact h1,h2⟩⟩
end Go.Ab

/-
  Own work: the calculus of runs: drawn regions, one operation at a time.
-/
namespace Go.Ab
variable {t n:Nat} {x y:aO} {l:List (aU×List Nat)} {pe:List AV} {lo:List (Nat×AV)} {hp:ab} {df wr un T:List Nat} {a b:Int} {Q:aq->Prop} {s:aq} {ds:List cn} {d:eC}
variable {M:ax}
theorem ain {l:List aU}(hx:(St.mk pe lo hp df).aa x=some (.int .i64 a))(hy:(St.mk pe lo hp df).aa y=some (.int .i64 b))
 (ha:0<=a/\0<b) (hr:a<9223372036854775808) (h:0<=a/b->a/b<=a->WO M l ⟨⟨pe,(t,.int .i64 (a/b))::lo,hp,df⟩,wr⟩ Q):WO M (⟨.l t,.bin .quo x y,none⟩::l) ⟨⟨pe,lo,hp,df⟩,wr⟩ Q:=by
 refine ahj hx hy ha.2 ⟨by omega,hr⟩ ?_;rw[Int.tdiv_eq_ediv_of_nonneg ha.1];exact h (Int.ediv_nonneg ha.1 (Int.le_of_lt ha.2)) (Int.ediv_le_self _ ha.1)
theorem aim {l:List aU}{k:IntKind}(hx:(St.mk pe lo hp df).aa x=some (.int k a))(hy:(St.mk pe lo hp df).aa y=some (.int k b))
 (ha:0<=a/\0<b) (h:0<=a%b->a%b<b->WO M l ⟨⟨pe,(t,.int k (a%b))::lo,hp,df⟩,wr⟩ Q):WO M (⟨.l t,.bin .rem x y,none⟩::l) ⟨⟨pe,lo,hp,df⟩,wr⟩ Q:=by
 refine ahk hx hy (by omega) ?_;rw[Int.tmod_eq_emod_of_nonneg ha.1];exact h (Int.emod_nonneg _ (by omega)) (Int.emod_lt_of_pos _ ha.2)
theorem aco {f:aO}{args:List aO}{l:List aU}{h':ab}{wr':List Nat}{g:FuncId}{fi ca as:List AV}{v:AV}(hf:(St.mk pe lo hp df).aa f=some (.fn (.func g) fi ca))(ha:(St.mk pe lo hp df).cL args=some as)
 (he:M.ext g (fi++as++ca) hp=some ⟨v,h',wr'⟩) (h:WO M l ⟨⟨pe,(t,v)::lo,h',df⟩,wr'++wr⟩ Q):WO M (⟨.l t,.call f args,none⟩::l) ⟨⟨pe,lo,hp,df⟩,wr⟩ Q:=WO.SM hf ha he h
theorem ahP {bytes:Nat}{elem:TypeId}{l:List aU}{k k':IntKind}{z:Int}{kz:IntKind}(hx:(St.mk pe lo hp df).aa x=some (.int k a))(hy:(St.mk pe lo hp df).aa y=some (.int k' b))
 (hc:0<=a/\a<=b/\b.toNat*bytes<=70368744177664/\b<=70368744177664) (h:WO M l ⟨⟨pe,(t,.sl hp.length 0 a.toNat 1 (some b.toNat))::lo,hp++[some (.cells (arr (fun x=>[.int kz x]) (List.replicate b.toNat z)) elem)],df⟩,wr⟩ Q) :
 WO M (⟨.l t,.gA elem 1 bytes [.int kz z] x y,none⟩::l) ⟨⟨pe,lo,hp,df⟩,wr⟩ Q:=by
 refine WO.SW hx hy ⟨hc.1,hc.2.1,by simp only[dG];omega,by omega,rfl⟩ ?_;have e:=HU (f:=fun x=>[AV.int kz x]) z b.toNat;rw[show fZ [AV.int kz z] b.toNat=_ from e];exact h
theorem afd (h:Q s):WD M [] s ds Q:=⟨⟨0,s,rfl,h⟩⟩
def cn.key (d:cn):Option (List Nat)×List Nat:=(d.jW,d.own)
theorem SX {α:Type}{l:List α}{f g:α->Bool}(h:∀x,f x=g x):l.all f=l.all g:=by rw[show f=g from funext h]
theorem HY {call:dS}{inv:fE}:∀(l:List (aU×List Nat)) (s:aq) (ds ds':List cn),ds.map cn.key=ds'.map cn.key->dT call inv l s ds=dT call inv l s ds'
 | [],_,_,_,_=>rfl
 | (o,un)::l,s,ds,ds',hk=>by
  have h1:∀j:Nat,(ds[j]?).elim [] cn.own=(ds'[j]?).elim [] cn.own:=fun j=>by
   have:=congrArg (fun x:List (Option (List Nat)×List Nat)=>x[j]?) hk;simp only[List.getElem?_map]at this;cases h3:ds[j]? <;> cases h4:ds'[j]? <;> rw[h3,h4]at this <;> simp[cn.key]at this ⊢;exact this.2
  have h2:∀j:Nat,(ds[j]?).map cn.jW=(ds'[j]?).map cn.jW:=fun j=>by
   have:=congrArg (fun x:List (Option (List Nat)×List Nat)=>x[j]?) hk;simp only[List.getElem?_map]at this;cases h3:ds[j]? <;> cases h4:ds'[j]? <;> rw[h3,h4]at this <;> simp[cn.key]at this ⊢;exact this.1
  have h7:(fun j:Nat=>(ds[j]?).elim [] cn.own)=(fun j:Nat=>(ds'[j]?).elim [] cn.own):=funext h1;have h8:∀d s,dT call inv l s (ds++[d])=dT call inv l s (ds'++[d]):=fun d s=>HY l s _ _ (by simp[hk])
  unfold dT;simp only[h7,h8];cases eZ s.s o.guard with
  | none=>rfl
  | some t=>
   cases t with
   | false=>rfl
   | true=>
    refine ite_congr rfl (fun _=>ite_congr rfl (fun _=>?_) (fun _=>rfl)) (fun _=>rfl);split
    . refine ite_congr (congrArg (fun b=>b=true) (congrArg (fun b=>_ && b) (congrArg (fun b=>_ || b) (SX ?_)))) (fun _=>rfl) (fun _=>rfl);intro j;have:=h2 j;cases h3:ds[j]? <;> cases h4:ds'[j]? <;> rw[h3,h4]at this <;> simp at this ⊢;rw[this]
    . rfl
theorem WD.norm {d d':cn}(hk:d.key=d'.key)(h:WD M l s (ds++[d]) Q):WD M l s (ds++[d']) Q:=by
 obtain⟨⟨n,s',h1,h2⟩⟩:=h;exact⟨⟨n,s',by rw[HY l s (ds++[d']) (ds++[d]) (by simp[hk])];exact h1,h2⟩⟩
theorem WD.SY {o:aU}(hh:o.op.bJ=false)(h:WO M [o] s fun s'=>WD M l s' (ds++[⟨some [],[],s.s.hp.length,s.s.hp.length⟩]) Q):WD M ((o,un)::l) s ds Q:=by
 obtain⟨⟨n,s1,h1,⟨⟨m,s',h2,h3⟩⟩⟩⟩:=h;refine⟨⟨max n m,s',?_,h3⟩⟩;have h1':=mw (inv:=M.inv) (jq (Nat.le_max_left n m)) _ _ _ h1;have h2':=kh (inv:=M.inv) (jq (Nat.le_max_right n m)) _ _ _ _ h2;simp only[fa]at h1';have e2:bU (M.call (max n m)) M.inv s.s o.op=(aY s.s o.op).map fun v=>⟨v,s.s.hp,[]⟩:=by
  cases hq:o.op <;> rw[hq]at hh <;> first|(cases hh;done)|simp only[bU,bc.bJ,Bool.false_eq_true,if_false]
 rw[e2]at h1';cases hw:eZ s.s o.guard with
 | none=>rw[hw]at h1';cases h1'
 | some t=>
  rw[hw]at h1';cases t with
  | true=>
   simp only[dT,hw,hh,Bool.false_eq_true,if_false];cases hp:aY s.s o.op with
   | none=>rw[hp]at h1';cases h1'
   | some v=>
    rw[hp]at h1';simp only[Option.map_some,List.nil_append,Option.some.injEq]at h1';have hput:({ s.s.put o.dst v with hp:=s.s.hp }:St)=s.s.put o.dst v:=by cases o.dst <;> rfl
    rw[hput]at h1';subst h1';exact h2'
  | false=>
   simp only[Option.some.injEq]at h1';simp only[dT,hw];subst h1';exact h2'
theorem HZ {h:ab}{b:Nat}{o:Option bC}:eu [b] h (ab.put (dw T h 0) b o) 0=ab.put h b o:=by
 apply List.ext_getElem?;intro c;rw[jI _ _ _ _ _ (by simp[ab.put,fS])];simp only[ab.put,List.getElem?_set,fS,nD];by_cases hc:c<h.length
 . rw[if_pos hc];by_cases e:b=c
   . subst e;simp[hc]
   . have:c≠b:=fun x=>e x.symm
     simp[e,this]
 . rw[if_neg hc,List.getElem?_eq_none (Nat.le_of_not_lt hc)];by_cases e:b=c
   . subst e;simp[hc]
   . simp[e]
theorem WD.SZ {ag:Bool}{a:AV}(ha:s.s.aa x=some a)(hT:kZ (some a)=T)(hd:gV T (un.flatMap fun j=>(ds[j]?).elim [] cn.own)=true)
 (h:WO M [⟨d,.load n ag x,none⟩] s fun s'=>WD M l s' (ds++[⟨some T,[],s.s.hp.length,s.s.hp.length⟩]) Q):WD M ((⟨d,.load n ag x,none⟩,un)::l) s ds Q:=by
 obtain⟨⟨k,s1,h1,⟨⟨m,s',h2,h3⟩⟩⟩⟩:=h;refine⟨⟨max k m,s',?_,h3⟩⟩;have h1':=mw (inv:=M.inv) (jq (Nat.le_max_left k m)) _ _ _ h1;have h2':=kh (inv:=M.inv) (jq (Nat.le_max_right k m)) _ _ _ _ h2;simp only[fa,eZ]at h1';subst hT;simp only[dT,eZ,bc.bJ,if_true,HW,ha,hd];rw[vo ha,HX];rw[show bU (M.call (max k m)) M.inv s.s (.load n ag x)=_ from vo ha s.s.hp]at h1';cases hr:fo s.s.hp a with
 | none=>rw[hr]at h1';cases h1'
 | some c=>
  rw[hr]at h1';simp only[Option.bind_some]at h1' ⊢;cases hp:partOf c 0 n ag with
  | none=>rw[hp]at h1';cases h1'
  | some v=>
   rw[hp]at h1';simp only[Option.map_some,List.nil_append,Option.some.injEq]at h1';simp only[Option.map_some,List.all_nil,List.isEmpty_nil,Bool.true_or,Bool.and_true,if_true,HV,List.nil_append,fS];subst h1';exact h2'
theorem WD.Ta {b off:Nat}(ha:s.s.aa x=some (.ptr b off))(hd:gV [b] (un.flatMap fun j=>(ds[j]?).elim [] cn.own)=true)
 (hu:un.all (fun j=>match ds[j]? with|some d=>(match d.jW with|some T=>gV [b] T|none=>false)|none=>false)=true)
 (h:WO M [⟨.no,.store n x y,none⟩] s fun s'=>WD M l s' (ds++[⟨some [b],[b],s.s.hp.length,s.s.hp.length⟩]) Q):WD M ((⟨.no,.store n x y,none⟩,un)::l) s ds Q:=by
 obtain⟨⟨k,s1,h1,⟨⟨m,s',h2,h3⟩⟩⟩⟩:=h;refine⟨⟨max k m,s',?_,h3⟩⟩;have h1':=mw (inv:=M.inv) (jq (Nat.le_max_left k m)) _ _ _ h1;have h2':=kh (inv:=M.inv) (jq (Nat.le_max_right k m)) _ _ _ _ h2;simp only[fa,eZ,bU,bc.bJ,if_true,bK,ha]at h1';have hx':∀hp',St.aa { s.s with hp:=hp' } x=some (.ptr b off):=fun hp'=>by rw[←ha];cases x <;> rfl
 have hy':∀hp',St.aa { s.s with hp:=hp' } y=s.s.aa y:=fun hp'=>by cases y <;> rfl
 have hk:ab.at (dw [b] s.s.hp 0) b=s.s.hp.at b:=by simp[Bj]
 simp only[dT,eZ,bc.bJ,if_true,jC,ha,hd,bU,bK,hx',hy'];cases hy:s.s.aa y with
 | none=>rw[hy]at h1';cases h1'
 | some yv=>
  rw[hy]at h1';simp only[Option.bind_some]at h1' ⊢;cases hc:yv.cells with
  | none=>rw[hc]at h1';cases h1'
  | some new=>
   rw[hc]at h1';simp only at h1' ⊢;cases hb:s.s.hp.at b with
   | none=>rw[hb]at h1';cases h1'
   | some o=>
    rw[hb]at h1';cases o with
    | cells c e=>
     simp only at h1' ⊢;by_cases hcond:new.length=n/\off+n<=c.length/\new.all cV=true
     . simp only[if_pos hcond,Option.some.injEq]at h1';simp only[if_pos hcond,List.all_cons,List.all_nil,Bool.and_true,List.isEmpty_cons,Bool.false_or,hk,hb,Option.isSome_some,HZ,fw,fS];subst h1';rw[if_pos (show _=true by rw[Bool.true_and];exact hu)];exact h2'
     . simp only[if_neg hcond]at h1';cases h1'
    | map _=>cases h1'
    | iter _ _=>cases h1'
    | fY=>cases h1'
    | hole=>cases h1'
    | loop _ _ _ _ _ _=>cases h1'
theorem WD.Tb {f:aO}{args:List aO}{g:FuncId}{fi ca as:List AV}{v:AV}{hn:ab}(hf:s.s.aa f=some (.fn (.func g) fi ca))(ha:s.s.cL args=some as)
 (hU:(un.flatMap fun j=>(ds[j]?).elim [] cn.own)=[]) (he:M.ext g (fi++as++ca) s.s.hp=some ⟨v,s.s.hp++hn,[]⟩)
 (h:WD M l ⟨{ s.s.put d v with hp:=s.s.hp++hn },s.wr⟩ (ds++[⟨none,[],s.s.hp.length,s.s.hp.length+hn.length⟩]) Q):WD M ((⟨d,.call f args,none⟩,un)::l) s ds Q:=by
 obtain⟨⟨m,s',h2,h3⟩⟩:=h;refine⟨⟨m,s',?_,h3⟩⟩;have hm:mask s.s.hp []=s.s.hp:=rfl;have hcall:bU (M.call m) M.inv { s.s with hp:=s.s.hp } (.call f args)=some ⟨v,s.s.hp++hn,[]⟩:=by
  simp only[bU,hf,ha,gW,he]
 have hmerge:eu [] s.s.hp (s.s.hp++hn) 0=s.s.hp++hn:=by
  apply List.ext_getElem?;intro c;rw[jI _ _ _ _ _ (by simp)];split
  . rename_i hc;simp[List.getElem?_append_left hc]
  . rfl
 simp only[dT,eZ,bc.bJ,if_true,jC,hU,hm];rw[hcall];simp only[List.all_nil,List.isEmpty_nil,Bool.true_or,Bool.and_true,if_true,hmerge,List.nil_append,List.length_append];exact h2
theorem Bk {t:Option (List Nat)}{w:List Nat}:cn.key ⟨t,w,n,n⟩=cn.key ⟨t,w,0,0⟩:=by simp[cn.key,cn.own]
theorem afE {o:aU}(hh:o.op.bJ=false)(h:WO M [o] s fun s'=>WD M l s' (ds++[⟨some [],[],0,0⟩]) Q):WD M ((o,un)::l) s ds Q:=
 WD.SY hh (h.mono fun _ h=>h.norm Bk.symm)
theorem aft {ag:Bool}{a:AV}(ha:s.s.aa x=some a)(hT:kZ (some a)=T)(hd:gV T (un.flatMap fun j=>(ds[j]?).elim [] cn.own)=true)
 (h:WO M [⟨d,.load n ag x,none⟩] s fun s'=>WD M l s' (ds++[⟨some T,[],0,0⟩]) Q):WD M ((⟨d,.load n ag x,none⟩,un)::l) s ds Q:=
 WD.SZ ha hT hd (h.mono fun _ h=>h.norm Bk.symm)
theorem afI {b off:Nat}(ha:s.s.aa x=some (.ptr b off))(hd:gV [b] (un.flatMap fun j=>(ds[j]?).elim [] cn.own)=true)
 (hu:un.all (fun j=>match ds[j]? with|some d=>(match d.jW with|some T=>gV [b] T|none=>false)|none=>false)=true)
 (h:WO M [⟨.no,.store n x y,none⟩] s fun s'=>WD M l s' (ds++[⟨some [b],[b],0,0⟩]) Q):WD M ((⟨.no,.store n x y,none⟩,un)::l) s ds Q:=
 WD.Ta ha hd hu (h.mono fun _ h=>h.norm Bk.symm)
end Go.Ab

/-
  Own work: the calculus of runs: maps, new blocks in drawn regions, slices as arguments of contracts.
-/
namespace Go.Ab
variable {t:Nat} {op:bc} {pe:List AV} {lo:List (Nat×AV)} {hp:ab} {df wr un:List Nat} {Q:aq->Prop} {l:List (aU×List Nat)} {ds:List cn} {v:AV}
variable {M:ax}
theorem ahu {x:aO}{want:Bool}{l:List aU}(hx:(St.mk pe lo hp df).aa x=some (.au []))(h:WO M l ⟨⟨pe,(t,cG)::lo,hp,df⟩,wr⟩ Q):WO M (⟨.l t,op,some (x,want)⟩::l) ⟨⟨pe,lo,hp,df⟩,wr⟩ Q:=WO.SL hx h
theorem ahm {x:aO}{l:List aU}{a:Int}(hx:(St.mk pe lo hp df).aa x=some (.int .i64 a))
 (hr : -9223372036854775808<a/\a<=9223372036854775808) (h:WO M l ⟨⟨pe,(t,.int .i64 (-a))::lo,hp,df⟩,wr⟩ Q):WO M (⟨.l t,.un .neg x,none⟩::l) ⟨⟨pe,lo,hp,df⟩,wr⟩ Q:=
 WO.op (WP.pure (v:=.int .i64 (-a)) rfl (by
  have:IntKind.i64.wrap (0-a) = -a:=by rw[show 0-a = -a from by omega];exact nK (by omega)
  simp[aY,hx,rj]at this ⊢;exact this) h)
theorem WD.Tc {d:eC}{f:aO}{args:List aO}{s:aq}{g:FuncId}{fi ca as:List AV}(hf:s.s.aa f=some (.fn (.func g) fi ca))(ha:s.s.cL args=some as)
 (hU:(un.flatMap fun j=>(ds[j]?).elim [] cn.own)=[]) (he:M.ext g (fi++as++ca) s.s.hp=some ⟨v,s.s.hp,[]⟩)
 (h:WD M l ⟨s.s.put d v,s.wr⟩ (ds++[⟨none,[],0,0⟩]) Q):WD M ((⟨d,.call f args,none⟩,un)::l) s ds Q:=by
 have hp:({ s.s.put d v with hp:=s.s.hp++[] }:St)=s.s.put d v:=by cases d <;> simp[St.put]
 refine WD.Tb (hn:=[]) hf ha hU (by simpa using he) ?_;rw[hp];exact h.norm (by simp[cn.key,cn.own])
theorem afA {f:aO}{args:List aO}{g:FuncId}{fi ca as:List AV}(hf:(St.mk pe lo hp df).aa f=some (.fn (.func g) fi ca))(ha:(St.mk pe lo hp df).cL args=some as)
 (hU:(un.flatMap fun j=>(ds[j]?).elim [] cn.own)=[]) (he:M.ext g (fi++as++ca) hp=some ⟨v,hp,[]⟩)
 (h:WD M l ⟨⟨pe,(t,v)::lo,hp,df⟩,wr⟩ (ds++[⟨none,[],0,0⟩]) Q):WD M ((⟨.l t,.call f args,none⟩,un)::l) ⟨⟨pe,lo,hp,df⟩,wr⟩ ds Q:=WD.Tc hf ha hU he h
def bc.Ia:bc->Bool
 | .alloc .. | .box .. | .dQ .. | .gA .. | .mW=>true
 | _=>false
theorem Bl {s:St}{hp':ab}(x:aO):St.aa { s with hp:=hp' } x=s.aa x:=by cases x <;> rfl
theorem Ib {s:St}{hp':ab}:∀(ps:List (Nat×Nat×aO)),St.parts { s with hp:=hp' } ps=s.parts ps
 | []=>rfl
 | (o,n,x)::r=>by simp only[St.parts,Bl,Ib r]
theorem Td {call:dS}{inv:fE}{s:St}(hn:op.Ia=true){r:HR}(hq:bU call inv s op=some r):∃o,r.h=s.hp++[o]/\r.wr=[]/\∀hp':ab,hp'.length=s.hp.length->bU call inv { s with hp:=hp' } op=some ⟨r.v,hp'++[o],[]⟩:=by
 cases op <;> first|(cases hn;done)|skip
 case alloc e z=>
  simp only[bU,bc.bJ,if_true,bK]at hq;cases hq;exact⟨_,rfl,rfl,fun hp' hl=>by simp only[bU,bc.bJ,if_true,bK,hl]⟩
 case box e n x=>
  simp only[bU,bc.bJ,if_true,bK]at hq;split at hq
  . rename_i c hc;split at hq
    . rename_i hlen;cases hq;exact⟨_,rfl,rfl,fun hp' hl=>by simp only[bU,bc.bJ,if_true,bK,Bl,hc,hl,if_pos hlen]⟩
    . cases hq
  . cases hq
 case dQ e len esz z ps=>
  simp only[bU,bc.bJ,if_true,bK]at hq;split at hq
  . rename_i vs hvs;split at hq
    . rename_i c hc;split at hq
      . rename_i hlen;cases hq;exact⟨_,rfl,rfl,fun hp' hl=>by simp only[bU,bc.bJ,if_true,bK,Ib,hvs,hc,hl,if_pos hlen]⟩
      . cases hq
    . cases hq
  . cases hq
 case mW=>
  simp only[bU,bc.bJ,if_true,bK]at hq;cases hq;exact⟨_,rfl,rfl,fun hp' hl=>by simp only[bU,bc.bJ,if_true,bK,hl]⟩
 case gA e esz by' z a b=>
  simp only[bU,bc.bJ,if_true,bK]at hq;split at hq
  . rename_i x y hx hy;split at hq
    . rename_i hc;cases hq;exact⟨_,rfl,rfl,fun hp' hl=>by simp only[bU,bc.bJ,if_true,bK,Bl,hx,hy,hl,if_pos hc]⟩
    . cases hq
  . cases hq
theorem ahX {d:eC}{s:aq}(hn:op.Ia=true)(h:WO M [⟨d,op,none⟩] s fun s'=>WD M l s' (ds++[⟨some [],[],s.s.hp.length,s.s.hp.length+1⟩]) Q):WD M ((⟨d,op,none⟩,un)::l) s ds Q:=by
 obtain⟨⟨k,s1,h1,⟨⟨m,s',h2,h3⟩⟩⟩⟩:=h;refine⟨⟨max k m,s',?_,h3⟩⟩;have h1':=mw (inv:=M.inv) (jq (Nat.le_max_left k m)) _ _ _ h1;have h2':=kh (inv:=M.inv) (jq (Nat.le_max_right k m)) _ _ _ _ h2;simp only[fa,eZ]at h1';have ht:jC s.s op=some []:=by cases op <;> first|(cases hn;done)|rfl
 have hh:op.bJ=true:=by cases op <;> first|(cases hn;done)|rfl
 have hd:∀U,gV [] U=true:=fun U=>rfl
 cases hq:bU (M.call (max k m)) M.inv s.s op with
 | none=>rw[hq]at h1';cases h1'
 | some r=>
  rw[hq]at h1';obtain⟨o,e1,e2,e3⟩:=Td hn hq;simp only[Option.some.injEq]at h1';simp only[dT,eZ,hh,if_true,ht,hd,e3 (dw [] s.s.hp 0) (fS _ _ _)];have hm:eu [] s.s.hp (dw [] s.s.hp 0++[o]) 0=s.s.hp++[o]:=by
   apply List.ext_getElem?;intro c;rw[jI _ _ _ _ _ (by simp[fS])];split
   . rename_i hc;rw[List.getElem?_append_left hc];simp
   . rename_i hc;rw[List.getElem?_append_right (by rw[fS];omega),List.getElem?_append_right (by omega),fS]
  simp only[List.all_nil,List.isEmpty_nil,Bool.true_or,Bool.and_true,if_true,hm,List.nil_append,List.length_append,List.length_singleton,fS];rw[e1,e2]at h1';subst h1';exact h2'
def Bm (h:ab):AV->Option (List AV×Nat)
 | .str _=>none
 | .sl b off n esz _=>match h.at b with
   | some (.cells l _)=>(cut l off (n*esz)).map (·,n)
   | _=>none
 | v=>eO h v
def vu:List AV->Option (List Int)
 | []=>some []
 | .int .i64 n::r=>match vu r with
   | some l=>some (n::l)
   | none=>none
 | _=>none
theorem Ie:∀{c:List AV} {l:List Int},vu c=some l->c=ints l
 | [],l,h=>by cases h;rfl
 | v::r,l,h=>by
  unfold vu at h;split at h
  . rename_i e;cases e
  . rename_i n r' e;cases e;split at h
    . rename_i l' hl;cases h;rw[Ie hl];rfl
    . cases h
  . cases h
def iI (h:ab)(v:AV):Option (List Int):=match Bm h v with
 | some (c,n)=>match vu c with
   | some l=>if l.length=n then some l else none
   | none=>none
 | none=>none
theorem Te {α:Type}{f:α->List AV}{h:ab}{l:List α}(hc:Bm h v=some (arr f l,l.length)):Sl f h v l:=by
 cases v <;> simp only[Bm,eO]at hc <;> try (cases hc;done)
 case ae=>
  simp only[Option.some.injEq,Prod.mk.injEq]at hc;exact .inl ⟨rfl,List.eq_nil_of_length_eq_zero hc.2.symm⟩
 case sl b off len esz cap=>
  split at hc
  . rename_i c e hb;simp only[Option.map_eq_some_iff,Prod.mk.injEq]at hc;obtain⟨c',h1,h2,h3⟩:=hc;subst h3;subst h2;exact .inr (.inr ⟨b,off,esz,cap,c,e,rfl,hb,h1⟩)
  . cases hc
 case vs c len cap=>
  simp only[Option.some.injEq,Prod.mk.injEq]at hc;obtain⟨rfl,rfl⟩:=hc;exact .inr (.inl ⟨cap,rfl⟩)
theorem Tf {h:ab}{l:List Int}(hi:iI h v=some l):Sl (fun x=>[.int .i64 x]) h v l:=by
 unfold iI at hi;split at hi
 . rename_i c n hc;split at hi
   . rename_i l' hl;split at hi
     . rename_i hn;cases hi;subst hn;rw[Ie hl]at hc;exact Te hc
     . cases hi
   . cases hi
 . cases hi
end Go.Ab

/-
  Own work: calls of functions by their code, on whatever heap; the end of such a run.
-/
namespace Go.Ab
variable {ars pe:List AV} {h hp:ab} {r:HR} {f:aO} {args:List aO} {l:List aU} {s:aq} {Q:aq->Prop} {g v:AV} {t b:Nat} {lo:List (Nat×AV)} {df wr:List Nat}
variable {M:ax}
def CT (M:ax)(g:AV)(ars:List AV)(h:ab)(r:HR):Prop:=∃n,M.call n g ars h=some r
theorem CT.run {f:FuncId}{fi ca:List AV}(he:M.ext f (fi++ars++ca) h=none)(hr:aT M f (fi++ars++ca) h r):CT M (.fn (.func f) fi ca) ars h r:=by
 obtain⟨n,hn⟩:=hr;exact⟨n,by simp only[gW,he];exact hn⟩
theorem WO.Bn {d:eC}(hf:s.s.aa f=some g)(ha:s.s.cL args=some ars)(hc:CT M g ars s.s.hp r)
 (h:WO M l ⟨{ s.s.put d r.v with hp:=r.h },r.wr++s.wr⟩ Q):WO M (⟨d,.call f args,none⟩::l) s Q:=
 WO.op (WP.call hf ha (by obtain⟨n,hn⟩:=hc;exact⟨⟨n,r,hn,h⟩⟩))
theorem afL {h':ab}{wr':List Nat}(hf:(St.mk pe lo hp df).aa f=some g)(ha:(St.mk pe lo hp df).cL args=some ars)
 (hc:CT M g ars hp ⟨v,h',wr'⟩) (h:WO M l ⟨⟨pe,(t,v)::lo,h',df⟩,wr'++wr⟩ Q):WO M (⟨.l t,.call f args,none⟩::l) ⟨⟨pe,lo,hp,df⟩,wr⟩ Q:=WO.Bn hf ha hc h
theorem WD.Bn {d:eC}{un:List Nat}{l:List (aU×List Nat)}{ds:List cn}(hf:s.s.aa f=some g)(ha:s.s.cL args=some ars)
 (hU:(un.flatMap fun j=>(ds[j]?).elim [] cn.own)=[]) (he:CT M g ars s.s.hp ⟨v,s.s.hp,[]⟩)
 (h:WD M l ⟨s.s.put d v,s.wr⟩ (ds++[⟨none,[],0,0⟩]) Q):WD M ((⟨d,.call f args,none⟩,un)::l) s ds Q:=by
 obtain⟨⟨m,s',h2,h3⟩⟩:=h.norm (d':=⟨none,[],s.s.hp.length,s.s.hp.length⟩) (by simp[cn.key,cn.own]);obtain⟨n,hn⟩:=he;refine⟨⟨max n m,s',?_,h3⟩⟩;have h2':=kh (inv:=M.inv) (jq (Nat.le_max_right n m)) _ _ _ _ h2;have hn':=jq (M:=M) (Nat.le_max_left n m) _ _ _ _ hn;have hm:mask s.s.hp []=s.s.hp:=rfl;have hcall:bU (M.call (max n m)) M.inv { s.s with hp:=s.s.hp } (.call f args)=some ⟨v,s.s.hp,[]⟩:=by
  simp only[bU,hf,ha];exact hn'
 have hmerge:eu [] s.s.hp s.s.hp 0=s.s.hp:=by
  apply List.ext_getElem?;intro c;rw[jI _ _ _ _ _ (Nat.le_refl _)];split
  . rfl
  . rfl
 simp only[dT,eZ,bc.bJ,if_true,jC,hU,hm];rw[hcall];have hp:({ s.s.put d v with hp:=s.s.hp }:St)=s.s.put d v:=by cases d <;> rfl
 simp only[List.all_nil,List.isEmpty_nil,Bool.true_or,Bool.and_true,if_true,hmerge,List.nil_append,hp];exact h2'
theorem ahU {un:List Nat}{l:List (aU×List Nat)}{ds:List cn}(hf:(St.mk pe lo hp df).aa f=some g)(ha:(St.mk pe lo hp df).cL args=some ars)
 (hU:(un.flatMap fun j=>(ds[j]?).elim [] cn.own)=[]) (he:CT M g ars hp ⟨v,hp,[]⟩)
 (h:WD M l ⟨⟨pe,(t,v)::lo,hp,df⟩,wr⟩ (ds++[⟨none,[],0,0⟩]) Q):WD M ((⟨.l t,.call f args,none⟩,un)::l) ⟨⟨pe,lo,hp,df⟩,wr⟩ ds Q:=WD.Bn hf ha hU he h
theorem vv {f N:Nat}{aR:List Nat}{res:List eM}{body:an}(hft:M.FT f=some ⟨N,aR,res,body⟩)(hN:ars.length<=N)
 (hW:W M body ⟨⟨aR.map (fun t=>(ars[t]?).getD cG),[],h,[]⟩,[]⟩ fun e s=>(e = .normal\/e = .ret)/\s.s.bZ=[]/\∃vs,dh s.s res=some vs/\dY (aW vs) h.length s=r):aT M f ars h r:=by
 obtain⟨⟨n,e,s,h1,h2,h3,vs,h4,h5⟩⟩:=hW;refine⟨n,?_⟩;have h1':bm M.ext M.inv M.FT n body ⟨⟨aR.map (fun t=>(ars[t]?).getD cG),[],h,[]⟩,[]⟩=some (e,s):=h1;simp only[gC,hft];rw[if_neg (by omega)];simp only[ax.ev,h1',if_pos h2,h3,kM,h4,h5]
def gH (b:Nat)(wr:List Nat):Prop:=∀x∈wr,x=b
theorem gH.nil:gH b []:=fun _ h=>by cases h
theorem gH.cons (h:gH b wr):gH b (b::wr):=fun x hx=>by
 rcases List.mem_cons.1 hx with e|e
 . exact e
 . exact h x e
theorem Ig {x y:Option bC}:(h.put b x).put b y=h.put b y:=by simp[ab.put]
theorem Tg {c c0:List AV}{e:TypeId}(hb:b<h.length)(hh:s.s.hp=h.put b (some (.cells c e)))(hw:gH b s.wr)(hc:br c=0) :
 ∃wr,gH b wr/\dY (.au []) (h.put b (some (.cells c0 e))).length s=⟨.au [],h.put b (some (.cells c e)),wr⟩:=by
 refine⟨s.wr.filter (· < h.length),fun x hx=>hw x (List.mem_filter.1 hx).1,?_⟩;have hl:(h.put b (some (.cells c0 e))).length=h.length:=fw;have ht:tight s.s.hp h.length s.wr=true:=by
  simp only[tight,List.all_eq_true];intro x hx;rw[hw x hx,hh,cW hb];simp[bC.top,hc]
 have hk:(h.put b (some (.cells c e))).take h.length=h.put b (some (.cells c e)):=List.take_of_length_le (by rw[fw];exact Nat.le_refl _);simp only[dY,hl,ht,Bool.and_true];rw[hh,hk];split <;> rfl
theorem ahc {x:aO}{k:IntKind}{a:Int}(hx:(St.mk pe lo hp df).aa x=some (.int k a))(hr:0<=a/\a<18446744073709551616)
 (h:WO M l ⟨⟨pe,(t,.int .u64 a)::lo,hp,df⟩,wr⟩ Q):WO M (⟨.l t,.dF .u64 x,none⟩::l) ⟨⟨pe,lo,hp,df⟩,wr⟩ Q:=
 WO.op (WP.pure (v:=.int .u64 a) rfl (by
  have:IntKind.u64.wrap a=a:=by simp only[IntKind.wrap,IntKind.bits,IntKind.signed];simp;omega
  simp only[aY,hx,Option.bind_some,lO,this]) h)
theorem agV {x:aO}{k:IntKind}{a:Int}(hx:(St.mk pe lo hp df).aa x=some (.int k a))(hr : -9223372036854775808<=a/\a<9223372036854775808)
 (h:WO M l ⟨⟨pe,(t,.int .i64 a)::lo,hp,df⟩,wr⟩ Q):WO M (⟨.l t,.dF .i64 x,none⟩::l) ⟨⟨pe,lo,hp,df⟩,wr⟩ Q:=
 WO.op (WP.pure (v:=.int .i64 a) rfl (by simp only[aY,hx,Option.bind_some,lO,nK hr]) h)
end Go.Ab

/-
  Own work: one element appended; the end of a run that turns nothing.
-/
namespace Go.Ab
variable {h:ab}
variable {M:ax}
theorem Th {v:AV}{s:aq}(hh:s.s.hp=h)(hw:s.wr=[]):dY v h.length s=⟨v,h,[]⟩:=by
 have hk:h.take h.length=h:=List.take_length;simp only[dY,hh,hw,tight,List.all_nil,Bool.and_true,List.filter_nil,hk];split <;> rfl
theorem nM {g N:Nat}{aR:List Nat}{res:List eM}{body:an}{ars:List AV}{v:AV}(hft:M.FT g=some ⟨N,aR,res,body⟩)(hN:ars.length<=N)
 (hW:W M body ⟨⟨aR.map (fun t=>(ars[t]?).getD cG),[],h,[]⟩,[]⟩ fun x s=>(x = .normal\/x = .ret)/\s.s.bZ=[]/\s.s.hp=h/\s.wr=[]/\∃vs,dh s.s res=some vs/\aW vs=v):aT M g ars h ⟨v,h,[]⟩:=by
 refine vv hft hN (hW.mono fun x s ⟨h1,h2,h3,h4,vs,h5,h6⟩=>⟨h1,h2,vs,h5,?_⟩);subst h6;exact Th h3 h4
theorem Ih {b:Nat}{o:bC}(hb:h.at b=some o):h.put b (some o)=h:=by
 have hl:=eE hb;apply List.ext_getElem?;intro i;simp only[ab.put,List.getElem?_set];split
 . rename_i e;subst e;unfold ab.at at hb;rw[List.getElem?_eq_getElem hl]at hb ⊢;simp at hb ⊢;simp[hb]
 . rfl
end Go.Ab

/-
  Own work: bytes of a text, small conversions, boxes in a heap that grows; the end of a run that drops what it made.
-/
namespace Go.Ab
variable {b n:Nat} {wr:List Nat}
variable {M:ax}
def rS (b n:Nat)(wr:List Nat):Prop:=∀x∈wr,x=b\/n<=x
theorem rS.only(h:gH b wr):rS b n wr:=fun x hx=>.inl (h x hx)
theorem rS.cons (h:rS b n wr):rS b n (b::wr):=fun x hx=>by
 rcases List.mem_cons.1 hx with e|e
 . exact .inl e
 . exact h x e
theorem gQ {f N:Nat}{aR:List Nat}{res:List eM}{body:an}{ars:List AV}{P:AV->ab->Prop}(hft:M.FT f=some ⟨N,aR,res,body⟩)(hN:ars.length<=N)
 (h:W M body ⟨⟨aR.map (fun t=>(ars[t]?).getD cG),[],[],[]⟩,[]⟩ fun e s=>(e = .normal\/e = .ret)/\s.s.bZ=[]/\∃vs,dh s.s res=some vs/\P (aW vs) (if (aW vs).top<=0 then [] else s.s.hp)):∃v hh,P v hh/\aT M f ars [] ⟨v,hh,[]⟩:=by
 obtain⟨⟨n,e,s,h1,h2,h3,vs,h4,h5⟩⟩:=h;exact⟨_,_,h5,bB hft hN ⟨⟨n,e,s,h1,h2,h3,vs,h4,rfl,rfl⟩⟩⟩
theorem agZ {t o:Nat}{ag:Bool}{x:aO}{l:List aU}{pe:List AV}{lo:List (Nat×AV)}{hp:ab}{df:List Nat}{c:List AV}{e:TypeId}{v:AV}{Q:aq->Prop}(hx:(St.mk pe lo hp df).aa x=some (.ptr b o))(hb:hp.at b=some (.cells c e))(hv:partOf (c.drop o) 0 n ag=some v)
 (h:WO M l ⟨⟨pe,(t,v)::lo,hp,df⟩,wr⟩ Q):WO M (⟨.l t,.load n ag x,none⟩::l) ⟨⟨pe,lo,hp,df⟩,wr⟩ Q:=
 ahd hx (show fo hp (.ptr b o)=some (c.drop o) by simp only[fo,hb]) hv h
theorem Ti {n:Int}(h:0<=n/\n<18446744073709551616):IntKind.u64.wrap n=n:=by
 simp only[IntKind.wrap,IntKind.bits,IntKind.signed];simp;omega
theorem ahV {t L:Nat}{x y:aO}{l:List aU}{pe:List AV}{lo:List (Nat×AV)}{hp:ab}{df:List Nat}{k:IntKind}{a:Int}{Q:aq->Prop}(hx:(St.mk pe lo hp df).aa x=some (.int .u64 a))(hy:(St.mk pe lo hp df).aa y=some (.int k L))(hL:L<=64)
 (hr:0<=a*2^L/\a*2^L<18446744073709551616) (h:WO M l ⟨⟨pe,(t,.int .u64 (a*2^L))::lo,hp,df⟩,wr⟩ Q):WO M (⟨.l t,.bin .shl x y,none⟩::l) ⟨⟨pe,lo,hp,df⟩,wr⟩ Q:=
 abg (v:=.int .u64 (a*2^L)) (by
  have e:min ((L:Int)).toNat IntKind.u64.bits=L:=by simp only[IntKind.bits];omega
  simp only[aY,hx,hy,cS,e,Ti hr];rw[if_neg (by omega)]) rfl h
theorem Ii {α:Type}{f:α->List AV}(hf:∀a,(f a).all cV=true):∀l:List α,(arr f l).all cV=true
 | []=>rfl
 | a::l=>by
  have:=Ii hf l;simp only[arr]at this;simp only[arr,List.flatMap_cons,List.all_append,hf a,this,Bool.and_self]
end Go.Ab

/-
  Own work: an append in a drawn region, where no earlier operation is unordered to it.
-/
namespace Go.Ab
variable {M:ax}
end Go.Ab

/-
  Own work: a call with an empty slice, nil or not: told apart, run twice, and told again as one.
-/
namespace Go.Ab
variable {P:Program} {gl:Nat->Option AV}
end Go.Ab

/-
  Own work: arguments that are slices of integers, or arrays of two of them, as the abstract machine sees them.
-/
namespace Go.Ab
open Go.ChangeShapes Go.WideShapes Go.RowKit
variable {H:Type} {enc:TypeId×Value->H} {P:Program} {W:World} {base:Nat} {sp:Nat->Bool} {t e:TypeId} {v:Value} {d:DataW H} {ps:List MemPlace}
end Go.Ab

/-
  Own work: runes of a text, parts of slices, what fills the room; small lists.
-/
namespace Go.Ab
variable {M:ax}
abbrev ao:=List UInt8
def cg:List Int->Int
 | []=>0
 | e::r=>if e=0 then cg r else e
end Go.Ab

/-
  Own work: loops over functions in the calculus of runs: the loop, the rounds that its function asks for, ends of calls.
-/
namespace Go.Ab
variable {h:ab} {v:AV} {n:Nat} {s:aq}
variable {M:ax}
structure iB (M:ax)(f:FuncId)(as:List AV)(h:ab)(K:HR->Prop):Prop where
 out:∃r,aT M f as h r/\K r
theorem iB.rT {f N:Nat}{aR:List Nat}{res:List eM}{body:an}{ars:List AV}{K:HR->Prop}(hft:M.FT f=some ⟨N,aR,res,body⟩)(hN:ars.length<=N)
 (hW:W M body ⟨⟨aR.map (fun t=>(ars[t]?).getD cG),[],h,[]⟩,[]⟩ fun e s=>(e = .normal\/e = .ret)/\∃s',kM s.s.bZ s=some s'/\∃vs,dh s'.s res=some vs/\K (dY (aW vs) h.length s')):iB M f ars h K:=by
 obtain⟨⟨n,e,s,h1,h2,s',h3,vs,h4,h5⟩⟩:=hW;refine⟨_,⟨n,?_⟩,h5⟩;have h1':bm M.ext M.inv M.FT n body ⟨⟨aR.map (fun t=>(ars[t]?).getD cG),[],h,[]⟩,[]⟩=some (e,s):=h1;simp only[gC,hft];rw[if_neg (by omega)];simp only[h1',if_pos h2,h3,h4]
theorem Bo (hv:v.top<=n)(ht:tight s.s.hp n s.wr=true):dY v n s=⟨v,s.s.hp.take n,s.wr.filter (· < n)⟩:=by
 unfold dY;rw[if_pos (by simp[hv,ht])]
theorem Tj (ht:tight s.s.hp n s.wr=false):dY v n s=⟨v,s.s.hp,s.wr.filter (· < n)⟩:=by
 unfold dY;rw[if_neg (by simp[ht])]
theorem ahn {t:Nat}{x y:aO}{l:List aU}{pe:List AV}{lo:List (Nat×AV)}{hp:ab}{df wr:List Nat}{a b:ao}{Q:aq->Prop}(hx:(St.mk pe lo hp df).aa x=some (.str a))(hy:(St.mk pe lo hp df).aa y=some (.str b))(hr:a.length+b.length<4611686018427387904)
 (h:WO M l ⟨⟨pe,(t,.str (a++b))::lo,hp,df⟩,wr⟩ Q):WO M (⟨.l t,.bin .add x y,none⟩::l) ⟨⟨pe,lo,hp,df⟩,wr⟩ Q:=
 abg (v:=.str (a++b)) (by simp only[aY,hx,hy,cS];rw[if_pos (by omega)]) rfl h
theorem Tk {J:ab}(hh:s.s.hp=h++J)(hw:∀x∈s.wr,h.length<=x)(hv:v.top<=h.length):dY v h.length s=⟨v,h,[]⟩:=by
 have hf:s.wr.filter (· < h.length)=[]:=by
  rw[List.filter_eq_nil_iff];intro x hx;have:=hw x hx;simp;omega
 have ht:tight s.s.hp h.length s.wr=true:=by
  simp only[tight,List.all_eq_true];intro x hx;have:=hw x hx;split <;> simp[this]
 have hk:s.s.hp.take h.length=h:=by rw[hh];simp
 rw[Bo hv ht,hf,hk]
theorem lf {g N:Nat}{aR:List Nat}{res:List eM}{body:an}{ars:List AV}(hft:M.FT g=some ⟨N,aR,res,body⟩)(hN:ars.length<=N)(hv:v.top<=h.length)
 (hW:W M body ⟨⟨aR.map (fun t=>(ars[t]?).getD cG),[],h,[]⟩,[]⟩ fun x s=>(x = .normal\/x = .ret)/\s.s.bZ=[]/\(∃J,s.s.hp=h++J)/\(∀x∈s.wr,h.length<=x)/\∃vs,dh s.s res=some vs/\aW vs=v):aT M g ars h ⟨v,h,[]⟩:=by
 refine vv hft hN (hW.mono fun x s ⟨h1,h2,⟨J,h3⟩,h4,vs,h5,h6⟩=>⟨h1,h2,vs,h5,?_⟩);subst h6;exact Tk h3 h4 hv
section
variable {t b j:Nat} {x y:aO} {l:List aU} {pe:List AV} {lo:List (Nat×AV)} {hp:ab} {df wr:List Nat} {c:List AV} {e:TypeId} {Q:aq->Prop}
theorem ahb {ag:Bool}(hx:(St.mk pe lo hp df).aa x=some (.ptr b j))(hb:hp.at b=some (.cells c e))(hv:partOf (c.drop j) 0 n ag=some v)
 (h:WO M l ⟨⟨pe,(t,v)::lo,hp,df⟩,wr⟩ Q):WO M (⟨.l t,.load n ag x,none⟩::l) ⟨⟨pe,lo,hp,df⟩,wr⟩ Q:=
 acT (v:=v) (h':=hp) (w':=[]) (by simp only[bK,hx,Option.bind_some,fo,hb,hv]) rfl rfl h
theorem adi {new:List AV}(hx:(St.mk pe lo hp df).aa x=some (.ptr b j))(hy:((St.mk pe lo hp df).aa y).bind AV.cells=some new)(hb:hp.at b=some (.cells c e))(hn:new.length=n/\j+n<=c.length/\new.all cV=true){c':List AV}(hc:overwrite c j new=c')
 (h:WO M l ⟨⟨pe,lo,hp.put b (some (.cells c' e)),df⟩,b::wr⟩ Q):WO M (⟨.no,.store n x y,none⟩::l) ⟨⟨pe,lo,hp,df⟩,wr⟩ Q:=by
 subst hc;refine agF (v:=cG) (h':=hp.put b (some (.cells (overwrite c j new) e))) (w':=[b]) ?_ rfl rfl h;simp only[bK,hx,hy,hb];rw[if_pos hn]
theorem aio (hx:(St.mk pe lo hp df).aa x=some (.ptr b j))(hb:hp.at b=some (.cells c e))(hj:j<c.length)
 (h:WO M l ⟨⟨pe,(t,.ptr b j)::lo,hp,df⟩,wr⟩ Q):WO M (⟨.l t,.jV none x,none⟩::l) ⟨⟨pe,lo,hp,df⟩,wr⟩ Q:=
 acT (v:=.ptr b j) (h':=hp) (w':=[]) (by simp only[bK,hx,hb];rw[if_pos ⟨hj,trivial⟩]) rfl rfl h
theorem aip (hx:(St.mk pe lo hp df).aa x=some (.ptr b 0))(hb:hp.at b=some (.cells c e))(hj:0<n/\c.length=n)
 (h:WO M l ⟨⟨pe,(t,.ptr b 0)::lo,hp,df⟩,wr⟩ Q):WO M (⟨.l t,.jV (some (e,n)) x,none⟩::l) ⟨⟨pe,lo,hp,df⟩,wr⟩ Q:=
 acT (v:=.ptr b 0) (h':=hp) (w':=[]) (by simp only[bK,hx,hb];rw[if_pos ⟨by omega,by simp[hj.2]⟩]) rfl rfl h
theorem aiw {neg:Bool}(hx:(St.mk pe lo hp df).aa x=some (.ptr b j))(hy:(St.mk pe lo hp df).aa y=some (.ptr b j))(hb:hp.at b=some (.cells c e))
 (h:WO M l ⟨⟨pe,(t,.bool !neg)::lo,hp,df⟩,wr⟩ Q):WO M (⟨.l t,.mV neg x y,none⟩::l) ⟨⟨pe,lo,hp,df⟩,wr⟩ Q:=
 acT (v:=.bool !neg) (h':=hp) (w':=[]) (by simp[bK,hx,hy,hb]) rfl rfl h
end
theorem Ij {H:ab}{wr:List Nat}(hh:s.s.hp=H)(hw:s.wr=wr)(ht:tight H n wr=false):dY v n s=⟨v,H,wr.filter (· < n)⟩:=by
 rw[Tj (by rw[hh,hw];exact ht),hh,hw]
theorem air {t c o e:Nat}{x:aO}{l:List aU}{pe:List AV}{lo:List (Nat×AV)}{hp:ab}{df wr:List Nat}{cap:Option Nat}{Q:aq->Prop}(hx:(St.mk pe lo hp df).aa x=some (.sl c o n e cap))(hn:0<n)
 (h:WO M l ⟨⟨pe,(t,.ptr c o)::lo,hp,df⟩,wr⟩ Q):WO M (⟨.l t,.qX x,none⟩::l) ⟨⟨pe,lo,hp,df⟩,wr⟩ Q:=by
 cases n with
 | zero=>exact absurd hn (Nat.lt_irrefl _)
 | succ m=>exact abg (v:=.ptr c o) (by simp only[aY,hx]) rfl h
theorem ais {t c:Nat}{e:TypeId}{x y:aO}{l:List (aU×List Nat)}{pe:List AV}{lo:List (Nat×AV)}{hp:ab}{df wr:List Nat}{ds:List cn}{cs cs':List AV}{k:IntKind}{n:Int}{s:ao}{Q:aq->Prop}(hx:(St.mk pe lo hp df).aa x=some (.ptr c 0))(hy:(St.mk pe lo hp df).aa y=some (.int k n))
 (hb:hp.at c=some (.cells cs e)) (hn:0<n/\n<=70368744177664) (hc:cut cs 0 n.toNat=some cs') (hs:bytesOf cs'=some s) (h:∀dn,WD M l ⟨⟨pe,(t,.str s)::lo,hp.put c none,df⟩,[c]++wr⟩ (ds++[dn]) Q):WD M ((⟨.l t,.jz e x y,none⟩,[])::l) ⟨⟨pe,lo,hp,df⟩,wr⟩ ds Q:=by
 have hT:([c]:List Nat).contains c=true:=by simp
 have hk:(dw [c] hp 0).at c=hp.at c:=by rw[Bj,if_pos hT]
 obtain⟨⟨m,s',h2,h3⟩⟩:=h ⟨some [c],[c],hp.length,(ab.put (dw [c] hp 0) c none).length⟩;refine⟨⟨m,s',?_,h3⟩⟩;have hx':(St.mk pe lo (dw [c] hp 0) df).aa x=some (.ptr c 0):=by rw[←hx];cases x <;> rfl
 have hy':(St.mk pe lo (dw [c] hp 0) df).aa y=some (.int k n):=by rw[←hy];cases y <;> rfl
 have key:bU (M.call m) M.inv ⟨pe,lo,dw [c] hp 0,df⟩ (.jz e x y)=some ⟨.str s,ab.put (dw [c] hp 0) c none,[c]⟩:=by
  simp only[bU,bc.bJ,if_true,bK,hx',hy',hk,hb,hc,hs];rw[if_pos (by omega)]
 have ht:jC ⟨pe,lo,hp,df⟩ (.jz e x y)=some [c]:=by
  simp only[jC,hx]
 have hd:gV [c] []=true:=by simp[gV]
 have hsome:((dw [c] hp 0).at c).isSome=true:=by rw[hk,hb];rfl
 simp only[dT,eZ,bc.bJ,if_true,ht,List.flatMap_nil,hd,key];simp only[List.all_cons,List.all_nil,hsome,Bool.and_self,Bool.or_true,if_true,HZ];exact h2
theorem Tm {H:ab}{wr:List Nat}(hh:s.s.hp=H)(hw:s.wr=wr)(hv:v.top<=n)(ht:tight H n wr=true):dY v n s=⟨v,H.take n,wr.filter (· < n)⟩:=by
 rw[Bo hv (by rw[hh,hw];exact ht),hh,hw]
end Go.Ab

/-
  Own work: parts of texts, the lesser of two numbers, in the calculus of runs.
-/
namespace Go.Ab
variable {M:ax} {t:Nat} {x y z:aO} {l:List aU} {pe:List AV} {lo:List (Nat×AV)} {hp:ab} {df wr:List Nat} {s r:ao} {k k':IntKind} {a b:Int} {Q:aq->Prop}
theorem agf (hx:(St.mk pe lo hp df).aa x=some (.str s))(hy:(St.mk pe lo hp df).aa y=some (.int k a))(ha:0<=a/\a<=s.length)(hr:s.drop a.toNat=r)
 (h:WO M l ⟨⟨pe,(t,.str r)::lo,hp,df⟩,wr⟩ Q):WO M (⟨.l t,.slice .str 1 x (some y) none none,none⟩::l) ⟨⟨pe,lo,hp,df⟩,wr⟩ Q:=by
 subst hr;refine abg (v:=.str (s.drop a.toNat)) ?_ rfl h;simp only[aY,hx,St.dc,hy,Option.map_some,jg,bP];rw[if_pos ha];have:(s.drop a.toNat).take (s.length-a.toNat)=s.drop a.toNat:=List.take_of_length_le (by simp);simp[this]
theorem agt (hx:(St.mk pe lo hp df).aa x=some (.str s))(hy:(St.mk pe lo hp df).aa y=some (.int k a))(ha:0<=a/\a<=s.length)(hr:s.take a.toNat=r)
 (h:WO M l ⟨⟨pe,(t,.str r)::lo,hp,df⟩,wr⟩ Q):WO M (⟨.l t,.slice .str 1 x none (some y) none,none⟩::l) ⟨⟨pe,lo,hp,df⟩,wr⟩ Q:=by
 subst hr;refine abg (v:=.str (s.take a.toNat)) ?_ rfl h;simp only[aY,hx,St.dc,hy,Option.map_some,jg,bP];rw[if_pos ha];simp
theorem aik (hx:(St.mk pe lo hp df).aa x=some (.str s))(hy:(St.mk pe lo hp df).aa y=some (.int k a))(hz:(St.mk pe lo hp df).aa z=some (.int k' b))(ha:0<=a/\a<=b/\b<=s.length)(hr:(s.drop a.toNat).take (b.toNat-a.toNat)=r)
 (h:WO M l ⟨⟨pe,(t,.str r)::lo,hp,df⟩,wr⟩ Q):WO M (⟨.l t,.slice .str 1 x (some y) (some z) none,none⟩::l) ⟨⟨pe,lo,hp,df⟩,wr⟩ Q:=by
 subst hr;refine abg (v:=.str ((s.drop a.toNat).take (b.toNat-a.toNat))) ?_ rfl h;have h1:0<=b/\b<=(s.length:Int):=⟨by omega,ha.2.2⟩;have h2:0<=a/\a<=(b.toNat:Int):=⟨ha.1,by omega⟩;simp only[aY,hx,St.dc,hy,hz,Option.map_some,jg,bP];simp only[Option.isNone_none,Option.isSome_none,Bool.true_or,if_true,if_pos h1,if_pos h2]
theorem aix {m:Int}(hx:(St.mk pe lo hp df).aa x=some (.int k a))(hy:(St.mk pe lo hp df).aa y=some (.int k b))(hm:m=a/\a<=b\/m=b/\b<=a)
 (h:WO M l ⟨⟨pe,(t,.int k m)::lo,hp,df⟩,wr⟩ Q):WO M (⟨.l t,.mm false [x,y],none⟩::l) ⟨⟨pe,lo,hp,df⟩,wr⟩ Q:=by
 refine abg (v:=.int k m) ?_ rfl h;simp only[aY,St.cL,hx,hy];have e:(if b<a then b else a)=m:=by split <;> omega
 simp[mY,e]
end Go.Ab

/-
  Own work: the calculus: a heap that is known by facts, its newest block; lists that grow, of any elements.
-/
namespace Go.Ab
variable {e:TypeId}
variable {M:ax}
theorem agb {u n b off:Nat}{ag:Bool}{x:aO}{L:List aU}{pe:List AV}{lo:List (Nat×AV)}{hp:ab}{df wr:List Nat}{c:List AV}{v:AV}{Q:aq->Prop}(hx:(St.mk pe lo hp df).aa x=some (.ptr b off))(hb:hp.at b=some (.cells c e))(hv:partOf (c.drop off) 0 n ag=some v)
 (h:WO M L ⟨⟨pe,(u,v)::lo,hp,df⟩,wr⟩ Q):WO M (⟨.l u,.load n ag x,none⟩::L) ⟨⟨pe,lo,hp,df⟩,wr⟩ Q:=
 acT (v:=v) (h':=hp) (w':=[]) (by simp only[bK,hx,Option.bind_some,fo,hb,hv]) rfl rfl h
theorem ags {n:Nat}{x y:aO}{L:List aU}{pe:List AV}{lo:List (Nat×AV)}{K:ab}{df wr:List Nat}{c c' new:List AV}{Q:aq->Prop}(hx:(St.mk pe lo (K++[some (.cells c e)]) df).aa x=some (.ptr K.length 0))(hy:((St.mk pe lo (K++[some (.cells c e)]) df).aa y).bind AV.cells=some new)
 (hn:new.length=n/\n<=c.length/\new.all cV=true) (ho:overwrite c 0 new=c') (h:WO M L ⟨⟨pe,lo,K++[some (.cells c' e)],df⟩,K.length::wr⟩ Q):WO M (⟨.no,.store n x y,none⟩::L) ⟨⟨pe,lo,K++[some (.cells c e)],df⟩,wr⟩ Q:=by
 obtain⟨h1,h2,h3⟩:=hn;refine agF (v:=cG) (h':=K++[some (.cells c' e)]) (w':=[K.length]) ?_ rfl rfl h;simp only[bK,hx,hy,bX,Nat.zero_add];rw[if_pos ⟨h1,h2,h3⟩,ho];simp[ab.put]
def Bp {α:Type}(f:α->List AV)(esz:Nat)(e:TypeId)(hp:ab)(o:AV)(acc:List α)(S:List Nat):Prop:=(acc=[]/\o = .ae)\/∃c,acc≠[]/\c∉S/\o = .sl c 0 acc.length esz none/\hp.at c=some (.cells (arr f acc) e)
theorem Bp.fin {α:Type}{f:α->List AV}{esz:Nat}{hp:ab}{o:AV}{acc:List α}{S:List Nat}(h:Bp f esz e hp o acc S):Bp f esz e (if (aW [o]).top<=0 then [] else hp) o acc S:=by
 rcases h with ⟨h1,rfl⟩|⟨c,h0,h1,rfl,h2⟩
 . exact .inl ⟨h1,rfl⟩
 . refine .inr ⟨c,h0,h1,rfl,?_⟩;rw[if_neg (by simp[aW,AV.top])];exact h2
end Go.Ab

/-
  Own work: contracts that are told by a relation; lists as arguments, of any elements; values that are compared with themselves.
-/
namespace Go.Ab
variable {M:ax} {P:Program} {gl:Nat->Option AV}
open Classical in
noncomputable def nN (R:List AV->ab->HR->Prop):Spec:=fun as h=>if e:∃r,R as h r then some (Classical.choose e) else none
theorem Br {f:Nat}{R:List AV->ab->HR->Prop}(hR:∀as h r,R as h r->bT P gl ⟨f,as,h,r⟩):aS P gl f (nN R):=by
 intro as h r hq;unfold nN at hq;split at hq
 . rename_i e;cases hq;exact hR _ _ _ (Classical.choose_spec e)
 . cases hq
theorem Bs {R:List AV->ab->HR->Prop}{as:List AV}{h:ab}{r:HR}(hr:R as h r)(hd:∀r',R as h r'->r'=r):nN R as h=some r:=by
 unfold nN;rw[dif_pos ⟨r,hr⟩];exact congrArg some (hd _ (Classical.choose_spec (p:=fun r=>R as h r) ⟨r,hr⟩))
section
variable {α:Type} {f:α->List AV} {esz:Nat}
theorem Ik (hf:∀a,(f a).length=esz)(hi:∀a b,f a=f b->a=b):∀{l m:List α},l.length=m.length->arr f l=arr f m->l=m
 | [],[],_,_=>rfl
 | a::l,b::m,hl,h=>by
  rw[ki,ki]at h;have:=List.append_inj h (by rw[hf,hf]);rw[hi _ _ this.1,Ik hf hi (by simpa using hl) this.2]
theorem Sl.nO {h:ab}:Sl f h .ae ([]:List α):=.inl ⟨rfl,rfl⟩
theorem Sl.iN (hf:∀a,(f a).length=esz){h:ab}{l:List α}{b n:Nat}{e:TypeId}{cap:Option Nat}(hb:h.at b=some (.cells (arr f l) e))(hn:l.length=n):Sl f h (.sl b 0 n esz cap) l:=by
 subst hn;refine .inr (.inr ⟨b,0,esz,cap,_,e,rfl,hb,?_⟩);have:=kj hf (l:=l) (i:=0) (n:=l.length) (by omega);rw[Nat.zero_mul]at this;rw[this];simp
end
end Go.Ab

/-
  Own work: arguments of any type without pointers, as the abstract machine sees them.
-/
namespace Go.Ab
open Go.ChangeShapes Go.WideShapes Go.RowKit
inductive CellT
 | bool
 | int (k:IntKind)
 | str
 | slice (es:List CellT)
mutual
def Has:CellT->AV->Prop
 | .bool,x=>∃b,x = .bool b
 | .int k,x=>∃n,x = .int k n/\(Lit.int k n).wf=true
 | .str,x=>∃s:List UInt8,x = .str s/\s.length<=maxLen
 | .slice es,x=>∃ls:List (List AV),x = .vs ls.flatten ls.length none/\ls.length<=maxLen/\∀c∈ls,HasL es c
def HasL:List CellT->List AV->Prop
 | [],l=>l=[]
 | t::ts,l=>∃x r,l=x::r/\Has t x/\HasL ts r
end
theorem HasL.length:∀{ts:List CellT} {l:List AV},HasL ts l->l.length=ts.length
 | [],l,h=>by simp only[HasL]at h;subst h;rfl
 | t::ts,l,h=>by
  simp only[HasL]at h;obtain⟨x,r,rfl,_,h2⟩:=h;simp[h2.length]
section
variable (P:Program)
end
variable {H:Type} {enc:TypeId×Value->H} {P:Program} {W:World}
end Go.Ab

/-
  Own work: what a call has made is handed back by its contents: no block of the caller's is added.
-/
namespace Go.Ab
variable {FT:FuncId->Option dg}
variable {P:Program} {gl:Nat->Option AV}
def jr (ρ:aw):aw:=⟨fun _=>.fresh,ρ.X⟩
theorem cT.jr {ρ:aw}{c:Nat}(h:¬ρ.X c):cT (jr ρ) c:=⟨fun b d hb=>by simp[Go.Ab.jr]at hb,h⟩
theorem Tn (hgl:∀g v,gl g=some v->v.top=0){w:World}{ρ:aw}{T:List Nat}{v v1:AV}{hh:ab}{v':Value}{w':World}(hf:Fr hh T v v1)(ht:v1.top=0)(hd:eA P gl (dz ρ []) [] w ⟨v,hh,[]⟩ v' w'):eA P gl (dz ρ []) [] w ⟨v1,[],[]⟩ v' w':=by
 obtain⟨ρ',hv,m',x⟩:=hd;have hF:∀c,cT (dz ρ' T) c->cT (jr ρ') c:=fun c hc=>cT.jr fun hx=>hc.2 (.inl hx)
 have hF':∀c,cT ρ' c->cT (jr ρ') c:=fun c hc=>cT.jr hc.2
 refine⟨jr ρ',(hf.view m' hv).gr (n:=0) (fun b hb=>by omega) hF (by omega),?_,?_⟩
 . refine⟨fun b o hb=>by simp at hb,fun b _=>rfl,fun b b' c d d' h1=>by simp[jr]at h1,fun b c d h1=>by simp[jr]at h1,m'.xb,fun b c d h1=>by simp[jr]at h1,fun g v hg=>?_⟩;exact(m'.gl g v hg).gr (n:=0) (fun b hb=>by omega) hF' (by rw[hgl g v hg];exact Nat.le_refl _)
 . refine⟨x.os,x.tape,x.output,x.size,Nat.le_refl _,x.X,fun b hb=>by simp at hb,fun b hb=>by simp at hb,fun b c d hb=>by simp[dz]at hb,fun b hb=>by simp[dz]at hb,fun b hb=>by simp[dz]at hb,fun c hc _=>x.bY c hc (fun b d hb=>by simp[dz]at hb),fun b c d hb _=>by simp[jr]at hb,x.shape⟩
theorem To (hgl:∀g v,gl g=some v->v.top=0){f:Nat}{as:List AV}{h:ab}{v v1:AV}{hh:ab}{T:List Nat}(ha:br as=0)(hf:Fr hh T v v1)(ht:v1.top=0)(hloc:bT P gl ⟨f,as,[],⟨v,hh,[]⟩⟩):bT P gl ⟨f,as,h,⟨v1,h,[]⟩⟩:=by
 refine⟨⟨Nat.le_refl _,fun _ _ _=>rfl⟩,fun ρ w as' m hl=>?_⟩;obtain⟨nx,w1,h1,h2⟩:=hloc.2 (dz ρ []) w as' (m.dz hgl []) ((gP.same ha).view m hl);refine⟨nx,w1,h1,h2.mono fun v w' hd=>?_⟩;have:=HO (S:=[]) (ks:=[]) (bs:=[]) m (by simp) (.same ht) rfl (by simp) (.inl rfl) (Tn hgl hf ht hd);simpa using this
theorem Tp (hs:jK P gl FT){T:List (Nat×Spec)}(hT:cz P gl (bk T)){f:Nat}{as:List AV}{h hh:ab}{B:List Nat}{v v1:AV}(hr:aT (aV P FT T) f as [] ⟨v,hh,[]⟩)(ha:br as=0)(hf:Fr hh B v v1)(ht:v1.top=0):bT P gl ⟨f,as,h,⟨v1,h,[]⟩⟩:=
 To hs.gl ha hf ht (pK hs hT hr ⟨Nat.zero_le _,fun _ hb=>absurd hb (Nat.not_lt_zero _)⟩)
def mz (N:Nat):aw:=⟨fun _=>.fresh,fun c=>c<N⟩
theorem cT.mz {N c:Nat}(h:N<=c):cT (mz N) c:=⟨fun b d hb=>by simp[Go.Ab.mz]at hb,fun hx=>absurd hx (by show ¬c<N;omega)⟩
theorem Fr.Tq {ρ:aw}{h:ab}{w:World}(m:Mem P gl ρ h w){N:Nat}(hnew:∀b c d,ρ b = .live c d->N<=c){T:List Nat}(hT:∀b l e,b∈T->h.at b=some (.cells l e)->ff l=true){a a0:AV}(hr:Fr h T a a0):dm a=true->a0.top=0->∀{v:Value},V ρ w a v->V (mz N) w a0 v:=by
 have hat:∀{b o},h.at b=some o->h[b]? = some (some o):=fun {b o} hb=>by
  unfold ab.at at hb;cases hz:h[b]? with
  | none=>rw[hz]at hb;cases hb
  | some z=>rw[hz]at hb;simp only[Option.join_some]at hb;rw[hb]
 have cutN:∀{l m':List AV} {off n:Nat},ff l=true->cut l off n=some m'->∀(i:Nat) x,m'[i]? = some x->dm x=true:=fun {l m' off n} hn hc i x hx=>by
  simp only[cut]at hc;split at hc
  . cases hc;rw[List.getElem?_take]at hx;split at hx
    . rw[List.getElem?_drop]at hx;exact gG hn hx
    . cases hx
  . cases hc
 induction hr with
 | same ht=>exact fun hn _ v hv=>HN ht hn hv
 | nil hc=>
  intro _ _ v hv;cases hv;exact .ek hc
 | @sl b off len esz cap cap' l m' m0 e hb ha hc hl hg hcc ih=>
  intro _ ht v hv;simp only[AV.top]at ht;have ih':∀(i:Nat) x y,m'[i]? = some x->m0[i]? = some y->∀{v:Value},V ρ w x v->V (mz N) w y v:=fun i x y hx hy {v} hv=>
   ih i x y hx hy (cutN (hT b l e hb ha) hc i x hx) (by have:=fm (n:=0) (by omega) i y hy;omega) hv
  have hB:=m.cY b _ (hat ha);have hcut:m'.length=len*esz/\∀i,i<m'.length->m'[i]? = l[off+i]? := by
   simp only[cut]at hc;split at hc
   . rename_i hlen;cases hc;refine⟨hlen,fun i hi=>?_⟩;rw[List.getElem?_take,if_pos (by omega),List.getElem?_drop]
   . cases hc
  cases hv with
  | @sl _ c d _ _ _ capC _ h1 h2 h3 h4=>
   have h3:∀n,cap'=some n->capC=n:=fun n hn=>by
    rcases hcc with rfl|rfl
    . exact h3 n hn
    . cases hn
   rcases hB with ⟨c',d',cs,fr,g1,g2,g3,g4,g5⟩|⟨g1,_⟩
   . rw[h1]at g1;cases g1;refine .vs c (off+d) (fun i=>cs.getD (off+d+i) (.bool false)) (fun _=>cT.mz (hnew _ _ _ h1)) h2 h3 (fun i hi=>?_) (fun i y hy=>?_)
     . have hi':i<m'.length:=by omega
       have hlt:off+i<l.length:=by
        have:=hcut.2 i hi';rw[List.getElem?_eq_getElem hi']at this;exact(List.getElem?_eq_some_iff.1 this.symm).1
       have:off+d+i<cs.size:=by have:=g3.1;omega
       simp only[World.cell?,g2];simp[this,Array.getD]
     . have hi:i<m0.length:=(List.getElem?_eq_some_iff.1 hy).1;have hi':i<m'.length:=by omega
       have hx:=hcut.2 i hi';rw[List.getElem?_eq_getElem hi']at hx;have hlt:off+i<l.length:=(List.getElem?_eq_some_iff.1 hx.symm).1;have hs:off+d+i<cs.size:=by have:=g3.1;omega
       refine ih' i m'[i] y (List.getElem?_eq_getElem hi') hy ?_;refine g5 (off+i) _ _ hx.symm ?_;rw[show off+i+d=off+d+i from by omega];simp[hs,Array.getD]
   . rw[h1]at g1;cases g1
  | @fx _ _ h1=>
   rcases hB with ⟨c',d',cs,fr,g1,_⟩|⟨g1,g2⟩
   . rw[h1]at g1;cases g1
   . have:m0=[]:=List.eq_nil_of_length_eq_zero (by omega);subst this;exact .ek (by rcases hcc with rfl|rfl <;> simp)
  | ew c o' h1 _ _=>
   rcases hB with ⟨c',d',cs,fr,g1,_⟩|⟨g1,g2⟩ <;> (rw[h1]at g1;cases g1)
  | fy a h1=>
   rcases hB with ⟨c',d',cs,fr,g1,_⟩|⟨g1,g2⟩ <;> (rw[h1]at g1;cases g1)
  | fl h1=>
   rcases hB with ⟨c',d',cs,fr,g1,_⟩|⟨g1,g2⟩ <;> (rw[h1]at g1;cases g1)
 | @ptr b off l m0 e hb ha hl hg ih=>
  intro _ ht v hv;simp only[AV.top]at ht;have hB:=m.cY b _ (hat ha);cases hv with
  | @ptr _ c d _ h1=>
   rcases hB with ⟨c',d',cs,fr,g1,g2,g3,g4,g5⟩|⟨g1,_⟩
   . rw[h1]at g1;cases g1;refine .vp c (off+d) (fun i=>cs.getD (off+d+i) (.bool false)) (fun _=>cT.mz (hnew _ _ _ h1)) (fun i hi=>?_) (fun i y hy=>?_)
     . have:off+d+i<cs.size:=by have:=g3.1;simp at hl;omega
       simp only[World.cell?,g2];simp[this,Array.getD]
     . have hi:i<m0.length:=(List.getElem?_eq_some_iff.1 hy).1;have hi':i<(l.drop off).length:=by omega
       have hlt:off+i<l.length:=by simp at hi';omega
       have hs:off+d+i<cs.size:=by have:=g3.1;omega
       refine ih i _ y (List.getElem?_eq_getElem hi') hy ?_ (by have:=fm (n:=0) (by omega) i y hy;omega) ?_
       . rw[List.getElem_drop];exact gG (hT b l e hb ha) (List.getElem?_eq_getElem hlt)
       . refine g5 (off+i) _ _ (by rw[List.getElem_drop];exact List.getElem?_eq_getElem hlt) ?_;rw[show off+i+d=off+d+i from by omega];simp[hs,Array.getD]
   . rw[h1]at g1;cases g1
  | dV _ c o' h1=>
   rcases hB with ⟨c',d',cs,fr,g1,_⟩|⟨g1,g2⟩ <;> (rw[h1]at g1;cases g1)
 | @vs l l0 n cap hl hg ih=>
  intro hn _ v hv;simp only[dm,List.isEmpty_iff]at hn;subst hn;have:l0=[]:=List.eq_nil_of_length_eq_zero (by simp at hl;omega);subst this;cases hv with
  | vs c o g hf h2 h3 h4 h5=>exact .vs c o g (fun h=>absurd rfl h) h2 h3 (by simp) (by simp)
  | ek hc=>exact .ek hc
  | fz a hc=>exact .fz a hc
 | @agg l l0 hl hg ih=>
  intro hn ht v hv;simp only[dm]at hn;simp only[AV.top]at ht;cases hv with
  | @agg _ mm h1 h2=>
   refine .agg (by omega) fun i y z hy hz=>?_
   have hi:i<l.length:=by have:=(List.getElem?_eq_some_iff.1 hy).1;omega
   exact ih i _ y (List.getElem?_eq_getElem hi) hy (gG hn (List.getElem?_eq_getElem hi)) (by have:=fm (n:=0) (by omega) i y hy;omega) (h2 i _ z (List.getElem?_eq_getElem hi) hz)
 | @au l l0 hl hg ih=>
  intro hn ht v hv;simp only[dm]at hn;simp only[AV.top]at ht;cases hv with
  | @au _ mm h1 h2=>
   refine .au (by omega) fun i y z hy hz=>?_
   have hi:i<l.length:=by have:=(List.getElem?_eq_some_iff.1 hy).1;omega
   exact ih i _ y (List.getElem?_eq_getElem hi) hy (gG hn (List.getElem?_eq_getElem hi)) (by have:=fm (n:=0) (by omega) i y hy;omega) (h2 i _ z (List.getElem?_eq_getElem hi) hz)
 | @fn f fi fi0 ca ca0 hf h1 h2 g1 g2 ih1 ih2=>
  intro hn ht v hv;simp only[dm,Bool.and_eq_true]at hn;have hh:br fi0<=0/\br ca0<=0:=by
   cases f <;> simp only[AV.top]at ht <;> exact⟨by omega,by omega⟩
  cases hv with
  | fn hf' a1 a2 a3 a4=>
   refine .fn hf (by omega) (by omega) (fun i y z hy hz=>?_) (fun i y z hy hz=>?_)
   . have hi:i<fi.length:=by have:=(List.getElem?_eq_some_iff.1 hy).1;omega
     exact ih1 i _ y (List.getElem?_eq_getElem hi) hy (gG hn.1 (List.getElem?_eq_getElem hi)) (by have:=fm hh.1 i y hy;omega) (a3 i _ z (List.getElem?_eq_getElem hi) hz)
   . have hi:i<ca.length:=by have:=(List.getElem?_eq_some_iff.1 hy).1;omega
     exact ih2 i _ y (List.getElem?_eq_getElem hi) hy (gG hn.2 (List.getElem?_eq_getElem hi)) (by have:=fm hh.2 i y hy;omega) (a4 i _ z (List.getElem?_eq_getElem hi) hz)
  | yield _=>exact absurd rfl (hf _)
  | gK _ _=>exact absurd rfl (hf _)
theorem Tr {w:World}{ρ:aw}{h:ab}(m:Mem P gl ρ h w){S T:List Nat}{v v1:AV}{hh:ab}{v':Value}{w':World}(hf:Fr hh T v v1)(hn:dm v=true)(hT:∀b l e,b∈T->hh.at b=some (.cells l e)->ff l=true)(ht:v1.top=0)(hd:eA P gl (dz ρ S) [] w ⟨v,hh,[]⟩ v' w'):eA P gl ρ h w ⟨v1,h,[]⟩ v' w':=by
 obtain⟨ρ',hv,m',x⟩:=hd;have bY:∀c,c<w.heap.size->w'.heap[c]? = w.heap[c]? := fun c hc=>x.bY c hc fun b d hb=>by simp[Go.Ab.dz]at hb
 have new:∀b c d,ρ' b = .live c d->w.heap.size<=c:=fun b c d hb=>by
  rcases Nat.lt_or_ge c w.heap.size with hc|hc
  . rcases x.back b c d hb hc with h1|⟨b0,d0,h1,_⟩ <;> simp[Go.Ab.dz]at h1
  . exact hc
 have hV:=hf.Tq m' new hT hn ht hv;have hF:∀c,cT (mz w.heap.size) c->cT ρ c:=fun c hc=>by
  have hge:w.heap.size<=c:=by
   rcases Nat.lt_or_ge c w.heap.size with h|h
   . exact absurd h hc.2
   . exact h
  exact⟨fun b d hb=>by have:=m.bound b c d hb;omega,fun hx=>by have:=m.xb c hx;omega⟩
 have E:Ext h h ρ ρ w w':=⟨x.os,x.tape,x.output,x.size,Nat.le_refl _,rfl,fun _ h=>h,fun _ _=>rfl,fun _ _ _ h=>.inl h,fun _ h=>h,fun _ h=>.inl h,fun c hc _=>bY c hc,fun b c d hb _=>.inl hb,x.shape⟩;refine⟨ρ,hV.gr (n:=0) (fun b hb=>by omega) hF (by omega),m.ext E ?_ m.fresh m.inj ?_,E⟩
 . intro b o hb;exact(m.cY b o hb).mono E rfl fun c d hl=>bY c (m.bound b c d hl)
 . intro b c d hb;exact Nat.lt_of_lt_of_le (m.bound b c d hb) x.size
theorem Ts (hs:jK P gl FT){T:List (Nat×Spec)}(hT:cz P gl (bk T)){f:Nat}{as as0:List AV}{h hh:ab}{S B:List Nat}{v v1:AV}(hr:aT (aV P FT T) f as0 [] ⟨v,hh,[]⟩)(hv:gP h S as as0)(hf:Fr hh B v v1)(hn:dm v=true)(hB:∀b l e,b∈B->hh.at b=some (.cells l e)->ff l=true)(ht:v1.top=0):bT P gl ⟨f,as,h,⟨v1,h,[]⟩⟩:=by
 have hloc:=pK hs hT hr ⟨Nat.zero_le _,fun _ hb=>absurd hb (Nat.not_lt_zero _)⟩;refine⟨⟨Nat.le_refl _,fun _ _ _=>rfl⟩,fun ρ w as' m hl=>?_⟩;obtain⟨nx,w1,h1,h2⟩:=hloc.2 (dz ρ S) w as' (m.dz hs.gl S) (hv.view m hl);exact⟨nx,w1,h1,h2.mono fun v w' hd=>Tr m hf hn hB ht hd⟩
def ij (hh:ab)(v v1:AV):Prop:=∃B,Fr hh B v v1/\dm v=true/\∀b l e,b∈B->hh.at b=some (.cells l e)->ff l=true
theorem ij.same {hh:ab}{v:AV}(ht:v.top=0)(hn:dm v=true):ij hh v v:=⟨[],.same ht,hn,by simp⟩
theorem ij.nil {hh:ab}:ij hh .ae (.vs [] 0 none):=⟨[],.nil (fun n hn=>by cases hn),rfl,by simp⟩
theorem Tt (hs:jK P gl FT){T:List (Nat×Spec)}(hT:cz P gl (bk T)){f:Nat}{as as0:List AV}{h hh:ab}{S:List Nat}{v v1:AV}(hr:aT (aV P FT T) f as0 [] ⟨v,hh,[]⟩)(hv:gP h S as as0)(hf:ij hh v v1)(ht:v1.top=0):bT P gl ⟨f,as,h,⟨v1,h,[]⟩⟩:=by
 obtain⟨B,h1,h2,h3⟩:=hf;exact Ts hs hT hr hv h1 h2 h3 ht
end Go.Ab

/-
  Own work: loops by an invariant; parts of lists; lists that grow, of elements that refer to blocks.
-/
namespace Go.Ab
variable {I:aq->Prop} {s:aq}
variable {M:ax}
structure LI (I:aq->Prop)(Q:Ex->aq->Prop)(e:Ex)(s:aq):Prop where
 out:match e with
  | .normal=>I s
  | e=>Q e s
theorem dE {Q:Ex->aq->Prop}(h:I s):LI I Q .normal s:=⟨h⟩
theorem nf {Q:Ex->aq->Prop}{i:Nat}(h:Q (.exit i) s):LI I Q (.exit i) s:=⟨h⟩
theorem Il {Q:Ex->aq->Prop}(h:Q .ret s):LI I Q .ret s:=⟨h⟩
theorem W.fT {c:an}{Q:Ex->aq->Prop}(I:Nat->aq->Prop)(hs:∀m s,I m s->W M c s (LI (fun s'=>∃m',m'<m/\I m' s') Q)):∀{m:Nat} {s:aq},I m s->W M (.loop c) s Q:=by
 intro m;induction m using Nat.strongRecOn with
 | ind m ih=>
  intro s h;refine W.loop ((hs m s h).mono fun e s' he=>?_);cases e with
  | normal=>
   obtain⟨m',hm,hI⟩:=he.out;exact⟨ih m' hm hI⟩
  | exit i=>exact⟨he.out⟩
  | ret=>exact⟨he.out⟩
theorem W.iT {c:an}{Q:Ex->aq->Prop}(n:Nat)(I:Nat->aq->Prop)(hs:∀i s,i<n->I i s->W M c s (LI (I (i+1)) Q))(he:∀s,I n s->W M c s (LI (fun _=>False) Q)){i:Nat}{s:aq}(hi:i<=n)(h:I i s):W M (.loop c) s Q:=by
 refine W.fT (fun m s=>m<=n/\I (n-m) s) (fun m s ⟨hm,h⟩=>?_) (m:=n-i) ⟨Nat.sub_le _ _,by rwa [Nat.sub_sub_self hi]⟩;rcases Nat.eq_zero_or_pos m with rfl|h0
 . exact(he s h).mono fun e s' he=>⟨by
    cases e with
    | normal=>exact he.out.elim
    | exit i=>exact he.out
    | ret=>exact he.out⟩
 . refine(hs (n-m) s (by omega) h).mono fun e s' he=>⟨?_⟩
   cases e with
   | normal=>exact⟨m-1,by omega,by omega,by have:=he.out;rwa [show n-m+1=n-(m-1) by omega]at this⟩
   | exit i=>exact he.out
   | ret=>exact he.out
section
variable {α:Type} {f:α->List AV} {esz t:Nat} {x y:aO} {L:List aU} {pe:List AV} {lo:List (Nat×AV)} {hp:ab} {df wr:List Nat} {l:List α} {cap:Option Nat} {k:IntKind} {n:Int} {Q:aq->Prop}
theorem ail (hx:(St.mk pe lo hp df).aa x=some (.vs (arr f l) l.length cap))(hy:(St.mk pe lo hp df).aa y=some (.int k n))(hf:∀a,(f a).length=esz)(hn:0<=n/\n<=l.length)
 (h:WO M L ⟨⟨pe,(t,.vs (arr f (l.take n.toNat)) (l.take n.toNat).length cap)::lo,hp,df⟩,wr⟩ Q):WO M (⟨.l t,.slice .sl esz x none (some y) none,none⟩::L) ⟨⟨pe,lo,hp,df⟩,wr⟩ Q:=by
 refine abg (v:=.vs (arr f (l.take n.toNat)) (l.take n.toNat).length cap) ?_ rfl h;have hle:n.toNat<=l.length:=by omega
 have hl:(l.take n.toNat).length=n.toNat:=by rw[List.length_take];omega
 have hc:cap.map (fun x=>x)=cap:=by cases cap <;> rfl
 have h0:(0:Int)<=n/\n<=(l.length:Int):=by omega
 simp only[aY,hx,St.dc,hy,Option.map_some,jg,bP,Option.isNone_none,Option.isSome_some,Bool.true_or,if_true,if_pos h0];simp only[Nat.zero_mul,List.drop_zero,Nat.sub_zero,Bi hf,hl,hc]
end
theorem Tu {α:Type}{f:α->List AV}{esz:Nat}{e:TypeId}{hp:ab}{c n:Nat}{cap:Option Nat}{l:List α}(hf:∀a,(f a).length=esz)(ht:∀a,br (f a)=0)(h:hp.at c=some (.cells (arr f l) e))(hn:l.length=n):Fr hp [c] (.sl c 0 n esz cap) (.vs (arr f l) l.length none):=by
 subst hn;have:=kj hf (l:=l) (i:=0) (n:=l.length) (by omega);rw[Nat.zero_mul]at this;refine .sl (List.mem_singleton.2 rfl) h this (by simp) (fun i x y hx hy=>?_) (.inr rfl);simp at hx;rw[hx]at hy;cases hy;exact .same (by have:=fm (n:=0) (Nat.le_of_eq (pP ht l)) i x hx;omega)
end Go.Ab

/-
  Own work: lists that grow by appends of whole lists, and parts of them.
-/
namespace Go.Ab
variable {M:ax} {α:Type} {f:α->List AV} {esz:Nat} {e:TypeId} {hp H:ab} {o y:AV} {acc m:List α} {S S':List Nat}
theorem Sl.cells (hf:∀a,(f a).length=esz)(h:Sl f hp y m):eO hp y=some (arr f m,m.length):=by
 rcases h with ⟨rfl,rfl⟩|⟨cap,rfl⟩|⟨b,off,ez,cap,c,e,rfl,h1,h2⟩
 . rfl
 . rfl
 . simp only[eO,h1,h2,Option.map_some]
def cF (f:α->List AV)(esz:Nat)(e:TypeId)(hp:ab)(o:AV)(acc:List α)(S:List Nat):Prop:=
 (acc=[]/\o = .ae)\/∃c cap,c∉S/\o = .sl c 0 acc.length esz cap/\hp.at c=some (.cells (arr f acc) e)/\(cap=none\/acc=[]/\cap=some 0)
theorem cF.nO:cF f esz e hp .ae ([]:List α) S:=.inl ⟨rfl,rfl⟩
theorem cF.sl (hf:∀a,(f a).length=esz)(h:cF f esz e hp o acc S):Sl f hp o acc:=by
 rcases h with ⟨rfl,rfl⟩|⟨c,cap,_,rfl,h1,_⟩
 . exact .nO
 . exact .iN hf h1 rfl
def vw (o:AV):List Nat:=kZ (some o)
theorem cF.dw (h:cF f esz e hp o acc S)(hk:∀b x,b∈vw o->hp.at b=some x->H.at b=some x)(hs:∀b,b∈vw o->b∉S->b∉S'):cF f esz e H o acc S':=by
 rcases h with h|⟨c,cap,h0,rfl,h1,h2⟩
 . exact .inl h
 . exact .inr ⟨c,cap,hs c (by simp[vw,kZ]) h0,rfl,hk _ _ (by simp[vw,kZ]) h1,h2⟩
theorem cF.grow (h:cF f esz e hp o acc S)(J:ab):cF f esz e (hp++J) o acc S:=h.dw (fun b x _ hx=>bS hx) (fun b _ h=>h)
theorem cF.app {bytes t:Nat}{l:List aU}{pe:List AV}{lo:List (Nat×AV)}{df wr:List Nat}{a b:aO}{Q:aq->Prop}(hf:∀a,(f a).length=esz)(h1:∀a,(f a).all cV=true)(hb0:0<bytes)
 (h:cF f esz e hp o acc S) (hS:∀x∈S,x<hp.length) (ha:(St.mk pe lo hp df).aa a=some o) (hb:(St.mk pe lo hp df).aa b=some y) (hy:Sl f hp y m)
 (hn:(acc.length+m.length)*bytes<=dG) (hQ:∀(H:ab) (w':List Nat) o',cF f esz e H o' (acc++m) S->(∀x v,x∈S->hp.at x=some v->H.at x=some v)->hp.length<=H.length->WO M l ⟨⟨pe,(t,o')::lo,H,df⟩,w'⟩ Q):WO M (⟨.l t,.append e esz bytes a b,none⟩::l) ⟨⟨pe,lo,hp,df⟩,wr⟩ Q:=by
 have hs:=hy.cells hf;have hone:(arr f m).all cV=true:=Ii h1 m;have hcond:(arr f m).length=m.length*esz/\0<bytes/\(arr f m).all cV=true:=⟨pQ hf m,hb0,hone⟩;by_cases hm:m=[]
 . subst hm;rw[List.append_nil]at hQ;refine acT (v:=o) (h':=hp) (w':=[]) ?_ rfl rfl (hQ hp _ o h (fun _ _ _ hx=>hx) (Nat.le_refl _));simp only[bK,ha,hb,jB,hs,if_pos hcond];rcases h with ⟨_,rfl⟩|⟨c,cap,_,rfl,_,_⟩ <;> simp
 . have hp0:m.length≠0:=fun h=>hm (List.eq_nil_of_length_eq_zero h)
   rcases h with ⟨rfl,rfl⟩|⟨c,cap,hc,rfl,hat,hcap⟩
   . refine acT (v:=.sl hp.length 0 m.length esz none) (h':=hp++[some (.cells (arr f m) e)]) (w':=[]) ?_ rfl rfl (hQ _ _ _ (.inr ⟨hp.length,none,fun h=>by have:=hS _ h;omega,by simp,bX,.inl rfl⟩) (fun x v _ hx=>bS hx) (by simp));simp only[bK,ha,hb,jB,hs,if_pos hcond,if_neg hp0];rw[if_pos (by simpa using hn)]
   . rcases hcap with rfl|⟨rfl,rfl⟩
     . refine acT (v:=.sl hp.length 0 (acc.length+m.length) esz none) (h':=hp.put c none++[some (.cells (arr f acc++arr f m) e)]) (w':=[c]) ?_ rfl rfl (hQ _ _ _ (.inr ⟨hp.length,none,fun h=>by have:=hS _ h;omega,by simp,?_,.inl rfl⟩) (fun x v hx hv=>bS (pR (fun ee=>hc (ee ▸ hx)) hv)) (by simp[fw]))
       . simp only[bK,ha,hb,jB,hs,if_pos hcond,if_neg hp0,hat];rw[if_pos ⟨trivial,hn⟩,if_pos ⟨by rw[pQ hf];omega,trivial⟩,List.drop_zero]
       . have:(hp.put c none).length=hp.length:=fw;rw[←this,bX,SS]
     . refine acT (v:=.sl hp.length 0 m.length esz none) (h':=hp++[some (.cells (arr f m) e)]) (w':=[]) ?_ rfl rfl (hQ _ _ _ (.inr ⟨hp.length,none,fun h=>by have:=hS _ h;omega,by simp,by rw[List.nil_append];exact bX,.inl rfl⟩) (fun x v _ hx=>bS hx) (by simp));simp only[bK,ha,hb,jB,hs,if_pos hcond,if_neg hp0,hat,List.length_nil,Nat.zero_add,Nat.zero_mul];rw[if_pos ⟨trivial,by simpa using hn⟩,if_neg (by omega)];simp[cut,arr]
theorem cF.Tv (hf:∀a,(f a).length=esz)(ht:∀a,br (f a)=0)(hn:∀a,ff (f a)=true)(h:cF f esz e hp o acc S):ij (if (aW [o]).top<=0 then [] else hp) o (.vs (arr f acc) acc.length none):=by
 rcases h with ⟨rfl,rfl⟩|⟨c,cap,_,rfl,h4,_⟩
 . exact .nil
 . rw[if_neg (by simp[aW,AV.top])];refine⟨[c],Tu hf ht h4 rfl,rfl,fun b l e' hb hl=>?_⟩;rw[List.mem_singleton.1 hb,h4]at hl;cases hl;exact nL hn acc
end Go.Ab

/-
  Own work: appends to empty literals in drawn regions: what they make is new.
-/
namespace Go.Ab
variable {M:ax}
theorem cF.one {α:Type}{f:α->List AV}{esz:Nat}{e:TypeId}{hp:ab}{o:AV}{acc:List α}{S:List Nat}(h:cF f esz e hp o acc S):AV.cells o=some [o]/\cV o=true:=by
 rcases h with ⟨_,rfl⟩|⟨c,cap,_,rfl,_,_⟩ <;> exact⟨rfl,rfl⟩
end Go.Ab

/-
  Own work: contracts by contents: what a run on the empty heap hands back is the contract itself; no relation is told a second time.
-/
namespace Go.Ab
variable {h:ab} {l m m':List AV} {a x:AV}
variable {M:ax} {P:Program} {gl:Nat->Option AV}
theorem aT.Bt {f:FuncId}{as:List AV}{r r':HR}(h1:aT M f as h r)(h2:aT M f as h r'):r=r':=by
 obtain⟨n,hn⟩:=h1;obtain⟨m,hm⟩:=h2;have a1:=vh (vi (Nat.le_max_left n m)) hn;have a2:=vh (vi (Nat.le_max_right n m)) hm;exact Option.some.inj (a1.symm.trans a2)
mutual
def cj:AV->AV
 | .ae=>.vs [] 0 none
 | .vs l n _=>.vs (dO l) n none
 | .vp l=>.vp (dO l)
 | .agg l=>.agg (dO l)
 | .au l=>.au (dO l)
 | .fn f a b=>.fn f (dO a) (dO b)
 | .iface t v=>.iface t (cj v)
 | v=>v
def dO:List AV->List AV
 | []=>[]
 | v::r=>cj v::dO r
end
theorem js:∀{l m:List AV},l.length=m.length->(∀(i:Nat) x y,l[i]? = some x->m[i]? = some y->cj x=cj y)->dO l=dO m
 | [],[],_,_=>rfl
 | x::l,y::m,hl,h=>by
  rw[dO,dO,h 0 x y rfl rfl,js (by simpa using hl) fun i a b ha hb=>h (i+1) a b ha hb]
theorem nP (h1:l.length=m.length)(h2:l.length=m'.length)(h:∀(i:Nat) a x y,l[i]? = some a->m[i]? = some x->m'[i]? = some y->cj x=cj y):dO m=dO m':=
 js (h1.symm.trans h2) fun i x y hx hy=>by
  have hi:i<l.length:=by rw[h1];exact(List.getElem?_eq_some_iff.1 hx).1
  exact h i l[i] x y (List.getElem?_eq_getElem hi) hx hy
theorem Im (hl:l.length=m.length)(h:∀(i:Nat) x y,l[i]? = some x->m[i]? = some y->x=y):l=m:=
 List.ext_getElem hl fun i h1 h2=>h i _ _ (List.getElem?_eq_getElem h1) (List.getElem?_eq_getElem h2)
theorem Bu (h1:l.length=m.length)(h2:l.length=m'.length)(h:∀(i:Nat) a x y,l[i]? = some a->m[i]? = some x->m'[i]? = some y->x=y):m=m':=
 Im (h1.symm.trans h2) fun i x y hx hy=>by
  have hi:i<l.length:=by rw[h1];exact(List.getElem?_eq_some_iff.1 hx).1
  exact h i l[i] x y (List.getElem?_eq_getElem hi) hx hy
theorem Io:∀(l m:List AV),dO (l++m)=dO l++dO m
 | [],m=>rfl
 | x::l,m=>by rw[List.cons_append,dO,dO,Io l m];rfl
theorem Bv {α:Type}{f:α->List AV}(hf:∀a,dO (f a)=f a):∀l,dO (arr f l)=arr f l
 | []=>rfl
 | a::l=>by rw[ki,Io,hf,Bv hf l]
theorem cK (h:br l=0){i:Nat}{x:AV}(hx:l[i]? = some x):x.top=0:=by
 have:=fm (n:=0) (by omega) i x hx;omega
theorem Fr.jL {S:List Nat}(hr:Fr h S a x):a.top=0->cj a=cj x:=by
 induction hr with
 | same ht=>exact fun _=>rfl
 | nil hc=>exact fun _=>by simp[cj,dO]
 | sl=>intro ht;simp[AV.top]at ht
 | ptr=>intro ht;simp[AV.top]at ht
 | vs hl hg ih=>intro ht;rw[cj,cj,js hl fun i x y hx hy=>ih i x y hx hy (cK ht hx)]
 | agg hl hg ih=>intro ht;rw[cj,cj,js hl fun i x y hx hy=>ih i x y hx hy (cK ht hx)]
 | au hl hg ih=>intro ht;rw[cj,cj,js hl fun i x y hx hy=>ih i x y hx hy (cK ht hx)]
 | fn hf h1 h2 g1 g2 i1 i2=>
  intro ht;simp only[AV.top]at ht;rw[cj,cj,js h1 fun i x y hx hy=>i1 i x y hx hy (cK (by omega) hx),js h2 fun i x y hx hy=>i2 i x y hx hy (cK (by omega) hx)]
theorem Fr.can {S:List Nat}(hr:Fr h S a x):x.top=0->∀{S':List Nat} {y:AV},Fr h S' a y->y.top=0->cj x=cj y:=by
 induction hr with
 | same ht=>exact fun _ S' y hy _=>hy.jL ht
 | nil hc=>exact fun _ S' y hy _=>by cases hy <;> simp[cj,dO]
 | sl hb ha hc hl hg hcc ih=>
  intro hx S' y hy hyt;cases hy with
  | same ht=>simp[AV.top]at ht
  | sl hb' ha' hc' hl' hg' hcc'=>
   rw[ha]at ha';cases ha';rw[hc]at hc';cases hc';rw[cj,cj,nP hl hl' fun i a x y h1 h2 h3=>ih i a x h1 h2 (cK hx h2) (hg' i a y h1 h3) (cK hyt h3)]
 | ptr hb ha hl hg ih=>
  intro hx S' y hy hyt;cases hy with
  | same ht=>simp[AV.top]at ht
  | ptr hb' ha' hl' hg'=>
   rw[ha]at ha';cases ha';rw[cj,cj,nP hl hl' fun i a x y h1 h2 h3=>ih i a x h1 h2 (cK hx h2) (hg' i a y h1 h3) (cK hyt h3)]
 | vs hl hg ih=>
  intro hx S' y hy hyt;cases hy with
  | same ht=>rw[cj,cj,js hl.symm fun i x y hx' hy'=>((hg i y x hy' hx').jL (cK ht hy')).symm]
  | vs hl' hg'=>rw[cj,cj,nP hl hl' fun i a x y h1 h2 h3=>ih i a x h1 h2 (cK hx h2) (hg' i a y h1 h3) (cK hyt h3)]
 | agg hl hg ih=>
  intro hx S' y hy hyt;cases hy with
  | same ht=>rw[cj,cj,js hl.symm fun i x y hx' hy'=>((hg i y x hy' hx').jL (cK ht hy')).symm]
  | agg hl' hg'=>rw[cj,cj,nP hl hl' fun i a x y h1 h2 h3=>ih i a x h1 h2 (cK hx h2) (hg' i a y h1 h3) (cK hyt h3)]
 | au hl hg ih=>
  intro hx S' y hy hyt;cases hy with
  | same ht=>rw[cj,cj,js hl.symm fun i x y hx' hy'=>((hg i y x hy' hx').jL (cK ht hy')).symm]
  | au hl' hg'=>rw[cj,cj,nP hl hl' fun i a x y h1 h2 h3=>ih i a x h1 h2 (cK hx h2) (hg' i a y h1 h3) (cK hyt h3)]
 | fn hf h1 h2 g1 g2 i1 i2=>
  intro hx S' y hy hyt;simp only[AV.top]at hx;cases hy with
  | same ht=>
   simp only[AV.top]at ht;rw[cj,cj,js h1.symm fun i x y hx' hy'=>((g1 i y x hy' hx').jL (cK (by omega) hy')).symm,js h2.symm fun i x y hx' hy'=>((g2 i y x hy' hx').jL (cK (by omega) hy')).symm]
  | fn hf' h1' h2' g1' g2'=>
   simp only[AV.top]at hyt;rw[cj,cj,nP h1 h1' fun i a x y e1 e2 e3=>i1 i a x e1 e2 (cK (by omega) e2) (g1' i a y e1 e3) (cK (by omega) e3),
     nP h2 h2' fun i a x y e1 e2 e3=>i2 i a x e1 e2 (cK (by omega) e2) (g2' i a y e1 e3) (cK (by omega) e3)]
def pS:AV->Bool
 | .int _ _=>true
 | .bool _=>true
 | .str _=>true
 | .fn f [] []=>match f with | .yield _=>false|_=>true
 | _=>false
inductive cZ (h:ab):AV->AV->Prop
 | atom {a:AV} (ha:pS a=true):cZ h a a
 | nil:cZ h .ae (.vs [] 0 none)
 | sl {b off len esz:Nat} {cap:Option Nat} {l m m0:List AV} {e:TypeId} (ha:h.at b=some (.cells l e)) (hc:cut l off (len*esz)=some m) (hl:m.length=m0.length)
     (hg:∀(i:Nat) x y,m[i]? = some x->m0[i]? = some y->cZ h x y):cZ h (.sl b off len esz cap) (.vs m0 len none)
 | vs {l l0:List AV} {n:Nat} {cap:Option Nat} (hl:l.length=l0.length) (hg:∀(i:Nat) x y,l[i]? = some x->l0[i]? = some y->cZ h x y):cZ h (.vs l n cap) (.vs l0 n cap)
 | agg {l l0:List AV} (hl:l.length=l0.length) (hg:∀(i:Nat) x y,l[i]? = some x->l0[i]? = some y->cZ h x y):cZ h (.agg l) (.agg l0)
def fU (h:ab)(l l0:List AV):Prop:=l.length=l0.length/\∀(i:Nat) x y,l[i]? = some x->l0[i]? = some y->cZ h x y
theorem fU.nil:fU h [] []:=⟨rfl,by simp⟩
theorem fU.cons {y:AV}(h1:cZ h x y)(h2:fU h l m):fU h (x::l) (y::m):=by
 refine⟨by simp[h2.1],fun i a b ha hb=>?_⟩;cases i with
 | zero=>simp at ha hb;subst ha;subst hb;exact h1
 | succ i=>simp at ha hb;exact h2.2 i a b ha hb
theorem Tw (h:pS a=true):a.top=0:=by
 cases a with
 | fn f fi ca=>
  cases fi <;> cases ca <;> first|(simp[pS]at h;done)|skip
  cases f <;> first|rfl|cases h
 | _=>first|rfl|cases h
theorem cZ.fr (hr:cZ h a x):Fr h (List.range h.length) a x:=by
 induction hr with
 | atom ha=>exact .same (Tw ha)
 | nil=>exact .nil (fun n hn=>by cases hn)
 | sl ha hc hl hg ih=>exact .sl (List.mem_range.2 (eE ha)) ha hc hl ih (.inr rfl)
 | vs hl hg ih=>exact .vs hl ih
 | agg hl hg ih=>exact .agg hl ih
theorem fU.fr {l0:List AV}(hr:fU h l l0):gP h (List.range h.length) l l0:=⟨hr.1,fun i x y hx hy=>(hr.2 i x y hx hy).fr⟩
theorem cZ.uniq (hr:cZ h a x):∀{y:AV},cZ h a y->x=y:=by
 induction hr with
 | atom ha=>intro y hy;cases hy <;> first|rfl|cases ha
 | nil=>intro y hy;cases hy with
   | atom ha=>cases ha
   | nil=>rfl
 | sl ha hc hl hg ih=>
  intro y hy;cases hy with
  | atom ha=>cases ha
  | sl ha' hc' hl' hg'=>
   rw[ha]at ha';cases ha';rw[hc]at hc';cases hc';rw[Bu hl hl' fun i a x y h1 h2 h3=>ih i a x h1 h2 (hg' i a y h1 h3)]
 | vs hl hg ih=>
  intro y hy;cases hy with
  | atom ha=>cases ha
  | vs hl' hg'=>rw[Bu hl hl' fun i a x y h1 h2 h3=>ih i a x h1 h2 (hg' i a y h1 h3)]
 | agg hl hg ih=>
  intro y hy;cases hy with
  | atom ha=>cases ha
  | agg hl' hg'=>rw[Bu hl hl' fun i a x y h1 h2 h3=>ih i a x h1 h2 (hg' i a y h1 h3)]
theorem fU.uniq (h1:fU h l m)(h2:fU h l m'):m=m':=
 Im (h1.1.symm.trans h2.1) fun i x y hx hy=>by
  have hi:i<l.length:=by rw[h1.1];exact(List.getElem?_eq_some_iff.1 hx).1
  exact(h1.2 i l[i] x (List.getElem?_eq_getElem hi) hx).uniq (h2.2 i l[i] y (List.getElem?_eq_getElem hi) hy)
theorem fU.app:∀{l m l' m':List AV},fU h l m->fU h l' m'->fU h (l++l') (m++m')
 | [],[],_,_,_,h2=>h2
 | x::l,y::m,l',m',h1,h2=>.cons (h1.2 0 x y rfl rfl) (fU.app ⟨by simpa using h1.1,fun i a b ha hb=>h1.2 (i+1) a b ha hb⟩ h2)
 | [],y::m,_,_,h1,_=>by have:=h1.1;simp at this
 | x::l,[],_,_,h1,_=>by have:=h1.1;simp at this
abbrev rU (h:ab)(l:List AV):Prop:=fU h l l
theorem vy {α:Type}{f:α->List AV}{h:ab}(hf:∀a,rU h (f a)):∀l,rU h (arr f l)
 | []=>.nil
 | a::l=>by rw[ki];exact(hf a).app (vy hf l)
theorem cZ.mA {n:Nat}{cap:Option Nat}(hl:rU h l):cZ h (.vs l n cap) (.vs l n cap):=.vs rfl hl.2
theorem enter:(∀(f:Nat -> AV) a l,(a::l).map f=f a::l.map f) /\ (∀f:Nat -> AV,[].map f=[]) /\ (∀(a:AV) (l:List AV),(a::l)[0]? = some a) /\ (∀(a:AV) (l:List AV) (n:Nat),(a::l)[n+1]? = l[n]?) /\ (∀n:Nat,([]:List AV)[n]? = none) /\ (∀a b:AV,(some a).getD b=a) /\ ∀b:AV,none.getD b=b:=
  ⟨fun _ _ _=>rfl,fun _=>rfl,fun _ _=>rfl,fun _ _ _=>rfl,fun _=>rfl,fun _ _=>rfl,fun _=>rfl⟩
end Go.Ab

/-
  Own work: contracts by contents that keep nil apart from empty; arguments without blocks.
-/
namespace Go.Ab
variable {l as:List AV} {h:ab} {x:AV} {FT:FuncId->Option dg}
variable {M:ax} {P:Program} {gl:Nat->Option AV}
mutual
def bO:AV->AV
 | .vs l n _=>.vs (cP l) n none
 | .vp l=>.vp (cP l)
 | .agg l=>.agg (cP l)
 | .au l=>.au (cP l)
 | .fn f a b=>.fn f (cP a) (cP b)
 | .iface t v=>.iface t (bO v)
 | v=>v
def cP:List AV->List AV
 | []=>[]
 | v::r=>bO v::cP r
end
theorem mB:∀{l m:List AV},l.length=m.length->(∀(i:Nat) x y,l[i]? = some x->m[i]? = some y->bO x=bO y)->cP l=cP m
 | [],[],_,_=>rfl
 | x::l,y::m,hl,h=>by
  rw[cP,cP,h 0 x y rfl rfl,mB (by simpa using hl) fun i a b ha hb=>h (i+1) a b ha hb]
theorem vz {m m':List AV}(h1:l.length=m.length)(h2:l.length=m'.length)(h:∀(i:Nat) a x y,l[i]? = some a->m[i]? = some x->m'[i]? = some y->bO x=bO y):cP m=cP m':=
 mB (h1.symm.trans h2) fun i x y hx hy=>by
  have hi:i<l.length:=by rw[h1];exact(List.getElem?_eq_some_iff.1 hx).1
  exact h i l[i] x y (List.getElem?_eq_getElem hi) hx hy
theorem Ip:∀(l m:List AV),cP (l++m)=cP l++cP m
 | [],m=>rfl
 | x::l,m=>by rw[List.cons_append,cP,cP,Ip l m];rfl
theorem Bw {α:Type}{f:α->List AV}(hf:∀a,cP (f a)=f a):∀l,cP (arr f l)=arr f l
 | []=>rfl
 | a::l=>by rw[ki,Ip,hf,Bw hf l]
inductive fg (h:ab):AV->AV->Prop
 | same {v:AV} (ht:v.top=0):fg h v v
 | sl {b off len esz:Nat} {cap:Option Nat} {l m m0:List AV} {e:TypeId} (ha:h.at b=some (.cells l e)) (hc:cut l off (len*esz)=some m) (hl:m.length=m0.length)
     (hg:∀(i:Nat) x y,m[i]? = some x->m0[i]? = some y->fg h x y):fg h (.sl b off len esz cap) (.vs m0 len none)
 | vs {l l0:List AV} {n:Nat} {cap:Option Nat} (hl:l.length=l0.length) (hg:∀(i:Nat) x y,l[i]? = some x->l0[i]? = some y->fg h x y):fg h (.vs l n cap) (.vs l0 n cap)
 | agg {l l0:List AV} (hl:l.length=l0.length) (hg:∀(i:Nat) x y,l[i]? = some x->l0[i]? = some y->fg h x y):fg h (.agg l) (.agg l0)
 | au {l l0:List AV} (hl:l.length=l0.length) (hg:∀(i:Nat) x y,l[i]? = some x->l0[i]? = some y->fg h x y):fg h (.au l) (.au l0)
theorem fg.fr {a:AV}(hr:fg h a x):Fr h (List.range h.length) a x:=by
 induction hr with
 | same ht=>exact .same ht
 | sl ha hc hl hg ih=>exact .sl (List.mem_range.2 (eE ha)) ha hc hl ih (.inr rfl)
 | vs hl hg ih=>exact .vs hl ih
 | agg hl hg ih=>exact .agg hl ih
 | au hl hg ih=>exact .au hl ih
theorem fg.jL {a:AV}(hr:fg h a x):a.top=0->bO a=bO x:=by
 induction hr with
 | same ht=>exact fun _=>rfl
 | sl=>intro ht;simp[AV.top]at ht
 | vs hl hg ih=>intro ht;rw[bO,bO,mB hl fun i x y hx hy=>ih i x y hx hy (cK ht hx)]
 | agg hl hg ih=>intro ht;rw[bO,bO,mB hl fun i x y hx hy=>ih i x y hx hy (cK ht hx)]
 | au hl hg ih=>intro ht;rw[bO,bO,mB hl fun i x y hx hy=>ih i x y hx hy (cK ht hx)]
theorem fg.can {a:AV}(hr:fg h a x):x.top=0->∀{y:AV},fg h a y->y.top=0->bO x=bO y:=by
 induction hr with
 | same ht=>exact fun _ y hy _=>hy.jL ht
 | sl ha hc hl hg ih=>
  intro hx y hy hyt;cases hy with
  | same ht=>simp[AV.top]at ht
  | sl ha' hc' hl' hg'=>
   rw[ha]at ha';cases ha';rw[hc]at hc';cases hc';rw[bO,bO,vz hl hl' fun i a x y h1 h2 h3=>ih i a x h1 h2 (cK hx h2) (hg' i a y h1 h3) (cK hyt h3)]
 | vs hl hg ih=>
  intro hx y hy hyt;cases hy with
  | same ht=>rw[bO,bO,mB hl.symm fun i x y hx' hy'=>((hg i y x hy' hx').jL (cK ht hy')).symm]
  | vs hl' hg'=>rw[bO,bO,vz hl hl' fun i a x y h1 h2 h3=>ih i a x h1 h2 (cK hx h2) (hg' i a y h1 h3) (cK hyt h3)]
 | agg hl hg ih=>
  intro hx y hy hyt;cases hy with
  | same ht=>rw[bO,bO,mB hl.symm fun i x y hx' hy'=>((hg i y x hy' hx').jL (cK ht hy')).symm]
  | agg hl' hg'=>rw[bO,bO,vz hl hl' fun i a x y h1 h2 h3=>ih i a x h1 h2 (cK hx h2) (hg' i a y h1 h3) (cK hyt h3)]
 | au hl hg ih=>
  intro hx y hy hyt;cases hy with
  | same ht=>rw[bO,bO,mB hl.symm fun i x y hx' hy'=>((hg i y x hy' hx').jL (cK ht hy')).symm]
  | au hl' hg'=>rw[bO,bO,vz hl hl' fun i a x y h1 h2 h3=>ih i a x h1 h2 (cK hx h2) (hg' i a y h1 h3) (cK hyt h3)]
theorem pT {i:Nat}(h:(dO l)[i]? = some x):∃y,l[i]? = some y/\x=cj y:=by
 induction l generalizing i with
 | nil=>simp[dO]at h
 | cons a l ih=>
  rw[dO]at h;cases i with
  | zero=>simp at h;exact⟨a,rfl,h.symm⟩
  | succ i=>exact ih (by simpa using h)
theorem nS:∀l:List AV,(dO l).length=l.length
 | []=>rfl
 | a::l=>by rw[dO,List.length_cons,List.length_cons,nS l]
theorem pU {i:Nat}(h:(cP l)[i]? = some x):∃y,l[i]? = some y/\x=bO y:=by
 induction l generalizing i with
 | nil=>simp[cP]at h
 | cons a l ih=>
  rw[cP]at h;cases i with
  | zero=>simp at h;exact⟨a,rfl,h.symm⟩
  | succ i=>exact ih (by simpa using h)
theorem nT:∀l:List AV,(cP l).length=l.length
 | []=>rfl
 | a::l=>by rw[cP,List.length_cons,List.length_cons,nT l]
section
variable {ρ:aw} {w:World} {a:AV} {v:Value}
theorem V.bO (hv:V ρ w a v):V ρ w (bO a) v:=by
 induction hv with
 | cU v=>exact .cU v
 | bool b=>exact .bool b
 | int k n=>exact .int k n
 | str s=>exact .str s
 | dv=>exact .dv
 | ptr o h=>exact .ptr o h
 | dV o c o' h=>exact .dV o c o' h
 | vp c o g hf hc hg ih=>
  exact .vp c o g (fun h=>hf fun e=>h (by rw[e];rfl)) (fun i hi=>hc i (by rwa [nT]at hi)) fun i x hx=>by
   obtain⟨y,hy,rfl⟩:=pU hx;exact ih i y hy
 | ae=>exact .ae
 | sl h hl hcap hb=>exact .sl h hl hcap hb
 | fx h=>exact .fx h
 | ew c o' h hl hcap=>exact .ew c o' h hl hcap
 | fl h=>exact .fl h
 | fy a h=>exact .fy a h
 | vs c o g hf hl hcap hc hg ih=>
  exact .vs c o g (fun h=>hf fun e=>h (by rw[e];rfl)) hl (fun n hn=>by cases hn) (fun i hi=>hc i (by rwa [nT]at hi)) fun i x hx=>by
   obtain⟨y,hy,rfl⟩:=pU hx;exact ih i y hy
 | ek hcap=>exact .ek (fun n hn=>by cases hn)
 | fz a hcap=>exact .fz a (fun n hn=>by cases hn)
 | eo=>exact .eo
 | map h=>exact .map h
 | ib c h=>exact .ib c h
 | yield h=>exact .yield h
 | fn hf h1 h2 g1 g2 i1 i2=>
  exact .fn hf (by rw[nT];exact h1) (by rw[nT];exact h2) (fun i x y hx hy=>by
   obtain⟨z,hz,rfl⟩:=pU hx;exact i1 i z y hz hy) fun i x y hx hy=>by
   obtain⟨z,hz,rfl⟩:=pU hx;exact i2 i z y hz hy
 | gK c h=>exact .gK c h
 | fD=>exact .fD
 | iface h ih=>exact .iface ih
 | db=>exact .db
 | agg h g ih=>
  exact .agg (by rw[nT];exact h) fun i x y hx hy=>by
   obtain⟨z,hz,rfl⟩:=pU hx;exact ih i z y hz hy
 | au h g ih=>
  exact .au (by rw[nT];exact h) fun i x y hx hy=>by
   obtain⟨z,hz,rfl⟩:=pU hx;exact ih i z y hz hy
theorem V.cj (hv:V ρ w a v):V ρ w (cj a) v:=by
 induction hv with
 | cU v=>exact .cU v
 | bool b=>exact .bool b
 | int k n=>exact .int k n
 | str s=>exact .str s
 | dv=>exact .dv
 | ptr o h=>exact .ptr o h
 | dV o c o' h=>exact .dV o c o' h
 | vp c o g hf hc hg ih=>
  exact .vp c o g (fun h=>hf fun e=>h (by rw[e];rfl)) (fun i hi=>hc i (by rwa [nS]at hi)) fun i x hx=>by
   obtain⟨y,hy,rfl⟩:=pT hx;exact ih i y hy
 | ae=>exact .ek (fun n hn=>by cases hn)
 | sl h hl hcap hb=>exact .sl h hl hcap hb
 | fx h=>exact .fx h
 | ew c o' h hl hcap=>exact .ew c o' h hl hcap
 | fl h=>exact .fl h
 | fy a h=>exact .fy a h
 | vs c o g hf hl hcap hc hg ih=>
  exact .vs c o g (fun h=>hf fun e=>h (by rw[e];rfl)) hl (fun n hn=>by cases hn) (fun i hi=>hc i (by rwa [nS]at hi)) fun i x hx=>by
   obtain⟨y,hy,rfl⟩:=pT hx;exact ih i y hy
 | ek hcap=>exact .ek (fun n hn=>by cases hn)
 | fz a hcap=>exact .fz a (fun n hn=>by cases hn)
 | eo=>exact .eo
 | map h=>exact .map h
 | ib c h=>exact .ib c h
 | yield h=>exact .yield h
 | fn hf h1 h2 g1 g2 i1 i2=>
  exact .fn hf (by rw[nS];exact h1) (by rw[nS];exact h2) (fun i x y hx hy=>by
   obtain⟨z,hz,rfl⟩:=pT hx;exact i1 i z y hz hy) fun i x y hx hy=>by
   obtain⟨z,hz,rfl⟩:=pT hx;exact i2 i z y hz hy
 | gK c h=>exact .gK c h
 | fD=>exact .fD
 | iface h ih=>exact .iface ih
 | db=>exact .db
 | agg h g ih=>
  exact .agg (by rw[nS];exact h) fun i x y hx hy=>by
   obtain⟨z,hz,rfl⟩:=pT hx;exact ih i z y hz hy
 | au h g ih=>
  exact .au (by rw[nS];exact h) fun i x y hx hy=>by
   obtain⟨z,hz,rfl⟩:=pT hx;exact ih i z y hz hy
end
theorem Iq {f:Nat}{h':ab}{v v':AV}{wr:List Nat}(hv:∀ρ w x,V ρ w v x->V ρ w v' x)(he:bT P gl ⟨f,as,h,⟨v,h',wr⟩⟩):bT P gl ⟨f,as,h,⟨v',h',wr⟩⟩:=by
 refine⟨he.1,fun ρ w as' m ha=>?_⟩;obtain⟨nx,w1,g1,g2⟩:=he.2 ρ w as' m ha;refine⟨nx,w1,g1,g2.mono fun x w' hd=>?_⟩;obtain⟨ρ',h1,h2,h3⟩:=hd;exact⟨ρ',hv _ _ _ h1,h2,h3⟩
def Ir (P:Program)(FT:FuncId->Option dg)(T:List (Nat×Spec))(g:Nat)(as0:List AV)(v0:AV):Prop:=∃v hh v1,aT (aV P FT T) g as0 [] ⟨v,hh,[]⟩/\ij hh v v1/\v1.top=0/\cj v1=v0
def Tx (P:Program)(FT:FuncId->Option dg)(T:List (Nat×Spec))(g:Nat)(as:List AV)(h:ab)(r:HR):Prop:=∃as0 v0,fU h as as0/\Ir P FT T g as0 v0/\r=⟨v0,h,[]⟩
noncomputable def rV (P:Program)(FT:FuncId->Option dg)(T:List (Nat×Spec))(g:Nat):Spec:=nN (Tx P FT T g)
theorem Ty (hs:jK P gl FT){T:List (Nat×Spec)}(hT:cz P gl (bk T)){g:Nat}:aS P gl g (rV P FT T g):=Br fun as h r ⟨as0,v0,hf,⟨v,hh,v1,hr,hn,ht,hc⟩,e⟩=>by
 subst e;subst hc;exact Iq (fun _ _ _ h=>h.cj) (Tt hs hT hr hf.fr hn ht)
theorem lh {T:List (Nat×Spec)}{g:Nat}{as0:List AV}{v0:AV}(hf:fU h as as0)(hr:Ir P FT T g as0 v0):rV P FT T g as h=some ⟨v0,h,[]⟩:=
 Bs ⟨as0,v0,hf,hr,rfl⟩ fun r' ⟨as0',v0',hf',hr',e⟩=>by
  cases hf.uniq hf';obtain⟨v,hh,v1,r1,⟨B,f1,_⟩,t1,c1⟩:=hr;obtain⟨v',hh',v1',r2,⟨B',f2,_⟩,t2,c2⟩:=hr';cases r1.Bt r2;rw[e,←c1,←c2,f1.can t1 f2 t2]
def Bx (P:Program)(FT:FuncId->Option dg)(T:List (Nat×Spec))(g:Nat)(as:List AV)(v0:AV):Prop:=∃v hh v1,aT (aV P FT T) g as [] ⟨v,hh,[]⟩/\fg hh v v1/\br as=0/\v1.top=0/\bO v1=v0
def Tz (P:Program)(FT:FuncId->Option dg)(T:List (Nat×Spec))(g:Nat)(as:List AV)(h:ab)(r:HR):Prop:=∃v0,Bx P FT T g as v0/\r=⟨v0,h,[]⟩
noncomputable def pW (P:Program)(FT:FuncId->Option dg)(T:List (Nat×Spec))(g:Nat):Spec:=nN (Tz P FT T g)
theorem TA (hs:jK P gl FT){T:List (Nat×Spec)}(hT:cz P gl (bk T)){g:Nat}:aS P gl g (pW P FT T g):=Br fun as h r ⟨v0,⟨v,hh,v1,hr,hf,ha,ht,hc⟩,e⟩=>by
 subst e;subst hc;exact Iq (fun _ _ _ h=>h.bO) (Tp hs hT hr ha hf.fr ht)
theorem rW {T:List (Nat×Spec)}{g:Nat}{v0:AV}(hr:Bx P FT T g as v0):pW P FT T g as h=some ⟨v0,h,[]⟩:=
 Bs ⟨v0,hr,rfl⟩ fun r' ⟨v0',hr',e⟩=>by
  obtain⟨v,hh,v1,r1,f1,_,t1,c1⟩:=hr;obtain⟨v',hh',v1',r2,f2,_,t2,c2⟩:=hr';cases r1.Bt r2;rw[e,←c1,←c2,f1.can t1 f2 t2]
end Go.Ab

/-
  Own work: contracts by direct runs that leave the heap as it is; contracts by cases of the arguments.
-/
namespace Go.Ab
variable {FT:FuncId->Option dg} {T:List (Nat×Spec)} {g:Nat} {as:List AV} {h:ab} {v:AV} {c:List AV->Prop} {s1 s2:Spec}
variable {M:ax} {P:Program} {gl:Nat->Option AV}
def TB (P:Program)(FT:FuncId->Option dg)(T:List (Nat×Spec))(g:Nat)(as:List AV)(h:ab)(r:HR):Prop:=aT (aV P FT T) g as h r/\r.h=h/\r.wr=[]
noncomputable def By (P:Program)(FT:FuncId->Option dg)(T:List (Nat×Spec))(g:Nat):Spec:=nN (TB P FT T g)
theorem TC (hs:jK P gl FT){T:List (Nat×Spec)}(hT:cz P gl (bk T)){g:Nat}:aS P gl g (By P FT T g):=Br fun as h r ⟨hr,hh,hw⟩=>
 pK hs hT hr ⟨by rw[hh];exact Nat.le_refl _,fun b _ _=>by rw[hh]⟩
theorem TE (hr:aT (aV P FT T) g as h ⟨v,h,[]⟩):By P FT T g as h=some ⟨v,h,[]⟩:=
 Bs ⟨hr,rfl,rfl⟩ fun r' ⟨hr',_,_⟩=>hr'.Bt hr
noncomputable def rX (c:List AV->Prop)(s1 s2:Spec):Spec:=fun as h=>open Classical in if c as then s1 as h else s2 as h
theorem TH (h1:aS P gl g s1)(h2:aS P gl g s2):aS P gl g (rX c s1 s2):=by
 intro as h r hq;unfold rX at hq;split at hq
 . exact h1 as h r hq
 . exact h2 as h r hq
theorem TK (hc:c as):rX c s1 s2 as h=s1 as h:=if_pos hc
theorem TL (hc:¬c as):rX c s1 s2 as h=s2 as h:=if_neg hc
theorem ij.two {hh:ab}{x y x1 y1:AV}(hx:ij hh x x1)(hy:ij hh y y1):ij hh (.au [x,y]) (.au [x1,y1]):=by
 obtain⟨B1,f1,n1,g1⟩:=hx;obtain⟨B2,f2,n2,g2⟩:=hy;refine⟨B1++B2,.au rfl (fun i a b ha hb=>?_),by simp[dm,ff,n1,n2],fun b l e hb hl=>?_⟩
 . match i with
   | 0=>cases ha;cases hb;exact f1.mono fun _ h=>List.mem_append.2 (.inl h)
   | 1=>cases ha;cases hb;exact f2.mono fun _ h=>List.mem_append.2 (.inr h)
   | i+2=>cases ha
 . rcases List.mem_append.1 hb with h|h
   . exact g1 b l e h hl
   . exact g2 b l e h hl
theorem bF (hr:aT (aV P FT T) g as [] ⟨v,[],[]⟩)(ha:br as=0)(ht:v.top=0)(hc:bO v=v)(h:ab):pW P FT T g as h=some ⟨v,h,[]⟩:=
 rW ⟨v,[],v,hr,.same ht,ha,ht,hc⟩
theorem nU {as0:List AV}(hr:aT (aV P FT T) g as0 [] ⟨v,[],[]⟩)(ht:v.top=0)(hn:dm v=true)(hc:cj v=v){h:ab}(hf:fU h as as0):rV P FT T g as h=some ⟨v,h,[]⟩:=
 lh hf ⟨v,[],v,hr,.same ht hn,ht,hc⟩
end Go.Ab

/-
  Own work: unsigned words of 64 binary digits in the calculus of runs: sums, products, shifts, masks.
-/
namespace Go.Ab
variable {n:Nat}
variable {M:ax} {t:Nat} {x y:aO} {l:List aU} {pe:List AV} {lo:List (Nat×AV)} {hp:ab} {df wr:List Nat} {k:IntKind} {a b:Int} {Q:aq->Prop}
theorem nW (a:Int):IntKind.u64.wrap a=a%18446744073709551616:=by
 simp only[IntKind.wrap,IntKind.bits,IntKind.signed];simp
theorem pY {a:Int}(h:0<=a/\a<18446744073709551616):IntKind.u64.wrap a=a:=by rw[nW];omega
theorem ahA (hx:(St.mk pe lo hp df).aa x=some (.int .u64 a))(hy:(St.mk pe lo hp df).aa y=some (.int .u64 b))
 (h:WO M l ⟨⟨pe,(t,.int .u64 ((a+b)%18446744073709551616))::lo,hp,df⟩,wr⟩ Q):WO M (⟨.l t,.bin .add x y,none⟩::l) ⟨⟨pe,lo,hp,df⟩,wr⟩ Q:=
 abg (v:=.int .u64 ((a+b)%18446744073709551616)) (by simp[aY,hx,hy,cS,nW]) rfl h
theorem aha (hx:(St.mk pe lo hp df).aa x=some (.int .u64 a))(hy:(St.mk pe lo hp df).aa y=some (.int .u64 b))(hr:0<=a+b/\a+b<18446744073709551616)
 (h:WO M l ⟨⟨pe,(t,.int .u64 (a+b))::lo,hp,df⟩,wr⟩ Q):WO M (⟨.l t,.bin .add x y,none⟩::l) ⟨⟨pe,lo,hp,df⟩,wr⟩ Q:=
 abg (v:=.int .u64 (a+b)) (by simp[aY,hx,hy,cS,pY hr]) rfl h
theorem ahY (hx:(St.mk pe lo hp df).aa x=some (.int .u64 a))(hy:(St.mk pe lo hp df).aa y=some (.int .u64 b))
 (h:WO M l ⟨⟨pe,(t,.int .u64 ((a-b)%18446744073709551616))::lo,hp,df⟩,wr⟩ Q):WO M (⟨.l t,.bin .sub x y,none⟩::l) ⟨⟨pe,lo,hp,df⟩,wr⟩ Q:=
 abg (v:=.int .u64 ((a-b)%18446744073709551616)) (by simp[aY,hx,hy,cS,nW]) rfl h
theorem agX (hx:(St.mk pe lo hp df).aa x=some (.int .u64 a))(hy:(St.mk pe lo hp df).aa y=some (.int .u64 b))(hr:0<=a-b/\a-b<18446744073709551616)
 (h:WO M l ⟨⟨pe,(t,.int .u64 (a-b))::lo,hp,df⟩,wr⟩ Q):WO M (⟨.l t,.bin .sub x y,none⟩::l) ⟨⟨pe,lo,hp,df⟩,wr⟩ Q:=
 abg (v:=.int .u64 (a-b)) (by simp[aY,hx,hy,cS,pY hr]) rfl h
theorem ahE (hx:(St.mk pe lo hp df).aa x=some (.int .u64 a))(hy:(St.mk pe lo hp df).aa y=some (.int .u64 b))
 (h:WO M l ⟨⟨pe,(t,.int .u64 ((a*b)%18446744073709551616))::lo,hp,df⟩,wr⟩ Q):WO M (⟨.l t,.bin .mul x y,none⟩::l) ⟨⟨pe,lo,hp,df⟩,wr⟩ Q:=
 abg (v:=.int .u64 ((a*b)%18446744073709551616)) (by simp[aY,hx,hy,cS,nW]) rfl h
theorem agS (hx:(St.mk pe lo hp df).aa x=some (.int .u64 a))(hy:(St.mk pe lo hp df).aa y=some (.int .u64 b))(hr:0<=a*b/\a*b<18446744073709551616)
 (h:WO M l ⟨⟨pe,(t,.int .u64 (a*b))::lo,hp,df⟩,wr⟩ Q):WO M (⟨.l t,.bin .mul x y,none⟩::l) ⟨⟨pe,lo,hp,df⟩,wr⟩ Q:=
 abg (v:=.int .u64 (a*b)) (by simp[aY,hx,hy,cS,pY hr]) rfl h
theorem ahl (hx:(St.mk pe lo hp df).aa x=some (.int .u64 a))(hy:(St.mk pe lo hp df).aa y=some (.int .u64 b))(ha:0<=a/\a<18446744073709551616)(hb:0<b)
 (h:WO M l ⟨⟨pe,(t,.int .u64 (a/b))::lo,hp,df⟩,wr⟩ Q):WO M (⟨.l t,.bin .quo x y,none⟩::l) ⟨⟨pe,lo,hp,df⟩,wr⟩ Q:=by
 refine abg (v:=.int .u64 (a/b)) ?_ rfl h;have h1:0<=a/b:=Int.ediv_nonneg ha.1 (Int.le_of_lt hb);have h2:a/b<=a:=Int.ediv_le_self _ ha.1;have h3:¬b=0:=by omega
 simp only[aY,hx,hy,cS,if_true,if_neg h3];rw[Int.tdiv_eq_ediv_of_nonneg ha.1,pY ⟨h1,by omega⟩]
theorem ahI (hx:(St.mk pe lo hp df).aa x=some (.int .u64 a))(hy:(St.mk pe lo hp df).aa y=some (.int .u64 b))(ha:0<=a)(hb:0<b)
 (h:WO M l ⟨⟨pe,(t,.int .u64 (a%b))::lo,hp,df⟩,wr⟩ Q):WO M (⟨.l t,.bin .rem x y,none⟩::l) ⟨⟨pe,lo,hp,df⟩,wr⟩ Q:=by
 refine abg (v:=.int .u64 (a%b)) ?_ rfl h;have h3:¬b=0:=by omega
 simp only[aY,hx,hy,cS,if_true,if_neg h3];rw[Int.tmod_eq_emod_of_nonneg ha]
theorem ahe (hx:(St.mk pe lo hp df).aa x=some (.int .u64 a))(hy:(St.mk pe lo hp df).aa y=some (.int k b))(hb:b=n)(hn:n<=64)
 (h:WO M l ⟨⟨pe,(t,.int .u64 (a/2^n))::lo,hp,df⟩,wr⟩ Q):WO M (⟨.l t,.bin .shr x y,none⟩::l) ⟨⟨pe,lo,hp,df⟩,wr⟩ Q:=by
 refine abg (v:=.int .u64 (a/2^n)) ?_ rfl h;subst hb;have h3:¬((n:Int)<0):=by omega
 have h4:min ((n:Int).toNat) IntKind.u64.bits=n:=by
  show min ((n:Int).toNat) 64=n;omega
 simp only[aY,hx,hy,cS,if_neg h3,h4];rw[Int.fdiv_eq_ediv_of_nonneg _ (Int.le_of_lt (Int.pow_pos (by decide)))]
theorem ahv (hx:(St.mk pe lo hp df).aa x=some (.int .u64 a))(hy:(St.mk pe lo hp df).aa y=some (.int k b))(hb:b=n)(hn:n<=64)
 (h:WO M l ⟨⟨pe,(t,.int .u64 ((a*2^n)%18446744073709551616))::lo,hp,df⟩,wr⟩ Q):WO M (⟨.l t,.bin .shl x y,none⟩::l) ⟨⟨pe,lo,hp,df⟩,wr⟩ Q:=by
 refine abg (v:=.int .u64 ((a*2^n)%18446744073709551616)) ?_ rfl h;subst hb;have h3:¬((n:Int)<0):=by omega
 have h4:min ((n:Int).toNat) IntKind.u64.bits=n:=by
  show min ((n:Int).toNat) 64=n;omega
 simp only[aY,hx,hy,cS,if_neg h3,h4,nW]
theorem ahq {c:Int}(hx:(St.mk pe lo hp df).aa x=some (.int .u64 a))(hy:(St.mk pe lo hp df).aa y=some (.int k b))(hb:b=n)(hn:n<=64)(hc:(2:Int)^n=c)
 (h:WO M l ⟨⟨pe,(t,.int .u64 (a/c))::lo,hp,df⟩,wr⟩ Q):WO M (⟨.l t,.bin .shr x y,none⟩::l) ⟨⟨pe,lo,hp,df⟩,wr⟩ Q:=by
 subst hc;exact ahe hx hy hb hn h
theorem pZ:BitVec.ofInt 64 (n:Int)=BitVec.ofNat 64 n:=by
 apply BitVec.eq_of_toNat_eq;simp[BitVec.toNat_ofInt]
theorem aiu (hx:(St.mk pe lo hp df).aa x=some (.int .u64 a))(hy:(St.mk pe lo hp df).aa y=some (.int .u64 4294967295))(ha:0<=a/\a<18446744073709551616)
 (h:WO M l ⟨⟨pe,(t,.int .u64 (a%4294967296))::lo,hp,df⟩,wr⟩ Q):WO M (⟨.l t,.bin .and x y,none⟩::l) ⟨⟨pe,lo,hp,df⟩,wr⟩ Q:=by
 refine abg (v:=.int .u64 (a%4294967296)) ?_ rfl h;obtain⟨n,rfl⟩:=Int.eq_ofNat_of_zero_le ha.1;have e:(BitVec.ofInt 64 (n:Int) &&& BitVec.ofInt 64 4294967295).toNat=n%4294967296:=by
  rw[pZ,show (4294967295:Int)=((4294967295:Nat):Int) from rfl,pZ,BitVec.toNat_and,BitVec.toNat_ofNat,BitVec.toNat_ofNat,Nat.mod_eq_of_lt (show n<2^64 by omega),Nat.mod_eq_of_lt (show 4294967295<2^64 by decide)];exact Nat.and_two_pow_sub_one_eq_mod n 32
 simp only[aY,hx,hy,cS,if_true];show some (AV.int .u64 (IntKind.u64.wrap ((BitVec.ofInt 64 (n:Int) &&& BitVec.ofInt 64 4294967295).toNat:Int)))=_;rw[e,pY (by omega)];rfl
theorem ahW (m:Nat)(hx:(St.mk pe lo hp df).aa x=some (.int .u64 a))(hy:(St.mk pe lo hp df).aa y=some (.int .u64 b))(ha:0<=a/\a<18446744073709551616)(hb:0<=b/\b<2^m)(hm:m<=64)(hd:a%2^m=0)
 (h:WO M l ⟨⟨pe,(t,.int .u64 (a+b))::lo,hp,df⟩,wr⟩ Q):WO M (⟨.l t,.bin .or x y,none⟩::l) ⟨⟨pe,lo,hp,df⟩,wr⟩ Q:=by
 refine abg (v:=.int .u64 (a+b)) ?_ rfl h;obtain⟨n,rfl⟩:=Int.eq_ofNat_of_zero_le ha.1;obtain⟨p,rfl⟩:=Int.eq_ofNat_of_zero_le hb.1;have hp2:p<2^m:=by have:=hb.2;exact_mod_cast this
 have h64:2^m<=2^64:=Nat.pow_le_pow_right (by decide) hm;have hd':n%2^m=0:=by exact_mod_cast hd
 obtain⟨q,hq⟩:∃q,n=2^m*q:=⟨n/2^m,by have:=Nat.div_add_mod n (2^m);omega⟩;have hsum:n+p<2^64:=by
  have h1:n<2^64:=by omega
  obtain⟨r,hr⟩:∃r,2^64=2^m*2^r:=⟨64-m,by rw[←Nat.pow_add];congr 1;omega⟩;rw[hq,hr]at h1;have h2:q<2^r:=Nat.lt_of_mul_lt_mul_left h1;have h3:2^m*(q+1)<=2^m*2^r:=Nat.mul_le_mul_left _ h2;rw[Nat.mul_add]at h3;omega
 have e:(BitVec.ofInt 64 (n:Int) ||| BitVec.ofInt 64 (p:Int)).toNat=n+p:=by
  rw[pZ,pZ,BitVec.toNat_or,BitVec.toNat_ofNat,BitVec.toNat_ofNat,Nat.mod_eq_of_lt (show n<2^64 by omega),Nat.mod_eq_of_lt (show p<2^64 by omega),hq];exact(Nat.two_pow_add_eq_or_of_lt hp2 q).symm
 simp only[aY,hx,hy,cS,if_true];show some (AV.int .u64 (IntKind.u64.wrap ((BitVec.ofInt 64 (n:Int) ||| BitVec.ofInt 64 (p:Int)).toNat:Int)))=_;rw[e,pY (by omega)];rfl
theorem aif (hx:(St.mk pe lo hp df).aa x=some (.int k a))(h:WO M l ⟨⟨pe,(t,.int .u64 (a%18446744073709551616))::lo,hp,df⟩,wr⟩ Q):WO M (⟨.l t,.dF .u64 x,none⟩::l) ⟨⟨pe,lo,hp,df⟩,wr⟩ Q:=
 abg (v:=.int .u64 (a%18446744073709551616)) (by simp only[aY,hx,Option.bind_some,lO,nW]) rfl h
theorem TM {a:Int}:IntKind.u8.wrap a=a%256:=by
 simp only[IntKind.wrap,IntKind.bits,IntKind.signed];simp
theorem ahZ (hx:(St.mk pe lo hp df).aa x=some (.int k a))(h:WO M l ⟨⟨pe,(t,.int .u8 (a%256))::lo,hp,df⟩,wr⟩ Q):WO M (⟨.l t,.dF .u8 x,none⟩::l) ⟨⟨pe,lo,hp,df⟩,wr⟩ Q:=
 abg (v:=.int .u8 (a%256)) (by simp only[aY,hx,Option.bind_some,lO,TM]) rfl h
end Go.Ab

/-
  Own work: a contract of the kit's shelf ('the call returns this, and nothing below has turned') as a contract of the abstract machine.
-/
namespace Go.Ab
open Go.RowKit
variable {P:Program} {gl:Nat->Option AV} {ρ:aw} {h:ab} {w w':World}
end Go.Ab
