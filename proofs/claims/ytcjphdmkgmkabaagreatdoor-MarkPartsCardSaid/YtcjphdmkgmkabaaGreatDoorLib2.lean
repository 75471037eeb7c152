/-
  Own work: functions known by their contracts: a table, how it grows.
-/
import Derived.Test.YtcjphdmkgmkabaaGreatDoorLib1
import Derived.Test.YtcjphdmkgmkabaaGreatDoorLib0
import Derived.OpenShut
import Derived.Laws.RangeString
import Derived.Lib.DecodeN
import Derived.Deep.Slices
import Derived.Deep.Strs
import Derived.Below
set_option maxHeartbeats 8000000
set_option maxRecDepth 20000
namespace Go.Ab
variable {FT:FuncId->Option dc} {h:ab} {S:List Nat}
variable {P:Program} {gl:Nat->Option AV}
abbrev Spec:=List AV->ab->Option HR
def bm:List (Nat×Spec)->FuncId->List AV->ab->Option HR
 | [],_,_,_=>none
 | (g,sp)::T,f,as,h=>if Nat.beq g f then sp as h else bm T f as h
def aS (P:Program)(gl:Nat->Option AV)(f:Nat)(sp:Spec):Prop:=∀as h r,sp as h=some r->bQ P gl ⟨f,as,h,r⟩
theorem bx:cA P gl (bm []):=fun _ _ _ _ h=>by cases h
theorem aP {f:Nat}{sp:Spec}{T:List (Nat×Spec)}(h:aS P gl f sp)(hT:cA P gl (bm T)):cA P gl (bm ((f,sp)::T)):=by
 intro g all hp r hq;simp only[bm]at hq;split at hq
 . rename_i e;have e':=Nat.eq_of_beq_eq_true e;subst e';exact h _ _ _ hq
 . exact hT g all hp r hq
def my (k:XK):Spec:=fun as h=>(k.run as).map fun v=>⟨v,h,[]⟩
theorem uA {f:Nat}{k:XK}(h:nE P f k):aS P gl f (my k):=by
 intro as hp r hq;have:=Az (P:=P) (gl:=gl) (L:=[(f,k)]) (fun p hp=>by simp only[List.mem_singleton]at hp;subst hp;exact h) f as hp r;simp only[nF,Nat.beq_refl,if_true]at this;simp only[my,Option.map_eq_some_iff]at hq;obtain⟨v,hv,rfl⟩:=hq;exact this (by simp only[hv])
def AD (as0:List AV)(v:AV):Spec:=fun as h=>if uj as as0 then some ⟨v,h,[]⟩ else none
theorem Rw (hgl:∀g v,gl g=some v->v.top=0){f:Nat}{as0:List AV}{v:AV}(hv:v.top=0)(htop:bk as0=0)(hloc:bQ P gl ⟨f,as0,[],⟨v,[],[]⟩⟩):aS P gl f (AD as0 v):=by
 intro as h r hq;simp only[AD]at hq;split at hq
 . rename_i e;have e':=GG e;subst e';cases hq;have:=GR (h:=h) (S:=[]) (ks:=[]) (bs:=[]) hgl (as:=as) ⟨rfl,fun i x y hx hy=>by rw[hx]at hy;cases hy;exact .same (by have:=ff (n:=0) (by omega) i x hx;omega)⟩ (by simp) (.same hv) rfl (by simp) (.inl rfl) hloc;simpa using this
 . cases hq
structure jF (P:Program)(gl:Nat->Option AV)(FT:FuncId->Option dc):Prop where
 mix:P.follows .mixedOrders=true
 ft:mq P gl FT
 gl:∀g v,gl g=some v->v.top=0
abbrev aX (P:Program)(FT:FuncId->Option dc)(T:List (Nat×Spec)):ax:=⟨bm T,eK P,FT⟩
theorem pA (hs:jF P gl FT){T:List (Nat×Spec)}(hT:cA P gl (bm T)){f:Nat}{as:List AV}{h:ab}{r:HR}(hr:aT (aX P FT T) f as h r)(hw:fo h r):bQ P gl ⟨f,as,h,r⟩:=by
 obtain⟨n,hn⟩:=hr;refine⟨hw,fun ρ w as' m hv=>?_⟩;obtain⟨h1,h2⟩:=uf (Ax hs.mix hT hs.ft n) hs.ft hn m hv;refine⟨_,_,h1,?_⟩;refine CallsIn.mono h2 fun e w' he=>?_
 cases e with
 | returned v=>exact he
 | panicked _=>exact he
 | outgrown=>exact he
theorem Rx (hs:jF P gl FT){T:List (Nat×Spec)}(hT:cA P gl (bm T)){f:Nat}{as as0:List AV}{h:ab}{S ks:List Nat}{v v1:AV}{hh:ab}{bs:List bw}(hr:aT (aX P FT T) f as0 [] ⟨v,hh,[]⟩)
 (hv:gu h S as as0) (hnd:ks.Nodup) (hv1:Rn ks h.length v v1) (hlen:ks.length=bs.length)
 (hbs:∀(i b:Nat) o1,ks[i]? = some b->bs[i]? = some o1->∃o,hh.at b=some o/\rA ks h.length o o1/\(S=[]\/uy o=true)) (hn:S=[]\/dj v=true):bQ P gl ⟨f,as,h,⟨v1,h++bs.map some,[]⟩⟩:=
 GR hs.gl hv hnd hv1 hlen hbs hn (pA hs hT hr ⟨Nat.zero_le _,fun _ hb=>absurd hb (Nat.not_lt_zero _)⟩)
theorem AE (hs:jF P gl FT){T:List (Nat×Spec)}(hT:cA P gl (bm T)){f:Nat}{as as0:List AV}{h hh:ab}{S:List Nat}{v:AV}(hr:aT (aX P FT T) f as0 [] ⟨v,hh,[]⟩)
 (hv:gu h S as as0) (ht:v.top=0) (hn:S=[]\/dj v=true):bQ P gl ⟨f,as,h,⟨v,h,[]⟩⟩:=by
 have:=Rx hs hT (ks:=[]) (bs:=[]) hr hv (by simp) (.same ht) rfl (by simp) hn;simpa using this
theorem gu.nil:gu h S [] []:=⟨rfl,by simp⟩
theorem gu.cons {x y:AV}{l m:List AV}(h1:Fr h S x y)(h2:gu h S l m):gu h S (x::l) (y::m):=by
 refine⟨by simp[h2.1],fun i a b ha hb=>?_⟩;cases i with
 | zero=>simp at ha hb;subst ha;subst hb;exact h1
 | succ i=>simp at ha hb;exact h2.2 i a b ha hb
theorem gu.same {l:List AV}(ht:bk l=0):gu h S l l:=
 ⟨rfl,fun i x y hx hy=>by rw[hx]at hy;cases hy;exact .same (by have:=ff (n:=0) (by omega) i x hx;omega)⟩
theorem Fr.mono {S':List Nat}(hs:∀b∈S,b∈S'){x y:AV}(hf:Fr h S x y):Fr h S' x y:=by
 induction hf with
 | same ht=>exact .same ht
 | nil hc=>exact .nil hc
 | sl hb ha hc hl _ hcc ih=>exact .sl (hs _ hb) ha hc hl ih hcc
 | ptr hb ha hl _ ih=>exact .ptr (hs _ hb) ha hl ih
 | vs hl _ ih=>exact .vs hl ih
 | agg hl _ ih=>exact .agg hl ih
 | aq hl _ ih=>exact .aq hl ih
 | fn hf h1 h2 _ _ ih1 ih2=>exact .fn hf h1 h2 ih1 ih2
def arr {α:Type}(f:α->List AV)(l:List α):List AV:=l.flatMap f
def ints (l:List Int):List AV:=arr (fun x=>[.int .i64 x]) l
theorem Ry {a b:List AV}:eL (a++b)=(eL a && eL b):=by
 induction a with
 | nil=>simp[eL]
 | cons x a ih=>simp only[List.cons_append,eL,ih,Bool.and_assoc]
theorem nJ {α:Type}{f:α->List AV}(hf:∀a,eL (f a)=true):∀l:List α,eL (arr f l)=true
 | []=>rfl
 | a::l=>by
  have:=nJ hf l;simp only[arr,List.flatMap_cons,Ry,hf]at this ⊢;simpa using this
def Sl {α:Type}(f:α->List AV)(h:ab)(v:AV)(l:List α):Prop:=
 (v = .ae/\l=[])\/(∃cap,v = .vs (arr f l) l.length cap)\/(∃b off esz cap c e,v = .sl b off l.length esz cap/\h.at b=some (.cells c e)/\cut c off (l.length*esz)=some (arr f l))
theorem Rz {a b:List AV}:bk (a++b)=max (bk a) (bk b):=by
 induction a with
 | nil=>simp[bk]
 | cons x a ih=>simp only[List.cons_append,bk,ih];omega
theorem pF {α:Type}{f:α->List AV}(hf:∀a,bk (f a)=0):∀l:List α,bk (arr f l)=0
 | []=>rfl
 | a::l=>by
  have:=pF hf l;simp only[arr,List.flatMap_cons,Rz,hf]at this ⊢;omega
theorem Sl.fr {α:Type}{f:α->List AV}(hf:∀a,bk (f a)=0){h:ab}{v:AV}{l:List α}(hs:Sl f h v l):∃S cap,Fr h S v (.vs (arr f l) l.length cap):=by
 rcases hs with ⟨rfl,rfl⟩|⟨cap,rfl⟩|⟨b,off,esz,cap,c,e,rfl,h1,h2⟩
 . exact⟨[],none,.nil (by simp)⟩
 . exact⟨[],cap,.same (by simp only[AV.top];exact pF hf l)⟩
 . refine⟨[b],cap,.sl (List.mem_singleton.2 rfl) h1 h2 rfl fun i x y hx hy=>?_⟩;rw[hx]at hy;cases hy;exact .same (by have:=ff (n:=0) (Nat.le_of_eq (pF hf l)) i x hx;omega)
end Go.Ab

/-
  Own work: the calculus of runs: memory, drawn regions that only read, slots told true or false.
-/
namespace Go.Ab
variable {t i n b esz0 bytes:Nat} {l:List aU} {pe:List AV} {lo:List (Nat×AV)} {hp h' h:ab} {df wr w':List Nat} {v a:AV} {Q:ao->Prop} {op:aZ} {ag:Bool} {x y:aL} {elem:TypeId} {o:Option bw}
variable {M:ax}
theorem acR {c a b:aL}(hc:(St.mk pe lo hp df).aa c=some (.bool true))(ha:(St.mk pe lo hp df).aa a=some v)
 (h:WO M l ⟨⟨pe,(t,v)::lo,hp,df⟩,wr⟩ Q):WO M (⟨.l t,.pick c a b,none⟩::l) ⟨⟨pe,lo,hp,df⟩,wr⟩ Q:=
 WO.op (WP.pure (v:=v) rfl (by simp only[aW,hc,ha];cases (St.mk pe lo hp df).aa b <;> simp) h)
theorem adM {c a b:aL}(hc:(St.mk pe lo hp df).aa c=some (.bool false))(hb:(St.mk pe lo hp df).aa b=some v)
 (h:WO M l ⟨⟨pe,(t,v)::lo,hp,df⟩,wr⟩ Q):WO M (⟨.l t,.pick c a b,none⟩::l) ⟨⟨pe,lo,hp,df⟩,wr⟩ Q:=
 WO.op (WP.pure (v:=v) rfl (by simp only[aW,hc,hb];cases (St.mk pe lo hp df).aa a <;> simp) h)
theorem acb (hv:bB ⟨pe,lo,hp,df⟩ op hp=some ⟨v,h',w'⟩)(hh:op.bG=true)(hc:op.pE=true)
 (h:WO M l ⟨⟨pe,(t,v)::lo,h',df⟩,w'++wr⟩ Q):WO M (⟨.l t,op,none⟩::l) ⟨⟨pe,lo,hp,df⟩,wr⟩ Q:=WO.op (WP.heap hh hc hv h)
theorem acK (hv:bB ⟨pe,lo,hp,df⟩ op hp=some ⟨v,h',w'⟩)(hh:op.bG=true)(hc:op.pE=true)
 (h:WO M l ⟨⟨pe.set i v,lo,h',df⟩,w'++wr⟩ Q):WO M (⟨.p i,op,none⟩::l) ⟨⟨pe,lo,hp,df⟩,wr⟩ Q:=WO.op (WP.heap hh hc hv h)
theorem afx (hv:bB ⟨pe,lo,hp,df⟩ op hp=some ⟨v,h',w'⟩)(hh:op.bG=true)(hc:op.pE=true)
 (h:WO M l ⟨⟨pe,lo,h',df⟩,w'++wr⟩ Q):WO M (⟨.no,op,none⟩::l) ⟨⟨pe,lo,hp,df⟩,wr⟩ Q:=WO.op (WP.heap hh hc hv h)
theorem kd {α:Type}{f:α->List AV}(a:α)(l:List α):arr f (a::l)=f a++arr f l:=rfl
theorem RA {α:Type}{f:α->List AV}(l m:List α):arr f (l++m)=arr f l++arr f m:=by simp[arr]
section
variable {α:Type} {f:α->List AV} {esz:Nat}
theorem pG (hf:∀a,(f a).length=esz):∀l:List α,(arr f l).length=l.length*esz
 | []=>by simp[arr]
 | a::l=>by rw[kd,List.length_append,hf,pG hf l,List.length_cons,Nat.add_mul];omega
theorem AF (hf:∀a,(f a).length=esz):∀(l:List α) (i:Nat),(arr f l).drop (i*esz)=arr f (l.drop i)
 | [],i=>by simp[arr]
 | a::l,0=>by simp
 | a::l,i+1=>by
  rw[kd,List.drop_append,show (i+1)*esz=esz+i*esz from by rw[Nat.add_mul];omega,hf,Nat.add_sub_cancel_left,AF hf l i,List.drop_succ_cons,List.drop_eq_nil_of_le (by rw[hf];omega)];rfl
theorem AG (hf:∀a,(f a).length=esz):∀(l:List α) (i:Nat),(arr f l).take (i*esz)=arr f (l.take i)
 | [],i=>by simp[arr]
 | a::l,0=>by simp[arr]
 | a::l,i+1=>by
  rw[kd,List.take_append,show (i+1)*esz=esz+i*esz from by rw[Nat.add_mul];omega,hf,Nat.add_sub_cancel_left,AG hf l i,List.take_succ_cons,List.take_of_length_le (by rw[hf];omega)];rfl
theorem ke (hf:∀a,(f a).length=esz){l:List α}{i n:Nat}(h:i+n<=l.length):cut (arr f l) (i*esz) (n*esz)=some (arr f ((l.drop i).take n)):=by
 simp only[cut,AF hf,AG hf,pG hf];rw[if_pos (by rw[List.length_take,List.length_drop];congr 1;omega)]
theorem RB [ia:Inhabited α](hf:∀a,(f a).length=esz){l:List α}{i:Nat}(h:i<l.length):∃r,(arr f l).drop (i*esz)=f l[i]! ++ r:=by
 refine⟨arr f (l.drop (i+1)),?_⟩;rw[AF hf,List.drop_eq_getElem_cons h,kd,getElem!_pos l i h]
theorem RC {a r:List AV}{j:Nat}(h:j+n<=a.length)(hn:ag=true\/0<n):partOf (a++r) j n ag=partOf a j n ag:=by
 cases ag with
 | true => 
   simp only[partOf,if_true,cut];rw[List.drop_append,List.take_append_of_le_length (by simp;omega)]
 | false=>
  simp only[partOf,Bool.false_eq_true,if_false];have:0<n:=by simpa using hn
  rw[List.getElem?_append_left (by omega)]
theorem GS {a:List AV}{j:Nat}:partOf (a.drop j) 0 n ag=partOf a j n ag:=by
 cases ag <;> simp[partOf,cut]
theorem GU [ia:Inhabited α](hf:∀a,(f a).length=esz){l:List α}{i j n:Nat}{ag:Bool}(h:i<l.length)(hj:j+n<=esz)(hn:0<n):partOf ((arr f l).drop (i*esz)) j n ag=partOf (f l[i]!) j n ag:=by
 obtain⟨r,hr⟩:=RB hf h;rw[hr,RC (by rw[hf];exact hj) (.inr hn)]
theorem GV (a:α):∀n:Nat,fS (f a) n=arr f (List.replicate n a)
 | 0=>rfl
 | n+1=>by rw[fS,GV a n,List.replicate_succ,kd]
end
variable {α:Type} {ia:Inhabited α} {f:α->List AV} {esz:Nat}
theorem afu {c:List α}(hx:(St.mk pe lo hp df).aa x=some (.vp ((arr f c).drop (i*esz))))
 (hf:∀a,(f a).length=esz) (hi:i<c.length) (hn:0<n/\0+n<=esz) (hv:partOf (f c[i]!) 0 n ag=some v) (h:WO M l ⟨⟨pe,(t,v)::lo,hp,df⟩,wr⟩ Q):WO M (⟨.l t,.load n ag x,none⟩::l) ⟨⟨pe,lo,hp,df⟩,wr⟩ Q:=
 acb (v:=v) (h':=hp) (w':=[]) (by simp only[bB,hx,Option.bind_some,fg,GU hf hi hn.2 hn.1,hv]) rfl rfl h
theorem aha {c:List α}{e:TypeId}(hx:(St.mk pe lo hp df).aa x=some (.ptr b (0+i*esz)))(hb:hp.at b=some (.cells (arr f c) e))
 (hf:∀a,(f a).length=esz) (hi:i<c.length) (hn:0<n/\0+n<=esz) (hv:partOf (f c[i]!) 0 n ag=some v) (h:WO M l ⟨⟨pe,(t,v)::lo,hp,df⟩,wr⟩ Q):WO M (⟨.l t,.load n ag x,none⟩::l) ⟨⟨pe,lo,hp,df⟩,wr⟩ Q:=
 acb (v:=v) (h':=hp) (w':=[]) (by simp only[bB,hx,Option.bind_some,fg,hb,Nat.zero_add,GU hf hi hn.2 hn.1,hv]) rfl rfl h
theorem afR {c:List AV}(hx:(St.mk pe lo hp df).aa x=some a)(hb:fg hp a=some c)(hv:partOf c 0 n ag=some v)
 (h:WO M l ⟨⟨pe,(t,v)::lo,hp,df⟩,wr⟩ Q):WO M (⟨.l t,.load n ag x,none⟩::l) ⟨⟨pe,lo,hp,df⟩,wr⟩ Q:=
 acb (v:=v) (h':=hp) (w':=[]) (by simp only[bB,hx,Option.bind_some,hb,hv]) rfl rfl h
theorem WO.RD {zero:List AV}{k k':IntKind}{a b:Int}(hx:(St.mk pe lo hp df).aa x=some (.int k a))(hy:(St.mk pe lo hp df).aa y=some (.int k' b))
 (hc:0<=a/\a<=b/\b.toNat*bytes<=dD/\b<=2^46/\zero.length=esz0) (h:WO M l ⟨⟨pe,(t,.sl hp.length 0 a.toNat esz0 (some b.toNat))::lo,hp++[some (.cells (fS zero b.toNat) elem)],df⟩,wr⟩ Q) :
 WO M (⟨.l t,.gg elem esz0 bytes zero x y,none⟩::l) ⟨⟨pe,lo,hp,df⟩,wr⟩ Q:=
 acb (v:=.sl hp.length 0 a.toNat esz0 (some b.toNat)) (h':=hp++[some (.cells (fS zero b.toNat) elem)]) (w':=[]) (by simp only[bB,hx,hy,Option.bind_some,qK];rw[if_pos hc]) rfl rfl h
theorem eo {o:bw}(hb:h.at b=some o):b<h.length:=by
 unfold ab.at at hb;cases hz:h[b]? with
 | none=>rw[hz]at hb;cases hb
 | some z=>exact(List.getElem?_eq_some_iff.1 hz).1
theorem bW {x:Option bw}:ab.at (h++[x]) h.length=x:=by simp[ab.at]
theorem bT {l:ab}{o:bw}(hb:h.at b=some o):ab.at (h++l) b=some o:=by
 have:=eo hb;simp only[ab.at]at hb ⊢;rw[List.getElem?_append_left this];exact hb
theorem dg (hb:b<h.length):ab.at (h.put b o) b=o:=by
 simp[ab.at,ab.put,hb]
theorem pH {a:Nat}{x:bw}(hn:a≠b)(ha:h.at a=some x):ab.at (h.put b o) a=some x:=by
 have:¬b=a:=fun e=>hn e.symm
 simp only[ab.at,ab.put,List.getElem?_set,if_neg this]at ha ⊢;exact ha
theorem fj:(h.put b o).length=h.length:=by simp[ab.put]
theorem ahj {b:AV}{new:List AV}(hx:(St.mk pe lo hp df).aa x=some .ae)(hy:(St.mk pe lo hp df).aa y=some b)(hs:eA hp b=some (new,n))
 (hc:new.length=n*esz0/\0<bytes/\new.all cS=true) (hn:0<n/\n*bytes<=dD) (h:WO M l ⟨⟨pe,(t,.sl hp.length 0 n esz0 none)::lo,hp++[some (.cells new elem)],df⟩,wr⟩ Q):WO M (⟨.l t,.append elem esz0 bytes x y,none⟩::l) ⟨⟨pe,lo,hp,df⟩,wr⟩ Q:=by
 refine acb (v:=.sl hp.length 0 n esz0 none) (h':=hp++[some (.cells new elem)]) (w':=[]) ?_ rfl rfl h;simp only[bB,hx,hy,jv,hs,if_pos hc];rw[if_neg (by omega),if_pos hn.2]
theorem ahg {c off len:Nat}{b:AV}{new bU:List AV}(hx:(St.mk pe lo hp df).aa x=some (.sl c off len esz0 none))(hy:(St.mk pe lo hp df).aa y=some b)(hs:eA hp b=some (new,n))
 (hc:new.length=n*esz0/\0<bytes/\new.all cS=true) (hn:0<n/\(len+n)*bytes<=dD) (hb:hp.at c=some (.cells bU elem)) (ho:bU.length=off+len*esz0)
 (h:WO M l ⟨⟨pe,(t,.sl hp.length 0 (len+n) esz0 none)::lo,hp.put c none++[some (.cells (bU.drop off++new) elem)],df⟩,c::wr⟩ Q):WO M (⟨.l t,.append elem esz0 bytes x y,none⟩::l) ⟨⟨pe,lo,hp,df⟩,wr⟩ Q:=by
 refine acb (v:=.sl hp.length 0 (len+n) esz0 none) (h':=hp.put c none++[some (.cells (bU.drop off++new) elem)]) (w':=[c]) ?_ rfl rfl h;simp only[bB,hx,hy,jv,hs,if_pos hc,hb];rw[if_neg (by omega),if_pos ⟨trivial,hn.2⟩,if_pos ⟨ho,trivial⟩]
def aZ.ro:aZ->Bool
 | .load .. => true
 | op=>!op.bG
def cg.clean (d:cg):Prop:=d.wr=[]/\d.hi=d.lo
theorem AH {T:List Nat}:ab.at (dv T h 0) b=if T.contains b then h.at b else none:=by
 unfold ab.at;rw[nz];cases h[b]? <;> simp
theorem GW {T:List Nat}:dV [] h (dv T h 0) 0=h:=by
 apply List.ext_getElem?;intro b;rw[jD _ _ _ _ _ (by rw[fL];exact Nat.le_refl _)];split
 . simp
 . rename_i hb;rw[List.getElem?_eq_none (by rw[fL];omega),List.getElem?_eq_none (by omega)]
def kY:Option AV->List Nat
 | some (.ptr b _)=>[b]
 | some (.sl b _ _ _ _)=>[b]
 | some (.map b)=>[b]
 | _=>[]
theorem GX {s:St}:jx s (.load n ag x)=some (kY (s.aa x)):=by
 simp only[jx];cases s.aa x with
 | none=>rfl
 | some a=>cases a <;> rfl
theorem GY:fg (dv (kY (some a)) h 0) a=fg h a:=by
 cases a <;> first|rfl|skip
 simp[fg,kY,AH]
theorem uB {call:dM}{inv:fw}{s:St}(ha:s.aa x=some a)(hp':ab):bR call inv { s with hp:=hp' } (.load n ag x)=(fg hp' a).bind fun l=>(partOf l 0 n ag).map fun v=>⟨v,hp',[]⟩:=by
 have hx':St.aa { s with hp:=hp' } x=some a:=by rw[←ha];cases x <;> rfl
 simp only[bR,aZ.bG,if_true,bB,hx',Option.bind_some];cases fg hp' a with
 | none=>rfl
 | some l=>simp only[Option.bind_some];cases partOf l 0 n ag <;> rfl
theorem uD {call:dM}{inv:fw}:∀(l:List (aU×List Nat)) (s:ao) (ds:List cg),l.all (fun p=>p.1.op.ro)=true->(∀d∈ds,d.clean)->dN call inv l s ds=eE call inv (l.map (·.1)) s
 | [],s,ds,_,_=>rfl
 | (o,un)::l,s,ds,hl,hd=>by
  simp only[List.all_cons,Bool.and_eq_true]at hl;obtain⟨ho,hl⟩:=hl;have hcl:∀t,(∀d∈ds++[(⟨t,[],s.s.hp.length,s.s.hp.length⟩:cg)],d.clean):=fun t d hm=>by
   rcases List.mem_append.1 hm with h1|h1
   . exact hd d h1
   . simp only[List.mem_singleton]at h1;subst h1;exact⟨rfl,rfl⟩
  simp only[dN,List.map_cons,eE];split
  . by_cases hh:o.op.bG=true
    . have hop:∃n ag x,o.op = .load n ag x:=by
       cases hq:o.op <;> rw[hq]at ho hh <;> first|(cases hh;done)|(cases ho;done)|exact⟨_,_,_,rfl⟩
      obtain⟨n,ag,x,hop⟩:=hop;have hU:un.flatMap (fun j=>(ds[j]?).elim [] cg.own)=[]:=by
       rw[List.flatMap_eq_nil_iff];intro j _;cases hj:ds[j]? with
       | none=>rfl
       | some d=>
        obtain⟨c1,c2⟩:=hd d (List.mem_of_getElem? hj);simp[cg.own,c1,c2]
      simp only[hop,aZ.bG,if_true,GX,hU];have hdis:∀T,gP T []=true:=fun T=>by simp[gP]
      simp only[hdis,if_true];cases ha:s.s.aa x with
      | none=>
       have e1:∀hp',bR call inv { s.s with hp:=hp' } (.load n ag x)=none:=fun hp'=>by
        have hx':St.aa { s.s with hp:=hp' } x=none:=by rw[←ha];cases x <;> rfl
        simp only[bR,aZ.bG,if_true,bB,hx',Option.bind_none]
       rw[e1,show bR call inv s.s (.load n ag x)=none from e1 s.s.hp]
      | some a=>
       have e2:=uB (call:=call) (inv:=inv) (n:=n) (ag:=ag) ha s.s.hp;rw[uB ha,GY,show bR call inv s.s (.load n ag x)=_ from e2];cases fg s.s.hp a with
       | none=>rfl
       | some c=>
        simp only[Option.bind_some];cases partOf c 0 n ag with
        | none=>rfl
        | some v=>
         simp only[Option.map_some,List.all_nil,List.isEmpty_nil,Bool.true_or,Bool.and_true,if_true,GW,List.nil_append];have:=uD (call:=call) (inv:=inv) l ⟨{ s.s.put o.dst v with hp:=s.s.hp },s.wr⟩ (ds++[⟨some (kY (some a)),[],s.s.hp.length,s.s.hp.length⟩]) hl (hcl _);rw[←this];simp[fL]
    . have hh':o.op.bG=false:=by simpa using hh
      rw[if_neg hh];have e2:bR call inv s.s o.op=(aW s.s o.op).map fun v=>⟨v,s.s.hp,[]⟩:=by
       cases hq:o.op <;> rw[hq]at hh' <;> first|(cases hh';done)|simp only[bR,aZ.bG,Bool.false_eq_true,if_false]
      rw[e2];cases aW s.s o.op with
      | none=>rfl
      | some v=>
       simp only[Option.map_some,List.nil_append];have hput:({ s.s.put o.dst v with hp:=s.s.hp }:St)=s.s.put o.dst v:=by cases o.dst <;> rfl
       rw[hput];exact uD l _ _ hl (hcl _)
  . exact uD l _ _ hl (hcl _)
  . rfl
theorem afB {l:List (aU×List Nat)}{Q:Ex->ao->Prop}(hl:l.all (fun p=>p.1.op.ro)=true)(h:WO M (l.map (·.1)) ⟨⟨pe,[],hp,df⟩,wr⟩ (Q .normal)):W M (.draw l) ⟨⟨pe,lo,hp,df⟩,wr⟩ Q:=by
 obtain⟨⟨n,s',h1,h2⟩⟩:=h;exact aeb ⟨⟨n,s',by rw[uD l _ _ hl (by simp)];exact h1,h2⟩⟩
end Go.Ab

/-
  Own work: the calculus of runs: drawn regions, one operation at a time.
-/
namespace Go.Ab
variable {t n:Nat} {x y:aL} {l:List (aU×List Nat)} {pe:List AV} {lo:List (Nat×AV)} {hp:ab} {df wr un T:List Nat} {a b:Int} {Q:ao->Prop} {s:ao} {ds:List cg} {d:eh}
variable {M:ax}
theorem ahd {l:List aU}(hx:(St.mk pe lo hp df).aa x=some (.int .i64 a))(hy:(St.mk pe lo hp df).aa y=some (.int .i64 b))
 (ha:0<=a/\0<b) (hr:a<9223372036854775808) (h:0<=a/b->a/b<=a->WO M l ⟨⟨pe,(t,.int .i64 (a/b))::lo,hp,df⟩,wr⟩ Q):WO M (⟨.l t,.bin .quo x y,none⟩::l) ⟨⟨pe,lo,hp,df⟩,wr⟩ Q:=by
 refine afY hx hy ha.2 ⟨by omega,hr⟩ ?_;rw[Int.tdiv_eq_ediv_of_nonneg ha.1];exact h (Int.ediv_nonneg ha.1 (Int.le_of_lt ha.2)) (Int.ediv_le_self _ ha.1)
theorem ahc {l:List aU}{k:IntKind}(hx:(St.mk pe lo hp df).aa x=some (.int k a))(hy:(St.mk pe lo hp df).aa y=some (.int k b))
 (ha:0<=a/\0<b) (h:0<=a%b->a%b<b->WO M l ⟨⟨pe,(t,.int k (a%b))::lo,hp,df⟩,wr⟩ Q):WO M (⟨.l t,.bin .rem x y,none⟩::l) ⟨⟨pe,lo,hp,df⟩,wr⟩ Q:=by
 refine afZ hx hy (by omega) ?_;rw[Int.tmod_eq_emod_of_nonneg ha.1];exact h (Int.emod_nonneg _ (by omega)) (Int.emod_lt_of_pos _ ha.2)
theorem abD {f:aL}{args:List aL}{l:List aU}{h':ab}{wr':List Nat}{g:FuncId}{fi ca as:List AV}{v:AV}(hf:(St.mk pe lo hp df).aa f=some (.fn (.func g) fi ca))(ha:(St.mk pe lo hp df).cH args=some as)
 (he:M.ext g (fi++as++ca) hp=some ⟨v,h',wr'⟩) (h:WO M l ⟨⟨pe,(t,v)::lo,h',df⟩,wr'++wr⟩ Q):WO M (⟨.l t,.call f args,none⟩::l) ⟨⟨pe,lo,hp,df⟩,wr⟩ Q:=WO.Rv hf ha he h
theorem agB {bytes:Nat}{elem:TypeId}{l:List aU}{k k':IntKind}{z:Int}{kz:IntKind}(hx:(St.mk pe lo hp df).aa x=some (.int k a))(hy:(St.mk pe lo hp df).aa y=some (.int k' b))
 (hc:0<=a/\a<=b/\b.toNat*bytes<=70368744177664/\b<=70368744177664) (h:WO M l ⟨⟨pe,(t,.sl hp.length 0 a.toNat 1 (some b.toNat))::lo,hp++[some (.cells (arr (fun x=>[.int kz x]) (List.replicate b.toNat z)) elem)],df⟩,wr⟩ Q) :
 WO M (⟨.l t,.gg elem 1 bytes [.int kz z] x y,none⟩::l) ⟨⟨pe,lo,hp,df⟩,wr⟩ Q:=by
 refine WO.RD hx hy ⟨hc.1,hc.2.1,by simp only[dD];omega,by omega,rfl⟩ ?_;have e:=GV (f:=fun x=>[AV.int kz x]) z b.toNat;rw[show fS [AV.int kz z] b.toNat=_ from e];exact h
theorem aem (h:Q s):WD M [] s ds Q:=⟨⟨0,s,rfl,h⟩⟩
def cg.key (d:cg):Option (List Nat)×List Nat:=(d.jQ,d.own)
theorem RE {α:Type}{l:List α}{f g:α->Bool}(h:∀x,f x=g x):l.all f=l.all g:=by rw[show f=g from funext h]
theorem GZ {call:dM}{inv:fw}:∀(l:List (aU×List Nat)) (s:ao) (ds ds':List cg),ds.map cg.key=ds'.map cg.key->dN call inv l s ds=dN call inv l s ds'
 | [],_,_,_,_=>rfl
 | (o,un)::l,s,ds,ds',hk=>by
  have h1:∀j:Nat,(ds[j]?).elim [] cg.own=(ds'[j]?).elim [] cg.own:=fun j=>by
   have:=congrArg (fun x:List (Option (List Nat)×List Nat)=>x[j]?) hk;simp only[List.getElem?_map]at this;cases h3:ds[j]? <;> cases h4:ds'[j]? <;> rw[h3,h4]at this <;> simp[cg.key]at this ⊢;exact this.2
  have h2:∀j:Nat,(ds[j]?).map cg.jQ=(ds'[j]?).map cg.jQ:=fun j=>by
   have:=congrArg (fun x:List (Option (List Nat)×List Nat)=>x[j]?) hk;simp only[List.getElem?_map]at this;cases h3:ds[j]? <;> cases h4:ds'[j]? <;> rw[h3,h4]at this <;> simp[cg.key]at this ⊢;exact this.1
  have h7:(fun j:Nat=>(ds[j]?).elim [] cg.own)=(fun j:Nat=>(ds'[j]?).elim [] cg.own):=funext h1;have h8:∀d s,dN call inv l s (ds++[d])=dN call inv l s (ds'++[d]):=fun d s=>GZ l s _ _ (by simp[hk])
  unfold dN;simp only[h7,h8];cases eC s.s o.guard with
  | none=>rfl
  | some t=>
   cases t with
   | false=>rfl
   | true=>
    refine ite_congr rfl (fun _=>ite_congr rfl (fun _=>?_) (fun _=>rfl)) (fun _=>rfl);split
    . refine ite_congr (congrArg (fun b=>b=true) (congrArg (fun b=>_ && b) (congrArg (fun b=>_ || b) (RE ?_)))) (fun _=>rfl) (fun _=>rfl);intro j;have:=h2 j;cases h3:ds[j]? <;> cases h4:ds'[j]? <;> rw[h3,h4]at this <;> simp at this ⊢;rw[this]
    . rfl
theorem WD.norm {d d':cg}(hk:d.key=d'.key)(h:WD M l s (ds++[d]) Q):WD M l s (ds++[d']) Q:=by
 obtain⟨⟨n,s',h1,h2⟩⟩:=h;exact⟨⟨n,s',by rw[GZ l s (ds++[d']) (ds++[d]) (by simp[hk])];exact h1,h2⟩⟩
theorem WD.RF {o:aU}(hh:o.op.bG=false)(h:WO M [o] s fun s'=>WD M l s' (ds++[⟨some [],[],s.s.hp.length,s.s.hp.length⟩]) Q):WD M ((o,un)::l) s ds Q:=by
 obtain⟨⟨n,s1,h1,⟨⟨m,s',h2,h3⟩⟩⟩⟩:=h;refine⟨⟨max n m,s',?_,h3⟩⟩;have h1':=mw (inv:=M.inv) (jm (Nat.le_max_left n m)) _ _ _ h1;have h2':=jZ (inv:=M.inv) (jm (Nat.le_max_right n m)) _ _ _ _ h2;simp only[eE]at h1';have e2:bR (M.call (max n m)) M.inv s.s o.op=(aW s.s o.op).map fun v=>⟨v,s.s.hp,[]⟩:=by
  cases hq:o.op <;> rw[hq]at hh <;> first|(cases hh;done)|simp only[bR,aZ.bG,Bool.false_eq_true,if_false]
 rw[e2]at h1';cases hw:eC s.s o.guard with
 | none=>rw[hw]at h1';cases h1'
 | some t=>
  rw[hw]at h1';cases t with
  | true=>
   simp only[dN,hw,hh,Bool.false_eq_true,if_false];cases hp:aW s.s o.op with
   | none=>rw[hp]at h1';cases h1'
   | some v=>
    rw[hp]at h1';simp only[Option.map_some,List.nil_append,Option.some.injEq]at h1';have hput:({ s.s.put o.dst v with hp:=s.s.hp }:St)=s.s.put o.dst v:=by cases o.dst <;> rfl
    rw[hput]at h1';subst h1';exact h2'
  | false=>
   simp only[Option.some.injEq]at h1';simp only[dN,hw];subst h1';exact h2'
theorem Ha {h:ab}{b:Nat}{o:Option bw}:dV [b] h (ab.put (dv T h 0) b o) 0=ab.put h b o:=by
 apply List.ext_getElem?;intro c;rw[jD _ _ _ _ _ (by simp[ab.put,fL])];simp only[ab.put,List.getElem?_set,fL,nz];by_cases hc:c<h.length
 . rw[if_pos hc];by_cases e:b=c
   . subst e;simp[hc]
   . have:c≠b:=fun x=>e x.symm
     simp[e,this]
 . rw[if_neg hc,List.getElem?_eq_none (Nat.le_of_not_lt hc)];by_cases e:b=c
   . subst e;simp[hc]
   . simp[e]
theorem WD.RG {ag:Bool}{a:AV}(ha:s.s.aa x=some a)(hT:kY (some a)=T)(hd:gP T (un.flatMap fun j=>(ds[j]?).elim [] cg.own)=true)
 (h:WO M [⟨d,.load n ag x,none⟩] s fun s'=>WD M l s' (ds++[⟨some T,[],s.s.hp.length,s.s.hp.length⟩]) Q):WD M ((⟨d,.load n ag x,none⟩,un)::l) s ds Q:=by
 obtain⟨⟨k,s1,h1,⟨⟨m,s',h2,h3⟩⟩⟩⟩:=h;refine⟨⟨max k m,s',?_,h3⟩⟩;have h1':=mw (inv:=M.inv) (jm (Nat.le_max_left k m)) _ _ _ h1;have h2':=jZ (inv:=M.inv) (jm (Nat.le_max_right k m)) _ _ _ _ h2;simp only[eE,eC]at h1';subst hT;simp only[dN,eC,aZ.bG,if_true,GX,ha,hd];rw[uB ha,GY];rw[show bR (M.call (max k m)) M.inv s.s (.load n ag x)=_ from uB ha s.s.hp]at h1';cases hr:fg s.s.hp a with
 | none=>rw[hr]at h1';cases h1'
 | some c=>
  rw[hr]at h1';simp only[Option.bind_some]at h1' ⊢;cases hp:partOf c 0 n ag with
  | none=>rw[hp]at h1';cases h1'
  | some v=>
   rw[hp]at h1';simp only[Option.map_some,List.nil_append,Option.some.injEq]at h1';simp only[Option.map_some,List.all_nil,List.isEmpty_nil,Bool.true_or,Bool.and_true,if_true,GW,List.nil_append,fL];subst h1';exact h2'
theorem WD.RH {b off:Nat}(ha:s.s.aa x=some (.ptr b off))(hd:gP [b] (un.flatMap fun j=>(ds[j]?).elim [] cg.own)=true)
 (hu:un.all (fun j=>match ds[j]? with|some d=>(match d.jQ with|some T=>gP [b] T|none=>false)|none=>false)=true)
 (h:WO M [⟨.no,.store n x y,none⟩] s fun s'=>WD M l s' (ds++[⟨some [b],[b],s.s.hp.length,s.s.hp.length⟩]) Q):WD M ((⟨.no,.store n x y,none⟩,un)::l) s ds Q:=by
 obtain⟨⟨k,s1,h1,⟨⟨m,s',h2,h3⟩⟩⟩⟩:=h;refine⟨⟨max k m,s',?_,h3⟩⟩;have h1':=mw (inv:=M.inv) (jm (Nat.le_max_left k m)) _ _ _ h1;have h2':=jZ (inv:=M.inv) (jm (Nat.le_max_right k m)) _ _ _ _ h2;simp only[eE,eC,bR,aZ.bG,if_true,bB,ha]at h1';have hx':∀hp',St.aa { s.s with hp:=hp' } x=some (.ptr b off):=fun hp'=>by rw[←ha];cases x <;> rfl
 have hy':∀hp',St.aa { s.s with hp:=hp' } y=s.s.aa y:=fun hp'=>by cases y <;> rfl
 have hk:ab.at (dv [b] s.s.hp 0) b=s.s.hp.at b:=by simp[AH]
 simp only[dN,eC,aZ.bG,if_true,jx,ha,hd,bR,bB,hx',hy'];cases hy:s.s.aa y with
 | none=>rw[hy]at h1';cases h1'
 | some yv=>
  rw[hy]at h1';simp only[Option.bind_some]at h1' ⊢;cases hc:yv.cells with
  | none=>rw[hc]at h1';cases h1'
  | some new=>
   rw[hc]at h1';simp only at h1' ⊢;cases hb:s.s.hp.at b with
   | none=>rw[hb]at h1';cases h1'
   | some o=>
    rw[hb]at h1';cases o with
    | cells c e=>
     simp only at h1' ⊢;by_cases hcond:new.length=n/\off+n<=c.length/\new.all cS=true
     . simp only[if_pos hcond,Option.some.injEq]at h1';simp only[if_pos hcond,List.all_cons,List.all_nil,Bool.and_true,List.isEmpty_cons,Bool.false_or,hk,hb,Option.isSome_some,Ha,fj,fL];subst h1';rw[if_pos (show _=true by rw[Bool.true_and];exact hu)];exact h2'
     . simp only[if_neg hcond]at h1';cases h1'
    | map _=>cases h1'
    | iter _ _=>cases h1'
    | fR=>cases h1'
    | hole=>cases h1'
    | loop _ _ _ _ _ _=>cases h1'
theorem WD.RI {f:aL}{args:List aL}{g:FuncId}{fi ca as:List AV}{v:AV}{hn:ab}(hf:s.s.aa f=some (.fn (.func g) fi ca))(ha:s.s.cH args=some as)
 (hU:(un.flatMap fun j=>(ds[j]?).elim [] cg.own)=[]) (he:M.ext g (fi++as++ca) s.s.hp=some ⟨v,s.s.hp++hn,[]⟩)
 (h:WD M l ⟨{ s.s.put d v with hp:=s.s.hp++hn },s.wr⟩ (ds++[⟨none,[],s.s.hp.length,s.s.hp.length+hn.length⟩]) Q):WD M ((⟨d,.call f args,none⟩,un)::l) s ds Q:=by
 obtain⟨⟨m,s',h2,h3⟩⟩:=h;refine⟨⟨m,s',?_,h3⟩⟩;have hm:mask s.s.hp []=s.s.hp:=rfl;have hcall:bR (M.call m) M.inv { s.s with hp:=s.s.hp } (.call f args)=some ⟨v,s.s.hp++hn,[]⟩:=by
  simp only[bR,hf,ha,gQ,he]
 have hmerge:dV [] s.s.hp (s.s.hp++hn) 0=s.s.hp++hn:=by
  apply List.ext_getElem?;intro c;rw[jD _ _ _ _ _ (by simp)];split
  . rename_i hc;simp[List.getElem?_append_left hc]
  . rfl
 simp only[dN,eC,aZ.bG,if_true,jx,hU,hm];rw[hcall];simp only[List.all_nil,List.isEmpty_nil,Bool.true_or,Bool.and_true,if_true,hmerge,List.nil_append,List.length_append];exact h2
theorem AI {t:Option (List Nat)}{w:List Nat}:cg.key ⟨t,w,n,n⟩=cg.key ⟨t,w,0,0⟩:=by simp[cg.key,cg.own]
theorem aeZ {o:aU}(hh:o.op.bG=false)(h:WO M [o] s fun s'=>WD M l s' (ds++[⟨some [],[],0,0⟩]) Q):WD M ((o,un)::l) s ds Q:=
 WD.RF hh (h.mono fun _ h=>h.norm AI.symm)
theorem aeJ {ag:Bool}{a:AV}(ha:s.s.aa x=some a)(hT:kY (some a)=T)(hd:gP T (un.flatMap fun j=>(ds[j]?).elim [] cg.own)=true)
 (h:WO M [⟨d,.load n ag x,none⟩] s fun s'=>WD M l s' (ds++[⟨some T,[],0,0⟩]) Q):WD M ((⟨d,.load n ag x,none⟩,un)::l) s ds Q:=
 WD.RG ha hT hd (h.mono fun _ h=>h.norm AI.symm)
theorem aeU {b off:Nat}(ha:s.s.aa x=some (.ptr b off))(hd:gP [b] (un.flatMap fun j=>(ds[j]?).elim [] cg.own)=true)
 (hu:un.all (fun j=>match ds[j]? with|some d=>(match d.jQ with|some T=>gP [b] T|none=>false)|none=>false)=true)
 (h:WO M [⟨.no,.store n x y,none⟩] s fun s'=>WD M l s' (ds++[⟨some [b],[b],0,0⟩]) Q):WD M ((⟨.no,.store n x y,none⟩,un)::l) s ds Q:=
 WD.RH ha hd hu (h.mono fun _ h=>h.norm AI.symm)
end Go.Ab

/-
  Own work: the calculus of runs: maps, new blocks in drawn regions, slices as arguments of contracts.
-/
namespace Go.Ab
variable {t:Nat} {op:aZ} {pe:List AV} {lo:List (Nat×AV)} {hp:ab} {df wr un:List Nat} {Q:ao->Prop} {l:List (aU×List Nat)} {ds:List cg} {v:AV}
variable {M:ax}
theorem afU {x:aL}{want:Bool}{l:List aU}(hx:(St.mk pe lo hp df).aa x=some (.aq []))(h:WO M l ⟨⟨pe,(t,cB)::lo,hp,df⟩,wr⟩ Q):WO M (⟨.l t,op,some (x,want)⟩::l) ⟨⟨pe,lo,hp,df⟩,wr⟩ Q:=WO.Ru hx h
theorem agb {x:aL}{l:List aU}{a:Int}(hx:(St.mk pe lo hp df).aa x=some (.int .i64 a))
 (hr : -9223372036854775808<a/\a<=9223372036854775808) (h:WO M l ⟨⟨pe,(t,.int .i64 (-a))::lo,hp,df⟩,wr⟩ Q):WO M (⟨.l t,.un .neg x,none⟩::l) ⟨⟨pe,lo,hp,df⟩,wr⟩ Q:=
 WO.op (WP.pure (v:=.int .i64 (-a)) rfl (by
  have:IntKind.i64.wrap (0-a) = -a:=by rw[show 0-a = -a from by omega];exact nI (by omega)
  simp[aW,hx,qL]at this ⊢;exact this) h)
theorem WD.RJ {d:eh}{f:aL}{args:List aL}{s:ao}{g:FuncId}{fi ca as:List AV}(hf:s.s.aa f=some (.fn (.func g) fi ca))(ha:s.s.cH args=some as)
 (hU:(un.flatMap fun j=>(ds[j]?).elim [] cg.own)=[]) (he:M.ext g (fi++as++ca) s.s.hp=some ⟨v,s.s.hp,[]⟩)
 (h:WD M l ⟨s.s.put d v,s.wr⟩ (ds++[⟨none,[],0,0⟩]) Q):WD M ((⟨d,.call f args,none⟩,un)::l) s ds Q:=by
 have hp:({ s.s.put d v with hp:=s.s.hp++[] }:St)=s.s.put d v:=by cases d <;> simp[St.put]
 refine WD.RI (hn:=[]) hf ha hU (by simpa using he) ?_;rw[hp];exact h.norm (by simp[cg.key,cg.own])
theorem aeS {f:aL}{args:List aL}{g:FuncId}{fi ca as:List AV}(hf:(St.mk pe lo hp df).aa f=some (.fn (.func g) fi ca))(ha:(St.mk pe lo hp df).cH args=some as)
 (hU:(un.flatMap fun j=>(ds[j]?).elim [] cg.own)=[]) (he:M.ext g (fi++as++ca) hp=some ⟨v,hp,[]⟩)
 (h:WD M l ⟨⟨pe,(t,v)::lo,hp,df⟩,wr⟩ (ds++[⟨none,[],0,0⟩]) Q):WD M ((⟨.l t,.call f args,none⟩,un)::l) ⟨⟨pe,lo,hp,df⟩,wr⟩ ds Q:=WD.RJ hf ha hU he h
def aZ.Hb:aZ->Bool
 | .alloc .. | .box .. | .dZ .. | .gg .. | .mU=>true
 | _=>false
theorem AJ {s:St}{hp':ab}(x:aL):St.aa { s with hp:=hp' } x=s.aa x:=by cases x <;> rfl
theorem Hc {s:St}{hp':ab}:∀(ps:List (Nat×Nat×aL)),St.parts { s with hp:=hp' } ps=s.parts ps
 | []=>rfl
 | (o,n,x)::r=>by simp only[St.parts,AJ,Hc r]
theorem RK {call:dM}{inv:fw}{s:St}(hn:op.Hb=true){r:HR}(hq:bR call inv s op=some r):∃o,r.h=s.hp++[o]/\r.wr=[]/\∀hp':ab,hp'.length=s.hp.length->bR call inv { s with hp:=hp' } op=some ⟨r.v,hp'++[o],[]⟩:=by
 cases op <;> first|(cases hn;done)|skip
 case alloc e z=>
  simp only[bR,aZ.bG,if_true,bB]at hq;cases hq;exact⟨_,rfl,rfl,fun hp' hl=>by simp only[bR,aZ.bG,if_true,bB,hl]⟩
 case box e n x=>
  simp only[bR,aZ.bG,if_true,bB]at hq;split at hq
  . rename_i c hc;split at hq
    . rename_i hlen;cases hq;exact⟨_,rfl,rfl,fun hp' hl=>by simp only[bR,aZ.bG,if_true,bB,AJ,hc,hl,if_pos hlen]⟩
    . cases hq
  . cases hq
 case dZ e len esz z ps=>
  simp only[bR,aZ.bG,if_true,bB]at hq;split at hq
  . rename_i vs hvs;split at hq
    . rename_i c hc;split at hq
      . rename_i hlen;cases hq;exact⟨_,rfl,rfl,fun hp' hl=>by simp only[bR,aZ.bG,if_true,bB,Hc,hvs,hc,hl,if_pos hlen]⟩
      . cases hq
    . cases hq
  . cases hq
 case mU=>
  simp only[bR,aZ.bG,if_true,bB]at hq;cases hq;exact⟨_,rfl,rfl,fun hp' hl=>by simp only[bR,aZ.bG,if_true,bB,hl]⟩
 case gg e esz by' z a b=>
  simp only[bR,aZ.bG,if_true,bB]at hq;split at hq
  . rename_i x y hx hy;split at hq
    . rename_i hc;cases hq;exact⟨_,rfl,rfl,fun hp' hl=>by simp only[bR,aZ.bG,if_true,bB,AJ,hx,hy,hl,if_pos hc]⟩
    . cases hq
  . cases hq
theorem agN {d:eh}{s:ao}(hn:op.Hb=true)(h:WO M [⟨d,op,none⟩] s fun s'=>WD M l s' (ds++[⟨some [],[],s.s.hp.length,s.s.hp.length+1⟩]) Q):WD M ((⟨d,op,none⟩,un)::l) s ds Q:=by
 obtain⟨⟨k,s1,h1,⟨⟨m,s',h2,h3⟩⟩⟩⟩:=h;refine⟨⟨max k m,s',?_,h3⟩⟩;have h1':=mw (inv:=M.inv) (jm (Nat.le_max_left k m)) _ _ _ h1;have h2':=jZ (inv:=M.inv) (jm (Nat.le_max_right k m)) _ _ _ _ h2;simp only[eE,eC]at h1';have ht:jx s.s op=some []:=by cases op <;> first|(cases hn;done)|rfl
 have hh:op.bG=true:=by cases op <;> first|(cases hn;done)|rfl
 have hd:∀U,gP [] U=true:=fun U=>rfl
 cases hq:bR (M.call (max k m)) M.inv s.s op with
 | none=>rw[hq]at h1';cases h1'
 | some r=>
  rw[hq]at h1';obtain⟨o,e1,e2,e3⟩:=RK hn hq;simp only[Option.some.injEq]at h1';simp only[dN,eC,hh,if_true,ht,hd,e3 (dv [] s.s.hp 0) (fL _ _ _)];have hm:dV [] s.s.hp (dv [] s.s.hp 0++[o]) 0=s.s.hp++[o]:=by
   apply List.ext_getElem?;intro c;rw[jD _ _ _ _ _ (by simp[fL])];split
   . rename_i hc;rw[List.getElem?_append_left hc];simp
   . rename_i hc;rw[List.getElem?_append_right (by rw[fL];omega),List.getElem?_append_right (by omega),fL]
  simp only[List.all_nil,List.isEmpty_nil,Bool.true_or,Bool.and_true,if_true,hm,List.nil_append,List.length_append,List.length_singleton,fL];rw[e1,e2]at h1';subst h1';exact h2'
def AK (h:ab):AV->Option (List AV×Nat)
 | .str _=>none
 | .sl b off n esz _=>match h.at b with
   | some (.cells l _)=>(cut l off (n*esz)).map (·,n)
   | _=>none
 | v=>eA h v
def uE:List AV->Option (List Int)
 | []=>some []
 | .int .i64 n::r=>match uE r with
   | some l=>some (n::l)
   | none=>none
 | _=>none
theorem He:∀{c:List AV} {l:List Int},uE c=some l->c=ints l
 | [],l,h=>by cases h;rfl
 | v::r,l,h=>by
  unfold uE at h;split at h
  . rename_i e;cases e
  . rename_i n r' e;cases e;split at h
    . rename_i l' hl;cases h;rw[He hl];rfl
    . cases h
  . cases h
def kZ (h:ab)(v:AV):Option (List Int):=match AK h v with
 | some (c,n)=>match uE c with
   | some l=>if l.length=n then some l else none
   | none=>none
 | none=>none
theorem RL {α:Type}{f:α->List AV}{h:ab}{l:List α}(hc:AK h v=some (arr f l,l.length)):Sl f h v l:=by
 cases v <;> simp only[AK,eA]at hc <;> try (cases hc;done)
 case ae=>
  simp only[Option.some.injEq,Prod.mk.injEq]at hc;exact .inl ⟨rfl,List.eq_nil_of_length_eq_zero hc.2.symm⟩
 case sl b off len esz cap=>
  split at hc
  . rename_i c e hb;simp only[Option.map_eq_some_iff,Prod.mk.injEq]at hc;obtain⟨c',h1,h2,h3⟩:=hc;subst h3;subst h2;exact .inr (.inr ⟨b,off,esz,cap,c,e,rfl,hb,h1⟩)
  . cases hc
 case vs c len cap=>
  simp only[Option.some.injEq,Prod.mk.injEq]at hc;obtain⟨rfl,rfl⟩:=hc;exact .inr (.inl ⟨cap,rfl⟩)
theorem RM {h:ab}{l:List Int}(hi:kZ h v=some l):Sl (fun x=>[.int .i64 x]) h v l:=by
 unfold kZ at hi;split at hi
 . rename_i c n hc;split at hi
   . rename_i l' hl;split at hi
     . rename_i hn;cases hi;subst hn;rw[He hl]at hc;exact RL hc
     . cases hi
   . cases hi
 . cases hi
end Go.Ab

/-
  Own work: calls of functions by their code, on whatever heap; the end of such a run.
-/
namespace Go.Ab
variable {ars pe:List AV} {h hp:ab} {r:HR} {f:aL} {args:List aL} {l:List aU} {s:ao} {Q:ao->Prop} {g v:AV} {t b:Nat} {lo:List (Nat×AV)} {df wr:List Nat}
variable {M:ax}
def CT (M:ax)(g:AV)(ars:List AV)(h:ab)(r:HR):Prop:=∃n,M.call n g ars h=some r
theorem CT.run {f:FuncId}{fi ca:List AV}(he:M.ext f (fi++ars++ca) h=none)(hr:aT M f (fi++ars++ca) h r):CT M (.fn (.func f) fi ca) ars h r:=by
 obtain⟨n,hn⟩:=hr;exact⟨n,by simp only[gQ,he];exact hn⟩
theorem WO.AL {d:eh}(hf:s.s.aa f=some g)(ha:s.s.cH args=some ars)(hc:CT M g ars s.s.hp r)
 (h:WO M l ⟨{ s.s.put d r.v with hp:=r.h },r.wr++s.wr⟩ Q):WO M (⟨d,.call f args,none⟩::l) s Q:=
 WO.op (WP.call hf ha (by obtain⟨n,hn⟩:=hc;exact⟨⟨n,r,hn,h⟩⟩))
theorem aeq {h':ab}{wr':List Nat}(hf:(St.mk pe lo hp df).aa f=some g)(ha:(St.mk pe lo hp df).cH args=some ars)
 (hc:CT M g ars hp ⟨v,h',wr'⟩) (h:WO M l ⟨⟨pe,(t,v)::lo,h',df⟩,wr'++wr⟩ Q):WO M (⟨.l t,.call f args,none⟩::l) ⟨⟨pe,lo,hp,df⟩,wr⟩ Q:=WO.AL hf ha hc h
theorem WD.AL {d:eh}{un:List Nat}{l:List (aU×List Nat)}{ds:List cg}(hf:s.s.aa f=some g)(ha:s.s.cH args=some ars)
 (hU:(un.flatMap fun j=>(ds[j]?).elim [] cg.own)=[]) (he:CT M g ars s.s.hp ⟨v,s.s.hp,[]⟩)
 (h:WD M l ⟨s.s.put d v,s.wr⟩ (ds++[⟨none,[],0,0⟩]) Q):WD M ((⟨d,.call f args,none⟩,un)::l) s ds Q:=by
 obtain⟨⟨m,s',h2,h3⟩⟩:=h.norm (d':=⟨none,[],s.s.hp.length,s.s.hp.length⟩) (by simp[cg.key,cg.own]);obtain⟨n,hn⟩:=he;refine⟨⟨max n m,s',?_,h3⟩⟩;have h2':=jZ (inv:=M.inv) (jm (Nat.le_max_right n m)) _ _ _ _ h2;have hn':=jm (M:=M) (Nat.le_max_left n m) _ _ _ _ hn;have hm:mask s.s.hp []=s.s.hp:=rfl;have hcall:bR (M.call (max n m)) M.inv { s.s with hp:=s.s.hp } (.call f args)=some ⟨v,s.s.hp,[]⟩:=by
  simp only[bR,hf,ha];exact hn'
 have hmerge:dV [] s.s.hp s.s.hp 0=s.s.hp:=by
  apply List.ext_getElem?;intro c;rw[jD _ _ _ _ _ (Nat.le_refl _)];split
  . rfl
  . rfl
 simp only[dN,eC,aZ.bG,if_true,jx,hU,hm];rw[hcall];have hp:({ s.s.put d v with hp:=s.s.hp }:St)=s.s.put d v:=by cases d <;> rfl
 simp only[List.all_nil,List.isEmpty_nil,Bool.true_or,Bool.and_true,if_true,hmerge,List.nil_append,hp];exact h2'
theorem agK {un:List Nat}{l:List (aU×List Nat)}{ds:List cg}(hf:(St.mk pe lo hp df).aa f=some g)(ha:(St.mk pe lo hp df).cH args=some ars)
 (hU:(un.flatMap fun j=>(ds[j]?).elim [] cg.own)=[]) (he:CT M g ars hp ⟨v,hp,[]⟩)
 (h:WD M l ⟨⟨pe,(t,v)::lo,hp,df⟩,wr⟩ (ds++[⟨none,[],0,0⟩]) Q):WD M ((⟨.l t,.call f args,none⟩,un)::l) ⟨⟨pe,lo,hp,df⟩,wr⟩ ds Q:=WD.AL hf ha hU he h
theorem uF {f N:Nat}{aO:List Nat}{res:List ew}{body:al}(hft:M.FT f=some ⟨N,aO,res,body⟩)(hN:ars.length<=N)
 (hW:W M body ⟨⟨aO.map (fun t=>(ars[t]?).getD cB),[],h,[]⟩,[]⟩ fun e s=>(e = .normal\/e = .ret)/\s.s.bX=[]/\∃vs,de s.s res=some vs/\dR (aV vs) h.length s=r):aT M f ars h r:=by
 obtain⟨⟨n,e,s,h1,h2,h3,vs,h4,h5⟩⟩:=hW;refine⟨n,?_⟩;have h1':bh M.ext M.inv M.FT n body ⟨⟨aO.map (fun t=>(ars[t]?).getD cB),[],h,[]⟩,[]⟩=some (e,s):=h1;simp only[gk,hft];rw[if_neg (by omega)];simp only[ax.ev,h1',if_pos h2,h3,kJ,h4,h5]
def gw (b:Nat)(wr:List Nat):Prop:=∀x∈wr,x=b
theorem gw.nil:gw b []:=fun _ h=>by cases h
theorem gw.cons (h:gw b wr):gw b (b::wr):=fun x hx=>by
 rcases List.mem_cons.1 hx with e|e
 . exact e
 . exact h x e
theorem Hf {x y:Option bw}:(h.put b x).put b y=h.put b y:=by simp[ab.put]
theorem RN {c c0:List AV}{e:TypeId}(hb:b<h.length)(hh:s.s.hp=h.put b (some (.cells c e)))(hw:gw b s.wr)(hc:bk c=0) :
 ∃wr,gw b wr/\dR (.aq []) (h.put b (some (.cells c0 e))).length s=⟨.aq [],h.put b (some (.cells c e)),wr⟩:=by
 refine⟨s.wr.filter (· < h.length),fun x hx=>hw x (List.mem_filter.1 hx).1,?_⟩;have hl:(h.put b (some (.cells c0 e))).length=h.length:=fj;have ht:tight s.s.hp h.length s.wr=true:=by
  simp only[tight,List.all_eq_true];intro x hx;rw[hw x hx,hh,dg hb];simp[bw.top,hc]
 have hk:(h.put b (some (.cells c e))).take h.length=h.put b (some (.cells c e)):=List.take_of_length_le (by rw[fj];exact Nat.le_refl _);simp only[dR,hl,ht,Bool.and_true];rw[hh,hk];split <;> rfl
theorem afT {x:aL}{k:IntKind}{a:Int}(hx:(St.mk pe lo hp df).aa x=some (.int k a))(hr:0<=a/\a<18446744073709551616)
 (h:WO M l ⟨⟨pe,(t,.int .u64 a)::lo,hp,df⟩,wr⟩ Q):WO M (⟨.l t,.dz .u64 x,none⟩::l) ⟨⟨pe,lo,hp,df⟩,wr⟩ Q:=
 WO.op (WP.pure (v:=.int .u64 a) rfl (by
  have:IntKind.u64.wrap a=a:=by simp only[IntKind.wrap,IntKind.bits,IntKind.signed];simp;omega
  simp only[aW,hx,Option.bind_some,lO,this]) h)
theorem afJ {x:aL}{k:IntKind}{a:Int}(hx:(St.mk pe lo hp df).aa x=some (.int k a))(hr : -9223372036854775808<=a/\a<9223372036854775808)
 (h:WO M l ⟨⟨pe,(t,.int .i64 a)::lo,hp,df⟩,wr⟩ Q):WO M (⟨.l t,.dz .i64 x,none⟩::l) ⟨⟨pe,lo,hp,df⟩,wr⟩ Q:=
 WO.op (WP.pure (v:=.int .i64 a) rfl (by simp only[aW,hx,Option.bind_some,lO,nI hr]) h)
end Go.Ab

/-
  Own work: one element appended; the end of a run that turns nothing.
-/
namespace Go.Ab
variable {h:ab}
variable {M:ax}
theorem RO {v:AV}{s:ao}(hh:s.s.hp=h)(hw:s.wr=[]):dR v h.length s=⟨v,h,[]⟩:=by
 have hk:h.take h.length=h:=List.take_length;simp only[dR,hh,hw,tight,List.all_nil,Bool.and_true,List.filter_nil,hk];split <;> rfl
theorem nK {g N:Nat}{aO:List Nat}{res:List ew}{body:al}{ars:List AV}{v:AV}(hft:M.FT g=some ⟨N,aO,res,body⟩)(hN:ars.length<=N)
 (hW:W M body ⟨⟨aO.map (fun t=>(ars[t]?).getD cB),[],h,[]⟩,[]⟩ fun x s=>(x = .normal\/x = .ret)/\s.s.bX=[]/\s.s.hp=h/\s.wr=[]/\∃vs,de s.s res=some vs/\aV vs=v):aT M g ars h ⟨v,h,[]⟩:=by
 refine uF hft hN (hW.mono fun x s ⟨h1,h2,h3,h4,vs,h5,h6⟩=>⟨h1,h2,vs,h5,?_⟩);subst h6;exact RO h3 h4
theorem Hg {b:Nat}{o:bw}(hb:h.at b=some o):h.put b (some o)=h:=by
 have hl:=eo hb;apply List.ext_getElem?;intro i;simp only[ab.put,List.getElem?_set];split
 . rename_i e;subst e;unfold ab.at at hb;rw[List.getElem?_eq_getElem hl]at hb ⊢;simp at hb ⊢;simp[hb]
 . rfl
end Go.Ab

/-
  Own work: bytes of a text, small conversions, boxes in a heap that grows; the end of a run that drops what it made.
-/
namespace Go.Ab
variable {b n:Nat} {wr:List Nat}
variable {M:ax}
def rB (b n:Nat)(wr:List Nat):Prop:=∀x∈wr,x=b\/n<=x
theorem rB.only(h:gw b wr):rB b n wr:=fun x hx=>.inl (h x hx)
theorem rB.cons (h:rB b n wr):rB b n (b::wr):=fun x hx=>by
 rcases List.mem_cons.1 hx with e|e
 . exact .inl e
 . exact h x e
theorem fZ {f N:Nat}{aO:List Nat}{res:List ew}{body:al}{ars:List AV}{P:AV->ab->Prop}(hft:M.FT f=some ⟨N,aO,res,body⟩)(hN:ars.length<=N)
 (h:W M body ⟨⟨aO.map (fun t=>(ars[t]?).getD cB),[],[],[]⟩,[]⟩ fun e s=>(e = .normal\/e = .ret)/\s.s.bX=[]/\∃vs,de s.s res=some vs/\P (aV vs) (if (aV vs).top<=0 then [] else s.s.hp)):∃v hh,P v hh/\aT M f ars [] ⟨v,hh,[]⟩:=by
 obtain⟨⟨n,e,s,h1,h2,h3,vs,h4,h5⟩⟩:=h;exact⟨_,_,h5,bH hft hN ⟨⟨n,e,s,h1,h2,h3,vs,h4,rfl,rfl⟩⟩⟩
theorem afW {t o:Nat}{ag:Bool}{x:aL}{l:List aU}{pe:List AV}{lo:List (Nat×AV)}{hp:ab}{df:List Nat}{c:List AV}{e:TypeId}{v:AV}{Q:ao->Prop}(hx:(St.mk pe lo hp df).aa x=some (.ptr b o))(hb:hp.at b=some (.cells c e))(hv:partOf (c.drop o) 0 n ag=some v)
 (h:WO M l ⟨⟨pe,(t,v)::lo,hp,df⟩,wr⟩ Q):WO M (⟨.l t,.load n ag x,none⟩::l) ⟨⟨pe,lo,hp,df⟩,wr⟩ Q:=
 afR hx (show fg hp (.ptr b o)=some (c.drop o) by simp only[fg,hb]) hv h
theorem RP {n:Int}(h:0<=n/\n<18446744073709551616):IntKind.u64.wrap n=n:=by
 simp only[IntKind.wrap,IntKind.bits,IntKind.signed];simp;omega
theorem agL {t L:Nat}{x y:aL}{l:List aU}{pe:List AV}{lo:List (Nat×AV)}{hp:ab}{df:List Nat}{k:IntKind}{a:Int}{Q:ao->Prop}(hx:(St.mk pe lo hp df).aa x=some (.int .u64 a))(hy:(St.mk pe lo hp df).aa y=some (.int k L))(hL:L<=64)
 (hr:0<=a*2^L/\a*2^L<18446744073709551616) (h:WO M l ⟨⟨pe,(t,.int .u64 (a*2^L))::lo,hp,df⟩,wr⟩ Q):WO M (⟨.l t,.bin .shl x y,none⟩::l) ⟨⟨pe,lo,hp,df⟩,wr⟩ Q:=
 aab (v:=.int .u64 (a*2^L)) (by
  have e:min ((L:Int)).toNat IntKind.u64.bits=L:=by simp only[IntKind.bits];omega
  simp only[aW,hx,hy,cN,e,RP hr];rw[if_neg (by omega)]) rfl h
theorem Hh {α:Type}{f:α->List AV}(hf:∀a,(f a).all cS=true):∀l:List α,(arr f l).all cS=true
 | []=>rfl
 | a::l=>by
  have:=Hh hf l;simp only[arr]at this;simp only[arr,List.flatMap_cons,List.all_append,hf a,this,Bool.and_self]
end Go.Ab

/-
  Own work: an append in a drawn region, where no earlier operation is unordered to it.
-/
namespace Go.Ab
variable {M:ax}
end Go.Ab

/-
  Own work: a call with an empty slice, nil or not: told apart, run twice, and told again as one.
-/
namespace Go.Ab
variable {P:Program} {gl:Nat->Option AV}
end Go.Ab

/-
  Own work: arguments that are slices of integers, or arrays of two of them, as the abstract machine sees them.
-/
namespace Go.Ab
open Go.ChangeShapes Go.WideShapes Go.RowKit
variable {H:Type} {enc:TypeId×Value->H} {P:Program} {W:World} {base:Nat} {sp:Nat->Bool} {t e:TypeId} {v:Value} {d:DataW H} {ps:List MemPlace}
end Go.Ab

/-
  Own work: runes of a text, parts of slices, what fills the room; small lists.
-/
namespace Go.Ab
variable {i:Nat}
variable {M:ax}
abbrev an:=List UInt8
theorem ahm {pos c w:Nat}{x:aL}{l:List aU}{pe:List AV}{lo:List (Nat×AV)}{hp:ab}{df wr:List Nat}{t:List UInt8}{Q:ao->Prop}(hx:(St.mk pe lo (hp++[some (.iter t pos)]) df).aa x=some (.ptr hp.length 0))(hp0:pos<t.length)
 (hd:Utf8.decode ⟨t.toArray⟩ pos=(c,w)) (h:WO M l ⟨⟨pe.set i (.aq [.bool true,.int .i64 pos,.int .i32 c]),lo,hp++[some (.iter t (pos+w))],df⟩,hp.length::wr⟩ Q):WO M (⟨.p i,.next x,none⟩::l) ⟨⟨pe,lo,hp++[some (.iter t pos)],df⟩,wr⟩ Q:=by
 refine acK (v:=.aq [.bool true,.int .i64 pos,.int .i32 c]) (h':=hp++[some (.iter t (pos+w))]) (w':=[hp.length]) ?_ rfl rfl h;simp only[bB,hx,bW,if_pos hp0,hd,Ga rfl]
theorem agW {pos:Nat}{x:aL}{l:List aU}{pe:List AV}{lo:List (Nat×AV)}{hp:ab}{df wr:List Nat}{t:List UInt8}{Q:ao->Prop}(hx:(St.mk pe lo (hp++[some (.iter t pos)]) df).aa x=some (.ptr hp.length 0))(hp0:¬pos<t.length)
 (h:WO M l ⟨⟨pe.set i (.aq [.bool false]),lo,hp++[some (.iter t pos)],df⟩,wr⟩ Q):WO M (⟨.p i,.next x,none⟩::l) ⟨⟨pe,lo,hp++[some (.iter t pos)],df⟩,wr⟩ Q:=by
 refine acK (v:=.aq [.bool false]) (h':=hp++[some (.iter t pos)]) (w':=[]) ?_ rfl rfl h;simp only[bB,hx,bW,if_neg hp0]
theorem RR {s:an}(h:i<s.length)(hb:(s[i]!).toNat<128):Utf8.decode ⟨s.toArray⟩ i=((s[i]!).toNat,1):=by
 have hs:i<(ByteArray.mk s.toArray).size:=by simpa[ByteArray.size] using h
 have e:((ByteArray.mk s.toArray)[i]'hs)=s[i]! := by
  rw[getElem!_pos s i h];rfl
 have:=decode_ascii (ByteArray.mk s.toArray) i hs (by rw[e];exact hb);rw[this,e]
theorem RS {s:an}(h:i<s.length)(hb:¬(s[i]!).toNat<128):∃c w,Utf8.decode ⟨s.toArray⟩ i=(c,w)/\128<=c:=by
 have e:((ByteArray.mk s.toArray).get! (i+0))=s[i]! := by
  rw[Nat.add_zero,getElem!_pos s i h];simp[ByteArray.get!,h]
 refine⟨(Utf8.decode ⟨s.toArray⟩ i).1,(Utf8.decode ⟨s.toArray⟩ i).2,rfl,?_⟩;unfold Utf8.decode;simp only[e];rw[if_neg hb];have hr:(128:Nat)<=Utf8.runeError:=by decide
 split
 . split
   . omega
   . exact hr
 . split
   . split
     . rename_i h1;simp only[ge_iff_le,Bool.and_eq_true,decide_eq_true_eq]at h1;omega
     . exact hr
   . split
     . split
       . rename_i h1;simp only[ge_iff_le,Bool.and_eq_true,decide_eq_true_eq]at h1;omega
       . exact hr
     . exact hr
def ik:List Int->Int
 | []=>0
 | e::r=>if e=0 then ik r else e
end Go.Ab

/-
  Own work: loops over functions in the calculus of runs: the loop, the rounds that its function asks for, ends of calls.
-/
namespace Go.Ab
variable {h:ab} {v:AV} {n:Nat} {s:ao}
variable {M:ax}
structure ir (M:ax)(f:FuncId)(as:List AV)(h:ab)(K:HR->Prop):Prop where
 out:∃r,aT M f as h r/\K r
theorem ir.rC {f N:Nat}{aO:List Nat}{res:List ew}{body:al}{ars:List AV}{K:HR->Prop}(hft:M.FT f=some ⟨N,aO,res,body⟩)(hN:ars.length<=N)
 (hW:W M body ⟨⟨aO.map (fun t=>(ars[t]?).getD cB),[],h,[]⟩,[]⟩ fun e s=>(e = .normal\/e = .ret)/\∃s',kJ s.s.bX s=some s'/\∃vs,de s'.s res=some vs/\K (dR (aV vs) h.length s')):ir M f ars h K:=by
 obtain⟨⟨n,e,s,h1,h2,s',h3,vs,h4,h5⟩⟩:=hW;refine⟨_,⟨n,?_⟩,h5⟩;have h1':bh M.ext M.inv M.FT n body ⟨⟨aO.map (fun t=>(ars[t]?).getD cB),[],h,[]⟩,[]⟩=some (e,s):=h1;simp only[gk,hft];rw[if_neg (by omega)];simp only[h1',if_pos h2,h3,h4]
theorem AM (hv:v.top<=n)(ht:tight s.s.hp n s.wr=true):dR v n s=⟨v,s.s.hp.take n,s.wr.filter (· < n)⟩:=by
 unfold dR;rw[if_pos (by simp[hv,ht])]
theorem RT (ht:tight s.s.hp n s.wr=false):dR v n s=⟨v,s.s.hp,s.wr.filter (· < n)⟩:=by
 unfold dR;rw[if_neg (by simp[ht])]
theorem aga {t:Nat}{x y:aL}{l:List aU}{pe:List AV}{lo:List (Nat×AV)}{hp:ab}{df wr:List Nat}{a b:an}{Q:ao->Prop}(hx:(St.mk pe lo hp df).aa x=some (.str a))(hy:(St.mk pe lo hp df).aa y=some (.str b))(hr:a.length+b.length<4611686018427387904)
 (h:WO M l ⟨⟨pe,(t,.str (a++b))::lo,hp,df⟩,wr⟩ Q):WO M (⟨.l t,.bin .add x y,none⟩::l) ⟨⟨pe,lo,hp,df⟩,wr⟩ Q:=
 aab (v:=.str (a++b)) (by simp only[aW,hx,hy,cN];rw[if_pos (by omega)]) rfl h
theorem RU {J:ab}(hh:s.s.hp=h++J)(hw:∀x∈s.wr,h.length<=x)(hv:v.top<=h.length):dR v h.length s=⟨v,h,[]⟩:=by
 have hf:s.wr.filter (· < h.length)=[]:=by
  rw[List.filter_eq_nil_iff];intro x hx;have:=hw x hx;simp;omega
 have ht:tight s.s.hp h.length s.wr=true:=by
  simp only[tight,List.all_eq_true];intro x hx;have:=hw x hx;split <;> simp[this]
 have hk:s.s.hp.take h.length=h:=by rw[hh];simp
 rw[AM hv ht,hf,hk]
theorem lf {g N:Nat}{aO:List Nat}{res:List ew}{body:al}{ars:List AV}(hft:M.FT g=some ⟨N,aO,res,body⟩)(hN:ars.length<=N)(hv:v.top<=h.length)
 (hW:W M body ⟨⟨aO.map (fun t=>(ars[t]?).getD cB),[],h,[]⟩,[]⟩ fun x s=>(x = .normal\/x = .ret)/\s.s.bX=[]/\(∃J,s.s.hp=h++J)/\(∀x∈s.wr,h.length<=x)/\∃vs,de s.s res=some vs/\aV vs=v):aT M g ars h ⟨v,h,[]⟩:=by
 refine uF hft hN (hW.mono fun x s ⟨h1,h2,⟨J,h3⟩,h4,vs,h5,h6⟩=>⟨h1,h2,vs,h5,?_⟩);subst h6;exact RU h3 h4 hv
section
variable {t b j:Nat} {x y:aL} {l:List aU} {pe:List AV} {lo:List (Nat×AV)} {hp:ab} {df wr:List Nat} {c:List AV} {e:TypeId} {Q:ao->Prop}
theorem afO {ag:Bool}(hx:(St.mk pe lo hp df).aa x=some (.ptr b j))(hb:hp.at b=some (.cells c e))(hv:partOf (c.drop j) 0 n ag=some v)
 (h:WO M l ⟨⟨pe,(t,v)::lo,hp,df⟩,wr⟩ Q):WO M (⟨.l t,.load n ag x,none⟩::l) ⟨⟨pe,lo,hp,df⟩,wr⟩ Q:=
 acb (v:=v) (h':=hp) (w':=[]) (by simp only[bB,hx,Option.bind_some,fg,hb,hv]) rfl rfl h
theorem ade {new:List AV}(hx:(St.mk pe lo hp df).aa x=some (.ptr b j))(hy:((St.mk pe lo hp df).aa y).bind AV.cells=some new)(hb:hp.at b=some (.cells c e))(hn:new.length=n/\j+n<=c.length/\new.all cS=true){c':List AV}(hc:overwrite c j new=c')
 (h:WO M l ⟨⟨pe,lo,hp.put b (some (.cells c' e)),df⟩,b::wr⟩ Q):WO M (⟨.no,.store n x y,none⟩::l) ⟨⟨pe,lo,hp,df⟩,wr⟩ Q:=by
 subst hc;refine afx (v:=cB) (h':=hp.put b (some (.cells (overwrite c j new) e))) (w':=[b]) ?_ rfl rfl h;simp only[bB,hx,hy,hb];rw[if_pos hn]
theorem ahe (hx:(St.mk pe lo hp df).aa x=some (.ptr b j))(hb:hp.at b=some (.cells c e))(hj:j<c.length)
 (h:WO M l ⟨⟨pe,(t,.ptr b j)::lo,hp,df⟩,wr⟩ Q):WO M (⟨.l t,.jP none x,none⟩::l) ⟨⟨pe,lo,hp,df⟩,wr⟩ Q:=
 acb (v:=.ptr b j) (h':=hp) (w':=[]) (by simp only[bB,hx,hb];rw[if_pos ⟨hj,trivial⟩]) rfl rfl h
theorem ahf (hx:(St.mk pe lo hp df).aa x=some (.ptr b 0))(hb:hp.at b=some (.cells c e))(hj:0<n/\c.length=n)
 (h:WO M l ⟨⟨pe,(t,.ptr b 0)::lo,hp,df⟩,wr⟩ Q):WO M (⟨.l t,.jP (some (e,n)) x,none⟩::l) ⟨⟨pe,lo,hp,df⟩,wr⟩ Q:=
 acb (v:=.ptr b 0) (h':=hp) (w':=[]) (by simp only[bB,hx,hb];rw[if_pos ⟨by omega,by simp[hj.2]⟩]) rfl rfl h
theorem agX {neg:Bool}(hx:(St.mk pe lo hp df).aa x=some (.ptr b j))(hy:(St.mk pe lo hp df).aa y=some (.ptr b j))(hb:hp.at b=some (.cells c e))
 (h:WO M l ⟨⟨pe,(t,.bool !neg)::lo,hp,df⟩,wr⟩ Q):WO M (⟨.l t,.mT neg x y,none⟩::l) ⟨⟨pe,lo,hp,df⟩,wr⟩ Q:=
 acb (v:=.bool !neg) (h':=hp) (w':=[]) (by simp[bB,hx,hy,hb]) rfl rfl h
end
theorem Hi {H:ab}{wr:List Nat}(hh:s.s.hp=H)(hw:s.wr=wr)(ht:tight H n wr=false):dR v n s=⟨v,H,wr.filter (· < n)⟩:=by
 rw[RT (by rw[hh,hw];exact ht),hh,hw]
theorem ahh {t c o e:Nat}{x:aL}{l:List aU}{pe:List AV}{lo:List (Nat×AV)}{hp:ab}{df wr:List Nat}{cap:Option Nat}{Q:ao->Prop}(hx:(St.mk pe lo hp df).aa x=some (.sl c o n e cap))(hn:0<n)
 (h:WO M l ⟨⟨pe,(t,.ptr c o)::lo,hp,df⟩,wr⟩ Q):WO M (⟨.l t,.qF x,none⟩::l) ⟨⟨pe,lo,hp,df⟩,wr⟩ Q:=by
 cases n with
 | zero=>exact absurd hn (Nat.lt_irrefl _)
 | succ m=>exact aab (v:=.ptr c o) (by simp only[aW,hx]) rfl h
theorem ahi {t c:Nat}{e:TypeId}{x y:aL}{l:List (aU×List Nat)}{pe:List AV}{lo:List (Nat×AV)}{hp:ab}{df wr:List Nat}{ds:List cg}{cs cs':List AV}{k:IntKind}{n:Int}{s:an}{Q:ao->Prop}(hx:(St.mk pe lo hp df).aa x=some (.ptr c 0))(hy:(St.mk pe lo hp df).aa y=some (.int k n))
 (hb:hp.at c=some (.cells cs e)) (hn:0<n/\n<=70368744177664) (hc:cut cs 0 n.toNat=some cs') (hs:bytesOf cs'=some s) (h:∀dn,WD M l ⟨⟨pe,(t,.str s)::lo,hp.put c none,df⟩,[c]++wr⟩ (ds++[dn]) Q):WD M ((⟨.l t,.jt e x y,none⟩,[])::l) ⟨⟨pe,lo,hp,df⟩,wr⟩ ds Q:=by
 have hT:([c]:List Nat).contains c=true:=by simp
 have hk:(dv [c] hp 0).at c=hp.at c:=by rw[AH,if_pos hT]
 obtain⟨⟨m,s',h2,h3⟩⟩:=h ⟨some [c],[c],hp.length,(ab.put (dv [c] hp 0) c none).length⟩;refine⟨⟨m,s',?_,h3⟩⟩;have hx':(St.mk pe lo (dv [c] hp 0) df).aa x=some (.ptr c 0):=by rw[←hx];cases x <;> rfl
 have hy':(St.mk pe lo (dv [c] hp 0) df).aa y=some (.int k n):=by rw[←hy];cases y <;> rfl
 have key:bR (M.call m) M.inv ⟨pe,lo,dv [c] hp 0,df⟩ (.jt e x y)=some ⟨.str s,ab.put (dv [c] hp 0) c none,[c]⟩:=by
  simp only[bR,aZ.bG,if_true,bB,hx',hy',hk,hb,hc,hs];rw[if_pos (by omega)]
 have ht:jx ⟨pe,lo,hp,df⟩ (.jt e x y)=some [c]:=by
  simp only[jx,hx]
 have hd:gP [c] []=true:=by simp[gP]
 have hsome:((dv [c] hp 0).at c).isSome=true:=by rw[hk,hb];rfl
 simp only[dN,eC,aZ.bG,if_true,ht,List.flatMap_nil,hd,key];simp only[List.all_cons,List.all_nil,hsome,Bool.and_self,Bool.or_true,if_true,Ha];exact h2
theorem RV {H:ab}{wr:List Nat}(hh:s.s.hp=H)(hw:s.wr=wr)(hv:v.top<=n)(ht:tight H n wr=true):dR v n s=⟨v,H.take n,wr.filter (· < n)⟩:=by
 rw[AM hv (by rw[hh,hw];exact ht),hh,hw]
end Go.Ab

/-
  Own work: parts of texts, the lesser of two numbers, in the calculus of runs.
-/
namespace Go.Ab
variable {M:ax} {t:Nat} {x y z:aL} {l:List aU} {pe:List AV} {lo:List (Nat×AV)} {hp:ab} {df wr:List Nat} {s r:an} {k k':IntKind} {a b:Int} {Q:ao->Prop}
theorem afh (hx:(St.mk pe lo hp df).aa x=some (.str s))(hy:(St.mk pe lo hp df).aa y=some (.int k a))(ha:0<=a/\a<=s.length)(hr:s.drop a.toNat=r)
 (h:WO M l ⟨⟨pe,(t,.str r)::lo,hp,df⟩,wr⟩ Q):WO M (⟨.l t,.slice .str 1 x (some y) none none,none⟩::l) ⟨⟨pe,lo,hp,df⟩,wr⟩ Q:=by
 subst hr;refine aab (v:=.str (s.drop a.toNat)) ?_ rfl h;simp only[aW,hx,St.cZ,hy,Option.map_some,jc,bM];rw[if_pos ha];have:(s.drop a.toNat).take (s.length-a.toNat)=s.drop a.toNat:=List.take_of_length_le (by simp);simp[this]
theorem afC (hx:(St.mk pe lo hp df).aa x=some (.str s))(hy:(St.mk pe lo hp df).aa y=some (.int k a))(ha:0<=a/\a<=s.length)(hr:s.take a.toNat=r)
 (h:WO M l ⟨⟨pe,(t,.str r)::lo,hp,df⟩,wr⟩ Q):WO M (⟨.l t,.slice .str 1 x none (some y) none,none⟩::l) ⟨⟨pe,lo,hp,df⟩,wr⟩ Q:=by
 subst hr;refine aab (v:=.str (s.take a.toNat)) ?_ rfl h;simp only[aW,hx,St.cZ,hy,Option.map_some,jc,bM];rw[if_pos ha];simp
theorem agY (hx:(St.mk pe lo hp df).aa x=some (.str s))(hy:(St.mk pe lo hp df).aa y=some (.int k a))(hz:(St.mk pe lo hp df).aa z=some (.int k' b))(ha:0<=a/\a<=b/\b<=s.length)(hr:(s.drop a.toNat).take (b.toNat-a.toNat)=r)
 (h:WO M l ⟨⟨pe,(t,.str r)::lo,hp,df⟩,wr⟩ Q):WO M (⟨.l t,.slice .str 1 x (some y) (some z) none,none⟩::l) ⟨⟨pe,lo,hp,df⟩,wr⟩ Q:=by
 subst hr;refine aab (v:=.str ((s.drop a.toNat).take (b.toNat-a.toNat))) ?_ rfl h;have h1:0<=b/\b<=(s.length:Int):=⟨by omega,ha.2.2⟩;have h2:0<=a/\a<=(b.toNat:Int):=⟨ha.1,by omega⟩;simp only[aW,hx,St.cZ,hy,hz,Option.map_some,jc,bM];simp only[Option.isNone_none,Option.isSome_none,Bool.true_or,if_true,if_pos h1,if_pos h2]
theorem ahn {m:Int}(hx:(St.mk pe lo hp df).aa x=some (.int k a))(hy:(St.mk pe lo hp df).aa y=some (.int k b))(hm:m=a/\a<=b\/m=b/\b<=a)
 (h:WO M l ⟨⟨pe,(t,.int k m)::lo,hp,df⟩,wr⟩ Q):WO M (⟨.l t,.mm false [x,y],none⟩::l) ⟨⟨pe,lo,hp,df⟩,wr⟩ Q:=by
 refine aab (v:=.int k m) ?_ rfl h;simp only[aW,St.cH,hx,hy];have e:(if b<a then b else a)=m:=by split <;> omega
 simp[mW,e]
end Go.Ab

/-
  Own work: the calculus: a heap that is known by facts, its newest block; lists that grow, of any elements.
-/
namespace Go.Ab
variable {e:TypeId}
variable {M:ax}
theorem afw {u n b off:Nat}{ag:Bool}{x:aL}{L:List aU}{pe:List AV}{lo:List (Nat×AV)}{hp:ab}{df wr:List Nat}{c:List AV}{v:AV}{Q:ao->Prop}(hx:(St.mk pe lo hp df).aa x=some (.ptr b off))(hb:hp.at b=some (.cells c e))(hv:partOf (c.drop off) 0 n ag=some v)
 (h:WO M L ⟨⟨pe,(u,v)::lo,hp,df⟩,wr⟩ Q):WO M (⟨.l u,.load n ag x,none⟩::L) ⟨⟨pe,lo,hp,df⟩,wr⟩ Q:=
 acb (v:=v) (h':=hp) (w':=[]) (by simp only[bB,hx,Option.bind_some,fg,hb,hv]) rfl rfl h
theorem aft {n:Nat}{x y:aL}{L:List aU}{pe:List AV}{lo:List (Nat×AV)}{K:ab}{df wr:List Nat}{c c' new:List AV}{Q:ao->Prop}(hx:(St.mk pe lo (K++[some (.cells c e)]) df).aa x=some (.ptr K.length 0))(hy:((St.mk pe lo (K++[some (.cells c e)]) df).aa y).bind AV.cells=some new)
 (hn:new.length=n/\n<=c.length/\new.all cS=true) (ho:overwrite c 0 new=c') (h:WO M L ⟨⟨pe,lo,K++[some (.cells c' e)],df⟩,K.length::wr⟩ Q):WO M (⟨.no,.store n x y,none⟩::L) ⟨⟨pe,lo,K++[some (.cells c e)],df⟩,wr⟩ Q:=by
 obtain⟨h1,h2,h3⟩:=hn;refine afx (v:=cB) (h':=K++[some (.cells c' e)]) (w':=[K.length]) ?_ rfl rfl h;simp only[bB,hx,hy,bW,Nat.zero_add];rw[if_pos ⟨h1,h2,h3⟩,ho];simp[ab.put]
def AN {α:Type}(f:α->List AV)(esz:Nat)(e:TypeId)(hp:ab)(o:AV)(acc:List α)(S:List Nat):Prop:=(acc=[]/\o = .ae)\/∃c,acc≠[]/\c∉S/\o = .sl c 0 acc.length esz none/\hp.at c=some (.cells (arr f acc) e)
theorem AN.fin {α:Type}{f:α->List AV}{esz:Nat}{hp:ab}{o:AV}{acc:List α}{S:List Nat}(h:AN f esz e hp o acc S):AN f esz e (if (aV [o]).top<=0 then [] else hp) o acc S:=by
 rcases h with ⟨h1,rfl⟩|⟨c,h0,h1,rfl,h2⟩
 . exact .inl ⟨h1,rfl⟩
 . refine .inr ⟨c,h0,h1,rfl,?_⟩;rw[if_neg (by simp[aV,AV.top])];exact h2
end Go.Ab

/-
  Own work: contracts that are told by a relation; lists as arguments, of any elements; values that are compared with themselves.
-/
namespace Go.Ab
variable {M:ax} {P:Program} {gl:Nat->Option AV}
open Classical in
noncomputable def nL (R:List AV->ab->HR->Prop):Spec:=fun as h=>if e:∃r,R as h r then some (Classical.choose e) else none
theorem AO {f:Nat}{R:List AV->ab->HR->Prop}(hR:∀as h r,R as h r->bQ P gl ⟨f,as,h,r⟩):aS P gl f (nL R):=by
 intro as h r hq;unfold nL at hq;split at hq
 . rename_i e;cases hq;exact hR _ _ _ (Classical.choose_spec e)
 . cases hq
theorem AP {R:List AV->ab->HR->Prop}{as:List AV}{h:ab}{r:HR}(hr:R as h r)(hd:∀r',R as h r'->r'=r):nL R as h=some r:=by
 unfold nL;rw[dif_pos ⟨r,hr⟩];exact congrArg some (hd _ (Classical.choose_spec (p:=fun r=>R as h r) ⟨r,hr⟩))
section
variable {α:Type} {f:α->List AV} {esz:Nat}
theorem Hj (hf:∀a,(f a).length=esz)(hi:∀a b,f a=f b->a=b):∀{l m:List α},l.length=m.length->arr f l=arr f m->l=m
 | [],[],_,_=>rfl
 | a::l,b::m,hl,h=>by
  rw[kd,kd]at h;have:=List.append_inj h (by rw[hf,hf]);rw[hi _ _ this.1,Hj hf hi (by simpa using hl) this.2]
theorem Sl.nM {h:ab}:Sl f h .ae ([]:List α):=.inl ⟨rfl,rfl⟩
theorem Sl.iJ (hf:∀a,(f a).length=esz){h:ab}{l:List α}{b n:Nat}{e:TypeId}{cap:Option Nat}(hb:h.at b=some (.cells (arr f l) e))(hn:l.length=n):Sl f h (.sl b 0 n esz cap) l:=by
 subst hn;refine .inr (.inr ⟨b,0,esz,cap,_,e,rfl,hb,?_⟩);have:=ke hf (l:=l) (i:=0) (n:=l.length) (by omega);rw[Nat.zero_mul]at this;rw[this];simp
end
end Go.Ab

/-
  Own work: arguments of any type without pointers, as the abstract machine sees them.
-/
namespace Go.Ab
open Go.ChangeShapes Go.WideShapes Go.RowKit
inductive CellT
 | bool
 | int (k:IntKind)
 | str
 | slice (es:List CellT)
mutual
def Has:CellT->AV->Prop
 | .bool,x=>∃b,x = .bool b
 | .int k,x=>∃n,x = .int k n/\(Lit.int k n).wf=true
 | .str,x=>∃s:List UInt8,x = .str s/\s.length<=maxLen
 | .slice es,x=>∃ls:List (List AV),x = .vs ls.flatten ls.length none/\ls.length<=maxLen/\∀c∈ls,HasL es c
def HasL:List CellT->List AV->Prop
 | [],l=>l=[]
 | t::ts,l=>∃x r,l=x::r/\Has t x/\HasL ts r
end
theorem HasL.length:∀{ts:List CellT} {l:List AV},HasL ts l->l.length=ts.length
 | [],l,h=>by simp only[HasL]at h;subst h;rfl
 | t::ts,l,h=>by
  simp only[HasL]at h;obtain⟨x,r,rfl,_,h2⟩:=h;simp[h2.length]
section
variable (P:Program)
end
variable {H:Type} {enc:TypeId×Value->H} {P:Program} {W:World}
end Go.Ab

/-
  Own work: what a call has made is handed back by its contents: no block of the caller's is added.
-/
namespace Go.Ab
variable {FT:FuncId->Option dc}
variable {P:Program} {gl:Nat->Option AV}
def jn (ρ:au):au:=⟨fun _=>.fresh,ρ.X⟩
theorem cQ.jn {ρ:au}{c:Nat}(h:¬ρ.X c):cQ (jn ρ) c:=⟨fun b d hb=>by simp[Go.Ab.jn]at hb,h⟩
theorem RW (hgl:∀g v,gl g=some v->v.top=0){w:World}{ρ:au}{T:List Nat}{v v1:AV}{hh:ab}{v':Value}{w':World}(hf:Fr hh T v v1)(ht:v1.top=0)(hd:dY P gl (dw ρ []) [] w ⟨v,hh,[]⟩ v' w'):dY P gl (dw ρ []) [] w ⟨v1,[],[]⟩ v' w':=by
 obtain⟨ρ',hv,m',x⟩:=hd;have hF:∀c,cQ (dw ρ' T) c->cQ (jn ρ') c:=fun c hc=>cQ.jn fun hx=>hc.2 (.inl hx)
 have hF':∀c,cQ ρ' c->cQ (jn ρ') c:=fun c hc=>cQ.jn hc.2
 refine⟨jn ρ',(hf.view m' hv).fX (n:=0) (fun b hb=>by omega) hF (by omega),?_,?_⟩
 . refine⟨fun b o hb=>by simp at hb,fun b _=>rfl,fun b b' c d d' h1=>by simp[jn]at h1,fun b c d h1=>by simp[jn]at h1,m'.xb,fun b c d h1=>by simp[jn]at h1,fun g v hg=>?_⟩;exact(m'.gl g v hg).fX (n:=0) (fun b hb=>by omega) hF' (by rw[hgl g v hg];exact Nat.le_refl _)
 . refine⟨x.os,x.tape,x.output,x.size,Nat.le_refl _,x.X,fun b hb=>by simp at hb,fun b hb=>by simp at hb,fun b c d hb=>by simp[dw]at hb,fun b hb=>by simp[dw]at hb,fun b hb=>by simp[dw]at hb,fun c hc _=>x.bU c hc (fun b d hb=>by simp[dw]at hb),fun b c d hb _=>by simp[jn]at hb,x.shape⟩
theorem RX (hgl:∀g v,gl g=some v->v.top=0){f:Nat}{as:List AV}{h:ab}{v v1:AV}{hh:ab}{T:List Nat}(ha:bk as=0)(hf:Fr hh T v v1)(ht:v1.top=0)(hloc:bQ P gl ⟨f,as,[],⟨v,hh,[]⟩⟩):bQ P gl ⟨f,as,h,⟨v1,h,[]⟩⟩:=by
 refine⟨⟨Nat.le_refl _,fun _ _ _=>rfl⟩,fun ρ w as' m hl=>?_⟩;obtain⟨nx,w1,h1,h2⟩:=hloc.2 (dw ρ []) w as' (m.dw hgl []) ((gu.same ha).view m hl);refine⟨nx,w1,h1,h2.mono fun v w' hd=>?_⟩;have:=GP (S:=[]) (ks:=[]) (bs:=[]) m (by simp) (.same ht) rfl (by simp) (.inl rfl) (RW hgl hf ht hd);simpa using this
theorem RY (hs:jF P gl FT){T:List (Nat×Spec)}(hT:cA P gl (bm T)){f:Nat}{as:List AV}{h hh:ab}{B:List Nat}{v v1:AV}(hr:aT (aX P FT T) f as [] ⟨v,hh,[]⟩)(ha:bk as=0)(hf:Fr hh B v v1)(ht:v1.top=0):bQ P gl ⟨f,as,h,⟨v1,h,[]⟩⟩:=
 RX hs.gl ha hf ht (pA hs hT hr ⟨Nat.zero_le _,fun _ hb=>absurd hb (Nat.not_lt_zero _)⟩)
def mz (N:Nat):au:=⟨fun _=>.fresh,fun c=>c<N⟩
theorem cQ.mz {N c:Nat}(h:N<=c):cQ (mz N) c:=⟨fun b d hb=>by simp[Go.Ab.mz]at hb,fun hx=>absurd hx (by show ¬c<N;omega)⟩
theorem Fr.RZ {ρ:au}{h:ab}{w:World}(m:Mem P gl ρ h w){N:Nat}(hnew:∀b c d,ρ b = .live c d->N<=c){T:List Nat}(hT:∀b l e,b∈T->h.at b=some (.cells l e)->eL l=true){a a0:AV}(hr:Fr h T a a0):dj a=true->a0.top=0->∀{v:Value},V ρ w a v->V (mz N) w a0 v:=by
 have hat:∀{b o},h.at b=some o->h[b]? = some (some o):=fun {b o} hb=>by
  unfold ab.at at hb;cases hz:h[b]? with
  | none=>rw[hz]at hb;cases hb
  | some z=>rw[hz]at hb;simp only[Option.join_some]at hb;rw[hb]
 have cutN:∀{l m':List AV} {off n:Nat},eL l=true->cut l off n=some m'->∀(i:Nat) x,m'[i]? = some x->dj x=true:=fun {l m' off n} hn hc i x hx=>by
  simp only[cut]at hc;split at hc
  . cases hc;rw[List.getElem?_take]at hx;split at hx
    . rw[List.getElem?_drop]at hx;exact gr hn hx
    . cases hx
  . cases hc
 induction hr with
 | same ht=>exact fun hn _ v hv=>GO ht hn hv
 | nil hc=>
  intro _ _ v hv;cases hv;exact .dT hc
 | @sl b off len esz cap cap' l m' m0 e hb ha hc hl hg hcc ih=>
  intro _ ht v hv;simp only[AV.top]at ht;have ih':∀(i:Nat) x y,m'[i]? = some x->m0[i]? = some y->∀{v:Value},V ρ w x v->V (mz N) w y v:=fun i x y hx hy {v} hv=>
   ih i x y hx hy (cutN (hT b l e hb ha) hc i x hx) (by have:=ff (n:=0) (by omega) i y hy;omega) hv
  have hB:=m.cW b _ (hat ha);have hcut:m'.length=len*esz/\∀i,i<m'.length->m'[i]? = l[off+i]? := by
   simp only[cut]at hc;split at hc
   . rename_i hlen;cases hc;refine⟨hlen,fun i hi=>?_⟩;rw[List.getElem?_take,if_pos (by omega),List.getElem?_drop]
   . cases hc
  cases hv with
  | @sl _ c d _ _ _ capC _ h1 h2 h3 h4=>
   have h3:∀n,cap'=some n->capC=n:=fun n hn=>by
    rcases hcc with rfl|rfl
    . exact h3 n hn
    . cases hn
   rcases hB with ⟨c',d',cs,fr,g1,g2,g3,g4,g5⟩|⟨g1,_⟩
   . rw[h1]at g1;cases g1;refine .vs c (off+d) (fun i=>cs.getD (off+d+i) (.bool false)) (fun _=>cQ.mz (hnew _ _ _ h1)) h2 h3 (fun i hi=>?_) (fun i y hy=>?_)
     . have hi':i<m'.length:=by omega
       have hlt:off+i<l.length:=by
        have:=hcut.2 i hi';rw[List.getElem?_eq_getElem hi']at this;exact(List.getElem?_eq_some_iff.1 this.symm).1
       have:off+d+i<cs.size:=by have:=g3.1;omega
       simp only[World.cell?,g2];simp[this,Array.getD]
     . have hi:i<m0.length:=(List.getElem?_eq_some_iff.1 hy).1;have hi':i<m'.length:=by omega
       have hx:=hcut.2 i hi';rw[List.getElem?_eq_getElem hi']at hx;have hlt:off+i<l.length:=(List.getElem?_eq_some_iff.1 hx.symm).1;have hs:off+d+i<cs.size:=by have:=g3.1;omega
       refine ih' i m'[i] y (List.getElem?_eq_getElem hi') hy ?_;refine g5 (off+i) _ _ hx.symm ?_;rw[show off+i+d=off+d+i from by omega];simp[hs,Array.getD]
   . rw[h1]at g1;cases g1
  | @fk _ _ h1=>
   rcases hB with ⟨c',d',cs,fr,g1,_⟩|⟨g1,g2⟩
   . rw[h1]at g1;cases g1
   . have:m0=[]:=List.eq_nil_of_length_eq_zero (by omega);subst this;exact .dT (by rcases hcc with rfl|rfl <;> simp)
  | dX c o' h1 _ _=>
   rcases hB with ⟨c',d',cs,fr,g1,_⟩|⟨g1,g2⟩ <;> (rw[h1]at g1;cases g1)
  | fl a h1=>
   rcases hB with ⟨c',d',cs,fr,g1,_⟩|⟨g1,g2⟩ <;> (rw[h1]at g1;cases g1)
  | fe h1=>
   rcases hB with ⟨c',d',cs,fr,g1,_⟩|⟨g1,g2⟩ <;> (rw[h1]at g1;cases g1)
 | @ptr b off l m0 e hb ha hl hg ih=>
  intro _ ht v hv;simp only[AV.top]at ht;have hB:=m.cW b _ (hat ha);cases hv with
  | @ptr _ c d _ h1=>
   rcases hB with ⟨c',d',cs,fr,g1,g2,g3,g4,g5⟩|⟨g1,_⟩
   . rw[h1]at g1;cases g1;refine .vp c (off+d) (fun i=>cs.getD (off+d+i) (.bool false)) (fun _=>cQ.mz (hnew _ _ _ h1)) (fun i hi=>?_) (fun i y hy=>?_)
     . have:off+d+i<cs.size:=by have:=g3.1;simp at hl;omega
       simp only[World.cell?,g2];simp[this,Array.getD]
     . have hi:i<m0.length:=(List.getElem?_eq_some_iff.1 hy).1;have hi':i<(l.drop off).length:=by omega
       have hlt:off+i<l.length:=by simp at hi';omega
       have hs:off+d+i<cs.size:=by have:=g3.1;omega
       refine ih i _ y (List.getElem?_eq_getElem hi') hy ?_ (by have:=ff (n:=0) (by omega) i y hy;omega) ?_
       . rw[List.getElem_drop];exact gr (hT b l e hb ha) (List.getElem?_eq_getElem hlt)
       . refine g5 (off+i) _ _ (by rw[List.getElem_drop];exact List.getElem?_eq_getElem hlt) ?_;rw[show off+i+d=off+d+i from by omega];simp[hs,Array.getD]
   . rw[h1]at g1;cases g1
  | dO _ c o' h1=>
   rcases hB with ⟨c',d',cs,fr,g1,_⟩|⟨g1,g2⟩ <;> (rw[h1]at g1;cases g1)
 | @vs l l0 n cap hl hg ih=>
  intro hn _ v hv;simp only[dj,List.isEmpty_iff]at hn;subst hn;have:l0=[]:=List.eq_nil_of_length_eq_zero (by simp at hl;omega);subst this;cases hv with
  | vs c o g hf h2 h3 h4 h5=>exact .vs c o g (fun h=>absurd rfl h) h2 h3 (by simp) (by simp)
  | dT hc=>exact .dT hc
  | fm a hc=>exact .fm a hc
 | @agg l l0 hl hg ih=>
  intro hn ht v hv;simp only[dj]at hn;simp only[AV.top]at ht;cases hv with
  | @agg _ mm h1 h2=>
   refine .agg (by omega) fun i y z hy hz=>?_
   have hi:i<l.length:=by have:=(List.getElem?_eq_some_iff.1 hy).1;omega
   exact ih i _ y (List.getElem?_eq_getElem hi) hy (gr hn (List.getElem?_eq_getElem hi)) (by have:=ff (n:=0) (by omega) i y hy;omega) (h2 i _ z (List.getElem?_eq_getElem hi) hz)
 | @aq l l0 hl hg ih=>
  intro hn ht v hv;simp only[dj]at hn;simp only[AV.top]at ht;cases hv with
  | @aq _ mm h1 h2=>
   refine .aq (by omega) fun i y z hy hz=>?_
   have hi:i<l.length:=by have:=(List.getElem?_eq_some_iff.1 hy).1;omega
   exact ih i _ y (List.getElem?_eq_getElem hi) hy (gr hn (List.getElem?_eq_getElem hi)) (by have:=ff (n:=0) (by omega) i y hy;omega) (h2 i _ z (List.getElem?_eq_getElem hi) hz)
 | @fn f fi fi0 ca ca0 hf h1 h2 g1 g2 ih1 ih2=>
  intro hn ht v hv;simp only[dj,Bool.and_eq_true]at hn;have hh:bk fi0<=0/\bk ca0<=0:=by
   cases f <;> simp only[AV.top]at ht <;> exact⟨by omega,by omega⟩
  cases hv with
  | fn hf' a1 a2 a3 a4=>
   refine .fn hf (by omega) (by omega) (fun i y z hy hz=>?_) (fun i y z hy hz=>?_)
   . have hi:i<fi.length:=by have:=(List.getElem?_eq_some_iff.1 hy).1;omega
     exact ih1 i _ y (List.getElem?_eq_getElem hi) hy (gr hn.1 (List.getElem?_eq_getElem hi)) (by have:=ff hh.1 i y hy;omega) (a3 i _ z (List.getElem?_eq_getElem hi) hz)
   . have hi:i<ca.length:=by have:=(List.getElem?_eq_some_iff.1 hy).1;omega
     exact ih2 i _ y (List.getElem?_eq_getElem hi) hy (gr hn.2 (List.getElem?_eq_getElem hi)) (by have:=ff hh.2 i y hy;omega) (a4 i _ z (List.getElem?_eq_getElem hi) hz)
  | yield _=>exact absurd rfl (hf _)
  | gE _ _=>exact absurd rfl (hf _)
theorem Sa {w:World}{ρ:au}{h:ab}(m:Mem P gl ρ h w){S T:List Nat}{v v1:AV}{hh:ab}{v':Value}{w':World}(hf:Fr hh T v v1)(hn:dj v=true)(hT:∀b l e,b∈T->hh.at b=some (.cells l e)->eL l=true)(ht:v1.top=0)(hd:dY P gl (dw ρ S) [] w ⟨v,hh,[]⟩ v' w'):dY P gl ρ h w ⟨v1,h,[]⟩ v' w':=by
 obtain⟨ρ',hv,m',x⟩:=hd;have bU:∀c,c<w.heap.size->w'.heap[c]? = w.heap[c]? := fun c hc=>x.bU c hc fun b d hb=>by simp[Go.Ab.dw]at hb
 have new:∀b c d,ρ' b = .live c d->w.heap.size<=c:=fun b c d hb=>by
  rcases Nat.lt_or_ge c w.heap.size with hc|hc
  . rcases x.back b c d hb hc with h1|⟨b0,d0,h1,_⟩ <;> simp[Go.Ab.dw]at h1
  . exact hc
 have hV:=hf.RZ m' new hT hn ht hv;have hF:∀c,cQ (mz w.heap.size) c->cQ ρ c:=fun c hc=>by
  have hge:w.heap.size<=c:=by
   rcases Nat.lt_or_ge c w.heap.size with h|h
   . exact absurd h hc.2
   . exact h
  exact⟨fun b d hb=>by have:=m.bound b c d hb;omega,fun hx=>by have:=m.xb c hx;omega⟩
 have E:Ext h h ρ ρ w w':=⟨x.os,x.tape,x.output,x.size,Nat.le_refl _,rfl,fun _ h=>h,fun _ _=>rfl,fun _ _ _ h=>.inl h,fun _ h=>h,fun _ h=>.inl h,fun c hc _=>bU c hc,fun b c d hb _=>.inl hb,x.shape⟩;refine⟨ρ,hV.fX (n:=0) (fun b hb=>by omega) hF (by omega),m.ext E ?_ m.fresh m.inj ?_,E⟩
 . intro b o hb;exact(m.cW b o hb).mono E rfl fun c d hl=>bU c (m.bound b c d hl)
 . intro b c d hb;exact Nat.lt_of_lt_of_le (m.bound b c d hb) x.size
theorem Sb (hs:jF P gl FT){T:List (Nat×Spec)}(hT:cA P gl (bm T)){f:Nat}{as as0:List AV}{h hh:ab}{S B:List Nat}{v v1:AV}(hr:aT (aX P FT T) f as0 [] ⟨v,hh,[]⟩)(hv:gu h S as as0)(hf:Fr hh B v v1)(hn:dj v=true)(hB:∀b l e,b∈B->hh.at b=some (.cells l e)->eL l=true)(ht:v1.top=0):bQ P gl ⟨f,as,h,⟨v1,h,[]⟩⟩:=by
 have hloc:=pA hs hT hr ⟨Nat.zero_le _,fun _ hb=>absurd hb (Nat.not_lt_zero _)⟩;refine⟨⟨Nat.le_refl _,fun _ _ _=>rfl⟩,fun ρ w as' m hl=>?_⟩;obtain⟨nx,w1,h1,h2⟩:=hloc.2 (dw ρ S) w as' (m.dw hs.gl S) (hv.view m hl);exact⟨nx,w1,h1,h2.mono fun v w' hd=>Sa m hf hn hB ht hd⟩
def hJ (hh:ab)(v v1:AV):Prop:=∃B,Fr hh B v v1/\dj v=true/\∀b l e,b∈B->hh.at b=some (.cells l e)->eL l=true
theorem hJ.same {hh:ab}{v:AV}(ht:v.top=0)(hn:dj v=true):hJ hh v v:=⟨[],.same ht,hn,by simp⟩
theorem hJ.nil {hh:ab}:hJ hh .ae (.vs [] 0 none):=⟨[],.nil (fun n hn=>by cases hn),rfl,by simp⟩
theorem Sc (hs:jF P gl FT){T:List (Nat×Spec)}(hT:cA P gl (bm T)){f:Nat}{as as0:List AV}{h hh:ab}{S:List Nat}{v v1:AV}(hr:aT (aX P FT T) f as0 [] ⟨v,hh,[]⟩)(hv:gu h S as as0)(hf:hJ hh v v1)(ht:v1.top=0):bQ P gl ⟨f,as,h,⟨v1,h,[]⟩⟩:=by
 obtain⟨B,h1,h2,h3⟩:=hf;exact Sb hs hT hr hv h1 h2 h3 ht
end Go.Ab

/-
  Own work: loops by an invariant; parts of lists; lists that grow, of elements that refer to blocks.
-/
namespace Go.Ab
variable {I:ao->Prop} {s:ao}
variable {M:ax}
structure LI (I:ao->Prop)(Q:Ex->ao->Prop)(e:Ex)(s:ao):Prop where
 out:match e with
  | .normal=>I s
  | e=>Q e s
theorem da {Q:Ex->ao->Prop}(h:I s):LI I Q .normal s:=⟨h⟩
theorem jS {Q:Ex->ao->Prop}{i:Nat}(h:Q (.exit i) s):LI I Q (.exit i) s:=⟨h⟩
theorem Hk {Q:Ex->ao->Prop}(h:Q .ret s):LI I Q .ret s:=⟨h⟩
theorem W.fE {c:al}{Q:Ex->ao->Prop}(I:Nat->ao->Prop)(hs:∀m s,I m s->W M c s (LI (fun s'=>∃m',m'<m/\I m' s') Q)):∀{m:Nat} {s:ao},I m s->W M (.loop c) s Q:=by
 intro m;induction m using Nat.strongRecOn with
 | ind m ih=>
  intro s h;refine W.loop ((hs m s h).mono fun e s' he=>?_);cases e with
  | normal=>
   obtain⟨m',hm,hI⟩:=he.out;exact⟨ih m' hm hI⟩
  | exit i=>exact⟨he.out⟩
  | ret=>exact⟨he.out⟩
theorem W.iQ {c:al}{Q:Ex->ao->Prop}(n:Nat)(I:Nat->ao->Prop)(hs:∀i s,i<n->I i s->W M c s (LI (I (i+1)) Q))(he:∀s,I n s->W M c s (LI (fun _=>False) Q)){i:Nat}{s:ao}(hi:i<=n)(h:I i s):W M (.loop c) s Q:=by
 refine W.fE (fun m s=>m<=n/\I (n-m) s) (fun m s ⟨hm,h⟩=>?_) (m:=n-i) ⟨Nat.sub_le _ _,by rwa [Nat.sub_sub_self hi]⟩;rcases Nat.eq_zero_or_pos m with rfl|h0
 . exact(he s h).mono fun e s' he=>⟨by
    cases e with
    | normal=>exact he.out.elim
    | exit i=>exact he.out
    | ret=>exact he.out⟩
 . refine(hs (n-m) s (by omega) h).mono fun e s' he=>⟨?_⟩
   cases e with
   | normal=>exact⟨m-1,by omega,by omega,by have:=he.out;rwa [show n-m+1=n-(m-1) by omega]at this⟩
   | exit i=>exact he.out
   | ret=>exact he.out
section
variable {α:Type} {f:α->List AV} {esz t:Nat} {x y:aL} {L:List aU} {pe:List AV} {lo:List (Nat×AV)} {hp:ab} {df wr:List Nat} {l:List α} {cap:Option Nat} {k:IntKind} {n:Int} {Q:ao->Prop}
theorem ahb (hx:(St.mk pe lo hp df).aa x=some (.vs (arr f l) l.length cap))(hy:(St.mk pe lo hp df).aa y=some (.int k n))(hf:∀a,(f a).length=esz)(hn:0<=n/\n<=l.length)
 (h:WO M L ⟨⟨pe,(t,.vs (arr f (l.take n.toNat)) (l.take n.toNat).length cap)::lo,hp,df⟩,wr⟩ Q):WO M (⟨.l t,.slice .sl esz x none (some y) none,none⟩::L) ⟨⟨pe,lo,hp,df⟩,wr⟩ Q:=by
 refine aab (v:=.vs (arr f (l.take n.toNat)) (l.take n.toNat).length cap) ?_ rfl h;have hle:n.toNat<=l.length:=by omega
 have hl:(l.take n.toNat).length=n.toNat:=by rw[List.length_take];omega
 have hc:cap.map (fun x=>x)=cap:=by cases cap <;> rfl
 have h0:(0:Int)<=n/\n<=(l.length:Int):=by omega
 simp only[aW,hx,St.cZ,hy,Option.map_some,jc,bM,Option.isNone_none,Option.isSome_some,Bool.true_or,if_true,if_pos h0];simp only[Nat.zero_mul,List.drop_zero,Nat.sub_zero,AG hf,hl,hc]
end
theorem Sd {α:Type}{f:α->List AV}{esz:Nat}{e:TypeId}{hp:ab}{c n:Nat}{cap:Option Nat}{l:List α}(hf:∀a,(f a).length=esz)(ht:∀a,bk (f a)=0)(h:hp.at c=some (.cells (arr f l) e))(hn:l.length=n):Fr hp [c] (.sl c 0 n esz cap) (.vs (arr f l) l.length none):=by
 subst hn;have:=ke hf (l:=l) (i:=0) (n:=l.length) (by omega);rw[Nat.zero_mul]at this;refine .sl (List.mem_singleton.2 rfl) h this (by simp) (fun i x y hx hy=>?_) (.inr rfl);simp at hx;rw[hx]at hy;cases hy;exact .same (by have:=ff (n:=0) (Nat.le_of_eq (pF ht l)) i x hx;omega)
end Go.Ab

/-
  Own work: lists that grow by appends of whole lists, and parts of them.
-/
namespace Go.Ab
variable {M:ax} {α:Type} {f:α->List AV} {esz:Nat} {e:TypeId} {hp H:ab} {o y:AV} {acc m:List α} {S S':List Nat}
theorem Sl.cells (hf:∀a,(f a).length=esz)(h:Sl f hp y m):eA hp y=some (arr f m,m.length):=by
 rcases h with ⟨rfl,rfl⟩|⟨cap,rfl⟩|⟨b,off,ez,cap,c,e,rfl,h1,h2⟩
 . rfl
 . rfl
 . simp only[eA,h1,h2,Option.map_some]
def cz (f:α->List AV)(esz:Nat)(e:TypeId)(hp:ab)(o:AV)(acc:List α)(S:List Nat):Prop:=
 (acc=[]/\o = .ae)\/∃c cap,c∉S/\o = .sl c 0 acc.length esz cap/\hp.at c=some (.cells (arr f acc) e)/\(cap=none\/acc=[]/\cap=some 0)
theorem cz.nM:cz f esz e hp .ae ([]:List α) S:=.inl ⟨rfl,rfl⟩
theorem cz.sl (hf:∀a,(f a).length=esz)(h:cz f esz e hp o acc S):Sl f hp o acc:=by
 rcases h with ⟨rfl,rfl⟩|⟨c,cap,_,rfl,h1,_⟩
 . exact .nM
 . exact .iJ hf h1 rfl
def uG (o:AV):List Nat:=kY (some o)
theorem cz.dv (h:cz f esz e hp o acc S)(hk:∀b x,b∈uG o->hp.at b=some x->H.at b=some x)(hs:∀b,b∈uG o->b∉S->b∉S'):cz f esz e H o acc S':=by
 rcases h with h|⟨c,cap,h0,rfl,h1,h2⟩
 . exact .inl h
 . exact .inr ⟨c,cap,hs c (by simp[uG,kY]) h0,rfl,hk _ _ (by simp[uG,kY]) h1,h2⟩
theorem cz.grow (h:cz f esz e hp o acc S)(J:ab):cz f esz e (hp++J) o acc S:=h.dv (fun b x _ hx=>bT hx) (fun b _ h=>h)
theorem cz.app {bytes t:Nat}{l:List aU}{pe:List AV}{lo:List (Nat×AV)}{df wr:List Nat}{a b:aL}{Q:ao->Prop}(hf:∀a,(f a).length=esz)(h1:∀a,(f a).all cS=true)(hb0:0<bytes)
 (h:cz f esz e hp o acc S) (hS:∀x∈S,x<hp.length) (ha:(St.mk pe lo hp df).aa a=some o) (hb:(St.mk pe lo hp df).aa b=some y) (hy:Sl f hp y m)
 (hn:(acc.length+m.length)*bytes<=dD) (hQ:∀(H:ab) (w':List Nat) o',cz f esz e H o' (acc++m) S->(∀x v,x∈S->hp.at x=some v->H.at x=some v)->hp.length<=H.length->WO M l ⟨⟨pe,(t,o')::lo,H,df⟩,w'⟩ Q):WO M (⟨.l t,.append e esz bytes a b,none⟩::l) ⟨⟨pe,lo,hp,df⟩,wr⟩ Q:=by
 have hs:=hy.cells hf;have hone:(arr f m).all cS=true:=Hh h1 m;have hcond:(arr f m).length=m.length*esz/\0<bytes/\(arr f m).all cS=true:=⟨pG hf m,hb0,hone⟩;by_cases hm:m=[]
 . subst hm;rw[List.append_nil]at hQ;refine acb (v:=o) (h':=hp) (w':=[]) ?_ rfl rfl (hQ hp _ o h (fun _ _ _ hx=>hx) (Nat.le_refl _));simp only[bB,ha,hb,jv,hs,if_pos hcond];rcases h with ⟨_,rfl⟩|⟨c,cap,_,rfl,_,_⟩ <;> simp
 . have hp0:m.length≠0:=fun h=>hm (List.eq_nil_of_length_eq_zero h)
   rcases h with ⟨rfl,rfl⟩|⟨c,cap,hc,rfl,hat,hcap⟩
   . refine acb (v:=.sl hp.length 0 m.length esz none) (h':=hp++[some (.cells (arr f m) e)]) (w':=[]) ?_ rfl rfl (hQ _ _ _ (.inr ⟨hp.length,none,fun h=>by have:=hS _ h;omega,by simp,bW,.inl rfl⟩) (fun x v _ hx=>bT hx) (by simp));simp only[bB,ha,hb,jv,hs,if_pos hcond,if_neg hp0];rw[if_pos (by simpa using hn)]
   . rcases hcap with rfl|⟨rfl,rfl⟩
     . refine acb (v:=.sl hp.length 0 (acc.length+m.length) esz none) (h':=hp.put c none++[some (.cells (arr f acc++arr f m) e)]) (w':=[c]) ?_ rfl rfl (hQ _ _ _ (.inr ⟨hp.length,none,fun h=>by have:=hS _ h;omega,by simp,?_,.inl rfl⟩) (fun x v hx hv=>bT (pH (fun ee=>hc (ee ▸ hx)) hv)) (by simp[fj]))
       . simp only[bB,ha,hb,jv,hs,if_pos hcond,if_neg hp0,hat];rw[if_pos ⟨trivial,hn⟩,if_pos ⟨by rw[pG hf];omega,trivial⟩,List.drop_zero]
       . have:(hp.put c none).length=hp.length:=fj;rw[←this,bW,RA]
     . refine acb (v:=.sl hp.length 0 m.length esz none) (h':=hp++[some (.cells (arr f m) e)]) (w':=[]) ?_ rfl rfl (hQ _ _ _ (.inr ⟨hp.length,none,fun h=>by have:=hS _ h;omega,by simp,by rw[List.nil_append];exact bW,.inl rfl⟩) (fun x v _ hx=>bT hx) (by simp));simp only[bB,ha,hb,jv,hs,if_pos hcond,if_neg hp0,hat,List.length_nil,Nat.zero_add,Nat.zero_mul];rw[if_pos ⟨trivial,by simpa using hn⟩,if_neg (by omega)];simp[cut,arr]
theorem cz.Se (hf:∀a,(f a).length=esz)(ht:∀a,bk (f a)=0)(hn:∀a,eL (f a)=true)(h:cz f esz e hp o acc S):hJ (if (aV [o]).top<=0 then [] else hp) o (.vs (arr f acc) acc.length none):=by
 rcases h with ⟨rfl,rfl⟩|⟨c,cap,_,rfl,h4,_⟩
 . exact .nil
 . rw[if_neg (by simp[aV,AV.top])];refine⟨[c],Sd hf ht h4 rfl,rfl,fun b l e' hb hl=>?_⟩;rw[List.mem_singleton.1 hb,h4]at hl;cases hl;exact nJ hn acc
end Go.Ab

/-
  Own work: appends to empty literals in drawn regions: what they make is new.
-/
namespace Go.Ab
variable {M:ax}
theorem cz.one {α:Type}{f:α->List AV}{esz:Nat}{e:TypeId}{hp:ab}{o:AV}{acc:List α}{S:List Nat}(h:cz f esz e hp o acc S):AV.cells o=some [o]/\cS o=true:=by
 rcases h with ⟨_,rfl⟩|⟨c,cap,_,rfl,_,_⟩ <;> exact⟨rfl,rfl⟩
end Go.Ab

/-
  Own work: contracts by contents: what a run on the empty heap hands back is the contract itself; no relation is told a second time.
-/
namespace Go.Ab
variable {h:ab} {l m m':List AV} {a x:AV}
variable {M:ax} {P:Program} {gl:Nat->Option AV}
theorem aT.AQ {f:FuncId}{as:List AV}{r r':HR}(h1:aT M f as h r)(h2:aT M f as h r'):r=r':=by
 obtain⟨n,hn⟩:=h1;obtain⟨m,hm⟩:=h2;have a1:=uw (ux (Nat.le_max_left n m)) hn;have a2:=uw (ux (Nat.le_max_right n m)) hm;exact Option.some.inj (a1.symm.trans a2)
mutual
def cd:AV->AV
 | .ae=>.vs [] 0 none
 | .vs l n _=>.vs (dJ l) n none
 | .vp l=>.vp (dJ l)
 | .agg l=>.agg (dJ l)
 | .aq l=>.aq (dJ l)
 | .fn f a b=>.fn f (dJ a) (dJ b)
 | .iface t v=>.iface t (cd v)
 | v=>v
def dJ:List AV->List AV
 | []=>[]
 | v::r=>cd v::dJ r
end
theorem jo:∀{l m:List AV},l.length=m.length->(∀(i:Nat) x y,l[i]? = some x->m[i]? = some y->cd x=cd y)->dJ l=dJ m
 | [],[],_,_=>rfl
 | x::l,y::m,hl,h=>by
  rw[dJ,dJ,h 0 x y rfl rfl,jo (by simpa using hl) fun i a b ha hb=>h (i+1) a b ha hb]
theorem nN (h1:l.length=m.length)(h2:l.length=m'.length)(h:∀(i:Nat) a x y,l[i]? = some a->m[i]? = some x->m'[i]? = some y->cd x=cd y):dJ m=dJ m':=
 jo (h1.symm.trans h2) fun i x y hx hy=>by
  have hi:i<l.length:=by rw[h1];exact(List.getElem?_eq_some_iff.1 hx).1
  exact h i l[i] x y (List.getElem?_eq_getElem hi) hx hy
theorem Hl (hl:l.length=m.length)(h:∀(i:Nat) x y,l[i]? = some x->m[i]? = some y->x=y):l=m:=
 List.ext_getElem hl fun i h1 h2=>h i _ _ (List.getElem?_eq_getElem h1) (List.getElem?_eq_getElem h2)
theorem AR (h1:l.length=m.length)(h2:l.length=m'.length)(h:∀(i:Nat) a x y,l[i]? = some a->m[i]? = some x->m'[i]? = some y->x=y):m=m':=
 Hl (h1.symm.trans h2) fun i x y hx hy=>by
  have hi:i<l.length:=by rw[h1];exact(List.getElem?_eq_some_iff.1 hx).1
  exact h i l[i] x y (List.getElem?_eq_getElem hi) hx hy
theorem Hm:∀(l m:List AV),dJ (l++m)=dJ l++dJ m
 | [],m=>rfl
 | x::l,m=>by rw[List.cons_append,dJ,dJ,Hm l m];rfl
theorem AS {α:Type}{f:α->List AV}(hf:∀a,dJ (f a)=f a):∀l,dJ (arr f l)=arr f l
 | []=>rfl
 | a::l=>by rw[kd,Hm,hf,AS hf l]
theorem cF (h:bk l=0){i:Nat}{x:AV}(hx:l[i]? = some x):x.top=0:=by
 have:=ff (n:=0) (by omega) i x hx;omega
theorem Fr.jG {S:List Nat}(hr:Fr h S a x):a.top=0->cd a=cd x:=by
 induction hr with
 | same ht=>exact fun _=>rfl
 | nil hc=>exact fun _=>by simp[cd,dJ]
 | sl=>intro ht;simp[AV.top]at ht
 | ptr=>intro ht;simp[AV.top]at ht
 | vs hl hg ih=>intro ht;rw[cd,cd,jo hl fun i x y hx hy=>ih i x y hx hy (cF ht hx)]
 | agg hl hg ih=>intro ht;rw[cd,cd,jo hl fun i x y hx hy=>ih i x y hx hy (cF ht hx)]
 | aq hl hg ih=>intro ht;rw[cd,cd,jo hl fun i x y hx hy=>ih i x y hx hy (cF ht hx)]
 | fn hf h1 h2 g1 g2 i1 i2=>
  intro ht;simp only[AV.top]at ht;rw[cd,cd,jo h1 fun i x y hx hy=>i1 i x y hx hy (cF (by omega) hx),jo h2 fun i x y hx hy=>i2 i x y hx hy (cF (by omega) hx)]
theorem Fr.can {S:List Nat}(hr:Fr h S a x):x.top=0->∀{S':List Nat} {y:AV},Fr h S' a y->y.top=0->cd x=cd y:=by
 induction hr with
 | same ht=>exact fun _ S' y hy _=>hy.jG ht
 | nil hc=>exact fun _ S' y hy _=>by cases hy <;> simp[cd,dJ]
 | sl hb ha hc hl hg hcc ih=>
  intro hx S' y hy hyt;cases hy with
  | same ht=>simp[AV.top]at ht
  | sl hb' ha' hc' hl' hg' hcc'=>
   rw[ha]at ha';cases ha';rw[hc]at hc';cases hc';rw[cd,cd,nN hl hl' fun i a x y h1 h2 h3=>ih i a x h1 h2 (cF hx h2) (hg' i a y h1 h3) (cF hyt h3)]
 | ptr hb ha hl hg ih=>
  intro hx S' y hy hyt;cases hy with
  | same ht=>simp[AV.top]at ht
  | ptr hb' ha' hl' hg'=>
   rw[ha]at ha';cases ha';rw[cd,cd,nN hl hl' fun i a x y h1 h2 h3=>ih i a x h1 h2 (cF hx h2) (hg' i a y h1 h3) (cF hyt h3)]
 | vs hl hg ih=>
  intro hx S' y hy hyt;cases hy with
  | same ht=>rw[cd,cd,jo hl.symm fun i x y hx' hy'=>((hg i y x hy' hx').jG (cF ht hy')).symm]
  | vs hl' hg'=>rw[cd,cd,nN hl hl' fun i a x y h1 h2 h3=>ih i a x h1 h2 (cF hx h2) (hg' i a y h1 h3) (cF hyt h3)]
 | agg hl hg ih=>
  intro hx S' y hy hyt;cases hy with
  | same ht=>rw[cd,cd,jo hl.symm fun i x y hx' hy'=>((hg i y x hy' hx').jG (cF ht hy')).symm]
  | agg hl' hg'=>rw[cd,cd,nN hl hl' fun i a x y h1 h2 h3=>ih i a x h1 h2 (cF hx h2) (hg' i a y h1 h3) (cF hyt h3)]
 | aq hl hg ih=>
  intro hx S' y hy hyt;cases hy with
  | same ht=>rw[cd,cd,jo hl.symm fun i x y hx' hy'=>((hg i y x hy' hx').jG (cF ht hy')).symm]
  | aq hl' hg'=>rw[cd,cd,nN hl hl' fun i a x y h1 h2 h3=>ih i a x h1 h2 (cF hx h2) (hg' i a y h1 h3) (cF hyt h3)]
 | fn hf h1 h2 g1 g2 i1 i2=>
  intro hx S' y hy hyt;simp only[AV.top]at hx;cases hy with
  | same ht=>
   simp only[AV.top]at ht;rw[cd,cd,jo h1.symm fun i x y hx' hy'=>((g1 i y x hy' hx').jG (cF (by omega) hy')).symm,jo h2.symm fun i x y hx' hy'=>((g2 i y x hy' hx').jG (cF (by omega) hy')).symm]
  | fn hf' h1' h2' g1' g2'=>
   simp only[AV.top]at hyt;rw[cd,cd,nN h1 h1' fun i a x y e1 e2 e3=>i1 i a x e1 e2 (cF (by omega) e2) (g1' i a y e1 e3) (cF (by omega) e3),
     nN h2 h2' fun i a x y e1 e2 e3=>i2 i a x e1 e2 (cF (by omega) e2) (g2' i a y e1 e3) (cF (by omega) e3)]
def uH:AV->Bool
 | .int _ _=>true
 | .bool _=>true
 | .str _=>true
 | .fn f [] []=>match f with | .yield _=>false|_=>true
 | _=>false
inductive cT (h:ab):AV->AV->Prop
 | atom {a:AV} (ha:uH a=true):cT h a a
 | nil:cT h .ae (.vs [] 0 none)
 | sl {b off len esz:Nat} {cap:Option Nat} {l m m0:List AV} {e:TypeId} (ha:h.at b=some (.cells l e)) (hc:cut l off (len*esz)=some m) (hl:m.length=m0.length)
     (hg:∀(i:Nat) x y,m[i]? = some x->m0[i]? = some y->cT h x y):cT h (.sl b off len esz cap) (.vs m0 len none)
 | vs {l l0:List AV} {n:Nat} {cap:Option Nat} (hl:l.length=l0.length) (hg:∀(i:Nat) x y,l[i]? = some x->l0[i]? = some y->cT h x y):cT h (.vs l n cap) (.vs l0 n cap)
 | agg {l l0:List AV} (hl:l.length=l0.length) (hg:∀(i:Nat) x y,l[i]? = some x->l0[i]? = some y->cT h x y):cT h (.agg l) (.agg l0)
def fM (h:ab)(l l0:List AV):Prop:=l.length=l0.length/\∀(i:Nat) x y,l[i]? = some x->l0[i]? = some y->cT h x y
theorem fM.nil:fM h [] []:=⟨rfl,by simp⟩
theorem fM.cons {y:AV}(h1:cT h x y)(h2:fM h l m):fM h (x::l) (y::m):=by
 refine⟨by simp[h2.1],fun i a b ha hb=>?_⟩;cases i with
 | zero=>simp at ha hb;subst ha;subst hb;exact h1
 | succ i=>simp at ha hb;exact h2.2 i a b ha hb
theorem Sf (h:uH a=true):a.top=0:=by
 cases a with
 | fn f fi ca=>
  cases fi <;> cases ca <;> first|(simp[uH]at h;done)|skip
  cases f <;> first|rfl|cases h
 | _=>first|rfl|cases h
theorem cT.fr (hr:cT h a x):Fr h (List.range h.length) a x:=by
 induction hr with
 | atom ha=>exact .same (Sf ha)
 | nil=>exact .nil (fun n hn=>by cases hn)
 | sl ha hc hl hg ih=>exact .sl (List.mem_range.2 (eo ha)) ha hc hl ih (.inr rfl)
 | vs hl hg ih=>exact .vs hl ih
 | agg hl hg ih=>exact .agg hl ih
theorem fM.fr {l0:List AV}(hr:fM h l l0):gu h (List.range h.length) l l0:=⟨hr.1,fun i x y hx hy=>(hr.2 i x y hx hy).fr⟩
theorem cT.uniq (hr:cT h a x):∀{y:AV},cT h a y->x=y:=by
 induction hr with
 | atom ha=>intro y hy;cases hy <;> first|rfl|cases ha
 | nil=>intro y hy;cases hy with
   | atom ha=>cases ha
   | nil=>rfl
 | sl ha hc hl hg ih=>
  intro y hy;cases hy with
  | atom ha=>cases ha
  | sl ha' hc' hl' hg'=>
   rw[ha]at ha';cases ha';rw[hc]at hc';cases hc';rw[AR hl hl' fun i a x y h1 h2 h3=>ih i a x h1 h2 (hg' i a y h1 h3)]
 | vs hl hg ih=>
  intro y hy;cases hy with
  | atom ha=>cases ha
  | vs hl' hg'=>rw[AR hl hl' fun i a x y h1 h2 h3=>ih i a x h1 h2 (hg' i a y h1 h3)]
 | agg hl hg ih=>
  intro y hy;cases hy with
  | atom ha=>cases ha
  | agg hl' hg'=>rw[AR hl hl' fun i a x y h1 h2 h3=>ih i a x h1 h2 (hg' i a y h1 h3)]
theorem fM.uniq (h1:fM h l m)(h2:fM h l m'):m=m':=
 Hl (h1.1.symm.trans h2.1) fun i x y hx hy=>by
  have hi:i<l.length:=by rw[h1.1];exact(List.getElem?_eq_some_iff.1 hx).1
  exact(h1.2 i l[i] x (List.getElem?_eq_getElem hi) hx).uniq (h2.2 i l[i] y (List.getElem?_eq_getElem hi) hy)
theorem fM.app:∀{l m l' m':List AV},fM h l m->fM h l' m'->fM h (l++l') (m++m')
 | [],[],_,_,_,h2=>h2
 | x::l,y::m,l',m',h1,h2=>.cons (h1.2 0 x y rfl rfl) (fM.app ⟨by simpa using h1.1,fun i a b ha hb=>h1.2 (i+1) a b ha hb⟩ h2)
 | [],y::m,_,_,h1,_=>by have:=h1.1;simp at this
 | x::l,[],_,_,h1,_=>by have:=h1.1;simp at this
abbrev rD (h:ab)(l:List AV):Prop:=fM h l l
theorem uI {α:Type}{f:α->List AV}{h:ab}(hf:∀a,rD h (f a)):∀l,rD h (arr f l)
 | []=>.nil
 | a::l=>by rw[kd];exact(hf a).app (uI hf l)
theorem cT.mA {n:Nat}{cap:Option Nat}(hl:rD h l):cT h (.vs l n cap) (.vs l n cap):=.vs rfl hl.2
theorem enter:(∀(f:Nat -> AV) a l,(a::l).map f=f a::l.map f) /\ (∀f:Nat -> AV,[].map f=[]) /\ (∀(a:AV) (l:List AV),(a::l)[0]? = some a) /\ (∀(a:AV) (l:List AV) (n:Nat),(a::l)[n+1]? = l[n]?) /\ (∀n:Nat,([]:List AV)[n]? = none) /\ (∀a b:AV,(some a).getD b=a) /\ ∀b:AV,none.getD b=b:=
  ⟨fun _ _ _=>rfl,fun _=>rfl,fun _ _=>rfl,fun _ _ _=>rfl,fun _=>rfl,fun _ _=>rfl,fun _=>rfl⟩
end Go.Ab

/-
  Own work: contracts by contents that keep nil apart from empty; arguments without blocks.
-/
namespace Go.Ab
variable {l as:List AV} {h:ab} {x:AV} {FT:FuncId->Option dc}
variable {M:ax} {P:Program} {gl:Nat->Option AV}
mutual
def bK:AV->AV
 | .vs l n _=>.vs (cJ l) n none
 | .vp l=>.vp (cJ l)
 | .agg l=>.agg (cJ l)
 | .aq l=>.aq (cJ l)
 | .fn f a b=>.fn f (cJ a) (cJ b)
 | .iface t v=>.iface t (bK v)
 | v=>v
def cJ:List AV->List AV
 | []=>[]
 | v::r=>bK v::cJ r
end
theorem mB:∀{l m:List AV},l.length=m.length->(∀(i:Nat) x y,l[i]? = some x->m[i]? = some y->bK x=bK y)->cJ l=cJ m
 | [],[],_,_=>rfl
 | x::l,y::m,hl,h=>by
  rw[cJ,cJ,h 0 x y rfl rfl,mB (by simpa using hl) fun i a b ha hb=>h (i+1) a b ha hb]
theorem uJ {m m':List AV}(h1:l.length=m.length)(h2:l.length=m'.length)(h:∀(i:Nat) a x y,l[i]? = some a->m[i]? = some x->m'[i]? = some y->bK x=bK y):cJ m=cJ m':=
 mB (h1.symm.trans h2) fun i x y hx hy=>by
  have hi:i<l.length:=by rw[h1];exact(List.getElem?_eq_some_iff.1 hx).1
  exact h i l[i] x y (List.getElem?_eq_getElem hi) hx hy
theorem Hn:∀(l m:List AV),cJ (l++m)=cJ l++cJ m
 | [],m=>rfl
 | x::l,m=>by rw[List.cons_append,cJ,cJ,Hn l m];rfl
theorem AT {α:Type}{f:α->List AV}(hf:∀a,cJ (f a)=f a):∀l,cJ (arr f l)=arr f l
 | []=>rfl
 | a::l=>by rw[kd,Hn,hf,AT hf l]
inductive eM (h:ab):AV->AV->Prop
 | same {v:AV} (ht:v.top=0):eM h v v
 | sl {b off len esz:Nat} {cap:Option Nat} {l m m0:List AV} {e:TypeId} (ha:h.at b=some (.cells l e)) (hc:cut l off (len*esz)=some m) (hl:m.length=m0.length)
     (hg:∀(i:Nat) x y,m[i]? = some x->m0[i]? = some y->eM h x y):eM h (.sl b off len esz cap) (.vs m0 len none)
 | vs {l l0:List AV} {n:Nat} {cap:Option Nat} (hl:l.length=l0.length) (hg:∀(i:Nat) x y,l[i]? = some x->l0[i]? = some y->eM h x y):eM h (.vs l n cap) (.vs l0 n cap)
 | agg {l l0:List AV} (hl:l.length=l0.length) (hg:∀(i:Nat) x y,l[i]? = some x->l0[i]? = some y->eM h x y):eM h (.agg l) (.agg l0)
 | aq {l l0:List AV} (hl:l.length=l0.length) (hg:∀(i:Nat) x y,l[i]? = some x->l0[i]? = some y->eM h x y):eM h (.aq l) (.aq l0)
theorem eM.fr {a:AV}(hr:eM h a x):Fr h (List.range h.length) a x:=by
 induction hr with
 | same ht=>exact .same ht
 | sl ha hc hl hg ih=>exact .sl (List.mem_range.2 (eo ha)) ha hc hl ih (.inr rfl)
 | vs hl hg ih=>exact .vs hl ih
 | agg hl hg ih=>exact .agg hl ih
 | aq hl hg ih=>exact .aq hl ih
theorem eM.jG {a:AV}(hr:eM h a x):a.top=0->bK a=bK x:=by
 induction hr with
 | same ht=>exact fun _=>rfl
 | sl=>intro ht;simp[AV.top]at ht
 | vs hl hg ih=>intro ht;rw[bK,bK,mB hl fun i x y hx hy=>ih i x y hx hy (cF ht hx)]
 | agg hl hg ih=>intro ht;rw[bK,bK,mB hl fun i x y hx hy=>ih i x y hx hy (cF ht hx)]
 | aq hl hg ih=>intro ht;rw[bK,bK,mB hl fun i x y hx hy=>ih i x y hx hy (cF ht hx)]
theorem eM.can {a:AV}(hr:eM h a x):x.top=0->∀{y:AV},eM h a y->y.top=0->bK x=bK y:=by
 induction hr with
 | same ht=>exact fun _ y hy _=>hy.jG ht
 | sl ha hc hl hg ih=>
  intro hx y hy hyt;cases hy with
  | same ht=>simp[AV.top]at ht
  | sl ha' hc' hl' hg'=>
   rw[ha]at ha';cases ha';rw[hc]at hc';cases hc';rw[bK,bK,uJ hl hl' fun i a x y h1 h2 h3=>ih i a x h1 h2 (cF hx h2) (hg' i a y h1 h3) (cF hyt h3)]
 | vs hl hg ih=>
  intro hx y hy hyt;cases hy with
  | same ht=>rw[bK,bK,mB hl.symm fun i x y hx' hy'=>((hg i y x hy' hx').jG (cF ht hy')).symm]
  | vs hl' hg'=>rw[bK,bK,uJ hl hl' fun i a x y h1 h2 h3=>ih i a x h1 h2 (cF hx h2) (hg' i a y h1 h3) (cF hyt h3)]
 | agg hl hg ih=>
  intro hx y hy hyt;cases hy with
  | same ht=>rw[bK,bK,mB hl.symm fun i x y hx' hy'=>((hg i y x hy' hx').jG (cF ht hy')).symm]
  | agg hl' hg'=>rw[bK,bK,uJ hl hl' fun i a x y h1 h2 h3=>ih i a x h1 h2 (cF hx h2) (hg' i a y h1 h3) (cF hyt h3)]
 | aq hl hg ih=>
  intro hx y hy hyt;cases hy with
  | same ht=>rw[bK,bK,mB hl.symm fun i x y hx' hy'=>((hg i y x hy' hx').jG (cF ht hy')).symm]
  | aq hl' hg'=>rw[bK,bK,uJ hl hl' fun i a x y h1 h2 h3=>ih i a x h1 h2 (cF hx h2) (hg' i a y h1 h3) (cF hyt h3)]
theorem pI {i:Nat}(h:(dJ l)[i]? = some x):∃y,l[i]? = some y/\x=cd y:=by
 induction l generalizing i with
 | nil=>simp[dJ]at h
 | cons a l ih=>
  rw[dJ]at h;cases i with
  | zero=>simp at h;exact⟨a,rfl,h.symm⟩
  | succ i=>exact ih (by simpa using h)
theorem nO:∀l:List AV,(dJ l).length=l.length
 | []=>rfl
 | a::l=>by rw[dJ,List.length_cons,List.length_cons,nO l]
theorem pJ {i:Nat}(h:(cJ l)[i]? = some x):∃y,l[i]? = some y/\x=bK y:=by
 induction l generalizing i with
 | nil=>simp[cJ]at h
 | cons a l ih=>
  rw[cJ]at h;cases i with
  | zero=>simp at h;exact⟨a,rfl,h.symm⟩
  | succ i=>exact ih (by simpa using h)
theorem nP:∀l:List AV,(cJ l).length=l.length
 | []=>rfl
 | a::l=>by rw[cJ,List.length_cons,List.length_cons,nP l]
section
variable {ρ:au} {w:World} {a:AV} {v:Value}
theorem V.bK (hv:V ρ w a v):V ρ w (bK a) v:=by
 induction hv with
 | cR v=>exact .cR v
 | bool b=>exact .bool b
 | int k n=>exact .int k n
 | str s=>exact .str s
 | du=>exact .du
 | ptr o h=>exact .ptr o h
 | dO o c o' h=>exact .dO o c o' h
 | vp c o g hf hc hg ih=>
  exact .vp c o g (fun h=>hf fun e=>h (by rw[e];rfl)) (fun i hi=>hc i (by rwa [nP]at hi)) fun i x hx=>by
   obtain⟨y,hy,rfl⟩:=pJ hx;exact ih i y hy
 | ae=>exact .ae
 | sl h hl hcap hb=>exact .sl h hl hcap hb
 | fk h=>exact .fk h
 | dX c o' h hl hcap=>exact .dX c o' h hl hcap
 | fe h=>exact .fe h
 | fl a h=>exact .fl a h
 | vs c o g hf hl hcap hc hg ih=>
  exact .vs c o g (fun h=>hf fun e=>h (by rw[e];rfl)) hl (fun n hn=>by cases hn) (fun i hi=>hc i (by rwa [nP]at hi)) fun i x hx=>by
   obtain⟨y,hy,rfl⟩:=pJ hx;exact ih i y hy
 | dT hcap=>exact .dT (fun n hn=>by cases hn)
 | fm a hcap=>exact .fm a (fun n hn=>by cases hn)
 | dU=>exact .dU
 | map h=>exact .map h
 | gW c h=>exact .gW c h
 | yield h=>exact .yield h
 | fn hf h1 h2 g1 g2 i1 i2=>
  exact .fn hf (by rw[nP];exact h1) (by rw[nP];exact h2) (fun i x y hx hy=>by
   obtain⟨z,hz,rfl⟩:=pJ hx;exact i1 i z y hz hy) fun i x y hx hy=>by
   obtain⟨z,hz,rfl⟩:=pJ hx;exact i2 i z y hz hy
 | gE c h=>exact .gE c h
 | fv=>exact .fv
 | iface h ih=>exact .iface ih
 | cY=>exact .cY
 | agg h g ih=>
  exact .agg (by rw[nP];exact h) fun i x y hx hy=>by
   obtain⟨z,hz,rfl⟩:=pJ hx;exact ih i z y hz hy
 | aq h g ih=>
  exact .aq (by rw[nP];exact h) fun i x y hx hy=>by
   obtain⟨z,hz,rfl⟩:=pJ hx;exact ih i z y hz hy
theorem V.cd (hv:V ρ w a v):V ρ w (cd a) v:=by
 induction hv with
 | cR v=>exact .cR v
 | bool b=>exact .bool b
 | int k n=>exact .int k n
 | str s=>exact .str s
 | du=>exact .du
 | ptr o h=>exact .ptr o h
 | dO o c o' h=>exact .dO o c o' h
 | vp c o g hf hc hg ih=>
  exact .vp c o g (fun h=>hf fun e=>h (by rw[e];rfl)) (fun i hi=>hc i (by rwa [nO]at hi)) fun i x hx=>by
   obtain⟨y,hy,rfl⟩:=pI hx;exact ih i y hy
 | ae=>exact .dT (fun n hn=>by cases hn)
 | sl h hl hcap hb=>exact .sl h hl hcap hb
 | fk h=>exact .fk h
 | dX c o' h hl hcap=>exact .dX c o' h hl hcap
 | fe h=>exact .fe h
 | fl a h=>exact .fl a h
 | vs c o g hf hl hcap hc hg ih=>
  exact .vs c o g (fun h=>hf fun e=>h (by rw[e];rfl)) hl (fun n hn=>by cases hn) (fun i hi=>hc i (by rwa [nO]at hi)) fun i x hx=>by
   obtain⟨y,hy,rfl⟩:=pI hx;exact ih i y hy
 | dT hcap=>exact .dT (fun n hn=>by cases hn)
 | fm a hcap=>exact .fm a (fun n hn=>by cases hn)
 | dU=>exact .dU
 | map h=>exact .map h
 | gW c h=>exact .gW c h
 | yield h=>exact .yield h
 | fn hf h1 h2 g1 g2 i1 i2=>
  exact .fn hf (by rw[nO];exact h1) (by rw[nO];exact h2) (fun i x y hx hy=>by
   obtain⟨z,hz,rfl⟩:=pI hx;exact i1 i z y hz hy) fun i x y hx hy=>by
   obtain⟨z,hz,rfl⟩:=pI hx;exact i2 i z y hz hy
 | gE c h=>exact .gE c h
 | fv=>exact .fv
 | iface h ih=>exact .iface ih
 | cY=>exact .cY
 | agg h g ih=>
  exact .agg (by rw[nO];exact h) fun i x y hx hy=>by
   obtain⟨z,hz,rfl⟩:=pI hx;exact ih i z y hz hy
 | aq h g ih=>
  exact .aq (by rw[nO];exact h) fun i x y hx hy=>by
   obtain⟨z,hz,rfl⟩:=pI hx;exact ih i z y hz hy
end
theorem Ho {f:Nat}{h':ab}{v v':AV}{wr:List Nat}(hv:∀ρ w x,V ρ w v x->V ρ w v' x)(he:bQ P gl ⟨f,as,h,⟨v,h',wr⟩⟩):bQ P gl ⟨f,as,h,⟨v',h',wr⟩⟩:=by
 refine⟨he.1,fun ρ w as' m ha=>?_⟩;obtain⟨nx,w1,g1,g2⟩:=he.2 ρ w as' m ha;refine⟨nx,w1,g1,g2.mono fun x w' hd=>?_⟩;obtain⟨ρ',h1,h2,h3⟩:=hd;exact⟨ρ',hv _ _ _ h1,h2,h3⟩
def Hp (P:Program)(FT:FuncId->Option dc)(T:List (Nat×Spec))(g:Nat)(as0:List AV)(v0:AV):Prop:=∃v hh v1,aT (aX P FT T) g as0 [] ⟨v,hh,[]⟩/\hJ hh v v1/\v1.top=0/\cd v1=v0
def Sg (P:Program)(FT:FuncId->Option dc)(T:List (Nat×Spec))(g:Nat)(as:List AV)(h:ab)(r:HR):Prop:=∃as0 v0,fM h as as0/\Hp P FT T g as0 v0/\r=⟨v0,h,[]⟩
noncomputable def rE (P:Program)(FT:FuncId->Option dc)(T:List (Nat×Spec))(g:Nat):Spec:=nL (Sg P FT T g)
theorem Sh (hs:jF P gl FT){T:List (Nat×Spec)}(hT:cA P gl (bm T)){g:Nat}:aS P gl g (rE P FT T g):=AO fun as h r ⟨as0,v0,hf,⟨v,hh,v1,hr,hn,ht,hc⟩,e⟩=>by
 subst e;subst hc;exact Ho (fun _ _ _ h=>h.cd) (Sc hs hT hr hf.fr hn ht)
theorem lh {T:List (Nat×Spec)}{g:Nat}{as0:List AV}{v0:AV}(hf:fM h as as0)(hr:Hp P FT T g as0 v0):rE P FT T g as h=some ⟨v0,h,[]⟩:=
 AP ⟨as0,v0,hf,hr,rfl⟩ fun r' ⟨as0',v0',hf',hr',e⟩=>by
  cases hf.uniq hf';obtain⟨v,hh,v1,r1,⟨B,f1,_⟩,t1,c1⟩:=hr;obtain⟨v',hh',v1',r2,⟨B',f2,_⟩,t2,c2⟩:=hr';cases r1.AQ r2;rw[e,←c1,←c2,f1.can t1 f2 t2]
def AU (P:Program)(FT:FuncId->Option dc)(T:List (Nat×Spec))(g:Nat)(as:List AV)(v0:AV):Prop:=∃v hh v1,aT (aX P FT T) g as [] ⟨v,hh,[]⟩/\eM hh v v1/\bk as=0/\v1.top=0/\bK v1=v0
def Si (P:Program)(FT:FuncId->Option dc)(T:List (Nat×Spec))(g:Nat)(as:List AV)(h:ab)(r:HR):Prop:=∃v0,AU P FT T g as v0/\r=⟨v0,h,[]⟩
noncomputable def pK (P:Program)(FT:FuncId->Option dc)(T:List (Nat×Spec))(g:Nat):Spec:=nL (Si P FT T g)
theorem Sj (hs:jF P gl FT){T:List (Nat×Spec)}(hT:cA P gl (bm T)){g:Nat}:aS P gl g (pK P FT T g):=AO fun as h r ⟨v0,⟨v,hh,v1,hr,hf,ha,ht,hc⟩,e⟩=>by
 subst e;subst hc;exact Ho (fun _ _ _ h=>h.bK) (RY hs hT hr ha hf.fr ht)
theorem rF {T:List (Nat×Spec)}{g:Nat}{v0:AV}(hr:AU P FT T g as v0):pK P FT T g as h=some ⟨v0,h,[]⟩:=
 AP ⟨v0,hr,rfl⟩ fun r' ⟨v0',hr',e⟩=>by
  obtain⟨v,hh,v1,r1,f1,_,t1,c1⟩:=hr;obtain⟨v',hh',v1',r2,f2,_,t2,c2⟩:=hr';cases r1.AQ r2;rw[e,←c1,←c2,f1.can t1 f2 t2]
end Go.Ab

/-
  Own work: contracts by direct runs that leave the heap as it is; contracts by cases of the arguments.
-/
namespace Go.Ab
variable {FT:FuncId->Option dc} {T:List (Nat×Spec)} {g:Nat} {as:List AV} {h:ab} {v:AV} {c:List AV->Prop} {s1 s2:Spec}
variable {M:ax} {P:Program} {gl:Nat->Option AV}
def Sk (P:Program)(FT:FuncId->Option dc)(T:List (Nat×Spec))(g:Nat)(as:List AV)(h:ab)(r:HR):Prop:=aT (aX P FT T) g as h r/\r.h=h/\r.wr=[]
noncomputable def AW (P:Program)(FT:FuncId->Option dc)(T:List (Nat×Spec))(g:Nat):Spec:=nL (Sk P FT T g)
theorem Sm (hs:jF P gl FT){T:List (Nat×Spec)}(hT:cA P gl (bm T)){g:Nat}:aS P gl g (AW P FT T g):=AO fun as h r ⟨hr,hh,hw⟩=>
 pA hs hT hr ⟨by rw[hh];exact Nat.le_refl _,fun b _ _=>by rw[hh]⟩
theorem Sn (hr:aT (aX P FT T) g as h ⟨v,h,[]⟩):AW P FT T g as h=some ⟨v,h,[]⟩:=
 AP ⟨hr,rfl,rfl⟩ fun r' ⟨hr',_,_⟩=>hr'.AQ hr
noncomputable def rG (c:List AV->Prop)(s1 s2:Spec):Spec:=fun as h=>open Classical in if c as then s1 as h else s2 as h
theorem So (h1:aS P gl g s1)(h2:aS P gl g s2):aS P gl g (rG c s1 s2):=by
 intro as h r hq;unfold rG at hq;split at hq
 . exact h1 as h r hq
 . exact h2 as h r hq
theorem Sp (hc:c as):rG c s1 s2 as h=s1 as h:=if_pos hc
theorem Sq (hc:¬c as):rG c s1 s2 as h=s2 as h:=if_neg hc
theorem hJ.two {hh:ab}{x y x1 y1:AV}(hx:hJ hh x x1)(hy:hJ hh y y1):hJ hh (.aq [x,y]) (.aq [x1,y1]):=by
 obtain⟨B1,f1,n1,g1⟩:=hx;obtain⟨B2,f2,n2,g2⟩:=hy;refine⟨B1++B2,.aq rfl (fun i a b ha hb=>?_),by simp[dj,eL,n1,n2],fun b l e hb hl=>?_⟩
 . match i with
   | 0=>cases ha;cases hb;exact f1.mono fun _ h=>List.mem_append.2 (.inl h)
   | 1=>cases ha;cases hb;exact f2.mono fun _ h=>List.mem_append.2 (.inr h)
   | i+2=>cases ha
 . rcases List.mem_append.1 hb with h|h
   . exact g1 b l e h hl
   . exact g2 b l e h hl
theorem bP (hr:aT (aX P FT T) g as [] ⟨v,[],[]⟩)(ha:bk as=0)(ht:v.top=0)(hc:bK v=v)(h:ab):pK P FT T g as h=some ⟨v,h,[]⟩:=
 rF ⟨v,[],v,hr,.same ht,ha,ht,hc⟩
theorem pL {as0:List AV}(hr:aT (aX P FT T) g as0 [] ⟨v,[],[]⟩)(ht:v.top=0)(hn:dj v=true)(hc:cd v=v){h:ab}(hf:fM h as as0):rE P FT T g as h=some ⟨v,h,[]⟩:=
 lh hf ⟨v,[],v,hr,.same ht hn,ht,hc⟩
end Go.Ab

/-
  Own work: unsigned words of 64 binary digits in the calculus of runs: sums, products, shifts, masks.
-/
namespace Go.Ab
variable {n:Nat}
variable {M:ax} {t:Nat} {x y:aL} {l:List aU} {pe:List AV} {lo:List (Nat×AV)} {hp:ab} {df wr:List Nat} {k:IntKind} {a b:Int} {Q:ao->Prop}
theorem nS (a:Int):IntKind.u64.wrap a=a%18446744073709551616:=by
 simp only[IntKind.wrap,IntKind.bits,IntKind.signed];simp
theorem pM {a:Int}(h:0<=a/\a<18446744073709551616):IntKind.u64.wrap a=a:=by rw[nS];omega
theorem agq (hx:(St.mk pe lo hp df).aa x=some (.int .u64 a))(hy:(St.mk pe lo hp df).aa y=some (.int .u64 b))
 (h:WO M l ⟨⟨pe,(t,.int .u64 ((a+b)%18446744073709551616))::lo,hp,df⟩,wr⟩ Q):WO M (⟨.l t,.bin .add x y,none⟩::l) ⟨⟨pe,lo,hp,df⟩,wr⟩ Q:=
 aab (v:=.int .u64 ((a+b)%18446744073709551616)) (by simp[aW,hx,hy,cN,nS]) rfl h
theorem afN (hx:(St.mk pe lo hp df).aa x=some (.int .u64 a))(hy:(St.mk pe lo hp df).aa y=some (.int .u64 b))(hr:0<=a+b/\a+b<18446744073709551616)
 (h:WO M l ⟨⟨pe,(t,.int .u64 (a+b))::lo,hp,df⟩,wr⟩ Q):WO M (⟨.l t,.bin .add x y,none⟩::l) ⟨⟨pe,lo,hp,df⟩,wr⟩ Q:=
 aab (v:=.int .u64 (a+b)) (by simp[aW,hx,hy,cN,pM hr]) rfl h
theorem agO (hx:(St.mk pe lo hp df).aa x=some (.int .u64 a))(hy:(St.mk pe lo hp df).aa y=some (.int .u64 b))
 (h:WO M l ⟨⟨pe,(t,.int .u64 ((a-b)%18446744073709551616))::lo,hp,df⟩,wr⟩ Q):WO M (⟨.l t,.bin .sub x y,none⟩::l) ⟨⟨pe,lo,hp,df⟩,wr⟩ Q:=
 aab (v:=.int .u64 ((a-b)%18446744073709551616)) (by simp[aW,hx,hy,cN,nS]) rfl h
theorem afK (hx:(St.mk pe lo hp df).aa x=some (.int .u64 a))(hy:(St.mk pe lo hp df).aa y=some (.int .u64 b))(hr:0<=a-b/\a-b<18446744073709551616)
 (h:WO M l ⟨⟨pe,(t,.int .u64 (a-b))::lo,hp,df⟩,wr⟩ Q):WO M (⟨.l t,.bin .sub x y,none⟩::l) ⟨⟨pe,lo,hp,df⟩,wr⟩ Q:=
 aab (v:=.int .u64 (a-b)) (by simp[aW,hx,hy,cN,pM hr]) rfl h
theorem agu (hx:(St.mk pe lo hp df).aa x=some (.int .u64 a))(hy:(St.mk pe lo hp df).aa y=some (.int .u64 b))
 (h:WO M l ⟨⟨pe,(t,.int .u64 ((a*b)%18446744073709551616))::lo,hp,df⟩,wr⟩ Q):WO M (⟨.l t,.bin .mul x y,none⟩::l) ⟨⟨pe,lo,hp,df⟩,wr⟩ Q:=
 aab (v:=.int .u64 ((a*b)%18446744073709551616)) (by simp[aW,hx,hy,cN,nS]) rfl h
theorem afG (hx:(St.mk pe lo hp df).aa x=some (.int .u64 a))(hy:(St.mk pe lo hp df).aa y=some (.int .u64 b))(hr:0<=a*b/\a*b<18446744073709551616)
 (h:WO M l ⟨⟨pe,(t,.int .u64 (a*b))::lo,hp,df⟩,wr⟩ Q):WO M (⟨.l t,.bin .mul x y,none⟩::l) ⟨⟨pe,lo,hp,df⟩,wr⟩ Q:=
 aab (v:=.int .u64 (a*b)) (by simp[aW,hx,hy,cN,pM hr]) rfl h
theorem agc (hx:(St.mk pe lo hp df).aa x=some (.int .u64 a))(hy:(St.mk pe lo hp df).aa y=some (.int .u64 b))(ha:0<=a/\a<18446744073709551616)(hb:0<b)
 (h:WO M l ⟨⟨pe,(t,.int .u64 (a/b))::lo,hp,df⟩,wr⟩ Q):WO M (⟨.l t,.bin .quo x y,none⟩::l) ⟨⟨pe,lo,hp,df⟩,wr⟩ Q:=by
 refine aab (v:=.int .u64 (a/b)) ?_ rfl h;have h1:0<=a/b:=Int.ediv_nonneg ha.1 (Int.le_of_lt hb);have h2:a/b<=a:=Int.ediv_le_self _ ha.1;have h3:¬b=0:=by omega
 simp only[aW,hx,hy,cN,if_true,if_neg h3];rw[Int.tdiv_eq_ediv_of_nonneg ha.1,pM ⟨h1,by omega⟩]
theorem agE (hx:(St.mk pe lo hp df).aa x=some (.int .u64 a))(hy:(St.mk pe lo hp df).aa y=some (.int .u64 b))(ha:0<=a)(hb:0<b)
 (h:WO M l ⟨⟨pe,(t,.int .u64 (a%b))::lo,hp,df⟩,wr⟩ Q):WO M (⟨.l t,.bin .rem x y,none⟩::l) ⟨⟨pe,lo,hp,df⟩,wr⟩ Q:=by
 refine aab (v:=.int .u64 (a%b)) ?_ rfl h;have h3:¬b=0:=by omega
 simp only[aW,hx,hy,cN,if_true,if_neg h3];rw[Int.tmod_eq_emod_of_nonneg ha]
theorem afS (hx:(St.mk pe lo hp df).aa x=some (.int .u64 a))(hy:(St.mk pe lo hp df).aa y=some (.int k b))(hb:b=n)(hn:n<=64)
 (h:WO M l ⟨⟨pe,(t,.int .u64 (a/2^n))::lo,hp,df⟩,wr⟩ Q):WO M (⟨.l t,.bin .shr x y,none⟩::l) ⟨⟨pe,lo,hp,df⟩,wr⟩ Q:=by
 refine aab (v:=.int .u64 (a/2^n)) ?_ rfl h;subst hb;have h3:¬((n:Int)<0):=by omega
 have h4:min ((n:Int).toNat) IntKind.u64.bits=n:=by
  show min ((n:Int).toNat) 64=n;omega
 simp only[aW,hx,hy,cN,if_neg h3,h4];rw[Int.fdiv_eq_ediv_of_nonneg _ (Int.le_of_lt (Int.pow_pos (by decide)))]
theorem agk (hx:(St.mk pe lo hp df).aa x=some (.int .u64 a))(hy:(St.mk pe lo hp df).aa y=some (.int k b))(hb:b=n)(hn:n<=64)
 (h:WO M l ⟨⟨pe,(t,.int .u64 ((a*2^n)%18446744073709551616))::lo,hp,df⟩,wr⟩ Q):WO M (⟨.l t,.bin .shl x y,none⟩::l) ⟨⟨pe,lo,hp,df⟩,wr⟩ Q:=by
 refine aab (v:=.int .u64 ((a*2^n)%18446744073709551616)) ?_ rfl h;subst hb;have h3:¬((n:Int)<0):=by omega
 have h4:min ((n:Int).toNat) IntKind.u64.bits=n:=by
  show min ((n:Int).toNat) 64=n;omega
 simp only[aW,hx,hy,cN,if_neg h3,h4,nS]
theorem agf {c:Int}(hx:(St.mk pe lo hp df).aa x=some (.int .u64 a))(hy:(St.mk pe lo hp df).aa y=some (.int k b))(hb:b=n)(hn:n<=64)(hc:(2:Int)^n=c)
 (h:WO M l ⟨⟨pe,(t,.int .u64 (a/c))::lo,hp,df⟩,wr⟩ Q):WO M (⟨.l t,.bin .shr x y,none⟩::l) ⟨⟨pe,lo,hp,df⟩,wr⟩ Q:=by
 subst hc;exact afS hx hy hb hn h
theorem pN:BitVec.ofInt 64 (n:Int)=BitVec.ofNat 64 n:=by
 apply BitVec.eq_of_toNat_eq;simp[BitVec.toNat_ofInt]
theorem ahk (hx:(St.mk pe lo hp df).aa x=some (.int .u64 a))(hy:(St.mk pe lo hp df).aa y=some (.int .u64 4294967295))(ha:0<=a/\a<18446744073709551616)
 (h:WO M l ⟨⟨pe,(t,.int .u64 (a%4294967296))::lo,hp,df⟩,wr⟩ Q):WO M (⟨.l t,.bin .and x y,none⟩::l) ⟨⟨pe,lo,hp,df⟩,wr⟩ Q:=by
 refine aab (v:=.int .u64 (a%4294967296)) ?_ rfl h;obtain⟨n,rfl⟩:=Int.eq_ofNat_of_zero_le ha.1;have e:(BitVec.ofInt 64 (n:Int) &&& BitVec.ofInt 64 4294967295).toNat=n%4294967296:=by
  rw[pN,show (4294967295:Int)=((4294967295:Nat):Int) from rfl,pN,BitVec.toNat_and,BitVec.toNat_ofNat,BitVec.toNat_ofNat,Nat.mod_eq_of_lt (show n<2^64 by omega),Nat.mod_eq_of_lt (show 4294967295<2^64 by decide)];exact Nat.and_two_pow_sub_one_eq_mod n 32
 simp only[aW,hx,hy,cN,if_true];show some (AV.int .u64 (IntKind.u64.wrap ((BitVec.ofInt 64 (n:Int) &&& BitVec.ofInt 64 4294967295).toNat:Int)))=_;rw[e,pM (by omega)];rfl
theorem agM (m:Nat)(hx:(St.mk pe lo hp df).aa x=some (.int .u64 a))(hy:(St.mk pe lo hp df).aa y=some (.int .u64 b))(ha:0<=a/\a<18446744073709551616)(hb:0<=b/\b<2^m)(hm:m<=64)(hd:a%2^m=0)
 (h:WO M l ⟨⟨pe,(t,.int .u64 (a+b))::lo,hp,df⟩,wr⟩ Q):WO M (⟨.l t,.bin .or x y,none⟩::l) ⟨⟨pe,lo,hp,df⟩,wr⟩ Q:=by
 refine aab (v:=.int .u64 (a+b)) ?_ rfl h;obtain⟨n,rfl⟩:=Int.eq_ofNat_of_zero_le ha.1;obtain⟨p,rfl⟩:=Int.eq_ofNat_of_zero_le hb.1;have hp2:p<2^m:=by have:=hb.2;exact_mod_cast this
 have h64:2^m<=2^64:=Nat.pow_le_pow_right (by decide) hm;have hd':n%2^m=0:=by exact_mod_cast hd
 obtain⟨q,hq⟩:∃q,n=2^m*q:=⟨n/2^m,by have:=Nat.div_add_mod n (2^m);omega⟩;have hsum:n+p<2^64:=by
  have h1:n<2^64:=by omega
  obtain⟨r,hr⟩:∃r,2^64=2^m*2^r:=⟨64-m,by rw[←Nat.pow_add];congr 1;omega⟩;rw[hq,hr]at h1;have h2:q<2^r:=Nat.lt_of_mul_lt_mul_left h1;have h3:2^m*(q+1)<=2^m*2^r:=Nat.mul_le_mul_left _ h2;rw[Nat.mul_add]at h3;omega
 have e:(BitVec.ofInt 64 (n:Int) ||| BitVec.ofInt 64 (p:Int)).toNat=n+p:=by
  rw[pN,pN,BitVec.toNat_or,BitVec.toNat_ofNat,BitVec.toNat_ofNat,Nat.mod_eq_of_lt (show n<2^64 by omega),Nat.mod_eq_of_lt (show p<2^64 by omega),hq];exact(Nat.two_pow_add_eq_or_of_lt hp2 q).symm
 simp only[aW,hx,hy,cN,if_true];show some (AV.int .u64 (IntKind.u64.wrap ((BitVec.ofInt 64 (n:Int) ||| BitVec.ofInt 64 (p:Int)).toNat:Int)))=_;rw[e,pM (by omega)];rfl
theorem agT (hx:(St.mk pe lo hp df).aa x=some (.int k a))(h:WO M l ⟨⟨pe,(t,.int .u64 (a%18446744073709551616))::lo,hp,df⟩,wr⟩ Q):WO M (⟨.l t,.dz .u64 x,none⟩::l) ⟨⟨pe,lo,hp,df⟩,wr⟩ Q:=
 aab (v:=.int .u64 (a%18446744073709551616)) (by simp only[aW,hx,Option.bind_some,lO,nS]) rfl h
theorem Sr {a:Int}:IntKind.u8.wrap a=a%256:=by
 simp only[IntKind.wrap,IntKind.bits,IntKind.signed];simp
theorem agP (hx:(St.mk pe lo hp df).aa x=some (.int k a))(h:WO M l ⟨⟨pe,(t,.int .u8 (a%256))::lo,hp,df⟩,wr⟩ Q):WO M (⟨.l t,.dz .u8 x,none⟩::l) ⟨⟨pe,lo,hp,df⟩,wr⟩ Q:=
 aab (v:=.int .u8 (a%256)) (by simp only[aW,hx,Option.bind_some,lO,Sr]) rfl h
end Go.Ab

/-
  Own work: a contract of the kit's shelf ('the call returns this, and nothing below has turned') as a contract of the abstract machine.
-/
namespace Go.Ab
open Go.RowKit
variable {P:Program} {gl:Nat->Option AV} {ρ:au} {h:ab} {w w':World}
end Go.Ab
