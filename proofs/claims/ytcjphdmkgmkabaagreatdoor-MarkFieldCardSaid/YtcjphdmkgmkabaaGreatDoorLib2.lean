/-
  Own work: functions known by their contracts: a table, how it grows.
-/
import Derived.Test.YtcjphdmkgmkabaaGreatDoorLib1
import Derived.Test.YtcjphdmkgmkabaaGreatDoorLib0
import Derived.OpenShut
import Derived.Laws.RangeString
import Derived.Lib.DecodeN
import Derived.Deep.Slices
import Derived.Deep.Strs
import Derived.Below
set_option maxHeartbeats 8000000
namespace Go.Ab
variable {FT:FuncId->Option cX} {h:ae} {S:List Nat}
variable {P:Program} {gl:Nat->Option AV}
abbrev Spec:=List AV->ae->Option HR
def bk:List (Nat×Spec)->FuncId->List AV->ae->Option HR
 | [],_,_,_=>none
 | (g,sp)::T,f,as,h=>if Nat.beq g f then sp as h else bk T f as h
def aW (P:Program)(gl:Nat->Option AV)(f:Nat)(sp:Spec):Prop:=∀as h r,sp as h=some r->bN P gl ⟨f,as,h,r⟩
theorem bR:cm P gl (bk []):=fun _ _ _ _ h=>by cases h
theorem aS {f:Nat}{sp:Spec}{T:List (Nat×Spec)}(h:aW P gl f sp)(hT:cm P gl (bk T)):cm P gl (bk ((f,sp)::T)):=by
 intro g all hp r hq
 simp only[bk]at hq
 split at hq
 . rename_i e
   have e':=Nat.eq_of_beq_eq_true e
   subst e'
   exact h _ _ _ hq
 . exact hT g all hp r hq
def lH (k:XK):Spec:=fun as h=>(k.run as).map fun v=>⟨v,h,[]⟩
theorem ug {f:Nat}{k:XK}(h:mQ P f k):aW P gl f (lH k):=by
 intro as hp r hq
 have:=yS (P:=P) (gl:=gl) (L:=[(f,k)]) (fun p hp=>by simp only[List.mem_singleton]at hp;subst hp;exact h) f as hp r
 simp only[mR,Nat.beq_refl,if_true]at this
 simp only[lH,Option.map_eq_some_iff]at hq
 obtain⟨v,hv,rfl⟩:=hq
 exact this (by simp only[hv])
def yV (as0:List AV)(v:AV):Spec:=fun as h=>if tS as as0 then some ⟨v,h,[]⟩ else none
theorem OA (hgl:∀g v,gl g=some v->v.top=0){f:Nat}{as0:List AV}{v:AV}(hv:v.top=0)(htop:br as0=0)(hloc:bN P gl ⟨f,as0,[],⟨v,[],[]⟩⟩):aW P gl f (yV as0 v):=by
 intro as h r hq
 simp only[yV]at hq
 split at hq
 . rename_i e
   have e':=Fg e
   subst e'
   cases hq
   have:=Fs (h:=h) (S:=[]) (ks:=[]) (bs:=[]) hgl (as:=as) ⟨rfl,fun i x y hx hy=>by rw[hx]at hy;cases hy;exact .same (by have:=fo (n:=0) (by omega) i x hx;omega)⟩ (by simp) (.same hv) rfl (by simp) (.inl rfl) hloc
   simpa using this
 . cases hq
structure jo (P:Program)(gl:Nat->Option AV)(FT:FuncId->Option cX):Prop where
 mix:P.follows .mixedOrders=true
 ft:lC P gl FT
 gl:∀g v,gl g=some v->v.top=0
abbrev bw (P:Program)(FT:FuncId->Option cX)(T:List (Nat×Spec)):aO:=⟨bk T,eZ P,FT⟩
theorem oK (hs:jo P gl FT){T:List (Nat×Spec)}(hT:cm P gl (bk T)){f:Nat}{as:List AV}{h:ae}{r:HR}(hr:aZ (bw P FT T) f as h r)(hw:fp h r):bN P gl ⟨f,as,h,r⟩:=by
 obtain⟨n,hn⟩:=hr
 refine⟨hw,fun ρ w as' m hv=>?_⟩
 obtain⟨h1,h2⟩:=tN (yQ hs.mix hT hs.ft n) hs.ft hn m hv
 refine⟨_,_,h1,?_⟩
 refine CallsIn.mono h2 fun e w' he=>?_
 cases e with
 | returned v=>exact he
 | panicked _=>exact he
 | outgrown=>exact he
theorem OB (hs:jo P gl FT){T:List (Nat×Spec)}(hT:cm P gl (bk T)){f:Nat}{as as0:List AV}{h:ae}{S ks:List Nat}{v v1:AV}{hh:ae}{bs:List bA}(hr:aZ (bw P FT T) f as0 [] ⟨v,hh,[]⟩)
 (hv:gw h S as as0) (hnd:ks.Nodup) (hv1:Rn ks h.length v v1) (hlen:ks.length=bs.length)
 (hbs:∀(i b:Nat) o1,ks[i]? = some b->bs[i]? = some o1->∃o,hh.at b=some o/\rk ks h.length o o1/\(S=[]\/ue o=true)) (hn:S=[]\/db v=true):bN P gl ⟨f,as,h,⟨v1,h++bs.map some,[]⟩⟩:=
 Fs hs.gl hv hnd hv1 hlen hbs hn (oK hs hT hr ⟨Nat.zero_le _,fun _ hb=>absurd hb (Nat.not_lt_zero _)⟩)
theorem Ft (hs:jo P gl FT){T:List (Nat×Spec)}(hT:cm P gl (bk T)){f:Nat}{as as0:List AV}{h hh:ae}{S:List Nat}{v:AV}(hr:aZ (bw P FT T) f as0 [] ⟨v,hh,[]⟩)
 (hv:gw h S as as0) (ht:v.top=0) (hn:S=[]\/db v=true):bN P gl ⟨f,as,h,⟨v,h,[]⟩⟩:=by
 have:=OB hs hT (ks:=[]) (bs:=[]) hr hv (by simp) (.same ht) rfl (by simp) hn
 simpa using this
theorem gw.nil:gw h S [] []:=⟨rfl,by simp⟩
theorem gw.cons {x y:AV}{l m:List AV}(h1:Fr h S x y)(h2:gw h S l m):gw h S (x::l) (y::m):=by
 refine⟨by simp[h2.1],fun i a b ha hb=>?_⟩
 cases i with
 | zero=>simp at ha hb;subst ha;subst hb;exact h1
 | succ i=>simp at ha hb;exact h2.2 i a b ha hb
theorem gw.same {l:List AV}(ht:br l=0):gw h S l l:=
 ⟨rfl,fun i x y hx hy=>by rw[hx]at hy;cases hy;exact .same (by have:=fo (n:=0) (by omega) i x hx;omega)⟩
theorem Fr.mono {S':List Nat}(hs:∀b∈S,b∈S'){x y:AV}(hf:Fr h S x y):Fr h S' x y:=by
 induction hf with
 | same ht=>exact .same ht
 | nil hc=>exact .nil hc
 | sl hb ha hc hl _ hcc ih=>exact .sl (hs _ hb) ha hc hl ih hcc
 | ptr hb ha hl _ ih=>exact .ptr (hs _ hb) ha hl ih
 | vs hl _ ih=>exact .vs hl ih
 | agg hl _ ih=>exact .agg hl ih
 | ao hl _ ih=>exact .ao hl ih
 | fn hf h1 h2 _ _ ih1 ih2=>exact .fn hf h1 h2 ih1 ih2
def arr {α:Type}(f:α->List AV)(l:List α):List AV:=l.flatMap f
def ints (l:List Int):List AV:=arr (fun x=>[.int .i64 x]) l
theorem OC {a b:List AV}:fg (a++b)=(fg a && fg b):=by
 induction a with
 | nil=>simp[fg]
 | cons x a ih=>simp only[List.cons_append,fg,ih,Bool.and_assoc]
theorem rl {α:Type}{f:α->List AV}(hf:∀a,fg (f a)=true):∀l:List α,fg (arr f l)=true
 | []=>rfl
 | a::l=>by
  have:=rl hf l
  simp only[arr,List.flatMap_cons,OC,hf]at this ⊢
  simpa using this
def Sl {α:Type}(f:α->List AV)(h:ae)(v:AV)(l:List α):Prop:=
 (v = .ah/\l=[])\/(∃cap,v = .vs (arr f l) l.length cap)\/(∃b off esz cap c e,v = .sl b off l.length esz cap/\h.at b=some (.cells c e)/\cut c off (l.length*esz)=some (arr f l))
theorem OD {a b:List AV}:br (a++b)=max (br a) (br b):=by
 induction a with
 | nil=>simp[br]
 | cons x a ih=>simp only[List.cons_append,br,ih];omega
theorem rm {α:Type}{f:α->List AV}(hf:∀a,br (f a)=0):∀l:List α,br (arr f l)=0
 | []=>rfl
 | a::l=>by
  have:=rm hf l
  simp only[arr,List.flatMap_cons,OD,hf]at this ⊢
  omega
theorem Sl.fr {α:Type}{f:α->List AV}(hf:∀a,br (f a)=0){h:ae}{v:AV}{l:List α}(hs:Sl f h v l):∃S cap,Fr h S v (.vs (arr f l) l.length cap):=by
 rcases hs with ⟨rfl,rfl⟩|⟨cap,rfl⟩|⟨b,off,esz,cap,c,e,rfl,h1,h2⟩
 . exact⟨[],none,.nil (by simp)⟩
 . exact⟨[],cap,.same (by simp only[AV.top];exact rm hf l)⟩
 . refine⟨[b],cap,.sl (List.mem_singleton.2 rfl) h1 h2 rfl fun i x y hx hy=>?_⟩
   rw[hx]at hy;cases hy
   exact .same (by have:=fo (n:=0) (Nat.le_of_eq (rm hf l)) i x hx;omega)
end Go.Ab

/-
  Own work: the calculus of runs: memory, drawn regions that only read, slots told true or false.
-/
namespace Go.Ab
variable {t i n b esz0 bytes:Nat} {l:List aU} {pe:List AV} {lo:List (Nat×AV)} {hp h' h:ae} {df wr w':List Nat} {v a:AV} {Q:aq->Prop} {op:bc} {ag:Bool} {x y:aN} {elem:TypeId} {o:Option bA}
variable {M:aO}
theorem WO.bn {c a b:aN}(hc:(St.mk pe lo hp df).aa c=some (.bool true))(ha:(St.mk pe lo hp df).aa a=some v)
 (h:WO M l ⟨⟨pe,(t,v)::lo,hp,df⟩,wr⟩ Q):WO M (⟨.l t,.pick c a b,none⟩::l) ⟨⟨pe,lo,hp,df⟩,wr⟩ Q:=
 WO.op (WP.pure (v:=v) rfl (by simp only[aV,hc,ha];cases (St.mk pe lo hp df).aa b <;> simp) h)
theorem WO.bx {c a b:aN}(hc:(St.mk pe lo hp df).aa c=some (.bool false))(hb:(St.mk pe lo hp df).aa b=some v)
 (h:WO M l ⟨⟨pe,(t,v)::lo,hp,df⟩,wr⟩ Q):WO M (⟨.l t,.pick c a b,none⟩::l) ⟨⟨pe,lo,hp,df⟩,wr⟩ Q:=
 WO.op (WP.pure (v:=v) rfl (by simp only[aV,hc,hb];cases (St.mk pe lo hp df).aa a <;> simp) h)
theorem WO.aT (hv:bH ⟨pe,lo,hp,df⟩ op hp=some ⟨v,h',w'⟩)(hh:op.bG=true)(hc:op.oW=true)
 (h:WO M l ⟨⟨pe,(t,v)::lo,h',df⟩,w'++wr⟩ Q):WO M (⟨.l t,op,none⟩::l) ⟨⟨pe,lo,hp,df⟩,wr⟩ Q:=WO.op (WP.heap hh hc hv h)
theorem WO.aX (hv:bH ⟨pe,lo,hp,df⟩ op hp=some ⟨v,h',w'⟩)(hh:op.bG=true)(hc:op.oW=true)
 (h:WO M l ⟨⟨pe.set i v,lo,h',df⟩,w'++wr⟩ Q):WO M (⟨.p i,op,none⟩::l) ⟨⟨pe,lo,hp,df⟩,wr⟩ Q:=WO.op (WP.heap hh hc hv h)
theorem WO.fA (hv:bH ⟨pe,lo,hp,df⟩ op hp=some ⟨v,h',w'⟩)(hh:op.bG=true)(hc:op.oW=true)
 (h:WO M l ⟨⟨pe,lo,h',df⟩,w'++wr⟩ Q):WO M (⟨.no,op,none⟩::l) ⟨⟨pe,lo,hp,df⟩,wr⟩ Q:=WO.op (WP.heap hh hc hv h)
theorem jM {α:Type}{f:α->List AV}(a:α)(l:List α):arr f (a::l)=f a++arr f l:=rfl
theorem OE {α:Type}{f:α->List AV}(l m:List α):arr f (l++m)=arr f l++arr f m:=by simp[arr]
section
variable {α:Type} {f:α->List AV} {esz:Nat}
theorem oZ (hf:∀a,(f a).length=esz):∀l:List α,(arr f l).length=l.length*esz
 | []=>by simp[arr]
 | a::l=>by rw[jM,List.length_append,hf,oZ hf l,List.length_cons,Nat.add_mul];omega
theorem yW (hf:∀a,(f a).length=esz):∀(l:List α) (i:Nat),(arr f l).drop (i*esz)=arr f (l.drop i)
 | [],i=>by simp[arr]
 | a::l,0=>by simp
 | a::l,i+1=>by
  rw[jM,List.drop_append,show (i+1)*esz=esz+i*esz from by rw[Nat.add_mul];omega,hf,Nat.add_sub_cancel_left,yW hf l i,List.drop_succ_cons,List.drop_eq_nil_of_le (by rw[hf];omega)]
  rfl
theorem Fu (hf:∀a,(f a).length=esz):∀(l:List α) (i:Nat),(arr f l).take (i*esz)=arr f (l.take i)
 | [],i=>by simp[arr]
 | a::l,0=>by simp[arr]
 | a::l,i+1=>by
  rw[jM,List.take_append,show (i+1)*esz=esz+i*esz from by rw[Nat.add_mul];omega,hf,Nat.add_sub_cancel_left,Fu hf l i,List.take_succ_cons,List.take_of_length_le (by rw[hf];omega)]
  rfl
theorem kp (hf:∀a,(f a).length=esz){l:List α}{i n:Nat}(h:i+n<=l.length):cut (arr f l) (i*esz) (n*esz)=some (arr f ((l.drop i).take n)):=by
 simp only[cut,yW hf,Fu hf,oZ hf]
 rw[if_pos (by rw[List.length_take,List.length_drop];congr 1;omega)]
theorem OF [ia:Inhabited α](hf:∀a,(f a).length=esz){l:List α}{i:Nat}(h:i<l.length):∃r,(arr f l).drop (i*esz)=f l[i]! ++ r:=by
 refine⟨arr f (l.drop (i+1)),?_⟩
 rw[yW hf,List.drop_eq_getElem_cons h,jM,getElem!_pos l i h]
theorem OG {a r:List AV}{j:Nat}(h:j+n<=a.length)(hn:ag=true\/0<n):partOf (a++r) j n ag=partOf a j n ag:=by
 cases ag with
 | true => 
   simp only[partOf,if_true,cut]
   rw[List.drop_append,List.take_append_of_le_length (by simp;omega)]
 | false=>
  simp only[partOf,Bool.false_eq_true,if_false]
  have:0<n:=by simpa using hn
  rw[List.getElem?_append_left (by omega)]
theorem Fv {a:List AV}{j:Nat}:partOf (a.drop j) 0 n ag=partOf a j n ag:=by
 cases ag <;> simp[partOf,cut]
theorem Fw [ia:Inhabited α](hf:∀a,(f a).length=esz){l:List α}{i j n:Nat}{ag:Bool}(h:i<l.length)(hj:j+n<=esz)(hn:0<n):partOf ((arr f l).drop (i*esz)) j n ag=partOf (f l[i]!) j n ag:=by
 obtain⟨r,hr⟩:=OF hf h
 rw[hr,OG (by rw[hf];exact hj) (.inr hn)]
theorem Fx (a:α):∀n:Nat,fP (f a) n=arr f (List.replicate n a)
 | 0=>rfl
 | n+1=>by rw[fP,Fx a n,List.replicate_succ,jM]
end
variable {α:Type} {ia:Inhabited α} {f:α->List AV} {esz:Nat}
theorem WO.dV {c:List α}(hx:(St.mk pe lo hp df).aa x=some (.vp ((arr f c).drop (i*esz))))
 (hf:∀a,(f a).length=esz) (hi:i<c.length) (hn:0<n/\0+n<=esz) (hv:partOf (f c[i]!) 0 n ag=some v) (h:WO M l ⟨⟨pe,(t,v)::lo,hp,df⟩,wr⟩ Q):WO M (⟨.l t,.load n ag x,none⟩::l) ⟨⟨pe,lo,hp,df⟩,wr⟩ Q:=
 WO.aT (v:=v) (h':=hp) (w':=[]) (by simp only[bH,hx,Option.bind_some,fj,Fw hf hi hn.2 hn.1,hv]) rfl rfl h
theorem WO.OH {c:List α}{e:TypeId}(hx:(St.mk pe lo hp df).aa x=some (.ptr b (0+i*esz)))(hb:hp.at b=some (.cells (arr f c) e))
 (hf:∀a,(f a).length=esz) (hi:i<c.length) (hn:0<n/\0+n<=esz) (hv:partOf (f c[i]!) 0 n ag=some v) (h:WO M l ⟨⟨pe,(t,v)::lo,hp,df⟩,wr⟩ Q):WO M (⟨.l t,.load n ag x,none⟩::l) ⟨⟨pe,lo,hp,df⟩,wr⟩ Q:=
 WO.aT (v:=v) (h':=hp) (w':=[]) (by simp only[bH,hx,Option.bind_some,fj,hb,Nat.zero_add,Fw hf hi hn.2 hn.1,hv]) rfl rfl h
theorem WO.pa {c:List AV}(hx:(St.mk pe lo hp df).aa x=some a)(hb:fj hp a=some c)(hv:partOf c 0 n ag=some v)
 (h:WO M l ⟨⟨pe,(t,v)::lo,hp,df⟩,wr⟩ Q):WO M (⟨.l t,.load n ag x,none⟩::l) ⟨⟨pe,lo,hp,df⟩,wr⟩ Q:=
 WO.aT (v:=v) (h':=hp) (w':=[]) (by simp only[bH,hx,Option.bind_some,hb,hv]) rfl rfl h
theorem WO.OI {zero:List AV}{k k':IntKind}{a b:Int}(hx:(St.mk pe lo hp df).aa x=some (.int k a))(hy:(St.mk pe lo hp df).aa y=some (.int k' b))
 (hc:0<=a/\a<=b/\b.toNat*bytes<=dX/\b<=2^46/\zero.length=esz0) (h:WO M l ⟨⟨pe,(t,.sl hp.length 0 a.toNat esz0 (some b.toNat))::lo,hp++[some (.cells (fP zero b.toNat) elem)],df⟩,wr⟩ Q) :
 WO M (⟨.l t,.fY elem esz0 bytes zero x y,none⟩::l) ⟨⟨pe,lo,hp,df⟩,wr⟩ Q:=
 WO.aT (v:=.sl hp.length 0 a.toNat esz0 (some b.toNat)) (h':=hp++[some (.cells (fP zero b.toNat) elem)]) (w':=[]) (by simp only[bH,hx,hy,Option.bind_some,qy];rw[if_pos hc]) rfl rfl h
theorem fa {o:bA}(hb:h.at b=some o):b<h.length:=by
 unfold ae.at at hb
 cases hz:h[b]? with
 | none=>rw[hz]at hb;cases hb
 | some z=>exact(List.getElem?_eq_some_iff.1 hz).1
theorem cn {x:Option bA}:ae.at (h++[x]) h.length=x:=by simp[ae.at]
theorem cG {l:ae}{o:bA}(hb:h.at b=some o):ae.at (h++l) b=some o:=by
 have:=fa hb
 simp only[ae.at]at hb ⊢
 rw[List.getElem?_append_left this];exact hb
theorem cI (hb:b<h.length):ae.at (h.put b o) b=o:=by
 simp[ae.at,ae.put,hb]
theorem rn {a:Nat}{x:bA}(hn:a≠b)(ha:h.at a=some x):ae.at (h.put b o) a=some x:=by
 have:¬b=a:=fun e=>hn e.symm
 simp only[ae.at,ae.put,List.getElem?_set,if_neg this]at ha ⊢;exact ha
theorem fq:(h.put b o).length=h.length:=by simp[ae.put]
theorem WO.OJ {b:AV}{new:List AV}(hx:(St.mk pe lo hp df).aa x=some .ah)(hy:(St.mk pe lo hp df).aa y=some b)(hs:eL hp b=some (new,n))
 (hc:new.length=n*esz0/\0<bytes/\new.all cR=true) (hn:0<n/\n*bytes<=dX) (h:WO M l ⟨⟨pe,(t,.sl hp.length 0 n esz0 none)::lo,hp++[some (.cells new elem)],df⟩,wr⟩ Q):WO M (⟨.l t,.append elem esz0 bytes x y,none⟩::l) ⟨⟨pe,lo,hp,df⟩,wr⟩ Q:=by
 refine WO.aT (v:=.sl hp.length 0 n esz0 none) (h':=hp++[some (.cells new elem)]) (w':=[]) ?_ rfl rfl h
 simp only[bH,hx,hy,jh,hs,if_pos hc]
 rw[if_neg (by omega),if_pos hn.2]
theorem WO.OK {c off len:Nat}{b:AV}{new bS:List AV}(hx:(St.mk pe lo hp df).aa x=some (.sl c off len esz0 none))(hy:(St.mk pe lo hp df).aa y=some b)(hs:eL hp b=some (new,n))
 (hc:new.length=n*esz0/\0<bytes/\new.all cR=true) (hn:0<n/\(len+n)*bytes<=dX) (hb:hp.at c=some (.cells bS elem)) (ho:bS.length=off+len*esz0)
 (h:WO M l ⟨⟨pe,(t,.sl hp.length 0 (len+n) esz0 none)::lo,hp.put c none++[some (.cells (bS.drop off++new) elem)],df⟩,c::wr⟩ Q):WO M (⟨.l t,.append elem esz0 bytes x y,none⟩::l) ⟨⟨pe,lo,hp,df⟩,wr⟩ Q:=by
 refine WO.aT (v:=.sl hp.length 0 (len+n) esz0 none) (h':=hp.put c none++[some (.cells (bS.drop off++new) elem)]) (w':=[c]) ?_ rfl rfl h
 simp only[bH,hx,hy,jh,hs,if_pos hc,hb]
 rw[if_neg (by omega),if_pos ⟨trivial,hn.2⟩,if_pos ⟨ho,trivial⟩]
def bc.ro:bc->Bool
 | .load .. => true
 | op=>!op.bG
def bX.clean (d:bX):Prop:=d.wr=[]/\d.hi=d.lo
theorem yX {T:List Nat}:ae.at (di T h 0) b=if T.contains b then h.at b else none:=by
 unfold ae.at
 rw[mN]
 cases h[b]? <;> simp
theorem Fy {T:List Nat}:dY [] h (di T h 0) 0=h:=by
 apply List.ext_getElem?
 intro b
 rw[jm _ _ _ _ _ (by rw[fG];exact Nat.le_refl _)]
 split
 . simp
 . rename_i hb
   rw[List.getElem?_eq_none (by rw[fG];omega),List.getElem?_eq_none (by omega)]
def kq:Option AV->List Nat
 | some (.ptr b _)=>[b]
 | some (.sl b _ _ _ _)=>[b]
 | some (.map b)=>[b]
 | _=>[]
theorem Fz {s:St}:ji s (.load n ag x)=some (kq (s.aa x)):=by
 simp only[ji]
 cases s.aa x with
 | none=>rfl
 | some a=>cases a <;> rfl
theorem FA:fj (di (kq (some a)) h 0) a=fj h a:=by
 cases a <;> first|rfl|skip
 simp[fj,kq,yX]
theorem uh {call:dI}{inv:fy}{s:St}(ha:s.aa x=some a)(hp':ae):bO call inv { s with hp:=hp' } (.load n ag x)=(fj hp' a).bind fun l=>(partOf l 0 n ag).map fun v=>⟨v,hp',[]⟩:=by
 have hx':St.aa { s with hp:=hp' } x=some a:=by rw[←ha];cases x <;> rfl
 simp only[bO,bc.bG,if_true,bH,hx',Option.bind_some]
 cases fj hp' a with
 | none=>rfl
 | some l=>simp only[Option.bind_some];cases partOf l 0 n ag <;> rfl
theorem ui {call:dI}{inv:fy}:∀(l:List (aU×List Nat)) (s:aq) (ds:List bX),l.all (fun p=>p.1.op.ro)=true->(∀d∈ds,d.clean)->dJ call inv l s ds=eO call inv (l.map (·.1)) s
 | [],s,ds,_,_=>rfl
 | (o,un)::l,s,ds,hl,hd=>by
  simp only[List.all_cons,Bool.and_eq_true]at hl
  obtain⟨ho,hl⟩:=hl
  have hcl:∀t,(∀d∈ds++[(⟨t,[],s.s.hp.length,s.s.hp.length⟩:bX)],d.clean):=fun t d hm=>by
   rcases List.mem_append.1 hm with h1|h1
   . exact hd d h1
   . simp only[List.mem_singleton]at h1;subst h1;exact⟨rfl,rfl⟩
  simp only[dJ,List.map_cons,eO]
  split
  . by_cases hh:o.op.bG=true
    . have hop:∃n ag x,o.op = .load n ag x:=by
       cases hq:o.op <;> rw[hq]at ho hh <;> first|(cases hh;done)|(cases ho;done)|exact⟨_,_,_,rfl⟩
      obtain⟨n,ag,x,hop⟩:=hop
      have hU:un.flatMap (fun j=>(ds[j]?).elim [] bX.own)=[]:=by
       rw[List.flatMap_eq_nil_iff]
       intro j _
       cases hj:ds[j]? with
       | none=>rfl
       | some d=>
        obtain⟨c1,c2⟩:=hd d (List.mem_of_getElem? hj)
        simp[bX.own,c1,c2]
      simp only[hop,bc.bG,if_true,Fz,hU]
      have hdis:∀T,gD T []=true:=fun T=>by simp[gD]
      simp only[hdis,if_true]
      cases ha:s.s.aa x with
      | none=>
       have e1:∀hp',bO call inv { s.s with hp:=hp' } (.load n ag x)=none:=fun hp'=>by
        have hx':St.aa { s.s with hp:=hp' } x=none:=by rw[←ha];cases x <;> rfl
        simp only[bO,bc.bG,if_true,bH,hx',Option.bind_none]
       rw[e1,show bO call inv s.s (.load n ag x)=none from e1 s.s.hp]
      | some a=>
       have e2:=uh (call:=call) (inv:=inv) (n:=n) (ag:=ag) ha s.s.hp
       rw[uh ha,FA,show bO call inv s.s (.load n ag x)=_ from e2]
       cases fj s.s.hp a with
       | none=>rfl
       | some c=>
        simp only[Option.bind_some]
        cases partOf c 0 n ag with
        | none=>rfl
        | some v=>
         simp only[Option.map_some,List.all_nil,List.isEmpty_nil,Bool.true_or,Bool.and_true,if_true,Fy,List.nil_append]
         have:=ui (call:=call) (inv:=inv) l ⟨{ s.s.put o.dst v with hp:=s.s.hp },s.wr⟩ (ds++[⟨some (kq (some a)),[],s.s.hp.length,s.s.hp.length⟩]) hl (hcl _)
         rw[←this]
         simp[fG]
    . have hh':o.op.bG=false:=by simpa using hh
      rw[if_neg hh]
      have e2:bO call inv s.s o.op=(aV s.s o.op).map fun v=>⟨v,s.s.hp,[]⟩:=by
       cases hq:o.op <;> rw[hq]at hh' <;> first|(cases hh';done)|simp only[bO,bc.bG,Bool.false_eq_true,if_false]
      rw[e2]
      cases aV s.s o.op with
      | none=>rfl
      | some v=>
       simp only[Option.map_some,List.nil_append]
       have hput:({ s.s.put o.dst v with hp:=s.s.hp }:St)=s.s.put o.dst v:=by cases o.dst <;> rfl
       rw[hput]
       exact ui l _ _ hl (hcl _)
  . exact ui l _ _ hl (hcl _)
  . rfl
theorem W.fH {l:List (aU×List Nat)}{Q:Ex->aq->Prop}(hl:l.all (fun p=>p.1.op.ro)=true)(h:WO M (l.map (·.1)) ⟨⟨pe,[],hp,df⟩,wr⟩ (Q .normal)):W M (.draw l) ⟨⟨pe,lo,hp,df⟩,wr⟩ Q:=by
 obtain⟨⟨n,s',h1,h2⟩⟩:=h
 exact W.draw ⟨⟨n,s',by rw[ui l _ _ hl (by simp)];exact h1,h2⟩⟩
end Go.Ab

/-
  Own work: the calculus of runs: drawn regions, one operation at a time.
-/
namespace Go.Ab
variable {t n:Nat} {x y:aN} {l:List (aU×List Nat)} {pe:List AV} {lo:List (Nat×AV)} {hp:ae} {df wr un T:List Nat} {a b:Int} {Q:aq->Prop} {s:aq} {ds:List bX} {d:ew}
variable {M:aO}
theorem WO.OL {l:List aU}(hx:(St.mk pe lo hp df).aa x=some (.int .i64 a))(hy:(St.mk pe lo hp df).aa y=some (.int .i64 b))
 (ha:0<=a/\0<b) (hr:a<9223372036854775808) (h:0<=a/b->a/b<=a->WO M l ⟨⟨pe,(t,.int .i64 (a/b))::lo,hp,df⟩,wr⟩ Q):WO M (⟨.l t,.bin .quo x y,none⟩::l) ⟨⟨pe,lo,hp,df⟩,wr⟩ Q:=by
 refine WO.quo hx hy ha.2 ⟨by omega,hr⟩ ?_
 rw[Int.tdiv_eq_ediv_of_nonneg ha.1]
 exact h (Int.ediv_nonneg ha.1 (Int.le_of_lt ha.2)) (Int.ediv_le_self _ ha.1)
theorem WO.OM {l:List aU}{k:IntKind}(hx:(St.mk pe lo hp df).aa x=some (.int k a))(hy:(St.mk pe lo hp df).aa y=some (.int k b))
 (ha:0<=a/\0<b) (h:0<=a%b->a%b<b->WO M l ⟨⟨pe,(t,.int k (a%b))::lo,hp,df⟩,wr⟩ Q):WO M (⟨.l t,.bin .rem x y,none⟩::l) ⟨⟨pe,lo,hp,df⟩,wr⟩ Q:=by
 refine WO.rem hx hy (by omega) ?_
 rw[Int.tmod_eq_emod_of_nonneg ha.1]
 exact h (Int.emod_nonneg _ (by omega)) (Int.emod_lt_of_pos _ ha.2)
theorem WO.ay {f:aN}{args:List aN}{l:List aU}{h':ae}{wr':List Nat}{g:FuncId}{fi ca as:List AV}{v:AV}(hf:(St.mk pe lo hp df).aa f=some (.fn (.func g) fi ca))(ha:(St.mk pe lo hp df).ck args=some as)
 (he:M.ext g (fi++as++ca) hp=some ⟨v,h',wr'⟩) (h:WO M l ⟨⟨pe,(t,v)::lo,h',df⟩,wr'++wr⟩ Q):WO M (⟨.l t,.call f args,none⟩::l) ⟨⟨pe,lo,hp,df⟩,wr⟩ Q:=WO.Oz hf ha he h
theorem WO.jq {bytes:Nat}{elem:TypeId}{l:List aU}{k k':IntKind}{z:Int}{kz:IntKind}(hx:(St.mk pe lo hp df).aa x=some (.int k a))(hy:(St.mk pe lo hp df).aa y=some (.int k' b))
 (hc:0<=a/\a<=b/\b.toNat*bytes<=70368744177664/\b<=70368744177664) (h:WO M l ⟨⟨pe,(t,.sl hp.length 0 a.toNat 1 (some b.toNat))::lo,hp++[some (.cells (arr (fun x=>[.int kz x]) (List.replicate b.toNat z)) elem)],df⟩,wr⟩ Q) :
 WO M (⟨.l t,.fY elem 1 bytes [.int kz z] x y,none⟩::l) ⟨⟨pe,lo,hp,df⟩,wr⟩ Q:=by
 refine WO.OI hx hy ⟨hc.1,hc.2.1,by simp only[dX];omega,by omega,rfl⟩ ?_
 have e:=Fx (f:=fun x=>[AV.int kz x]) z b.toNat
 rw[show fP [AV.int kz z] b.toNat=_ from e]
 exact h
theorem WD.nil (h:Q s):WD M [] s ds Q:=⟨⟨0,s,rfl,h⟩⟩
def bX.key (d:bX):Option (List Nat)×List Nat:=(d.jE,d.own)
theorem ON {α:Type}{l:List α}{f g:α->Bool}(h:∀x,f x=g x):l.all f=l.all g:=by rw[show f=g from funext h]
theorem FB {call:dI}{inv:fy}:∀(l:List (aU×List Nat)) (s:aq) (ds ds':List bX),ds.map bX.key=ds'.map bX.key->dJ call inv l s ds=dJ call inv l s ds'
 | [],_,_,_,_=>rfl
 | (o,un)::l,s,ds,ds',hk=>by
  have h1:∀j:Nat,(ds[j]?).elim [] bX.own=(ds'[j]?).elim [] bX.own:=fun j=>by
   have:=congrArg (fun x:List (Option (List Nat)×List Nat)=>x[j]?) hk
   simp only[List.getElem?_map]at this
   cases h3:ds[j]? <;> cases h4:ds'[j]? <;> rw[h3,h4]at this <;> simp[bX.key]at this ⊢
   exact this.2
  have h2:∀j:Nat,(ds[j]?).map bX.jE=(ds'[j]?).map bX.jE:=fun j=>by
   have:=congrArg (fun x:List (Option (List Nat)×List Nat)=>x[j]?) hk
   simp only[List.getElem?_map]at this
   cases h3:ds[j]? <;> cases h4:ds'[j]? <;> rw[h3,h4]at this <;> simp[bX.key]at this ⊢
   exact this.1
  have h7:(fun j:Nat=>(ds[j]?).elim [] bX.own)=(fun j:Nat=>(ds'[j]?).elim [] bX.own):=funext h1
  have h8:∀d s,dJ call inv l s (ds++[d])=dJ call inv l s (ds'++[d]):=fun d s=>FB l s _ _ (by simp[hk])
  unfold dJ
  simp only[h7,h8]
  cases eM s.s o.guard with
  | none=>rfl
  | some t=>
   cases t with
   | false=>rfl
   | true=>
    refine ite_congr rfl (fun _=>ite_congr rfl (fun _=>?_) (fun _=>rfl)) (fun _=>rfl)
    split
    . refine ite_congr (congrArg (fun b=>b=true) (congrArg (fun b=>_ && b) (congrArg (fun b=>_ || b) (ON ?_)))) (fun _=>rfl) (fun _=>rfl)
      intro j
      have:=h2 j
      cases h3:ds[j]? <;> cases h4:ds'[j]? <;> rw[h3,h4]at this <;> simp at this ⊢
      rw[this]
    . rfl
theorem WD.norm {d d':bX}(hk:d.key=d'.key)(h:WD M l s (ds++[d]) Q):WD M l s (ds++[d']) Q:=by
 obtain⟨⟨n,s',h1,h2⟩⟩:=h
 exact⟨⟨n,s',by rw[FB l s (ds++[d']) (ds++[d]) (by simp[hk])];exact h1,h2⟩⟩
theorem WD.OO {o:aU}(hh:o.op.bG=false)(h:WO M [o] s fun s'=>WD M l s' (ds++[⟨some [],[],s.s.hp.length,s.s.hp.length⟩]) Q):WD M ((o,un)::l) s ds Q:=by
 obtain⟨⟨n,s1,h1,⟨⟨m,s',h2,h3⟩⟩⟩⟩:=h
 refine⟨⟨max n m,s',?_,h3⟩⟩
 have h1':=lG (inv:=M.inv) (iX (Nat.le_max_left n m)) _ _ _ h1
 have h2':=jK (inv:=M.inv) (iX (Nat.le_max_right n m)) _ _ _ _ h2
 simp only[eO]at h1'
 have e2:bO (M.call (max n m)) M.inv s.s o.op=(aV s.s o.op).map fun v=>⟨v,s.s.hp,[]⟩:=by
  cases hq:o.op <;> rw[hq]at hh <;> first|(cases hh;done)|simp only[bO,bc.bG,Bool.false_eq_true,if_false]
 rw[e2]at h1'
 cases hw:eM s.s o.guard with
 | none=>rw[hw]at h1';cases h1'
 | some t=>
  rw[hw]at h1'
  cases t with
  | true=>
   simp only[dJ,hw,hh,Bool.false_eq_true,if_false]
   cases hp:aV s.s o.op with
   | none=>rw[hp]at h1';cases h1'
   | some v=>
    rw[hp]at h1'
    simp only[Option.map_some,List.nil_append,Option.some.injEq]at h1'
    have hput:({ s.s.put o.dst v with hp:=s.s.hp }:St)=s.s.put o.dst v:=by cases o.dst <;> rfl
    rw[hput]at h1'
    subst h1'
    exact h2'
  | false=>
   simp only[Option.some.injEq]at h1'
   simp only[dJ,hw]
   subst h1'
   exact h2'
theorem FC {h:ae}{b:Nat}{o:Option bA}:dY [b] h (ae.put (di T h 0) b o) 0=ae.put h b o:=by
 apply List.ext_getElem?
 intro c
 rw[jm _ _ _ _ _ (by simp[ae.put,fG])]
 simp only[ae.put,List.getElem?_set,fG,mN]
 by_cases hc:c<h.length
 . rw[if_pos hc]
   by_cases e:b=c
   . subst e;simp[hc]
   . have:c≠b:=fun x=>e x.symm
     simp[e,this]
 . rw[if_neg hc,List.getElem?_eq_none (Nat.le_of_not_lt hc)]
   by_cases e:b=c
   . subst e;simp[hc]
   . simp[e]
theorem WD.OP {ag:Bool}{a:AV}(ha:s.s.aa x=some a)(hT:kq (some a)=T)(hd:gD T (un.flatMap fun j=>(ds[j]?).elim [] bX.own)=true)
 (h:WO M [⟨d,.load n ag x,none⟩] s fun s'=>WD M l s' (ds++[⟨some T,[],s.s.hp.length,s.s.hp.length⟩]) Q):WD M ((⟨d,.load n ag x,none⟩,un)::l) s ds Q:=by
 obtain⟨⟨k,s1,h1,⟨⟨m,s',h2,h3⟩⟩⟩⟩:=h
 refine⟨⟨max k m,s',?_,h3⟩⟩
 have h1':=lG (inv:=M.inv) (iX (Nat.le_max_left k m)) _ _ _ h1
 have h2':=jK (inv:=M.inv) (iX (Nat.le_max_right k m)) _ _ _ _ h2
 simp only[eO,eM]at h1'
 subst hT
 simp only[dJ,eM,bc.bG,if_true,Fz,ha,hd]
 rw[uh ha,FA]
 rw[show bO (M.call (max k m)) M.inv s.s (.load n ag x)=_ from uh ha s.s.hp]at h1'
 cases hr:fj s.s.hp a with
 | none=>rw[hr]at h1';cases h1'
 | some c=>
  rw[hr]at h1'
  simp only[Option.bind_some]at h1' ⊢
  cases hp:partOf c 0 n ag with
  | none=>rw[hp]at h1';cases h1'
  | some v=>
   rw[hp]at h1'
   simp only[Option.map_some,List.nil_append,Option.some.injEq]at h1'
   simp only[Option.map_some,List.all_nil,List.isEmpty_nil,Bool.true_or,Bool.and_true,if_true,Fy,List.nil_append,fG]
   subst h1'
   exact h2'
theorem WD.OQ {b off:Nat}(ha:s.s.aa x=some (.ptr b off))(hd:gD [b] (un.flatMap fun j=>(ds[j]?).elim [] bX.own)=true)
 (hu:un.all (fun j=>match ds[j]? with|some d=>(match d.jE with|some T=>gD [b] T|none=>false)|none=>false)=true)
 (h:WO M [⟨.no,.store n x y,none⟩] s fun s'=>WD M l s' (ds++[⟨some [b],[b],s.s.hp.length,s.s.hp.length⟩]) Q):WD M ((⟨.no,.store n x y,none⟩,un)::l) s ds Q:=by
 obtain⟨⟨k,s1,h1,⟨⟨m,s',h2,h3⟩⟩⟩⟩:=h
 refine⟨⟨max k m,s',?_,h3⟩⟩
 have h1':=lG (inv:=M.inv) (iX (Nat.le_max_left k m)) _ _ _ h1
 have h2':=jK (inv:=M.inv) (iX (Nat.le_max_right k m)) _ _ _ _ h2
 simp only[eO,eM,bO,bc.bG,if_true,bH,ha]at h1'
 have hx':∀hp',St.aa { s.s with hp:=hp' } x=some (.ptr b off):=fun hp'=>by rw[←ha];cases x <;> rfl
 have hy':∀hp',St.aa { s.s with hp:=hp' } y=s.s.aa y:=fun hp'=>by cases y <;> rfl
 have hk:ae.at (di [b] s.s.hp 0) b=s.s.hp.at b:=by simp[yX]
 simp only[dJ,eM,bc.bG,if_true,ji,ha,hd,bO,bH,hx',hy']
 cases hy:s.s.aa y with
 | none=>rw[hy]at h1';cases h1'
 | some yv=>
  rw[hy]at h1'
  simp only[Option.bind_some]at h1' ⊢
  cases hc:yv.cells with
  | none=>rw[hc]at h1';cases h1'
  | some new=>
   rw[hc]at h1'
   simp only at h1' ⊢
   cases hb:s.s.hp.at b with
   | none=>rw[hb]at h1';cases h1'
   | some o=>
    rw[hb]at h1'
    cases o with
    | cells c e=>
     simp only at h1' ⊢
     by_cases hcond:new.length=n/\off+n<=c.length/\new.all cR=true
     . simp only[if_pos hcond,Option.some.injEq]at h1'
       simp only[if_pos hcond,List.all_cons,List.all_nil,Bool.and_true,List.isEmpty_cons,Bool.false_or,hk,hb,Option.isSome_some,FC,fq,fG]
       subst h1'
       rw[if_pos (show _=true by rw[Bool.true_and];exact hu)]
       exact h2'
     . simp only[if_neg hcond]at h1'
       cases h1'
    | map _=>cases h1'
    | iter _ _=>cases h1'
    | fO=>cases h1'
    | hole=>cases h1'
    | loop _ _ _ _ _ _=>cases h1'
theorem WD.OR {f:aN}{args:List aN}{g:FuncId}{fi ca as:List AV}{v:AV}{hn:ae}(hf:s.s.aa f=some (.fn (.func g) fi ca))(ha:s.s.ck args=some as)
 (hU:(un.flatMap fun j=>(ds[j]?).elim [] bX.own)=[]) (he:M.ext g (fi++as++ca) s.s.hp=some ⟨v,s.s.hp++hn,[]⟩)
 (h:WD M l ⟨{ s.s.put d v with hp:=s.s.hp++hn },s.wr⟩ (ds++[⟨none,[],s.s.hp.length,s.s.hp.length+hn.length⟩]) Q):WD M ((⟨d,.call f args,none⟩,un)::l) s ds Q:=by
 obtain⟨⟨m,s',h2,h3⟩⟩:=h
 refine⟨⟨m,s',?_,h3⟩⟩
 have hm:mask s.s.hp []=s.s.hp:=rfl
 have hcall:bO (M.call m) M.inv { s.s with hp:=s.s.hp } (.call f args)=some ⟨v,s.s.hp++hn,[]⟩:=by
  simp only[bO,hf,ha,gE,he]
 have hmerge:dY [] s.s.hp (s.s.hp++hn) 0=s.s.hp++hn:=by
  apply List.ext_getElem?
  intro c
  rw[jm _ _ _ _ _ (by simp)]
  split
  . rename_i hc;simp[List.getElem?_append_left hc]
  . rfl
 simp only[dJ,eM,bc.bG,if_true,ji,hU,hm]
 rw[hcall]
 simp only[List.all_nil,List.isEmpty_nil,Bool.true_or,Bool.and_true,if_true,hmerge,List.nil_append,List.length_append]
 exact h2
theorem yY {t:Option (List Nat)}{w:List Nat}:bX.key ⟨t,w,n,n⟩=bX.key ⟨t,w,0,0⟩:=by simp[bX.key,bX.own]
theorem WD.dE {o:aU}(hh:o.op.bG=false)(h:WO M [o] s fun s'=>WD M l s' (ds++[⟨some [],[],0,0⟩]) Q):WD M ((o,un)::l) s ds Q:=
 WD.OO hh (h.mono fun _ h=>h.norm yY.symm)
theorem WD.dc {ag:Bool}{a:AV}(ha:s.s.aa x=some a)(hT:kq (some a)=T)(hd:gD T (un.flatMap fun j=>(ds[j]?).elim [] bX.own)=true)
 (h:WO M [⟨d,.load n ag x,none⟩] s fun s'=>WD M l s' (ds++[⟨some T,[],0,0⟩]) Q):WD M ((⟨d,.load n ag x,none⟩,un)::l) s ds Q:=
 WD.OP ha hT hd (h.mono fun _ h=>h.norm yY.symm)
theorem WD.eh {b off:Nat}(ha:s.s.aa x=some (.ptr b off))(hd:gD [b] (un.flatMap fun j=>(ds[j]?).elim [] bX.own)=true)
 (hu:un.all (fun j=>match ds[j]? with|some d=>(match d.jE with|some T=>gD [b] T|none=>false)|none=>false)=true)
 (h:WO M [⟨.no,.store n x y,none⟩] s fun s'=>WD M l s' (ds++[⟨some [b],[b],0,0⟩]) Q):WD M ((⟨.no,.store n x y,none⟩,un)::l) s ds Q:=
 WD.OQ ha hd hu (h.mono fun _ h=>h.norm yY.symm)
end Go.Ab

/-
  Own work: the calculus of runs: maps, new blocks in drawn regions, slices as arguments of contracts.
-/
namespace Go.Ab
variable {t:Nat} {op:bc} {pe:List AV} {lo:List (Nat×AV)} {hp:ae} {df wr un:List Nat} {Q:aq->Prop} {l:List (aU×List Nat)} {ds:List bX} {v:AV}
variable {M:aO}
theorem WO.sU {x:aN}{want:Bool}{l:List aU}(hx:(St.mk pe lo hp df).aa x=some (.ao []))(h:WO M l ⟨⟨pe,(t,cF)::lo,hp,df⟩,wr⟩ Q):WO M (⟨.l t,op,some (x,want)⟩::l) ⟨⟨pe,lo,hp,df⟩,wr⟩ Q:=WO.Oy hx h
theorem WO.neg {x:aN}{l:List aU}{a:Int}(hx:(St.mk pe lo hp df).aa x=some (.int .i64 a))
 (hr : -9223372036854775808<a/\a<=9223372036854775808) (h:WO M l ⟨⟨pe,(t,.int .i64 (-a))::lo,hp,df⟩,wr⟩ Q):WO M (⟨.l t,.un .neg x,none⟩::l) ⟨⟨pe,lo,hp,df⟩,wr⟩ Q:=
 WO.op (WP.pure (v:=.int .i64 (-a)) rfl (by
  have:IntKind.i64.wrap (0-a) = -a:=by rw[show 0-a = -a from by omega];exact mU (by omega)
  simp[aV,hx,qz]at this ⊢;exact this) h)
theorem WD.OS {d:ew}{f:aN}{args:List aN}{s:aq}{g:FuncId}{fi ca as:List AV}(hf:s.s.aa f=some (.fn (.func g) fi ca))(ha:s.s.ck args=some as)
 (hU:(un.flatMap fun j=>(ds[j]?).elim [] bX.own)=[]) (he:M.ext g (fi++as++ca) s.s.hp=some ⟨v,s.s.hp,[]⟩)
 (h:WD M l ⟨s.s.put d v,s.wr⟩ (ds++[⟨none,[],0,0⟩]) Q):WD M ((⟨d,.call f args,none⟩,un)::l) s ds Q:=by
 have hp:({ s.s.put d v with hp:=s.s.hp++[] }:St)=s.s.put d v:=by cases d <;> simp[St.put]
 refine WD.OR (hn:=[]) hf ha hU (by simpa using he) ?_
 rw[hp]
 exact h.norm (by simp[bX.key,bX.own])
theorem WD.dL {f:aN}{args:List aN}{g:FuncId}{fi ca as:List AV}(hf:(St.mk pe lo hp df).aa f=some (.fn (.func g) fi ca))(ha:(St.mk pe lo hp df).ck args=some as)
 (hU:(un.flatMap fun j=>(ds[j]?).elim [] bX.own)=[]) (he:M.ext g (fi++as++ca) hp=some ⟨v,hp,[]⟩)
 (h:WD M l ⟨⟨pe,(t,v)::lo,hp,df⟩,wr⟩ (ds++[⟨none,[],0,0⟩]) Q):WD M ((⟨.l t,.call f args,none⟩,un)::l) ⟨⟨pe,lo,hp,df⟩,wr⟩ ds Q:=WD.OS hf ha hU he h
def bc.FD:bc->Bool
 | .alloc .. | .box .. | .eu .. | .fY .. | .mC=>true
 | _=>false
theorem yZ {s:St}{hp':ae}(x:aN):St.aa { s with hp:=hp' } x=s.aa x:=by cases x <;> rfl
theorem FE {s:St}{hp':ae}:∀(ps:List (Nat×Nat×aN)),St.parts { s with hp:=hp' } ps=s.parts ps
 | []=>rfl
 | (o,n,x)::r=>by simp only[St.parts,yZ,FE r]
theorem OT {call:dI}{inv:fy}{s:St}(hn:op.FD=true){r:HR}(hq:bO call inv s op=some r):∃o,r.h=s.hp++[o]/\r.wr=[]/\∀hp':ae,hp'.length=s.hp.length->bO call inv { s with hp:=hp' } op=some ⟨r.v,hp'++[o],[]⟩:=by
 cases op <;> first|(cases hn;done)|skip
 case alloc e z=>
  simp only[bO,bc.bG,if_true,bH]at hq
  cases hq
  exact⟨_,rfl,rfl,fun hp' hl=>by simp only[bO,bc.bG,if_true,bH,hl]⟩
 case box e n x=>
  simp only[bO,bc.bG,if_true,bH]at hq
  split at hq
  . rename_i c hc
    split at hq
    . rename_i hlen
      cases hq
      exact⟨_,rfl,rfl,fun hp' hl=>by simp only[bO,bc.bG,if_true,bH,yZ,hc,hl,if_pos hlen]⟩
    . cases hq
  . cases hq
 case eu e len esz z ps=>
  simp only[bO,bc.bG,if_true,bH]at hq
  split at hq
  . rename_i vs hvs
    split at hq
    . rename_i c hc
      split at hq
      . rename_i hlen
        cases hq
        exact⟨_,rfl,rfl,fun hp' hl=>by simp only[bO,bc.bG,if_true,bH,FE,hvs,hc,hl,if_pos hlen]⟩
      . cases hq
    . cases hq
  . cases hq
 case mC=>
  simp only[bO,bc.bG,if_true,bH]at hq
  cases hq
  exact⟨_,rfl,rfl,fun hp' hl=>by simp only[bO,bc.bG,if_true,bH,hl]⟩
 case fY e esz by' z a b=>
  simp only[bO,bc.bG,if_true,bH]at hq
  split at hq
  . rename_i x y hx hy
    split at hq
    . rename_i hc
      cases hq
      exact⟨_,rfl,rfl,fun hp' hl=>by simp only[bO,bc.bG,if_true,bH,yZ,hx,hy,hl,if_pos hc]⟩
    . cases hq
  . cases hq
theorem WD.FF {d:ew}{s:aq}(hn:op.FD=true)(h:WO M [⟨d,op,none⟩] s fun s'=>WD M l s' (ds++[⟨some [],[],s.s.hp.length,s.s.hp.length+1⟩]) Q):WD M ((⟨d,op,none⟩,un)::l) s ds Q:=by
 obtain⟨⟨k,s1,h1,⟨⟨m,s',h2,h3⟩⟩⟩⟩:=h
 refine⟨⟨max k m,s',?_,h3⟩⟩
 have h1':=lG (inv:=M.inv) (iX (Nat.le_max_left k m)) _ _ _ h1
 have h2':=jK (inv:=M.inv) (iX (Nat.le_max_right k m)) _ _ _ _ h2
 simp only[eO,eM]at h1'
 have ht:ji s.s op=some []:=by cases op <;> first|(cases hn;done)|rfl
 have hh:op.bG=true:=by cases op <;> first|(cases hn;done)|rfl
 have hd:∀U,gD [] U=true:=fun U=>rfl
 cases hq:bO (M.call (max k m)) M.inv s.s op with
 | none=>rw[hq]at h1';cases h1'
 | some r=>
  rw[hq]at h1'
  obtain⟨o,e1,e2,e3⟩:=OT hn hq
  simp only[Option.some.injEq]at h1'
  simp only[dJ,eM,hh,if_true,ht,hd,e3 (di [] s.s.hp 0) (fG _ _ _)]
  have hm:dY [] s.s.hp (di [] s.s.hp 0++[o]) 0=s.s.hp++[o]:=by
   apply List.ext_getElem?
   intro c
   rw[jm _ _ _ _ _ (by simp[fG])]
   split
   . rename_i hc;rw[List.getElem?_append_left hc];simp
   . rename_i hc
     rw[List.getElem?_append_right (by rw[fG];omega),List.getElem?_append_right (by omega),fG]
  simp only[List.all_nil,List.isEmpty_nil,Bool.true_or,Bool.and_true,if_true,hm,List.nil_append,List.length_append,List.length_singleton,fG]
  rw[e1,e2]at h1'
  subst h1'
  exact h2'
def zh (h:ae):AV->Option (List AV×Nat)
 | .str _=>none
 | .sl b off n esz _=>match h.at b with
   | some (.cells l _)=>(cut l off (n*esz)).map (·,n)
   | _=>none
 | v=>eL h v
def uj:List AV->Option (List Int)
 | []=>some []
 | .int .i64 n::r=>match uj r with
   | some l=>some (n::l)
   | none=>none
 | _=>none
theorem FG:∀{c:List AV} {l:List Int},uj c=some l->c=ints l
 | [],l,h=>by cases h;rfl
 | v::r,l,h=>by
  unfold uj at h
  split at h
  . rename_i e;cases e
  . rename_i n r' e
    cases e
    split at h
    . rename_i l' hl
      cases h
      rw[FG hl];rfl
    . cases h
  . cases h
def jr (h:ae)(v:AV):Option (List Int):=match zh h v with
 | some (c,n)=>match uj c with
   | some l=>if l.length=n then some l else none
   | none=>none
 | none=>none
theorem OU {α:Type}{f:α->List AV}{h:ae}{l:List α}(hc:zh h v=some (arr f l,l.length)):Sl f h v l:=by
 cases v <;> simp only[zh,eL]at hc <;> try (cases hc;done)
 case ah=>
  simp only[Option.some.injEq,Prod.mk.injEq]at hc
  exact .inl ⟨rfl,List.eq_nil_of_length_eq_zero hc.2.symm⟩
 case sl b off len esz cap=>
  split at hc
  . rename_i c e hb
    simp only[Option.map_eq_some_iff,Prod.mk.injEq]at hc
    obtain⟨c',h1,h2,h3⟩:=hc
    subst h3;subst h2
    exact .inr (.inr ⟨b,off,esz,cap,c,e,rfl,hb,h1⟩)
  . cases hc
 case vs c len cap=>
  simp only[Option.some.injEq,Prod.mk.injEq]at hc
  obtain⟨rfl,rfl⟩:=hc
  exact .inr (.inl ⟨cap,rfl⟩)
theorem OV {h:ae}{l:List Int}(hi:jr h v=some l):Sl (fun x=>[.int .i64 x]) h v l:=by
 unfold jr at hi
 split at hi
 . rename_i c n hc
   split at hi
   . rename_i l' hl
     split at hi
     . rename_i hn
       cases hi
       subst hn
       rw[FG hl]at hc
       exact OU hc
     . cases hi
   . cases hi
 . cases hi
end Go.Ab

/-
  Own work: calls of functions by their code, on whatever heap; the end of such a run.
-/
namespace Go.Ab
variable {ars pe:List AV} {h hp:ae} {r:HR} {f:aN} {args:List aN} {l:List aU} {s:aq} {Q:aq->Prop} {g v:AV} {t b:Nat} {lo:List (Nat×AV)} {df wr:List Nat}
variable {M:aO}
def CT (M:aO)(g:AV)(ars:List AV)(h:ae)(r:HR):Prop:=∃n,M.call n g ars h=some r
theorem CT.run {f:FuncId}{fi ca:List AV}(he:M.ext f (fi++ars++ca) h=none)(hr:aZ M f (fi++ars++ca) h r):CT M (.fn (.func f) fi ca) ars h r:=by
 obtain⟨n,hn⟩:=hr
 exact⟨n,by simp only[gE,he];exact hn⟩
theorem WO.zj {d:ew}(hf:s.s.aa f=some g)(ha:s.s.ck args=some ars)(hc:CT M g ars s.s.hp r)
 (h:WO M l ⟨{ s.s.put d r.v with hp:=r.h },r.wr++s.wr⟩ Q):WO M (⟨d,.call f args,none⟩::l) s Q:=
 WO.op (WP.call hf ha (by obtain⟨n,hn⟩:=hc;exact⟨⟨n,r,hn,h⟩⟩))
theorem WO.ct {h':ae}{wr':List Nat}(hf:(St.mk pe lo hp df).aa f=some g)(ha:(St.mk pe lo hp df).ck args=some ars)
 (hc:CT M g ars hp ⟨v,h',wr'⟩) (h:WO M l ⟨⟨pe,(t,v)::lo,h',df⟩,wr'++wr⟩ Q):WO M (⟨.l t,.call f args,none⟩::l) ⟨⟨pe,lo,hp,df⟩,wr⟩ Q:=WO.zj hf ha hc h
theorem WD.zj {d:ew}{un:List Nat}{l:List (aU×List Nat)}{ds:List bX}(hf:s.s.aa f=some g)(ha:s.s.ck args=some ars)
 (hU:(un.flatMap fun j=>(ds[j]?).elim [] bX.own)=[]) (he:CT M g ars s.s.hp ⟨v,s.s.hp,[]⟩)
 (h:WD M l ⟨s.s.put d v,s.wr⟩ (ds++[⟨none,[],0,0⟩]) Q):WD M ((⟨d,.call f args,none⟩,un)::l) s ds Q:=by
 obtain⟨⟨m,s',h2,h3⟩⟩:=h.norm (d':=⟨none,[],s.s.hp.length,s.s.hp.length⟩) (by simp[bX.key,bX.own])
 obtain⟨n,hn⟩:=he
 refine⟨⟨max n m,s',?_,h3⟩⟩
 have h2':=jK (inv:=M.inv) (iX (Nat.le_max_right n m)) _ _ _ _ h2
 have hn':=iX (M:=M) (Nat.le_max_left n m) _ _ _ _ hn
 have hm:mask s.s.hp []=s.s.hp:=rfl
 have hcall:bO (M.call (max n m)) M.inv { s.s with hp:=s.s.hp } (.call f args)=some ⟨v,s.s.hp,[]⟩:=by
  simp only[bO,hf,ha];exact hn'
 have hmerge:dY [] s.s.hp s.s.hp 0=s.s.hp:=by
  apply List.ext_getElem?
  intro c
  rw[jm _ _ _ _ _ (Nat.le_refl _)]
  split
  . rfl
  . rfl
 simp only[dJ,eM,bc.bG,if_true,ji,hU,hm]
 rw[hcall]
 have hp:({ s.s.put d v with hp:=s.s.hp }:St)=s.s.put d v:=by cases d <;> rfl
 simp only[List.all_nil,List.isEmpty_nil,Bool.true_or,Bool.and_true,if_true,hmerge,List.nil_append,hp]
 exact h2'
theorem WD.ct {un:List Nat}{l:List (aU×List Nat)}{ds:List bX}(hf:(St.mk pe lo hp df).aa f=some g)(ha:(St.mk pe lo hp df).ck args=some ars)
 (hU:(un.flatMap fun j=>(ds[j]?).elim [] bX.own)=[]) (he:CT M g ars hp ⟨v,hp,[]⟩)
 (h:WD M l ⟨⟨pe,(t,v)::lo,hp,df⟩,wr⟩ (ds++[⟨none,[],0,0⟩]) Q):WD M ((⟨.l t,.call f args,none⟩,un)::l) ⟨⟨pe,lo,hp,df⟩,wr⟩ ds Q:=WD.zj hf ha hU he h
theorem uk {f N:Nat}{aP:List Nat}{res:List eK}{body:ak}(hft:M.FT f=some ⟨N,aP,res,body⟩)(hN:ars.length<=N)
 (hW:W M body ⟨⟨aP.map (fun t=>(ars[t]?).getD cF),[],h,[]⟩,[]⟩ fun e s=>(e = .normal\/e = .ret)/\s.s.bU=[]/\∃vs,dm s.s res=some vs/\dS (bg vs) h.length s=r):aZ M f ars h r:=by
 obtain⟨⟨n,e,s,h1,h2,h3,vs,h4,h5⟩⟩:=hW
 refine⟨n,?_⟩
 have h1':bj M.ext M.inv M.FT n body ⟨⟨aP.map (fun t=>(ars[t]?).getD cF),[],h,[]⟩,[]⟩=some (e,s):=h1
 simp only[gg,hft]
 rw[if_neg (by omega)]
 simp only[aO.ev,h1',if_pos h2,h3,kh,h4,h5]
def gA (b:Nat)(wr:List Nat):Prop:=∀x∈wr,x=b
theorem gA.nil:gA b []:=fun _ h=>by cases h
theorem gA.cons (h:gA b wr):gA b (b::wr):=fun x hx=>by
 rcases List.mem_cons.1 hx with e|e
 . exact e
 . exact h x e
theorem FH {x y:Option bA}:(h.put b x).put b y=h.put b y:=by simp[ae.put]
theorem OW {c c0:List AV}{e:TypeId}(hb:b<h.length)(hh:s.s.hp=h.put b (some (.cells c e)))(hw:gA b s.wr)(hc:br c=0) :
 ∃wr,gA b wr/\dS (.ao []) (h.put b (some (.cells c0 e))).length s=⟨.ao [],h.put b (some (.cells c e)),wr⟩:=by
 refine⟨s.wr.filter (· < h.length),fun x hx=>hw x (List.mem_filter.1 hx).1,?_⟩
 have hl:(h.put b (some (.cells c0 e))).length=h.length:=fq
 have ht:tight s.s.hp h.length s.wr=true:=by
  simp only[tight,List.all_eq_true]
  intro x hx
  rw[hw x hx,hh,cI hb]
  simp[bA.top,hc]
 have hk:(h.put b (some (.cells c e))).take h.length=h.put b (some (.cells c e)):=List.take_of_length_le (by rw[fq];exact Nat.le_refl _)
 simp only[dS,hl,ht,Bool.and_true]
 rw[hh,hk]
 split <;> rfl
theorem WO.pb {x:aN}{k:IntKind}{a:Int}(hx:(St.mk pe lo hp df).aa x=some (.int k a))(hr:0<=a/\a<18446744073709551616)
 (h:WO M l ⟨⟨pe,(t,.int .u64 a)::lo,hp,df⟩,wr⟩ Q):WO M (⟨.l t,.du .u64 x,none⟩::l) ⟨⟨pe,lo,hp,df⟩,wr⟩ Q:=
 WO.op (WP.pure (v:=.int .u64 a) rfl (by
  have:IntKind.u64.wrap a=a:=by simp only[IntKind.wrap,IntKind.bits,IntKind.signed];simp;omega
  simp only[aV,hx,Option.bind_some,kQ,this]) h)
theorem WO.ku {x:aN}{k:IntKind}{a:Int}(hx:(St.mk pe lo hp df).aa x=some (.int k a))(hr : -9223372036854775808<=a/\a<9223372036854775808)
 (h:WO M l ⟨⟨pe,(t,.int .i64 a)::lo,hp,df⟩,wr⟩ Q):WO M (⟨.l t,.du .i64 x,none⟩::l) ⟨⟨pe,lo,hp,df⟩,wr⟩ Q:=
 WO.op (WP.pure (v:=.int .i64 a) rfl (by simp only[aV,hx,Option.bind_some,kQ,mU hr]) h)
end Go.Ab

/-
  Own work: one element appended; the end of a run that turns nothing.
-/
namespace Go.Ab
variable {h:ae}
variable {M:aO}
theorem OX {v:AV}{s:aq}(hh:s.s.hp=h)(hw:s.wr=[]):dS v h.length s=⟨v,h,[]⟩:=by
 have hk:h.take h.length=h:=List.take_length
 simp only[dS,hh,hw,tight,List.all_nil,Bool.and_true,List.filter_nil,hk]
 split <;> rfl
theorem mW {g N:Nat}{aP:List Nat}{res:List eK}{body:ak}{ars:List AV}{v:AV}(hft:M.FT g=some ⟨N,aP,res,body⟩)(hN:ars.length<=N)
 (hW:W M body ⟨⟨aP.map (fun t=>(ars[t]?).getD cF),[],h,[]⟩,[]⟩ fun x s=>(x = .normal\/x = .ret)/\s.s.bU=[]/\s.s.hp=h/\s.wr=[]/\∃vs,dm s.s res=some vs/\bg vs=v):aZ M g ars h ⟨v,h,[]⟩:=by
 refine uk hft hN (hW.mono fun x s ⟨h1,h2,h3,h4,vs,h5,h6⟩=>⟨h1,h2,vs,h5,?_⟩)
 subst h6
 exact OX h3 h4
theorem FI {b:Nat}{o:bA}(hb:h.at b=some o):h.put b (some o)=h:=by
 have hl:=fa hb
 apply List.ext_getElem?
 intro i
 simp only[ae.put,List.getElem?_set]
 split
 . rename_i e
   subst e
   unfold ae.at at hb
   rw[List.getElem?_eq_getElem hl]at hb ⊢
   simp at hb ⊢
   simp[hb]
 . rfl
end Go.Ab

/-
  Own work: bytes of a text, small conversions, boxes in a heap that grows; the end of a run that drops what it made.
-/
namespace Go.Ab
variable {wr:List Nat}
variable {M:aO}
def zk (b n:Nat)(wr:List Nat):Prop:=∀x∈wr,x=b\/n<=x
theorem zk.cons {b n:Nat}(h:zk b n wr):zk b n (b::wr):=fun x hx=>by
 rcases List.mem_cons.1 hx with e|e
 . exact .inl e
 . exact h x e
theorem iF {f N:Nat}{aP:List Nat}{res:List eK}{body:ak}{ars:List AV}{P:AV->ae->Prop}(hft:M.FT f=some ⟨N,aP,res,body⟩)(hN:ars.length<=N)
 (h:W M body ⟨⟨aP.map (fun t=>(ars[t]?).getD cF),[],[],[]⟩,[]⟩ fun e s=>(e = .normal\/e = .ret)/\s.s.bU=[]/\∃vs,dm s.s res=some vs/\P (bg vs) (if (bg vs).top<=0 then [] else s.s.hp)):∃v hh,P v hh/\aZ M f ars [] ⟨v,hh,[]⟩:=by
 obtain⟨⟨n,e,s,h1,h2,h3,vs,h4,h5⟩⟩:=h
 exact⟨_,_,h5,bT hft hN ⟨⟨n,e,s,h1,h2,h3,vs,h4,rfl,rfl⟩⟩⟩
theorem WO.mX {t b o n:Nat}{ag:Bool}{x:aN}{l:List aU}{pe:List AV}{lo:List (Nat×AV)}{hp:ae}{df:List Nat}{c:List AV}{e:TypeId}{v:AV}{Q:aq->Prop}(hx:(St.mk pe lo hp df).aa x=some (.ptr b o))(hb:hp.at b=some (.cells c e))(hv:partOf (c.drop o) 0 n ag=some v)
 (h:WO M l ⟨⟨pe,(t,v)::lo,hp,df⟩,wr⟩ Q):WO M (⟨.l t,.load n ag x,none⟩::l) ⟨⟨pe,lo,hp,df⟩,wr⟩ Q:=
 WO.pa hx (show fj hp (.ptr b o)=some (c.drop o) by simp only[fj,hb]) hv h
theorem OY {n:Int}(h:0<=n/\n<18446744073709551616):IntKind.u64.wrap n=n:=by
 simp only[IntKind.wrap,IntKind.bits,IntKind.signed];simp;omega
theorem WO.FJ {t L:Nat}{x y:aN}{l:List aU}{pe:List AV}{lo:List (Nat×AV)}{hp:ae}{df:List Nat}{k:IntKind}{a:Int}{Q:aq->Prop}(hx:(St.mk pe lo hp df).aa x=some (.int .u64 a))(hy:(St.mk pe lo hp df).aa y=some (.int k L))(hL:L<=64)
 (hr:0<=a*2^L/\a*2^L<18446744073709551616) (h:WO M l ⟨⟨pe,(t,.int .u64 (a*2^L))::lo,hp,df⟩,wr⟩ Q):WO M (⟨.l t,.bin .shl x y,none⟩::l) ⟨⟨pe,lo,hp,df⟩,wr⟩ Q:=
 WO.pl (v:=.int .u64 (a*2^L)) (by
  have e:min ((L:Int)).toNat IntKind.u64.bits=L:=by simp only[IntKind.bits];omega
  simp only[aV,hx,hy,cE,e,OY hr]
  rw[if_neg (by omega)]) rfl h
theorem FK {α:Type}{f:α->List AV}(hf:∀a,(f a).all cR=true):∀l:List α,(arr f l).all cR=true
 | []=>rfl
 | a::l=>by
  have:=FK hf l
  simp only[arr]at this
  simp only[arr,List.flatMap_cons,List.all_append,hf a,this,Bool.and_self]
end Go.Ab

/-
  Own work: an append in a drawn region, where no earlier operation is unordered to it.
-/
namespace Go.Ab
variable {M:aO}
end Go.Ab

/-
  Own work: a call with an empty slice, nil or not: told apart, run twice, and told again as one.
-/
namespace Go.Ab
variable {P:Program} {gl:Nat->Option AV}
end Go.Ab

/-
  Own work: arguments that are slices of integers, or arrays of two of them, as the abstract machine sees them.
-/
namespace Go.Ab
open Go.ChangeShapes Go.WideShapes Go.RowKit
variable {H:Type} {enc:TypeId×Value->H} {P:Program} {W:World} {base:Nat} {sp:Nat->Bool} {t e:TypeId} {v:Value} {d:DataW H} {ps:List MemPlace}
end Go.Ab

/-
  Own work: runes of a text, parts of slices, what fills the room; small lists.
-/
namespace Go.Ab
variable {M:aO}
abbrev al:=List UInt8
def dM:List Int->Int
 | []=>0
 | e::r=>if e=0 then dM r else e
end Go.Ab

/-
  Own work: loops over functions in the calculus of runs: the loop, the rounds that its function asks for, ends of calls.
-/
namespace Go.Ab
variable {h:ae} {v:AV} {n:Nat} {s:aq}
variable {M:aO}
structure gY (M:aO)(f:FuncId)(as:List AV)(h:ae)(K:HR->Prop):Prop where
 out:∃r,aZ M f as h r/\K r
theorem gY.rp {f N:Nat}{aP:List Nat}{res:List eK}{body:ak}{ars:List AV}{K:HR->Prop}(hft:M.FT f=some ⟨N,aP,res,body⟩)(hN:ars.length<=N)
 (hW:W M body ⟨⟨aP.map (fun t=>(ars[t]?).getD cF),[],h,[]⟩,[]⟩ fun e s=>(e = .normal\/e = .ret)/\∃s',kh s.s.bU s=some s'/\∃vs,dm s'.s res=some vs/\K (dS (bg vs) h.length s')):gY M f ars h K:=by
 obtain⟨⟨n,e,s,h1,h2,s',h3,vs,h4,h5⟩⟩:=hW
 refine⟨_,⟨n,?_⟩,h5⟩
 have h1':bj M.ext M.inv M.FT n body ⟨⟨aP.map (fun t=>(ars[t]?).getD cF),[],h,[]⟩,[]⟩=some (e,s):=h1
 simp only[gg,hft]
 rw[if_neg (by omega)]
 simp only[h1',if_pos h2,h3,h4]
theorem zo (hv:v.top<=n)(ht:tight s.s.hp n s.wr=true):dS v n s=⟨v,s.s.hp.take n,s.wr.filter (· < n)⟩:=by
 unfold dS
 rw[if_pos (by simp[hv,ht])]
theorem OZ (ht:tight s.s.hp n s.wr=false):dS v n s=⟨v,s.s.hp,s.wr.filter (· < n)⟩:=by
 unfold dS
 rw[if_neg (by simp[ht])]
theorem WO.cat {t:Nat}{x y:aN}{l:List aU}{pe:List AV}{lo:List (Nat×AV)}{hp:ae}{df wr:List Nat}{a b:al}{Q:aq->Prop}(hx:(St.mk pe lo hp df).aa x=some (.str a))(hy:(St.mk pe lo hp df).aa y=some (.str b))(hr:a.length+b.length<4611686018427387904)
 (h:WO M l ⟨⟨pe,(t,.str (a++b))::lo,hp,df⟩,wr⟩ Q):WO M (⟨.l t,.bin .add x y,none⟩::l) ⟨⟨pe,lo,hp,df⟩,wr⟩ Q:=
 WO.pl (v:=.str (a++b)) (by simp only[aV,hx,hy,cE];rw[if_pos (by omega)]) rfl h
theorem Pa {J:ae}(hh:s.s.hp=h++J)(hw:∀x∈s.wr,h.length<=x)(hv:v.top<=h.length):dS v h.length s=⟨v,h,[]⟩:=by
 have hf:s.wr.filter (· < h.length)=[]:=by
  rw[List.filter_eq_nil_iff]
  intro x hx
  have:=hw x hx
  simp;omega
 have ht:tight s.s.hp h.length s.wr=true:=by
  simp only[tight,List.all_eq_true]
  intro x hx
  have:=hw x hx
  split <;> simp[this]
 have hk:s.s.hp.take h.length=h:=by rw[hh];simp
 rw[zo hv ht,hf,hk]
theorem pc {g N:Nat}{aP:List Nat}{res:List eK}{body:ak}{ars:List AV}(hft:M.FT g=some ⟨N,aP,res,body⟩)(hN:ars.length<=N)(hv:v.top<=h.length)
 (hW:W M body ⟨⟨aP.map (fun t=>(ars[t]?).getD cF),[],h,[]⟩,[]⟩ fun x s=>(x = .normal\/x = .ret)/\s.s.bU=[]/\(∃J,s.s.hp=h++J)/\(∀x∈s.wr,h.length<=x)/\∃vs,dm s.s res=some vs/\bg vs=v):aZ M g ars h ⟨v,h,[]⟩:=by
 refine uk hft hN (hW.mono fun x s ⟨h1,h2,⟨J,h3⟩,h4,vs,h5,h6⟩=>⟨h1,h2,vs,h5,?_⟩)
 subst h6
 exact Pa h3 h4 hv
section
variable {t b j:Nat} {x y:aN} {l:List aU} {pe:List AV} {lo:List (Nat×AV)} {hp:ae} {df wr:List Nat} {c:List AV} {e:TypeId} {Q:aq->Prop}
theorem WO.zy {ag:Bool}(hx:(St.mk pe lo hp df).aa x=some (.ptr b j))(hb:hp.at b=some (.cells c e))(hv:partOf (c.drop j) 0 n ag=some v)
 (h:WO M l ⟨⟨pe,(t,v)::lo,hp,df⟩,wr⟩ Q):WO M (⟨.l t,.load n ag x,none⟩::l) ⟨⟨pe,lo,hp,df⟩,wr⟩ Q:=
 WO.aT (v:=v) (h':=hp) (w':=[]) (by simp only[bH,hx,Option.bind_some,fj,hb,hv]) rfl rfl h
theorem WO.cJ {new:List AV}(hx:(St.mk pe lo hp df).aa x=some (.ptr b j))(hy:((St.mk pe lo hp df).aa y).bind AV.cells=some new)(hb:hp.at b=some (.cells c e))(hn:new.length=n/\j+n<=c.length/\new.all cR=true){c':List AV}(hc:overwrite c j new=c')
 (h:WO M l ⟨⟨pe,lo,hp.put b (some (.cells c' e)),df⟩,b::wr⟩ Q):WO M (⟨.no,.store n x y,none⟩::l) ⟨⟨pe,lo,hp,df⟩,wr⟩ Q:=by
 subst hc
 refine WO.fA (v:=cF) (h':=hp.put b (some (.cells (overwrite c j new) e))) (w':=[b]) ?_ rfl rfl h
 simp only[bH,hx,hy,hb]
 rw[if_pos hn]
theorem WO.Pb (hx:(St.mk pe lo hp df).aa x=some (.ptr b j))(hb:hp.at b=some (.cells c e))(hj:j<c.length)
 (h:WO M l ⟨⟨pe,(t,.ptr b j)::lo,hp,df⟩,wr⟩ Q):WO M (⟨.l t,.jC none x,none⟩::l) ⟨⟨pe,lo,hp,df⟩,wr⟩ Q:=
 WO.aT (v:=.ptr b j) (h':=hp) (w':=[]) (by simp only[bH,hx,hb];rw[if_pos ⟨hj,trivial⟩]) rfl rfl h
theorem WO.Pc (hx:(St.mk pe lo hp df).aa x=some (.ptr b 0))(hb:hp.at b=some (.cells c e))(hj:0<n/\c.length=n)
 (h:WO M l ⟨⟨pe,(t,.ptr b 0)::lo,hp,df⟩,wr⟩ Q):WO M (⟨.l t,.jC (some (e,n)) x,none⟩::l) ⟨⟨pe,lo,hp,df⟩,wr⟩ Q:=
 WO.aT (v:=.ptr b 0) (h':=hp) (w':=[]) (by simp only[bH,hx,hb];rw[if_pos ⟨by omega,by simp[hj.2]⟩]) rfl rfl h
theorem WO.Pd {neg:Bool}(hx:(St.mk pe lo hp df).aa x=some (.ptr b j))(hy:(St.mk pe lo hp df).aa y=some (.ptr b j))(hb:hp.at b=some (.cells c e))
 (h:WO M l ⟨⟨pe,(t,.bool !neg)::lo,hp,df⟩,wr⟩ Q):WO M (⟨.l t,.mB neg x y,none⟩::l) ⟨⟨pe,lo,hp,df⟩,wr⟩ Q:=
 WO.aT (v:=.bool !neg) (h':=hp) (w':=[]) (by simp[bH,hx,hy,hb]) rfl rfl h
end
theorem FL {H:ae}{wr:List Nat}(hh:s.s.hp=H)(hw:s.wr=wr)(ht:tight H n wr=false):dS v n s=⟨v,H,wr.filter (· < n)⟩:=by
 rw[OZ (by rw[hh,hw];exact ht),hh,hw]
theorem WO.Pe {t c o e:Nat}{x:aN}{l:List aU}{pe:List AV}{lo:List (Nat×AV)}{hp:ae}{df wr:List Nat}{cap:Option Nat}{Q:aq->Prop}(hx:(St.mk pe lo hp df).aa x=some (.sl c o n e cap))(hn:0<n)
 (h:WO M l ⟨⟨pe,(t,.ptr c o)::lo,hp,df⟩,wr⟩ Q):WO M (⟨.l t,.qq x,none⟩::l) ⟨⟨pe,lo,hp,df⟩,wr⟩ Q:=by
 cases n with
 | zero=>exact absurd hn (Nat.lt_irrefl _)
 | succ m=>exact WO.pl (v:=.ptr c o) (by simp only[aV,hx]) rfl h
theorem WD.jf {t c:Nat}{e:TypeId}{x y:aN}{l:List (aU×List Nat)}{pe:List AV}{lo:List (Nat×AV)}{hp:ae}{df wr:List Nat}{ds:List bX}{cs cs':List AV}{k:IntKind}{n:Int}{s:al}{Q:aq->Prop}(hx:(St.mk pe lo hp df).aa x=some (.ptr c 0))(hy:(St.mk pe lo hp df).aa y=some (.int k n))
 (hb:hp.at c=some (.cells cs e)) (hn:0<n/\n<=70368744177664) (hc:cut cs 0 n.toNat=some cs') (hs:bytesOf cs'=some s) (h:∀dn,WD M l ⟨⟨pe,(t,.str s)::lo,hp.put c none,df⟩,[c]++wr⟩ (ds++[dn]) Q):WD M ((⟨.l t,.jf e x y,none⟩,[])::l) ⟨⟨pe,lo,hp,df⟩,wr⟩ ds Q:=by
 have hT:([c]:List Nat).contains c=true:=by simp
 have hk:(di [c] hp 0).at c=hp.at c:=by rw[yX,if_pos hT]
 obtain⟨⟨m,s',h2,h3⟩⟩:=h ⟨some [c],[c],hp.length,(ae.put (di [c] hp 0) c none).length⟩
 refine⟨⟨m,s',?_,h3⟩⟩
 have hx':(St.mk pe lo (di [c] hp 0) df).aa x=some (.ptr c 0):=by rw[←hx];cases x <;> rfl
 have hy':(St.mk pe lo (di [c] hp 0) df).aa y=some (.int k n):=by rw[←hy];cases y <;> rfl
 have key:bO (M.call m) M.inv ⟨pe,lo,di [c] hp 0,df⟩ (.jf e x y)=some ⟨.str s,ae.put (di [c] hp 0) c none,[c]⟩:=by
  simp only[bO,bc.bG,if_true,bH,hx',hy',hk,hb,hc,hs]
  rw[if_pos (by omega)]
 have ht:ji ⟨pe,lo,hp,df⟩ (.jf e x y)=some [c]:=by
  simp only[ji,hx]
 have hd:gD [c] []=true:=by simp[gD]
 have hsome:((di [c] hp 0).at c).isSome=true:=by rw[hk,hb];rfl
 simp only[dJ,eM,bc.bG,if_true,ht,List.flatMap_nil,hd,key]
 simp only[List.all_cons,List.all_nil,hsome,Bool.and_self,Bool.or_true,if_true,FC]
 exact h2
theorem Pf {H:ae}{wr:List Nat}(hh:s.s.hp=H)(hw:s.wr=wr)(hv:v.top<=n)(ht:tight H n wr=true):dS v n s=⟨v,H.take n,wr.filter (· < n)⟩:=by
 rw[zo hv (by rw[hh,hw];exact ht),hh,hw]
end Go.Ab

/-
  Own work: parts of texts, the lesser of two numbers, in the calculus of runs.
-/
namespace Go.Ab
variable {M:aO} {t:Nat} {x y z:aN} {l:List aU} {pe:List AV} {lo:List (Nat×AV)} {hp:ae} {df wr:List Nat} {s r:al} {k k':IntKind} {a b:Int} {Q:aq->Prop}
theorem WO.gi (hx:(St.mk pe lo hp df).aa x=some (.str s))(hy:(St.mk pe lo hp df).aa y=some (.int k a))(ha:0<=a/\a<=s.length)(hr:s.drop a.toNat=r)
 (h:WO M l ⟨⟨pe,(t,.str r)::lo,hp,df⟩,wr⟩ Q):WO M (⟨.l t,.slice .str 1 x (some y) none none,none⟩::l) ⟨⟨pe,lo,hp,df⟩,wr⟩ Q:=by
 subst hr
 refine WO.pl (v:=.str (s.drop a.toNat)) ?_ rfl h
 simp only[aV,hx,St.cY,hy,Option.map_some,jD,bL]
 rw[if_pos ha]
 have:(s.drop a.toNat).take (s.length-a.toNat)=s.drop a.toNat:=List.take_of_length_le (by simp)
 simp[this]
theorem WO.ig (hx:(St.mk pe lo hp df).aa x=some (.str s))(hy:(St.mk pe lo hp df).aa y=some (.int k a))(ha:0<=a/\a<=s.length)(hr:s.take a.toNat=r)
 (h:WO M l ⟨⟨pe,(t,.str r)::lo,hp,df⟩,wr⟩ Q):WO M (⟨.l t,.slice .str 1 x none (some y) none,none⟩::l) ⟨⟨pe,lo,hp,df⟩,wr⟩ Q:=by
 subst hr
 refine WO.pl (v:=.str (s.take a.toNat)) ?_ rfl h
 simp only[aV,hx,St.cY,hy,Option.map_some,jD,bL]
 rw[if_pos ha]
 simp
theorem WO.min2 {m:Int}(hx:(St.mk pe lo hp df).aa x=some (.int k a))(hy:(St.mk pe lo hp df).aa y=some (.int k b))(hm:m=a/\a<=b\/m=b/\b<=a)
 (h:WO M l ⟨⟨pe,(t,.int k m)::lo,hp,df⟩,wr⟩ Q):WO M (⟨.l t,.mm false [x,y],none⟩::l) ⟨⟨pe,lo,hp,df⟩,wr⟩ Q:=by
 refine WO.pl (v:=.int k m) ?_ rfl h
 simp only[aV,St.ck,hx,hy]
 have e:(if b<a then b else a)=m:=by split <;> omega
 simp[mE,e]
end Go.Ab

/-
  Own work: the calculus: a heap that is known by facts, its newest block; lists that grow, of any elements.
-/
namespace Go.Ab
variable {e:TypeId}
variable {M:aO}
theorem WO.fu {u n b off:Nat}{ag:Bool}{x:aN}{L:List aU}{pe:List AV}{lo:List (Nat×AV)}{hp:ae}{df wr:List Nat}{c:List AV}{v:AV}{Q:aq->Prop}(hx:(St.mk pe lo hp df).aa x=some (.ptr b off))(hb:hp.at b=some (.cells c e))(hv:partOf (c.drop off) 0 n ag=some v)
 (h:WO M L ⟨⟨pe,(u,v)::lo,hp,df⟩,wr⟩ Q):WO M (⟨.l u,.load n ag x,none⟩::L) ⟨⟨pe,lo,hp,df⟩,wr⟩ Q:=
 WO.aT (v:=v) (h':=hp) (w':=[]) (by simp only[bH,hx,Option.bind_some,fj,hb,hv]) rfl rfl h
theorem WO.fI {n:Nat}{x y:aN}{L:List aU}{pe:List AV}{lo:List (Nat×AV)}{K:ae}{df wr:List Nat}{c c' new:List AV}{Q:aq->Prop}(hx:(St.mk pe lo (K++[some (.cells c e)]) df).aa x=some (.ptr K.length 0))(hy:((St.mk pe lo (K++[some (.cells c e)]) df).aa y).bind AV.cells=some new)
 (hn:new.length=n/\n<=c.length/\new.all cR=true) (ho:overwrite c 0 new=c') (h:WO M L ⟨⟨pe,lo,K++[some (.cells c' e)],df⟩,K.length::wr⟩ Q):WO M (⟨.no,.store n x y,none⟩::L) ⟨⟨pe,lo,K++[some (.cells c e)],df⟩,wr⟩ Q:=by
 obtain⟨h1,h2,h3⟩:=hn
 refine WO.fA (v:=cF) (h':=K++[some (.cells c' e)]) (w':=[K.length]) ?_ rfl rfl h
 simp only[bH,hx,hy,cn,Nat.zero_add]
 rw[if_pos ⟨h1,h2,h3⟩,ho]
 simp[ae.put]
def zz {α:Type}(f:α->List AV)(esz:Nat)(e:TypeId)(hp:ae)(o:AV)(acc:List α)(S:List Nat):Prop:=(acc=[]/\o = .ah)\/∃c,acc≠[]/\c∉S/\o = .sl c 0 acc.length esz none/\hp.at c=some (.cells (arr f acc) e)
theorem zz.fin {α:Type}{f:α->List AV}{esz:Nat}{hp:ae}{o:AV}{acc:List α}{S:List Nat}(h:zz f esz e hp o acc S):zz f esz e (if (bg [o]).top<=0 then [] else hp) o acc S:=by
 rcases h with ⟨h1,rfl⟩|⟨c,h0,h1,rfl,h2⟩
 . exact .inl ⟨h1,rfl⟩
 . refine .inr ⟨c,h0,h1,rfl,?_⟩
   rw[if_neg (by simp[bg,AV.top])]
   exact h2
end Go.Ab

/-
  Own work: contracts that are told by a relation; lists as arguments, of any elements; values that are compared with themselves.
-/
namespace Go.Ab
variable {M:aO} {P:Program} {gl:Nat->Option AV}
open Classical in
noncomputable def mY (R:List AV->ae->HR->Prop):Spec:=fun as h=>if e:∃r,R as h r then some (Classical.choose e) else none
theorem zA {f:Nat}{R:List AV->ae->HR->Prop}(hR:∀as h r,R as h r->bN P gl ⟨f,as,h,r⟩):aW P gl f (mY R):=by
 intro as h r hq
 unfold mY at hq
 split at hq
 . rename_i e
   cases hq
   exact hR _ _ _ (Classical.choose_spec e)
 . cases hq
theorem zB {R:List AV->ae->HR->Prop}{as:List AV}{h:ae}{r:HR}(hr:R as h r)(hd:∀r',R as h r'->r'=r):mY R as h=some r:=by
 unfold mY
 rw[dif_pos ⟨r,hr⟩]
 exact congrArg some (hd _ (Classical.choose_spec (p:=fun r=>R as h r) ⟨r,hr⟩))
section
variable {α:Type} {f:α->List AV} {esz:Nat}
theorem FM (hf:∀a,(f a).length=esz)(hi:∀a b,f a=f b->a=b):∀{l m:List α},l.length=m.length->arr f l=arr f m->l=m
 | [],[],_,_=>rfl
 | a::l,b::m,hl,h=>by
  rw[jM,jM]at h
  have:=List.append_inj h (by rw[hf,hf])
  rw[hi _ _ this.1,FM hf hi (by simpa using hl) this.2]
theorem Sl.um {h:ae}:Sl f h .ah ([]:List α):=.inl ⟨rfl,rfl⟩
theorem Sl.lI (hf:∀a,(f a).length=esz){h:ae}{l:List α}{b n:Nat}{e:TypeId}{cap:Option Nat}(hb:h.at b=some (.cells (arr f l) e))(hn:l.length=n):Sl f h (.sl b 0 n esz cap) l:=by
 subst hn
 refine .inr (.inr ⟨b,0,esz,cap,_,e,rfl,hb,?_⟩)
 have:=kp hf (l:=l) (i:=0) (n:=l.length) (by omega)
 rw[Nat.zero_mul]at this
 rw[this];simp
end
end Go.Ab

/-
  Own work: arguments of any type without pointers, as the abstract machine sees them.
-/
namespace Go.Ab
open Go.ChangeShapes Go.WideShapes Go.RowKit
section
variable (P:Program)
end
variable {H:Type} {enc:TypeId×Value->H} {P:Program} {W:World}
end Go.Ab

/-
  Own work: what a call has made is handed back by its contents: no block of the caller's is added.
-/
namespace Go.Ab
variable {FT:FuncId->Option cX}
variable {P:Program} {gl:Nat->Option AV}
def iY (ρ:az):az:=⟨fun _=>.fresh,ρ.X⟩
theorem cH.iY {ρ:az}{c:Nat}(h:¬ρ.X c):cH (iY ρ) c:=⟨fun b d hb=>by simp[Go.Ab.iY]at hb,h⟩
theorem Pg (hgl:∀g v,gl g=some v->v.top=0){w:World}{ρ:az}{T:List Nat}{v v1:AV}{hh:ae}{v':Value}{w':World}(hf:Fr hh T v v1)(ht:v1.top=0)(hd:ec P gl (dj ρ []) [] w ⟨v,hh,[]⟩ v' w'):ec P gl (dj ρ []) [] w ⟨v1,[],[]⟩ v' w':=by
 obtain⟨ρ',hv,m',x⟩:=hd
 have hF:∀c,cH (dj ρ' T) c->cH (iY ρ') c:=fun c hc=>cH.iY fun hx=>hc.2 (.inl hx)
 have hF':∀c,cH ρ' c->cH (iY ρ') c:=fun c hc=>cH.iY hc.2
 refine⟨iY ρ',(hf.view m' hv).fR (n:=0) (fun b hb=>by omega) hF (by omega),?_,?_⟩
 . refine⟨fun b o hb=>by simp at hb,fun b _=>rfl,fun b b' c d d' h1=>by simp[iY]at h1,fun b c d h1=>by simp[iY]at h1,m'.xb,fun b c d h1=>by simp[iY]at h1,fun g v hg=>?_⟩
   exact(m'.gl g v hg).fR (n:=0) (fun b hb=>by omega) hF' (by rw[hgl g v hg];exact Nat.le_refl _)
 . refine⟨x.os,x.tape,x.output,x.size,Nat.le_refl _,x.X,fun b hb=>by simp at hb,fun b hb=>by simp at hb,fun b c d hb=>by simp[dj]at hb,fun b hb=>by simp[dj]at hb,fun b hb=>by simp[dj]at hb,fun c hc _=>x.bS c hc (fun b d hb=>by simp[dj]at hb),fun b c d hb _=>by simp[iY]at hb,x.shape⟩
theorem Ph (hgl:∀g v,gl g=some v->v.top=0){f:Nat}{as:List AV}{h:ae}{v v1:AV}{hh:ae}{T:List Nat}(ha:br as=0)(hf:Fr hh T v v1)(ht:v1.top=0)(hloc:bN P gl ⟨f,as,[],⟨v,hh,[]⟩⟩):bN P gl ⟨f,as,h,⟨v1,h,[]⟩⟩:=by
 refine⟨⟨Nat.le_refl _,fun _ _ _=>rfl⟩,fun ρ w as' m hl=>?_⟩
 obtain⟨nx,w1,h1,h2⟩:=hloc.2 (dj ρ []) w as' (m.dj hgl []) ((gw.same ha).view m hl)
 refine⟨nx,w1,h1,h2.mono fun v w' hd=>?_⟩
 have:=Fq (S:=[]) (ks:=[]) (bs:=[]) m (by simp) (.same ht) rfl (by simp) (.inl rfl) (Pg hgl hf ht hd)
 simpa using this
theorem Pj (hs:jo P gl FT){T:List (Nat×Spec)}(hT:cm P gl (bk T)){f:Nat}{as:List AV}{h hh:ae}{B:List Nat}{v v1:AV}(hr:aZ (bw P FT T) f as [] ⟨v,hh,[]⟩)(ha:br as=0)(hf:Fr hh B v v1)(ht:v1.top=0):bN P gl ⟨f,as,h,⟨v1,h,[]⟩⟩:=
 Ph hs.gl ha hf ht (oK hs hT hr ⟨Nat.zero_le _,fun _ hb=>absurd hb (Nat.not_lt_zero _)⟩)
def lJ (N:Nat):az:=⟨fun _=>.fresh,fun c=>c<N⟩
theorem cH.lJ {N c:Nat}(h:N<=c):cH (lJ N) c:=⟨fun b d hb=>by simp[Go.Ab.lJ]at hb,fun hx=>absurd hx (by show ¬c<N;omega)⟩
theorem Fr.Pk {ρ:az}{h:ae}{w:World}(m:Mem P gl ρ h w){N:Nat}(hnew:∀b c d,ρ b = .live c d->N<=c){T:List Nat}(hT:∀b l e,b∈T->h.at b=some (.cells l e)->fg l=true){a a0:AV}(hr:Fr h T a a0):db a=true->a0.top=0->∀{v:Value},V ρ w a v->V (lJ N) w a0 v:=by
 have hat:∀{b o},h.at b=some o->h[b]? = some (some o):=fun {b o} hb=>by
  unfold ae.at at hb
  cases hz:h[b]? with
  | none=>rw[hz]at hb;cases hb
  | some z=>rw[hz]at hb;simp only[Option.join_some]at hb;rw[hb]
 have cutN:∀{l m':List AV} {off n:Nat},fg l=true->cut l off n=some m'->∀(i:Nat) x,m'[i]? = some x->db x=true:=fun {l m' off n} hn hc i x hx=>by
  simp only[cut]at hc
  split at hc
  . cases hc
    rw[List.getElem?_take]at hx
    split at hx
    . rw[List.getElem?_drop]at hx;exact gh hn hx
    . cases hx
  . cases hc
 induction hr with
 | same ht=>exact fun hn _ v hv=>Fp ht hn hv
 | nil hc=>
  intro _ _ v hv
  cases hv
  exact .dT hc
 | @sl b off len esz cap cap' l m' m0 e hb ha hc hl hg hcc ih=>
  intro _ ht v hv
  simp only[AV.top]at ht
  have ih':∀(i:Nat) x y,m'[i]? = some x->m0[i]? = some y->∀{v:Value},V ρ w x v->V (lJ N) w y v:=fun i x y hx hy {v} hv=>
   ih i x y hx hy (cutN (hT b l e hb ha) hc i x hx) (by have:=fo (n:=0) (by omega) i y hy;omega) hv
  have hB:=m.cS b _ (hat ha)
  have hcut:m'.length=len*esz/\∀i,i<m'.length->m'[i]? = l[off+i]? := by
   simp only[cut]at hc
   split at hc
   . rename_i hlen
     cases hc
     refine⟨hlen,fun i hi=>?_⟩
     rw[List.getElem?_take,if_pos (by omega),List.getElem?_drop]
   . cases hc
  cases hv with
  | @sl _ c d _ _ _ capC _ h1 h2 h3 h4=>
   have h3:∀n,cap'=some n->capC=n:=fun n hn=>by
    rcases hcc with rfl|rfl
    . exact h3 n hn
    . cases hn
   rcases hB with ⟨c',d',cs,fr,g1,g2,g3,g4,g5⟩|⟨g1,_⟩
   . rw[h1]at g1;cases g1
     refine .vs c (off+d) (fun i=>cs.getD (off+d+i) (.bool false)) (fun _=>cH.lJ (hnew _ _ _ h1)) h2 h3 (fun i hi=>?_) (fun i y hy=>?_)
     . have hi':i<m'.length:=by omega
       have hlt:off+i<l.length:=by
        have:=hcut.2 i hi'
        rw[List.getElem?_eq_getElem hi']at this
        exact(List.getElem?_eq_some_iff.1 this.symm).1
       have:off+d+i<cs.size:=by have:=g3.1;omega
       simp only[World.cell?,g2]
       simp[this,Array.getD]
     . have hi:i<m0.length:=(List.getElem?_eq_some_iff.1 hy).1
       have hi':i<m'.length:=by omega
       have hx:=hcut.2 i hi'
       rw[List.getElem?_eq_getElem hi']at hx
       have hlt:off+i<l.length:=(List.getElem?_eq_some_iff.1 hx.symm).1
       have hs:off+d+i<cs.size:=by have:=g3.1;omega
       refine ih' i m'[i] y (List.getElem?_eq_getElem hi') hy ?_
       refine g5 (off+i) _ _ hx.symm ?_
       rw[show off+i+d=off+d+i from by omega]
       simp[hs,Array.getD]
   . rw[h1]at g1;cases g1
  | @fk _ _ h1=>
   rcases hB with ⟨c',d',cs,fr,g1,_⟩|⟨g1,g2⟩
   . rw[h1]at g1;cases g1
   . have:m0=[]:=List.eq_nil_of_length_eq_zero (by omega)
     subst this
     exact .dT (by rcases hcc with rfl|rfl <;> simp)
  | dZ c o' h1 _ _=>
   rcases hB with ⟨c',d',cs,fr,g1,_⟩|⟨g1,g2⟩ <;> (rw[h1]at g1;cases g1)
  | fl a h1=>
   rcases hB with ⟨c',d',cs,fr,g1,_⟩|⟨g1,g2⟩ <;> (rw[h1]at g1;cases g1)
  | ff h1=>
   rcases hB with ⟨c',d',cs,fr,g1,_⟩|⟨g1,g2⟩ <;> (rw[h1]at g1;cases g1)
 | @ptr b off l m0 e hb ha hl hg ih=>
  intro _ ht v hv
  simp only[AV.top]at ht
  have hB:=m.cS b _ (hat ha)
  cases hv with
  | @ptr _ c d _ h1=>
   rcases hB with ⟨c',d',cs,fr,g1,g2,g3,g4,g5⟩|⟨g1,_⟩
   . rw[h1]at g1;cases g1
     refine .vp c (off+d) (fun i=>cs.getD (off+d+i) (.bool false)) (fun _=>cH.lJ (hnew _ _ _ h1)) (fun i hi=>?_) (fun i y hy=>?_)
     . have:off+d+i<cs.size:=by have:=g3.1;simp at hl;omega
       simp only[World.cell?,g2]
       simp[this,Array.getD]
     . have hi:i<m0.length:=(List.getElem?_eq_some_iff.1 hy).1
       have hi':i<(l.drop off).length:=by omega
       have hlt:off+i<l.length:=by simp at hi';omega
       have hs:off+d+i<cs.size:=by have:=g3.1;omega
       refine ih i _ y (List.getElem?_eq_getElem hi') hy ?_ (by have:=fo (n:=0) (by omega) i y hy;omega) ?_
       . rw[List.getElem_drop]
         exact gh (hT b l e hb ha) (List.getElem?_eq_getElem hlt)
       . refine g5 (off+i) _ _ (by rw[List.getElem_drop];exact List.getElem?_eq_getElem hlt) ?_
         rw[show off+i+d=off+d+i from by omega]
         simp[hs,Array.getD]
   . rw[h1]at g1;cases g1
  | dO _ c o' h1=>
   rcases hB with ⟨c',d',cs,fr,g1,_⟩|⟨g1,g2⟩ <;> (rw[h1]at g1;cases g1)
 | @vs l l0 n cap hl hg ih=>
  intro hn _ v hv
  simp only[db,List.isEmpty_iff]at hn
  subst hn
  have:l0=[]:=List.eq_nil_of_length_eq_zero (by simp at hl;omega)
  subst this
  cases hv with
  | vs c o g hf h2 h3 h4 h5=>exact .vs c o g (fun h=>absurd rfl h) h2 h3 (by simp) (by simp)
  | dT hc=>exact .dT hc
  | fm a hc=>exact .fm a hc
 | @agg l l0 hl hg ih=>
  intro hn ht v hv
  simp only[db]at hn
  simp only[AV.top]at ht
  cases hv with
  | @agg _ mm h1 h2=>
   refine .agg (by omega) fun i y z hy hz=>?_
   have hi:i<l.length:=by have:=(List.getElem?_eq_some_iff.1 hy).1;omega
   exact ih i _ y (List.getElem?_eq_getElem hi) hy (gh hn (List.getElem?_eq_getElem hi)) (by have:=fo (n:=0) (by omega) i y hy;omega) (h2 i _ z (List.getElem?_eq_getElem hi) hz)
 | @ao l l0 hl hg ih=>
  intro hn ht v hv
  simp only[db]at hn
  simp only[AV.top]at ht
  cases hv with
  | @ao _ mm h1 h2=>
   refine .ao (by omega) fun i y z hy hz=>?_
   have hi:i<l.length:=by have:=(List.getElem?_eq_some_iff.1 hy).1;omega
   exact ih i _ y (List.getElem?_eq_getElem hi) hy (gh hn (List.getElem?_eq_getElem hi)) (by have:=fo (n:=0) (by omega) i y hy;omega) (h2 i _ z (List.getElem?_eq_getElem hi) hz)
 | @fn f fi fi0 ca ca0 hf h1 h2 g1 g2 ih1 ih2=>
  intro hn ht v hv
  simp only[db,Bool.and_eq_true]at hn
  have hh:br fi0<=0/\br ca0<=0:=by
   cases f <;> simp only[AV.top]at ht <;> exact⟨by omega,by omega⟩
  cases hv with
  | fn hf' a1 a2 a3 a4=>
   refine .fn hf (by omega) (by omega) (fun i y z hy hz=>?_) (fun i y z hy hz=>?_)
   . have hi:i<fi.length:=by have:=(List.getElem?_eq_some_iff.1 hy).1;omega
     exact ih1 i _ y (List.getElem?_eq_getElem hi) hy (gh hn.1 (List.getElem?_eq_getElem hi)) (by have:=fo hh.1 i y hy;omega) (a3 i _ z (List.getElem?_eq_getElem hi) hz)
   . have hi:i<ca.length:=by have:=(List.getElem?_eq_some_iff.1 hy).1;omega
     exact ih2 i _ y (List.getElem?_eq_getElem hi) hy (gh hn.2 (List.getElem?_eq_getElem hi)) (by have:=fo hh.2 i y hy;omega) (a4 i _ z (List.getElem?_eq_getElem hi) hz)
  | yield _=>exact absurd rfl (hf _)
  | gp _ _=>exact absurd rfl (hf _)
theorem Pl {w:World}{ρ:az}{h:ae}(m:Mem P gl ρ h w){S T:List Nat}{v v1:AV}{hh:ae}{v':Value}{w':World}(hf:Fr hh T v v1)(hn:db v=true)(hT:∀b l e,b∈T->hh.at b=some (.cells l e)->fg l=true)(ht:v1.top=0)(hd:ec P gl (dj ρ S) [] w ⟨v,hh,[]⟩ v' w'):ec P gl ρ h w ⟨v1,h,[]⟩ v' w':=by
 obtain⟨ρ',hv,m',x⟩:=hd
 have bS:∀c,c<w.heap.size->w'.heap[c]? = w.heap[c]? := fun c hc=>x.bS c hc fun b d hb=>by simp[Go.Ab.dj]at hb
 have new:∀b c d,ρ' b = .live c d->w.heap.size<=c:=fun b c d hb=>by
  rcases Nat.lt_or_ge c w.heap.size with hc|hc
  . rcases x.back b c d hb hc with h1|⟨b0,d0,h1,_⟩ <;> simp[Go.Ab.dj]at h1
  . exact hc
 have hV:=hf.Pk m' new hT hn ht hv
 have hF:∀c,cH (lJ w.heap.size) c->cH ρ c:=fun c hc=>by
  have hge:w.heap.size<=c:=by
   rcases Nat.lt_or_ge c w.heap.size with h|h
   . exact absurd h hc.2
   . exact h
  exact⟨fun b d hb=>by have:=m.bound b c d hb;omega,fun hx=>by have:=m.xb c hx;omega⟩
 have E:Ext h h ρ ρ w w':=⟨x.os,x.tape,x.output,x.size,Nat.le_refl _,rfl,fun _ h=>h,fun _ _=>rfl,fun _ _ _ h=>.inl h,fun _ h=>h,fun _ h=>.inl h,fun c hc _=>bS c hc,fun b c d hb _=>.inl hb,x.shape⟩
 refine⟨ρ,hV.fR (n:=0) (fun b hb=>by omega) hF (by omega),m.ext E ?_ m.fresh m.inj ?_,E⟩
 . intro b o hb
   exact(m.cS b o hb).mono E rfl fun c d hl=>bS c (m.bound b c d hl)
 . intro b c d hb
   exact Nat.lt_of_lt_of_le (m.bound b c d hb) x.size
theorem Pm (hs:jo P gl FT){T:List (Nat×Spec)}(hT:cm P gl (bk T)){f:Nat}{as as0:List AV}{h hh:ae}{S B:List Nat}{v v1:AV}(hr:aZ (bw P FT T) f as0 [] ⟨v,hh,[]⟩)(hv:gw h S as as0)(hf:Fr hh B v v1)(hn:db v=true)(hB:∀b l e,b∈B->hh.at b=some (.cells l e)->fg l=true)(ht:v1.top=0):bN P gl ⟨f,as,h,⟨v1,h,[]⟩⟩:=by
 have hloc:=oK hs hT hr ⟨Nat.zero_le _,fun _ hb=>absurd hb (Nat.not_lt_zero _)⟩
 refine⟨⟨Nat.le_refl _,fun _ _ _=>rfl⟩,fun ρ w as' m hl=>?_⟩
 obtain⟨nx,w1,h1,h2⟩:=hloc.2 (dj ρ S) w as' (m.dj hs.gl S) (hv.view m hl)
 exact⟨nx,w1,h1,h2.mono fun v w' hd=>Pl m hf hn hB ht hd⟩
def iG (hh:ae)(v v1:AV):Prop:=∃B,Fr hh B v v1/\db v=true/\∀b l e,b∈B->hh.at b=some (.cells l e)->fg l=true
theorem iG.same {hh:ae}{v:AV}(ht:v.top=0)(hn:db v=true):iG hh v v:=⟨[],.same ht,hn,by simp⟩
theorem Pn (hs:jo P gl FT){T:List (Nat×Spec)}(hT:cm P gl (bk T)){f:Nat}{as as0:List AV}{h hh:ae}{S:List Nat}{v v1:AV}(hr:aZ (bw P FT T) f as0 [] ⟨v,hh,[]⟩)(hv:gw h S as as0)(hf:iG hh v v1)(ht:v1.top=0):bN P gl ⟨f,as,h,⟨v1,h,[]⟩⟩:=by
 obtain⟨B,h1,h2,h3⟩:=hf
 exact Pm hs hT hr hv h1 h2 h3 ht
end Go.Ab

/-
  Own work: loops by an invariant; parts of lists; lists that grow, of elements that refer to blocks.
-/
namespace Go.Ab
variable {I:aq->Prop} {s:aq}
variable {M:aO}
structure LI (I:aq->Prop)(Q:Ex->aq->Prop)(e:Ex)(s:aq):Prop where
 out:match e with
  | .normal=>I s
  | e=>Q e s
theorem ek {Q:Ex->aq->Prop}(h:I s):LI I Q .normal s:=⟨h⟩
theorem eA {Q:Ex->aq->Prop}{i:Nat}(h:Q (.exit i) s):LI I Q (.exit i) s:=⟨h⟩
theorem FN {Q:Ex->aq->Prop}(h:Q .ret s):LI I Q .ret s:=⟨h⟩
theorem W.ij {c:ak}{Q:Ex->aq->Prop}(I:Nat->aq->Prop)(hs:∀m s,I m s->W M c s (LI (fun s'=>∃m',m'<m/\I m' s') Q)):∀{m:Nat} {s:aq},I m s->W M (.loop c) s Q:=by
 intro m
 induction m using Nat.strongRecOn with
 | ind m ih=>
  intro s h
  refine W.loop ((hs m s h).mono fun e s' he=>?_)
  cases e with
  | normal=>
   obtain⟨m',hm,hI⟩:=he.out
   exact⟨ih m' hm hI⟩
  | exit i=>exact⟨he.out⟩
  | ret=>exact⟨he.out⟩
theorem W.iZ {c:ak}{Q:Ex->aq->Prop}(n:Nat)(I:Nat->aq->Prop)(hs:∀i s,i<n->I i s->W M c s (LI (I (i+1)) Q))(he:∀s,I n s->W M c s (LI (fun _=>False) Q)){i:Nat}{s:aq}(hi:i<=n)(h:I i s):W M (.loop c) s Q:=by
 refine W.ij (fun m s=>m<=n/\I (n-m) s) (fun m s ⟨hm,h⟩=>?_) (m:=n-i) ⟨Nat.sub_le _ _,by rwa [Nat.sub_sub_self hi]⟩
 rcases Nat.eq_zero_or_pos m with rfl|h0
 . exact(he s h).mono fun e s' he=>⟨by
    cases e with
    | normal=>exact he.out.elim
    | exit i=>exact he.out
    | ret=>exact he.out⟩
 . refine(hs (n-m) s (by omega) h).mono fun e s' he=>⟨?_⟩
   cases e with
   | normal=>exact⟨m-1,by omega,by omega,by have:=he.out;rwa [show n-m+1=n-(m-1) by omega]at this⟩
   | exit i=>exact he.out
   | ret=>exact he.out
section
variable {α:Type} {f:α->List AV} {esz t:Nat} {x y:aN} {L:List aU} {pe:List AV} {lo:List (Nat×AV)} {hp:ae} {df wr:List Nat} {l:List α} {cap:Option Nat} {k:IntKind} {n:Int} {Q:aq->Prop}
end
end Go.Ab

/-
  Own work: lists that grow by appends of whole lists, and parts of them.
-/
namespace Go.Ab
variable {M:aO} {α:Type} {f:α->List AV} {esz:Nat} {e:TypeId} {hp H:ae} {o y:AV} {acc m:List α} {S S':List Nat}
theorem Sl.cells (hf:∀a,(f a).length=esz)(h:Sl f hp y m):eL hp y=some (arr f m,m.length):=by
 rcases h with ⟨rfl,rfl⟩|⟨cap,rfl⟩|⟨b,off,ez,cap,c,e,rfl,h1,h2⟩
 . rfl
 . rfl
 . simp only[eL,h1,h2,Option.map_some]
def dv (f:α->List AV)(esz:Nat)(e:TypeId)(hp:ae)(o:AV)(acc:List α)(S:List Nat):Prop:=
 (acc=[]/\o = .ah)\/∃c cap,c∉S/\o = .sl c 0 acc.length esz cap/\hp.at c=some (.cells (arr f acc) e)/\(cap=none\/acc=[]/\cap=some 0)
theorem dv.um:dv f esz e hp .ah ([]:List α) S:=.inl ⟨rfl,rfl⟩
theorem dv.sl (hf:∀a,(f a).length=esz)(h:dv f esz e hp o acc S):Sl f hp o acc:=by
 rcases h with ⟨rfl,rfl⟩|⟨c,cap,_,rfl,h1,_⟩
 . exact .um
 . exact .lI hf h1 rfl
def uo (o:AV):List Nat:=kq (some o)
theorem dv.di (h:dv f esz e hp o acc S)(hk:∀b x,b∈uo o->hp.at b=some x->H.at b=some x)(hs:∀b,b∈uo o->b∉S->b∉S'):dv f esz e H o acc S':=by
 rcases h with h|⟨c,cap,h0,rfl,h1,h2⟩
 . exact .inl h
 . exact .inr ⟨c,cap,hs c (by simp[uo,kq]) h0,rfl,hk _ _ (by simp[uo,kq]) h1,h2⟩
theorem dv.grow (h:dv f esz e hp o acc S)(J:ae):dv f esz e (hp++J) o acc S:=h.di (fun b x _ hx=>cG hx) (fun b _ h=>h)
theorem dv.app {bytes t:Nat}{l:List aU}{pe:List AV}{lo:List (Nat×AV)}{df wr:List Nat}{a b:aN}{Q:aq->Prop}(hf:∀a,(f a).length=esz)(h1:∀a,(f a).all cR=true)(hb0:0<bytes)
 (h:dv f esz e hp o acc S) (hS:∀x∈S,x<hp.length) (ha:(St.mk pe lo hp df).aa a=some o) (hb:(St.mk pe lo hp df).aa b=some y) (hy:Sl f hp y m)
 (hn:(acc.length+m.length)*bytes<=dX) (hQ:∀(H:ae) (w':List Nat) o',dv f esz e H o' (acc++m) S->(∀x v,x∈S->hp.at x=some v->H.at x=some v)->hp.length<=H.length->WO M l ⟨⟨pe,(t,o')::lo,H,df⟩,w'⟩ Q):WO M (⟨.l t,.append e esz bytes a b,none⟩::l) ⟨⟨pe,lo,hp,df⟩,wr⟩ Q:=by
 have hs:=hy.cells hf
 have hone:(arr f m).all cR=true:=FK h1 m
 have hcond:(arr f m).length=m.length*esz/\0<bytes/\(arr f m).all cR=true:=⟨oZ hf m,hb0,hone⟩
 by_cases hm:m=[]
 . subst hm
   rw[List.append_nil]at hQ
   refine WO.aT (v:=o) (h':=hp) (w':=[]) ?_ rfl rfl (hQ hp _ o h (fun _ _ _ hx=>hx) (Nat.le_refl _))
   simp only[bH,ha,hb,jh,hs,if_pos hcond]
   rcases h with ⟨_,rfl⟩|⟨c,cap,_,rfl,_,_⟩ <;> simp
 . have hp0:m.length≠0:=fun h=>hm (List.eq_nil_of_length_eq_zero h)
   rcases h with ⟨rfl,rfl⟩|⟨c,cap,hc,rfl,hat,hcap⟩
   . refine WO.aT (v:=.sl hp.length 0 m.length esz none) (h':=hp++[some (.cells (arr f m) e)]) (w':=[]) ?_ rfl rfl (hQ _ _ _ (.inr ⟨hp.length,none,fun h=>by have:=hS _ h;omega,by simp,cn,.inl rfl⟩) (fun x v _ hx=>cG hx) (by simp))
     simp only[bH,ha,hb,jh,hs,if_pos hcond,if_neg hp0]
     rw[if_pos (by simpa using hn)]
   . rcases hcap with rfl|⟨rfl,rfl⟩
     . refine WO.aT (v:=.sl hp.length 0 (acc.length+m.length) esz none) (h':=hp.put c none++[some (.cells (arr f acc++arr f m) e)]) (w':=[c]) ?_ rfl rfl (hQ _ _ _ (.inr ⟨hp.length,none,fun h=>by have:=hS _ h;omega,by simp,?_,.inl rfl⟩) (fun x v hx hv=>cG (rn (fun ee=>hc (ee ▸ hx)) hv)) (by simp[fq]))
       . simp only[bH,ha,hb,jh,hs,if_pos hcond,if_neg hp0,hat]
         rw[if_pos ⟨trivial,hn⟩,if_pos ⟨by rw[oZ hf];omega,trivial⟩,List.drop_zero]
       . have:(hp.put c none).length=hp.length:=fq
         rw[←this,cn,OE]
     . refine WO.aT (v:=.sl hp.length 0 m.length esz none) (h':=hp++[some (.cells (arr f m) e)]) (w':=[]) ?_ rfl rfl (hQ _ _ _ (.inr ⟨hp.length,none,fun h=>by have:=hS _ h;omega,by simp,by rw[List.nil_append];exact cn,.inl rfl⟩) (fun x v _ hx=>cG hx) (by simp))
       simp only[bH,ha,hb,jh,hs,if_pos hcond,if_neg hp0,hat,List.length_nil,Nat.zero_add,Nat.zero_mul]
       rw[if_pos ⟨trivial,by simpa using hn⟩,if_neg (by omega)]
       simp[cut,arr]
end Go.Ab

/-
  Own work: appends to empty literals in drawn regions: what they make is new.
-/
namespace Go.Ab
variable {M:aO}
theorem dv.one {α:Type}{f:α->List AV}{esz:Nat}{e:TypeId}{hp:ae}{o:AV}{acc:List α}{S:List Nat}(h:dv f esz e hp o acc S):AV.cells o=some [o]/\cR o=true:=by
 rcases h with ⟨_,rfl⟩|⟨c,cap,_,rfl,_,_⟩ <;> exact⟨rfl,rfl⟩
end Go.Ab

/-
  Own work: contracts by contents: what a run on the empty heap hands back is the contract itself; no relation is told a second time.
-/
namespace Go.Ab
variable {h:ae} {l m m':List AV} {a x:AV}
variable {M:aO} {P:Program} {gl:Nat->Option AV}
theorem aZ.zC {f:FuncId}{as:List AV}{r r':HR}(h1:aZ M f as h r)(h2:aZ M f as h r'):r=r':=by
 obtain⟨n,hn⟩:=h1
 obtain⟨m,hm⟩:=h2
 have a1:=uc (ud (Nat.le_max_left n m)) hn
 have a2:=uc (ud (Nat.le_max_right n m)) hm
 exact Option.some.inj (a1.symm.trans a2)
mutual
def bW:AV->AV
 | .ah=>.vs [] 0 none
 | .vs l n _=>.vs (dF l) n none
 | .vp l=>.vp (dF l)
 | .agg l=>.agg (dF l)
 | .ao l=>.ao (dF l)
 | .fn f a b=>.fn f (dF a) (dF b)
 | .iface t v=>.iface t (bW v)
 | v=>v
def dF:List AV->List AV
 | []=>[]
 | v::r=>bW v::dF r
end
theorem ja:∀{l m:List AV},l.length=m.length->(∀(i:Nat) x y,l[i]? = some x->m[i]? = some y->bW x=bW y)->dF l=dF m
 | [],[],_,_=>rfl
 | x::l,y::m,hl,h=>by
  rw[dF,dF,h 0 x y rfl rfl,ja (by simpa using hl) fun i a b ha hb=>h (i+1) a b ha hb]
theorem mZ (h1:l.length=m.length)(h2:l.length=m'.length)(h:∀(i:Nat) a x y,l[i]? = some a->m[i]? = some x->m'[i]? = some y->bW x=bW y):dF m=dF m':=
 ja (h1.symm.trans h2) fun i x y hx hy=>by
  have hi:i<l.length:=by rw[h1];exact(List.getElem?_eq_some_iff.1 hx).1
  exact h i l[i] x y (List.getElem?_eq_getElem hi) hx hy
theorem FO (hl:l.length=m.length)(h:∀(i:Nat) x y,l[i]? = some x->m[i]? = some y->x=y):l=m:=
 List.ext_getElem hl fun i h1 h2=>h i _ _ (List.getElem?_eq_getElem h1) (List.getElem?_eq_getElem h2)
theorem zD (h1:l.length=m.length)(h2:l.length=m'.length)(h:∀(i:Nat) a x y,l[i]? = some a->m[i]? = some x->m'[i]? = some y->x=y):m=m':=
 FO (h1.symm.trans h2) fun i x y hx hy=>by
  have hi:i<l.length:=by rw[h1];exact(List.getElem?_eq_some_iff.1 hx).1
  exact h i l[i] x y (List.getElem?_eq_getElem hi) hx hy
theorem FP:∀(l m:List AV),dF (l++m)=dF l++dF m
 | [],m=>rfl
 | x::l,m=>by rw[List.cons_append,dF,dF,FP l m];rfl
theorem zE {α:Type}{f:α->List AV}(hf:∀a,dF (f a)=f a):∀l,dF (arr f l)=arr f l
 | []=>rfl
 | a::l=>by rw[jM,FP,hf,zE hf l]
theorem cA (h:br l=0){i:Nat}{x:AV}(hx:l[i]? = some x):x.top=0:=by
 have:=fo (n:=0) (by omega) i x hx
 omega
theorem Fr.js {S:List Nat}(hr:Fr h S a x):a.top=0->bW a=bW x:=by
 induction hr with
 | same ht=>exact fun _=>rfl
 | nil hc=>exact fun _=>by simp[bW,dF]
 | sl=>intro ht;simp[AV.top]at ht
 | ptr=>intro ht;simp[AV.top]at ht
 | vs hl hg ih=>intro ht;rw[bW,bW,ja hl fun i x y hx hy=>ih i x y hx hy (cA ht hx)]
 | agg hl hg ih=>intro ht;rw[bW,bW,ja hl fun i x y hx hy=>ih i x y hx hy (cA ht hx)]
 | ao hl hg ih=>intro ht;rw[bW,bW,ja hl fun i x y hx hy=>ih i x y hx hy (cA ht hx)]
 | fn hf h1 h2 g1 g2 i1 i2=>
  intro ht
  simp only[AV.top]at ht
  rw[bW,bW,ja h1 fun i x y hx hy=>i1 i x y hx hy (cA (by omega) hx),ja h2 fun i x y hx hy=>i2 i x y hx hy (cA (by omega) hx)]
theorem Fr.can {S:List Nat}(hr:Fr h S a x):x.top=0->∀{S':List Nat} {y:AV},Fr h S' a y->y.top=0->bW x=bW y:=by
 induction hr with
 | same ht=>exact fun _ S' y hy _=>hy.js ht
 | nil hc=>exact fun _ S' y hy _=>by cases hy <;> simp[bW,dF]
 | sl hb ha hc hl hg hcc ih=>
  intro hx S' y hy hyt
  cases hy with
  | same ht=>simp[AV.top]at ht
  | sl hb' ha' hc' hl' hg' hcc'=>
   rw[ha]at ha'
   cases ha'
   rw[hc]at hc'
   cases hc'
   rw[bW,bW,mZ hl hl' fun i a x y h1 h2 h3=>ih i a x h1 h2 (cA hx h2) (hg' i a y h1 h3) (cA hyt h3)]
 | ptr hb ha hl hg ih=>
  intro hx S' y hy hyt
  cases hy with
  | same ht=>simp[AV.top]at ht
  | ptr hb' ha' hl' hg'=>
   rw[ha]at ha'
   cases ha'
   rw[bW,bW,mZ hl hl' fun i a x y h1 h2 h3=>ih i a x h1 h2 (cA hx h2) (hg' i a y h1 h3) (cA hyt h3)]
 | vs hl hg ih=>
  intro hx S' y hy hyt
  cases hy with
  | same ht=>rw[bW,bW,ja hl.symm fun i x y hx' hy'=>((hg i y x hy' hx').js (cA ht hy')).symm]
  | vs hl' hg'=>rw[bW,bW,mZ hl hl' fun i a x y h1 h2 h3=>ih i a x h1 h2 (cA hx h2) (hg' i a y h1 h3) (cA hyt h3)]
 | agg hl hg ih=>
  intro hx S' y hy hyt
  cases hy with
  | same ht=>rw[bW,bW,ja hl.symm fun i x y hx' hy'=>((hg i y x hy' hx').js (cA ht hy')).symm]
  | agg hl' hg'=>rw[bW,bW,mZ hl hl' fun i a x y h1 h2 h3=>ih i a x h1 h2 (cA hx h2) (hg' i a y h1 h3) (cA hyt h3)]
 | ao hl hg ih=>
  intro hx S' y hy hyt
  cases hy with
  | same ht=>rw[bW,bW,ja hl.symm fun i x y hx' hy'=>((hg i y x hy' hx').js (cA ht hy')).symm]
  | ao hl' hg'=>rw[bW,bW,mZ hl hl' fun i a x y h1 h2 h3=>ih i a x h1 h2 (cA hx h2) (hg' i a y h1 h3) (cA hyt h3)]
 | fn hf h1 h2 g1 g2 i1 i2=>
  intro hx S' y hy hyt
  simp only[AV.top]at hx
  cases hy with
  | same ht=>
   simp only[AV.top]at ht
   rw[bW,bW,ja h1.symm fun i x y hx' hy'=>((g1 i y x hy' hx').js (cA (by omega) hy')).symm,ja h2.symm fun i x y hx' hy'=>((g2 i y x hy' hx').js (cA (by omega) hy')).symm]
  | fn hf' h1' h2' g1' g2'=>
   simp only[AV.top]at hyt
   rw[bW,bW,mZ h1 h1' fun i a x y e1 e2 e3=>i1 i a x e1 e2 (cA (by omega) e2) (g1' i a y e1 e3) (cA (by omega) e3),
     mZ h2 h2' fun i a x y e1 e2 e3=>i2 i a x e1 e2 (cA (by omega) e2) (g2' i a y e1 e3) (cA (by omega) e3)]
def pd:AV->Bool
 | .int _ _=>true
 | .bool _=>true
 | .str _=>true
 | .fn f [] []=>match f with | .yield _=>false|_=>true
 | _=>false
inductive dr (h:ae):AV->AV->Prop
 | atom {a:AV} (ha:pd a=true):dr h a a
 | nil:dr h .ah (.vs [] 0 none)
 | sl {b off len esz:Nat} {cap:Option Nat} {l m m0:List AV} {e:TypeId} (ha:h.at b=some (.cells l e)) (hc:cut l off (len*esz)=some m) (hl:m.length=m0.length)
     (hg:∀(i:Nat) x y,m[i]? = some x->m0[i]? = some y->dr h x y):dr h (.sl b off len esz cap) (.vs m0 len none)
 | vs {l l0:List AV} {n:Nat} {cap:Option Nat} (hl:l.length=l0.length) (hg:∀(i:Nat) x y,l[i]? = some x->l0[i]? = some y->dr h x y):dr h (.vs l n cap) (.vs l0 n cap)
 | agg {l l0:List AV} (hl:l.length=l0.length) (hg:∀(i:Nat) x y,l[i]? = some x->l0[i]? = some y->dr h x y):dr h (.agg l) (.agg l0)
def fJ (h:ae)(l l0:List AV):Prop:=l.length=l0.length/\∀(i:Nat) x y,l[i]? = some x->l0[i]? = some y->dr h x y
theorem fJ.nil:fJ h [] []:=⟨rfl,by simp⟩
theorem fJ.cons {y:AV}(h1:dr h x y)(h2:fJ h l m):fJ h (x::l) (y::m):=by
 refine⟨by simp[h2.1],fun i a b ha hb=>?_⟩
 cases i with
 | zero=>simp at ha hb;subst ha;subst hb;exact h1
 | succ i=>simp at ha hb;exact h2.2 i a b ha hb
theorem Po (h:pd a=true):a.top=0:=by
 cases a with
 | fn f fi ca=>
  cases fi <;> cases ca <;> first|(simp[pd]at h;done)|skip
  cases f <;> first|rfl|cases h
 | _=>first|rfl|cases h
theorem dr.fr (hr:dr h a x):Fr h (List.range h.length) a x:=by
 induction hr with
 | atom ha=>exact .same (Po ha)
 | nil=>exact .nil (fun n hn=>by cases hn)
 | sl ha hc hl hg ih=>exact .sl (List.mem_range.2 (fa ha)) ha hc hl ih (.inr rfl)
 | vs hl hg ih=>exact .vs hl ih
 | agg hl hg ih=>exact .agg hl ih
theorem fJ.fr {l0:List AV}(hr:fJ h l l0):gw h (List.range h.length) l l0:=⟨hr.1,fun i x y hx hy=>(hr.2 i x y hx hy).fr⟩
theorem dr.uniq (hr:dr h a x):∀{y:AV},dr h a y->x=y:=by
 induction hr with
 | atom ha=>intro y hy;cases hy <;> first|rfl|cases ha
 | nil=>intro y hy;cases hy with
   | atom ha=>cases ha
   | nil=>rfl
 | sl ha hc hl hg ih=>
  intro y hy
  cases hy with
  | atom ha=>cases ha
  | sl ha' hc' hl' hg'=>
   rw[ha]at ha'
   cases ha'
   rw[hc]at hc'
   cases hc'
   rw[zD hl hl' fun i a x y h1 h2 h3=>ih i a x h1 h2 (hg' i a y h1 h3)]
 | vs hl hg ih=>
  intro y hy
  cases hy with
  | atom ha=>cases ha
  | vs hl' hg'=>rw[zD hl hl' fun i a x y h1 h2 h3=>ih i a x h1 h2 (hg' i a y h1 h3)]
 | agg hl hg ih=>
  intro y hy
  cases hy with
  | atom ha=>cases ha
  | agg hl' hg'=>rw[zD hl hl' fun i a x y h1 h2 h3=>ih i a x h1 h2 (hg' i a y h1 h3)]
theorem fJ.uniq (h1:fJ h l m)(h2:fJ h l m'):m=m':=
 FO (h1.1.symm.trans h2.1) fun i x y hx hy=>by
  have hi:i<l.length:=by rw[h1.1];exact(List.getElem?_eq_some_iff.1 hx).1
  exact(h1.2 i l[i] x (List.getElem?_eq_getElem hi) hx).uniq (h2.2 i l[i] y (List.getElem?_eq_getElem hi) hy)
theorem fJ.app:∀{l m l' m':List AV},fJ h l m->fJ h l' m'->fJ h (l++l') (m++m')
 | [],[],_,_,_,h2=>h2
 | x::l,y::m,l',m',h1,h2=>.cons (h1.2 0 x y rfl rfl) (fJ.app ⟨by simpa using h1.1,fun i a b ha hb=>h1.2 (i+1) a b ha hb⟩ h2)
 | [],y::m,_,_,h1,_=>by have:=h1.1;simp at this
 | x::l,[],_,_,h1,_=>by have:=h1.1;simp at this
abbrev rq (h:ae)(l:List AV):Prop:=fJ h l l
theorem zF {α:Type}{f:α->List AV}{h:ae}(hf:∀a,rq h (f a)):∀l,rq h (arr f l)
 | []=>.nil
 | a::l=>by rw[jM];exact(hf a).app (zF hf l)
theorem dr.nc {n:Nat}{cap:Option Nat}(hl:rq h l):dr h (.vs l n cap) (.vs l n cap):=.vs rfl hl.2
theorem enter:(∀(f:Nat -> AV) a l,(a::l).map f=f a::l.map f) /\ (∀f:Nat -> AV,[].map f=[]) /\ (∀(a:AV) (l:List AV),(a::l)[0]? = some a) /\ (∀(a:AV) (l:List AV) (n:Nat),(a::l)[n+1]? = l[n]?) /\ (∀n:Nat,([]:List AV)[n]? = none) /\ (∀a b:AV,(some a).getD b=a) /\ ∀b:AV,none.getD b=b:=
  ⟨fun _ _ _=>rfl,fun _=>rfl,fun _ _=>rfl,fun _ _ _=>rfl,fun _=>rfl,fun _ _=>rfl,fun _=>rfl⟩
end Go.Ab

/-
  Own work: contracts by contents that keep nil apart from empty; arguments without blocks.
-/
namespace Go.Ab
variable {l as:List AV} {h:ae} {x:AV} {FT:FuncId->Option cX}
variable {M:aO} {P:Program} {gl:Nat->Option AV}
mutual
def bM:AV->AV
 | .vs l n _=>.vs (cB l) n none
 | .vp l=>.vp (cB l)
 | .agg l=>.agg (cB l)
 | .ao l=>.ao (cB l)
 | .fn f a b=>.fn f (cB a) (cB b)
 | .iface t v=>.iface t (bM v)
 | v=>v
def cB:List AV->List AV
 | []=>[]
 | v::r=>bM v::cB r
end
theorem lK:∀{l m:List AV},l.length=m.length->(∀(i:Nat) x y,l[i]? = some x->m[i]? = some y->bM x=bM y)->cB l=cB m
 | [],[],_,_=>rfl
 | x::l,y::m,hl,h=>by
  rw[cB,cB,h 0 x y rfl rfl,lK (by simpa using hl) fun i a b ha hb=>h (i+1) a b ha hb]
theorem uq {m m':List AV}(h1:l.length=m.length)(h2:l.length=m'.length)(h:∀(i:Nat) a x y,l[i]? = some a->m[i]? = some x->m'[i]? = some y->bM x=bM y):cB m=cB m':=
 lK (h1.symm.trans h2) fun i x y hx hy=>by
  have hi:i<l.length:=by rw[h1];exact(List.getElem?_eq_some_iff.1 hx).1
  exact h i l[i] x y (List.getElem?_eq_getElem hi) hx hy
theorem FQ:∀(l m:List AV),cB (l++m)=cB l++cB m
 | [],m=>rfl
 | x::l,m=>by rw[List.cons_append,cB,cB,FQ l m];rfl
theorem zG {α:Type}{f:α->List AV}(hf:∀a,cB (f a)=f a):∀l,cB (arr f l)=arr f l
 | []=>rfl
 | a::l=>by rw[jM,FQ,hf,zG hf l]
inductive fc (h:ae):AV->AV->Prop
 | same {v:AV} (ht:v.top=0):fc h v v
 | sl {b off len esz:Nat} {cap:Option Nat} {l m m0:List AV} {e:TypeId} (ha:h.at b=some (.cells l e)) (hc:cut l off (len*esz)=some m) (hl:m.length=m0.length)
     (hg:∀(i:Nat) x y,m[i]? = some x->m0[i]? = some y->fc h x y):fc h (.sl b off len esz cap) (.vs m0 len none)
 | vs {l l0:List AV} {n:Nat} {cap:Option Nat} (hl:l.length=l0.length) (hg:∀(i:Nat) x y,l[i]? = some x->l0[i]? = some y->fc h x y):fc h (.vs l n cap) (.vs l0 n cap)
 | agg {l l0:List AV} (hl:l.length=l0.length) (hg:∀(i:Nat) x y,l[i]? = some x->l0[i]? = some y->fc h x y):fc h (.agg l) (.agg l0)
 | ao {l l0:List AV} (hl:l.length=l0.length) (hg:∀(i:Nat) x y,l[i]? = some x->l0[i]? = some y->fc h x y):fc h (.ao l) (.ao l0)
theorem fc.fr {a:AV}(hr:fc h a x):Fr h (List.range h.length) a x:=by
 induction hr with
 | same ht=>exact .same ht
 | sl ha hc hl hg ih=>exact .sl (List.mem_range.2 (fa ha)) ha hc hl ih (.inr rfl)
 | vs hl hg ih=>exact .vs hl ih
 | agg hl hg ih=>exact .agg hl ih
 | ao hl hg ih=>exact .ao hl ih
theorem fc.js {a:AV}(hr:fc h a x):a.top=0->bM a=bM x:=by
 induction hr with
 | same ht=>exact fun _=>rfl
 | sl=>intro ht;simp[AV.top]at ht
 | vs hl hg ih=>intro ht;rw[bM,bM,lK hl fun i x y hx hy=>ih i x y hx hy (cA ht hx)]
 | agg hl hg ih=>intro ht;rw[bM,bM,lK hl fun i x y hx hy=>ih i x y hx hy (cA ht hx)]
 | ao hl hg ih=>intro ht;rw[bM,bM,lK hl fun i x y hx hy=>ih i x y hx hy (cA ht hx)]
theorem fc.can {a:AV}(hr:fc h a x):x.top=0->∀{y:AV},fc h a y->y.top=0->bM x=bM y:=by
 induction hr with
 | same ht=>exact fun _ y hy _=>hy.js ht
 | sl ha hc hl hg ih=>
  intro hx y hy hyt
  cases hy with
  | same ht=>simp[AV.top]at ht
  | sl ha' hc' hl' hg'=>
   rw[ha]at ha'
   cases ha'
   rw[hc]at hc'
   cases hc'
   rw[bM,bM,uq hl hl' fun i a x y h1 h2 h3=>ih i a x h1 h2 (cA hx h2) (hg' i a y h1 h3) (cA hyt h3)]
 | vs hl hg ih=>
  intro hx y hy hyt
  cases hy with
  | same ht=>rw[bM,bM,lK hl.symm fun i x y hx' hy'=>((hg i y x hy' hx').js (cA ht hy')).symm]
  | vs hl' hg'=>rw[bM,bM,uq hl hl' fun i a x y h1 h2 h3=>ih i a x h1 h2 (cA hx h2) (hg' i a y h1 h3) (cA hyt h3)]
 | agg hl hg ih=>
  intro hx y hy hyt
  cases hy with
  | same ht=>rw[bM,bM,lK hl.symm fun i x y hx' hy'=>((hg i y x hy' hx').js (cA ht hy')).symm]
  | agg hl' hg'=>rw[bM,bM,uq hl hl' fun i a x y h1 h2 h3=>ih i a x h1 h2 (cA hx h2) (hg' i a y h1 h3) (cA hyt h3)]
 | ao hl hg ih=>
  intro hx y hy hyt
  cases hy with
  | same ht=>rw[bM,bM,lK hl.symm fun i x y hx' hy'=>((hg i y x hy' hx').js (cA ht hy')).symm]
  | ao hl' hg'=>rw[bM,bM,uq hl hl' fun i a x y h1 h2 h3=>ih i a x h1 h2 (cA hx h2) (hg' i a y h1 h3) (cA hyt h3)]
theorem pf {i:Nat}(h:(dF l)[i]? = some x):∃y,l[i]? = some y/\x=bW y:=by
 induction l generalizing i with
 | nil=>simp[dF]at h
 | cons a l ih=>
  rw[dF]at h
  cases i with
  | zero=>simp at h;exact⟨a,rfl,h.symm⟩
  | succ i=>exact ih (by simpa using h)
theorem nd:∀l:List AV,(dF l).length=l.length
 | []=>rfl
 | a::l=>by rw[dF,List.length_cons,List.length_cons,nd l]
theorem pg {i:Nat}(h:(cB l)[i]? = some x):∃y,l[i]? = some y/\x=bM y:=by
 induction l generalizing i with
 | nil=>simp[cB]at h
 | cons a l ih=>
  rw[cB]at h
  cases i with
  | zero=>simp at h;exact⟨a,rfl,h.symm⟩
  | succ i=>exact ih (by simpa using h)
theorem nf:∀l:List AV,(cB l).length=l.length
 | []=>rfl
 | a::l=>by rw[cB,List.length_cons,List.length_cons,nf l]
section
variable {ρ:az} {w:World} {a:AV} {v:Value}
theorem V.bM (hv:V ρ w a v):V ρ w (bM a) v:=by
 induction hv with
 | cL v=>exact .cL v
 | bool b=>exact .bool b
 | int k n=>exact .int k n
 | str s=>exact .str s
 | dh=>exact .dh
 | ptr o h=>exact .ptr o h
 | dO o c o' h=>exact .dO o c o' h
 | vp c o g hf hc hg ih=>
  exact .vp c o g (fun h=>hf fun e=>h (by rw[e];rfl)) (fun i hi=>hc i (by rwa [nf]at hi)) fun i x hx=>by
   obtain⟨y,hy,rfl⟩:=pg hx
   exact ih i y hy
 | ah=>exact .ah
 | sl h hl hcap hb=>exact .sl h hl hcap hb
 | fk h=>exact .fk h
 | dZ c o' h hl hcap=>exact .dZ c o' h hl hcap
 | ff h=>exact .ff h
 | fl a h=>exact .fl a h
 | vs c o g hf hl hcap hc hg ih=>
  exact .vs c o g (fun h=>hf fun e=>h (by rw[e];rfl)) hl (fun n hn=>by cases hn) (fun i hi=>hc i (by rwa [nf]at hi)) fun i x hx=>by
   obtain⟨y,hy,rfl⟩:=pg hx
   exact ih i y hy
 | dT hcap=>exact .dT (fun n hn=>by cases hn)
 | fm a hcap=>exact .fm a (fun n hn=>by cases hn)
 | dW=>exact .dW
 | map h=>exact .map h
 | gI c h=>exact .gI c h
 | yield h=>exact .yield h
 | fn hf h1 h2 g1 g2 i1 i2=>
  exact .fn hf (by rw[nf];exact h1) (by rw[nf];exact h2) (fun i x y hx hy=>by
   obtain⟨z,hz,rfl⟩:=pg hx
   exact i1 i z y hz hy) fun i x y hx hy=>by
   obtain⟨z,hz,rfl⟩:=pg hx
   exact i2 i z y hz hy
 | gp c h=>exact .gp c h
 | fx=>exact .fx
 | iface h ih=>exact .iface ih
 | cU=>exact .cU
 | agg h g ih=>
  exact .agg (by rw[nf];exact h) fun i x y hx hy=>by
   obtain⟨z,hz,rfl⟩:=pg hx
   exact ih i z y hz hy
 | ao h g ih=>
  exact .ao (by rw[nf];exact h) fun i x y hx hy=>by
   obtain⟨z,hz,rfl⟩:=pg hx
   exact ih i z y hz hy
theorem V.bW (hv:V ρ w a v):V ρ w (bW a) v:=by
 induction hv with
 | cL v=>exact .cL v
 | bool b=>exact .bool b
 | int k n=>exact .int k n
 | str s=>exact .str s
 | dh=>exact .dh
 | ptr o h=>exact .ptr o h
 | dO o c o' h=>exact .dO o c o' h
 | vp c o g hf hc hg ih=>
  exact .vp c o g (fun h=>hf fun e=>h (by rw[e];rfl)) (fun i hi=>hc i (by rwa [nd]at hi)) fun i x hx=>by
   obtain⟨y,hy,rfl⟩:=pf hx
   exact ih i y hy
 | ah=>exact .dT (fun n hn=>by cases hn)
 | sl h hl hcap hb=>exact .sl h hl hcap hb
 | fk h=>exact .fk h
 | dZ c o' h hl hcap=>exact .dZ c o' h hl hcap
 | ff h=>exact .ff h
 | fl a h=>exact .fl a h
 | vs c o g hf hl hcap hc hg ih=>
  exact .vs c o g (fun h=>hf fun e=>h (by rw[e];rfl)) hl (fun n hn=>by cases hn) (fun i hi=>hc i (by rwa [nd]at hi)) fun i x hx=>by
   obtain⟨y,hy,rfl⟩:=pf hx
   exact ih i y hy
 | dT hcap=>exact .dT (fun n hn=>by cases hn)
 | fm a hcap=>exact .fm a (fun n hn=>by cases hn)
 | dW=>exact .dW
 | map h=>exact .map h
 | gI c h=>exact .gI c h
 | yield h=>exact .yield h
 | fn hf h1 h2 g1 g2 i1 i2=>
  exact .fn hf (by rw[nd];exact h1) (by rw[nd];exact h2) (fun i x y hx hy=>by
   obtain⟨z,hz,rfl⟩:=pf hx
   exact i1 i z y hz hy) fun i x y hx hy=>by
   obtain⟨z,hz,rfl⟩:=pf hx
   exact i2 i z y hz hy
 | gp c h=>exact .gp c h
 | fx=>exact .fx
 | iface h ih=>exact .iface ih
 | cU=>exact .cU
 | agg h g ih=>
  exact .agg (by rw[nd];exact h) fun i x y hx hy=>by
   obtain⟨z,hz,rfl⟩:=pf hx
   exact ih i z y hz hy
 | ao h g ih=>
  exact .ao (by rw[nd];exact h) fun i x y hx hy=>by
   obtain⟨z,hz,rfl⟩:=pf hx
   exact ih i z y hz hy
end
theorem FU {f:Nat}{h':ae}{v v':AV}{wr:List Nat}(hv:∀ρ w x,V ρ w v x->V ρ w v' x)(he:bN P gl ⟨f,as,h,⟨v,h',wr⟩⟩):bN P gl ⟨f,as,h,⟨v',h',wr⟩⟩:=by
 refine⟨he.1,fun ρ w as' m ha=>?_⟩
 obtain⟨nx,w1,g1,g2⟩:=he.2 ρ w as' m ha
 refine⟨nx,w1,g1,g2.mono fun x w' hd=>?_⟩
 obtain⟨ρ',h1,h2,h3⟩:=hd
 exact⟨ρ',hv _ _ _ h1,h2,h3⟩
def FV (P:Program)(FT:FuncId->Option cX)(T:List (Nat×Spec))(g:Nat)(as0:List AV)(v0:AV):Prop:=∃v hh v1,aZ (bw P FT T) g as0 [] ⟨v,hh,[]⟩/\iG hh v v1/\v1.top=0/\bW v1=v0
def Pp (P:Program)(FT:FuncId->Option cX)(T:List (Nat×Spec))(g:Nat)(as:List AV)(h:ae)(r:HR):Prop:=∃as0 v0,fJ h as as0/\FV P FT T g as0 v0/\r=⟨v0,h,[]⟩
noncomputable def ru (P:Program)(FT:FuncId->Option cX)(T:List (Nat×Spec))(g:Nat):Spec:=mY (Pp P FT T g)
theorem Pq (hs:jo P gl FT){T:List (Nat×Spec)}(hT:cm P gl (bk T)){g:Nat}:aW P gl g (ru P FT T g):=zA fun as h r ⟨as0,v0,hf,⟨v,hh,v1,hr,hn,ht,hc⟩,e⟩=>by
 subst e;subst hc
 exact FU (fun _ _ _ h=>h.bW) (Pn hs hT hr hf.fr hn ht)
theorem ry {T:List (Nat×Spec)}{g:Nat}{as0:List AV}{v0:AV}(hf:fJ h as as0)(hr:FV P FT T g as0 v0):ru P FT T g as h=some ⟨v0,h,[]⟩:=
 zB ⟨as0,v0,hf,hr,rfl⟩ fun r' ⟨as0',v0',hf',hr',e⟩=>by
  cases hf.uniq hf'
  obtain⟨v,hh,v1,r1,⟨B,f1,_⟩,t1,c1⟩:=hr
  obtain⟨v',hh',v1',r2,⟨B',f2,_⟩,t2,c2⟩:=hr'
  cases r1.zC r2
  rw[e,←c1,←c2,f1.can t1 f2 t2]
def zH (P:Program)(FT:FuncId->Option cX)(T:List (Nat×Spec))(g:Nat)(as:List AV)(v0:AV):Prop:=∃v hh v1,aZ (bw P FT T) g as [] ⟨v,hh,[]⟩/\fc hh v v1/\br as=0/\v1.top=0/\bM v1=v0
def Pr (P:Program)(FT:FuncId->Option cX)(T:List (Nat×Spec))(g:Nat)(as:List AV)(h:ae)(r:HR):Prop:=∃v0,zH P FT T g as v0/\r=⟨v0,h,[]⟩
noncomputable def ph (P:Program)(FT:FuncId->Option cX)(T:List (Nat×Spec))(g:Nat):Spec:=mY (Pr P FT T g)
theorem Ps (hs:jo P gl FT){T:List (Nat×Spec)}(hT:cm P gl (bk T)){g:Nat}:aW P gl g (ph P FT T g):=zA fun as h r ⟨v0,⟨v,hh,v1,hr,hf,ha,ht,hc⟩,e⟩=>by
 subst e;subst hc
 exact FU (fun _ _ _ h=>h.bM) (Pj hs hT hr ha hf.fr ht)
theorem ur {T:List (Nat×Spec)}{g:Nat}{v0:AV}(hr:zH P FT T g as v0):ph P FT T g as h=some ⟨v0,h,[]⟩:=
 zB ⟨v0,hr,rfl⟩ fun r' ⟨v0',hr',e⟩=>by
  obtain⟨v,hh,v1,r1,f1,_,t1,c1⟩:=hr
  obtain⟨v',hh',v1',r2,f2,_,t2,c2⟩:=hr'
  cases r1.zC r2
  rw[e,←c1,←c2,f1.can t1 f2 t2]
end Go.Ab

/-
  Own work: contracts by direct runs that leave the heap as it is; contracts by cases of the arguments.
-/
namespace Go.Ab
variable {FT:FuncId->Option cX} {T:List (Nat×Spec)} {g:Nat} {as:List AV} {h:ae} {v:AV} {c:List AV->Prop} {s1 s2:Spec}
variable {M:aO} {P:Program} {gl:Nat->Option AV}
def Pt (P:Program)(FT:FuncId->Option cX)(T:List (Nat×Spec))(g:Nat)(as:List AV)(h:ae)(r:HR):Prop:=aZ (bw P FT T) g as h r/\r.h=h/\r.wr=[]
noncomputable def zI (P:Program)(FT:FuncId->Option cX)(T:List (Nat×Spec))(g:Nat):Spec:=mY (Pt P FT T g)
theorem Pu (hs:jo P gl FT){T:List (Nat×Spec)}(hT:cm P gl (bk T)){g:Nat}:aW P gl g (zI P FT T g):=zA fun as h r ⟨hr,hh,hw⟩=>
 oK hs hT hr ⟨by rw[hh];exact Nat.le_refl _,fun b _ _=>by rw[hh]⟩
theorem Pv (hr:aZ (bw P FT T) g as h ⟨v,h,[]⟩):zI P FT T g as h=some ⟨v,h,[]⟩:=
 zB ⟨hr,rfl,rfl⟩ fun r' ⟨hr',_,_⟩=>hr'.zC hr
noncomputable def rz (c:List AV->Prop)(s1 s2:Spec):Spec:=fun as h=>open Classical in if c as then s1 as h else s2 as h
theorem Pw (h1:aW P gl g s1)(h2:aW P gl g s2):aW P gl g (rz c s1 s2):=by
 intro as h r hq
 unfold rz at hq
 split at hq
 . exact h1 as h r hq
 . exact h2 as h r hq
theorem Px (hc:c as):rz c s1 s2 as h=s1 as h:=if_pos hc
theorem Py (hc:¬c as):rz c s1 s2 as h=s2 as h:=if_neg hc
theorem iG.two {hh:ae}{x y x1 y1:AV}(hx:iG hh x x1)(hy:iG hh y y1):iG hh (.ao [x,y]) (.ao [x1,y1]):=by
 obtain⟨B1,f1,n1,g1⟩:=hx
 obtain⟨B2,f2,n2,g2⟩:=hy
 refine⟨B1++B2,.ao rfl (fun i a b ha hb=>?_),by simp[db,fg,n1,n2],fun b l e hb hl=>?_⟩
 . match i with
   | 0=>cases ha;cases hb;exact f1.mono fun _ h=>List.mem_append.2 (.inl h)
   | 1=>cases ha;cases hb;exact f2.mono fun _ h=>List.mem_append.2 (.inr h)
   | i+2=>cases ha
 . rcases List.mem_append.1 hb with h|h
   . exact g1 b l e h hl
   . exact g2 b l e h hl
theorem cz (hr:aZ (bw P FT T) g as [] ⟨v,[],[]⟩)(ha:br as=0)(ht:v.top=0)(hc:bM v=v)(h:ae):ph P FT T g as h=some ⟨v,h,[]⟩:=
 ur ⟨v,[],v,hr,.same ht,ha,ht,hc⟩
theorem uu {as0:List AV}(hr:aZ (bw P FT T) g as0 [] ⟨v,[],[]⟩)(ht:v.top=0)(hn:db v=true)(hc:bW v=v){h:ae}(hf:fJ h as as0):ru P FT T g as h=some ⟨v,h,[]⟩:=
 ry hf ⟨v,[],v,hr,.same ht hn,ht,hc⟩
end Go.Ab

/-
  Own work: unsigned words of 64 binary digits in the calculus of runs: sums, products, shifts, masks.
-/
namespace Go.Ab
variable {n:Nat}
variable {M:aO} {t:Nat} {x y:aN} {l:List aU} {pe:List AV} {lo:List (Nat×AV)} {hp:ae} {df wr:List Nat} {k:IntKind} {a b:Int} {Q:aq->Prop}
theorem nh (a:Int):IntKind.u64.wrap a=a%18446744073709551616:=by
 simp only[IntKind.wrap,IntKind.bits,IntKind.signed]
 simp
theorem pj {a:Int}(h:0<=a/\a<18446744073709551616):IntKind.u64.wrap a=a:=by rw[nh];omega
theorem WO.zJ (hx:(St.mk pe lo hp df).aa x=some (.int .u64 a))(hy:(St.mk pe lo hp df).aa y=some (.int .u64 b))
 (h:WO M l ⟨⟨pe,(t,.int .u64 ((a+b)%18446744073709551616))::lo,hp,df⟩,wr⟩ Q):WO M (⟨.l t,.bin .add x y,none⟩::l) ⟨⟨pe,lo,hp,df⟩,wr⟩ Q:=
 WO.pl (v:=.int .u64 ((a+b)%18446744073709551616)) (by simp[aV,hx,hy,cE,nh]) rfl h
theorem WO.gM (hx:(St.mk pe lo hp df).aa x=some (.int .u64 a))(hy:(St.mk pe lo hp df).aa y=some (.int .u64 b))(hr:0<=a+b/\a+b<18446744073709551616)
 (h:WO M l ⟨⟨pe,(t,.int .u64 (a+b))::lo,hp,df⟩,wr⟩ Q):WO M (⟨.l t,.bin .add x y,none⟩::l) ⟨⟨pe,lo,hp,df⟩,wr⟩ Q:=
 WO.pl (v:=.int .u64 (a+b)) (by simp[aV,hx,hy,cE,pj hr]) rfl h
theorem WO.FW (hx:(St.mk pe lo hp df).aa x=some (.int .u64 a))(hy:(St.mk pe lo hp df).aa y=some (.int .u64 b))
 (h:WO M l ⟨⟨pe,(t,.int .u64 ((a-b)%18446744073709551616))::lo,hp,df⟩,wr⟩ Q):WO M (⟨.l t,.bin .sub x y,none⟩::l) ⟨⟨pe,lo,hp,df⟩,wr⟩ Q:=
 WO.pl (v:=.int .u64 ((a-b)%18446744073709551616)) (by simp[aV,hx,hy,cE,nh]) rfl h
theorem WO.iH (hx:(St.mk pe lo hp df).aa x=some (.int .u64 a))(hy:(St.mk pe lo hp df).aa y=some (.int .u64 b))(hr:0<=a-b/\a-b<18446744073709551616)
 (h:WO M l ⟨⟨pe,(t,.int .u64 (a-b))::lo,hp,df⟩,wr⟩ Q):WO M (⟨.l t,.bin .sub x y,none⟩::l) ⟨⟨pe,lo,hp,df⟩,wr⟩ Q:=
 WO.pl (v:=.int .u64 (a-b)) (by simp[aV,hx,hy,cE,pj hr]) rfl h
theorem WO.zK (hx:(St.mk pe lo hp df).aa x=some (.int .u64 a))(hy:(St.mk pe lo hp df).aa y=some (.int .u64 b))
 (h:WO M l ⟨⟨pe,(t,.int .u64 ((a*b)%18446744073709551616))::lo,hp,df⟩,wr⟩ Q):WO M (⟨.l t,.bin .mul x y,none⟩::l) ⟨⟨pe,lo,hp,df⟩,wr⟩ Q:=
 WO.pl (v:=.int .u64 ((a*b)%18446744073709551616)) (by simp[aV,hx,hy,cE,nh]) rfl h
theorem WO.gk (hx:(St.mk pe lo hp df).aa x=some (.int .u64 a))(hy:(St.mk pe lo hp df).aa y=some (.int .u64 b))(hr:0<=a*b/\a*b<18446744073709551616)
 (h:WO M l ⟨⟨pe,(t,.int .u64 (a*b))::lo,hp,df⟩,wr⟩ Q):WO M (⟨.l t,.bin .mul x y,none⟩::l) ⟨⟨pe,lo,hp,df⟩,wr⟩ Q:=
 WO.pl (v:=.int .u64 (a*b)) (by simp[aV,hx,hy,cE,pj hr]) rfl h
theorem WO.uv (hx:(St.mk pe lo hp df).aa x=some (.int .u64 a))(hy:(St.mk pe lo hp df).aa y=some (.int .u64 b))(ha:0<=a/\a<18446744073709551616)(hb:0<b)
 (h:WO M l ⟨⟨pe,(t,.int .u64 (a/b))::lo,hp,df⟩,wr⟩ Q):WO M (⟨.l t,.bin .quo x y,none⟩::l) ⟨⟨pe,lo,hp,df⟩,wr⟩ Q:=by
 refine WO.pl (v:=.int .u64 (a/b)) ?_ rfl h
 have h1:0<=a/b:=Int.ediv_nonneg ha.1 (Int.le_of_lt hb)
 have h2:a/b<=a:=Int.ediv_le_self _ ha.1
 have h3:¬b=0:=by omega
 simp only[aV,hx,hy,cE,if_true,if_neg h3]
 rw[Int.tdiv_eq_ediv_of_nonneg ha.1,pj ⟨h1,by omega⟩]
theorem WO.FX (hx:(St.mk pe lo hp df).aa x=some (.int .u64 a))(hy:(St.mk pe lo hp df).aa y=some (.int .u64 b))(ha:0<=a)(hb:0<b)
 (h:WO M l ⟨⟨pe,(t,.int .u64 (a%b))::lo,hp,df⟩,wr⟩ Q):WO M (⟨.l t,.bin .rem x y,none⟩::l) ⟨⟨pe,lo,hp,df⟩,wr⟩ Q:=by
 refine WO.pl (v:=.int .u64 (a%b)) ?_ rfl h
 have h3:¬b=0:=by omega
 simp only[aV,hx,hy,cE,if_true,if_neg h3]
 rw[Int.tmod_eq_emod_of_nonneg ha]
theorem WO.pk (hx:(St.mk pe lo hp df).aa x=some (.int .u64 a))(hy:(St.mk pe lo hp df).aa y=some (.int k b))(hb:b=n)(hn:n<=64)
 (h:WO M l ⟨⟨pe,(t,.int .u64 (a/2^n))::lo,hp,df⟩,wr⟩ Q):WO M (⟨.l t,.bin .shr x y,none⟩::l) ⟨⟨pe,lo,hp,df⟩,wr⟩ Q:=by
 refine WO.pl (v:=.int .u64 (a/2^n)) ?_ rfl h
 subst hb
 have h3:¬((n:Int)<0):=by omega
 have h4:min ((n:Int).toNat) IntKind.u64.bits=n:=by
  show min ((n:Int).toNat) 64=n
  omega
 simp only[aV,hx,hy,cE,if_neg h3,h4]
 rw[Int.fdiv_eq_ediv_of_nonneg _ (Int.le_of_lt (Int.pow_pos (by decide)))]
theorem WO.uw (hx:(St.mk pe lo hp df).aa x=some (.int .u64 a))(hy:(St.mk pe lo hp df).aa y=some (.int k b))(hb:b=n)(hn:n<=64)
 (h:WO M l ⟨⟨pe,(t,.int .u64 ((a*2^n)%18446744073709551616))::lo,hp,df⟩,wr⟩ Q):WO M (⟨.l t,.bin .shl x y,none⟩::l) ⟨⟨pe,lo,hp,df⟩,wr⟩ Q:=by
 refine WO.pl (v:=.int .u64 ((a*2^n)%18446744073709551616)) ?_ rfl h
 subst hb
 have h3:¬((n:Int)<0):=by omega
 have h4:min ((n:Int).toNat) IntKind.u64.bits=n:=by
  show min ((n:Int).toNat) 64=n
  omega
 simp only[aV,hx,hy,cE,if_neg h3,h4,nh]
theorem WO.rA {c:Int}(hx:(St.mk pe lo hp df).aa x=some (.int .u64 a))(hy:(St.mk pe lo hp df).aa y=some (.int k b))(hb:b=n)(hn:n<=64)(hc:(2:Int)^n=c)
 (h:WO M l ⟨⟨pe,(t,.int .u64 (a/c))::lo,hp,df⟩,wr⟩ Q):WO M (⟨.l t,.bin .shr x y,none⟩::l) ⟨⟨pe,lo,hp,df⟩,wr⟩ Q:=by
 subst hc
 exact WO.pk hx hy hb hn h
theorem pn:BitVec.ofInt 64 (n:Int)=BitVec.ofNat 64 n:=by
 apply BitVec.eq_of_toNat_eq;simp[BitVec.toNat_ofInt]
theorem WO.FY (hx:(St.mk pe lo hp df).aa x=some (.int .u64 a))(hy:(St.mk pe lo hp df).aa y=some (.int .u64 4294967295))(ha:0<=a/\a<18446744073709551616)
 (h:WO M l ⟨⟨pe,(t,.int .u64 (a%4294967296))::lo,hp,df⟩,wr⟩ Q):WO M (⟨.l t,.bin .and x y,none⟩::l) ⟨⟨pe,lo,hp,df⟩,wr⟩ Q:=by
 refine WO.pl (v:=.int .u64 (a%4294967296)) ?_ rfl h
 obtain⟨n,rfl⟩:=Int.eq_ofNat_of_zero_le ha.1
 have e:(BitVec.ofInt 64 (n:Int) &&& BitVec.ofInt 64 4294967295).toNat=n%4294967296:=by
  rw[pn,show (4294967295:Int)=((4294967295:Nat):Int) from rfl,pn,BitVec.toNat_and,BitVec.toNat_ofNat,BitVec.toNat_ofNat,Nat.mod_eq_of_lt (show n<2^64 by omega),Nat.mod_eq_of_lt (show 4294967295<2^64 by decide)]
  exact Nat.and_two_pow_sub_one_eq_mod n 32
 simp only[aV,hx,hy,cE,if_true]
 show some (AV.int .u64 (IntKind.u64.wrap ((BitVec.ofInt 64 (n:Int) &&& BitVec.ofInt 64 4294967295).toNat:Int)))=_
 rw[e,pj (by omega)]
 rfl
theorem WO.FZ (m:Nat)(hx:(St.mk pe lo hp df).aa x=some (.int .u64 a))(hy:(St.mk pe lo hp df).aa y=some (.int .u64 b))(ha:0<=a/\a<18446744073709551616)(hb:0<=b/\b<2^m)(hm:m<=64)(hd:a%2^m=0)
 (h:WO M l ⟨⟨pe,(t,.int .u64 (a+b))::lo,hp,df⟩,wr⟩ Q):WO M (⟨.l t,.bin .or x y,none⟩::l) ⟨⟨pe,lo,hp,df⟩,wr⟩ Q:=by
 refine WO.pl (v:=.int .u64 (a+b)) ?_ rfl h
 obtain⟨n,rfl⟩:=Int.eq_ofNat_of_zero_le ha.1
 obtain⟨p,rfl⟩:=Int.eq_ofNat_of_zero_le hb.1
 have hp2:p<2^m:=by have:=hb.2;exact_mod_cast this
 have h64:2^m<=2^64:=Nat.pow_le_pow_right (by decide) hm
 have hd':n%2^m=0:=by exact_mod_cast hd
 obtain⟨q,hq⟩:∃q,n=2^m*q:=⟨n/2^m,by have:=Nat.div_add_mod n (2^m);omega⟩
 have hsum:n+p<2^64:=by
  have h1:n<2^64:=by omega
  obtain⟨r,hr⟩:∃r,2^64=2^m*2^r:=⟨64-m,by rw[←Nat.pow_add];congr 1;omega⟩
  rw[hq,hr]at h1
  have h2:q<2^r:=Nat.lt_of_mul_lt_mul_left h1
  have h3:2^m*(q+1)<=2^m*2^r:=Nat.mul_le_mul_left _ h2
  rw[Nat.mul_add]at h3
  omega
 have e:(BitVec.ofInt 64 (n:Int) ||| BitVec.ofInt 64 (p:Int)).toNat=n+p:=by
  rw[pn,pn,BitVec.toNat_or,BitVec.toNat_ofNat,BitVec.toNat_ofNat,Nat.mod_eq_of_lt (show n<2^64 by omega),Nat.mod_eq_of_lt (show p<2^64 by omega),hq]
  exact(Nat.two_pow_add_eq_or_of_lt hp2 q).symm
 simp only[aV,hx,hy,cE,if_true]
 show some (AV.int .u64 (IntKind.u64.wrap ((BitVec.ofInt 64 (n:Int) ||| BitVec.ofInt 64 (p:Int)).toNat:Int)))=_
 rw[e,pj (by omega)]
 rfl
theorem WO.Pz (hx:(St.mk pe lo hp df).aa x=some (.int k a))(h:WO M l ⟨⟨pe,(t,.int .u64 (a%18446744073709551616))::lo,hp,df⟩,wr⟩ Q):WO M (⟨.l t,.du .u64 x,none⟩::l) ⟨⟨pe,lo,hp,df⟩,wr⟩ Q:=
 WO.pl (v:=.int .u64 (a%18446744073709551616)) (by simp only[aV,hx,Option.bind_some,kQ,nh]) rfl h
theorem PA {a:Int}:IntKind.u8.wrap a=a%256:=by
 simp only[IntKind.wrap,IntKind.bits,IntKind.signed]
 simp
theorem WO.Ga (hx:(St.mk pe lo hp df).aa x=some (.int k a))(h:WO M l ⟨⟨pe,(t,.int .u8 (a%256))::lo,hp,df⟩,wr⟩ Q):WO M (⟨.l t,.du .u8 x,none⟩::l) ⟨⟨pe,lo,hp,df⟩,wr⟩ Q:=
 WO.pl (v:=.int .u8 (a%256)) (by simp only[aV,hx,Option.bind_some,kQ,PA]) rfl h
end Go.Ab

/-
  Own work: a contract of the kit's shelf ('the call returns this, and nothing below has turned') as a contract of the abstract machine.
-/
namespace Go.Ab
open Go.RowKit
variable {P:Program} {gl:Nat->Option AV} {ρ:az} {h:ae} {w w':World}
end Go.Ab
