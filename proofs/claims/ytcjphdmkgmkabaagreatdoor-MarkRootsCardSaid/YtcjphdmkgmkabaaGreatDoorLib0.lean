/-
  Own work: an abstract machine for the calls of a translated Go program: values by content, a heap of the blocks that the call itself has made, and an evaluator of resolved code. Definitions only.
-/
import GoSem.Step
import Derived.Laws.Sem
import Derived.CallsIn
import Derived.RangeFuncIn
import Derived.OrdersIn
set_option maxHeartbeats 8000000
set_option maxRecDepth 20000
namespace Go.Ab
inductive AV where
 | cz
 | bool (b:Bool)
 | int (k:IntKind) (n:Int)
 | str (s:List UInt8)
 | dE
 | ptr (b off:Nat)
 | vp (l:List AV)
 | ae
 | sl (b off len esz:Nat) (cap:Option Nat)
 | vs (l:List AV) (len:Nat) (cap:Option Nat)
 | dL
 | map (b:Nat)
 | fn (f:Fn) (first captured:List AV)
 | fa
 | iface (t:TypeId) (v:AV)
 | cZ
 | agg (l:List AV)
 | aq (l:List AV)
 deriving Inhabited
inductive ax where
 | p (i:Nat)
 | l (t:Nat)
 | c (v:AV)
 deriving Inhabited
inductive Dp where
 | ptr|slice|map|func
 deriving Inhabited
inductive fS where
 | bool|int|str|ref (k:Dp)|iface (guard:Bool)
 | wL (fs:List (Nat×Nat×Bool×fS))
 deriving Inhabited
inductive kb where
 | str|sl|arr (n:Nat)
 deriving Inhabited
inductive gE where
 | int|str
 deriving Inhabited
inductive aS where
 | mv (x:ax)
 | pick (c a b:ax)
 | bin (op:BinOp) (x y:ax)
 | eq (neg:Bool) (t:fS) (x y:ax)
 | un (op:UnOp) (x:ax)
 | dM (k:IntKind) (x:ax)
 | wM (x:ax)
 | wN (x:ax)
 | mN (elem:TypeId) (x:ax)
 | mO (x:ax)
 | mP (u:Option (TypeId×Nat)) (x:ax)
 | mQ (neg:Bool) (x y:ax)
 | wO (x:ax)
 | pg (e:TypeId) (x n:ax)
 | ph (esz:Nat) (z:List AV) (x:ax)
 | wP (x:ax)
 | field (off n:Nat) (agg:Bool) (x:ax)
 | mR (off:Nat) (x:ax)
 | dX (arr:Option Nat) (esz:Nat) (x i:ax)
 | index (x i:ax)
 | wQ (len esz:Nat) (agg:Bool) (x i:ax)
 | slice (k:kb) (esz:Nat) (x:ax) (lo hi mx:Option ax)
 | extract (i:Nat) (x:ax)
 | pj (t:TypeId) (x:ax)
 | wR (t:TypeId) (z:AV) (ok:Bool) (x:ax)
 | pk (f:Fn) (first captured:List ax)
 | build (zero:List AV) (ps:List (Nat×Nat×ax))
 | len (k:kb) (x:ax)
 | cap (x:ax)
 | mm (max:Bool) (xs:List ax)
 | alloc (elem:TypeId) (zero:List AV)
 | box (elem:TypeId) (n:Nat) (x:ax)
 | dT (elem:TypeId) (len esz:Nat) (zero:List AV) (ps:List (Nat×Nat×ax))
 | load (n:Nat) (agg:Bool) (x:ax)
 | store (n:Nat) (x y:ax)
 | kX
 | fK (elem:TypeId) (esz bytes:Nat) (zero:List AV) (l c:ax)
 | lookup (k:gE) (zero:AV) (x i:ax) (ok:Bool)
 | pn (k:gE) (m i x:ax)
 | range (x:ax)
 | next (x:ax)
 | append (elem:TypeId) (esz bytes:Nat) (x y:ax)
 | copy (esz:Nat) (x y:ax)
 | jE (n esz:Nat) (x:ax) (lo hi:Option ax)
 | po (x:ax)
 | call (f:ax) (args:List ax)
 | invoke (x:ax) (name:String) (args:List ax)
 deriving Inhabited
inductive dU where
 | no|p (i:Nat)|l (t:Nat)
 deriving Inhabited
structure aO where
 dst:dU
 op:aS
 guard:Option (ax×Bool)
 deriving Inhabited
inductive an where
 | skip
 | region (ops:List aO)
 | draw (ops:List (aO×List Nat))
 | seq (a b:an)
 | cond (c:ax) (thn els:an)
 | block (id:Nat) (body:an)
 | loop (body:an)
 | exit (id:Nat)
 | ret
 | rangeFunc (inner:Bool) (f:ax) (ps:List dU) (assign body:an)
 | bad
 deriving Inhabited
inductive Ex where
 | normal|exit (id:Nat)|ret
 deriving DecidableEq,Inhabited
inductive bc where
 | cells (l:List AV) (elem:TypeId)
 | map (es:List (AV×AV))
 | iter (s:List UInt8) (pos:Nat)
 | fA
 | hole
 | loop (st:LoopState) (pend:Option Ex) (pe:List AV) (ps:List dU) (assign body:an)
 deriving Inhabited
abbrev ab:=List (Option bc)
inductive fc where
 | var (x:ax)
 | cell (n:Nat) (agg:Bool) (x:ax)
 deriving Inhabited
structure cK where
 N:Nat
 az:List Nat
 results:List fc
 body:an
 deriving Inhabited
structure St where
 pe:List AV
 lo:List (Nat×AV)
 hp:ab
 bA:List Nat:=[]
 deriving Inhabited
def St.aa (s:St):ax->Option AV
 | .p i=>s.pe[i]?
 | .l t=>s.lo.lookup t
 | .c v=>some v
def St.bY (s:St):List ax->Option (List AV)
 | []=>some []
 | x::xs=>match s.aa x with
   | some v=>match s.bY xs with
     | some vs=>some (v::vs)
     | none=>none
   | none=>none
def St.cE (s:St):Option ax->Option (Option AV)
 | none=>some none
 | some x=>(s.aa x).map some
def St.put (s:St)(d:dU)(v:AV):St:=
 match d with
 | .no=>s
 | .p i=>{ s with pe:=s.pe.set i v }
 | .l t=>{ s with lo:=(t,v)::s.lo }
def AV.cells:AV->Option (List AV)
 | .cz=>none
 | .agg l=>some l
 | v=>some [v]
def cw:AV->Bool
 | .cz | .agg _ | .aq _=>false
 | _=>true
def cut (l:List AV)(off n:Nat):Option (List AV):=
 let r:=(l.drop off).take n
 if r.length=n then some r else none
def partOf (l:List AV)(off n:Nat)(agg:Bool):Option AV:=
 if agg then (cut l off n).map .agg else l[off]?
def overwrite (l:List AV)(off:Nat)(new:List AV):List AV:=
 l.take off++new++l.drop (off+new.length)
def jF:List AV->List (Nat×Nat×AV)->Option (List AV)
 | cs,[]=>some cs
 | cs,(off,n,v)::rest=>match v.cells with
   | some l=>if l.length=n/\off+n<=cs.length then jF (overwrite cs off l) rest else none
   | none=>none
def St.parts (s:St):List (Nat×Nat×ax)->Option (List (Nat×Nat×AV))
 | []=>some []
 | (o,n,x)::r=>match s.aa x with
   | some v=>match s.parts r with
     | some vs=>some ((o,n,v)::vs)
     | none=>none
   | none=>none
def pq:AV->Option Int
 | .int _ n=>some n
 | _=>none
def ab.at (h:ab)(b:Nat):Option bc:=(h[b]?).join
def ew (h:ab):AV->Option (List AV)
 | .ptr b off=>match h.at b with|some (.cells l _)=>some (l.drop off)|_=>none
 | .vp l=>some l
 | _=>none
def dF (h:ab):AV->Option (List AV×Nat)
 | .ae=>some ([],0)
 | .vs l n _=>some (l,n)
 | .sl b off n esz _=>match h.at b with
   | some (.cells l _)=>(cut l off (n*esz)).map (·,n)
   | _=>if n=0 then some ([],0) else none
 | .str s=>some (s.map fun c=>.int .u8 c.toNat,s.length)
 | _=>none
def im:Dp->AV->AV->Option Bool
 | .ptr,.dE,.dE=>some true
 | .ptr,.dE,.ptr _ _=>some false
 | .ptr,.dE,.vp _=>some false
 | .ptr,.ptr _ _,.dE=>some false
 | .ptr,.vp _,.dE=>some false
 | .slice,.ae,.ae=>some true
 | .slice,.ae,.sl _ _ (_+1) _ _=>some false
 | .slice,.sl _ _ (_+1) _ _,.ae=>some false
 | .slice,.ae,.sl _ _ 0 _ (some _)=>some false
 | .slice,.sl _ _ 0 _ (some _),.ae=>some false
 | .slice,.ae,.vs (_::_) _ _=>some false
 | .slice,.vs (_::_) _ _,.ae=>some false
 | .map,.dL,.dL=>some true
 | .map,.dL,.map _=>some false
 | .map,.map _,.dL=>some false
 | .func,.fa,.fa=>some true
 | .func,.fa,.fn _ _ _=>some false
 | .func,.fn _ _ _,.fa=>some false
 | _,_,_=>none
def goEq (rec:fS->AV->AV->Option Bool):List (Nat×Nat×Bool×fS)->List AV->List AV->Option Bool
 | [],_,_=>some true
 | (off,n,ag,t)::rest,xs,ys=>
  match partOf xs off n ag,partOf ys off n ag with
  | some x,some y=>match rec t x y with
    | some true=>goEq rec rest xs ys
    | some false=>some false
    | none=>none
  | _,_=>none
def dG:Nat->fS->AV->AV->Option Bool
 | 0,_,_,_=>none
 | d+1,t,x,y=>
  match t,x,y with
  | .bool,.bool a,.bool b=>some (a == b)
  | .int,.int k a,.int k' b=>if k=k' then some (a == b) else none
  | .str,.str a,.str b=>some (a == b)
  | .ref k,x,y=>im k x y
  | .iface g,.cZ,.cZ=>if g then none else some true
  | .iface _,.cZ,.iface _ _=>some false
  | .iface _,.iface _ _,.cZ=>some false
  | .wL fs,.agg xs,.agg ys=>goEq (fun t x y=>dG d t x y) fs xs ys
  | _,_,_=>none
def ck (op:BinOp)(x y:AV):Option AV:=
 match x,y with
 | .int k a,.int k' b=>
  match op with
  | .shl=>if b<0 then none else some (.int k (k.wrap (a*2^(min b.toNat k.bits))))
  | .shr=>if b<0 then none else some (.int k (a.fdiv (2^(min b.toNat k.bits))))
  | op=>if k=k' then
      match op with
      | .add=>some (.int k (k.wrap (a+b)))
      | .sub=>some (.int k (k.wrap (a-b)))
      | .mul=>some (.int k (k.wrap (a*b)))
      | .quo=>if b=0 then none else some (.int k (k.wrap (a.tdiv b)))
      | .rem=>if b=0 then none else some (.int k (a.tmod b))
      | .and=>some (.int k (k.wrap (BitVec.ofInt k.bits a &&& BitVec.ofInt k.bits b).toNat))
      | .or=>some (.int k (k.wrap (BitVec.ofInt k.bits a ||| BitVec.ofInt k.bits b).toNat))
      | .xor=>some (.int k (k.wrap (BitVec.ofInt k.bits a ^^^ BitVec.ofInt k.bits b).toNat))
      | .andNot=>some (.int k (k.wrap (BitVec.ofInt k.bits a &&& ~~~ BitVec.ofInt k.bits b).toNat))
      | .eql=>some (.bool (a == b))
      | .neq=>some (.bool (a != b))
      | .lss=>some (.bool (a<b))
      | .leq=>some (.bool (a<=b))
      | .gtr=>some (.bool (a > b))
      | .geq=>some (.bool (a>=b))
      | _=>none
    else none
 | .str a,.str b=>
  match op with
  | .add=>if a.length+b.length<2^62 then some (.str (a++b)) else none
  | .eql=>some (.bool (a == b))
  | .neq=>some (.bool !(a == b))
  | .lss=>some (.bool (Op.bytesLess a b))
  | .leq=>some (.bool (Op.bytesLess a b || a == b))
  | .gtr=>some (.bool !(Op.bytesLess a b || a == b))
  | .geq=>some (.bool !(Op.bytesLess a b))
  | _=>none
 | _,_=>none
def pr (op:UnOp)(x:AV):Option AV:=
 match op,x with
 | .neg,.int k n=>some (.int k (k.wrap (0-n)))
 | .not,.bool b=>some (.bool !b)
 | .xor,.int k n=>some (.int k (k.wrap (BitVec.ofInt k.bits (if k.signed then -1 else k.max) ^^^ BitVec.ofInt k.bits n).toNat))
 | _,_=>none
def kY (k:IntKind)(x:AV):Option AV:=
 match x with
 | .int _ n=>some (.int k (k.wrap n))
 | _=>none
def wS (off:Nat)(x:AV):Option AV:=
 match x with
 | .ptr b o=>some (.ptr b (o+off))
 | .vp l=>some (.vp (l.drop off))
 | _=>none
def mS (arr:Option Nat)(esz:Nat)(x i:AV):Option AV:=
 match i with
 | .int _ n=>
  match arr,x with
  | some len,.ptr b o=>if 0<=n/\n<len then some (.ptr b (o+n.toNat*esz)) else none
  | some len,.vp l=>if 0<=n/\n<len then some (.vp (l.drop (n.toNat*esz))) else none
  | none,.sl b o len e _=>if 0<=n/\n<len/\e=esz then some (.ptr b (o+n.toNat*esz)) else none
  | none,.vs l len _=>if 0<=n/\n<len then some (.vp (l.drop (n.toNat*esz))) else none
  | _,_=>none
 | _=>none
def rX (x i:AV):Option AV:=
 match x,i with
 | .str s,.int _ n=>if 0<=n then (s[n.toNat]?).map fun c=>.int .u8 c.toNat else none
 | _,_=>none
def br (x:Option AV)(dflt most:Nat):Option Nat:=
 match x with
 | none=>some dflt
 | some (.int _ n)=>if 0<=n/\n<=most then some n.toNat else none
 | some _=>none
def gP (k:kb)(esz:Nat)(x:AV)(lo hi mx:Option AV):Option AV:=
 match k,x,mx with
 | .str,.str s,none=>
  match br hi s.length s.length with
  | some h=>match br lo 0 h with
    | some l=>some (.str ((s.drop l).take (h-l)))
    | none=>none
  | none=>none
 | .sl,.ae,none=>
  match br hi 0 0,br lo 0 0 with
  | some _,some _=>some .ae
  | _,_=>none
 | .sl,.ae,some m=>
  match br (some m) 0 0,br hi 0 0,br lo 0 0 with
  | some _,some _,some _=>some .ae
  | _,_,_=>none
 | .sl,.sl b o len e cap,none=>
  if e=esz then
   match br hi len (cap.getD len) with
   | some h=>match br lo 0 h with
     | some l=>
      if l<h then some (.sl b (o+l*esz) (h-l) esz (cap.map (· - l)))
      else some (.vs [] 0 (cap.map (· - l)))
     | none=>none
   | none=>none
  else none
 | .sl,.sl b o len e cap,some m=>
  if e=esz then
   match br (some m) len (cap.getD len) with
   | some m=>match br hi len m with
     | some h=>match br lo 0 h with
       | some l=>
        if l<h then some (.sl b (o+l*esz) (h-l) esz (some (m-l)))
        else some (.vs [] 0 (some (m-l)))
       | none=>none
     | none=>none
   | none=>none
  else none
 | .sl,.vs c len cap,none=>
  match br hi len len with
  | some h=>match br lo 0 h with
    | some l=>some (.vs ((c.drop (l*esz)).take ((h-l)*esz)) (h-l) (cap.map (· - l)))
    | none=>none
  | none=>none
 | .sl,.vs c len _,some m=>
  match br (some m) len len with
  | some m=>match br hi len m with
    | some h=>match br lo 0 h with
      | some l=>some (.vs ((c.drop (l*esz)).take ((h-l)*esz)) (h-l) (some (m-l)))
      | none=>none
    | none=>none
  | none=>none
 | _,_,_=>none
def rY (k:kb)(x:AV):Option AV:=
 match k,x with
 | .str,.str s=>some (.int .i64 s.length)
 | .sl,.ae=>some (.int .i64 0)
 | .sl,.sl _ _ n _ _=>some (.int .i64 n)
 | .sl,.vs _ n _=>some (.int .i64 n)
 | _,_=>none
def kZ (max:Bool):AV->List AV->Option AV
 | x,[]=>some x
 | .int k a,.int k' b::rest=>
  if k=k' then kZ max (.int k (if max then (if b > a then b else a) else (if b<a then b else a))) rest else none
 | _,_=>none
def wT (x:AV):Option AV:=
 match x with
 | .ptr _ _ | .vp _=>some x
 | .fn (.func _) _ _=>some x
 | .fn (.yield _) _ _=>some x
 | _=>none
def aP (s:St)(io:aS):Option AV:=
 match io with
 | .mv x=>s.aa x
 | .pick c a b=>match s.aa c,s.aa a,s.aa b with
   | some (.bool t),some a,some b=>some (if t then a else b)
   | some (.bool t),some a,none=>if t then some a else none
   | some (.bool t),none,some b=>if t then none else some b
   | _,_,_=>none
 | .bin op x y=>match s.aa x,s.aa y with
   | some a,some b=>ck op a b
   | _,_=>none
 | .eq neg t x y=>match s.aa x,s.aa y with
   | some a,some b=>match dG 100 t a b with
     | some r=>some (.bool (if neg then !r else r))
     | none=>none
   | _,_=>none
 | .un op x=>(s.aa x).bind (pr op)
 | .dM k x=>(s.aa x).bind (kY k)
 | .wM x=>match s.aa x with
   | some (.int _ n)=>some (.str (Utf8.encode n).data.toList)
   | _=>none
 | .wN x=>match s.aa x with
   | some (.str t)=>some (.str t)
   | _=>none
 | .wP x=>(s.aa x).bind wT
 | .field off n ag x=>match s.aa x with
   | some (.agg l)=>partOf l off n ag
   | _=>none
 | .mR off x=>(s.aa x).bind (wS off)
 | .dX arr esz x i=>match s.aa x,s.aa i with
   | some a,some b=>mS arr esz a b
   | _,_=>none
 | .index x i=>match s.aa x,s.aa i with
   | some a,some b=>rX a b
   | _,_=>none
 | .wQ len esz ag x i=>match s.aa x,s.aa i with
   | some (.agg l),some (.int _ n)=>if 0<=n/\n<len then partOf l (n.toNat*esz) esz ag else none
   | _,_=>none
 | .slice k esz x lo hi mx=>match s.aa x with
   | some a=>
    match s.cE lo,s.cE hi,s.cE mx with
    | some l,some h,some m=>if m.isNone || h.isSome then gP k esz a l h m else none
    | _,_,_=>none
   | none=>none
 | .extract i x=>match s.aa x with
   | some (.aq l)=>l[i]?
   | _=>none
 | .pj t x=>(s.aa x).map (.iface t)
 | .wR t z ok x=>match s.aa x with
   | some (.iface u v)=>if u=t then some (if ok then .aq [v,.bool true] else v) else if ok then some (.aq [z,.bool false]) else none
   | some .cZ=>if ok then some (.aq [z,.bool false]) else none
   | _=>none
 | .pk f fi ca=>match s.bY fi,s.bY ca with
   | some a,some b=>some (.fn f a b)
   | _,_=>none
 | .build zero ps=>match s.parts ps with
   | some vs=>(jF zero vs).map .agg
   | none=>none
 | .len k x=>match k with
   | .arr n=>some (.int .i64 n)
   | k=>(s.aa x).bind (rY k)
 | .cap x=>match s.aa x with
   | some .ae=>some (.int .i64 0)
   | some (.sl _ _ _ _ (some c))=>some (.int .i64 c)
   | some (.vs _ _ (some c))=>some (.int .i64 c)
   | _=>none
 | .mm mx xs=>match s.bY xs with
   | some (.int k a::rest)=>kZ mx (.int k a) rest
   | _=>none
 | .wO x=>match s.aa x with
   | some .ae=>some .dE
   | some (.sl b o (_+1) _ _)=>some (.ptr b o)
   | _=>none
 | _=>none
def aS.bh:aS->Bool
 | .alloc .. | .box .. | .dT .. | .load .. | .store .. | .kX | .fK .. | .lookup .. | .pn .. | .range .. | .next .. | .append .. | .copy .. | .jE .. | .po .. | .call .. | .invoke .. | .mO .. | .mN .. | .mP .. | .mQ .. | .pg .. | .ph .. => true
 | _=>false
def rZ:List (Nat×Nat×ax)->List ax
 | []=>[]
 | (_,_,x)::r=>x::rZ r
def aS.fL:aS->List ax
 | .mv x | .un _ x | .dM _ x | .wM x | .wN x | .mN _ x | .mO x | .wP x | .field _ _ _ x | .mR _ x | .extract _ x | .pj _ x
 | .len _ x | .cap x | .box _ _ x | .load _ _ x | .range x | .next x | .po x | .mP _ x | .wO x | .wR _ _ _ x | .ph _ _ x=>[x]
 | .pick c a b=>[c,a,b]
 | .bin _ x y | .eq _ _ x y | .dX _ _ x y | .index x y | .wQ _ _ _ x y | .store _ x y | .fK _ _ _ _ x y | .lookup _ _ x y _ | .append _ _ _ x y | .copy _ x y | .mQ _ x y | .pg _ x y=>[x,y]
 | .slice _ _ x lo hi mx=>x::(lo.toList++hi.toList++mx.toList)
 | .jE _ _ x lo hi=>x::(lo.toList++hi.toList)
 | .pk _ fi ca=>fi++ca
 | .build _ ps | .dT _ _ _ _ ps=>rZ ps
 | .mm _ xs=>xs
 | .alloc .. | .kX=>[]
 | .pn _ m i x=>[m,i,x]
 | .call f as | .invoke f _ as=>f::as
def aO.fL (o:aO):List ax:=(match o.guard with|some (x,_)=>[x]|none=>[])++o.op.fL
def dt:dU->ax->Bool
 | .p i,.p j=>i == j
 | .l t,.l u=>t == u
 | _,_=>false
def Dr:dU->dU->Bool
 | .p i,.p j=>i == j
 | .l t,.l u=>t == u
 | _,_=>false
def mT (a b:aO):Bool:=(b.fL.all fun x=>!dt a.dst x) && (a.fL.all fun x=>!dt b.dst x) && !Dr a.dst b.dst
structure HR where
 v:AV
 h:ab
 wr:List Nat
def bJ:AV:=.aq []
def ab.put (h:ab)(b:Nat)(o:Option bc):ab:=h.set b o
def pt:AV->AV->Option Bool
 | .int k a,.int k' b=>if k=k' then some (a == b) else none
 | .str a,.str b=>some (a == b)
 | _,_=>none
def jG (k:AV):List (AV×AV)->Nat->Option (Option (Nat×AV))
 | [],_=>some none
 | (k',v)::r,i=>match pt k k' with
   | some true=>some (some (i,v))
   | some false=>jG k r (i+1)
   | none=>none
def gE.ok:gE->AV->Bool
 | .int,.int _ _=>true
 | .str,.str _=>true
 | _,_=>false
def fB (zero:List AV):Nat->List AV
 | 0=>[]
 | n+1=>zero++fB zero n
def bytesOf:List AV->Option (List UInt8)
 | []=>some []
 | .int .u8 n::r=>match bytesOf r with
   | some l=>some (UInt8.ofNat n.toNat::l)
   | none=>none
 | _=>none
def dh:Nat:=2^46
def fM (elem:TypeId)(esz bytes:Nat)(h:ab)(x y:AV):Option HR:=
 match dF h y with
 | none=>none
 | some (new,n)=>
  if new.length=n*esz/\0<bytes/\new.all cw=true then
   match x with
   | .ae=>
    if n=0 then some ⟨.ae,h,[]⟩
    else if n*bytes<=dh then some ⟨.sl h.length 0 n esz none,h++[some (.cells new elem)],[]⟩ else none
   | .vs l len cap=>
    if n=0 then some ⟨x,h,[]⟩ else
    match cap with
    | some c=>if c<len+n/\(len+n)*bytes<=dh/\l.length=len*esz then some ⟨.sl h.length 0 (len+n) esz none,h++[some (.cells (l++new) elem)],[]⟩ else none
    | none=>none
   | .sl b off len e cap=>
    if n=0 then some ⟨x,h,[]⟩ else
    if e=esz/\(len+n)*bytes<=dh then
     match h.at b with
     | some (.cells l el)=>
      match cap with
      | some c=>
       if len+n<=c then
        if off+(len+n)*esz<=l.length then some ⟨.sl b off (len+n) esz cap,h.put b (some (.cells (overwrite l (off+len*esz) new) el)),[b]⟩ else none
       else match cut l off (len*esz) with
        | some bB=>some ⟨.sl h.length 0 (len+n) esz none,h++[some (.cells (bB++new) elem)],[]⟩
        | none=>none
      | none=>
       if l.length=off+len*esz/\el=elem then
        some ⟨.sl h.length 0 (len+n) esz none,h.put b none++[some (.cells (l.drop off++new) elem)],[b]⟩
       else none
     | _=>none
    else none
   | _=>none
  else none
def bg (s:St)(io:aS)(h:ab):Option HR:=
 match io with
 | .alloc elem zero=>some ⟨.ptr h.length 0,h++[some (.cells zero elem)],[]⟩
 | .box elem n x=>match (s.aa x).bind AV.cells with
   | some l=>if l.length=n then some ⟨.ptr h.length 0,h++[some (.cells l elem)],[]⟩ else none
   | none=>none
 | .dT elem len esz zero ps=>match s.parts ps with
   | some vs=>match jF (fB zero len) vs with
     | some l=>if l.length=len*esz then some ⟨.sl h.length 0 len esz (some len),h++[some (.cells l elem)],[]⟩ else none
     | none=>none
   | none=>none
 | .load n ag x=>match (s.aa x).bind (ew h) with
   | some l=>match partOf l 0 n ag with
     | some v=>some ⟨v,h,[]⟩
     | none=>none
   | none=>none
 | .store n x y=>match s.aa x,(s.aa y).bind AV.cells with
   | some (.ptr b off),some new=>match h.at b with
     | some (.cells l el)=>if new.length=n/\off+n<=l.length/\new.all cw=true then some ⟨bJ,h.put b (some (.cells (overwrite l off new) el)),[b]⟩ else none
     | _=>none
   | _,_=>none
 | .kX=>some ⟨.map h.length,h++[some (.map [])],[]⟩
 | .fK elem esz bytes zero l c=>match (s.aa l).bind pq,(s.aa c).bind pq with
   | some a,some b=>
    if 0<=a/\a<=b/\b.toNat*bytes<=dh/\b<=2^46/\zero.length=esz then some ⟨.sl h.length 0 a.toNat esz (some b.toNat),h++[some (.cells (fB zero b.toNat) elem)],[]⟩ else none
   | _,_=>none
 | .lookup kt zero x i ok=>match s.aa x,s.aa i with
   | some m,some k=>
    if kt.ok k then
     let es? : Option (List (AV×AV)):=match m with
      | .dL=>some []
      | .map b=>match h.at b with|some (.map es)=>some es|_=>none
      | _=>none
     match es? with
     | some es=>match jG k es 0 with
       | some r=>
        let v:=match r with|some (_,v)=>v|none=>zero
        some ⟨if ok then .aq [v,.bool r.isSome] else v,h,[]⟩
       | none=>none
     | none=>none
    else none
   | _,_=>none
 | .pn kt m i x=>match s.aa m,s.aa i,s.aa x with
   | some (.map b),some k,some v=>
    if kt.ok k then
     match h.at b with
     | some (.map es)=>match jG k es 0 with
       | some (some (j,_))=>some ⟨bJ,h.put b (some (.map (es.set j (k,v)))),[b]⟩
       | some none=>some ⟨bJ,h.put b (some (.map (es++[(k,v)]))),[b]⟩
       | none=>none
     | _=>none
    else none
   | _,_,_=>none
 | .range x=>match s.aa x with
   | some (.str t)=>some ⟨.ptr h.length 0,h++[some (.iter t 0)],[]⟩
   | _=>none
 | .next x=>match s.aa x with
   | some (.ptr b 0)=>match h.at b with
     | some (.iter t pos)=>
      if pos<t.length then
       let (c,w):=Utf8.decode ⟨t.toArray⟩ pos
       some ⟨.aq [.bool true,.int .i64 pos,.int .i32 c],h.put b (some (.iter t (pos+w))),[b]⟩
      else some ⟨.aq [.bool false],h,[]⟩
     | _=>none
   | _=>none
 | .append elem esz bytes x y=>match s.aa x,s.aa y with
   | some a,some b=>fM elem esz bytes h a b
   | _,_=>none
 | .ph esz z x=>match s.aa x with
   | some (.sl b off len e _)=>
    if e=esz/\z.all cw=true/\z.length=esz/\0<len then
     match h.at b with
     | some (.cells l el)=>if off+len*esz<=l.length then some ⟨.aq [],h.put b (some (.cells (overwrite l off (fB z len)) el)),[b]⟩ else none
     | _=>none
    else none
   | some (.vs [] 0 _)=>some ⟨.aq [],h,[]⟩
   | some .ae=>some ⟨.aq [],h,[]⟩
   | _=>none
 | .copy esz x y=>match s.aa x,s.aa y with
   | some (.sl b off len e _),some y=>
    match dF h y with
    | some (src,n)=>
     if e=esz/\src.length=n*esz/\src.all cw=true then
      let m:=min n len
      match h.at b with
      | some (.cells l el)=>if off+m*esz<=l.length then some ⟨.int .i64 m,h.put b (some (.cells (overwrite l off (src.take (m*esz))) el)),[b]⟩ else none
      | _=>none
     else none
    | none=>none
   | some .ae,some y=>match dF h y with
     | some (src,n)=>if src.length=n*esz then some ⟨.int .i64 0,h,[]⟩ else none
     | none=>none
   | _,_=>none
 | .jE n esz x lo hi=>match s.aa x,s.cE lo,s.cE hi with
   | some (.ptr b o),some lo,some hi=>match h.at b with
     | some (.cells l _)=>
      if o+n*esz<=l.length then
       match br hi n n with
       | some hh=>match br lo 0 hh with
         | some ll=>some ⟨if ll<n then .sl b (o+ll*esz) (hh-ll) esz (some (n-ll)) else .vs [] 0 (some 0),h,[]⟩
         | none=>none
       | none=>none
      else none
     | _=>none
   | _,_,_=>none
 | .po x=>match s.aa x with
   | some (.map b)=>match h.at b with
     | some (.map es)=>some ⟨.int .i64 es.length,h,[]⟩
     | _=>none
   | some .dL=>some ⟨.int .i64 0,h,[]⟩
   | _=>none
 | .mN elem x=>match s.aa x with
   | some (.str t)=>some ⟨.sl h.length 0 t.length 1 none,h++[some (.cells (t.map fun c=>.int .u8 c.toNat) elem)],[]⟩
   | _=>none
 | .mO x=>match s.aa x with
   | some (.str _)=>none
   | some y=>match dF h y with
     | some (l,n)=>if l.length=n then
         match bytesOf l with
         | some t=>some ⟨.str t,h,[]⟩
         | none=>none
       else none
     | none=>none
   | none=>none
 | .mP u x=>match s.aa x with
   | some (.ptr b o)=>match h.at b with
     | some (.cells l e)=>
      if o<l.length/\(match u with|none=>true|some (t,n)=>decide (o=0/\e=t/\l.length=n))=true then some ⟨.ptr b o,h,[]⟩ else none
     | _=>none
   | _=>none
 | .mQ neg x y=>match s.aa x,s.aa y with
   | some (.ptr b o),some (.ptr b' o')=>match h.at b with
     | some (.cells _ _)=>if b=b'/\o=o' then some ⟨.bool !neg,h,[]⟩ else none
     | _=>none
   | _,_=>none
 | .pg e x n=>match s.aa x,s.aa n with
   | some .dE,some (.int _ k)=>if k=0 then some ⟨.str [],h,[]⟩ else none
   | some (.ptr b o),some (.int _ k)=>
    if 0<k/\k<=2^46 then
     match h.at b with
     | some (.cells l el)=>
      if el=e then
       match cut l o k.toNat with
       | some c=>match bytesOf c with
         | some t=>some ⟨.str t,h.put b none,[b]⟩
         | none=>none
       | none=>none
      else none
     | _=>none
    else none
   | _,_=>none
 | _=>none
abbrev du:=AV->List AV->ab->Option HR
abbrev fe:=TypeId->String->Option FuncId
def bw (call:du)(inv:fe)(s:St)(io:aS):Option HR:=
 match io with
 | .call f args=>match s.aa f,s.bY args with
   | some g,some as=>call g as s.hp
   | _,_=>none
 | .invoke x name args=>match s.aa x,s.bY args with
   | some (.iface t v),some as=>match inv t name with
     | some f=>call (.fn (.func f) [] []) (v::as) s.hp
     | none=>none
   | _,_=>none
 | io=>if io.bh then bg s io s.hp else (aP s io).map fun v=>⟨v,s.hp,[]⟩
def di (s:St)(g:Option (ax×Bool)):Option Bool:=
 match g with
 | none=>some true
 | some (x,want)=>match s.aa x with
   | some (.bool b)=>some (b == want)
   | some (.aq _)=>some false
   | _=>none
structure al where
 s:St
 wr:List Nat
def dN (call:du)(inv:fe):List aO->al->Option al
 | [],s=>some s
 | o::rest,s=>match di s.s o.guard with
   | some true=>match bw call inv s.s o.op with
     | some r=>dN call inv rest ⟨{ s.s.put o.dst r.v with hp:=r.h },r.wr++s.wr⟩
     | none=>none
   | some false=>dN call inv rest ⟨s.s.put o.dst bJ,s.wr⟩
   | none=>none
def mask (h:ab)(U:List Nat):ab:=U.foldl (fun h b=>h.set b none) h
def bW (T:List Nat):ab->Nat->ab
 | [],_=>[]
 | o::r,i=>(if T.contains i then o else none)::bW T r (i+1)
def dv (wr:List Nat):ab->ab->Nat->ab
 | o::h,n::h',i=>(if wr.contains i then n else o)::dv wr h h' (i+1)
 | [],h',_=>h'
 | h,[],_=>h
def iH (s:St)(io:aS):Option (List Nat):=
 let cF (x:ax):List Nat:=match s.aa x with
  | some (.ptr b _)=>[b]
  | some (.sl b _ _ _ _)=>[b]
  | some (.map b)=>[b]
  | _=>[]
 match io with
 | .alloc .. | .box .. | .dT .. | .kX | .fK .. | .range _ | .mN .. => some []
 | .load _ _ x | .next x | .po x | .mO x | .store _ x _ | .lookup _ _ x _ _ | .pn _ x _ _=>some (cF x)
 | .append _ _ _ x y | .copy _ x y | .mQ _ x y=>some (cF x++cF y)
 | .mP _ x | .pg _ x _ | .ph _ _ x=>some (cF x)
 | .jE _ _ x _ _=>some (cF x)
 | .call .. | .invoke .. => none
 | _=>some []
structure bK where
 je:Option (List Nat)
 wr:List Nat
 lo:Nat
 hi:Nat
def bK.own (d:bK):List Nat:=d.wr++List.range' d.lo (d.hi-d.lo)
def fZ (a b:List Nat):Bool:=a.all fun x=>!b.contains x
def dc (call:du)(inv:fe):List (aO×List Nat)->al->List bK->Option al
 | [],s,_=>some s
 | (o,un)::rest,s,ds=>match di s.s o.guard with
   | some true=>
    if o.op.bh then
     let U:=un.flatMap fun j=>(ds[j]?).elim [] bK.own
     let t:=iH s.s o.op
     if (match t with|some T=>fZ T U|none=>true) then
      let h0:=match t with|some T=>bW T s.s.hp 0|none=>mask s.s.hp U
      match bw call inv { s.s with hp:=h0 } o.op with
      | some r=>
       if (r.wr.all fun b=>(h0.at b).isSome) && (r.wr.isEmpty || un.all (fun j=>match ds[j]? with|some d=>(match d.je with|some T=>fZ r.wr T|none=>false)|none=>false)) then
        dc call inv rest ⟨{ s.s.put o.dst r.v with hp:=dv r.wr s.s.hp r.h 0 },r.wr++s.wr⟩ (ds++[⟨t,r.wr,s.s.hp.length,r.h.length⟩])
       else none
      | none=>none
     else none
    else match aP s.s o.op with
     | some v=>dc call inv rest ⟨s.s.put o.dst v,s.wr⟩ (ds++[⟨some [],[],s.s.hp.length,s.s.hp.length⟩])
     | none=>none
   | some false=>dc call inv rest ⟨s.s.put o.dst bJ,s.wr⟩ (ds++[⟨some [],[],s.s.hp.length,s.s.hp.length⟩])
   | none=>none
mutual
def AV.top:AV->Nat
 | .ptr b _=>b+1
 | .sl b _ _ _ _=>b+1
 | .map b=>b+1
 | .vp l=>aY l
 | .vs l _ _=>aY l
 | .fn f a b=>max (match f with | .yield l=>l+1|_=>0) (max (aY a) (aY b))
 | .iface _ v=>v.top
 | .agg l=>aY l
 | .aq l=>aY l
 | _=>0
def aY:List AV->Nat
 | []=>0
 | v::r=>max v.top (aY r)
end
def bc.top:bc->Nat
 | .cells l _=>aY l
 | .map es=>lf es
 | .iter _ _=>0
 | .fA=>0
 | .hole=>0
 | .loop _ _ pe _ _ _=>aY pe
where
 lf:List (AV×AV)->Nat
  | []=>0
  | (k,v)::r=>max (max k.top v.top) (lf r)
def tight (h:ab)(n:Nat)(wr:List Nat):Bool:=
 wr.all fun b=>match h.at b with
  | some o=>b>=n || o.top<=n
  | none=>true
def cU (s:St):List fc->Option (List AV)
 | []=>some []
 | r::rest=>
  let v? : Option AV:=match r with
   | .var x=>s.aa x
   | .cell n ag x=>(s.aa x).bind fun p=>(ew s.hp p).bind fun l=>partOf l 0 n ag
  match v?,cU s rest with
  | some v,some vs=>some (v::vs)
  | _,_=>none
def aQ:List AV->AV
 | [v]=>v
 | vs=>.aq vs
def eB (v:AV)(n:Nat)(s:al):HR:=
 if v.top<=n && tight s.s.hp n s.wr then ⟨v,s.s.hp.take n,s.wr.filter (· < n)⟩
 else ⟨v,s.s.hp,s.wr.filter (· < n)⟩
def jH:List Nat->al->Option al
 | [],s=>some s
 | d::r,s=>match s.s.hp.at d with
   | some .fA=>jH r ⟨{ s.s with hp:=s.s.hp.put d none },d::s.wr⟩
   | _=>none
def mU (s:St):List dU->List AV->Option St
 | [],[]=>some s
 | d::ds,v::vs=>mU (s.put d v) ds vs
 | _,_=>none
def gN (run:an->al->Option (Ex×al))(FT:FuncId->Option cK)(f:FuncId)(all:List AV)(h:ab):Option HR:=
 match FT f with
 | some fi=>
  if fi.N<all.length then none else
  match run fi.body ⟨⟨fi.az.map (fun t=>(all[t]?).getD bJ),[],h,[]⟩,[]⟩ with
  | some (e,s)=>
   if e = .normal\/e = .ret then
    match jH s.s.bA s with
    | some s=>match cU s.s fi.results with
      | some vs=>some (eB (aQ vs) h.length s)
      | none=>none
    | none=>none
   else none
  | none=>none
 | none=>none
def fN (run:an->al->Option (Ex×al))(ext:FuncId->List AV->ab->Option HR)(FT:FuncId->Option cK):du:=fun g as h=>
 match g with
 | .fn (.func f) first cap=>
  match ext f (first++as++cap) h with
  | some r=>some r
  | none=>gN run FT f (first++as++cap) h
 | .fn (.yield b) [] []=>
  match h.at b with
  | some (.loop .ready none pe ps a bd)=>
   match mU ⟨pe,[],h,[]⟩ ps as with
   | some s0=>match run a ⟨s0,[]⟩ with
     | some (.normal,s1)=>match s1.s.hp.at b with
       | some (.loop .ready none pe' ps' a' bd')=>
        match run bd ⟨{ s1.s with hp:=s1.s.hp.put b (some (.loop .busy none pe' ps' a' bd')) },b::s1.wr⟩ with
        | some (e,s2)=>match s2.s.hp.at b,s2.s.bA with
          | some (.loop .busy none pe' ps' a' bd'),[]=>
           let o:bc:=if e = .normal then .loop .ready none pe' ps' a' bd' else .loop .done (some e) pe' ps' a' bd'
           some (eB (.bool (decide (e = .normal))) h.length ⟨{ s2.s with hp:=s2.s.hp.put b (some o) },b::s2.wr⟩)
          | _,_=>none
        | none=>none
       | _=>none
     | _=>none
   | none=>none
  | _=>none
 | _=>none
def aV (ext:FuncId->List AV->ab->Option HR)(inv:fe)(FT:FuncId->Option cK):Nat->an->al->Option (Ex×al)
 | 0,_,_=>none
 | n+1,c,s=>
  match c with
  | .skip=>some (.normal,s)
  | .seq a b=>match aV ext inv FT n a s with
    | some (.normal,s')=>aV ext inv FT n b s'
    | r=>r
  | .cond x a b=>match s.s.aa x with
    | some (.bool t)=>aV ext inv FT n (if t then a else b) s
    | _=>none
  | .block id c=>match aV ext inv FT n c s with
    | some (.exit id',s')=>if id'=id then some (.normal,s') else some (.exit id',s')
    | r=>r
  | .loop c=>match aV ext inv FT n c s with
    | some (.normal,s')=>aV ext inv FT n (.loop c) s'
    | r=>r
  | .exit id=>some (.exit id,s)
  | .ret=>some (.ret,s)
  | .region ops=>match dN (fN (aV ext inv FT n) ext FT) inv ops ⟨{ s.s with lo:=[] },s.wr⟩ with
    | some s'=>some (.normal,s')
    | none=>none
  | .draw ops=>match dc (fN (aV ext inv FT n) ext FT) inv ops ⟨{ s.s with lo:=[] },s.wr⟩ [] with
    | some s'=>some (.normal,s')
    | none=>none
  | .rangeFunc inner f ps a b=>
   if inner then none else
   match s.s.aa f with
   | some (.fn (.func g) fi ca)=>
    match gN (aV ext inv FT n) FT g (fi++[.fn (.yield (s.s.hp.length+1)) [] []]++ca) (s.s.hp++[some .fA,some (.loop .ready none s.s.pe ps a b)]) with
    | some r=>match r.h.at (s.s.hp.length+1) with
      | some (.loop st pend pe' ps' a' b')=>
       if st = .busy then none else
       some (pend.getD .normal,⟨{ s.s with hp:=r.h.put (s.s.hp.length+1) (some (.loop .exhausted pend pe' ps' a' b')),bA:=s.s.hp.length::s.s.bA },(s.s.hp.length+1)::r.wr++s.wr⟩)
      | _=>none
    | none=>none
   | _=>none
  | .bad=>none
end Go.Ab
namespace Go.Ab
structure GQ (Q:Prop):Prop where
 q:Q
theorem gc {P Q:Prop}(q:Q)(h:GQ Q->P:=by
 intro gq;first|apply aaK|apply iI|apply aaN|apply aaO|apply abw|apply aaQ|apply acr|apply aaR|apply LO|apply LP|apply wU|apply LR|apply LS|(apply LU;exact rfl)|apply LV|apply LW|apply LX|(apply acs;exact rfl)|apply aaX|apply aaZ|(apply aba;exact rfl)|(apply abm;exact rfl;exact rfl;(first|(simp only[List.nil_append,List.cons_append];exact rfl)|exact rfl))|(apply abx;exact rfl;(first|(simp only[List.nil_append,List.cons_append];exact rfl)|exact rfl);(first|(simp only[List.nil_append,List.cons_append];exact rfl)|exact rfl))|(apply aby;exact rfl)|(apply abb;exact rfl)|(apply aaS;exact rfl)|(apply acu;exact rfl)|(apply abc;exact rfl)|(apply acv;exact rfl)|(apply acw;exact rfl)|(apply acx;exact rfl)|(apply abQ;exact rfl;omega)|(apply abR;exact rfl;omega)|(apply acy;exact rfl)|(apply acz;exact rfl;exact rfl)|(apply abd;exact rfl;exact rfl)|(apply abn;exact rfl;exact rfl;omega)|(apply aaY;exact rfl;exact rfl;omega)|(apply acA;exact rfl;exact rfl;omega)|(apply acB;exact rfl;exact rfl;first|omega|(simp only[List.length_append,List.length_cons,List.length_nil];omega)|(simp;omega))|(apply acC;exact rfl;exact rfl;omega)|(apply abS;exact rfl;exact rfl;omega)|(apply abz;exact rfl;exact rfl;omega)|(apply acD;exact rfl;exact rfl;omega)|(apply abT;exact rfl;exact fun _=>rfl;(first|omega|(simp only[List.length_set];omega)|(simp;omega));decide;exact rfl;case ia=>infer_instance)|(apply acE;exact rfl;(first|exact rfl|assumption|exact cN|(apply de;assumption)|(apply gg;first|assumption|(simp only[gG];assumption)));exact fun _=>rfl;(first|omega|(simp only[List.length_set];omega)|(simp;omega));decide;exact rfl;case ia=>infer_instance)|(apply acF;exact rfl;exact rfl;(first|exact rfl|assumption|exact cN|(apply de;assumption)|(apply gg;first|assumption|(simp only[gG];assumption)));exact fun _=>rfl;(first|omega|(simp only[List.length_set];omega)|(simp;omega));exact⟨rfl,by decide,rfl⟩;exact rfl;case ia=>infer_instance)|(apply acG;exact rfl;omega)|(apply aaD;exact rfl;exact rfl;exact rfl)|(apply abe;exact rfl;exact rfl;exact rfl)|(apply abf;exact rfl;exact rfl;exact rfl)|(apply aac;exact rfl;exact rfl)|(apply aaL;exact rfl;exact rfl)
 exact gq.1):P:=h ⟨q⟩
theorem gd0 {P Q:Prop}(q:Q)(h:GQ Q->P:=by
 intro gq
 (apply aaJ;exact rfl;exact rfl;first|(focus (apply_assumption -exfalso -symm;done))|(focus (apply_assumption -exfalso -symm;exact Mf rfl rfl rfl))|(focus (apply_assumption -exfalso -symm;exact rfl)))
 exact gq.1):P:=h ⟨q⟩
theorem gd1 {P Q:Prop}(q:Q)(h:GQ Q->P:=by
 intro gq
 (apply abg;exact rfl;exact rfl;(first|(simp only[List.nil_append,List.cons_append];exact rfl)|exact rfl);first|(focus (apply_assumption -exfalso -symm;done))|(focus (apply_assumption -exfalso -symm;exact Mf rfl rfl rfl))|(focus (apply_assumption -exfalso -symm;exact rfl)))
 exact gq.1):P:=h ⟨q⟩
theorem gd2 {P Q:Prop}(q:Q)(h:GQ Q->P:=by
 intro gq
 (apply abU;exact rfl;(first|exact cN|assumption|exact de cN|exact de (de cN)|exact de (de (de cN))|exact gg (by simp)|((repeat apply de);assumption));exact rfl)
 exact gq.1):P:=h ⟨q⟩
theorem gd3 {P Q:Prop}(q:Q)(h:GQ Q->P:=by
 intro gq
 (apply acH;exact rfl;exact rfl;exact⟨rfl,by first|exact Nat.le_refl _|decide|(simp[overwrite]),rfl⟩;exact rfl)
 exact gq.1):P:=h ⟨q⟩
theorem gd4 {P Q:Prop}(q:Q)(h:GQ Q->P:=by
 intro gq
 (apply aaC;exact rfl;exact rfl;first|exact hc)
 exact gq.1):P:=h ⟨q⟩
theorem gd5 {P Q:Prop}(q:Q)(h:GQ Q->P:=by
 intro gq
 (apply abh;exact rfl;exact rfl;omega)
 exact gq.1):P:=h ⟨q⟩
theorem gd6 {P Q:Prop}(q:Q)(h:GQ Q->P:=by
 intro gq
 (apply abA;exact rfl;exact rfl;omega)
 exact gq.1):P:=h ⟨q⟩
theorem gd7 {P Q:Prop}(q:Q)(h:GQ Q->P:=by
 intro gq
 (apply aaC;exact rfl;exact rfl;first|exact q)
 exact gq.1):P:=h ⟨q⟩
theorem gd8 {P Q:Prop}(q:Q)(h:GQ Q->P:=by
 intro gq
 (apply aaq;exact rfl;exact rfl;exact rfl;exact⟨rfl,Nat.le_refl _,by simp[overwrite,fT,iJ,o5,o6]⟩;exact rfl)
 exact gq.1):P:=h ⟨q⟩
theorem gd9 {P Q:Prop}(q:Q)(h:GQ Q->P:=by
 intro gq
 (apply aaT;exact congrArg (fun z=>some (AV.ptr 0 z)) eI;exact rfl;exact rfl;omega)
 exact gq.1):P:=h ⟨q⟩
theorem gd11 {P Q:Prop}(q:Q)(h:GQ Q->P:=by
 intro gq
 (apply abB;exact rfl;exact rfl;exact rfl;first|exact hcc)
 exact gq.1):P:=h ⟨q⟩
theorem gd12 {P Q:Prop}(q:Q)(h:GQ Q->P:=by
 intro gq
 (apply aaH (s:=u) (r:=bot);exact rfl;exact rfl;omega;exact e2')
 exact gq.1):P:=h ⟨q⟩
theorem gd13 {P Q:Prop}(q:Q)(h:GQ Q->P:=by
 intro gq
 (apply aaC;exact rfl;exact rfl;first|exact q1 _)
 exact gq.1):P:=h ⟨q⟩
theorem gd14 {P Q:Prop}(q:Q)(h:GQ Q->P:=by
 intro gq
 (apply aaU (a:=4294967296);exact rfl;exact rfl;omega)
 exact gq.1):P:=h ⟨q⟩
theorem gd15 {P Q:Prop}(q:Q)(h:GQ Q->P:=by
 intro gq
 (apply aaU (a:=q) (b:=y0);exact rfl;exact rfl;rw[←hP];exact hm)
 exact gq.1):P:=h ⟨q⟩
theorem gd16 {P Q:Prop}(q:Q)(h:GQ Q->P:=by
 intro gq
 (apply aaI (s:=u) (r:=top);exact rfl;exact rfl;omega;exact etk)
 exact gq.1):P:=h ⟨q⟩
theorem gd17 {P Q:Prop}(q:Q)(h:GQ Q->P:=by
 intro gq
 (apply abo (i:=k+2);exact rfl;exact hl;omega;omega)
 exact gq.1):P:=h ⟨q⟩
theorem gd18 {P Q:Prop}(q:Q)(h:GQ Q->P:=by
 intro gq
 (apply aaq;exact rfl;exact rfl;exact rfl;exact⟨rfl,Nat.le_refl _,kc o0⟩;exact rfl)
 exact gq.1):P:=h ⟨q⟩
theorem gd19 {P Q:Prop}(q:Q)(h:GQ Q->P:=by
 intro gq
 (apply aaq;exact rfl;exact rfl;exact rfl;exact⟨rfl,Nat.le_refl _,by simp[overwrite,fT,iJ,o1]⟩;exact rfl)
 exact gq.1):P:=h ⟨q⟩
theorem gd20 {P Q:Prop}(q:Q)(h:GQ Q->P:=by
 intro gq
 (apply aaq;exact rfl;exact rfl;exact rfl;exact⟨rfl,Nat.le_refl _,by first|exact kc o1|exact kc o2⟩;exact rfl)
 exact gq.1):P:=h ⟨q⟩
theorem gg0 {P:Prop}(h:P:=by
 repeat' first|(apply acI i (k+3);rfl;rfl;rfl;rfl;omega;omega;omega)|(apply aaC;rfl;rfl;first|exact hct)|(apply aaT;exact congrArg (fun z=>some (AV.ptr 2 z)) eI;rfl;rfl;omega)|(apply aaI;rfl;rfl;omega;exact hd)|(apply aaP;rfl;rfl;intro _;rotate_left;(intro h;exact absurd rfl h))|(apply aaP;rfl;rfl;(intro h;exact absurd (List.cons.inj h).1 hc);intro _)|refine gd1 ?_|refine gd9 ?_|(apply Mi hn hlt)|(apply aaE;rfl;rfl)|(apply aaC;rfl;rfl;first|exact q265)|refine gd4 ?_|(refine Mj C hb hn (A++L1) L2 R1 (R2++B) (by rw[eL,eR];simp) (by simp;omega) (by simp;omega) (by simp;omega) (by simp;omega) bG.nil (fun lo wr l' w1 w2=>iI (fin2 lo wr l' w1 w2)))|refine gc ?_|(intro _;omega)|intro _
 all_goals first|omega|exact⟨.inr rfl,rfl,_,rfl,rfl,rfl⟩|exact next _ _|exact⟨.inr rfl,rfl,_,rfl,by rw[List.drop_zero]at h;rw[h];rfl,rfl⟩|exact⟨.inr rfl,rfl,rfl,rfl,_,rfl,rfl⟩|exact⟨.inr rfl,rfl,⟨[],by simp⟩,by simp,_,rfl,rfl⟩|exact⟨.inr rfl,rfl,_,rfl,congrArg AV.bool (by simp[isName,h]),rfl⟩|exact hQ L re _ _ hL oL hre (by rw[hv];simp[WV])|exact hQ U L _ _ hU oU hL oL hv1 hv2|exact hQ _ _ _ _ _ _ _ _ _ _ _ hm h8 hL hw|exact hQ _ _ _ hB hK|exact h2 (by rw[hd,Int.sub_self];rfl) _ _|exact hQ L re _ _ _ hL oL hre (by rw[hv];simp[WV])|exact hQ U L K _ _ _ _ _ _ _ _ _ _ _ hU oU hL oL hv1 hv2 hKu hKq hKf|exact cW (ih H _ _ (by omega) hc' hB' (by omega))|exact⟨i,by omega,hin,rfl,hU,hL,hw⟩|exact⟨.inr rfl,rfl,_,rfl,rfl,by simp[AV.top,aY]⟩|exact⟨.inr rfl,rfl,_,rfl,key z,rfl⟩|exact⟨.inr rfl,rfl,_,rfl,k,rfl⟩|exact cA rfl rfl (.same rfl rfl)|exact⟨.inr rfl,rfl,_,rfl,q,rfl,rfl,g1,g2,g3⟩|exact⟨bs,.inr rfl,rfl,rfl,rfl,by rw[←wY l0];exact q1⟩|exact⟨.inr rfl,rfl,_,rfl,rfl,by simp[AV.top]⟩|exact⟨i,.inr rfl,rfl,rfl⟩|exact⟨R,.inr rfl,rfl,rfl,rfl⟩|exact cL ⟨_,_,_,_,_,_,_,by rw[e];rfl⟩):P:=h
theorem gg1 {P:Prop}(h:P:=by
 repeat' first|(apply aaC;rfl;rfl;first|exact q266)|(apply abV (s:=Mk);rfl;rfl;rfl;omega;exact hc)|refine gd1 ?_|(refine bP.app (f:=iC) (m:=[a[((i:Int)).toNat]! - y-c+1000000000]) (S:=[]) (fun _=>rfl) (fun _=>rfl) (by decide) (ho.grow [_]) (by simp) rfl rfl (Sl.ir (f:=iC) (esz:=1) (l:=[a[((i:Int)).toNat]! - y-c+1000000000]) (e:=3) (fun _=>rfl) cN rfl) hroom (fun H w' o' ho' hk hlen=>?_))|(refine bP.app (f:=iC) (m:=[a[((i:Int)).toNat]! - y-c]) (S:=[]) (fun _=>rfl) (fun _=>rfl) (by decide) (ho.grow [_]) (by simp) rfl rfl (Sl.ir (f:=iC) (esz:=1) (l:=[a[((i:Int)).toNat]! - y-c]) (e:=3) (fun _=>rfl) cN rfl) hroom (fun H w' o' ho' hk hlen=>?_))|(apply abV (s:=jJ);rfl;rfl;rfl;omega;exact hc)|(apply aab;rfl;rfl)|(apply aaJ;rfl;rfl;first|exact q250)|refine gd7 ?_|refine gd4 ?_|refine gc ?_|(intro _;omega)|intro _
 all_goals first|omega|exact⟨.inr rfl,rfl,_,rfl,rfl,rfl⟩|exact hQ _ _|exact⟨.inr rfl,rfl,_,rfl,.same (by simp[aQ,AV.top,aY,gh]) (by simp[aQ,bx,cB,kd])⟩|exact hQ _ _ _ _|exact hQ S _ _ _ (hw'.app hw) g1 g2 rfl|exact⟨.inr rfl,rfl,⟨[],by simp⟩,by simp,_,rfl,rfl⟩|exact next _ 1 _ _ _ _ _ ho' (by decide) (by omega) (by omega)|exact next _ 0 _ _ _ _ _ ho' (by decide) (by omega) (by omega)|exact h1 (by simp[fO]) _ _ _|exact h1 (by simp[fO]) _ _|exact hQ L c a5 a6 _ _ hl ba hc (hz _ (Nat.le_refl _)) hv|exact hQ L c a5 a6 _ _ hl ba hc hv|exact hQ L c a7 a8 a9 aA aB _ _ hl ba hc hz hv|exact hQ L bo ca _ _ _ _ _ _ hL oL ht hbo hca hw hv|exact hQ L ca _ _ _ hL oL ht hca hw hv|exact hQ D _ _ _ hD oD hv|exact h2 (by omega) _ _|exact h2 he _ _ _|exact cW (ih' _ _ _ (by omega) hQ)|exact hQ L c _ _ _ hl ba hc hz hv|exact hQ L bo _ _ _ _ hL oL hbo hv|exact hQ L ca _ _ _ hL oL hca hv|exact cL ⟨_,_,_,by rw[e];rfl⟩|exact hQ _ _ _ _ _ _ _ _|exact⟨.inr rfl,rfl,_,rfl,[],⟨gH,iK,rfl⟩,fD.zero rfl⟩|exact hQ _ _ _ (hw'.app hw) rfl|exact h1 ha i _ _ _):P:=h
theorem gg2 {P:Prop}(h:P:=by
 repeat' first|(exact tl _ _ _ _ _ _ _ _ _)|(apply aaH (r:=t);rfl;rfl;omega;exact e1)|(exact Dy C ⟨hp,by omega⟩ hs.1 _ _ _ _)|(exact tl _ _ _ _)|(apply abW;rfl)|(apply aab;rfl;rfl)|(apply acJ;rfl;rfl;exact hc)|refine gd13 ?_|(apply aah;rfl;rfl)|refine gd3 ?_|refine gd0 ?_|refine gd11 ?_|refine gd2 ?_|refine gc ?_|(intro _;omega)|intro _
 all_goals first|omega|exact cA rfl rfl (.same rfl rfl)|exact⟨.inr rfl,rfl,_,rfl,rfl,rfl⟩|exact cA rfl rfl (out _)|exact cA rfl rfl (fin _ _)|exact⟨.inr rfl,rfl,⟨_,rfl⟩,by simp,_,pD rfl cN,rfl⟩|exact Mm (.inr rfl) rfl rfl rfl rfl|exact cL ⟨_,_,_,rfl⟩|exact h1 he _ _ _|exact cW (ih (i+1) _ _ _ (by omega) he h1 h2)|exact⟨.inr rfl,rfl,_,rfl,acc,⟨oA,hv,by omega⟩,fD.Dz ho⟩|exact⟨.inr rfl,rfl,_,rfl,congrArg AV.bool (by simp[isName];omega),rfl⟩|exact hQ ((R++[y])++x::S2) _ _ _ _ hw (DA hs h2 (fun z hz=>by simp at hz;subst hz;exact hyx)) List.perm_middle (by simp)):P:=h
theorem gg3 {P:Prop}(h:P:=by
 repeat' first|refine gd12 ?_|(apply abo (i:=k);rfl;exact hl;omega;omega)|(apply abp (i:=k);rfl;exact hb;exact hne;omega;omega)|(apply abp (i:=k+1);rfl;exact hb;exact hne;omega;omega)|refine gd6 ?_|(apply aaL (op:=.index _ _) (v:=.int .u8 48);rfl;rfl)|(apply aaI (s:=z64);rfl;rfl;omega;exact hd)|(apply abQ (a:=1);rfl;omega)|(apply aab;rfl;rfl)|(apply aaG;rfl;rfl)|(apply aah;rfl;rfl)|(apply aak;rfl;rfl)|refine gd0 ?_|refine gc ?_|(intro _;omega)|intro _
 all_goals first|omega|exact⟨.inr rfl,rfl,_,rfl,rfl,rfl⟩|exact cA rfl rfl (.same rfl rfl)|exact Mm (.inr rfl) rfl rfl rfl rfl|exact⟨.inr rfl,rfl,_,rfl,congrArg AV.bool (by simp[isName, *] <;> omega),rfl⟩|exact h1 (by omega) _ _|exact cW (ih (i+1) _ _ _ (by omega) (by omega) h1 h2)|exact hQ _ _ _ _ _ _ q0 I.ge hfin|exact cL ⟨(q-1).toNat,by omega,q-1,_,_,_,_,_,rfl,rfl,by rw[e1];exact I2,by omega,by omega⟩):P:=h
theorem gg4 {P:Prop}(h:P:=by
 repeat' first|(apply abq;rfl;exact hb;rfl)|(apply acK;rfl;rfl;exact hb)|(apply abC;rfl;rfl;omega;intro _ _)|(apply Go.Ab.aaV;rfl;(first|exact q0|exact q1|exact q2);rfl)|refine gd3 ?_|(refine fin 0 _ _ (by omega) (by rw[←he];rfl))|(refine bP.app (f:=sh) (m:=[zs++[48]]) (S:=[1]) (fun _=>rfl) (fun _=>rfl) (by decide) (ho.grow [_]) (by simp;omega) rfl rfl (Sl.ir (f:=sh) (esz:=1) (l:=[zs++[48]]) (e:=9) (fun _=>rfl) cN rfl) hroom (fun H w' o' ho' hk hlen=>?_))|(rw[hg])|(apply aah;rfl;rfl)|refine gd4 ?_|refine gd7 ?_|(apply aaJ;rfl;rfl;first|exact q253|exact q264 _)|refine gc ?_|(intro _;omega)|intro _
 all_goals first|omega|exact hQ _|exact⟨.inr rfl,rfl,_,rfl,rfl,rfl⟩|exact hQ _ _ _ _ _ _ _ _ ho|exact⟨.inr rfl,rfl,⟨[],by simp⟩,by simp,_,rfl,rfl⟩|exact⟨.inr rfl,rfl,⟨_,rfl⟩,by simp,_,pD rfl cN,rfl⟩|exact⟨.inl rfl,rfl,rfl,rfl,[],rfl,rfl⟩|exact⟨.inr rfl,rfl,rfl,rfl,_,rfl,rfl⟩|exact⟨.inr rfl,rfl,rfl,rfl,_,rfl,by rw[e1,e2,←t1,←t2];rfl⟩|exact cA rfl rfl (.same rfl rfl)|exact hQ _ _ _ _ _ _ _ ho|exact⟨.inl rfl,rfl,_,rfl,hw,hL⟩|exact hQ _ _ _ _ _ _ _ _ ho'|exact hQ _ _ _ _ _ _ hv|exact hQ _ _ _ _ _ _ h9 hDt oA (by omega) hv ho hK|exact main false _ _ (fun e st h=>by rw[e1];exact h)|exact⟨.inr rfl,rfl,_,rfl,A,oA,nA,hv,fin⟩|exact⟨.inr rfl,rfl,_,rfl,xA,A,hxA,oA,nA,hv,lA,fin⟩|exact fin _ _ _ _ _ _ _ ho' (hk _ _ (by simp) (de hK))):P:=h
theorem gg5 {P Q:Prop}(q:Q)(h:GQ Q->P:=by
 intro gq;repeat' first|(apply abX;rfl;exact hkl;omega)|(apply abY;rfl;rfl;exact hkl;omega)|(apply aab;rfl;rfl)|(apply abC;rfl;rfl;omega;intro _ _)|(apply abZ;rfl;rfl;omega;omega;intro _ _)|(apply Go.Ab.aaV;rfl;(first|exact q0|exact q2);rfl)|(apply aaG;rfl;rfl)|(apply aaC;rfl;rfl;first|exact hcc')|refine gd9 ?_|(apply abq;rfl;exact hb1;rfl)|(apply acL;rfl;rfl;exact hsc;exact⟨(pE s).trans (Nat.mul_one _).symm,by decide,aar s⟩;exact⟨h0,by simp only[dh];omega⟩)|(apply aaq (c':=[.ptr b 0,.sl (hp.put b (some (.cells [.ptr b 0,.ae] 269))).length 0 s.length 1 none]);rfl;rfl;exact hb2;exact⟨rfl,Nat.le_refl _,rfl⟩;rfl)|refine gd7 ?_|refine gc ?_|(intro _;omega)|intro _|(omega)|exact gq.1):P:=h ⟨q⟩
theorem gg6 {P:Prop}(h:P:=by
 repeat' first|(exact finish _ _ st hs k1 k2 k3 k4 _ _ _ _ _ _ _ _ _ _ _ _ _)|(apply aaH;rfl;rfl;omega;exact h1)|refine gd0 ?_|(apply aaP;rfl;rfl;all_goals first|(intro h;exact absurd rfl h)|intro _)|(apply acM (f:=iC) (l:=L);rfl;rfl;(intro _;rfl);omega)|(exact tl _ _ _ _ _ _)|(apply aaH (r:=v);rfl;rfl;omega;exact e1)|(apply aaW;exact congrArg (fun z=>some (AV.ptr b z)) ei;exact hb;omega)|(refine fin (r+1) _ _ (by omega) (by rw[←he,e]))|(apply abD;exact congrArg (fun z=>some (AV.ptr b z)) ei;exact hb;omega)|(apply abE (k:=.i64) (r:=r);rfl;exact congrArg (fun z=>some (AV.int .i64 z)) er;omega;(intro c hc';have:=hc c hc';omega))|(apply aah;rfl;rfl)|(apply aak;rfl;rfl)|refine gc ?_|(intro _;omega)|intro _
 all_goals first|omega|exact⟨.inr rfl,rfl,_,rfl,rfl,rfl⟩|exact cA rfl rfl (.same rfl rfl)|exact hQ _|exact⟨.inr rfl,rfl,rfl,rfl,_,rfl,rfl⟩|exact hQ _ _ _ _ _ _ q0 I.ge hfin|exact⟨.inr rfl,rfl,_,rfl,.same rfl rfl⟩|exact cW (next _)|exact main true _ _ (fun e st h=>h)|exact cW (ih _ _ (by omega) (e.symm.trans he) hQ)):P:=h
theorem gg7 {P:Prop}(h:P:=by
 repeat' first|(exact tl _ _ _ _ _ _ _ _ _ _)|(apply abF;rfl;rfl;exact hl;exact hy.1)|(apply acN;rfl;rfl;all_goals first|(intro h;exact absurd h h0)|intro _)|(apply aaH (r:=t);rfl;rfl;omega;exact e')|(apply aaF;rfl;rfl)|(apply acO;rfl;rfl;exact hl.1;exact hy.1)|(apply aak;rfl;rfl)|refine gd1 ?_|refine gd0 ?_|(apply aaG;rfl;rfl)|(apply aaP;rfl;rfl;all_goals first|(intro h;exact absurd h (by decide))|(intro h;exact absurd rfl h)|(intro h;contradiction)|intro _)|refine gd2 ?_|refine gc ?_|(apply aaq;rfl;rfl;rfl;exact⟨rfl,Nat.le_refl _,by simp[overwrite,fT,iJ,og,o3,o4]⟩;rfl)|(intro _;omega)|intro _
 all_goals first|omega|exact⟨.inr rfl,rfl,_,rfl,rfl,rfl⟩|exact⟨.inr rfl,rfl,_,rfl,by simp[aQ, *],rfl⟩|exact cA rfl rfl (out _)|exact⟨.inr rfl,rfl,_,rfl,by rw[Int.zero_mul,Int.zero_add];rfl,rfl⟩|exact hQ _ _ _ _ _ _ _ _ x hx e):P:=h
theorem gg8 {P:Prop}(h:P:=by
 repeat' first|(apply abG;rfl;rfl;omega)|(apply abH;rfl)|(apply aaq;rfl;rfl;rfl;exact⟨rfl,Nat.le_refl _,by simp[overwrite,fT,iJ,o4]⟩;rfl)|(exact tl _ _ _ _ _)|(apply aaH (s:=s) (r:=u);rfl;rfl;omega;exact hc1)|refine gd16 ?_|(apply aaP;rfl;rfl;all_goals first|(intro h;exact absurd h hz)|intro _)|(apply aah;rfl;rfl)|refine gd17 ?_|(apply abr (i:=k+2);rfl;rfl;exact hl;omega;omega)|(apply aak;rfl;rfl)|(apply aaC;rfl;rfl;first|exact f1|exact f2)|refine gd0 ?_|refine gc ?_|(intro _;omega)|intro _
 all_goals first|omega|exact⟨.inr rfl,rfl,_,rfl,rfl,rfl⟩|exact cA rfl rfl (.same rfl rfl)|exact fin s2 so w2 wo _ _ (i+i) j h2 ho (by rw[Nat.add_mul];omega)|exact⟨.inr rfl,rfl,_,rfl,q,_,fin,rfl,hw2,rfl⟩):P:=h
theorem gg9 {P:Prop}(h:P:=by
 repeat' first|(apply aca (v:=d);rfl;rfl;omega;exact hmod)|(apply acb (v:=D);rfl;rfl;omega;omega;exact hD.symm)|(exact tl _ _ _ _ _ _ _)|(apply aab;rfl;rfl)|(apply acP (v:=R);rfl;rfl;omega;omega;exact hR.symm)|(apply abI (v:=bm neg q);rfl;rfl;exact hrange;omega;exact hdiv)|(apply aaF;rfl;rfl)|(apply aah;rfl;rfl)|refine gd1 ?_|(refine bP.app (f:=iC) (m:=[R]) (S:=[]) (fun _=>rfl) (fun _=>rfl) (by decide) (ho.grow [_]) (by simp) rfl rfl (Sl.ir (f:=iC) (esz:=1) (l:=[R]) (e:=3) (fun _=>rfl) cN rfl) hroom (fun H w' o' ho' hk hlen=>?_))|refine gd0 ?_|(refine bP.app (f:=iC) (m:=[0-d]) (S:=[0]) (fun _=>rfl) (fun _=>rfl) (by decide) (ho.grow [_]) (by simp) rfl rfl (Sl.ir (f:=iC) (esz:=1) (l:=[0-d]) (e:=3) (fun _=>rfl) cN rfl) hroom (fun H w' o' ho' hk hlen=>?_))|(apply aaE;rfl;rfl)|refine gc ?_|(intro _;omega)|intro _
 all_goals first|omega|exact⟨.inr rfl,rfl,_,rfl,rfl,rfl⟩|exact cA rfl rfl (.same rfl rfl)|exact next _ _ _|exact fin _ e _ _ _ _ _ _ ho' (hk 0 _ (by simp) (de hK))|exact cL ⟨n+1-(i+1),by omega,i+1,acc++[R],o',D,_,_,_,_,rfl,rfl,by omega,hD0,by omega,iu oA (fun z hz=>by rw[List.mem_singleton.1 hz];exact⟨by omega,by show _<(1000000000:Int);omega⟩),by simp[lA],ho',hval⟩|exact h1 _ _ _ (by rw[aW,if_neg (by omega),if_pos (by omega)]) _|exact cW (ih _ _ _ (by omega) hd2 h1 h2)):P:=h
theorem gg10 {P Q:Prop}(q:Q)(h:GQ Q->P:=by
 intro gq;repeat' first|(apply aaW;exact congrArg (fun z=>some (AV.ptr b z)) ei;exact hb;omega)|(apply abW;rfl)|(apply aaW;exact congrArg (fun z=>some (AV.ptr hp.length z)) eI;exact cN;omega)|(apply abJ (n:=s);rfl;rfl;rfl;omega)|(apply acd s;rfl;rfl;exact⟨gL.1,hlt⟩;exact hm;omega;exact hd)|(apply ace;exact congrArg (fun z=>some (AV.ptr hp.length z)) eI;rfl;omega)|(apply ace;exact congrArg (fun z=>some (AV.ptr hp.length z)) eJ;rfl;(rw[List.length_set];omega))|(apply abi (n:=64-s);rfl;rfl;omega;omega)|(apply aab;rfl;rfl)|(apply aah;rfl;rfl)|(apply aak;rfl;rfl)|refine gd11 ?_|refine gc ?_|(intro _;omega)|intro _|(omega)|exact gq.1):P:=h ⟨q⟩
theorem gg11 {P Q:Prop}(q:Q)(h:GQ Q->P:=by
 intro gq;repeat' first|(apply aaI (r:=x);rfl;rfl;omega;(rw[Int.toNat_natCast];exact h2))|(apply aaH (r:=y);rfl;rfl;omega;(rw[show ((x.length:Int)+(([b]:aM).length:Int)).toNat=x.length+1 by omega];exact h3))|refine gd6 ?_|(apply aaU;rfl;rfl;omega)|refine gd5 ?_|refine gd14 ?_|refine gd15 ?_|(rw[hg])|(apply aaI (r:=t);rfl;rfl;omega;(rw[show (((t++[c]).length:Int)-1).toNat=t.length by omega];simp))|(apply aaH (r:=s);rfl;rfl;omega;rfl)|(apply aah;rfl;rfl)|(apply aaE;rfl;rfl)|refine gd4 ?_|refine gc ?_|(intro _;omega)|intro _|(omega)|exact gq.1):P:=h ⟨q⟩
theorem gg12 {P Q:Prop}(q:Q)(h:GQ Q->P:=by
 intro gq;repeat' first|(apply acQ;rfl)|(apply acR (v:=(u:Int));rfl;omega)|(apply acS (L:=DJ) (n:=sm u);rfl;exact hz24;rfl;rfl;omega)|(apply abK (L:=L') (c:=45);rfl;rfl;omega)|(apply abL (L:=L'.set (0+0*1) 45) (n:=1+sm u);rfl;(rw[List.length_set];exact hl);rfl;omega;omega)|(apply acf (L:=L'.set (0+0*1) 45);rfl;(rw[List.length_set];omega))|(apply aab;rfl;rfl)|(apply aaG;rfl;rfl)|(apply aak;rfl;rfl)|(apply aah;rfl;rfl)|(apply aaF;rfl;rfl)|refine gd0 ?_|(apply aaC;rfl;rfl;first|exact q306)|refine gc ?_|(intro _;omega)|intro _|(omega)|exact gq.1):P:=h ⟨q⟩
theorem gg13 {P Q:Prop}(q:Q)(h:GQ Q->P:=by
 intro gq;repeat' first|(apply acg (r:=k+2) (k:=.i64);rfl;rfl;omega;omega;(intro c hc;cases hc;exact Nat.le_refl _))|(apply abB;rfl;rfl;rfl;first|exact q1|exact q2)|(apply abK (c:=dw V);rfl;exact(congrArg (fun z:Int=>some (AV.int .u8 z)) (show (48+(V:Int))%256=((dw V).toNat:Int) by rw[hd];omega));omega)|(apply ach;rfl;rfl;omega)|(apply aci;rfl)|(apply aah;rfl;rfl)|(apply aaF;rfl;rfl)|(apply aaC;rfl;rfl;first|exact hc')|refine gd1 ?_|refine gc ?_|(intro _;omega)|intro _|(omega)|exact gq.1):P:=h ⟨q⟩
theorem gg14 {P:Prop}(h:P:=by
 repeat' first|(apply aaI (r:=t);rfl;rfl;omega;exact e')|(apply aaW;exact congrArg (fun z=>some (AV.ptr 0 z)) eI;rfl;omega)|(exact tl _ _ _ _ _)|(apply abo (i:=i);rfl;exact hl;omega;omega)|refine gd9 ?_|(apply aab;rfl;rfl)|(apply abp (i:=i);rfl;exact hb;exact hne;omega;omega)|refine gd1 ?_|(apply abr (i:=i);rfl;rfl;exact hl;omega;omega)|refine gd0 ?_|(apply aaq;rfl;rfl;rfl;exact⟨rfl,Nat.le_refl _,by simp[overwrite,fT,iJ,o3,o4,o5,o6]⟩;rfl)|(apply abh (a:=m/18446744073709551616);rfl;rfl;omega)|(apply abh;rfl;rfl;exact⟨by omega,by omega⟩)|refine gc ?_|(intro _;omega)|intro _
 all_goals first|omega|exact⟨.inr rfl,rfl,_,rfl,rfl,rfl⟩|exact next _ _ _ _|exact⟨.inr rfl,rfl,_,rfl,[],a,⟨gH,iK,(Int.ediv_eq_zero_of_lt a0 hlt).symm⟩,⟨oa,na,(Int.emod_eq_of_lt a0 hlt).symm⟩,jg.less⟩|exact next _ _ _ _ _ _ _|exact cA rfl rfl (out _)|exact next _ _ _ _ _|exact next _ _):P:=h
theorem gg15 {P:Prop}(h:P:=by
 repeat' first|(apply acT;rfl;omega)|(exact tl _ _ _ _ _ _ _ _ _ _ _ _ _)|(apply aaq;rfl;rfl;exact hK;exact⟨rfl,Nat.le_refl _,by rw[List.all_cons,List.all_cons,List.all_nil,hone];rfl⟩;rfl)|(apply acU;rfl;rfl;exact⟨rfl,Nat.le_refl _,by simp[overwrite,fT,o3]⟩;rfl)|(apply acV;rfl;rfl;simp;exact⟨rfl,Nat.le_refl _,by simp[overwrite,fT,o4]⟩;rfl)|(apply acW;rfl;simp;rfl)|(apply aaq;rfl;rfl;rfl;exact⟨rfl,Nat.le_refl _,by simp[overwrite,fT,o2,o4]⟩;rfl)|(apply aaP;rfl;rfl;all_goals first|(intro h;exact absurd hs h)|intro _)|(apply aaq;rfl;rfl;exact hK;exact⟨rfl,Nat.le_refl _,rfl⟩;rfl)|(apply aaF;rfl;rfl)|(apply aaC;rfl;rfl;first|exact q196)|refine gd0 ?_|(apply aaC;rfl;rfl;first|exact q _)|refine gc ?_|(intro _;omega)|intro _
 all_goals first|omega|exact h1 (by simp[xl]) _ _ _ _ _ _ _|exact⟨.inr rfl,rfl,_,pD rfl (gg hK1),v0,k0,o0⟩|exact hQ A U V B _ _ hw heq hm hl rfl|exact⟨.inr rfl,rfl,_,rfl,by rw[decide_eq_false (fun e=>hlm (by rw[e]))];rfl,rfl⟩|exact⟨.inr rfl,rfl,_,rfl,by simp[aQ, *],rfl⟩|exact next _ _ _ _|exact⟨.inr rfl,rfl,_,rfl,rfl,rfl⟩|exact⟨.inr rfl,rfl,_,pD rfl (gg hK1),v0,k0,out _⟩):P:=h
theorem gg16 {P Q:Prop}(q:Q)(h:GQ Q->P:=by
 intro gq;repeat' first|(apply aaV (v:=x);exact congrArg (fun z=>some (AV.ptr 1 z)) eI;rfl;omega;exact f0)|(apply abi (n:=s);rfl;rfl;rfl;omega)|(apply aaT;exact congrArg (fun z=>some (AV.ptr 1 z)) eI;rfl;rfl;omega)|(apply aaV (v:=x/2^s);exact congrArg (fun z=>some (AV.ptr 1 z)) eI;rfl;(rw[List.length_set];omega);exact f1)|(apply aaV (v:=z);exact congrArg (fun z=>some (AV.ptr 1 z)) eJ;rfl;(rw[List.length_set];omega);exact f2)|(apply abJ (n:=64-s);rfl;rfl;omega;omega)|(apply acd (64-s);rfl;rfl;exact w1;exact w2;omega;exact w3)|(apply aaT;exact congrArg (fun z=>some (AV.ptr 1 z)) eI;rfl;rfl;(rw[List.length_set];omega))|(apply abt;rfl;exact hb;exact hpart)|(apply acX;rfl;rfl;omega)|(apply aab;rfl;rfl)|refine gd4 ?_|(apply aah;rfl;rfl)|refine gc ?_|(intro _;omega)|intro _|(omega)|exact gq.1):P:=h ⟨q⟩
theorem gg17 {P:Prop}(h:P:=by
 repeat' first|(apply acY;rfl;rfl;omega)|(exact MC C.tokN hl hne hb lk hX oX hV oV q g1 g2 g3 _ _ _ _ _ _ _ _ _ _ _ _ _ _ _ _ _ _)|(apply aaJ;rfl;rfl;first|exact hc)|(exact DO C hN hx hy ol om nl nm ll lm hm _ _ _ _ _ _ _ _)|(exact DO C hN hx1 hy1 ol1 om1 nl1 nm1 ll1 lm1 hm1 _ _ _ _ _ _ _ _)|(apply aaq;rfl;rfl;rfl;exact⟨rfl,Nat.le_refl _,by first|exact kc o1|exact kc o2|exact kc o3|exact kc o4⟩;rfl)|refine gd20 ?_|refine gd1 ?_|(apply abt;rfl;rfl;rfl)|refine gd0 ?_|(apply abt;rfl;exact hb;exact aas)|refine gd2 ?_|refine gc ?_|fail
 all_goals first|omega|exact⟨.inr rfl,rfl,_,rfl,rfl,rfl⟩|exact⟨.inr rfl,rfl,rfl,rfl,_,rfl,rfl⟩):P:=h
theorem gg18 {P Q:Prop}(q:Q)(h:GQ Q->P:=by
 intro gq;repeat' first|refine gd9 ?_|(apply aaI (s:=s) (r:=X);rfl;rfl;omega;exact e1')|(apply aaH (s:=s) (r:=Y);rfl;rfl;omega;exact e2')|refine gd1 ?_|refine gd20 ?_|(apply abL (L:=DJ) (n:=sm u);rfl;exact hz;rfl;rfl;omega)|(apply abL (L:=L') (n:=sm u);rfl;exact hl;rfl;rfl;omega)|(apply acf (L:=L');rfl;omega)|(apply aab;rfl;rfl)|(apply aak;rfl;rfl)|refine gd0 ?_|(apply aaC;rfl;rfl;first|exact q280b|exact q276b|exact q280a)|(apply aaC;rfl;rfl;first|exact q306)|refine gc ?_|(intro _;omega)|intro _|(omega)|exact gq.1):P:=h ⟨q⟩
theorem gg19 {P Q:Prop}(q:Q)(h:GQ Q->P:=by
 intro gq;repeat' first|refine gd17 ?_|(apply abo (i:=k+1);rfl;exact hl;omega;omega)|(apply abp (i:=k+1);rfl;exact hb;exact hne;omega;omega)|refine gd1 ?_|(apply aaq;rfl;rfl;rfl;exact⟨rfl,Nat.le_refl _,by simp[overwrite,fT,o3,o4]⟩;rfl)|(apply aaE;rfl;rfl)|(apply aaJ;rfl;rfl;first|exact q243)|(apply abr (i:=k+2);rfl;rfl;exact hl;omega;omega)|(apply aak;rfl;rfl)|refine gd0 ?_|refine gc ?_|(intro _;omega)|intro _|(omega)|exact gq.1):P:=h ⟨q⟩
theorem gg20 {P:Prop}(h:P:=by
 repeat' first|(apply aaM (L:=V) (m:=i) (v:=y);rfl;omega;omega;exact hy.symm)|(apply acj (i:=i);rfl;exact hl;omega;omega)|(apply ack (i:=i);rfl;rfl;exact hl;omega;omega)|(apply abM (v:=w);exact congrArg (fun z=>some (AV.ptr 0 z)) eI;rfl;omega;exact hw.symm)|(apply abu;exact congrArg (fun z=>some (AV.ptr 0 z)) eI;rfl;rfl;omega)|(apply acZ (r:=[dw (q%10)]);rfl;rfl;rfl;(simp only[List.length_cons,List.length_nil];omega);exact ec')|(apply abv;rfl;rfl;omega;omega)|(apply abN;rfl;rfl;omega;omega)|(apply aab;rfl;rfl)|(apply aaE;rfl;rfl)|(apply aah;rfl;rfl)|(apply abC;rfl;rfl;omega;intro _ _)|(apply abZ;rfl;rfl;omega;omega;intro _ _)|refine gc ?_|(intro _;omega)|intro _
 all_goals first|omega|exact next _ _ _|exact next _ _ _ _ _ (by omega) (by omega) (by omega)|exact h1 _ _ _ (by rw[aW,if_pos (by omega)]) _|exact cL ⟨A%B,by omega,B,A%B,_,_,rfl,rfl,by omega,by omega,hn⟩|exact fin _ _):P:=h
theorem gg21 {P:Prop}(h:P:=by
 repeat' first|(apply adj;rfl)|(refine bP.app (f:=sh) (m:=[zs++aX R]) (S:=[1]) (fun _=>rfl) (fun _=>rfl) (by decide) (ho.grow [_]) (by simp;omega) rfl rfl (Sl.ir (f:=sh) (esz:=1) (l:=[zs++aX R]) (e:=9) (fun _=>rfl) cN rfl) hroom (fun H w' o' ho' hk hlen=>?_))|refine gd6 ?_|refine gd5 ?_|refine gd14 ?_|refine gd15 ?_|(apply aaM (L:=V) (m:=k) (v:=v0);rfl;omega;omega;exact hv0)|(apply aaM (L:=U) (m:=j+k) (v:=t0);rfl;omega;omega;exact ht0)|(apply aah;rfl;rfl)|(apply aaJ;rfl;rfl;first|exact q253|exact q263 _|exact q264 _)|(apply aaE;rfl;rfl)|refine gc ?_|(intro _;omega)|intro _
 all_goals first|omega|exact cW (ih _ _ _ (by omega) I2 (by omega))|exact⟨.inr rfl,rfl,_,rfl,rfl,rfl⟩|exact fin _ _ _ _ _ _ _ ho' (hk _ _ (by simp) (de hK))|exact hQ _ _ _ _ ⟨q0.1,by omega⟩ I.ge fin):P:=h
theorem gg22 {P:Prop}(h:P:=by
 repeat' first|(apply aau hn hlt)|(apply adk;rfl;omega)|(refine bP.app (f:=iC) (m:=[(0:Int)]) (S:=[0]) (fun _=>rfl) (fun _=>rfl) (by decide) (ho.grow [_]) (by simp) rfl rfl (Sl.ir (f:=iC) (esz:=1) (l:=[(0:Int)]) (e:=3) (fun _=>rfl) cN rfl) hroom (fun H w' o' ho' hk hlen=>?_))|(apply abX;rfl;exact hkl;omega)|(apply abY;rfl;rfl;exact hkl;omega)|(apply abu;exact congrArg (fun z=>some (AV.ptr bq z)) eP;rfl;exact hq2;omega)|(apply aab;rfl;rfl)|(apply aaC;rfl;rfl;first|exact q0)|(apply aaC;rfl;rfl;first|exact q1)|refine gc ?_|(intro _;omega)|intro _
 all_goals first|omega|exact⟨i,h8,hi,rfl,by rw[hVe],hL,hw⟩|exact next _ _ _ _ ho' (hk 0 _ (by simp) (de hK)) (by omega)|exact⟨.inr rfl,rfl,_,rfl,[],⟨gH,iK,hv⟩,_,.nil,rfl,rfl⟩|exact⟨.inr rfl,rfl,_,rfl,_,⟨g1,g2,by rw[g3,hv]⟩,hout⟩|exact⟨.inr rfl,rfl,_,rfl,[],⟨gH,iK,hv⟩,fD.Dz (S:=[]) (.inr ⟨k,cap,by simp,rfl,hk,hcap⟩)⟩|exact fin (q-1) _ L2 _ _ _ _ _ _ _ _ _ _ _ _ ⟨by omega,by omega⟩ hL2 oL2 hz0 vL2 hlt rfl|exact fin q _ L1 _ _ _ _ _ _ _ _ _ _ _ _ q0 hL1 oL1 hz0 vL1 hlt rfl):P:=h
end Go.Ab
namespace Go.Ab
abbrev zm (a b:Nat):aO:=⟨.l a,.mv (.p b),none⟩
abbrev zw (a b:Nat):aO:=⟨.p a,.mv (.l b),none⟩
abbrev zn (a b:Nat):aO:=⟨.l a,.mv (.l b),none⟩
abbrev zi (a:Nat)(n:Int):aO:=⟨.p a,.mv (.c (.int .i64 n)),none⟩
abbrev z1 (a f x:Nat):aO:=⟨.l a,.call (.c (.fn (.func f) [] [])) [.l x],none⟩
abbrev z2 (a f x y:Nat):aO:=⟨.l a,.call (.c (.fn (.func f) [] [])) [.l x,.l y],none⟩
abbrev ze (a i x:Nat):aO:=⟨.l a,.extract i (.l x),none⟩
abbrev za (a k x y:Nat):aO:=⟨.l a,.dX none k (.l x) (.l y),none⟩
abbrev zd (a n x:Nat):aO:=⟨.l a,.load n false (.l x),none⟩
abbrev zt (a n x:Nat):aO:=⟨.l a,.load n true (.p x),none⟩
abbrev zT (a n x:Nat):aO:=⟨.l a,.load n true (.l x),none⟩
abbrev zs (n a x:Nat):aO:=⟨.no,.store n (.p a) (.l x),none⟩
abbrev zS (n a x:Nat):aO:=⟨.no,.store n (.l a) (.l x),none⟩
abbrev zf (a n x:Nat):aO:=⟨.l a,.mR n (.p x),none⟩
abbrev zl (a x:Nat):aO:=⟨.l a,.len .sl (.l x),none⟩
abbrev zL (a x:Nat):aO:=⟨.l a,.len .str (.l x),none⟩
abbrev zb (a:Nat)(o:BinOp)(x y:Nat):aO:=⟨.l a,.bin o (.l x) (.l y),none⟩
abbrev zc (a:Nat)(o:BinOp)(x:Nat)(n:Int):aO:=⟨.l a,.bin o (.l x) (.c (.int .i64 n)),none⟩
abbrev zq (a:Nat)(o:BinOp)(x:Nat)(n:Int):aO:=⟨.l a,.bin o (.p x) (.c (.int .i64 n)),none⟩
abbrev zr (a:Nat)(o:BinOp)(x y:Nat):aO:=⟨.l a,.bin o (.p x) (.p y),none⟩
abbrev zp (a c x:Nat):aO:=⟨.l a,.pick (.l c) (.l x) (.c (.bool false)),none⟩
abbrev zP (a c x:Nat):aO:=⟨.l a,.pick (.l c) (.c (.bool true)) (.l x),none⟩
abbrev zx (a e n x:Nat):aO:=⟨.p a,.box e n (.p x),none⟩
abbrev zu (a x:Nat):aO:=⟨.l a,.un .not (.l x),none⟩
theorem nca:(∀l:List AV,[]++l=l) /\ ∀(a:AV) (l m:List AV),(a::l)++m=a::(l++m):=⟨List.nil_append,fun _ _ _=>List.cons_append⟩
abbrev kI (n:Int):ax:=.c (.int .i64 n)
abbrev kU (n:Int):ax:=.c (.int .u64 n)
abbrev kW (n:Int):ax:=.c (.int .u32 n)
abbrev AV.iV (n:Int):AV:=.int .i64 n
abbrev AV.uV (n:Int):AV:=.int .u64 n
abbrev zR (l:List aO)(c:an):an:=.seq (.region l) c
abbrev kF (f:Nat):ax:=.c (.fn (.func f) [] [])
abbrev zg (o:aO)(k:Nat)(b:Bool):aO:=⟨o.dst,o.op,some (.l k,b)⟩
abbrev zD0:List UInt8:=[0,1,2,2,3,3,3,3,4,4,4,4,4,4,4,4,5,5,5,5,5,5,5,5,5,5,5,5,5,5,5,5,6,6,6,6,6,6,6,6,6,6,6,6,6,6,6,6,6,6,6,6,6,6,6,6,6,6,6,6,6,6,6,6,7,7,7,7,7,7,7,7,7,7,7,7,7,7,7,7,7,7,7,7,7,7,7,7,7,7,7,7,7,7,7,7,7,7,7,7,7,7,7,7,7,7,7,7,7,7,7,7,7,7,7,7,7,7,7,7,7,7,7,7,7,7,7,7,8,8,8,8,8,8,8,8,8,8,8,8,8,8,8,8,8,8,8,8,8,8,8,8,8,8,8,8,8,8,8,8,8,8,8,8,8,8,8,8,8,8,8,8,8,8,8,8,8,8,8,8,8,8,8,8,8,8,8,8,8,8,8,8,8,8,8,8,8,8,8,8,8,8,8,8,8,8,8,8,8,8,8,8,8,8,8,8,8,8,8,8,8,8,8,8,8,8,8,8,8,8,8,8,8,8,8,8,8,8,8,8,8,8,8,8,8,8,8,8,8,8,8,8,8,8,8,8]
abbrev zD1:List UInt8:=[48,48,48,49,48,50,48,51,48,52,48,53,48,54,48,55,48,56,48,57,49,48,49,49,49,50,49,51,49,52,49,53,49,54,49,55,49,56,49,57,50,48,50,49,50,50,50,51,50,52,50,53,50,54,50,55,50,56,50,57,51,48,51,49,51,50,51,51,51,52,51,53,51,54,51,55,51,56,51,57,52,48,52,49,52,50,52,51,52,52,52,53,52,54,52,55,52,56,52,57,53,48,53,49,53,50,53,51,53,52,53,53,53,54,53,55,53,56,53,57,54,48,54,49,54,50,54,51,54,52,54,53,54,54,54,55,54,56,54,57,55,48,55,49,55,50,55,51,55,52,55,53,55,54,55,55,55,56,55,57,56,48,56,49,56,50,56,51,56,52,56,53,56,54,56,55,56,56,56,57,57,48,57,49,57,50,57,51,57,52,57,53,57,54,57,55,57,56,57,57]
abbrev zD2:List UInt8:=[65,116,111,105]
abbrev zD3:List UInt8:=[48,49,50,51,52,53,54,55,56,57]
end Go.Ab
namespace Go.Ab
def mV (rec:Value->Option AV):List Value->Option (List AV)
 | []=>some []
 | v::r=>match rec v,mV rec r with
   | some a,some l=>some (a::l)
   | _,_=>none
def lE:Nat->Value->Option AV
 | 0,_=>none
 | n+1,v=>
  match v with
  | .bool b=>some (.bool b)
  | .int k m=>some (.int k m)
  | .string s=>some (.str s.data.toList)
  | .pointer none=>some .dE
  | .slice none 0 0=>some .ae
  | .map none=>some .dL
  | .nilFunc=>some .fa
  | .nilIface=>some .cZ
  | .func (.func f) ⟨[]⟩ ⟨[]⟩=>some (.fn (.func f) [] [])
  | .agg ⟨cs⟩=>(mV (fun v=>lE n v) cs).map .agg
  | .tuple ⟨cs⟩=>(mV (fun v=>lE n v) cs).map .aq
  | _=>none
def idx (t:Nat):List Nat->Nat->Option Nat
 | [],_=>none
 | u::r,i=>if u=t then some i else idx t r (i+1)
structure Cx where
 P:Program
 gl:Nat->Option AV
 az:List Nat
 N:Nat
def fE (C:Cx):Operand->Option ax
 | .tmp t=>match idx t C.az 0 with
   | some i=>some (.p i)
   | none=>some (.l t)
 | .const v=>(lE 5 v).map .c
 | .func f=>some (.c (.fn (.func f) [] []))
 | .global g=>(C.gl g).map .c
def gn (C:Cx):List Operand->Option (List ax)
 | []=>some []
 | x::xs=>match fE C x,gn C xs with
   | some a,some l=>some (a::l)
   | _,_=>none
def ke (C:Cx):Option Operand->Option (Option ax)
 | none=>some none
 | some x=>(fE C x).map some
def xq:TypeDesc->Bool
 | .struct _ | .array _ _=>true
 | _=>false
def shapeOf (P:Program)(t:TypeId):Option (Nat×Bool):=
 match P.info? t,P.underlying t with
 | some i,some d=>some (i.size,xq d)
 | _,_=>none
def zeroOf (P:Program)(t:TypeId):Option AV:=
 match P.info? t with
 | some i=>match i.zero with
   | some v=>lE 5 v
   | none=>none
 | none=>none
def pG (P:Program)(rec:TypeId->Option fS):List Field->Option (List (Nat×Nat×Bool×fS))
 | []=>some []
 | f::r=>match pG P rec r with
   | some l => if f.name == "_" then some l else
     match shapeOf P f.type,rec f.type with
     | some (n,ag),some e=>some ((f.offset,n,ag,e)::l)
     | _,_=>none
   | none=>none
def pH (sz:Nat)(ag:Bool)(q:fS):Nat->Nat->List (Nat×Nat×Bool×fS)
 | 0,_=>[]
 | n+1,i=>(i*sz,sz,ag,q)::pH sz ag q n (i+1)
def gp (P:Program):Nat->Bool->TypeId->Option fS
 | 0,_,_=>none
 | d+1,g,t=>
  match P.underlying t with
  | some .bool=>some .bool
  | some (.int _)=>some .int
  | some .string=>some .str
  | some (.pointer _)=>some (.ref .ptr)
  | some (.slice _)=>some (.ref .slice)
  | some (.map _ _)=>some (.ref .map)
  | some (.func _ _ _)=>some (.ref .func)
  | some (.interface ms)=>some (.iface (g && !ms.isEmpty))
  | some (.struct fs)=>if P.stoodInHeld t then none else (pG P (fun t=>gp P d true t) fs.toList).map .wL
  | some (.array n e)=>match shapeOf P e,gp P d true e with
    | some (sz,ag),some q=>some (.wL (pH sz ag q n 0))
    | _,_=>none
  | _=>none
def jK:Operand->Bool
 | .const _=>true
 | _=>false
def ji (C:Cx)(place:Nat->Option (Nat×Nat)):List (Nat×Operand)->Option (List (Nat×Nat×ax))
 | []=>some []
 | (i,x)::r=>match place i,fE C x,ji C place r with
   | some (o,n),some a,some l=>some ((o,n,a)::l)
   | _,_,_=>none
def mW (P:Program):List Field->Option (List (Nat×Nat))
 | []=>some []
 | f::r=>match P.info? f.type,mW P r with
   | some i,some l=>some ((f.offset,i.size)::l)
   | _,_=>none
def gU (P:Program)(t:TypeId):Option (TypeId×Nat×Nat):=
 match P.underlying t with
 | some (.slice e)=>match P.info? e with
   | some i=>some (e,i.size,i.bytes)
   | none=>none
 | _=>none
def keyOf (P:Program)(t:TypeId):Option gE:=
 match P.underlying t with
 | some (.int _)=>some .int
 | some .string=>some .str
 | _=>none
def pI:BinOp->Bool
 | .eql | .neq=>true
 | _=>false
def su (P:Program)(t:TypeId):Bool:=
 match P.underlying t with
 | some (.int _)|some .string=>true
 | _=>false
def sv (P:Program)(e:TypeId)(n:Nat):Bool:=
 match (zeroOf P e).bind AV.cells with
 | some z=>z.length == n
 | none=>false
def xr (P:Program)(t:TypeId):Bool:=
 match P.underlying t with
 | some (.struct _)|some (.array _ _)=>P.eqGuardType P.depth t
 | _=>false
def ME:Fn->Bool
 | .yield _=>true
 | _=>false
def iw (P:Program)(e:TypeId):Bool:=
 match P.info? e with
 | some i=>match i.desc with
   | .named n _ => n == "strings.Builder"
   | _=>false
 | none=>false
def xu (P:Program)(t:TypeId):Bool:=
 match P.underlying t with
 | some (.pointer e)=>iw P e
 | _=>false
def gV (C:Cx)(o:Oper):Option aS:=
 let P:=C.P
 let d:=fE C
 match o.op with
 | .move x | .assign x=>(d x).map .mv
 | .pick c a b=>match d c,d a,d b with
   | some c,some a,some b=>some (.pick c a b)
   | _,_,_=>none
 | .alloc e=>match zeroOf P e with
   | some z=>z.cells.map (.alloc e)
   | none=>none
 | .box e x=>match shapeOf P e,d x with
   | some (n,_),some x=>some (.box e n x)
   | _,_=>none
 | .build t ps=>match zeroOf P t with
   | some z=>match z.cells,P.underlying t with
     | some zc,some (.struct fs)=>match mW P fs.toList with
       | some pl=>(ji C (pl[·]?) ps.toList).map (.build zc)
       | none=>none
     | some zc,some (.array _ e)=>match P.info? e with
       | some i=>(ji C (fun j=>some (j*i.size,i.size)) ps.toList).map (.build zc)
       | none=>none
     | _,_=>none
   | none=>none
 | .buildSlice t len ps=>match gU P t with
   | some (e,n,_)=>match (zeroOf P e).bind AV.cells,ji C (fun j=>some (j*n,n)) ps.toList with
     | some z,some l=>if len*n<=2^24/\z.length=n/\0<n then some (.dT e len n z l) else none
     | _,_=>none
   | none=>none
 | .load t a=>match shapeOf P t,d a with
   | some (n,ag),some a=>some (.load n ag a)
   | _,_=>none
 | .store t a x=>match shapeOf P t,d a,d x with
   | some (n,_),some a,some x=>some (.store n a x)
   | _,_,_=>none
 | .nilCheck x=>(d x).map .wP
 | .binOp op t x y _=>match d x,d y with
   | some a,some b=>
    if pI op && !su P t then
     if xu P t && !(jK x || jK y) then some (.mQ (op == .neq) a b) else
     if xr P t then none else
     (gp P 20 (!(jK x || jK y)) t).map fun e=>.eq (op == .neq) e a b
    else some (.bin op a b)
   | _,_=>none
 | .unOp op _ x=>(d x).map (.un op)
 | .convert src dst x=>match P.underlying src,P.underlying dst,d x with
   | some (.int _),some (.int k),some a=>some (.dM k a)
   | some (.int _),some .string,some a=>some (.wM a)
   | some .string,some .string,some a=>some (.wN a)
   | some .string,some (.slice e),some a=>match P.underlying e with
     | some (.int .u8)=>if iw P e then none else some (.mN e a)
     | _=>none
   | some (.slice e),some .string,some a=>match P.underlying e with
     | some (.int .u8)=>some (.mO a)
     | _=>none
   | some (.pointer t),some .unsafePointer,some a=>match P.info? t with
     | some i=>if i.size=0 then none else some (.mP none a)
     | none=>none
   | some .unsafePointer,some (.pointer u),some a=>match P.info? u with
     | some _=>if iw P u && liesAt P P.depth u (P.cellsOf u/P.cellsOf u) 0 u 1 then some (.mP (some (u,P.cellsOf u)) a) else none
     | none=>none
   | _,_,_=>none
 | .makeInterface t x=>match P.underlying t with
   | some (.interface _)=>none
   | some _=>(d x).map (.pj t)
   | none=>none
 | .typeAssert x _ t ok=>match P.underlying t with
   | some (.interface _)=>none
   | some _=>match d x,zeroOf P t with
     | some x,some z=>some (.wR t z ok x)
     | _,_=>none
   | none=>none
 | .makeFunc f fi ca=>if ME f then none else match gn C fi.toList,gn C ca.toList with
   | some a,some b=>some (.pk f a b)
   | _,_=>none
 | .makeMap _ none=>some .kX
 | .makeSlice t l c=>match gU P t,d l,d c with
   | some (e,n,by'),some l,some c=>match (zeroOf P e).bind AV.cells with
     | some z=>if z.length=n/\0<n then some (.fK e n by' z l c) else none
     | none=>none
   | _,_,_=>none
 | .slice t x lo hi mx=>match P.underlying t,d x,ke C lo,ke C hi,ke C mx with
   | some .string,some x,some l,some h,some none=>some (.slice .str 1 x l h none)
   | some (.slice e),some x,some l,some h,some m=>match P.info? e with
     | some i=>some (.slice .sl i.size x l h m)
     | none=>none
   | some (.array n e),some x,some l,some h,some none=>match P.info? e with
     | some i=>some (.jE n i.size x l h)
     | none=>none
   | _,_,_,_,_=>none
 | .fieldAddr t x f=>match P.underlying t,d x with
   | some (.struct fs),some x=>match fs[f]? with
     | some f=>match P.info? f.type with
       | some i=>if i.size=0 then none else some (.mR f.offset x)
       | none=>none
     | none=>none
   | _,_=>none
 | .field t x f=>match P.underlying t,d x with
   | some (.struct fs),some x=>match fs[f]? with
     | some f=>match shapeOf P f.type with
       | some (n,ag)=>some (.field f.offset n ag x)
       | none=>none
     | none=>none
   | _,_=>none
 | .indexAddr t x i=>match P.underlying t,d x,d i with
   | some (.array n e),some x,some i=>match P.info? e with
     | some inf=>some (.dX (some n) inf.size x i)
     | none=>none
   | some (.slice e),some x,some i=>match P.info? e with
     | some inf=>some (.dX none inf.size x i)
     | none=>none
   | _,_,_=>none
 | .index t x i=>match P.underlying t,d x,d i with
   | some .string,some x,some i=>some (.index x i)
   | some (.array n e),some x,some i=>match shapeOf P e with
     | some (sz,ag)=>some (.wQ n sz ag x i)
     | none=>none
   | _,_,_=>none
 | .lookup t x i ok=>match P.underlying t,d x,d i with
   | some (.map k e),some x,some i=>match keyOf P k,zeroOf P e with
     | some k,some z=>some (.lookup k z x i ok)
     | _,_=>none
   | _,_,_=>none
 | .mapUpdate t m i x | .insert t m i x=>match P.underlying t,d m,d i,d x with
   | some (.map k _),some m,some i,some x=>(keyOf P k).map fun k=>.pn k m i x
   | _,_,_,_=>none
 | .range t x=>match P.underlying t,d x with
   | some .string,some x=>some (.range x)
   | _,_=>none
 | .next x true=>(d x).map .next
 | .extract x i=>(d x).map (.extract i)
 | .call c=>match c.callee with
   | .value f=>match d f,gn C c.args.toList with
     | some f,some as=>some (.call f as)
     | _,_=>none
   | .invoke r name=>match d r,gn C c.args.toList with
     | some r,some as=>some (.invoke r name as)
     | _,_=>none
   | .builtin b=>match b,c.argTypes.toList,gn C c.args.toList with
     | .len,[t],some [x]=>match P.underlying t with
       | some (.array n _)=>some (.len (.arr n) x)
       | some (.map _ _)=>some (.po x)
       | some .string=>some (.len .str x)
       | some (.slice _)=>some (.len .sl x)
       | _=>none
     | .cap,[t],some [x]=>match P.underlying t with
       | some (.slice _)=>some (.cap x)
       | _=>none
     | .append,[t,u],some [x,y]=>match gU P t,P.underlying u with
       | some (e,n,by'),some .string=>if n=1/\sv P e n=true/\iw P e=false then some (.append e n by' x y) else none
       | some (e,n,by'),some (.slice _)=>if 0<n/\sv P e n=true/\iw P e=false then some (.append e n by' x y) else none
       | _,_=>none
     | .copy,[t,_],some [x,y]=>match gU P t with
       | some (_,n,_)=>if 0<n then some (.copy n x y) else none
       | none=>none
     | .clear,[t],some [x]=>match gU P t with
       | some (e,n,_)=>match (zeroOf P e).bind AV.cells with
         | some z=>if z.length=n/\0<n then some (.ph n z x) else none
         | none=>none
       | none=>none
     | .unsafeSliceData,[t],some [x]=>match P.underlying t with
       | some (.slice _)=>some (.wO x)
       | _=>none
     | .unsafeString,[t,_],some [x,n]=>match P.underlying t with
       | some (.pointer e)=>if P.cellsOf e=1 then some (.pg e x n) else none
       | _=>none
     | .max,_,some xs=>some (.mm true xs)
     | .min,_,some xs=>some (.mm false xs)
     | _,_,_=>none
 | _=>none
def jj (C:Cx):Option Tmp->Option dU
 | none=>some .no
 | some t=>if t<C.N then
     match idx t C.az 0 with
     | some i=>some (.p i)
     | none=>some (.l t)
   else none
def sw (C:Cx)(ops:List Oper):Option (Nat×Bool)->Option (Option (ax×Bool))
 | none=>some none
 | some (j,w)=>match ops[j]? with
   | some o=>match o.dst with
     | some t=>(fE C (.tmp t)).map fun x=>some (x,w)
     | none=>none
   | none=>none
def sx (C:Cx)(ops:List Oper)(o:Oper):Option aO:=
 match jj C o.dst,gV C o,sw C ops o.guard with
 | some d,some op,some g=>some ⟨d,op,g⟩
 | _,_,_=>none
def iL (C:Cx)(ops:List Oper):List Oper->Option (List aO)
 | []=>some []
 | o::r=>match sx C ops o,iL C ops r with
   | some a,some l=>some (a::l)
   | _,_=>none
def MF (ops:List Oper):List Nat:=
 ops.foldl (fun acc o=>acc++[o.after.toList.foldl (fun s e=>if Region.binds .any e then s ||| 2^e.on ||| acc.getD e.on 0 else s) 0]) []
def ix (bits i:Nat):List Nat:=(List.range i).filter fun j=>!bits.testBit j
def mX (ops:List Oper)(bits:List Nat):Bool:=
 ops.zipIdx.all fun (o,i)=>
  o.after.toList.all (fun e=>!Region.binds .any e || decide (e.on<i)) &&
  (List.range i).all fun j=>!(bits.getD i 0).testBit j || o.after.toList.any fun e=>Region.binds .any e && (e.on == j || (decide (j<e.on) && (bits.getD e.on 0).testBit j))
def mY (l:List aO)(bits:List Nat):Bool:=
 l.zipIdx.all fun (o,i)=>(ix (bits.getD i 0) i).all fun j=>match l[j]? with|some oj=>mT oj o|none=>false
def sy (C:Cx)(ops:List Oper)(draw:Bool):Option an:=
 match iL C ops ops with
 | none=>none
 | some l=>
  if draw then
   let bits:=MF ops
   if mX ops bits && mY l bits then some (.draw (l.zipIdx.map fun (o,i)=>(o,ix (bits.getD i 0) i))) else none
  else some (.region l)
def kf (C:Cx):List Tmp->Option (List dU)
 | []=>some []
 | t::r=>match jj C (some t),kf C r with
   | some d,some l=>some (d::l)
   | _,_=>none
def ff (C:Cx)(rd:Bool):Code->Option an
 | .skip=>some .skip
 | .region _ ops draw=>some ((sy C ops.toList draw).getD .bad)
 | .seq a b=>match ff C rd a,ff C rd b with
   | some a,some b=>some (.seq a b)
   | _,_=>none
 | .cond c a b=>match fE C c,ff C rd a,ff C rd b with
   | some c,some a,some b=>some (.cond c a b)
   | _,_,_=>none
 | .block id c=>(ff C rd c).map (.block id)
 | .loop c=>(ff C rd c).map .loop
 | .exit id=>some (.exit id)
 | .ret=>some .ret
 | .scope c=>(ff C rd c).map fun c=>.seq c .skip
 | .label _=>some .skip
 | .rangeFunc f ps a b=>match fE C f,kf C ps.toList,ff C true a,ff C true b with
   | some f,some ps,some a,some b=>some (.rangeFunc rd f ps a b)
   | _,_,_,_=>none
 | _=>some .bad
def jL (C:Cx):List ResultVar->Option (List fc)
 | []=>some []
 | .tmp t::r=>match fE C (.tmp t),jL C r with
   | some x,some l=>some (.var x::l)
   | _,_=>none
 | .cell t ty::r=>match fE C (.tmp t),shapeOf C.P ty,jL C r with
   | some x,some (n,ag),some l=>some (.cell n ag x::l)
   | _,_,_=>none
def sA (P:Program)(gl:Nat->Option AV)(az:List Nat)(f:Func):Option cK:=
 let C:Cx:=⟨P,gl,az,f.ntmps⟩
 match f.body with
 | none=>none
 | some c=>
  match ff C false c,jL C f.results.toList with
  | some b,some r=>if az.all (· < f.ntmps) && decide az.Nodup then some ⟨f.ntmps,az,r,b⟩ else none
  | _,_=>none
def dY (P:Program)(t:TypeId)(name:String):Option FuncId:=
 match P.info? t,P.underlying t with
 | some i,some u=>match i.methods.toList.find? (·.name == name) with
   | some m=>match m.func,m.path.toList with
     | some (f,ptr),[]=>match u,ptr with
       | .pointer _,true=>some f
       | .pointer _,false=>none
       | _,false=>some f
       | _,true=>none
     | _,_=>none
   | none=>none
 | _,_=>none
end Go.Ab
namespace Go.Ab
def DR (P:Program)(gl:Nat->Option AV)(az:List (List Nat))(f:FuncId):Option cK:=
 match P.funcs[f]?,az[f]? with
 | some fn,some p=>sA P gl p fn
 | _,_=>none
end Go.Ab
namespace Go.Ab
variable {w w':World} {x:AV} {l:List AV} {y v:Value} {m:List Value} {h h':ab} {a:Addr} {n:Nat}
inductive BS where
 | fresh|dead|nil|live (c d:Nat)
structure au where
 at':Nat->BS
 X:Nat->Prop
instance:CoeFun au (fun _=>Nat->BS):=⟨au.at'⟩
def cn (ρ:au)(c:Nat):Prop:=(∀b d,ρ b≠.live c d)/\¬ρ.X c
inductive V (ρ:au) (w:World):AV->Value->Prop
 | cz (v:Value):V ρ w .cz v
 | bool (b:Bool):V ρ w (.bool b) (.bool b)
 | int (k:IntKind) (n:Int):V ρ w (.int k n) (.int k n)
 | str (s:List UInt8):V ρ w (.str s) (.string ⟨s.toArray⟩)
 | dE:V ρ w .dE (.pointer none)
 | ptr {b c d:Nat} (o:Nat) (h:ρ b = .live c d):V ρ w (.ptr b o) (.pointer (some ⟨c,o+d,none⟩))
 | dy {b:Nat} (o c o':Nat) (h:ρ b = .dead):V ρ w (.ptr b o) (.pointer (some ⟨c,o',none⟩))
 | vp {l:List AV} (c o:Nat) (g:Nat->Value) (hf:l≠[]->cn ρ c) (hc:∀i:Nat,i<l.length->w.cell? ⟨c,o+i,none⟩=some (g i))
     (hg:∀(i:Nat) x,l[i]? = some x->V ρ w x (g i)):V ρ w (.vp l) (.pointer (some ⟨c,o,none⟩))
 | ae:V ρ w .ae (.slice none 0 0)
 | sl {b c d o len esz capC:Nat} {cap:Option Nat} (h:ρ b = .live c d) (hl:len<=capC) (hcap:∀n,cap=some n->capC=n)
     (hb:∃cs e fr,w.heap[c]? = some (.cells cs e fr)/\o+d+capC*esz<=cs.size):V ρ w (.sl b o len esz cap) (.slice (some ⟨c,o+d,none⟩) len capC)
 | eC {b esz:Nat} (h:ρ b = .nil):V ρ w (.sl b 0 0 esz none) (.slice none 0 0)
 | dO {b o len esz capC:Nat} {cap:Option Nat} (c o':Nat) (h:ρ b = .dead) (hl:len<=capC) (hcap:∀n,cap=some n->capC=n):V ρ w (.sl b o len esz cap) (.slice (some ⟨c,o',none⟩) len capC)
 | eA {b esz:Nat} (h:ρ b = .dead):V ρ w (.sl b 0 0 esz none) (.slice none 0 0)
 | eE {b esz:Nat} (a:Addr) (h:ρ b = .dead):V ρ w (.sl b 0 0 esz (some 0)) (.slice (some a) 0 0)
 | vs {l:List AV} {len capC:Nat} {cap:Option Nat} (c o:Nat) (g:Nat->Value) (hf:l≠[]->cn ρ c) (hl:len<=capC) (hcap:∀n,cap=some n->capC=n)
     (hc:∀i:Nat,i<l.length->w.cell? ⟨c,o+i,none⟩=some (g i)) (hg:∀(i:Nat) x,l[i]? = some x->V ρ w x (g i)):V ρ w (.vs l len cap) (.slice (some ⟨c,o,none⟩) len capC)
 | dz {cap:Option Nat} (hcap:∀n,cap=some n->n=0):V ρ w (.vs [] 0 cap) (.slice none 0 0)
 | eK {cap:Option Nat} (a:Addr) (hcap:∀n,cap=some n->n=0):V ρ w (.vs [] 0 cap) (.slice (some a) 0 0)
 | dL:V ρ w .dL (.map none)
 | map {b c:Nat} (h:ρ b = .live c 0):V ρ w (.map b) (.map (some c))
 | gr {b:Nat} (c:Nat) (h:ρ b = .dead):V ρ w (.map b) (.map (some c))
 | yield {b c d:Nat} (h:ρ b = .live c d):V ρ w (.fn (.yield b) [] []) (.func (.yield c) #[] #[])
 | fn {f:Fn} {fi ca:List AV} {fi' ca':List Value} (hf:∀l,f≠.yield l) (h1:fi.length=fi'.length) (h2:ca.length=ca'.length)
     (g1:∀(i:Nat) x y,fi[i]? = some x->fi'[i]? = some y->V ρ w x y) (g2:∀(i:Nat) x y,ca[i]? = some x->ca'[i]? = some y->V ρ w x y):V ρ w (.fn f fi ca) (.func f fi'.toArray ca'.toArray)
 | fU {b:Nat} (c:Nat) (h:ρ b = .dead):V ρ w (.fn (.yield b) [] []) (.func (.yield c) #[] #[])
 | fa:V ρ w .fa .nilFunc
 | iface {t:TypeId} {x:AV} {y:Value} (h:V ρ w x y):V ρ w (.iface t x) (.iface t y)
 | cZ:V ρ w .cZ .nilIface
 | agg {l:List AV} {m:List Value} (h:l.length=m.length) (g:∀(i:Nat) x y,l[i]? = some x->m[i]? = some y->V ρ w x y):V ρ w (.agg l) (.agg m.toArray)
 | aq {l:List AV} {m:List Value} (h:l.length=m.length) (g:∀(i:Nat) x y,l[i]? = some x->m[i]? = some y->V ρ w x y):V ρ w (.aq l) (.tuple m.toArray)
def VL (ρ:au)(w:World)(l:List AV)(m:List Value):Prop:=
 l.length=m.length/\∀(i:Nat) x y,l[i]? = some x->m[i]? = some y->V ρ w x y
theorem V.DS {ρ:au}(s:ByteArray):V ρ w (.str s.data.toList) (.string s):=by
 have:=V.str (ρ:=ρ) (w:=w) s.data.toList;simpa using this
theorem VL.nil {ρ:au}:VL ρ w [] []:=⟨rfl,by simp⟩
theorem VL.cons {ρ:au}(h:V ρ w x y)(h':VL ρ w l m):VL ρ w (x::l) (y::m):=by
 refine⟨by simp[h'.1],fun i a b ha hb=>?_⟩;cases i with
 | zero=>simp at ha hb;subst ha;subst hb;exact h
 | succ i=>simp at ha hb;exact h'.2 i a b ha hb
theorem VL.head {ρ:au}(h:VL ρ w (x::l) (y::m)):V ρ w x y:=h.2 0 x y rfl rfl
theorem VL.tail {ρ:au}(h:VL ρ w (x::l) (y::m)):VL ρ w l m:=
 ⟨by simpa using h.1,fun i a b ha hb=>h.2 (i+1) a b (by simpa using ha) (by simpa using hb)⟩
theorem VL.cons_inv {ρ:au}(h:VL ρ w (x::l) m):∃y m',m=y::m'/\V ρ w x y/\VL ρ w l m':=by
 cases m with
 | nil=>exact absurd h.1 (by simp)
 | cons y m'=>exact⟨y,m',rfl,h.head,h.tail⟩
theorem VL.iM {ρ:au}(h:VL ρ w [] m):m=[]:=by
 have:=h.1;cases m <;> simp_all
theorem VL.append {ρ:au}:∀{l l':List AV} {m m':List Value},VL ρ w l m->VL ρ w l' m'->VL ρ w (l++l') (m++m')
 | [],_,_,_,h,h'=>by rw[h.iM];exact h'
 | _::_,_,_,_,h,h'=>by
  obtain⟨y,m1,rfl,hv,hl⟩:=h.cons_inv;exact .cons hv (hl.append h')
theorem VL.drop {ρ:au}(h:VL ρ w l m)(n:Nat):VL ρ w (l.drop n) (m.drop n):=
 ⟨by simp[h.1],fun i a b ha hb=>h.2 (n+i) a b (by simpa using ha) (by simpa using hb)⟩
theorem VL.take {ρ:au}(h:VL ρ w l m)(n:Nat):VL ρ w (l.take n) (m.take n):=
 ⟨by simp[h.1],fun i a b ha hb=>by
  rw[List.getElem?_take]at ha hb;split at ha
  . rename_i hlt;rw[if_pos hlt]at hb;exact h.2 i a b ha hb
  . cases ha⟩
structure ER (C:Cx)(ρ:au)(w:World)(pe:List AV)(lo:List (Nat×AV))(tmps:Array Value):Prop where
 size:tmps.size=C.N
 nodup:C.az.Nodup
 lt:∀t∈C.az,t<C.N
 jk:pe.length=C.az.length
 pe:∀(i:Nat) v t,pe[i]? = some v->C.az[i]? = some t->V ρ w v (tmps.getD t undef)
 lo:∀t v,lo.lookup t=some v->t<C.N/\t∉C.az/\V ρ w v (tmps.getD t undef)
def lF:Option Ex->Option Code->Prop
 | none,none=>True
 | some .ret,some .ret=>True
 | some (.exit i),some (.exit j)=>i=j
 | _,_=>False
def Fits (P:Program)(e:TypeId)(d n s:Nat):Prop:=d+n<=s/\(iw P e=true->d=0/\n=s)
def BR (P:Program)(gl:Nat->Option AV)(ρ:au)(w:World)(b:Nat):bc->Prop
 | .cells l e=>(∃c d cs fr,ρ b = .live c d/\w.heap[c]? = some (.cells cs e fr)/\Fits P e d l.length cs.size/\(∀i,i<cs.size->w.frozen? ⟨c,i,none⟩=false) /\
     ∀(i:Nat) x y,l[i]? = some x->cs[i+d]? = some y->V ρ w x y)\/(ρ b = .nil/\l=[])
 | .map es=>∃c ms clk,ρ b = .live c 0/\w.heap[c]? = some (.map ms clk)/\es.length=ms.size /\
     ∀(i:Nat) kx vx m,es[i]? = some (kx,vx)->ms[i]? = some m->V ρ w kx m.key/\V ρ w vx m.val
 | .iter s pos=>∃c,ρ b = .live c 0/\w.heap[c]? = some (.stringIter ⟨s.toArray⟩ pos)
 | .fA=>∃c,ρ b = .live c 0/\w.heap[c]? = some (.deferred (some []))
 | .hole=>ρ b = .fresh
 | .loop st pend pe ps a bd=>∃c r az N,ρ b = .live c 0/\w.heap[c]? = some (.loop r)/\r.state=st/\lF pend r.pending /\
     ER ⟨P,gl,az,N⟩ ρ w pe [] r.tmps/\kf ⟨P,gl,az,N⟩ r.params.toList=some ps/\ff ⟨P,gl,az,N⟩ true r.assign=some a/\ff ⟨P,gl,az,N⟩ true r.body=some bd
structure Mem (P:Program)(gl:Nat->Option AV)(ρ:au)(h:ab)(w:World):Prop where
 cF:∀b o,h[b]? = some (some o)->BR P gl ρ w b o
 fresh:∀b,h.length<=b->ρ b = .fresh
 inj:∀b b' c d d',ρ b = .live c d->ρ b' = .live c d'->b=b'
 bound:∀b c d,ρ b = .live c d->c<w.heap.size
 xb:∀c,ρ.X c->c<w.heap.size
 xo:∀b c d,ρ b = .live c d->¬ρ.X c
 gl:∀g v,gl g=some v->V ρ w v (.pointer (some ⟨g,0,none⟩))
structure Ext (h h':ab)(ρ ρ':au)(w w':World):Prop where
 os:w'.os=w.os
 tape:w'.tape=w.tape
 output:w'.output=w.output
 size:w.heap.size<=w'.heap.size
 len:h.length<=h'.length
 X:ρ'.X=ρ.X
 cz:∀b:Nat,h[b]? = some none->h'[b]? = some none
 same:∀b:Nat,h[b]? = some none->ρ' b=ρ b
 live:∀b c d,ρ b = .live c d->ρ' b = .live c d\/ρ' b = .dead
 dead:∀b,ρ b = .dead->ρ' b = .dead
 nil:∀b,ρ b = .nil->ρ' b = .nil\/ρ' b = .dead
 bB:∀c,c<w.heap.size->(∀b d,ρ b = .live c d->h[b]? = some none)->w'.heap[c]? = w.heap[c]?
 back:∀b c d,ρ' b = .live c d->c<w.heap.size->ρ b = .live c d\/∃b0 d0,ρ b0 = .live c d0/\h[b0]? ≠ some none
 shape:∀(c:Nat) cs e fr,w.heap[c]? = some (.cells cs e fr)->∃cs' fr',w'.heap[c]? = some (.cells cs' e fr')/\cs'.size=cs.size
theorem Ext.refl (h:ab)(ρ:au)(w:World):Ext h h ρ ρ w w:=
 ⟨rfl,rfl,rfl,Nat.le_refl _,Nat.le_refl _,rfl,fun _ h=>h,fun _ _=>rfl,fun _ _ _ h=>.inl h,fun _ h=>h,fun _ h=>.inl h,fun _ _ _=>rfl,fun _ _ _ h _=>.inl h,
  fun _ cs _ fr h=>⟨cs,fr,h,rfl⟩⟩
theorem Ext.trans {h1 h2:ab}{ρ ρ1 ρ2:au}{w1 w2:World}(x:Ext h h1 ρ ρ1 w w1)(y:Ext h1 h2 ρ1 ρ2 w1 w2):Ext h h2 ρ ρ2 w w2 where
 os:=y.os.trans x.os
 tape:=y.tape.trans x.tape
 output:=y.output.trans x.output
 size:=Nat.le_trans x.size y.size
 len:=Nat.le_trans x.len y.len
 X:=y.X.trans x.X
 cz b hb:=y.cz b (x.cz b hb)
 same b hb:=(y.same b (x.cz b hb)).trans (x.same b hb)
 live b c d hb:=by
  rcases x.live b c d hb with h|h
  . exact y.live b c d h
  . exact .inr (y.dead b h)
 dead b hb:=y.dead b (x.dead b hb)
 nil b hb:=by
  rcases x.nil b hb with h|h
  . exact y.nil b h
  . exact .inr (y.dead b h)
 bB c hc hb:=by
  rw[y.bB c (Nat.lt_of_lt_of_le hc x.size) ?_,x.bB c hc hb];intro b d h1;rcases x.back b c d h1 hc with h|⟨b0,d0,h,hn⟩
  . exact x.cz b (hb b d h)
  . exact absurd (hb b0 d0 h) hn
 back b c d h2 hc:=by
  rcases y.back b c d h2 (Nat.lt_of_lt_of_le hc x.size) with h1|⟨b1,d1,h1,hn1⟩
  . exact x.back b c d h1 hc
  . rcases x.back b1 c d1 h1 hc with h0|h0
    . exact .inr ⟨b1,d1,h0,fun hu=>hn1 (x.cz b1 hu)⟩
    . exact .inr h0
 shape c cs e fr h0:=by
  obtain⟨cs1,fr1,h1,e1⟩:=x.shape c cs e fr h0;obtain⟨cs2,fr2,h2,e2⟩:=y.shape c cs1 e fr1 h1;exact⟨cs2,fr2,h2,e2.trans e1⟩
theorem MG (h:w.cell? a=some v):∃cs e fr,w.heap[a.block]? = some (.cells cs e fr):=by
 unfold World.cell? at h;split at h
 . rename_i cs e fr hc;exact⟨cs,e,fr,hc⟩
 . cases h
theorem xw (h:w.cell? a=some v):a.block<w.heap.size:=by
 obtain⟨cs,e,fr,hc⟩:=MG h;exact(Array.getElem?_eq_some_iff.1 hc).1
theorem MH (h:w'.heap[a.block]? = w.heap[a.block]?):w'.cell? a=w.cell? a:=by
 unfold World.cell?;rw[h]
theorem Ext.free {ρ ρ':au}(x:Ext h h' ρ ρ' w w'){c:Nat}(hc:c<w.heap.size)(hf:cn ρ c):cn ρ' c:=by
 refine⟨fun b d hb=>?_,by rw[x.X];exact hf.2⟩;rcases x.back b c d hb hc with h|⟨b0,d0,h,_⟩
 . exact hf.1 _ _ h
 . exact hf.1 _ _ h
theorem Ext.cell {ρ ρ':au}(x:Ext h h' ρ ρ' w w'){c o:Nat}{v:Value}(hf:cn ρ c)(hc:w.cell? ⟨c,o,none⟩=some v):w'.cell? ⟨c,o,none⟩=some v:=by
 have hlt:=xw hc;rw[MH (w:=w)]
 . exact hc
 . exact x.bB c hlt (fun b d hb=>absurd hb (hf.1 b d))
theorem V.mono {ρ ρ':au}(x:Ext h h' ρ ρ' w w'){a:AV}{v:Value}(hv:V ρ w a v):V ρ' w' a v:=by
 induction hv with
 | cz v=>exact .cz v
 | bool b=>exact .bool b
 | int k n=>exact .int k n
 | str s=>exact .str s
 | dE=>exact .dE
 | ptr o hb=>
               rcases x.live _ _ _ hb with h|h
               . exact .ptr o h
               . exact .dy o _ _ h
 | dy o c o' hb=>exact .dy o c o' (x.dead _ hb)
 | @vp l c o g hf hc _ ih=>
  by_cases hl:l=[]
  . subst hl;exact .vp c o g (fun h=>absurd rfl h) (by simp) (by simp)
  . have h0:=hc 0 (by cases l <;> simp_all);exact .vp c o g (fun _=>x.free (xw h0) (hf hl)) (fun i hi=>x.cell (hf hl) (hc i hi)) ih
 | ae=>exact .ae
 | sl hb hl hcap hs=>
  obtain⟨cs,e,fr,h1,h2⟩:=hs;obtain⟨cs',fr',h3,h4⟩:=x.shape _ _ _ _ h1;rcases x.live _ _ _ hb with h|h
  . exact .sl h hl hcap ⟨cs',e,fr',h3,by omega⟩
  . exact .dO _ _ h hl hcap
 | eC hb=>
             rcases x.nil _ hb with h|h
             . exact .eC h
             . exact .eA h
 | dO c o' hb hl hcap=>exact .dO c o' (x.dead _ hb) hl hcap
 | eA hb=>exact .eA (x.dead _ hb)
 | eE a hb=>exact .eE a (x.dead _ hb)
 | @vs l len capC cap c o g hf hl hcap hc _ ih=>
  by_cases hn:l=[]
  . subst hn;exact .vs c o g (fun h=>absurd rfl h) hl hcap (by simp) (by simp)
  . have h0:=hc 0 (by cases l <;> simp_all);exact .vs c o g (fun _=>x.free (xw h0) (hf hn)) hl hcap (fun i hi=>x.cell (hf hn) (hc i hi)) ih
 | dz hcap=>exact .dz hcap
 | eK a hcap=>exact .eK a hcap
 | dL=>exact .dL
 | map hb=>
             rcases x.live _ _ _ hb with h|h
             . exact .map h
             . exact .gr _ h
 | gr v hb=>exact .gr v (x.dead _ hb)
 | yield hb=>
               rcases x.live _ _ _ hb with h|h
               . exact .yield h
               . exact .fU _ h
 | fn hf h1 h2 _ _ ih1 ih2=>exact .fn hf h1 h2 ih1 ih2
 | fU v hb=>exact .fU v (x.dead _ hb)
 | fa=>exact .fa
 | iface _ ih=>exact .iface ih
 | cZ=>exact .cZ
 | agg h _ ih=>exact .agg h ih
 | aq h _ ih=>exact .aq h ih
theorem VL.mono {ρ ρ':au}(x:Ext h h' ρ ρ' w w'){l:List AV}{m:List Value}(hv:VL ρ w l m):VL ρ' w' l m:=
 ⟨hv.1,fun i a b ha hb=>(hv.2 i a b ha hb).mono x⟩
theorem ER.mono {C:Cx}{ρ ρ':au}(x:Ext h h' ρ ρ' w w'){pe:List AV}{lo:List (Nat×AV)}{t:Array Value}(e:ER C ρ w pe lo t):ER C ρ' w' pe lo t:=
 ⟨e.size,e.nodup,e.lt,e.jk,fun i v t h1 h2=>(e.pe i v t h1 h2).mono x,fun t v h1=>let ⟨a,b,c⟩:=e.lo t v h1;⟨a,b,c.mono x⟩⟩
def gW (n:Nat)(ρ:au):au:=⟨fun b=>if b<n then ρ b else .fresh,ρ.X⟩
theorem cn.cut {ρ:au}{c:Nat}(n:Nat)(h:cn ρ c):cn (gW n ρ) c:=by
 refine⟨fun b d hb=>?_,h.2⟩;simp only[gW]at hb;split at hb
 . exact h.1 b d hb
 . cases hb
theorem dZ (h:aY l<=n):∀(i:Nat) x,l[i]? = some x->x.top<=n:=by
 induction l with
 | nil=>intro i x hx;simp at hx
 | cons v r ih=>
  simp only[aY]at h;intro i x hx;cases i with
  | zero=>simp at hx;subst hx;omega
  | succ i=>simp at hx;exact ih (by omega) i x hx
theorem kg (h:∀(i:Nat) x,l[i]? = some x->x.top<=n):aY l<=n:=by
 induction l with
 | nil=>simp[aY]
 | cons v r ih=>
  simp only[aY];have h0:=h 0 v rfl;have h1:=ih (fun i x hx=>h (i+1) x (by simpa using hx));omega
theorem V.fF {ρ ρ':au}(hρ:∀b,b<n->ρ' b=ρ b)(hF:∀c,cn ρ c->cn ρ' c){a:AV}{v:Value}(hv:V ρ w a v):a.top<=n->V ρ' w a v:=by
 induction hv with
 | cz v=>exact fun _=>.cz v
 | bool b=>exact fun _=>.bool b
 | int k n=>exact fun _=>.int k n
 | str s=>exact fun _=>.str s
 | dE=>exact fun _=>.dE
 | ptr o hb=>exact fun h=>.ptr o (by simp only[AV.top]at h;rw[hρ _ (by omega)];exact hb)
 | dy o c o' hb=>exact fun h=>.dy o c o' (by simp only[AV.top]at h;rw[hρ _ (by omega)];exact hb)
 | vp c o g hf hc _ ih=>exact fun h=>.vp c o g (fun hl=>hF _ (hf hl)) hc (fun i x hx=>ih i x hx (dZ (by simpa only[AV.top] using h) i x hx))
 | ae=>exact fun _=>.ae
 | sl hb hl hcap hs=>exact fun h=>.sl (by simp only[AV.top]at h;rw[hρ _ (by omega)];exact hb) hl hcap hs
 | eC hb=>exact fun h=>.eC (by simp only[AV.top]at h;rw[hρ _ (by omega)];exact hb)
 | dO c o' hb hl hcap=>exact fun h=>.dO c o' (by simp only[AV.top]at h;rw[hρ _ (by omega)];exact hb) hl hcap
 | eA hb=>exact fun h=>.eA (by simp only[AV.top]at h;rw[hρ _ (by omega)];exact hb)
 | eE a hb=>exact fun h=>.eE a (by simp only[AV.top]at h;rw[hρ _ (by omega)];exact hb)
 | vs c o g hf hl hcap hc _ ih=>exact fun h=>.vs c o g (fun hn=>hF _ (hf hn)) hl hcap hc (fun i x hx=>ih i x hx (dZ (by simpa only[AV.top] using h) i x hx))
 | dz hcap=>exact fun _=>.dz hcap
 | eK a hcap=>exact fun _=>.eK a hcap
 | dL=>exact fun _=>.dL
 | map hb=>exact fun h=>.map (by simp only[AV.top]at h;rw[hρ _ (by omega)];exact hb)
 | gr v hb=>exact fun h=>.gr v (by simp only[AV.top]at h;rw[hρ _ (by omega)];exact hb)
 | yield hb=>exact fun h=>.yield (by simp only[AV.top]at h;rw[hρ _ (by omega)];exact hb)
 | @fn f fi ca _ _ hf h1 h2 _ _ ih1 ih2=>
  intro h;have hh:aY fi<=n/\aY ca<=n:=by
   cases f <;> simp only[AV.top]at h <;> exact⟨by omega,by omega⟩
  exact .fn hf h1 h2 (fun i x y a b=>ih1 i x y a b (dZ hh.1 i x a)) (fun i x y a b=>ih2 i x y a b (dZ hh.2 i x a))
 | fU v hb=>exact fun h=>.fU v (by simp only[AV.top]at h;rw[hρ _ (by omega)];exact hb)
 | fa=>exact fun _=>.fa
 | iface _ ih=>exact fun h=>.iface (ih (by simpa only[AV.top] using h))
 | cZ=>exact fun _=>.cZ
 | agg hl _ ih=>exact fun h=>.agg hl (fun i x y a b=>ih i x y a b (dZ (by simpa only[AV.top] using h) i x a))
 | aq hl _ ih=>exact fun h=>.aq hl (fun i x y a b=>ih i x y a b (dZ (by simpa only[AV.top] using h) i x a))
theorem V.cut {ρ:au}{a:AV}(hv:V ρ w a v):a.top<=n->V (gW n ρ) w a v:=
 hv.fF (fun b hb=>by simp only[gW];rw[if_pos hb]) (fun _ h=>h.cut n)
theorem V.top {ρ:au}(hn:∀b,n<=b->ρ b = .fresh){a:AV}{v:Value}(hv:V ρ w a v):a.top<=n:=by
 have key:∀b,ρ b≠.fresh->b+1<=n:=fun b hb=>by
  rcases Nat.lt_or_ge b n with h|h
  . omega
  . exact absurd (hn b h) hb
 induction hv with
 | ptr o hb=>exact key _ (by rw[hb];simp)
 | dy o c o' hb=>exact key _ (by rw[hb];simp)
 | vp c o g hf hc _ ih=>exact kg ih
 | sl hb _ _ _=>exact key _ (by rw[hb];simp)
 | eC hb=>exact key _ (by rw[hb];simp)
 | dO c o' hb _ _=>exact key _ (by rw[hb];simp)
 | eA hb=>exact key _ (by rw[hb];simp)
 | eE a hb=>exact key _ (by rw[hb];simp)
 | vs c o g hf hl hcap hc _ ih=>exact kg ih
 | map hb=>exact key _ (by rw[hb];simp)
 | gr v hb=>exact key _ (by rw[hb];simp)
 | @yield b _ _ hb=>have:=key b (by rw[hb];simp);simp only[AV.top,aY];omega
 | @fn f fi ca fi' ca' hf h1 h2 _ _ ih1 ih2=>
  have a1:aY fi<=n:=kg fun i x hx=>by
   have hi:i<fi'.length:=h1 ▸ (List.getElem?_eq_some_iff.1 hx).1;exact ih1 i x fi'[i] hx (List.getElem?_eq_getElem hi)
  have a2:aY ca<=n:=kg fun i x hx=>by
   have hi:i<ca'.length:=h2 ▸ (List.getElem?_eq_some_iff.1 hx).1;exact ih2 i x ca'[i] hx (List.getElem?_eq_getElem hi)
  cases f <;> simp only[AV.top] <;> first|omega|exact absurd rfl (hf _)
 | @fU b v hb=>have:=key b (by rw[hb];simp);simp only[AV.top,aY];omega
 | iface _ ih=>exact ih
 | @agg l m hl _ ih=>
  exact kg fun i x hx=>by
   have hi:i<m.length:=hl ▸ (List.getElem?_eq_some_iff.1 hx).1;exact ih i x m[i] hx (List.getElem?_eq_getElem hi)
 | @aq l m hl _ ih=>
  exact kg fun i x hx=>by
   have hi:i<m.length:=hl ▸ (List.getElem?_eq_some_iff.1 hx).1;exact ih i x m[i] hx (List.getElem?_eq_getElem hi)
 | _=>simp[AV.top,aY]
end Go.Ab
namespace Go.Ab
variable {w w':World} {h:ab} {ρ:au} {b c:Nat} {O:Obj}
variable {P:Program} {gl:Nat->Option AV}
theorem DT {a:Addr}(h:w'.heap[a.block]? = w.heap[a.block]?):w'.frozen? a=w.frozen? a:=by
 unfold World.frozen?;rw[h]
theorem BR.mono {h':ab}{ρ':au}(x:Ext h h' ρ ρ' w w'){b:Nat}(hρ:ρ' b=ρ b)
 (hh:∀c d,ρ b = .live c d->w'.heap[c]? = w.heap[c]?) {o:bc} (hb:BR P gl ρ w b o):BR P gl ρ' w' b o:=by
 cases o with
 | cells l e=>
  rcases hb with ⟨c,d,cs,fr,h1,h2,h3,h4,h5⟩|⟨h1,h2⟩
  . refine .inl ⟨c,d,cs,fr,hρ.trans h1,(hh c d h1).trans h2,h3,fun i hi=>?_,fun i x' y hx hy=>(h5 i x' y hx hy).mono x⟩;rw[DT (w:=w) (hh c d h1)];exact h4 i hi
  . exact .inr ⟨hρ.trans h1,h2⟩
 | map es=>
  obtain⟨c,ms,clk,h1,h2,h3,h4⟩:=hb;exact⟨c,ms,clk,hρ.trans h1,(hh c 0 h1).trans h2,h3,fun i kx vx m hx hm=>let ⟨a,b⟩:=h4 i kx vx m hx hm;⟨a.mono x,b.mono x⟩⟩
 | iter s pos=>obtain⟨c,h1,h2⟩:=hb;exact⟨c,hρ.trans h1,(hh c 0 h1).trans h2⟩
 | fA=>obtain⟨c,h1,h2⟩:=hb;exact⟨c,hρ.trans h1,(hh c 0 h1).trans h2⟩
 | hole=>exact hρ.trans hb
 | loop st pend pe ps a bd=>
  obtain⟨c,r,az,N,h1,h2,h3,h4,h5,h6⟩:=hb;exact⟨c,r,az,N,hρ.trans h1,(hh c 0 h1).trans h2,h3,h4,h5.mono x,h6⟩
theorem BR.live {o:bc}(hb:BR P gl ρ w b o):(∃c d,ρ b = .live c d)\/ρ b = .nil\/ρ b = .fresh:=by
 cases o with
 | cells l e=>
                rcases hb with ⟨c,d,_,_,h1,_⟩|⟨h1,_⟩
                . exact .inl ⟨c,d,h1⟩
                . exact .inr (.inl h1)
 | map es=>obtain⟨c,_,_,h1,_⟩:=hb;exact .inl ⟨c,0,h1⟩
 | iter s pos=>obtain⟨c,h1,_⟩:=hb;exact .inl ⟨c,0,h1⟩
 | fA=>obtain⟨c,h1,_⟩:=hb;exact .inl ⟨c,0,h1⟩
 | hole=>exact .inr (.inr hb)
 | loop=>obtain⟨c,_,_,_,h1,_⟩:=hb;exact .inl ⟨c,0,h1⟩
def au.dj (ρ:au)(b:Nat)(s:BS):au:=⟨fun x=>if x=b then s else ρ x,ρ.X⟩
@[simp] theorem au.aaw (ρ:au)(b:Nat)(s:BS):(ρ.dj b s).X=ρ.X:=rfl
@[simp] theorem au.dm (ρ:au)(b:Nat)(s:BS):ρ.dj b s b=s:=by simp[au.dj]
theorem au.cO {x:Nat}{s:BS}(h:x≠b):ρ.dj b s x=ρ x:=by simp[au.dj,h]
theorem xy (hc:c<w.heap.size):(w.heap.push O)[c]? = w.heap[c]? := by
 rw[Array.getElem?_push,if_neg (by omega)]
theorem Ext.alloc (m:Mem P gl ρ h w)(o:Option bc)(O:Obj)(s:BS)(hs:(∃d,s = .live w.heap.size d)\/s = .nil\/s = .dead) :
 Ext h (h++[o]) ρ (ρ.dj h.length s) w { w with heap:=w.heap.push O } where
 os:=rfl
 tape:=rfl
 output:=rfl
 size:=by simp
 len:=by simp
 X:=rfl
 cz b hb:=by
  have hlt:=(List.getElem?_eq_some_iff.1 hb).1;rw[List.getElem?_append_left hlt];exact hb
 same b hb:=by
  have hlt:=(List.getElem?_eq_some_iff.1 hb).1;exact au.cO (by omega)
 live b c d hb:=by
  have:b≠h.length:=fun e=>by rw[m.fresh b (by omega)]at hb;cases hb
  exact .inl ((au.cO this).trans hb)
 dead b hb:=by
  have:b≠h.length:=fun e=>by rw[m.fresh b (by omega)]at hb;cases hb
  exact(au.cO this).trans hb
 nil b hb:=by
  have:b≠h.length:=fun e=>by rw[m.fresh b (by omega)]at hb;cases hb
  exact .inl ((au.cO this).trans hb)
 bB c hc _:=xy hc
 back b c d hb hc:=by
  by_cases e:b=h.length
  . subst e;rw[au.dm]at hb;rcases hs with ⟨d',rfl⟩|rfl|rfl
    . cases hb;omega
    . cases hb
    . cases hb
  . rw[au.cO e]at hb;exact .inl hb
 shape c cs e fr hc:=⟨cs,fr,by rw[xy (Array.getElem?_eq_some_iff.1 hc).1];exact hc,rfl⟩
theorem Ext.drew (h:ab)(ρ:au)(w:World)(n:Nat):Ext h h ρ ρ w { w with drawn:=n }:=
 ⟨rfl,rfl,rfl,Nat.le_refl _,Nat.le_refl _,rfl,fun _ h=>h,fun _ _=>rfl,fun _ _ _ h=>.inl h,fun _ h=>h,fun _ h=>.inl h,fun _ _ _=>rfl,fun _ _ _ h _=>.inl h,
  fun _ cs _ fr h=>⟨cs,fr,h,rfl⟩⟩
theorem Mem.ext {ρ':au}{h':ab}(m:Mem P gl ρ h w)(x:Ext h h' ρ ρ' w w')
 (hb:∀b o,h'[b]? = some (some o)->BR P gl ρ' w' b o) (hf:∀b,h'.length<=b->ρ' b = .fresh)
 (hi:∀b b' c d d',ρ' b = .live c d->ρ' b' = .live c d'->b=b') (hbd:∀b c d,ρ' b = .live c d->c<w'.heap.size):Mem P gl ρ' h' w':=
 ⟨hb,hf,hi,hbd,fun c hc=>Nat.lt_of_lt_of_le (m.xb c (by rw[←x.X];exact hc)) x.size,fun b c d hl hX=>by
  rw[x.X]at hX;have hlt:=m.xb c hX;rcases x.back b c d hl hlt with h1|⟨b0,d0,h1,_⟩
  . exact m.xo _ _ _ h1 hX
  . exact m.xo _ _ _ h1 hX,fun g v hg=>(m.gl g v hg).mono x⟩
theorem Mem.alloc (m:Mem P gl ρ h w)(o:Option bc)(O:Obj)(s:BS)(hs:(∃d,s = .live w.heap.size d)\/s = .nil\/s = .dead)
 (ho:∀o',o=some o'->BR P gl (ρ.dj h.length s) { w with heap:=w.heap.push O } h.length o') :
 Mem P gl (ρ.dj h.length s) (h++[o]) { w with heap:=w.heap.push O }:=by
 have x:=Ext.alloc m o O s hs;refine m.ext x ?_ ?_ ?_ ?_
 . intro b o' hb;rcases Nat.lt_trichotomy b h.length with hlt|heq|hgt
   . rw[List.getElem?_append_left hlt]at hb;refine(m.cF b o' hb).mono x (au.cO (by omega)) (fun c d hl=>xy (m.bound b c d hl))
   . subst heq;rw[List.getElem?_append_right (Nat.le_refl _)]at hb;simp at hb;exact ho o' hb
   . rw[List.getElem?_eq_none (by simp;omega)]at hb;cases hb
 . intro b hb;simp at hb;rw[au.cO (by omega)];exact m.fresh b (by omega)
 . intro b b' c d d' h1 h2;have bd:∀{x c d},ρ x = .live c d->c<w.heap.size:=fun h=>m.bound _ _ _ h
   by_cases e:b=h.length <;> by_cases e':b'=h.length
   . omega
   . subst e;rw[au.dm]at h1;rw[au.cO e']at h2;rcases hs with ⟨d0,rfl⟩|rfl|rfl
     . cases h1;have:=bd h2;omega
     . cases h1
     . cases h1
   . subst e';rw[au.dm]at h2;rw[au.cO e]at h1;rcases hs with ⟨d0,rfl⟩|rfl|rfl
     . cases h2;have:=bd h1;omega
     . cases h2
     . cases h2
   . rw[au.cO e]at h1;rw[au.cO e']at h2;exact m.inj b b' c d d' h1 h2
 . intro b c d hl;show c<(w.heap.push O).size;rw[Array.size_push];by_cases e:b=h.length
   . subst e;rw[au.dm]at hl;rcases hs with ⟨d0,rfl⟩|rfl|rfl
     . cases hl;omega
     . cases hl
     . cases hl
   . rw[au.cO e]at hl;have:=m.bound b c d hl;omega
theorem Mem.drew (m:Mem P gl ρ h w)(n:Nat):Mem P gl ρ h { w with drawn:=n }:=
 m.ext (Ext.drew h ρ w n) (fun b o hb=>(m.cF b o hb).mono (Ext.drew h ρ w n) rfl (fun _ _ _=>rfl)) m.fresh m.inj m.bound
def _root_.Go.World.cP (w:World)(c:Nat)(O:Obj):World:={ w with heap:=w.heap.setIfInBounds c O }
theorem lG (hc:c<w.heap.size):(w.cP c O).heap[c]? = some O:=by
 simp[World.cP,hc]
theorem xz {c':Nat}(hc:c'≠c):(w.cP c O).heap[c']? = w.heap[c']? := by
 simp only[World.cP];rw[Array.getElem?_setIfInBounds];rw[if_neg (by omega)]
theorem xB {o:Option bc}(hb:b<h.length):(h.set b o)[b]? = some o:=by
 rw[List.getElem?_set];simp[hb]
theorem jl {b':Nat}{o:Option bc}(hb:b'≠b):(h.set b o)[b']? = h[b']? := by
 rw[List.getElem?_set];rw[if_neg (by omega)]
theorem Ext.write (m:Mem P gl ρ h w){b c d:Nat}{o0:bc}(h0:h[b]? = some (some o0))(hρ:ρ b = .live c d)(o:Option bc)(O:Obj)
 (hO:∀cs e fr,w.heap[c]? = some (.cells cs e fr)->∃cs' fr',O = .cells cs' e fr'/\cs'.size=cs.size) :
 Ext h (h.set b o) ρ ρ w (w.cP c O) where
 os:=rfl
 tape:=rfl
 output:=rfl
 size:=by simp[World.cP]
 len:=by simp
 X:=rfl
 cz b' hb':=by
  have:b'≠b:=fun e=>by subst e;rw[h0]at hb';cases hb'
  rw[jl this];exact hb'
 same _ _:=rfl
 live _ _ _ h:=.inl h
 dead _ h:=h
 nil _ h:=.inl h
 bB c' hc' hu:=by
  have:c'≠c:=fun e=>by subst e;have:=hu b d hρ;rw[h0]at this;cases this
  exact xz this
 back _ _ _ h _:=.inl h
 shape c' cs e fr hc':=by
  by_cases e':c'=c
  . subst e';obtain⟨cs',fr',rfl,hs⟩:=hO cs e fr hc';exact⟨cs',fr',lG (m.bound _ _ _ hρ),hs⟩
  . exact⟨cs,fr,by rw[xz e'];exact hc',rfl⟩
theorem Mem.write (m:Mem P gl ρ h w){b c d:Nat}{o0:bc}(h0:h[b]? = some (some o0))(hρ:ρ b = .live c d)(o:Option bc)(O:Obj)
 (hO:∀cs e fr,w.heap[c]? = some (.cells cs e fr)->∃cs' fr',O = .cells cs' e fr'/\cs'.size=cs.size)
 (ho:∀o',o=some o'->BR P gl ρ (w.cP c O) b o'):Mem P gl ρ (h.set b o) (w.cP c O):=by
 have x:=Ext.write m h0 hρ o O hO;refine m.ext x ?_ ?_ m.inj ?_
 . intro b' o' hb';by_cases e:b'=b
   . subst e;rw[xB (List.getElem?_eq_some_iff.1 h0).1]at hb';exact ho o' (Option.some.inj hb')
   . rw[jl e]at hb';exact(m.cF b' o' hb').mono x rfl (fun c' d' hl=>xz (fun e'=>e (m.inj b' b c d' d (e' ▸ hl) hρ)))
 . intro b' hb';simp at hb';exact m.fresh b' hb'
 . intro b' c' d' hl;have:=m.bound b' c' d' hl;simpa[World.cP] using this
theorem Ext.forget {o0:bc}(h0:h[b]? = some (some o0))(hl:∀c d,ρ b = .live c d->c<w.heap.size) :
 Ext h (h.set b none) ρ (ρ.dj b .dead) w w where
 os:=rfl
 tape:=rfl
 output:=rfl
 size:=Nat.le_refl _
 len:=by simp
 X:=rfl
 cz b' hb':=by
  have:b'≠b:=fun e=>by subst e;rw[h0]at hb';cases hb'
  rw[jl this];exact hb'
 same b' hb':=by
  have:b'≠b:=fun e=>by subst e;rw[h0]at hb';cases hb'
  exact au.cO this
 live b' c d hb':=by
  by_cases e:b'=b
  . subst e;exact .inr (au.dm _ _ _)
  . exact .inl ((au.cO e).trans hb')
 dead b' hb':=by
  by_cases e:b'=b
  . subst e;exact au.dm _ _ _
  . exact(au.cO e).trans hb'
 nil b' hb':=by
  by_cases e:b'=b
  . subst e;exact .inr (au.dm _ _ _)
  . exact .inl ((au.cO e).trans hb')
 bB _ _ _:=rfl
 back b' c d hb' _:=by
  by_cases e:b'=b
  . subst e;rw[au.dm]at hb';cases hb'
  . rw[au.cO e]at hb';exact .inl hb'
 shape _ cs _ fr h:=⟨cs,fr,h,rfl⟩
theorem Mem.forget (m:Mem P gl ρ h w){b:Nat}{o0:bc}(h0:h[b]? = some (some o0)):Mem P gl (ρ.dj b .dead) (h.set b none) w:=by
 have x:=Ext.forget (w:=w) h0 (fun c d hl=>m.bound b c d hl);have hlt:b<h.length:=(List.getElem?_eq_some_iff.1 h0).1;refine m.ext x ?_ ?_ ?_ ?_
 . intro b' o' hb';by_cases e:b'=b
   . subst e;rw[xB hlt]at hb';cases hb'
   . rw[jl e]at hb';exact(m.cF b' o' hb').mono x (au.cO e) (fun _ _ _=>rfl)
 . intro b' hb';simp at hb';rw[au.cO (by omega)];exact m.fresh b' hb'
 . intro b1 b2 c d d' h1 h2;by_cases e1:b1=b
   . subst e1;rw[au.dm]at h1;cases h1
   . by_cases e2:b2=b
     . subst e2;rw[au.dm]at h2;cases h2
     . rw[au.cO e1]at h1;rw[au.cO e2]at h2;exact m.inj _ _ _ _ _ h1 h2
 . intro b' c d hl;by_cases e:b'=b
   . subst e;rw[au.dm]at hl;cases hl
   . rw[au.cO e]at hl;exact m.bound _ _ _ hl
theorem Ext.move (m:Mem P gl ρ h w){b c d:Nat}{o0:bc}(h0:h[b]? = some (some o0))(hρ:ρ b = .live c d)(o:Option bc)(d':Nat) :
 Ext h (h.set b none++[o]) ρ ((ρ.dj b .dead).dj h.length (.live c d')) w w:=by
 have hlt:b<h.length:=(List.getElem?_eq_some_iff.1 h0).1;have x:=Ext.forget (w:=w) h0 (fun c d hl=>m.bound b c d hl);have bB:∀b',ρ b'≠.fresh->b'≠h.length:=fun b' hb e=>hb (m.fresh b' (by omega))
 refine⟨rfl,rfl,rfl,Nat.le_refl _,by simp,rfl,?_,?_,?_,?_,?_,fun _ _ _=>rfl,?_,fun _ cs _ fr h=>⟨cs,fr,h,rfl⟩⟩
 . intro b' hb';have hlt':=(List.getElem?_eq_some_iff.1 hb').1;rw[List.getElem?_append_left (by simpa using hlt')];exact x.cz b' hb'
 . intro b' hb';have hlt':=(List.getElem?_eq_some_iff.1 hb').1;rw[au.cO (by omega)];exact x.same b' hb'
 . intro b' c' d'' hb';rw[au.cO (bB b' (by rw[hb'];simp))];exact x.live b' c' d'' hb'
 . intro b' hb';rw[au.cO (bB b' (by rw[hb'];simp))];exact x.dead b' hb'
 . intro b' hb';rw[au.cO (bB b' (by rw[hb'];simp))];exact x.nil b' hb'
 . intro b' c' d'' hb' hc;by_cases e:b'=h.length
   . subst e;rw[au.dm]at hb';cases hb';exact .inr ⟨b,d,hρ,by rw[h0];simp⟩
   . rw[au.cO e]at hb';exact x.back b' c' d'' hb' hc
theorem Mem.move (m:Mem P gl ρ h w){b c d:Nat}{o0:bc}(h0:h[b]? = some (some o0))(hρ:ρ b = .live c d)(o:Option bc)(d':Nat)
 (ho:∀o',o=some o'->BR P gl ((ρ.dj b .dead).dj h.length (.live c d')) w h.length o'):Mem P gl ((ρ.dj b .dead).dj h.length (.live c d')) (h.set b none++[o]) w:=by
 have hlt:b<h.length:=(List.getElem?_eq_some_iff.1 h0).1;have x:=Ext.move m h0 hρ o d';have m':=m.forget h0;refine m.ext x ?_ ?_ ?_ ?_
 . intro b' o' hb';rcases Nat.lt_trichotomy b' h.length with hl|he|hg
   . rw[List.getElem?_append_left (by simpa using hl)]at hb';by_cases e:b'=b
     . subst e;rw[xB hlt]at hb';cases hb'
     . rw[jl e]at hb';exact(m.cF b' o' hb').mono x (by rw[au.cO (by omega),au.cO e]) (fun _ _ _=>rfl)
   . subst he;rw[List.getElem?_append_right (by simp)]at hb';simp at hb';exact ho o' hb'
   . rw[List.getElem?_eq_none (by simp;omega)]at hb';cases hb'
 . intro b' hb';simp at hb';rw[au.cO (by omega)];exact m'.fresh b' (by simp;omega)
 . intro b1 b2 c1 d1 d2 h1 h2;have key:∀b1 d1,b1≠h.length->(ρ.dj b .dead) b1 = .live c d1->False:=fun b1 d1 e h1=>by
    by_cases e1:b1=b
    . subst e1;rw[au.dm]at h1;cases h1
    . rw[au.cO e1]at h1;exact e1 (m.inj _ _ _ _ _ h1 hρ)
   by_cases e1:b1=h.length <;> by_cases e2:b2=h.length
   . omega
   . subst e1;rw[au.dm]at h1;cases h1;rw[au.cO e2]at h2;exact(key _ _ e2 h2).elim
   . subst e2;rw[au.dm]at h2;cases h2;rw[au.cO e1]at h1;exact(key _ _ e1 h1).elim
   . rw[au.cO e1]at h1;rw[au.cO e2]at h2;exact m'.inj _ _ _ _ _ h1 h2
 . intro b' c' d'' hl;by_cases e:b'=h.length
   . subst e;rw[au.dm]at hl;cases hl;exact m.bound _ _ _ hρ
   . rw[au.cO e]at hl;exact m'.bound _ _ _ hl
end Go.Ab
