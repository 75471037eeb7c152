/-
  Own work: an abstract machine for the calls of a translated Go program: values by content, a heap of the blocks that the call itself has made, and an evaluator of resolved code. Definitions only.
-/
import GoSem.Step
import Derived.Laws.Sem
import Derived.CallsIn
import Derived.RangeFuncIn
import Derived.OrdersIn
import Derived.Laws.Strings
import Derived.Laws.StructEq
import Derived.ChangeKeysEq
import Derived.Lib.UnsafeStr
import Derived.IntWalk
set_option maxHeartbeats 8000000
set_option maxRecDepth 20000
namespace Go.Ab
inductive AV where
 | cR
 | bool (b:Bool)
 | int (k:IntKind) (n:Int)
 | str (s:List UInt8)
 | du
 | ptr (b off:Nat)
 | vp (l:List AV)
 | ae
 | sl (b off len esz:Nat) (cap:Option Nat)
 | vs (l:List AV) (len:Nat) (cap:Option Nat)
 | dU
 | map (b:Nat)
 | fn (f:Fn) (first captured:List AV)
 | fv
 | iface (t:TypeId) (v:AV)
 | cY
 | agg (l:List AV)
 | aq (l:List AV)
 deriving Inhabited
inductive aL where
 | p (i:Nat)
 | l (t:Nat)
 | c (v:AV)
 deriving Inhabited
inductive Fe where
 | ptr|slice|map|func
 deriving Inhabited
inductive gD where
 | bool|int|str|ref (k:Fe)|iface (guard:Bool)
 | yD (fs:List (Nat×Nat×Bool×gD))
 deriving Inhabited
inductive lM where
 | str|sl|arr (n:Nat)
 deriving Inhabited
inductive ie where
 | int|str
 deriving Inhabited
inductive aZ where
 | mv (x:aL)
 | pick (c a b:aL)
 | bin (op:BinOp) (x y:aL)
 | eq (neg:Bool) (t:gD) (x y:aL)
 | un (op:UnOp) (x:aL)
 | dz (k:IntKind) (x:aL)
 | yE (x:aL)
 | yF (x:aL)
 | oT (elem:TypeId) (x:aL)
 | kE (x:aL)
 | jP (u:Option (TypeId×Nat)) (x:aL)
 | mT (neg:Bool) (x y:aL)
 | qF (x:aL)
 | jt (e:TypeId) (x n:aL)
 | qG (esz:Nat) (z:List AV) (x:aL)
 | ju (x:aL)
 | field (off n:Nat) (agg:Bool) (x:aL)
 | iI (off:Nat) (x:aL)
 | cP (arr:Option Nat) (esz:Nat) (x i:aL)
 | index (x i:aL)
 | yG (len esz:Nat) (agg:Bool) (x i:aL)
 | slice (k:lM) (esz:Nat) (x:aL) (lo hi mx:Option aL)
 | extract (i:Nat) (x:aL)
 | qH (t:TypeId) (x:aL)
 | yH (t:TypeId) (z:AV) (ok:Bool) (x:aL)
 | tq (f:Fn) (first captured:List aL)
 | build (zero:List AV) (ps:List (Nat×Nat×aL))
 | len (k:lM) (x:aL)
 | cap (x:aL)
 | mm (max:Bool) (xs:List aL)
 | alloc (elem:TypeId) (zero:List AV)
 | box (elem:TypeId) (n:Nat) (x:aL)
 | dZ (elem:TypeId) (len esz:Nat) (zero:List AV) (ps:List (Nat×Nat×aL))
 | load (n:Nat) (agg:Bool) (x:aL)
 | store (n:Nat) (x y:aL)
 | mU
 | gg (elem:TypeId) (esz bytes:Nat) (zero:List AV) (l c:aL)
 | lookup (k:ie) (zero:AV) (x i:aL) (ok:Bool)
 | qI (k:ie) (m i x:aL)
 | range (x:aL)
 | next (x:aL)
 | append (elem:TypeId) (esz bytes:Nat) (x y:aL)
 | copy (esz:Nat) (x y:aL)
 | ix (n esz:Nat) (x:aL) (lo hi:Option aL)
 | qJ (x:aL)
 | call (f:aL) (args:List aL)
 | invoke (x:aL) (name:String) (args:List aL)
 deriving Inhabited
inductive eh where
 | no|p (i:Nat)|l (t:Nat)
 deriving Inhabited
structure aU where
 dst:eh
 op:aZ
 guard:Option (aL×Bool)
 deriving Inhabited
inductive al where
 | skip
 | region (ops:List aU)
 | draw (ops:List (aU×List Nat))
 | seq (a b:al)
 | cond (c:aL) (thn els:al)
 | block (id:Nat) (body:al)
 | loop (body:al)
 | exit (id:Nat)
 | ret
 | rangeFunc (inner:Bool) (f:aL) (ps:List eh) (assign body:al)
 | bad
 deriving Inhabited
inductive Ex where
 | normal|exit (id:Nat)|ret
 deriving DecidableEq,Inhabited
inductive bw where
 | cells (l:List AV) (elem:TypeId)
 | map (es:List (AV×AV))
 | iter (s:List UInt8) (pos:Nat)
 | fR
 | hole
 | loop (st:LoopState) (pend:Option Ex) (pe:List AV) (ps:List eh) (assign body:al)
 deriving Inhabited
abbrev ab:=List (Option bw)
inductive ew where
 | var (x:aL)
 | cell (n:Nat) (agg:Bool) (x:aL)
 deriving Inhabited
structure dc where
 N:Nat
 aO:List Nat
 results:List ew
 body:al
 deriving Inhabited
structure St where
 pe:List AV
 lo:List (Nat×AV)
 hp:ab
 bX:List Nat:=[]
 deriving Inhabited
def St.aa (s:St):aL->Option AV
 | .p i=>s.pe[i]?
 | .l t=>s.lo.lookup t
 | .c v=>some v
def St.cH (s:St):List aL->Option (List AV)
 | []=>some []
 | x::xs=>match s.aa x with
   | some v=>match s.cH xs with
     | some vs=>some (v::vs)
     | none=>none
   | none=>none
def St.cZ (s:St):Option aL->Option (Option AV)
 | none=>some none
 | some x=>(s.aa x).map some
def St.put (s:St)(d:eh)(v:AV):St:=
 match d with
 | .no=>s
 | .p i=>{ s with pe:=s.pe.set i v }
 | .l t=>{ s with lo:=(t,v)::s.lo }
def AV.cells:AV->Option (List AV)
 | .cR=>none
 | .agg l=>some l
 | v=>some [v]
def cS:AV->Bool
 | .cR | .agg _ | .aq _=>false
 | _=>true
def cut (l:List AV)(off n:Nat):Option (List AV):=
 let r:=(l.drop off).take n
 if r.length=n then some r else none
def partOf (l:List AV)(off n:Nat)(agg:Bool):Option AV:=
 if agg then (cut l off n).map .agg else l[off]?
def overwrite (l:List AV)(off:Nat)(new:List AV):List AV:=
 l.take off++new++l.drop (off+new.length)
def kG:List AV->List (Nat×Nat×AV)->Option (List AV)
 | cs,[]=>some cs
 | cs,(off,n,v)::rest=>match v.cells with
   | some l=>if l.length=n/\off+n<=cs.length then kG (overwrite cs off l) rest else none
   | none=>none
def St.parts (s:St):List (Nat×Nat×aL)->Option (List (Nat×Nat×AV))
 | []=>some []
 | (o,n,x)::r=>match s.aa x with
   | some v=>match s.parts r with
     | some vs=>some ((o,n,v)::vs)
     | none=>none
   | none=>none
def qK:AV->Option Int
 | .int _ n=>some n
 | _=>none
def ab.at (h:ab)(b:Nat):Option bw:=(h[b]?).join
def fg (h:ab):AV->Option (List AV)
 | .ptr b off=>match h.at b with|some (.cells l _)=>some (l.drop off)|_=>none
 | .vp l=>some l
 | _=>none
def eA (h:ab):AV->Option (List AV×Nat)
 | .ae=>some ([],0)
 | .vs l n _=>some (l,n)
 | .sl b off n esz _=>match h.at b with
   | some (.cells l _)=>(cut l off (n*esz)).map (·,n)
   | _=>if n=0 then some ([],0) else none
 | .str s=>some (s.map fun c=>.int .u8 c.toNat,s.length)
 | _=>none
def jb:Fe->AV->AV->Option Bool
 | .ptr,.du,.du=>some true
 | .ptr,.du,.ptr _ _=>some false
 | .ptr,.du,.vp _=>some false
 | .ptr,.ptr _ _,.du=>some false
 | .ptr,.vp _,.du=>some false
 | .slice,.ae,.ae=>some true
 | .slice,.ae,.sl _ _ (_+1) _ _=>some false
 | .slice,.sl _ _ (_+1) _ _,.ae=>some false
 | .slice,.ae,.sl _ _ 0 _ (some _)=>some false
 | .slice,.sl _ _ 0 _ (some _),.ae=>some false
 | .slice,.ae,.vs (_::_) _ _=>some false
 | .slice,.vs (_::_) _ _,.ae=>some false
 | .map,.dU,.dU=>some true
 | .map,.dU,.map _=>some false
 | .map,.map _,.dU=>some false
 | .func,.fv,.fv=>some true
 | .func,.fv,.fn _ _ _=>some false
 | .func,.fn _ _ _,.fv=>some false
 | _,_,_=>none
def goEq (rec:gD->AV->AV->Option Bool):List (Nat×Nat×Bool×gD)->List AV->List AV->Option Bool
 | [],_,_=>some true
 | (off,n,ag,t)::rest,xs,ys=>
  match partOf xs off n ag,partOf ys off n ag with
  | some x,some y=>match rec t x y with
    | some true=>goEq rec rest xs ys
    | some false=>some false
    | none=>none
  | _,_=>none
def dQ:Nat->gD->AV->AV->Option Bool
 | 0,_,_,_=>none
 | d+1,t,x,y=>
  match t,x,y with
  | .bool,.bool a,.bool b=>some (a == b)
  | .int,.int k a,.int k' b=>if k=k' then some (a == b) else none
  | .str,.str a,.str b=>some (a == b)
  | .ref k,x,y=>jb k x y
  | .iface g,.cY,.cY=>if g then none else some true
  | .iface _,.cY,.iface _ _=>some false
  | .iface _,.iface _ _,.cY=>some false
  | .yD fs,.agg xs,.agg ys=>goEq (fun t x y=>dQ d t x y) fs xs ys
  | _,_,_=>none
def cN (op:BinOp)(x y:AV):Option AV:=
 match x,y with
 | .int k a,.int k' b=>
  match op with
  | .shl=>if b<0 then none else some (.int k (k.wrap (a*2^(min b.toNat k.bits))))
  | .shr=>if b<0 then none else some (.int k (a.fdiv (2^(min b.toNat k.bits))))
  | op=>if k=k' then
      match op with
      | .add=>some (.int k (k.wrap (a+b)))
      | .sub=>some (.int k (k.wrap (a-b)))
      | .mul=>some (.int k (k.wrap (a*b)))
      | .quo=>if b=0 then none else some (.int k (k.wrap (a.tdiv b)))
      | .rem=>if b=0 then none else some (.int k (a.tmod b))
      | .and=>some (.int k (k.wrap (BitVec.ofInt k.bits a &&& BitVec.ofInt k.bits b).toNat))
      | .or=>some (.int k (k.wrap (BitVec.ofInt k.bits a ||| BitVec.ofInt k.bits b).toNat))
      | .xor=>some (.int k (k.wrap (BitVec.ofInt k.bits a ^^^ BitVec.ofInt k.bits b).toNat))
      | .andNot=>some (.int k (k.wrap (BitVec.ofInt k.bits a &&& ~~~ BitVec.ofInt k.bits b).toNat))
      | .eql=>some (.bool (a == b))
      | .neq=>some (.bool (a != b))
      | .lss=>some (.bool (a<b))
      | .leq=>some (.bool (a<=b))
      | .gtr=>some (.bool (a > b))
      | .geq=>some (.bool (a>=b))
      | _=>none
    else none
 | .str a,.str b=>
  match op with
  | .add=>if a.length+b.length<2^62 then some (.str (a++b)) else none
  | .eql=>some (.bool (a == b))
  | .neq=>some (.bool !(a == b))
  | .lss=>some (.bool (Op.bytesLess a b))
  | .leq=>some (.bool (Op.bytesLess a b || a == b))
  | .gtr=>some (.bool !(Op.bytesLess a b || a == b))
  | .geq=>some (.bool !(Op.bytesLess a b))
  | _=>none
 | _,_=>none
def qL (op:UnOp)(x:AV):Option AV:=
 match op,x with
 | .neg,.int k n=>some (.int k (k.wrap (0-n)))
 | .not,.bool b=>some (.bool !b)
 | .xor,.int k n=>some (.int k (k.wrap (BitVec.ofInt k.bits (if k.signed then -1 else k.max) ^^^ BitVec.ofInt k.bits n).toNat))
 | _,_=>none
def lO (k:IntKind)(x:AV):Option AV:=
 match x with
 | .int _ n=>some (.int k (k.wrap n))
 | _=>none
def yI (off:Nat)(x:AV):Option AV:=
 match x with
 | .ptr b o=>some (.ptr b (o+off))
 | .vp l=>some (.vp (l.drop off))
 | _=>none
def mV (arr:Option Nat)(esz:Nat)(x i:AV):Option AV:=
 match i with
 | .int _ n=>
  match arr,x with
  | some len,.ptr b o=>if 0<=n/\n<len then some (.ptr b (o+n.toNat*esz)) else none
  | some len,.vp l=>if 0<=n/\n<len then some (.vp (l.drop (n.toNat*esz))) else none
  | none,.sl b o len e _=>if 0<=n/\n<len/\e=esz then some (.ptr b (o+n.toNat*esz)) else none
  | none,.vs l len _=>if 0<=n/\n<len then some (.vp (l.drop (n.toNat*esz))) else none
  | _,_=>none
 | _=>none
def tr (x i:AV):Option AV:=
 match x,i with
 | .str s,.int _ n=>if 0<=n then (s[n.toNat]?).map fun c=>.int .u8 c.toNat else none
 | _,_=>none
def bM (x:Option AV)(dflt most:Nat):Option Nat:=
 match x with
 | none=>some dflt
 | some (.int _ n)=>if 0<=n/\n<=most then some n.toNat else none
 | some _=>none
def jc (k:lM)(esz:Nat)(x:AV)(lo hi mx:Option AV):Option AV:=
 match k,x,mx with
 | .str,.str s,none=>
  match bM hi s.length s.length with
  | some h=>match bM lo 0 h with
    | some l=>some (.str ((s.drop l).take (h-l)))
    | none=>none
  | none=>none
 | .sl,.ae,none=>
  match bM hi 0 0,bM lo 0 0 with
  | some _,some _=>some .ae
  | _,_=>none
 | .sl,.ae,some m=>
  match bM (some m) 0 0,bM hi 0 0,bM lo 0 0 with
  | some _,some _,some _=>some .ae
  | _,_,_=>none
 | .sl,.sl b o len e cap,none=>
  if e=esz then
   match bM hi len (cap.getD len) with
   | some h=>match bM lo 0 h with
     | some l=>
      if l<h then some (.sl b (o+l*esz) (h-l) esz (cap.map (· - l)))
      else some (.vs [] 0 (cap.map (· - l)))
     | none=>none
   | none=>none
  else none
 | .sl,.sl b o len e cap,some m=>
  if e=esz then
   match bM (some m) len (cap.getD len) with
   | some m=>match bM hi len m with
     | some h=>match bM lo 0 h with
       | some l=>
        if l<h then some (.sl b (o+l*esz) (h-l) esz (some (m-l)))
        else some (.vs [] 0 (some (m-l)))
       | none=>none
     | none=>none
   | none=>none
  else none
 | .sl,.vs c len cap,none=>
  match bM hi len len with
  | some h=>match bM lo 0 h with
    | some l=>some (.vs ((c.drop (l*esz)).take ((h-l)*esz)) (h-l) (cap.map (· - l)))
    | none=>none
  | none=>none
 | .sl,.vs c len _,some m=>
  match bM (some m) len len with
  | some m=>match bM hi len m with
    | some h=>match bM lo 0 h with
      | some l=>some (.vs ((c.drop (l*esz)).take ((h-l)*esz)) (h-l) (some (m-l)))
      | none=>none
    | none=>none
  | none=>none
 | _,_,_=>none
def tt (k:lM)(x:AV):Option AV:=
 match k,x with
 | .str,.str s=>some (.int .i64 s.length)
 | .sl,.ae=>some (.int .i64 0)
 | .sl,.sl _ _ n _ _=>some (.int .i64 n)
 | .sl,.vs _ n _=>some (.int .i64 n)
 | _,_=>none
def mW (max:Bool):AV->List AV->Option AV
 | x,[]=>some x
 | .int k a,.int k' b::rest=>
  if k=k' then mW max (.int k (if max then (if b > a then b else a) else (if b<a then b else a))) rest else none
 | _,_=>none
def yJ (x:AV):Option AV:=
 match x with
 | .ptr _ _ | .vp _=>some x
 | .fn (.func _) _ _=>some x
 | .fn (.yield _) _ _=>some x
 | _=>none
def aW (s:St)(io:aZ):Option AV:=
 match io with
 | .mv x=>s.aa x
 | .pick c a b=>match s.aa c,s.aa a,s.aa b with
   | some (.bool t),some a,some b=>some (if t then a else b)
   | some (.bool t),some a,none=>if t then some a else none
   | some (.bool t),none,some b=>if t then none else some b
   | _,_,_=>none
 | .bin op x y=>match s.aa x,s.aa y with
   | some a,some b=>cN op a b
   | _,_=>none
 | .eq neg t x y=>match s.aa x,s.aa y with
   | some a,some b=>match dQ 100 t a b with
     | some r=>some (.bool (if neg then !r else r))
     | none=>none
   | _,_=>none
 | .un op x=>(s.aa x).bind (qL op)
 | .dz k x=>(s.aa x).bind (lO k)
 | .yE x=>match s.aa x with
   | some (.int _ n)=>some (.str (Utf8.encode n).data.toList)
   | _=>none
 | .yF x=>match s.aa x with
   | some (.str t)=>some (.str t)
   | _=>none
 | .ju x=>(s.aa x).bind yJ
 | .field off n ag x=>match s.aa x with
   | some (.agg l)=>partOf l off n ag
   | _=>none
 | .iI off x=>(s.aa x).bind (yI off)
 | .cP arr esz x i=>match s.aa x,s.aa i with
   | some a,some b=>mV arr esz a b
   | _,_=>none
 | .index x i=>match s.aa x,s.aa i with
   | some a,some b=>tr a b
   | _,_=>none
 | .yG len esz ag x i=>match s.aa x,s.aa i with
   | some (.agg l),some (.int _ n)=>if 0<=n/\n<len then partOf l (n.toNat*esz) esz ag else none
   | _,_=>none
 | .slice k esz x lo hi mx=>match s.aa x with
   | some a=>
    match s.cZ lo,s.cZ hi,s.cZ mx with
    | some l,some h,some m=>if m.isNone || h.isSome then jc k esz a l h m else none
    | _,_,_=>none
   | none=>none
 | .extract i x=>match s.aa x with
   | some (.aq l)=>l[i]?
   | _=>none
 | .qH t x=>(s.aa x).map (.iface t)
 | .yH t z ok x=>match s.aa x with
   | some (.iface u v)=>if u=t then some (if ok then .aq [v,.bool true] else v) else if ok then some (.aq [z,.bool false]) else none
   | some .cY=>if ok then some (.aq [z,.bool false]) else none
   | _=>none
 | .tq f fi ca=>match s.cH fi,s.cH ca with
   | some a,some b=>some (.fn f a b)
   | _,_=>none
 | .build zero ps=>match s.parts ps with
   | some vs=>(kG zero vs).map .agg
   | none=>none
 | .len k x=>match k with
   | .arr n=>some (.int .i64 n)
   | k=>(s.aa x).bind (tt k)
 | .cap x=>match s.aa x with
   | some .ae=>some (.int .i64 0)
   | some (.sl _ _ _ _ (some c))=>some (.int .i64 c)
   | some (.vs _ _ (some c))=>some (.int .i64 c)
   | _=>none
 | .mm mx xs=>match s.cH xs with
   | some (.int k a::rest)=>mW mx (.int k a) rest
   | _=>none
 | .qF x=>match s.aa x with
   | some .ae=>some .du
   | some (.sl b o (_+1) _ _)=>some (.ptr b o)
   | _=>none
 | _=>none
def aZ.bG:aZ->Bool
 | .alloc .. | .box .. | .dZ .. | .load .. | .store .. | .mU | .gg .. | .lookup .. | .qI .. | .range .. | .next .. | .append .. | .copy .. | .ix .. | .qJ .. | .call .. | .invoke .. | .kE .. | .oT .. | .jP .. | .mT .. | .jt .. | .qG .. => true
 | _=>false
def tu:List (Nat×Nat×aL)->List aL
 | []=>[]
 | (_,_,x)::r=>x::tu r
def aZ.gh:aZ->List aL
 | .mv x | .un _ x | .dz _ x | .yE x | .yF x | .oT _ x | .kE x | .ju x | .field _ _ _ x | .iI _ x | .extract _ x | .qH _ x
 | .len _ x | .cap x | .box _ _ x | .load _ _ x | .range x | .next x | .qJ x | .jP _ x | .qF x | .yH _ _ _ x | .qG _ _ x=>[x]
 | .pick c a b=>[c,a,b]
 | .bin _ x y | .eq _ _ x y | .cP _ _ x y | .index x y | .yG _ _ _ x y | .store _ x y | .gg _ _ _ _ x y | .lookup _ _ x y _ | .append _ _ _ x y | .copy _ x y | .mT _ x y | .jt _ x y=>[x,y]
 | .slice _ _ x lo hi mx=>x::(lo.toList++hi.toList++mx.toList)
 | .ix _ _ x lo hi=>x::(lo.toList++hi.toList)
 | .tq _ fi ca=>fi++ca
 | .build _ ps | .dZ _ _ _ _ ps=>tu ps
 | .mm _ xs=>xs
 | .alloc .. | .mU=>[]
 | .qI _ m i x=>[m,i,x]
 | .call f as | .invoke f _ as=>f::as
def aU.gh (o:aU):List aL:=(match o.guard with|some (x,_)=>[x]|none=>[])++o.op.gh
def dL:eh->aL->Bool
 | .p i,.p j=>i == j
 | .l t,.l u=>t == u
 | _,_=>false
def Ff:eh->eh->Bool
 | .p i,.p j=>i == j
 | .l t,.l u=>t == u
 | _,_=>false
def oW (a b:aU):Bool:=(b.gh.all fun x=>!dL a.dst x) && (a.gh.all fun x=>!dL b.dst x) && !Ff a.dst b.dst
structure HR where
 v:AV
 h:ab
 wr:List Nat
def cB:AV:=.aq []
def ab.put (h:ab)(b:Nat)(o:Option bw):ab:=h.set b o
def qM:AV->AV->Option Bool
 | .int k a,.int k' b=>if k=k' then some (a == b) else none
 | .str a,.str b=>some (a == b)
 | _,_=>none
def kH (k:AV):List (AV×AV)->Nat->Option (Option (Nat×AV))
 | [],_=>some none
 | (k',v)::r,i=>match qM k k' with
   | some true=>some (some (i,v))
   | some false=>kH k r (i+1)
   | none=>none
def ie.ok:ie->AV->Bool
 | .int,.int _ _=>true
 | .str,.str _=>true
 | _,_=>false
def fS (zero:List AV):Nat->List AV
 | 0=>[]
 | n+1=>zero++fS zero n
def bytesOf:List AV->Option (List UInt8)
 | []=>some []
 | .int .u8 n::r=>match bytesOf r with
   | some l=>some (UInt8.ofNat n.toNat::l)
   | none=>none
 | _=>none
def dD:Nat:=2^46
def jv (elem:TypeId)(esz bytes:Nat)(h:ab)(x y:AV):Option HR:=
 match eA h y with
 | none=>none
 | some (new,n)=>
  if new.length=n*esz/\0<bytes/\new.all cS=true then
   match x with
   | .ae=>
    if n=0 then some ⟨.ae,h,[]⟩
    else if n*bytes<=dD then some ⟨.sl h.length 0 n esz none,h++[some (.cells new elem)],[]⟩ else none
   | .vs l len cap=>
    if n=0 then some ⟨x,h,[]⟩ else
    match cap with
    | some c=>if c<len+n/\(len+n)*bytes<=dD/\l.length=len*esz then some ⟨.sl h.length 0 (len+n) esz none,h++[some (.cells (l++new) elem)],[]⟩ else none
    | none=>none
   | .sl b off len e cap=>
    if n=0 then some ⟨x,h,[]⟩ else
    if e=esz/\(len+n)*bytes<=dD then
     match h.at b with
     | some (.cells l el)=>
      match cap with
      | some c=>
       if len+n<=c then
        if off+(len+n)*esz<=l.length then some ⟨.sl b off (len+n) esz cap,h.put b (some (.cells (overwrite l (off+len*esz) new) el)),[b]⟩ else none
       else match cut l off (len*esz) with
        | some bU=>some ⟨.sl h.length 0 (len+n) esz none,h++[some (.cells (bU++new) elem)],[]⟩
        | none=>none
      | none=>
       if l.length=off+len*esz/\el=elem then
        some ⟨.sl h.length 0 (len+n) esz none,h.put b none++[some (.cells (l.drop off++new) elem)],[b]⟩
       else none
     | _=>none
    else none
   | _=>none
  else none
def bB (s:St)(io:aZ)(h:ab):Option HR:=
 match io with
 | .alloc elem zero=>some ⟨.ptr h.length 0,h++[some (.cells zero elem)],[]⟩
 | .box elem n x=>match (s.aa x).bind AV.cells with
   | some l=>if l.length=n then some ⟨.ptr h.length 0,h++[some (.cells l elem)],[]⟩ else none
   | none=>none
 | .dZ elem len esz zero ps=>match s.parts ps with
   | some vs=>match kG (fS zero len) vs with
     | some l=>if l.length=len*esz then some ⟨.sl h.length 0 len esz (some len),h++[some (.cells l elem)],[]⟩ else none
     | none=>none
   | none=>none
 | .load n ag x=>match (s.aa x).bind (fg h) with
   | some l=>match partOf l 0 n ag with
     | some v=>some ⟨v,h,[]⟩
     | none=>none
   | none=>none
 | .store n x y=>match s.aa x,(s.aa y).bind AV.cells with
   | some (.ptr b off),some new=>match h.at b with
     | some (.cells l el)=>if new.length=n/\off+n<=l.length/\new.all cS=true then some ⟨cB,h.put b (some (.cells (overwrite l off new) el)),[b]⟩ else none
     | _=>none
   | _,_=>none
 | .mU=>some ⟨.map h.length,h++[some (.map [])],[]⟩
 | .gg elem esz bytes zero l c=>match (s.aa l).bind qK,(s.aa c).bind qK with
   | some a,some b=>
    if 0<=a/\a<=b/\b.toNat*bytes<=dD/\b<=2^46/\zero.length=esz then some ⟨.sl h.length 0 a.toNat esz (some b.toNat),h++[some (.cells (fS zero b.toNat) elem)],[]⟩ else none
   | _,_=>none
 | .lookup kt zero x i ok=>match s.aa x,s.aa i with
   | some m,some k=>
    if kt.ok k then
     let es? : Option (List (AV×AV)):=match m with
      | .dU=>some []
      | .map b=>match h.at b with|some (.map es)=>some es|_=>none
      | _=>none
     match es? with
     | some es=>match kH k es 0 with
       | some r=>
        let v:=match r with|some (_,v)=>v|none=>zero
        some ⟨if ok then .aq [v,.bool r.isSome] else v,h,[]⟩
       | none=>none
     | none=>none
    else none
   | _,_=>none
 | .qI kt m i x=>match s.aa m,s.aa i,s.aa x with
   | some (.map b),some k,some v=>
    if kt.ok k then
     match h.at b with
     | some (.map es)=>match kH k es 0 with
       | some (some (j,_))=>some ⟨cB,h.put b (some (.map (es.set j (k,v)))),[b]⟩
       | some none=>some ⟨cB,h.put b (some (.map (es++[(k,v)]))),[b]⟩
       | none=>none
     | _=>none
    else none
   | _,_,_=>none
 | .range x=>match s.aa x with
   | some (.str t)=>some ⟨.ptr h.length 0,h++[some (.iter t 0)],[]⟩
   | _=>none
 | .next x=>match s.aa x with
   | some (.ptr b 0)=>match h.at b with
     | some (.iter t pos)=>
      if pos<t.length then
       let (c,w):=Utf8.decode ⟨t.toArray⟩ pos
       some ⟨.aq [.bool true,.int .i64 pos,.int .i32 c],h.put b (some (.iter t (pos+w))),[b]⟩
      else some ⟨.aq [.bool false],h,[]⟩
     | _=>none
   | _=>none
 | .append elem esz bytes x y=>match s.aa x,s.aa y with
   | some a,some b=>jv elem esz bytes h a b
   | _,_=>none
 | .qG esz z x=>match s.aa x with
   | some (.sl b off len e _)=>
    if e=esz/\z.all cS=true/\z.length=esz/\0<len then
     match h.at b with
     | some (.cells l el)=>if off+len*esz<=l.length then some ⟨.aq [],h.put b (some (.cells (overwrite l off (fS z len)) el)),[b]⟩ else none
     | _=>none
    else none
   | some (.vs [] 0 _)=>some ⟨.aq [],h,[]⟩
   | some .ae=>some ⟨.aq [],h,[]⟩
   | _=>none
 | .copy esz x y=>match s.aa x,s.aa y with
   | some (.sl b off len e _),some y=>
    match eA h y with
    | some (src,n)=>
     if e=esz/\src.length=n*esz/\src.all cS=true then
      let m:=min n len
      match h.at b with
      | some (.cells l el)=>if off+m*esz<=l.length then some ⟨.int .i64 m,h.put b (some (.cells (overwrite l off (src.take (m*esz))) el)),[b]⟩ else none
      | _=>none
     else none
    | none=>none
   | some .ae,some y=>match eA h y with
     | some (src,n)=>if src.length=n*esz then some ⟨.int .i64 0,h,[]⟩ else none
     | none=>none
   | _,_=>none
 | .ix n esz x lo hi=>match s.aa x,s.cZ lo,s.cZ hi with
   | some (.ptr b o),some lo,some hi=>match h.at b with
     | some (.cells l _)=>
      if o+n*esz<=l.length then
       match bM hi n n with
       | some hh=>match bM lo 0 hh with
         | some ll=>some ⟨if ll<n then .sl b (o+ll*esz) (hh-ll) esz (some (n-ll)) else .vs [] 0 (some 0),h,[]⟩
         | none=>none
       | none=>none
      else none
     | _=>none
   | _,_,_=>none
 | .qJ x=>match s.aa x with
   | some (.map b)=>match h.at b with
     | some (.map es)=>some ⟨.int .i64 es.length,h,[]⟩
     | _=>none
   | some .dU=>some ⟨.int .i64 0,h,[]⟩
   | _=>none
 | .oT elem x=>match s.aa x with
   | some (.str t)=>some ⟨.sl h.length 0 t.length 1 none,h++[some (.cells (t.map fun c=>.int .u8 c.toNat) elem)],[]⟩
   | _=>none
 | .kE x=>match s.aa x with
   | some (.str _)=>none
   | some y=>match eA h y with
     | some (l,n)=>if l.length=n then
         match bytesOf l with
         | some t=>some ⟨.str t,h,[]⟩
         | none=>none
       else none
     | none=>none
   | none=>none
 | .jP u x=>match s.aa x with
   | some (.ptr b o)=>match h.at b with
     | some (.cells l e)=>
      if o<l.length/\(match u with|none=>true|some (t,n)=>decide (o=0/\e=t/\l.length=n))=true then some ⟨.ptr b o,h,[]⟩ else none
     | _=>none
   | _=>none
 | .mT neg x y=>match s.aa x,s.aa y with
   | some (.ptr b o),some (.ptr b' o')=>match h.at b with
     | some (.cells _ _)=>if b=b'/\o=o' then some ⟨.bool !neg,h,[]⟩ else none
     | _=>none
   | _,_=>none
 | .jt e x n=>match s.aa x,s.aa n with
   | some .du,some (.int _ k)=>if k=0 then some ⟨.str [],h,[]⟩ else none
   | some (.ptr b o),some (.int _ k)=>
    if 0<k/\k<=2^46 then
     match h.at b with
     | some (.cells l el)=>
      if el=e then
       match cut l o k.toNat with
       | some c=>match bytesOf c with
         | some t=>some ⟨.str t,h.put b none,[b]⟩
         | none=>none
       | none=>none
      else none
     | _=>none
    else none
   | _,_=>none
 | _=>none
abbrev dM:=AV->List AV->ab->Option HR
abbrev fw:=TypeId->String->Option FuncId
def bR (call:dM)(inv:fw)(s:St)(io:aZ):Option HR:=
 match io with
 | .call f args=>match s.aa f,s.cH args with
   | some g,some as=>call g as s.hp
   | _,_=>none
 | .invoke x name args=>match s.aa x,s.cH args with
   | some (.iface t v),some as=>match inv t name with
     | some f=>call (.fn (.func f) [] []) (v::as) s.hp
     | none=>none
   | _,_=>none
 | io=>if io.bG then bB s io s.hp else (aW s io).map fun v=>⟨v,s.hp,[]⟩
def eC (s:St)(g:Option (aL×Bool)):Option Bool:=
 match g with
 | none=>some true
 | some (x,want)=>match s.aa x with
   | some (.bool b)=>some (b == want)
   | some (.aq _)=>some false
   | _=>none
structure ao where
 s:St
 wr:List Nat
def eE (call:dM)(inv:fw):List aU->ao->Option ao
 | [],s=>some s
 | o::rest,s=>match eC s.s o.guard with
   | some true=>match bR call inv s.s o.op with
     | some r=>eE call inv rest ⟨{ s.s.put o.dst r.v with hp:=r.h },r.wr++s.wr⟩
     | none=>none
   | some false=>eE call inv rest ⟨s.s.put o.dst cB,s.wr⟩
   | none=>none
def mask (h:ab)(U:List Nat):ab:=U.foldl (fun h b=>h.set b none) h
def dv (T:List Nat):ab->Nat->ab
 | [],_=>[]
 | o::r,i=>(if T.contains i then o else none)::dv T r (i+1)
def dV (wr:List Nat):ab->ab->Nat->ab
 | o::h,n::h',i=>(if wr.contains i then n else o)::dV wr h h' (i+1)
 | [],h',_=>h'
 | h,[],_=>h
def jx (s:St)(io:aZ):Option (List Nat):=
 let cW (x:aL):List Nat:=match s.aa x with
  | some (.ptr b _)=>[b]
  | some (.sl b _ _ _ _)=>[b]
  | some (.map b)=>[b]
  | _=>[]
 match io with
 | .alloc .. | .box .. | .dZ .. | .mU | .gg .. | .range _ | .oT .. => some []
 | .load _ _ x | .next x | .qJ x | .kE x | .store _ x _ | .lookup _ _ x _ _ | .qI _ x _ _=>some (cW x)
 | .append _ _ _ x y | .copy _ x y | .mT _ x y=>some (cW x++cW y)
 | .jP _ x | .jt _ x _ | .qG _ _ x=>some (cW x)
 | .ix _ _ x _ _=>some (cW x)
 | .call .. | .invoke .. => none
 | _=>some []
structure cg where
 jQ:Option (List Nat)
 wr:List Nat
 lo:Nat
 hi:Nat
def cg.own (d:cg):List Nat:=d.wr++List.range' d.lo (d.hi-d.lo)
def gP (a b:List Nat):Bool:=a.all fun x=>!b.contains x
def dN (call:dM)(inv:fw):List (aU×List Nat)->ao->List cg->Option ao
 | [],s,_=>some s
 | (o,un)::rest,s,ds=>match eC s.s o.guard with
   | some true=>
    if o.op.bG then
     let U:=un.flatMap fun j=>(ds[j]?).elim [] cg.own
     let t:=jx s.s o.op
     if (match t with|some T=>gP T U|none=>true) then
      let h0:=match t with|some T=>dv T s.s.hp 0|none=>mask s.s.hp U
      match bR call inv { s.s with hp:=h0 } o.op with
      | some r=>
       if (r.wr.all fun b=>(h0.at b).isSome) && (r.wr.isEmpty || un.all (fun j=>match ds[j]? with|some d=>(match d.jQ with|some T=>gP r.wr T|none=>false)|none=>false)) then
        dN call inv rest ⟨{ s.s.put o.dst r.v with hp:=dV r.wr s.s.hp r.h 0 },r.wr++s.wr⟩ (ds++[⟨t,r.wr,s.s.hp.length,r.h.length⟩])
       else none
      | none=>none
     else none
    else match aW s.s o.op with
     | some v=>dN call inv rest ⟨s.s.put o.dst v,s.wr⟩ (ds++[⟨some [],[],s.s.hp.length,s.s.hp.length⟩])
     | none=>none
   | some false=>dN call inv rest ⟨s.s.put o.dst cB,s.wr⟩ (ds++[⟨some [],[],s.s.hp.length,s.s.hp.length⟩])
   | none=>none
mutual
def AV.top:AV->Nat
 | .ptr b _=>b+1
 | .sl b _ _ _ _=>b+1
 | .map b=>b+1
 | .vp l=>bk l
 | .vs l _ _=>bk l
 | .fn f a b=>max (match f with | .yield l=>l+1|_=>0) (max (bk a) (bk b))
 | .iface _ v=>v.top
 | .agg l=>bk l
 | .aq l=>bk l
 | _=>0
def bk:List AV->Nat
 | []=>0
 | v::r=>max v.top (bk r)
end
def bw.top:bw->Nat
 | .cells l _=>bk l
 | .map es=>mX es
 | .iter _ _=>0
 | .fR=>0
 | .hole=>0
 | .loop _ _ pe _ _ _=>bk pe
where
 mX:List (AV×AV)->Nat
  | []=>0
  | (k,v)::r=>max (max k.top v.top) (mX r)
def tight (h:ab)(n:Nat)(wr:List Nat):Bool:=
 wr.all fun b=>match h.at b with
  | some o=>b>=n || o.top<=n
  | none=>true
def de (s:St):List ew->Option (List AV)
 | []=>some []
 | r::rest=>
  let v? : Option AV:=match r with
   | .var x=>s.aa x
   | .cell n ag x=>(s.aa x).bind fun p=>(fg s.hp p).bind fun l=>partOf l 0 n ag
  match v?,de s rest with
  | some v,some vs=>some (v::vs)
  | _,_=>none
def aV:List AV->AV
 | [v]=>v
 | vs=>.aq vs
def dR (v:AV)(n:Nat)(s:ao):HR:=
 if v.top<=n && tight s.s.hp n s.wr then ⟨v,s.s.hp.take n,s.wr.filter (· < n)⟩
 else ⟨v,s.s.hp,s.wr.filter (· < n)⟩
def kJ:List Nat->ao->Option ao
 | [],s=>some s
 | d::r,s=>match s.s.hp.at d with
   | some .fR=>kJ r ⟨{ s.s with hp:=s.s.hp.put d none },d::s.wr⟩
   | _=>none
def oZ (s:St):List eh->List AV->Option St
 | [],[]=>some s
 | d::ds,v::vs=>oZ (s.put d v) ds vs
 | _,_=>none
def gk (run:al->ao->Option (Ex×ao))(FT:FuncId->Option dc)(f:FuncId)(all:List AV)(h:ab):Option HR:=
 match FT f with
 | some fi=>
  if fi.N<all.length then none else
  match run fi.body ⟨⟨fi.aO.map (fun t=>(all[t]?).getD cB),[],h,[]⟩,[]⟩ with
  | some (e,s)=>
   if e = .normal\/e = .ret then
    match kJ s.s.bX s with
    | some s=>match de s.s fi.results with
      | some vs=>some (dR (aV vs) h.length s)
      | none=>none
    | none=>none
   else none
  | none=>none
 | none=>none
def gQ (run:al->ao->Option (Ex×ao))(ext:FuncId->List AV->ab->Option HR)(FT:FuncId->Option dc):dM:=fun g as h=>
 match g with
 | .fn (.func f) first cap=>
  match ext f (first++as++cap) h with
  | some r=>some r
  | none=>gk run FT f (first++as++cap) h
 | .fn (.yield b) [] []=>
  match h.at b with
  | some (.loop .ready none pe ps a bd)=>
   match oZ ⟨pe,[],h,[]⟩ ps as with
   | some s0=>match run a ⟨s0,[]⟩ with
     | some (.normal,s1)=>match s1.s.hp.at b with
       | some (.loop .ready none pe' ps' a' bd')=>
        match run bd ⟨{ s1.s with hp:=s1.s.hp.put b (some (.loop .busy none pe' ps' a' bd')) },b::s1.wr⟩ with
        | some (e,s2)=>match s2.s.hp.at b,s2.s.bX with
          | some (.loop .busy none pe' ps' a' bd'),[]=>
           let o:bw:=if e = .normal then .loop .ready none pe' ps' a' bd' else .loop .done (some e) pe' ps' a' bd'
           some (dR (.bool (decide (e = .normal))) h.length ⟨{ s2.s with hp:=s2.s.hp.put b (some o) },b::s2.wr⟩)
          | _,_=>none
        | none=>none
       | _=>none
     | _=>none
   | none=>none
  | _=>none
 | _=>none
def bh (ext:FuncId->List AV->ab->Option HR)(inv:fw)(FT:FuncId->Option dc):Nat->al->ao->Option (Ex×ao)
 | 0,_,_=>none
 | n+1,c,s=>
  match c with
  | .skip=>some (.normal,s)
  | .seq a b=>match bh ext inv FT n a s with
    | some (.normal,s')=>bh ext inv FT n b s'
    | r=>r
  | .cond x a b=>match s.s.aa x with
    | some (.bool t)=>bh ext inv FT n (if t then a else b) s
    | _=>none
  | .block id c=>match bh ext inv FT n c s with
    | some (.exit id',s')=>if id'=id then some (.normal,s') else some (.exit id',s')
    | r=>r
  | .loop c=>match bh ext inv FT n c s with
    | some (.normal,s')=>bh ext inv FT n (.loop c) s'
    | r=>r
  | .exit id=>some (.exit id,s)
  | .ret=>some (.ret,s)
  | .region ops=>match eE (gQ (bh ext inv FT n) ext FT) inv ops ⟨{ s.s with lo:=[] },s.wr⟩ with
    | some s'=>some (.normal,s')
    | none=>none
  | .draw ops=>match dN (gQ (bh ext inv FT n) ext FT) inv ops ⟨{ s.s with lo:=[] },s.wr⟩ [] with
    | some s'=>some (.normal,s')
    | none=>none
  | .rangeFunc inner f ps a b=>
   if inner then none else
   match s.s.aa f with
   | some (.fn (.func g) fi ca)=>
    match gk (bh ext inv FT n) FT g (fi++[.fn (.yield (s.s.hp.length+1)) [] []]++ca) (s.s.hp++[some .fR,some (.loop .ready none s.s.pe ps a b)]) with
    | some r=>match r.h.at (s.s.hp.length+1) with
      | some (.loop st pend pe' ps' a' b')=>
       if st = .busy then none else
       some (pend.getD .normal,⟨{ s.s with hp:=r.h.put (s.s.hp.length+1) (some (.loop .exhausted pend pe' ps' a' b')),bX:=s.s.hp.length::s.s.bX },(s.s.hp.length+1)::r.wr++s.wr⟩)
      | _=>none
    | none=>none
   | _=>none
  | .bad=>none
end Go.Ab
namespace Go.Ab
structure GQ (Q:Prop):Prop where
 q:Q
theorem gg0 {P:Prop}(h:P:=by
 repeat' first|(apply afh;rfl;rfl;omega;exact h1)|(apply afE;rfl;rfl;all_goals first|(intro h;exact absurd h h0)|intro _)|(apply aeK;rfl;rfl;all_goals first|(intro h;exact absurd h hne)|intro _)|(apply afh (r:=t);rfl;rfl;omega;exact e1)|(apply afI (i:=k+2);rfl;exact hl;omega;omega)|(apply afP (i:=k+2);rfl;rfl;exact hl;omega;omega)|(apply afI (i:=i);rfl;exact hl;omega;omega)|(apply afQ (i:=i);rfl;exact hb;exact hne;omega;omega)|(apply afP (i:=i);rfl;rfl;exact hl;omega;omega)|(apply afN (a:=m/18446744073709551616);rfl;rfl;omega)|(apply agi;rfl;rfl;omega)|(apply agj;rfl)|(apply ade;rfl;rfl;rfl;exact⟨rfl,Nat.le_refl _,by simp[overwrite,dG,ek,o3,o4]⟩;rfl)|(apply afC (r:=t);rfl;rfl;omega;exact e')|apply aap|apply aM|apply aaF|apply aaY|apply acS|apply abu|apply abJ|(apply abF;rfl)|apply bZ|apply fx|apply kL|apply fy|apply cX|(apply abz;rfl)|(apply acY;rfl)|(apply ada;rfl;rfl)|(apply adU;rfl;rfl)|(apply adE;rfl;rfl)|(apply aef;rfl;rfl)|(apply acR;rfl;rfl)|(apply ael;rfl;rfl;omega)|(apply afF;rfl;rfl;omega)|(apply abD;rfl;rfl;first|(focus (apply_assumption -exfalso -symm;done))|(focus (apply_assumption -exfalso -symm;exact kM rfl rfl rfl))|(focus (apply_assumption -exfalso -symm;rfl)))|(apply aeX;rfl;rfl;omega)|(apply acb;rfl;rfl;rfl)|(apply afv;rfl;rfl;omega)|(apply aab;rfl;rfl)|(apply aaZ;rfl;rfl)|(intro _;omega)|intro _
 all_goals first|omega|exact⟨.inr rfl,rfl,_,rfl,rfl,rfl⟩|exact⟨.inl rfl,rfl,_,rfl,hw,hL⟩|exact⟨.inr rfl,rfl,_,rfl,Ou ▸ rfl,rfl⟩|exact⟨.inr rfl,rfl,_,rfl,[],a,⟨ij,jy,(Int.ediv_eq_zero_of_lt a0 hlt).symm⟩,⟨oa,na,(Int.emod_eq_of_lt a0 hlt).symm⟩,jR.less⟩|exact⟨.inr rfl,rfl,_,rfl,[],a,⟨ij,jy,(Int.ediv_eq_zero_of_lt a0 hlt).symm⟩,⟨oa,na,(Int.emod_eq_of_lt a0 hlt).symm⟩,je.less⟩|exact⟨.inr rfl,rfl,_,rfl,q,_,fin,rfl,hw2,rfl⟩|exact next _ _ _ _ _|exact fin s2 s1 w2 w1 _ _ (i+i) (j+i) h2 h1 (by rw[Nat.add_mul];omega)):P:=h
theorem gg1 {P:Prop}(h:P:=by
 repeat' first|(exact tl _ _ _ _ _ _ _ _ _)|(exact Fg C hN hx hy ol om nl nm ll lm hm _ _ _ _ _ _ _ _)|(apply afh;rfl;rfl;omega;exact h1)|(exact tl _ _ _ _ _ _)|(apply afK;rfl;rfl;omega)|(apply afN;rfl;rfl;omega)|apply aap|(apply agQ;rfl;rfl;exact hc)|(apply afh (r:=v);rfl;rfl;omega;exact e1)|(apply afG (a:=4294967296);rfl;rfl;omega)|apply aM|(apply afG (a:=q) (b:=y0);rfl;rfl;rw[←hP];exact hm)|apply aaF|apply aaY|apply bZ|apply abJ|apply abu|apply acS|(apply aft;rfl;rfl;exact⟨rfl,by first|exact Nat.le_refl _|decide|(simp[overwrite]),rfl⟩;rfl)|apply cX|apply fx|(apply acY;rfl)|apply kL|(apply abz;rfl)|(apply aeP;rfl)|(apply aeM;rfl)|(apply abF;rfl)|(apply afz;rfl)|(apply ada;rfl;rfl)|(apply adE;rfl;rfl)|(apply aeq;rfl;rfl;first|exact q1 _)|(apply adU;rfl;rfl)|(apply acR;rfl;rfl)|(apply aeN;rfl;rfl)|(apply adM;rfl;rfl)|(apply aeq;rfl;rfl;first|exact q)|(apply afw;rfl;(first|exact bW|assumption|exact bT bW|exact bT (bT bW)|exact bT (bT (bT bW))|exact dg (by simp)|((repeat apply bT);assumption));rfl)|(apply acb;rfl;rfl;rfl)|(apply afb;rfl;rfl;omega)|(apply acK;rfl;rfl;rfl)|(apply aab;rfl;rfl)|(apply aaZ;rfl;rfl)|(intro _;omega)|intro _
 all_goals first|omega|exact⟨.inr rfl,rfl,_,rfl,rfl,rfl⟩|exact cD rfl rfl (.same rfl rfl)|exact fT (ih _ _ _ (by omega) I2 (by omega))|exact⟨.inr rfl,rfl,⟨_,rfl⟩,by simp,_,tv rfl bW,rfl⟩|exact cD rfl rfl (fin _ _)|exact⟨.inr rfl,rfl,_,rfl,congrArg AV.bool (by simp[isName,h]),rfl⟩|exact⟨.inr rfl,rfl,_,rfl,q,rfl,rfl,g1,g2,g3⟩|exact⟨.inr rfl,rfl,_,rfl,.same rfl rfl⟩|exact h1 (by omega) _ _|exact main true _ _ (fun e st h=>h)):P:=h
theorem gg2 {P:Prop}(h:P:=by
 repeat' first|(apply afh (s:=u) (r:=bot);rfl;rfl;omega;exact e2')|(apply afL;exact congrArg (fun z=>some (AV.ptr 0 z)) eI;rfl;omega)|(apply afH;exact congrArg (fun z=>some (AV.ptr 0 z)) eI;rfl;rfl;omega)|(apply aeK;rfl;rfl;all_goals first|(intro h;exact absurd h h48)|(intro h;exact absurd h h49)|intro _)|apply aap|(apply afO;rfl;rfl;rfl)|(apply afD (L:=[x]) (m:=0) (v:=x);rfl;rfl;exact Nat.zero_lt_one;rfl)|apply aM|(apply afN;rfl;rfl;exact⟨by omega,by omega⟩)|apply aaF|apply aaY|apply bZ|apply abJ|apply abu|apply acS|apply cX|(apply acY;rfl)|(apply abz;rfl)|(apply aeP;rfl)|(apply aeM;rfl)|(apply abF;rfl)|(apply afz;rfl)|(apply aef;rfl;rfl)|(apply ada;rfl;rfl)|(apply adE;rfl;rfl)|(apply adU;rfl;rfl)|(apply aga;rfl;rfl;first|omega|(simp only[List.length_append,List.length_cons,List.length_nil];omega)|(simp;omega))|(apply ael;rfl;rfl;omega)|(apply acR;rfl;rfl)|(apply aeN;rfl;rfl)|(apply abD;rfl;rfl;first|(focus (apply_assumption -exfalso -symm;done))|(focus (apply_assumption -exfalso -symm;exact kM rfl rfl rfl))|(focus (apply_assumption -exfalso -symm;rfl)))|(apply aes;rfl;rfl;omega)|(apply adM;rfl;rfl)|(apply abD;rfl;rfl;exact q72 _ _ (Ow rfl))|(apply aeX;rfl;rfl;omega)|(apply acb;rfl;rfl;rfl)|(apply acK;rfl;rfl;rfl)|(apply afu;rfl;exact fun _=>rfl;(first|omega|(simp only[List.length_set];omega)|(simp;omega));decide;rfl;case ia=>infer_instance)|(apply afv;rfl;rfl;omega)|(apply aab;rfl;rfl)|(apply afx;rfl;rfl;rfl)|(apply aaZ;rfl;rfl)|(intro _;omega)|intro _
 all_goals first|omega|exact⟨.inr rfl,rfl,_,rfl,rfl,rfl⟩|exact cD rfl rfl (.same rfl rfl)|exact jz (.inr rfl) rfl rfl rfl rfl|exact next _ _ _ _|exact⟨.inr rfl,rfl,_,rfl,congrArg AV.bool (by simp[isName];omega),rfl⟩|exact next _ _ _ _ _ _ _|exact next _ _ _):P:=h
theorem gg3 {P Q:Prop}(q:Q)(h:GQ Q->P:=by
 intro gq;repeat' first|(apply afR (v:=x);exact congrArg (fun z=>some (AV.ptr 1 z)) eI;rfl;omega;exact f0)|(apply afS (n:=s);rfl;rfl;rfl;omega)|(apply afH;exact congrArg (fun z=>some (AV.ptr 1 z)) eI;rfl;rfl;omega)|(apply afR (v:=x/2^s);exact congrArg (fun z=>some (AV.ptr 1 z)) eI;rfl;(rw[List.length_set];omega);exact f1)|(apply afR (v:=z);exact congrArg (fun z=>some (AV.ptr 1 z)) eJ;rfl;(rw[List.length_set];omega);exact f2)|(apply agk (n:=64-s);rfl;rfl;omega;omega)|(apply agy (64-s);rfl;rfl;exact w1;exact w2;omega;exact w3)|(apply afH;exact congrArg (fun z=>some (AV.ptr 1 z)) eI;rfl;rfl;(rw[List.length_set];omega))|(apply afL;exact congrArg (fun z=>some (AV.ptr hp.length z)) eI;exact bW;omega)|(apply agk (n:=s);rfl;rfl;rfl;omega)|(apply agy s;rfl;rfl;exact⟨gL.1,hlt⟩;exact hm;omega;exact hd)|(apply agz;exact congrArg (fun z=>some (AV.ptr hp.length z)) eI;rfl;omega)|(apply agz;exact congrArg (fun z=>some (AV.ptr hp.length z)) eJ;rfl;(rw[List.length_set];omega))|(apply afS (n:=64-s);rfl;rfl;omega;omega)|apply aap|apply aM|apply aaF|apply aaY|apply acS|apply abJ|apply cX|apply aeb|apply aem|(apply aeZ;rfl)|(apply aeJ;rfl;rfl;(first|(simp only[List.nil_append,List.cons_append];rfl)|rfl))|(apply aeU;rfl;(first|(simp only[List.nil_append,List.cons_append];rfl)|rfl);(first|(simp only[List.nil_append,List.cons_append];rfl)|rfl))|(apply abz;rfl)|(apply abF;rfl)|(apply aeM;rfl)|(apply acY;rfl)|(apply ada;rfl;rfl)|(apply adU;rfl;rfl)|(apply adM;rfl;rfl)|(apply acR;rfl;rfl)|(apply ael;rfl;rfl;omega)|(apply aes;rfl;rfl;omega)|(apply aeX;rfl;rfl;omega)|(apply afv;rfl;rfl;omega)|(apply afu;rfl;exact fun _=>rfl;(first|omega|(simp only[List.length_set];omega)|(simp;omega));decide;rfl;case ia=>infer_instance)|(apply aab;rfl;rfl)|(apply aaZ;rfl;rfl)|(intro _;omega)|intro _|(omega)|exact gq.1):P:=h ⟨q⟩
theorem gg4 {P:Prop}(h:P:=by
 repeat' first|(apply afE;rfl;rfl;all_goals first|(intro h;exact absurd h0 h)|intro _)|(apply agR;rfl)|(apply afD (L:=V) (m:=k) (v:=v0);rfl;omega;omega;exact hv0)|(apply afD (L:=U) (m:=j+k) (v:=t0);rfl;omega;omega;exact ht0)|(apply agA (s:=tw);rfl;rfl;rfl;omega;exact hc)|(apply afC;rfl;rfl;omega;exact hd)|(apply aeK;rfl;rfl;intro _;rotate_left;(intro h;exact absurd rfl h))|apply aap|apply aM|apply aaF|apply aaY|apply abu|(apply aeM;rfl)|apply afA|apply iy|apply bZ|(apply abz;rfl)|(apply afz;rfl)|(apply acY;rfl)|apply fy|apply jS|(apply afB;rfl)|apply nc|(apply abF;rfl)|(apply aeP;rfl)|(apply adU;rfl;rfl)|(apply aeN;rfl;rfl)|(apply adM;rfl;rfl)|(apply ada;rfl;rfl)|(apply ael;rfl;rfl;omega)|(apply aes;rfl;rfl;omega)|(apply afF;rfl;rfl;omega)|(apply aeX;rfl;rfl;omega)|(apply abD;rfl;rfl;first|exact q250)|(apply afT;rfl;omega)|(apply agb;rfl;omega)|(apply acR;rfl;rfl)|(apply aeq;rfl;rfl;first|exact q)|(apply aeq;rfl;rfl;first|exact q0)|(apply aeq;rfl;rfl;first|exact q1)|(apply aab;rfl;rfl)|(apply aaZ;rfl;rfl)|(intro _;omega)|intro _
 all_goals first|omega|exact⟨.inr rfl,rfl,_,rfl,rfl,rfl⟩|exact hQ _ _ _ _ ⟨q0.1,by omega⟩ I.ge fin|exact⟨.inr rfl,rfl,⟨[],by simp⟩,by simp,_,rfl,rfl⟩|exact hQ L c _ _ _ hl bC hc hz hv|exact hQ L bo _ _ _ _ hL oL hbo hv|exact hQ L ca _ _ _ hL oL hca hv|exact hQ _ _ _ hB hK|exact h2 (by rw[hd,Int.sub_self];rfl) _ _|exact hQ L re _ _ hL oL hre (by rw[hv];simp[WV])|exact hQ U L _ _ hU oU hL oL hv1 hv2|exact hQ _ _ _ _ _ _ _ _ _ _ _ hm h8 hL hw|exact hQ L re _ _ _ hL oL hre (by rw[hv];simp[WV])|exact hQ U L K _ _ _ _ _ _ _ _ _ _ _ hU oU hL oL hv1 hv2 hKu hKq hKf|exact h1 (by simp[ik]) _ _|exact h2 (by omega) _ _|exact h2 he _ _ _|exact hQ _ _|exact⟨.inr rfl,rfl,_,rfl,by rw[hd,Int.sub_self];rfl,rfl⟩|exact⟨.inr rfl,rfl,_,rfl,[],⟨ij,jy,rfl⟩,fU.zero rfl⟩|exact⟨.inr rfl,rfl,_,rfl,[],⟨ij,jy,hv⟩,_,.nil,rfl,rfl⟩|exact⟨.inr rfl,rfl,_,rfl,_,⟨g1,g2,by rw[g3,hv]⟩,hout⟩|exact⟨.inr rfl,rfl,_,rfl,[],⟨ij,jy,hv⟩,fU.Fk (S:=[]) (.inr ⟨k,cap,by simp,rfl,hk,hcap⟩)⟩):P:=h
theorem gg5 {P:Prop}(h:P:=by
 repeat' first|(exact tl _ _ _ _ _)|(apply afh (r:=t);rfl;rfl;omega;exact e')|(apply afh (s:=u) (r:=bot);rfl;rfl;omega;exact e2')|(apply agl (v:=D);rfl;rfl;omega;omega;exact hD.symm)|(apply afh (s:=s) (r:=u);rfl;rfl;omega;exact hc1)|(apply ade;rfl;rfl;rfl;exact⟨rfl,Nat.le_refl _,jT o0⟩;rfl)|(apply afC (s:=u) (r:=top);rfl;rfl;omega;exact etk)|(apply agS (v:=R);rfl;rfl;omega;omega;exact hR.symm)|apply aap|(apply aeK;rfl;rfl;all_goals first|(intro h;exact absurd h h48)|(intro h;exact absurd h49 h)|intro _)|(apply afO;rfl;rfl;rfl)|(refine cz.app (f:=iC) (m:=[R]) (S:=[]) (fun _=>rfl) (fun _=>rfl) (by decide) (ho.grow [_]) (by simp) rfl rfl (Sl.iJ (f:=iC) (esz:=1) (l:=[R]) (e:=3) (fun _=>rfl) bW rfl) hroom (fun H w' o' ho' hk hlen=>?_))|apply aM|apply aaF|apply aaY|apply bZ|apply abJ|apply abu|apply acS|apply cX|(apply acY;rfl)|(apply abz;rfl)|(apply aeP;rfl)|(apply aeM;rfl)|(apply abF;rfl)|(apply afz;rfl)|(apply afU;rfl)|(apply aef;rfl;rfl)|(apply ada;rfl;rfl)|(apply adE;rfl;rfl)|(apply adU;rfl;rfl)|(apply ael;rfl;rfl;omega)|(apply acR;rfl;rfl)|(apply abD;rfl;rfl;exact q206 _ _ _ _ rfl)|(apply abD;rfl;rfl;first|(focus (apply_assumption -exfalso -symm;done))|(focus (apply_assumption -exfalso -symm;exact kM rfl rfl rfl))|(focus (apply_assumption -exfalso -symm;rfl)))|(apply adM;rfl;rfl)|(apply afw;rfl;(first|exact bW|assumption|exact bT bW|exact bT (bT bW)|exact bT (bT (bT bW))|exact dg (by simp)|((repeat apply bT);assumption));rfl)|(apply acb;rfl;rfl;rfl)|(apply afb;rfl;rfl;omega)|(apply acK;rfl;rfl;rfl)|(apply aab;rfl;rfl)|(apply aaZ;rfl;rfl)|(intro _;omega)|intro _
 all_goals first|omega|exact⟨.inr rfl,rfl,_,rfl,rfl,rfl⟩|exact cD rfl rfl (.same rfl rfl)|exact cD rfl rfl (out _)|exact main false _ _ (fun e st h=>by rw[e1];exact h)|exact⟨.inr rfl,rfl,_,rfl,by simp[aV, *];try omega,by simp[AV.top]⟩|exact fT (ih (i+1) _ _ _ (by omega) (by omega) h1 h2)|exact fT (ih (i+1) _ _ _ (by omega) he h1 h2)|exact jz (.inr rfl) rfl rfl rfl rfl|exact da ⟨n+1-(i+1),by omega,i+1,acc++[R],o',D,_,_,_,_,rfl,rfl,by omega,hD0,by omega,jg oA (fun z hz=>by rw[List.mem_singleton.1 hz];exact⟨by omega,by show _<(1000000000:Int);omega⟩),by simp[lA],ho',hval⟩):P:=h
theorem gg6 {P Q:Prop}(q:Q)(h:GQ Q->P:=by
 intro gq;repeat' first|(apply agm (L:=nd) (n:=fB u);rfl;exact hz;rfl;rfl;omega)|(apply agm (L:=L') (n:=fB u);rfl;exact hl;rfl;rfl;omega)|(apply agn (L:=L');rfl;omega)|(apply agT;rfl)|(apply agU (v:=(u:Int));rfl;omega)|(apply ago (L:=nd) (n:=fB u);rfl;exact hz24;rfl;rfl;omega)|(apply afV (L:=L') (c:=45);rfl;rfl;omega)|(apply agm (L:=L'.set (0+0*1) 45) (n:=1+fB u);rfl;(rw[List.length_set];exact hl);rfl;omega;omega)|(apply agn (L:=L'.set (0+0*1) 45);rfl;(rw[List.length_set];omega))|(apply afH;exact congrArg (fun z=>some (AV.ptr 0 z)) eI;rfl;rfl;omega)|apply aap|apply aM|apply aaF|apply aaY|apply acS|apply abu|apply abJ|apply cX|apply bZ|(apply abz;rfl)|(apply abF;rfl)|(apply aeM;rfl)|(apply ada;rfl;rfl)|(apply aef;rfl;rfl)|(apply adU;rfl;rfl)|(apply afy;rfl;rfl)|(apply adE;rfl;rfl)|(apply adM;rfl;rfl)|(apply ael;rfl;rfl;omega)|(apply aes;rfl;rfl;omega)|(apply abD;rfl;rfl;first|(focus (apply_assumption -exfalso -symm;done))|(focus (apply_assumption -exfalso -symm;exact kM rfl rfl rfl))|(focus (apply_assumption -exfalso -symm;rfl)))|(apply aeq;rfl;rfl;first|exact q306)|(apply aeq;rfl;rfl;first|exact q280b|exact q276b|exact q280a)|(apply afw;rfl;(first|exact bW|assumption|exact bT bW|exact bT (bT bW)|exact bT (bT (bT bW))|exact dg (by simp)|((repeat apply bT);assumption));rfl)|(apply aeX;rfl;rfl;omega)|(apply agB;rfl;rfl;omega)|(apply acb;rfl;rfl;rfl)|(apply afv;rfl;rfl;omega)|(apply afu;rfl;exact fun _=>rfl;(first|omega|(simp only[List.length_set];omega)|(simp;omega));decide;rfl;case ia=>infer_instance)|(apply acK;rfl;rfl;rfl)|(apply aab;rfl;rfl)|(apply aaZ;rfl;rfl)|(intro _;omega)|intro _|(omega)|exact gq.1):P:=h ⟨q⟩
theorem gg7 {P:Prop}(h:P:=by
 repeat' first|(apply aeK;rfl;rfl;all_goals first|(intro h;exact absurd rfl h)|intro _)|(exact Fm C ⟨hp,by omega⟩ hs.1 _ _ _ _)|(refine fin 0 _ _ (by omega) (by rw[←he];rfl))|(exact tl _ _ _ _ _ _ _ _ _ _ _ _ _)|(apply ade;rfl;rfl;rfl;exact⟨rfl,Nat.le_refl _,by first|exact jT o1|exact jT o2⟩;rfl)|(apply afO;rfl;rfl;rfl)|(apply agC (v:=d);rfl;rfl;omega;exact hmod)|(apply agp (v:=bO neg q);rfl;rfl;exact hrange;omega;exact hdiv)|(refine cz.app (f:=iC) (m:=[0-d]) (S:=[0]) (fun _=>rfl) (fun _=>rfl) (by decide) (ho.grow [_]) (by simp) rfl rfl (Sl.iJ (f:=iC) (esz:=1) (l:=[0-d]) (e:=3) (fun _=>rfl) bW rfl) hroom (fun H w' o' ho' hk hlen=>?_))|apply aap|apply aM|apply aaF|apply aaY|apply acS|apply abu|apply afA|apply iy|apply jS|apply fy|apply nc|apply bZ|apply fx|apply abJ|(apply abF;rfl)|(apply acY;rfl)|(apply aeM;rfl)|(apply afB;rfl)|apply cX|(apply abz;rfl)|(apply aeP;rfl)|(apply ada;rfl;rfl)|(apply adU;rfl;rfl)|(apply adE;rfl;rfl)|(apply aef;rfl;rfl)|(apply acR;rfl;rfl)|(apply adM;rfl;rfl)|(apply abD;rfl;rfl;first|(focus (apply_assumption -exfalso -symm;done))|(focus (apply_assumption -exfalso -symm;exact kM rfl rfl rfl))|(focus (apply_assumption -exfalso -symm;rfl)))|(apply aes;rfl;rfl;omega)|(apply acb;rfl;rfl;rfl)|(apply acK;rfl;rfl;rfl)|(apply aab;rfl;rfl)|(apply aaZ;rfl;rfl)|(intro _;omega)|intro _
 all_goals first|omega|exact⟨.inr rfl,rfl,_,rfl,rfl,rfl⟩|exact hQ _|exact⟨.inr rfl,rfl,⟨[],by simp⟩,by simp,_,rfl,rfl⟩|exact⟨.inr rfl,rfl,_,rfl,.same (by simp[aV,AV.top,bk,fV]) (by simp[aV,bK,cJ,lS])⟩|exact hQ L c a5 a6 _ _ hl bC hc (hz _ (Nat.le_refl _)) hv|exact hQ L c a5 a6 _ _ hl bC hc hv|exact hQ L c a7 a8 a9 aA aB _ _ hl bC hc hz hv|exact hQ L bo ca _ _ _ _ _ _ hL oL ht hbo hca hw hv|exact hQ L ca _ _ _ hL oL ht hca hw hv|exact hQ D _ _ _ hD oD hv|exact⟨.inr rfl,rfl,rfl,rfl,_,rfl,rfl⟩|exact cD rfl rfl (.same rfl rfl)|exact hQ _ _ _ _ _ _ _ _ x hx e|exact fin _ e _ _ _ _ _ _ ho' (hk 0 _ (by simp) (bT hK))):P:=h
theorem gg8 {P:Prop}(h:P:=by
 repeat' first|(exact OB C.tomE hl hne hb lk hX oX hV oV q g1 g2 g3 _ _ _ _ _ _ _ _ _ _ _ _ _ _ _ _ _ _)|(apply OC hn hlt)|(apply agD;rfl;omega)|(apply agV;rfl;rfl;omega)|(apply afO;rfl;exact hb;exact OE)|(apply agW;rfl;omega)|(apply afI (i:=k+2);rfl;exact hl;omega;omega)|(apply afP (i:=k+2);rfl;rfl;exact hl;omega;omega)|(apply afK (a:=q);rfl;rfl;omega)|(apply agq;rfl;rfl)|(apply ade;rfl;rfl;exact hK;exact⟨rfl,Nat.le_refl _,rfl⟩;rfl)|(apply ade;rfl;rfl;exact hK;exact⟨rfl,Nat.le_refl _,by rw[List.all_cons,List.all_cons,List.all_nil,hone];rfl⟩;rfl)|(apply agc;rfl;rfl;exact hl;exact hy.1)|(apply agE;rfl;rfl;exact hl.1;exact hy.1)|(apply afW;rfl;exact hb;rfl)|(apply agX;rfl;rfl;exact hb)|apply aap|apply aM|apply aaF|apply aaY|apply abu|apply afA|apply iy|apply fy|(apply aeq;rfl;rfl;first|exact q266)|apply nc|(apply afv;rfl;rfl;omega)|apply jS|apply abJ|apply bZ|(apply afB;rfl)|(apply abz;rfl)|(apply abF;rfl)|(apply aef;rfl;rfl)|(apply aeq;rfl;rfl;first|exact q _)|(apply aeq;rfl;rfl;first|exact q196)|(apply afy;rfl;rfl)|(apply adE;rfl;rfl)|(apply aeq;rfl;rfl;first|exact hc)|(apply aab;rfl;rfl)|(apply aaZ;rfl;rfl)|(intro _;omega)|intro _
 all_goals first|omega|exact⟨.inr rfl,rfl,_,rfl,rfl,rfl⟩|exact⟨.inr rfl,rfl,rfl,rfl,_,rfl,rfl⟩|exact⟨.inr rfl,rfl,⟨[],by simp⟩,by simp,_,rfl,rfl⟩|exact⟨i,h8,hi,rfl,by rw[hVe],hL,hw⟩|exact h1 (by simp[iA]) _ _ _ _ _ _ _|exact⟨.inr rfl,rfl,_,rfl,q-1,_,fin,rfl,hw3,rfl⟩|exact⟨.inr rfl,rfl,_,rfl,rfl,by simp[AV.top,bk]⟩|exact⟨.inr rfl,rfl,_,tv rfl (dg hK1),v0,k0,out _⟩|exact⟨.inr rfl,rfl,_,tv rfl (dg hK1),v0,k0,o0⟩|exact⟨.inr rfl,rfl,_,rfl,by rw[Int.zero_mul,Int.zero_add];rfl,rfl⟩|exact⟨.inl rfl,rfl,rfl,rfl,[],rfl,rfl⟩):P:=h
theorem gg9 {P:Prop}(h:P:=by
 repeat' first|(refine cz.app (f:=iC) (m:=[(0:Int)]) (S:=[0]) (fun _=>rfl) (fun _=>rfl) (by decide) (ho.grow [_]) (by simp) rfl rfl (Sl.iJ (f:=iC) (esz:=1) (l:=[(0:Int)]) (e:=3) (fun _=>rfl) bW rfl) hroom (fun H w' o' ho' hk hlen=>?_))|(exact tl _ _ _ _)|(refine cz.app (f:=jh) (m:=[zs++[48]]) (S:=[1]) (fun _=>rfl) (fun _=>rfl) (by decide) (ho.grow [_]) (by simp;omega) rfl rfl (Sl.iJ (f:=jh) (esz:=1) (l:=[zs++[48]]) (e:=9) (fun _=>rfl) bW rfl) hroom (fun H w' o' ho' hk hlen=>?_))|(refine cz.app (f:=jh) (m:=[zs++aR R]) (S:=[1]) (fun _=>rfl) (fun _=>rfl) (by decide) (ho.grow [_]) (by simp;omega) rfl rfl (Sl.iJ (f:=jh) (esz:=1) (l:=[zs++aR R]) (e:=9) (fun _=>rfl) bW rfl) hroom (fun H w' o' ho' hk hlen=>?_))|(apply agY (r:=[dE (q%10)]);rfl;rfl;rfl;(simp only[List.length_cons,List.length_nil];omega);exact ec')|(apply afX;rfl;rfl;omega;omega)|(apply agd;rfl;rfl;omega;omega)|apply aap|apply aM|apply aaF|apply aaY|apply acS|apply abu|apply afA|apply abJ|apply cX|apply bZ|apply iy|apply fy|apply jS|apply fx|apply kL|(apply abz;rfl)|(apply abF;rfl)|(apply aeN;rfl;rfl)|(apply aeP;rfl)|(apply afz;rfl)|(apply ada;rfl;rfl)|(apply adU;rfl;rfl)|(apply acR;rfl;rfl)|(apply adM;rfl;rfl)|(apply ael;rfl;rfl;omega)|(apply aes;rfl;rfl;omega)|(apply aga;rfl;rfl;first|omega|(simp only[List.length_append,List.length_cons,List.length_nil];omega)|(simp;omega))|(apply abD;rfl;rfl;first|exact q253|exact q264 _)|(apply abD;rfl;rfl;first|exact q253|exact q263 _|exact q264 _)|(apply aeX;rfl;rfl;omega)|(apply afu;rfl;exact fun _=>rfl;(first|omega|(simp only[List.length_set];omega)|(simp;omega));decide;rfl;case ia=>infer_instance)|(apply acb;rfl;rfl;rfl)|(apply afb;rfl;rfl;omega)|(apply aab;rfl;rfl)|(apply aaZ;rfl;rfl)|(intro _;omega)|intro _
 all_goals first|omega|exact⟨.inr rfl,rfl,_,rfl,rfl,rfl⟩|exact⟨.inr rfl,rfl,_,rfl,by rw[List.drop_zero]at h;rw[h];rfl,rfl⟩|exact fin _ _ _ _ _ _ _ ho' (hk _ _ (by simp) (bT hK))|exact⟨.inr rfl,rfl,_,rfl,congrArg AV.bool (by simp[isName,h];omega),rfl⟩|exact hQ _ _ _ _ _ _ _ ho|exact hQ _ _ _ _ _ _ hv|exact hQ _ _ _ _ _ _ h9 hDt oA (by omega) hv ho hK|exact⟨.inr rfl,rfl,_,rfl,A,oA,nA,hv,fin⟩|exact⟨.inr rfl,rfl,_,rfl,xA,A,hxA,oA,nA,hv,lA,fin⟩|exact next _ _ _ _ ho' (hk 0 _ (by simp) (bT hK)) (by omega)|exact⟨.inr rfl,rfl,_,rfl,acc,⟨oA,hv,by omega⟩,fU.Fk ho⟩|exact h1 he _ _ _|exact fin _ _):P:=h
theorem gg10 {P Q:Prop}(q:Q)(h:GQ Q->P:=by
 intro gq;repeat' first|(rw[hg])|(apply afC (r:=t);rfl;rfl;omega;(rw[show (((t++[c]).length:Int)-1).toNat=t.length by omega];simp))|(apply afh (r:=s);rfl;rfl;omega;rfl)|(apply afL;exact congrArg (fun z=>some (AV.ptr b z)) ei;exact hb;omega)|(apply afG;rfl;rfl;omega)|(apply afK;rfl;rfl;omega)|(apply afN;rfl;rfl;omega)|(apply afG (a:=4294967296);rfl;rfl;omega)|(apply afG (a:=q) (b:=y0);rfl;rfl;rw[←hP];exact hm)|apply aap|apply aM|apply aaF|apply aaY|apply abu|apply acS|apply afA|apply abJ|apply fy|apply cX|apply iy|(apply yS;rfl)|apply nc|(apply abz;rfl)|(apply abF;rfl)|(apply acY;rfl)|(apply aeP;rfl)|(apply aeM;rfl)|(apply afU;rfl)|(apply ada;rfl;rfl)|(apply adU;rfl;rfl)|(apply adE;rfl;rfl)|(apply afz;rfl)|(apply aeN;rfl;rfl)|(apply acR;rfl;rfl)|(apply aes;rfl;rfl;omega)|(apply aeq;rfl;rfl;first|exact hc)|(apply adM;rfl;rfl)|(apply afb;rfl;rfl;omega)|(apply acK;rfl;rfl;rfl)|(apply afv;rfl;rfl;omega)|(apply aab;rfl;rfl)|(apply aaZ;rfl;rfl)|(intro _;omega)|intro _|(omega)|exact gq.1):P:=h ⟨q⟩
theorem gg11 {P:Prop}(h:P:=by
 repeat' first|(exact ji C hN _ _ top bot ll (fun h=>by cases h) _ _ _ _ _ _ _ _)|(apply aaZ (op:=.index _ _) (v:=.int .u8 48);rfl;rfl)|(apply afC (s:=nf);rfl;rfl;omega;exact hd)|(apply afT (a:=1);rfl;omega)|(apply afI (i:=k);rfl;exact hl;omega;omega)|(apply afQ (i:=k);rfl;exact hb;exact hne;omega;omega)|(apply afQ (i:=k+1);rfl;exact hb;exact hne;omega;omega)|(apply afK;rfl;rfl;omega)|apply aap|apply aM|apply aaF|apply aaY|apply acS|apply afA|apply abu|apply abJ|apply iy|apply bZ|apply cX|apply fx|(apply yS;rfl)|apply jS|(apply abz;rfl)|(apply abF;rfl)|(apply acY;rfl)|(apply aeP;rfl)|(apply aeM;rfl)|(apply afz;rfl)|(apply afU;rfl)|(apply ada;rfl;rfl)|(apply afy;rfl;rfl)|(apply adU;rfl;rfl)|(apply adE;rfl;rfl)|(apply afT;rfl;omega)|(apply afJ;rfl;omega)|(apply acR;rfl;rfl)|(apply adM;rfl;rfl)|(apply aes;rfl;rfl;omega)|(apply abD;rfl;rfl;first|(focus (apply_assumption -exfalso -symm;done))|(focus (apply_assumption -exfalso -symm;exact kM rfl rfl rfl))|(focus (apply_assumption -exfalso -symm;rfl)))|(apply afv;rfl;rfl;omega)|(apply aab;rfl;rfl)|(apply aaZ;rfl;rfl)|(intro _;omega)|intro _
 all_goals first|omega|exact⟨.inr rfl,rfl,_,rfl,rfl,rfl⟩|exact hQ _ _ _ _ _ _ q0 I.ge hfin|exact jz (.inr rfl) rfl rfl rfl rfl|exact⟨.inr rfl,rfl,_,rfl,congrArg (fun z=>AV.int .i64 z) (by omega),rfl⟩|exact da ⟨(q-1).toNat,by omega,q-1,_,_,_,_,_,rfl,rfl,by rw[e1];exact I2,by omega,by omega⟩):P:=h
theorem gg12 {P:Prop}(h:P:=by
 repeat' first|(rw[hg])|(apply afL;exact congrArg (fun z=>some (AV.ptr b z)) ei;exact hb;omega)|(refine fin (r+1) _ _ (by omega) (by rw[←he,e]))|(apply agr;exact congrArg (fun z=>some (AV.ptr b z)) ei;exact hb;omega)|(apply ags (k:=.i64) (r:=r);rfl;exact congrArg (fun z=>some (AV.int .i64 z)) er;omega;(intro c hc';have:=hc c hc';omega))|(apply agF;rfl;exact hkl;omega)|(apply agG;rfl;rfl;exact hkl;omega)|(apply age;exact congrArg (fun z=>some (AV.ptr bq z)) eP;rfl;exact hq2;omega)|(apply agZ i (k+3);rfl;rfl;rfl;rfl;omega;omega;omega)|(apply aeq;rfl;rfl;first|exact hct)|(apply afH;exact congrArg (fun z=>some (AV.ptr 2 z)) eI;rfl;rfl;omega)|apply aap|apply aM|apply aaF|apply aaY|apply acS|apply afA|apply abJ|apply iy|(apply yS;rfl)|apply cX|apply fy|apply nc|(apply abF;rfl)|(apply abz;rfl)|(apply acY;rfl)|(apply adU;rfl;rfl)|(apply adE;rfl;rfl)|(apply acR;rfl;rfl)|(apply ada;rfl;rfl)|(apply afJ;rfl;omega)|(apply aeN;rfl;rfl)|(apply ael;rfl;rfl;omega)|(apply aes;rfl;rfl;omega)|(apply aeq;rfl;rfl;first|exact hc)|(apply afF;rfl;rfl;omega)|(apply afb;rfl;rfl;omega)|(apply aeq;rfl;rfl;first|exact q265)|(apply afv;rfl;rfl;omega)|(apply aha;rfl;(first|rfl|assumption|exact bW|(apply bT;assumption)|(apply dg;first|assumption|(simp only[fj];assumption)));exact fun _=>rfl;(first|omega|(simp only[List.length_set];omega)|(simp;omega));decide;rfl;case ia=>infer_instance)|(apply aab;rfl;rfl)|(apply aaZ;rfl;rfl)|(intro _;omega)|intro _
 all_goals first|omega|exact hQ _|exact hQ _ _ _ _ _ _ _ _ ho|exact hQ _ _ _ _ _ _ _ _ ho'|exact fT (ih _ _ (by omega) (e.symm.trans he) hQ)|exact fT (ih' _ _ _ (by omega) hQ)|exact fin (q-1) _ L2 _ _ _ _ _ _ _ _ _ _ _ _ ⟨by omega,by omega⟩ hL2 oL2 hz0 vL2 hlt rfl|exact fin q _ L1 _ _ _ _ _ _ _ _ _ _ _ _ q0 hL1 oL1 hz0 vL1 hlt rfl|exact next _ _|exact fT (ih H _ _ (by omega) hc' hB' (by omega))):P:=h
theorem gg13 {P:Prop}(h:P:=by
 repeat' first|(apply agA (s:=iK);rfl;rfl;rfl;omega;exact hc)|(apply afD (L:=V) (m:=i) (v:=y);rfl;omega;omega;exact hy.symm)|(apply agH (i:=i);rfl;exact hl;omega;omega)|(apply agI (i:=i);rfl;rfl;exact hl;omega;omega)|(apply agt (v:=w);exact congrArg (fun z=>some (AV.ptr 0 z)) eI;rfl;omega;exact hw.symm)|(apply age;exact congrArg (fun z=>some (AV.ptr 0 z)) eI;rfl;rfl;omega)|(apply afX;rfl;rfl;omega;omega)|(apply agd;rfl;rfl;omega;omega)|(apply ahb (f:=iC) (l:=L);rfl;rfl;(intro _;rfl);omega)|apply aap|apply aM|apply aaF|apply aaY|apply afA|apply iy|apply nc|apply acS|apply abu|apply abJ|apply cX|apply bZ|apply fx|apply kL|(apply afB;rfl)|(apply abz;rfl)|(apply abF;rfl)|(apply ada;rfl;rfl)|(apply acY;rfl)|(apply adU;rfl;rfl)|(apply aeN;rfl;rfl)|(apply ael;rfl;rfl;omega)|(apply adE;rfl;rfl)|(apply acR;rfl;rfl)|(apply aes;rfl;rfl;omega)|(apply afF;rfl;rfl;omega)|(apply ahc;rfl;rfl;omega;intro _ _)|(apply ahd;rfl;rfl;omega;omega;intro _ _)|(apply aeX;rfl;rfl;omega)|(apply afv;rfl;rfl;omega)|(apply afu;rfl;exact fun _=>rfl;(first|omega|(simp only[List.length_set];omega)|(simp;omega));decide;rfl;case ia=>infer_instance)|(apply aab;rfl;rfl)|(apply aaZ;rfl;rfl)|(intro _;omega)|intro _
 all_goals first|omega|exact⟨.inr rfl,rfl,_,rfl,rfl,rfl⟩|exact next _ _ _ _ _ (by omega) (by omega) (by omega)|exact next _ _ _|exact h1 (by simp[ik]) _ _ _|exact hQ _ _|exact da ⟨A%B,by omega,B,A%B,_,_,rfl,rfl,by omega,by omega,hn⟩|exact h1 _ _ _ (by rw[bD,if_pos (by omega)]) _|exact h1 _ _ _ (by rw[bD,if_neg (by omega),if_pos (by omega)]) _|exact fT (ih _ _ _ (by omega) hd2 h1 h2)|exact fT (next _)|exact hQ _):P:=h
theorem gg14 {P Q:Prop}(q:Q)(h:GQ Q->P:=by
 intro gq;repeat' first|(apply ade;rfl;rfl;exact h0';exact⟨rfl,Nat.le_refl _,by rw[List.all_cons,List.all_cons,List.all_nil,hone];rfl⟩;rfl)|(apply ade;rfl;rfl;rfl;exact⟨rfl,Nat.le_refl _,by simp[overwrite,dG,o5]⟩;rfl)|(apply agc;rfl;rfl;omega;omega)|(apply afG (a:=R1/(Y/4294967296)) (b:=Y/4294967296);rfl;rfl;omega)|(apply afK;rfl;rfl;omega)|(apply afW;rfl;exact hb;rfl)|(apply ahe;rfl;exact hb;decide)|(apply ahf;rfl;exact hb;decide)|(apply ade (c':=[.ptr b 0,.ae]);rfl;rfl;exact hb;exact⟨rfl,by decide,rfl⟩;rfl)|(apply agJ (r:=k+2) (k:=.i64);rfl;rfl;omega;omega;(intro c hc;cases hc;exact Nat.le_refl _))|(apply agK;rfl;rfl;rfl;first|exact q1|exact q2)|(apply ahg;rfl;rfl;exact hsc;exact⟨(kP s).trans (Nat.mul_one _).symm,by decide,Fx s⟩;exact⟨h0,by simp only[dD];omega⟩;exact hcb;exact((kP acc).trans (Nat.mul_one _).symm).trans (Nat.zero_add _).symm)|(apply ade (c':=[.ptr b 0,.sl hp.length 0 (acc.length+s.length) 1 none]);rfl;rfl;exact hb2;exact⟨rfl,Nat.le_refl _,rfl⟩;rfl)|(apply ahh;rfl;exact h0)|(apply ahi;rfl;rfl;exact hcb;omega;exact hcut;exact yW acc;intro _)|apply aap|apply aM|apply aaF|apply aaY|apply abu|(apply aeq;rfl;rfl;first|exact q196)|apply acS|apply fy|(apply acb;rfl;rfl;rfl)|(apply abz;rfl)|(apply aes;rfl;rfl;omega)|(apply aeq;rfl;rfl;first|exact q265)|(apply acK;rfl;rfl;rfl)|(apply agB;rfl;rfl;omega)|(apply abD;rfl;rfl;first|exact q)|apply aeb|apply aem|(apply aeZ;rfl)|(apply aeq;rfl;rfl;first|exact q)|(apply aeJ;rfl;rfl;(first|(simp only[List.nil_append,List.cons_append];rfl)|rfl))|(apply aeq;rfl;rfl;first|exact q0)|(apply aeq;rfl;rfl;first|exact q1)|(apply aab;rfl;rfl)|(apply aaZ;rfl;rfl)|(omega)|exact gq.1):P:=h ⟨q⟩
theorem gg15 {P Q:Prop}(q:Q)(h:GQ Q->P:=by
 intro gq;repeat' first|(apply afW;rfl;exact hb1;rfl)|(apply agt (v:=0);exact congrArg (fun z=>some (AV.ptr 0 z)) eI;rfl;omega;exact h4')|(apply afI (i:=k+2);rfl;exact hl;omega;omega)|(apply afH;exact congrArg (fun z=>some (AV.ptr 0 z)) eI;rfl;rfl;omega)|apply aap|(apply age;exact congrArg (fun z=>some (AV.ptr 0 z)) eI;rfl;rfl;omega)|(apply agL (L:=s) (a:=y);rfl;rfl;omega;exact⟨by omega,hY2⟩)|(apply afP (i:=k+2);rfl;rfl;exact hl;omega;omega)|(apply ahj;rfl;rfl;exact hsc;exact⟨(kP s).trans (Nat.mul_one _).symm,by decide,Fx s⟩;exact⟨h0,by simp only[dD];omega⟩)|(apply ahk;rfl;rfl;omega)|(apply agL (L:=s) (a:=hi);rfl;rfl;omega;exact⟨hhs.1,by omega⟩)|(apply agf (n:=32) (c:=4294967296);rfl;rfl;rfl;decide;rfl)|apply aM|(apply afG;rfl;rfl;exact⟨by omega,by omega⟩)|(apply afN;rfl;rfl;exact⟨by omega,by omega⟩)|(apply ade (c':=[.ptr b 0,.sl (hp.put b (some (.cells [.ptr b 0,.ae] 269))).length 0 s.length 1 none]);rfl;rfl;exact hb2;exact⟨rfl,Nat.le_refl _,rfl⟩;rfl)|apply aaF|(apply afK (a:=64);rfl;rfl;omega)|(apply afS (n:=64-s) (a:=lo);rfl;rfl;omega;omega)|apply aaY|(apply agM s;rfl;rfl;omega;exact hlo;omega;exact hdv)|apply afA|(apply agu;rfl;rfl)|apply abJ|apply abu|(apply agk (n:=s) (a:=lo);rfl;rfl;rfl;omega)|apply acS|apply cX|apply iy|(apply afT;rfl;omega)|apply jS|(apply abF;rfl)|apply fy|(apply ada;rfl;rfl)|(apply adE;rfl;rfl)|(apply afy;rfl;rfl)|(apply ael;rfl;rfl;omega)|(apply abD;rfl;rfl;first|(focus (apply_assumption -exfalso -symm;done))|(focus (apply_assumption -exfalso -symm;exact kM rfl rfl rfl))|(focus (apply_assumption -exfalso -symm;rfl)))|(apply aeq;rfl;rfl;first|exact q)|(apply afv;rfl;rfl;omega)|(apply aab;rfl;rfl)|(apply aaZ;rfl;rfl)|(intro _;omega)|intro _|(omega)|exact gq.1):P:=h ⟨q⟩
theorem gg16 {P:Prop}(h:P:=by
 repeat' first|(exact tl _ _ _ _ _ _ _ _ _ _)|(apply afI (i:=i);rfl;exact hl;omega;omega)|(apply afQ (i:=i);rfl;exact hb;exact hne;omega;omega)|(apply afP (i:=i);rfl;rfl;exact hl;omega;omega)|(exact Fg C hN hx1 hy1 ol1 om1 nl1 nm1 ll1 lm1 hm1 _ _ _ _ _ _ _ _)|(apply aeS;rfl;rfl;(first|(simp only[List.nil_append,List.cons_append];rfl)|rfl);first|(focus (apply_assumption -exfalso -symm;done))|(focus (apply_assumption -exfalso -symm;exact kM rfl rfl rfl))|(focus (apply_assumption -exfalso -symm;rfl)))|(apply afH;exact congrArg (fun z=>some (AV.ptr 0 z)) eI;rfl;rfl;omega)|(refine cz.app (f:=iC) (m:=[a[((i:Int)).toNat]! - y-c+1000000000]) (S:=[]) (fun _=>rfl) (fun _=>rfl) (by decide) (ho.grow [_]) (by simp) rfl rfl (Sl.iJ (f:=iC) (esz:=1) (l:=[a[((i:Int)).toNat]! - y-c+1000000000]) (e:=3) (fun _=>rfl) bW rfl) hroom (fun H w' o' ho' hk hlen=>?_))|(refine cz.app (f:=iC) (m:=[a[((i:Int)).toNat]! - y-c]) (S:=[]) (fun _=>rfl) (fun _=>rfl) (by decide) (ho.grow [_]) (by simp) rfl rfl (Sl.iJ (f:=iC) (esz:=1) (l:=[a[((i:Int)).toNat]! - y-c]) (e:=3) (fun _=>rfl) bW rfl) hroom (fun H w' o' ho' hk hlen=>?_))|(apply ade;rfl;rfl;rfl;exact⟨rfl,Nat.le_refl _,by first|exact jT o1|exact jT o2⟩;rfl)|apply aap|apply aM|apply aaF|apply aaY|apply acS|apply abJ|apply cX|apply aeb|apply aem|(apply aeZ;rfl)|(apply aeJ;rfl;rfl;(first|(simp only[List.nil_append,List.cons_append];rfl)|rfl))|(apply aeU;rfl;(first|(simp only[List.nil_append,List.cons_append];rfl)|rfl);(first|(simp only[List.nil_append,List.cons_append];rfl)|rfl))|(apply abz;rfl)|(apply abF;rfl)|(apply ada;rfl;rfl)|(apply acY;rfl)|(apply aeM;rfl)|(apply ael;rfl;rfl;omega)|(apply aeN;rfl;rfl)|(apply aes;rfl;rfl;omega)|(apply aeX;rfl;rfl;omega)|(apply afv;rfl;rfl;omega)|(apply afu;rfl;exact fun _=>rfl;(first|omega|(simp only[List.length_set];omega)|(simp;omega));decide;rfl;case ia=>infer_instance)|(apply acb;rfl;rfl;rfl)|(apply afy;rfl;rfl)|(apply adE;rfl;rfl)|(apply acR;rfl;rfl)|(apply adM;rfl;rfl)|(apply afw;rfl;(first|exact bW|assumption|exact bT bW|exact bT (bT bW)|exact bT (bT (bT bW))|exact dg (by simp)|((repeat apply bT);assumption));rfl)|(apply acK;rfl;rfl;rfl)|(apply aab;rfl;rfl)|(apply aaZ;rfl;rfl)|(intro _;omega)|intro _
 all_goals first|omega|exact hQ _ _|exact next _ _|exact next _ 1 _ _ _ _ _ ho' (by decide) (by omega) (by omega)|exact next _ 0 _ _ _ _ _ ho' (by decide) (by omega) (by omega)):P:=h
theorem gg17 {P Q:Prop}(q:Q)(h:GQ Q->P:=by
 intro gq;repeat' first|(apply afC (r:=x);rfl;rfl;omega;(rw[Int.toNat_natCast];exact h2))|(apply afh (r:=y);rfl;rfl;omega;(rw[show ((x.length:Int)+(([b]:an).length:Int)).toNat=x.length+1 by omega];exact h3))|(apply afD (L:=U) (m:=j+k+2) (v:=t2);rfl;omega;omega;exact ht2)|(apply afD (L:=U) (m:=j+k+1) (v:=t1);rfl;omega;omega;exact ht1)|(apply afD (L:=V) (m:=k+1) (v:=v1);rfl;omega;omega;exact hv1)|(apply afX;rfl;rfl;omega;omega)|(apply agd;rfl;rfl;omega;omega)|(apply afO;rfl;exact hb;exact hpart)|(apply ahl;rfl;rfl;omega)|(apply agF;rfl;exact hkl;omega)|(apply agG;rfl;rfl;exact hkl;omega)|apply aap|apply aM|apply aaF|apply aaY|apply abu|apply acS|apply abJ|apply bZ|apply fy|(apply aeq;rfl;rfl;first|exact q1|exact q2)|(apply afB;rfl)|apply cX|(apply abz;rfl)|(apply aeN;rfl;rfl)|(apply abF;rfl)|(apply ada;rfl;rfl)|(apply adE;rfl;rfl)|(apply abD;rfl;rfl;first|exact q218 _|exact q241)|(apply aeq;rfl;rfl;first|exact q2)|(apply adU;rfl;rfl)|(apply afJ;rfl;omega)|(apply ael;rfl;rfl;omega)|(apply aeq;rfl;rfl;first|exact hc)|(apply aes;rfl;rfl;omega)|(apply afF;rfl;rfl;omega)|(apply aeX;rfl;rfl;omega)|(apply afu;rfl;exact fun _=>rfl;(first|omega|(simp only[List.length_set];omega)|(simp;omega));decide;rfl;case ia=>infer_instance)|(apply acb;rfl;rfl;rfl)|(apply afv;rfl;rfl;omega)|(apply aab;rfl;rfl)|(apply aaZ;rfl;rfl)|(intro _;omega)|intro _|(omega)|exact gq.1):P:=h ⟨q⟩
theorem gg18 {P Q:Prop}(q:Q)(h:GQ Q->P:=by
 intro gq;repeat' first|(apply agJ (r:=V.length) (k:=.i64);rfl;rfl;omega;omega;(intro c hc;cases hc))|(apply agK;rfl;rfl;rfl;exact q1)|(apply aeq;rfl;rfl;first|exact q1|exact q2)|(apply agt (L:=[f]) (v:=f);rfl;exact hK2f;exact Nat.zero_lt_one;rfl)|(apply aeS;rfl;rfl;(first|(simp only[List.nil_append,List.cons_append];rfl)|rfl);first|exact q241)|(apply afV;rfl;rfl;(first|omega|(simp only[List.length_set];omega)))|(apply agE;rfl;rfl;omega;omega)|(apply agc;rfl;rfl;omega;omega)|(apply agD;rfl;omega)|(apply agv;rfl;rfl;omega;omega)|(apply agw;rfl;rfl;omega;omega)|(apply agx;rfl;rfl;omega)|(apply agh;rfl;rfl;omega)|(apply afb (s:=iK);rfl;rfl;omega)|(apply afI (i:=k+2);rfl;exact hl;omega;omega)|(apply afI (i:=k+1);rfl;exact hl;omega;omega)|(apply afQ (i:=k+1);rfl;exact hb;exact hne;omega;omega)|(apply aeS;rfl;rfl;(first|(simp only[List.nil_append,List.cons_append];rfl)|rfl);first|(focus (apply_assumption -exfalso -symm;done))|(focus (apply_assumption -exfalso -symm;exact kM rfl rfl rfl))|(focus (apply_assumption -exfalso -symm;rfl)))|apply aap|apply aM|apply aaF|apply aaY|apply acS|apply abJ|apply abu|apply fy|apply cX|(apply afB;rfl)|apply aeb|apply aem|(apply aeZ;rfl)|(apply aeJ;rfl;rfl;(first|(simp only[List.nil_append,List.cons_append];rfl)|rfl))|(apply aeU;rfl;(first|(simp only[List.nil_append,List.cons_append];rfl)|rfl);(first|(simp only[List.nil_append,List.cons_append];rfl)|rfl))|(apply abz;rfl)|(apply abF;rfl)|(apply aeN;rfl;rfl)|(apply abD;rfl;rfl;first|exact q243)|(apply aes;rfl;rfl;omega)|(apply afv;rfl;rfl;omega)|(apply aab;rfl;rfl)|(apply aaZ;rfl;rfl)|(intro _;omega)|intro _|(omega)|exact gq.1):P:=h ⟨q⟩
theorem gg19 {P:Prop}(h:P:=by
 repeat' first|(apply aeS;rfl;rfl;(first|(simp only[List.nil_append,List.cons_append];rfl)|rfl);first|(focus (apply_assumption -exfalso -symm;done))|(focus (apply_assumption -exfalso -symm;exact kM rfl rfl rfl))|(focus (apply_assumption -exfalso -symm;rfl)))|(apply ade;rfl;rfl;rfl;exact⟨rfl,Nat.le_refl _,by simp[overwrite,dG,ek,o1]⟩;rfl)|apply aap|apply aM|apply aaF|apply aaY|apply abu|(apply abD;rfl;rfl;first|exact hc)|apply aeb|apply aem|(apply aeZ;rfl)|(apply aeJ;rfl;rfl;(first|(simp only[List.nil_append,List.cons_append];rfl)|rfl))|(apply aeU;rfl;(first|(simp only[List.nil_append,List.cons_append];rfl)|rfl);(first|(simp only[List.nil_append,List.cons_append];rfl)|rfl))|(apply acb;rfl;rfl;rfl)|(apply acK;rfl;rfl;rfl)|(apply aab;rfl;rfl)|(apply aaZ;rfl;rfl)
 all_goals first|omega|exact⟨.inr rfl,rfl,rfl,rfl,_,rfl,rfl⟩|exact⟨.inr rfl,rfl,_,rfl,key z,rfl⟩|exact⟨.inr rfl,rfl,_,rfl,k,rfl⟩|exact cD rfl rfl (out _)|exact cD rfl rfl (.same rfl rfl)):P:=h
end Go.Ab
namespace Go.Ab
abbrev zm (a b:Nat):aU:=⟨.l a,.mv (.p b),none⟩
abbrev zw (a b:Nat):aU:=⟨.p a,.mv (.l b),none⟩
abbrev zn (a b:Nat):aU:=⟨.l a,.mv (.l b),none⟩
abbrev zi (a:Nat)(n:Int):aU:=⟨.p a,.mv (.c (.int .i64 n)),none⟩
abbrev z1 (a f x:Nat):aU:=⟨.l a,.call (.c (.fn (.func f) [] [])) [.l x],none⟩
abbrev z2 (a f x y:Nat):aU:=⟨.l a,.call (.c (.fn (.func f) [] [])) [.l x,.l y],none⟩
abbrev ze (a i x:Nat):aU:=⟨.l a,.extract i (.l x),none⟩
abbrev za (a k x y:Nat):aU:=⟨.l a,.cP none k (.l x) (.l y),none⟩
abbrev zd (a n x:Nat):aU:=⟨.l a,.load n false (.l x),none⟩
abbrev zt (a n x:Nat):aU:=⟨.l a,.load n true (.p x),none⟩
abbrev zT (a n x:Nat):aU:=⟨.l a,.load n true (.l x),none⟩
abbrev zs (n a x:Nat):aU:=⟨.no,.store n (.p a) (.l x),none⟩
abbrev zS (n a x:Nat):aU:=⟨.no,.store n (.l a) (.l x),none⟩
abbrev zf (a n x:Nat):aU:=⟨.l a,.iI n (.p x),none⟩
abbrev zl (a x:Nat):aU:=⟨.l a,.len .sl (.l x),none⟩
abbrev zL (a x:Nat):aU:=⟨.l a,.len .str (.l x),none⟩
abbrev zb (a:Nat)(o:BinOp)(x y:Nat):aU:=⟨.l a,.bin o (.l x) (.l y),none⟩
abbrev zc (a:Nat)(o:BinOp)(x:Nat)(n:Int):aU:=⟨.l a,.bin o (.l x) (.c (.int .i64 n)),none⟩
abbrev zq (a:Nat)(o:BinOp)(x:Nat)(n:Int):aU:=⟨.l a,.bin o (.p x) (.c (.int .i64 n)),none⟩
abbrev zr (a:Nat)(o:BinOp)(x y:Nat):aU:=⟨.l a,.bin o (.p x) (.p y),none⟩
abbrev zp (a c x:Nat):aU:=⟨.l a,.pick (.l c) (.l x) (.c (.bool false)),none⟩
abbrev zP (a c x:Nat):aU:=⟨.l a,.pick (.l c) (.c (.bool true)) (.l x),none⟩
abbrev zx (a e n x:Nat):aU:=⟨.p a,.box e n (.p x),none⟩
abbrev zu (a x:Nat):aU:=⟨.l a,.un .not (.l x),none⟩
theorem nca:(∀l:List AV,[]++l=l) /\ ∀(a:AV) (l m:List AV),(a::l)++m=a::(l++m):=⟨List.nil_append,fun _ _ _=>List.cons_append⟩
abbrev kI (n:Int):aL:=.c (.int .i64 n)
abbrev kU (n:Int):aL:=.c (.int .u64 n)
abbrev kW (n:Int):aL:=.c (.int .u32 n)
abbrev AV.iV (n:Int):AV:=.int .i64 n
abbrev AV.uV (n:Int):AV:=.int .u64 n
abbrev zR (l:List aU)(c:al):al:=.seq (.region l) c
abbrev kF (f:Nat):aL:=.c (.fn (.func f) [] [])
abbrev zg (o:aU)(k:Nat)(b:Bool):aU:=⟨o.dst,o.op,some (.l k,b)⟩
abbrev zD0:List UInt8:=[0,1,2,2,3,3,3,3,4,4,4,4,4,4,4,4,5,5,5,5,5,5,5,5,5,5,5,5,5,5,5,5,6,6,6,6,6,6,6,6,6,6,6,6,6,6,6,6,6,6,6,6,6,6,6,6,6,6,6,6,6,6,6,6,7,7,7,7,7,7,7,7,7,7,7,7,7,7,7,7,7,7,7,7,7,7,7,7,7,7,7,7,7,7,7,7,7,7,7,7,7,7,7,7,7,7,7,7,7,7,7,7,7,7,7,7,7,7,7,7,7,7,7,7,7,7,7,7,8,8,8,8,8,8,8,8,8,8,8,8,8,8,8,8,8,8,8,8,8,8,8,8,8,8,8,8,8,8,8,8,8,8,8,8,8,8,8,8,8,8,8,8,8,8,8,8,8,8,8,8,8,8,8,8,8,8,8,8,8,8,8,8,8,8,8,8,8,8,8,8,8,8,8,8,8,8,8,8,8,8,8,8,8,8,8,8,8,8,8,8,8,8,8,8,8,8,8,8,8,8,8,8,8,8,8,8,8,8,8,8,8,8,8,8,8,8,8,8,8,8,8,8,8,8,8,8]
abbrev zD1:List UInt8:=[48,48,48,49,48,50,48,51,48,52,48,53,48,54,48,55,48,56,48,57,49,48,49,49,49,50,49,51,49,52,49,53,49,54,49,55,49,56,49,57,50,48,50,49,50,50,50,51,50,52,50,53,50,54,50,55,50,56,50,57,51,48,51,49,51,50,51,51,51,52,51,53,51,54,51,55,51,56,51,57,52,48,52,49,52,50,52,51,52,52,52,53,52,54,52,55,52,56,52,57,53,48,53,49,53,50,53,51,53,52,53,53,53,54,53,55,53,56,53,57,54,48,54,49,54,50,54,51,54,52,54,53,54,54,54,55,54,56,54,57,55,48,55,49,55,50,55,51,55,52,55,53,55,54,55,55,55,56,55,57,56,48,56,49,56,50,56,51,56,52,56,53,56,54,56,55,56,56,56,57,57,48,57,49,57,50,57,51,57,52,57,53,57,54,57,55,57,56,57,57]
abbrev zD2:List UInt8:=[48,49,50,51,52,53,54,55,56,57,97,98,99,100,101,102,103,104,105,106,107,108,109,110,111,112,113,114,115,116,117,118,119,120,121,122]
abbrev zD3:List UInt8:=[9,9,9,9,9,9,9,9,9,9,9,9,9,9,9,9,9,9,9,9,9,9,9,9,9,9,9,9,9,9,9,9,9,9,9,9,9,9,9,9,9,9,9,9,9,9,9,9,9,9,9,9,9,9,9,9,9,9,9,9,9,9,9,9]
abbrev zD4:List UInt8:=[45,45,45,45,45,45,45,45,45,45,45,45,45,45,45,45,45,45,45,45,45,45,45,45,45,45,45,45,45,45,45,45,45,45,45,45,45,45,45,45,45,45,45,45,45,45,45,45,45,45,45,45,45,45,45,45,45,45,45,45,45,45,45,45,45,45,45,45,45,45,45,45,45,45,45,45,45,45,45,45,45,45,45,45,45,45,45,45,45,45,45,45,45,45,45,45,45,45,45,45,45,45,45,45,45,45,45,45,45,45,45,45,45,45,45,45,45,45,45,45,45,45,45,45,45,45,45,45]
abbrev zD5:List UInt8:=[61,61,61,61,61,61,61,61,61,61,61,61,61,61,61,61,61,61,61,61,61,61,61,61,61,61,61,61,61,61,61,61,61,61,61,61,61,61,61,61,61,61,61,61,61,61,61,61,61,61,61,61,61,61,61,61,61,61,61,61,61,61,61,61,61,61,61,61,61,61,61,61,61,61,61,61,61,61,61,61,61,61,61,61,61,61,61,61,61,61,61,61,61,61,61,61,61,61,61,61,61,61,61,61,61,61,61,61,61,61,61,61,61,61,61,61,61,61,61,61,61,61,61,61,61,61,61,61]
abbrev zD6:List UInt8:=[48,48,48,48,48,48,48,48,48,48,48,48,48,48,48,48,48,48,48,48,48,48,48,48,48,48,48,48,48,48,48,48,48,48,48,48,48,48,48,48,48,48,48,48,48,48,48,48,48,48,48,48,48,48,48,48,48,48,48,48,48,48,48,48]
abbrev zD7:List UInt8:=[32,32,32,32,32,32,32,32,32,32,32,32,32,32,32,32,32,32,32,32,32,32,32,32,32,32,32,32,32,32,32,32,32,32,32,32,32,32,32,32,32,32,32,32,32,32,32,32,32,32,32,32,32,32,32,32,32,32,32,32,32,32,32,32,32,32,32,32,32,32,32,32,32,32,32,32,32,32,32,32,32,32,32,32,32,32,32,32,32,32,32,32,32,32,32,32,32,32,32,32,32,32,32,32,32,32,32,32,32,32,32,32,32,32,32,32,32,32,32,32,32,32,32,32,32,32,32,32]
abbrev zD8:List UInt8:=[65,116,111,105]
abbrev zD9:List UInt8:=[48,49,50,51,52,53,54,55,56,57]
end Go.Ab

/-
  Own work: the resolver: an operation of the translated program becomes one of the abstract machine; whatever is not covered gives none.
-/
namespace Go.Ab
def pc (rec:Value->Option AV):List Value->Option (List AV)
 | []=>some []
 | v::r=>match rec v,pc rec r with
   | some a,some l=>some (a::l)
   | _,_=>none
def nh:Nat->Value->Option AV
 | 0,_=>none
 | n+1,v=>
  match v with
  | .bool b=>some (.bool b)
  | .int k m=>some (.int k m)
  | .string s=>some (.str s.data.toList)
  | .pointer none=>some .du
  | .slice none 0 0=>some .ae
  | .map none=>some .dU
  | .nilFunc=>some .fv
  | .nilIface=>some .cY
  | .func (.func f) ⟨[]⟩ ⟨[]⟩=>some (.fn (.func f) [] [])
  | .agg ⟨cs⟩=>(pc (fun v=>nh n v) cs).map .agg
  | .tuple ⟨cs⟩=>(pc (fun v=>nh n v) cs).map .aq
  | _=>none
def idx (t:Nat):List Nat->Nat->Option Nat
 | [],_=>none
 | u::r,i=>if u=t then some i else idx t r (i+1)
structure Cx where
 P:Program
 gl:Nat->Option AV
 aO:List Nat
 N:Nat
def fW (C:Cx):Operand->Option aL
 | .tmp t=>match idx t C.aO 0 with
   | some i=>some (.p i)
   | none=>some (.l t)
 | .const v=>(nh 5 v).map .c
 | .func f=>some (.c (.fn (.func f) [] []))
 | .global g=>(C.gl g).map .c
def gU (C:Cx):List Operand->Option (List aL)
 | []=>some []
 | x::xs=>match fW C x,gU C xs with
   | some a,some l=>some (a::l)
   | _,_=>none
def lW (C:Cx):Option Operand->Option (Option aL)
 | none=>some none
 | some x=>(fW C x).map some
def zj:TypeDesc->Bool
 | .struct _ | .array _ _=>true
 | _=>false
def shapeOf (P:Program)(t:TypeId):Option (Nat×Bool):=
 match P.info? t,P.underlying t with
 | some i,some d=>some (i.size,zj d)
 | _,_=>none
def zeroOf (P:Program)(t:TypeId):Option AV:=
 match P.info? t with
 | some i=>match i.zero with
   | some v=>nh 5 v
   | none=>none
 | none=>none
def qV (P:Program)(rec:TypeId->Option gD):List Field->Option (List (Nat×Nat×Bool×gD))
 | []=>some []
 | f::r=>match qV P rec r with
   | some l => if f.name == "_" then some l else
     match shapeOf P f.type,rec f.type with
     | some (n,ag),some e=>some ((f.offset,n,ag,e)::l)
     | _,_=>none
   | none=>none
def qW (sz:Nat)(ag:Bool)(q:gD):Nat->Nat->List (Nat×Nat×Bool×gD)
 | 0,_=>[]
 | n+1,i=>(i*sz,sz,ag,q)::qW sz ag q n (i+1)
def gV (P:Program):Nat->Bool->TypeId->Option gD
 | 0,_,_=>none
 | d+1,g,t=>
  match P.underlying t with
  | some .bool=>some .bool
  | some (.int _)=>some .int
  | some .string=>some .str
  | some (.pointer _)=>some (.ref .ptr)
  | some (.slice _)=>some (.ref .slice)
  | some (.map _ _)=>some (.ref .map)
  | some (.func _ _ _)=>some (.ref .func)
  | some (.interface ms)=>some (.iface (g && !ms.isEmpty))
  | some (.struct fs)=>if P.stoodInHeld t then none else (qV P (fun t=>gV P d true t) fs.toList).map .yD
  | some (.array n e)=>match shapeOf P e,gV P d true e with
    | some (sz,ag),some q=>some (.yD (qW sz ag q n 0))
    | _,_=>none
  | _=>none
def kQ:Operand->Bool
 | .const _=>true
 | _=>false
def jU (C:Cx)(place:Nat->Option (Nat×Nat)):List (Nat×Operand)->Option (List (Nat×Nat×aL))
 | []=>some []
 | (i,x)::r=>match place i,fW C x,jU C place r with
   | some (o,n),some a,some l=>some ((o,n,a)::l)
   | _,_,_=>none
def pd (P:Program):List Field->Option (List (Nat×Nat))
 | []=>some []
 | f::r=>match P.info? f.type,pd P r with
   | some i,some l=>some ((f.offset,i.size)::l)
   | _,_=>none
def iL (P:Program)(t:TypeId):Option (TypeId×Nat×Nat):=
 match P.underlying t with
 | some (.slice e)=>match P.info? e with
   | some i=>some (e,i.size,i.bytes)
   | none=>none
 | _=>none
def keyOf (P:Program)(t:TypeId):Option ie:=
 match P.underlying t with
 | some (.int _)=>some .int
 | some .string=>some .str
 | _=>none
def qX:BinOp->Bool
 | .eql | .neq=>true
 | _=>false
def tD (P:Program)(t:TypeId):Bool:=
 match P.underlying t with
 | some (.int _)|some .string=>true
 | _=>false
def tE (P:Program)(e:TypeId)(n:Nat):Bool:=
 match (zeroOf P e).bind AV.cells with
 | some z=>z.length == n
 | none=>false
def zk (P:Program)(t:TypeId):Bool:=
 match P.underlying t with
 | some (.struct _)|some (.array _ _)=>P.eqGuardType P.depth t
 | _=>false
def OU:Fn->Bool
 | .yield _=>true
 | _=>false
def jj (P:Program)(e:TypeId):Bool:=
 match P.info? e with
 | some i=>match i.desc with
   | .named n _ => n == "strings.Builder"
   | _=>false
 | none=>false
def zo (P:Program)(t:TypeId):Bool:=
 match P.underlying t with
 | some (.pointer e)=>jj P e
 | _=>false
def iM (C:Cx)(o:Oper):Option aZ:=
 let P:=C.P
 let d:=fW C
 match o.op with
 | .move x | .assign x=>(d x).map .mv
 | .pick c a b=>match d c,d a,d b with
   | some c,some a,some b=>some (.pick c a b)
   | _,_,_=>none
 | .alloc e=>match zeroOf P e with
   | some z=>z.cells.map (.alloc e)
   | none=>none
 | .box e x=>match shapeOf P e,d x with
   | some (n,_),some x=>some (.box e n x)
   | _,_=>none
 | .build t ps=>match zeroOf P t with
   | some z=>match z.cells,P.underlying t with
     | some zc,some (.struct fs)=>match pd P fs.toList with
       | some pl=>(jU C (pl[·]?) ps.toList).map (.build zc)
       | none=>none
     | some zc,some (.array _ e)=>match P.info? e with
       | some i=>(jU C (fun j=>some (j*i.size,i.size)) ps.toList).map (.build zc)
       | none=>none
     | _,_=>none
   | none=>none
 | .buildSlice t len ps=>match iL P t with
   | some (e,n,_)=>match (zeroOf P e).bind AV.cells,jU C (fun j=>some (j*n,n)) ps.toList with
     | some z,some l=>if len*n<=2^24/\z.length=n/\0<n then some (.dZ e len n z l) else none
     | _,_=>none
   | none=>none
 | .load t a=>match shapeOf P t,d a with
   | some (n,ag),some a=>some (.load n ag a)
   | _,_=>none
 | .store t a x=>match shapeOf P t,d a,d x with
   | some (n,_),some a,some x=>some (.store n a x)
   | _,_,_=>none
 | .nilCheck x=>(d x).map .ju
 | .binOp op t x y _=>match d x,d y with
   | some a,some b=>
    if qX op && !tD P t then
     if zo P t && !(kQ x || kQ y) then some (.mT (op == .neq) a b) else
     if zk P t then none else
     (gV P 20 (!(kQ x || kQ y)) t).map fun e=>.eq (op == .neq) e a b
    else some (.bin op a b)
   | _,_=>none
 | .unOp op _ x=>(d x).map (.un op)
 | .convert src dst x=>match P.underlying src,P.underlying dst,d x with
   | some (.int _),some (.int k),some a=>some (.dz k a)
   | some (.int _),some .string,some a=>some (.yE a)
   | some .string,some .string,some a=>some (.yF a)
   | some .string,some (.slice e),some a=>match P.underlying e with
     | some (.int .u8)=>if jj P e then none else some (.oT e a)
     | _=>none
   | some (.slice e),some .string,some a=>match P.underlying e with
     | some (.int .u8)=>some (.kE a)
     | _=>none
   | some (.pointer t),some .unsafePointer,some a=>match P.info? t with
     | some i=>if i.size=0 then none else some (.jP none a)
     | none=>none
   | some .unsafePointer,some (.pointer u),some a=>match P.info? u with
     | some _=>if jj P u && liesAt P P.depth u (P.cellsOf u/P.cellsOf u) 0 u 1 then some (.jP (some (u,P.cellsOf u)) a) else none
     | none=>none
   | _,_,_=>none
 | .makeInterface t x=>match P.underlying t with
   | some (.interface _)=>none
   | some _=>(d x).map (.qH t)
   | none=>none
 | .typeAssert x _ t ok=>match P.underlying t with
   | some (.interface _)=>none
   | some _=>match d x,zeroOf P t with
     | some x,some z=>some (.yH t z ok x)
     | _,_=>none
   | none=>none
 | .makeFunc f fi ca=>if OU f then none else match gU C fi.toList,gU C ca.toList with
   | some a,some b=>some (.tq f a b)
   | _,_=>none
 | .makeMap _ none=>some .mU
 | .makeSlice t l c=>match iL P t,d l,d c with
   | some (e,n,by'),some l,some c=>match (zeroOf P e).bind AV.cells with
     | some z=>if z.length=n/\0<n then some (.gg e n by' z l c) else none
     | none=>none
   | _,_,_=>none
 | .slice t x lo hi mx=>match P.underlying t,d x,lW C lo,lW C hi,lW C mx with
   | some .string,some x,some l,some h,some none=>some (.slice .str 1 x l h none)
   | some (.slice e),some x,some l,some h,some m=>match P.info? e with
     | some i=>some (.slice .sl i.size x l h m)
     | none=>none
   | some (.array n e),some x,some l,some h,some none=>match P.info? e with
     | some i=>some (.ix n i.size x l h)
     | none=>none
   | _,_,_,_,_=>none
 | .fieldAddr t x f=>match P.underlying t,d x with
   | some (.struct fs),some x=>match fs[f]? with
     | some f=>match P.info? f.type with
       | some i=>if i.size=0 then none else some (.iI f.offset x)
       | none=>none
     | none=>none
   | _,_=>none
 | .field t x f=>match P.underlying t,d x with
   | some (.struct fs),some x=>match fs[f]? with
     | some f=>match shapeOf P f.type with
       | some (n,ag)=>some (.field f.offset n ag x)
       | none=>none
     | none=>none
   | _,_=>none
 | .indexAddr t x i=>match P.underlying t,d x,d i with
   | some (.array n e),some x,some i=>match P.info? e with
     | some inf=>some (.cP (some n) inf.size x i)
     | none=>none
   | some (.slice e),some x,some i=>match P.info? e with
     | some inf=>some (.cP none inf.size x i)
     | none=>none
   | _,_,_=>none
 | .index t x i=>match P.underlying t,d x,d i with
   | some .string,some x,some i=>some (.index x i)
   | some (.array n e),some x,some i=>match shapeOf P e with
     | some (sz,ag)=>some (.yG n sz ag x i)
     | none=>none
   | _,_,_=>none
 | .lookup t x i ok=>match P.underlying t,d x,d i with
   | some (.map k e),some x,some i=>match keyOf P k,zeroOf P e with
     | some k,some z=>some (.lookup k z x i ok)
     | _,_=>none
   | _,_,_=>none
 | .mapUpdate t m i x | .insert t m i x=>match P.underlying t,d m,d i,d x with
   | some (.map k _),some m,some i,some x=>(keyOf P k).map fun k=>.qI k m i x
   | _,_,_,_=>none
 | .range t x=>match P.underlying t,d x with
   | some .string,some x=>some (.range x)
   | _,_=>none
 | .next x true=>(d x).map .next
 | .extract x i=>(d x).map (.extract i)
 | .call c=>match c.callee with
   | .value f=>match d f,gU C c.args.toList with
     | some f,some as=>some (.call f as)
     | _,_=>none
   | .invoke r name=>match d r,gU C c.args.toList with
     | some r,some as=>some (.invoke r name as)
     | _,_=>none
   | .builtin b=>match b,c.argTypes.toList,gU C c.args.toList with
     | .len,[t],some [x]=>match P.underlying t with
       | some (.array n _)=>some (.len (.arr n) x)
       | some (.map _ _)=>some (.qJ x)
       | some .string=>some (.len .str x)
       | some (.slice _)=>some (.len .sl x)
       | _=>none
     | .cap,[t],some [x]=>match P.underlying t with
       | some (.slice _)=>some (.cap x)
       | _=>none
     | .append,[t,u],some [x,y]=>match iL P t,P.underlying u with
       | some (e,n,by'),some .string=>if n=1/\tE P e n=true/\jj P e=false then some (.append e n by' x y) else none
       | some (e,n,by'),some (.slice _)=>if 0<n/\tE P e n=true/\jj P e=false then some (.append e n by' x y) else none
       | _,_=>none
     | .copy,[t,_],some [x,y]=>match iL P t with
       | some (_,n,_)=>if 0<n then some (.copy n x y) else none
       | none=>none
     | .clear,[t],some [x]=>match iL P t with
       | some (e,n,_)=>match (zeroOf P e).bind AV.cells with
         | some z=>if z.length=n/\0<n then some (.qG n z x) else none
         | none=>none
       | none=>none
     | .unsafeSliceData,[t],some [x]=>match P.underlying t with
       | some (.slice _)=>some (.qF x)
       | _=>none
     | .unsafeString,[t,_],some [x,n]=>match P.underlying t with
       | some (.pointer e)=>if P.cellsOf e=1 then some (.jt e x n) else none
       | _=>none
     | .max,_,some xs=>some (.mm true xs)
     | .min,_,some xs=>some (.mm false xs)
     | _,_,_=>none
 | _=>none
def jV (C:Cx):Option Tmp->Option eh
 | none=>some .no
 | some t=>if t<C.N then
     match idx t C.aO 0 with
     | some i=>some (.p i)
     | none=>some (.l t)
   else none
def tF (C:Cx)(ops:List Oper):Option (Nat×Bool)->Option (Option (aL×Bool))
 | none=>some none
 | some (j,w)=>match ops[j]? with
   | some o=>match o.dst with
     | some t=>(fW C (.tmp t)).map fun x=>some (x,w)
     | none=>none
   | none=>none
def tG (C:Cx)(ops:List Oper)(o:Oper):Option aU:=
 match jV C o.dst,iM C o,tF C ops o.guard with
 | some d,some op,some g=>some ⟨d,op,g⟩
 | _,_,_=>none
def jA (C:Cx)(ops:List Oper):List Oper->Option (List aU)
 | []=>some []
 | o::r=>match tG C ops o,jA C ops r with
   | some a,some l=>some (a::l)
   | _,_=>none
def OV (ops:List Oper):List Nat:=
 ops.foldl (fun acc o=>acc++[o.after.toList.foldl (fun s e=>if Region.binds .any e then s ||| 2^e.on ||| acc.getD e.on 0 else s) 0]) []
def jk (bits i:Nat):List Nat:=(List.range i).filter fun j=>!bits.testBit j
def pf (ops:List Oper)(bits:List Nat):Bool:=
 ops.zipIdx.all fun (o,i)=>
  o.after.toList.all (fun e=>!Region.binds .any e || decide (e.on<i)) &&
  (List.range i).all fun j=>!(bits.getD i 0).testBit j || o.after.toList.any fun e=>Region.binds .any e && (e.on == j || (decide (j<e.on) && (bits.getD e.on 0).testBit j))
def pg (l:List aU)(bits:List Nat):Bool:=
 l.zipIdx.all fun (o,i)=>(jk (bits.getD i 0) i).all fun j=>match l[j]? with|some oj=>oW oj o|none=>false
def tH (C:Cx)(ops:List Oper)(draw:Bool):Option al:=
 match jA C ops ops with
 | none=>none
 | some l=>
  if draw then
   let bits:=OV ops
   if pf ops bits && pg l bits then some (.draw (l.zipIdx.map fun (o,i)=>(o,jk (bits.getD i 0) i))) else none
  else some (.region l)
def lZ (C:Cx):List Tmp->Option (List eh)
 | []=>some []
 | t::r=>match jV C (some t),lZ C r with
   | some d,some l=>some (d::l)
   | _,_=>none
def fC (C:Cx)(rd:Bool):Code->Option al
 | .skip=>some .skip
 | .region _ ops draw=>some ((tH C ops.toList draw).getD .bad)
 | .seq a b=>match fC C rd a,fC C rd b with
   | some a,some b=>some (.seq a b)
   | _,_=>none
 | .cond c a b=>match fW C c,fC C rd a,fC C rd b with
   | some c,some a,some b=>some (.cond c a b)
   | _,_,_=>none
 | .block id c=>(fC C rd c).map (.block id)
 | .loop c=>(fC C rd c).map .loop
 | .exit id=>some (.exit id)
 | .ret=>some .ret
 | .scope c=>(fC C rd c).map fun c=>.seq c .skip
 | .label _=>some .skip
 | .rangeFunc f ps a b=>match fW C f,lZ C ps.toList,fC C true a,fC C true b with
   | some f,some ps,some a,some b=>some (.rangeFunc rd f ps a b)
   | _,_,_,_=>none
 | _=>some .bad
def kR (C:Cx):List ResultVar->Option (List ew)
 | []=>some []
 | .tmp t::r=>match fW C (.tmp t),kR C r with
   | some x,some l=>some (.var x::l)
   | _,_=>none
 | .cell t ty::r=>match fW C (.tmp t),shapeOf C.P ty,kR C r with
   | some x,some (n,ag),some l=>some (.cell n ag x::l)
   | _,_,_=>none
def tI (P:Program)(gl:Nat->Option AV)(aO:List Nat)(f:Func):Option dc:=
 let C:Cx:=⟨P,gl,aO,f.ntmps⟩
 match f.body with
 | none=>none
 | some c=>
  match fC C false c,kR C f.results.toList with
  | some b,some r=>if aO.all (· < f.ntmps) && decide aO.Nodup then some ⟨f.ntmps,aO,r,b⟩ else none
  | _,_=>none
def eK (P:Program)(t:TypeId)(name:String):Option FuncId:=
 match P.info? t,P.underlying t with
 | some i,some u=>match i.methods.toList.find? (·.name == name) with
   | some m=>match m.func,m.path.toList with
     | some (f,ptr),[]=>match u,ptr with
       | .pointer _,true=>some f
       | .pointer _,false=>none
       | _,false=>some f
       | _,true=>none
     | _,_=>none
   | none=>none
 | _,_=>none
end Go.Ab

/-
  Own work: the functions without a body that the abstract machine knows, and the table of functions.
-/
namespace Go.Ab
def FA (P:Program)(gl:Nat->Option AV)(aO:List (List Nat))(f:FuncId):Option dc:=
 match P.funcs[f]?,aO[f]? with
 | some fn,some p=>tI P gl p fn
 | _,_=>none
end Go.Ab

/-
  Own work: how the abstract state and the machine's state hang together, and what a step may change.
-/
namespace Go.Ab
variable {w w':World} {x:AV} {l:List AV} {y v:Value} {m:List Value} {h h':ab} {a:Addr} {n:Nat}
inductive BS where
 | fresh|dead|nil|live (c d:Nat)
structure au where
 at':Nat->BS
 X:Nat->Prop
instance:CoeFun au (fun _=>Nat->BS):=⟨au.at'⟩
def cQ (ρ:au)(c:Nat):Prop:=(∀b d,ρ b≠.live c d)/\¬ρ.X c
inductive V (ρ:au) (w:World):AV->Value->Prop
 | cR (v:Value):V ρ w .cR v
 | bool (b:Bool):V ρ w (.bool b) (.bool b)
 | int (k:IntKind) (n:Int):V ρ w (.int k n) (.int k n)
 | str (s:List UInt8):V ρ w (.str s) (.string ⟨s.toArray⟩)
 | du:V ρ w .du (.pointer none)
 | ptr {b c d:Nat} (o:Nat) (h:ρ b = .live c d):V ρ w (.ptr b o) (.pointer (some ⟨c,o+d,none⟩))
 | dO {b:Nat} (o c o':Nat) (h:ρ b = .dead):V ρ w (.ptr b o) (.pointer (some ⟨c,o',none⟩))
 | vp {l:List AV} (c o:Nat) (g:Nat->Value) (hf:l≠[]->cQ ρ c) (hc:∀i:Nat,i<l.length->w.cell? ⟨c,o+i,none⟩=some (g i))
     (hg:∀(i:Nat) x,l[i]? = some x->V ρ w x (g i)):V ρ w (.vp l) (.pointer (some ⟨c,o,none⟩))
 | ae:V ρ w .ae (.slice none 0 0)
 | sl {b c d o len esz capC:Nat} {cap:Option Nat} (h:ρ b = .live c d) (hl:len<=capC) (hcap:∀n,cap=some n->capC=n)
     (hb:∃cs e fr,w.heap[c]? = some (.cells cs e fr)/\o+d+capC*esz<=cs.size):V ρ w (.sl b o len esz cap) (.slice (some ⟨c,o+d,none⟩) len capC)
 | fk {b esz:Nat} (h:ρ b = .nil):V ρ w (.sl b 0 0 esz none) (.slice none 0 0)
 | dX {b o len esz capC:Nat} {cap:Option Nat} (c o':Nat) (h:ρ b = .dead) (hl:len<=capC) (hcap:∀n,cap=some n->capC=n):V ρ w (.sl b o len esz cap) (.slice (some ⟨c,o',none⟩) len capC)
 | fe {b esz:Nat} (h:ρ b = .dead):V ρ w (.sl b 0 0 esz none) (.slice none 0 0)
 | fl {b esz:Nat} (a:Addr) (h:ρ b = .dead):V ρ w (.sl b 0 0 esz (some 0)) (.slice (some a) 0 0)
 | vs {l:List AV} {len capC:Nat} {cap:Option Nat} (c o:Nat) (g:Nat->Value) (hf:l≠[]->cQ ρ c) (hl:len<=capC) (hcap:∀n,cap=some n->capC=n)
     (hc:∀i:Nat,i<l.length->w.cell? ⟨c,o+i,none⟩=some (g i)) (hg:∀(i:Nat) x,l[i]? = some x->V ρ w x (g i)):V ρ w (.vs l len cap) (.slice (some ⟨c,o,none⟩) len capC)
 | dT {cap:Option Nat} (hcap:∀n,cap=some n->n=0):V ρ w (.vs [] 0 cap) (.slice none 0 0)
 | fm {cap:Option Nat} (a:Addr) (hcap:∀n,cap=some n->n=0):V ρ w (.vs [] 0 cap) (.slice (some a) 0 0)
 | dU:V ρ w .dU (.map none)
 | map {b c:Nat} (h:ρ b = .live c 0):V ρ w (.map b) (.map (some c))
 | gW {b:Nat} (c:Nat) (h:ρ b = .dead):V ρ w (.map b) (.map (some c))
 | yield {b c d:Nat} (h:ρ b = .live c d):V ρ w (.fn (.yield b) [] []) (.func (.yield c) #[] #[])
 | fn {f:Fn} {fi ca:List AV} {fi' ca':List Value} (hf:∀l,f≠.yield l) (h1:fi.length=fi'.length) (h2:ca.length=ca'.length)
     (g1:∀(i:Nat) x y,fi[i]? = some x->fi'[i]? = some y->V ρ w x y) (g2:∀(i:Nat) x y,ca[i]? = some x->ca'[i]? = some y->V ρ w x y):V ρ w (.fn f fi ca) (.func f fi'.toArray ca'.toArray)
 | gE {b:Nat} (c:Nat) (h:ρ b = .dead):V ρ w (.fn (.yield b) [] []) (.func (.yield c) #[] #[])
 | fv:V ρ w .fv .nilFunc
 | iface {t:TypeId} {x:AV} {y:Value} (h:V ρ w x y):V ρ w (.iface t x) (.iface t y)
 | cY:V ρ w .cY .nilIface
 | agg {l:List AV} {m:List Value} (h:l.length=m.length) (g:∀(i:Nat) x y,l[i]? = some x->m[i]? = some y->V ρ w x y):V ρ w (.agg l) (.agg m.toArray)
 | aq {l:List AV} {m:List Value} (h:l.length=m.length) (g:∀(i:Nat) x y,l[i]? = some x->m[i]? = some y->V ρ w x y):V ρ w (.aq l) (.tuple m.toArray)
def VL (ρ:au)(w:World)(l:List AV)(m:List Value):Prop:=
 l.length=m.length/\∀(i:Nat) x y,l[i]? = some x->m[i]? = some y->V ρ w x y
theorem V.tJ {ρ:au}(s:ByteArray):V ρ w (.str s.data.toList) (.string s):=by
 have:=V.str (ρ:=ρ) (w:=w) s.data.toList;simpa using this
theorem VL.nil {ρ:au}:VL ρ w [] []:=⟨rfl,by simp⟩
theorem VL.cons {ρ:au}(h:V ρ w x y)(h':VL ρ w l m):VL ρ w (x::l) (y::m):=by
 refine⟨by simp[h'.1],fun i a b ha hb=>?_⟩;cases i with
 | zero=>simp at ha hb;subst ha;subst hb;exact h
 | succ i=>simp at ha hb;exact h'.2 i a b ha hb
theorem VL.head {ρ:au}(h:VL ρ w (x::l) (y::m)):V ρ w x y:=h.2 0 x y rfl rfl
theorem VL.tail {ρ:au}(h:VL ρ w (x::l) (y::m)):VL ρ w l m:=
 ⟨by simpa using h.1,fun i a b ha hb=>h.2 (i+1) a b (by simpa using ha) (by simpa using hb)⟩
theorem VL.cons_inv {ρ:au}(h:VL ρ w (x::l) m):∃y m',m=y::m'/\V ρ w x y/\VL ρ w l m':=by
 cases m with
 | nil=>exact absurd h.1 (by simp)
 | cons y m'=>exact⟨y,m',rfl,h.head,h.tail⟩
theorem VL.jB {ρ:au}(h:VL ρ w [] m):m=[]:=by
 have:=h.1;cases m <;> simp_all
theorem VL.append {ρ:au}:∀{l l':List AV} {m m':List Value},VL ρ w l m->VL ρ w l' m'->VL ρ w (l++l') (m++m')
 | [],_,_,_,h,h'=>by rw[h.jB];exact h'
 | _::_,_,_,_,h,h'=>by
  obtain⟨y,m1,rfl,hv,hl⟩:=h.cons_inv;exact .cons hv (hl.append h')
theorem VL.drop {ρ:au}(h:VL ρ w l m)(n:Nat):VL ρ w (l.drop n) (m.drop n):=
 ⟨by simp[h.1],fun i a b ha hb=>h.2 (n+i) a b (by simpa using ha) (by simpa using hb)⟩
theorem VL.take {ρ:au}(h:VL ρ w l m)(n:Nat):VL ρ w (l.take n) (m.take n):=
 ⟨by simp[h.1],fun i a b ha hb=>by
  rw[List.getElem?_take]at ha hb;split at ha
  . rename_i hlt;rw[if_pos hlt]at hb;exact h.2 i a b ha hb
  . cases ha⟩
structure ER (C:Cx)(ρ:au)(w:World)(pe:List AV)(lo:List (Nat×AV))(tmps:Array Value):Prop where
 size:tmps.size=C.N
 nodup:C.aO.Nodup
 lt:∀t∈C.aO,t<C.N
 iN:pe.length=C.aO.length
 pe:∀(i:Nat) v t,pe[i]? = some v->C.aO[i]? = some t->V ρ w v (tmps.getD t undef)
 lo:∀t v,lo.lookup t=some v->t<C.N/\t∉C.aO/\V ρ w v (tmps.getD t undef)
def nj:Option Ex->Option Code->Prop
 | none,none=>True
 | some .ret,some .ret=>True
 | some (.exit i),some (.exit j)=>i=j
 | _,_=>False
def Fits (P:Program)(e:TypeId)(d n s:Nat):Prop:=d+n<=s/\(jj P e=true->d=0/\n=s)
def BR (P:Program)(gl:Nat->Option AV)(ρ:au)(w:World)(b:Nat):bw->Prop
 | .cells l e=>(∃c d cs fr,ρ b = .live c d/\w.heap[c]? = some (.cells cs e fr)/\Fits P e d l.length cs.size/\(∀i,i<cs.size->w.frozen? ⟨c,i,none⟩=false) /\
     ∀(i:Nat) x y,l[i]? = some x->cs[i+d]? = some y->V ρ w x y)\/(ρ b = .nil/\l=[])
 | .map es=>∃c ms clk,ρ b = .live c 0/\w.heap[c]? = some (.map ms clk)/\es.length=ms.size /\
     ∀(i:Nat) kx vx m,es[i]? = some (kx,vx)->ms[i]? = some m->V ρ w kx m.key/\V ρ w vx m.val
 | .iter s pos=>∃c,ρ b = .live c 0/\w.heap[c]? = some (.stringIter ⟨s.toArray⟩ pos)
 | .fR=>∃c,ρ b = .live c 0/\w.heap[c]? = some (.deferred (some []))
 | .hole=>ρ b = .fresh
 | .loop st pend pe ps a bd=>∃c r aO N,ρ b = .live c 0/\w.heap[c]? = some (.loop r)/\r.state=st/\nj pend r.pending /\
     ER ⟨P,gl,aO,N⟩ ρ w pe [] r.tmps/\lZ ⟨P,gl,aO,N⟩ r.params.toList=some ps/\fC ⟨P,gl,aO,N⟩ true r.assign=some a/\fC ⟨P,gl,aO,N⟩ true r.body=some bd
structure Mem (P:Program)(gl:Nat->Option AV)(ρ:au)(h:ab)(w:World):Prop where
 cW:∀b o,h[b]? = some (some o)->BR P gl ρ w b o
 fresh:∀b,h.length<=b->ρ b = .fresh
 inj:∀b b' c d d',ρ b = .live c d->ρ b' = .live c d'->b=b'
 bound:∀b c d,ρ b = .live c d->c<w.heap.size
 xb:∀c,ρ.X c->c<w.heap.size
 xo:∀b c d,ρ b = .live c d->¬ρ.X c
 gl:∀g v,gl g=some v->V ρ w v (.pointer (some ⟨g,0,none⟩))
structure Ext (h h':ab)(ρ ρ':au)(w w':World):Prop where
 os:w'.os=w.os
 tape:w'.tape=w.tape
 output:w'.output=w.output
 size:w.heap.size<=w'.heap.size
 len:h.length<=h'.length
 X:ρ'.X=ρ.X
 cR:∀b:Nat,h[b]? = some none->h'[b]? = some none
 same:∀b:Nat,h[b]? = some none->ρ' b=ρ b
 live:∀b c d,ρ b = .live c d->ρ' b = .live c d\/ρ' b = .dead
 dead:∀b,ρ b = .dead->ρ' b = .dead
 nil:∀b,ρ b = .nil->ρ' b = .nil\/ρ' b = .dead
 bU:∀c,c<w.heap.size->(∀b d,ρ b = .live c d->h[b]? = some none)->w'.heap[c]? = w.heap[c]?
 back:∀b c d,ρ' b = .live c d->c<w.heap.size->ρ b = .live c d\/∃b0 d0,ρ b0 = .live c d0/\h[b0]? ≠ some none
 shape:∀(c:Nat) cs e fr,w.heap[c]? = some (.cells cs e fr)->∃cs' fr',w'.heap[c]? = some (.cells cs' e fr')/\cs'.size=cs.size
theorem Ext.refl (h:ab)(ρ:au)(w:World):Ext h h ρ ρ w w:=
 ⟨rfl,rfl,rfl,Nat.le_refl _,Nat.le_refl _,rfl,fun _ h=>h,fun _ _=>rfl,fun _ _ _ h=>.inl h,fun _ h=>h,fun _ h=>.inl h,fun _ _ _=>rfl,fun _ _ _ h _=>.inl h,
  fun _ cs _ fr h=>⟨cs,fr,h,rfl⟩⟩
theorem Ext.trans {h1 h2:ab}{ρ ρ1 ρ2:au}{w1 w2:World}(x:Ext h h1 ρ ρ1 w w1)(y:Ext h1 h2 ρ1 ρ2 w1 w2):Ext h h2 ρ ρ2 w w2 where
 os:=y.os.trans x.os
 tape:=y.tape.trans x.tape
 output:=y.output.trans x.output
 size:=Nat.le_trans x.size y.size
 len:=Nat.le_trans x.len y.len
 X:=y.X.trans x.X
 cR b hb:=y.cR b (x.cR b hb)
 same b hb:=(y.same b (x.cR b hb)).trans (x.same b hb)
 live b c d hb:=by
  rcases x.live b c d hb with h|h
  . exact y.live b c d h
  . exact .inr (y.dead b h)
 dead b hb:=y.dead b (x.dead b hb)
 nil b hb:=by
  rcases x.nil b hb with h|h
  . exact y.nil b h
  . exact .inr (y.dead b h)
 bU c hc hb:=by
  rw[y.bU c (Nat.lt_of_lt_of_le hc x.size) ?_,x.bU c hc hb];intro b d h1;rcases x.back b c d h1 hc with h|⟨b0,d0,h,hn⟩
  . exact x.cR b (hb b d h)
  . exact absurd (hb b0 d0 h) hn
 back b c d h2 hc:=by
  rcases y.back b c d h2 (Nat.lt_of_lt_of_le hc x.size) with h1|⟨b1,d1,h1,hn1⟩
  . exact x.back b c d h1 hc
  . rcases x.back b1 c d1 h1 hc with h0|h0
    . exact .inr ⟨b1,d1,h0,fun hu=>hn1 (x.cR b1 hu)⟩
    . exact .inr h0
 shape c cs e fr h0:=by
  obtain⟨cs1,fr1,h1,e1⟩:=x.shape c cs e fr h0;obtain⟨cs2,fr2,h2,e2⟩:=y.shape c cs1 e fr1 h1;exact⟨cs2,fr2,h2,e2.trans e1⟩
theorem OW (h:w.cell? a=some v):∃cs e fr,w.heap[a.block]? = some (.cells cs e fr):=by
 unfold World.cell? at h;split at h
 . rename_i cs e fr hc;exact⟨cs,e,fr,hc⟩
 . cases h
theorem zy (h:w.cell? a=some v):a.block<w.heap.size:=by
 obtain⟨cs,e,fr,hc⟩:=OW h;exact(Array.getElem?_eq_some_iff.1 hc).1
theorem OX (h:w'.heap[a.block]? = w.heap[a.block]?):w'.cell? a=w.cell? a:=by
 unfold World.cell?;rw[h]
theorem Ext.free {ρ ρ':au}(x:Ext h h' ρ ρ' w w'){c:Nat}(hc:c<w.heap.size)(hf:cQ ρ c):cQ ρ' c:=by
 refine⟨fun b d hb=>?_,by rw[x.X];exact hf.2⟩;rcases x.back b c d hb hc with h|⟨b0,d0,h,_⟩
 . exact hf.1 _ _ h
 . exact hf.1 _ _ h
theorem Ext.cell {ρ ρ':au}(x:Ext h h' ρ ρ' w w'){c o:Nat}{v:Value}(hf:cQ ρ c)(hc:w.cell? ⟨c,o,none⟩=some v):w'.cell? ⟨c,o,none⟩=some v:=by
 have hlt:=zy hc;rw[OX (w:=w)]
 . exact hc
 . exact x.bU c hlt (fun b d hb=>absurd hb (hf.1 b d))
theorem V.mono {ρ ρ':au}(x:Ext h h' ρ ρ' w w'){a:AV}{v:Value}(hv:V ρ w a v):V ρ' w' a v:=by
 induction hv with
 | cR v=>exact .cR v
 | bool b=>exact .bool b
 | int k n=>exact .int k n
 | str s=>exact .str s
 | du=>exact .du
 | ptr o hb=>
               rcases x.live _ _ _ hb with h|h
               . exact .ptr o h
               . exact .dO o _ _ h
 | dO o c o' hb=>exact .dO o c o' (x.dead _ hb)
 | @vp l c o g hf hc _ ih=>
  by_cases hl:l=[]
  . subst hl;exact .vp c o g (fun h=>absurd rfl h) (by simp) (by simp)
  . have h0:=hc 0 (by cases l <;> simp_all);exact .vp c o g (fun _=>x.free (zy h0) (hf hl)) (fun i hi=>x.cell (hf hl) (hc i hi)) ih
 | ae=>exact .ae
 | sl hb hl hcap hs=>
  obtain⟨cs,e,fr,h1,h2⟩:=hs;obtain⟨cs',fr',h3,h4⟩:=x.shape _ _ _ _ h1;rcases x.live _ _ _ hb with h|h
  . exact .sl h hl hcap ⟨cs',e,fr',h3,by omega⟩
  . exact .dX _ _ h hl hcap
 | fk hb=>
             rcases x.nil _ hb with h|h
             . exact .fk h
             . exact .fe h
 | dX c o' hb hl hcap=>exact .dX c o' (x.dead _ hb) hl hcap
 | fe hb=>exact .fe (x.dead _ hb)
 | fl a hb=>exact .fl a (x.dead _ hb)
 | @vs l len capC cap c o g hf hl hcap hc _ ih=>
  by_cases hn:l=[]
  . subst hn;exact .vs c o g (fun h=>absurd rfl h) hl hcap (by simp) (by simp)
  . have h0:=hc 0 (by cases l <;> simp_all);exact .vs c o g (fun _=>x.free (zy h0) (hf hn)) hl hcap (fun i hi=>x.cell (hf hn) (hc i hi)) ih
 | dT hcap=>exact .dT hcap
 | fm a hcap=>exact .fm a hcap
 | dU=>exact .dU
 | map hb=>
             rcases x.live _ _ _ hb with h|h
             . exact .map h
             . exact .gW _ h
 | gW v hb=>exact .gW v (x.dead _ hb)
 | yield hb=>
               rcases x.live _ _ _ hb with h|h
               . exact .yield h
               . exact .gE _ h
 | fn hf h1 h2 _ _ ih1 ih2=>exact .fn hf h1 h2 ih1 ih2
 | gE v hb=>exact .gE v (x.dead _ hb)
 | fv=>exact .fv
 | iface _ ih=>exact .iface ih
 | cY=>exact .cY
 | agg h _ ih=>exact .agg h ih
 | aq h _ ih=>exact .aq h ih
theorem VL.mono {ρ ρ':au}(x:Ext h h' ρ ρ' w w'){l:List AV}{m:List Value}(hv:VL ρ w l m):VL ρ' w' l m:=
 ⟨hv.1,fun i a b ha hb=>(hv.2 i a b ha hb).mono x⟩
theorem ER.mono {C:Cx}{ρ ρ':au}(x:Ext h h' ρ ρ' w w'){pe:List AV}{lo:List (Nat×AV)}{t:Array Value}(e:ER C ρ w pe lo t):ER C ρ' w' pe lo t:=
 ⟨e.size,e.nodup,e.lt,e.iN,fun i v t h1 h2=>(e.pe i v t h1 h2).mono x,fun t v h1=>let ⟨a,b,c⟩:=e.lo t v h1;⟨a,b,c.mono x⟩⟩
def iO (n:Nat)(ρ:au):au:=⟨fun b=>if b<n then ρ b else .fresh,ρ.X⟩
theorem cQ.cut {ρ:au}{c:Nat}(n:Nat)(h:cQ ρ c):cQ (iO n ρ) c:=by
 refine⟨fun b d hb=>?_,h.2⟩;simp only[iO]at hb;split at hb
 . exact h.1 b d hb
 . cases hb
theorem ff (h:bk l<=n):∀(i:Nat) x,l[i]? = some x->x.top<=n:=by
 induction l with
 | nil=>intro i x hx;simp at hx
 | cons v r ih=>
  simp only[bk]at h;intro i x hx;cases i with
  | zero=>simp at hx;subst hx;omega
  | succ i=>simp at hx;exact ih (by omega) i x hx
theorem mc (h:∀(i:Nat) x,l[i]? = some x->x.top<=n):bk l<=n:=by
 induction l with
 | nil=>simp[bk]
 | cons v r ih=>
  simp only[bk];have h0:=h 0 v rfl;have h1:=ih (fun i x hx=>h (i+1) x (by simpa using hx));omega
theorem V.fX {ρ ρ':au}(hρ:∀b,b<n->ρ' b=ρ b)(hF:∀c,cQ ρ c->cQ ρ' c){a:AV}{v:Value}(hv:V ρ w a v):a.top<=n->V ρ' w a v:=by
 induction hv with
 | cR v=>exact fun _=>.cR v
 | bool b=>exact fun _=>.bool b
 | int k n=>exact fun _=>.int k n
 | str s=>exact fun _=>.str s
 | du=>exact fun _=>.du
 | ptr o hb=>exact fun h=>.ptr o (by simp only[AV.top]at h;rw[hρ _ (by omega)];exact hb)
 | dO o c o' hb=>exact fun h=>.dO o c o' (by simp only[AV.top]at h;rw[hρ _ (by omega)];exact hb)
 | vp c o g hf hc _ ih=>exact fun h=>.vp c o g (fun hl=>hF _ (hf hl)) hc (fun i x hx=>ih i x hx (ff (by simpa only[AV.top] using h) i x hx))
 | ae=>exact fun _=>.ae
 | sl hb hl hcap hs=>exact fun h=>.sl (by simp only[AV.top]at h;rw[hρ _ (by omega)];exact hb) hl hcap hs
 | fk hb=>exact fun h=>.fk (by simp only[AV.top]at h;rw[hρ _ (by omega)];exact hb)
 | dX c o' hb hl hcap=>exact fun h=>.dX c o' (by simp only[AV.top]at h;rw[hρ _ (by omega)];exact hb) hl hcap
 | fe hb=>exact fun h=>.fe (by simp only[AV.top]at h;rw[hρ _ (by omega)];exact hb)
 | fl a hb=>exact fun h=>.fl a (by simp only[AV.top]at h;rw[hρ _ (by omega)];exact hb)
 | vs c o g hf hl hcap hc _ ih=>exact fun h=>.vs c o g (fun hn=>hF _ (hf hn)) hl hcap hc (fun i x hx=>ih i x hx (ff (by simpa only[AV.top] using h) i x hx))
 | dT hcap=>exact fun _=>.dT hcap
 | fm a hcap=>exact fun _=>.fm a hcap
 | dU=>exact fun _=>.dU
 | map hb=>exact fun h=>.map (by simp only[AV.top]at h;rw[hρ _ (by omega)];exact hb)
 | gW v hb=>exact fun h=>.gW v (by simp only[AV.top]at h;rw[hρ _ (by omega)];exact hb)
 | yield hb=>exact fun h=>.yield (by simp only[AV.top]at h;rw[hρ _ (by omega)];exact hb)
 | @fn f fi ca _ _ hf h1 h2 _ _ ih1 ih2=>
  intro h;have hh:bk fi<=n/\bk ca<=n:=by
   cases f <;> simp only[AV.top]at h <;> exact⟨by omega,by omega⟩
  exact .fn hf h1 h2 (fun i x y a b=>ih1 i x y a b (ff hh.1 i x a)) (fun i x y a b=>ih2 i x y a b (ff hh.2 i x a))
 | gE v hb=>exact fun h=>.gE v (by simp only[AV.top]at h;rw[hρ _ (by omega)];exact hb)
 | fv=>exact fun _=>.fv
 | iface _ ih=>exact fun h=>.iface (ih (by simpa only[AV.top] using h))
 | cY=>exact fun _=>.cY
 | agg hl _ ih=>exact fun h=>.agg hl (fun i x y a b=>ih i x y a b (ff (by simpa only[AV.top] using h) i x a))
 | aq hl _ ih=>exact fun h=>.aq hl (fun i x y a b=>ih i x y a b (ff (by simpa only[AV.top] using h) i x a))
theorem V.cut {ρ:au}{a:AV}(hv:V ρ w a v):a.top<=n->V (iO n ρ) w a v:=
 hv.fX (fun b hb=>by simp only[iO];rw[if_pos hb]) (fun _ h=>h.cut n)
theorem V.top {ρ:au}(hn:∀b,n<=b->ρ b = .fresh){a:AV}{v:Value}(hv:V ρ w a v):a.top<=n:=by
 have key:∀b,ρ b≠.fresh->b+1<=n:=fun b hb=>by
  rcases Nat.lt_or_ge b n with h|h
  . omega
  . exact absurd (hn b h) hb
 induction hv with
 | ptr o hb=>exact key _ (by rw[hb];simp)
 | dO o c o' hb=>exact key _ (by rw[hb];simp)
 | vp c o g hf hc _ ih=>exact mc ih
 | sl hb _ _ _=>exact key _ (by rw[hb];simp)
 | fk hb=>exact key _ (by rw[hb];simp)
 | dX c o' hb _ _=>exact key _ (by rw[hb];simp)
 | fe hb=>exact key _ (by rw[hb];simp)
 | fl a hb=>exact key _ (by rw[hb];simp)
 | vs c o g hf hl hcap hc _ ih=>exact mc ih
 | map hb=>exact key _ (by rw[hb];simp)
 | gW v hb=>exact key _ (by rw[hb];simp)
 | @yield b _ _ hb=>have:=key b (by rw[hb];simp);simp only[AV.top,bk];omega
 | @fn f fi ca fi' ca' hf h1 h2 _ _ ih1 ih2=>
  have a1:bk fi<=n:=mc fun i x hx=>by
   have hi:i<fi'.length:=h1 ▸ (List.getElem?_eq_some_iff.1 hx).1;exact ih1 i x fi'[i] hx (List.getElem?_eq_getElem hi)
  have a2:bk ca<=n:=mc fun i x hx=>by
   have hi:i<ca'.length:=h2 ▸ (List.getElem?_eq_some_iff.1 hx).1;exact ih2 i x ca'[i] hx (List.getElem?_eq_getElem hi)
  cases f <;> simp only[AV.top] <;> first|omega|exact absurd rfl (hf _)
 | @gE b v hb=>have:=key b (by rw[hb];simp);simp only[AV.top,bk];omega
 | iface _ ih=>exact ih
 | @agg l m hl _ ih=>
  exact mc fun i x hx=>by
   have hi:i<m.length:=hl ▸ (List.getElem?_eq_some_iff.1 hx).1;exact ih i x m[i] hx (List.getElem?_eq_getElem hi)
 | @aq l m hl _ ih=>
  exact mc fun i x hx=>by
   have hi:i<m.length:=hl ▸ (List.getElem?_eq_some_iff.1 hx).1;exact ih i x m[i] hx (List.getElem?_eq_getElem hi)
 | _=>simp[AV.top,bk]
end Go.Ab

/-
  Own work: the memory relation behind a new block, a store, an append in place.
-/
namespace Go.Ab
variable {w w':World} {h:ab} {ρ:au} {b c:Nat} {O:Obj}
variable {P:Program} {gl:Nat->Option AV}
theorem FB {a:Addr}(h:w'.heap[a.block]? = w.heap[a.block]?):w'.frozen? a=w.frozen? a:=by
 unfold World.frozen?;rw[h]
theorem BR.mono {h':ab}{ρ':au}(x:Ext h h' ρ ρ' w w'){b:Nat}(hρ:ρ' b=ρ b)
 (hh:∀c d,ρ b = .live c d->w'.heap[c]? = w.heap[c]?) {o:bw} (hb:BR P gl ρ w b o):BR P gl ρ' w' b o:=by
 cases o with
 | cells l e=>
  rcases hb with ⟨c,d,cs,fr,h1,h2,h3,h4,h5⟩|⟨h1,h2⟩
  . refine .inl ⟨c,d,cs,fr,hρ.trans h1,(hh c d h1).trans h2,h3,fun i hi=>?_,fun i x' y hx hy=>(h5 i x' y hx hy).mono x⟩;rw[FB (w:=w) (hh c d h1)];exact h4 i hi
  . exact .inr ⟨hρ.trans h1,h2⟩
 | map es=>
  obtain⟨c,ms,clk,h1,h2,h3,h4⟩:=hb;exact⟨c,ms,clk,hρ.trans h1,(hh c 0 h1).trans h2,h3,fun i kx vx m hx hm=>let ⟨a,b⟩:=h4 i kx vx m hx hm;⟨a.mono x,b.mono x⟩⟩
 | iter s pos=>obtain⟨c,h1,h2⟩:=hb;exact⟨c,hρ.trans h1,(hh c 0 h1).trans h2⟩
 | fR=>obtain⟨c,h1,h2⟩:=hb;exact⟨c,hρ.trans h1,(hh c 0 h1).trans h2⟩
 | hole=>exact hρ.trans hb
 | loop st pend pe ps a bd=>
  obtain⟨c,r,aO,N,h1,h2,h3,h4,h5,h6⟩:=hb;exact⟨c,r,aO,N,hρ.trans h1,(hh c 0 h1).trans h2,h3,h4,h5.mono x,h6⟩
theorem BR.live {o:bw}(hb:BR P gl ρ w b o):(∃c d,ρ b = .live c d)\/ρ b = .nil\/ρ b = .fresh:=by
 cases o with
 | cells l e=>
                rcases hb with ⟨c,d,_,_,h1,_⟩|⟨h1,_⟩
                . exact .inl ⟨c,d,h1⟩
                . exact .inr (.inl h1)
 | map es=>obtain⟨c,_,_,h1,_⟩:=hb;exact .inl ⟨c,0,h1⟩
 | iter s pos=>obtain⟨c,h1,_⟩:=hb;exact .inl ⟨c,0,h1⟩
 | fR=>obtain⟨c,h1,_⟩:=hb;exact .inl ⟨c,0,h1⟩
 | hole=>exact .inr (.inr hb)
 | loop=>obtain⟨c,_,_,_,h1,_⟩:=hb;exact .inl ⟨c,0,h1⟩
def au.dH (ρ:au)(b:Nat)(s:BS):au:=⟨fun x=>if x=b then s else ρ x,ρ.X⟩
@[simp] theorem au.afq (ρ:au)(b:Nat)(s:BS):(ρ.dH b s).X=ρ.X:=rfl
@[simp] theorem au.dI (ρ:au)(b:Nat)(s:BS):ρ.dH b s b=s:=by simp[au.dH]
theorem au.dh {x:Nat}{s:BS}(h:x≠b):ρ.dH b s x=ρ x:=by simp[au.dH,h]
theorem zz (hc:c<w.heap.size):(w.heap.push O)[c]? = w.heap[c]? := by
 rw[Array.getElem?_push,if_neg (by omega)]
theorem Ext.alloc (m:Mem P gl ρ h w)(o:Option bw)(O:Obj)(s:BS)(hs:(∃d,s = .live w.heap.size d)\/s = .nil\/s = .dead) :
 Ext h (h++[o]) ρ (ρ.dH h.length s) w { w with heap:=w.heap.push O } where
 os:=rfl
 tape:=rfl
 output:=rfl
 size:=by simp
 len:=by simp
 X:=rfl
 cR b hb:=by
  have hlt:=(List.getElem?_eq_some_iff.1 hb).1;rw[List.getElem?_append_left hlt];exact hb
 same b hb:=by
  have hlt:=(List.getElem?_eq_some_iff.1 hb).1;exact au.dh (by omega)
 live b c d hb:=by
  have:b≠h.length:=fun e=>by rw[m.fresh b (by omega)]at hb;cases hb
  exact .inl ((au.dh this).trans hb)
 dead b hb:=by
  have:b≠h.length:=fun e=>by rw[m.fresh b (by omega)]at hb;cases hb
  exact(au.dh this).trans hb
 nil b hb:=by
  have:b≠h.length:=fun e=>by rw[m.fresh b (by omega)]at hb;cases hb
  exact .inl ((au.dh this).trans hb)
 bU c hc _:=zz hc
 back b c d hb hc:=by
  by_cases e:b=h.length
  . subst e;rw[au.dI]at hb;rcases hs with ⟨d',rfl⟩|rfl|rfl
    . cases hb;omega
    . cases hb
    . cases hb
  . rw[au.dh e]at hb;exact .inl hb
 shape c cs e fr hc:=⟨cs,fr,by rw[zz (Array.getElem?_eq_some_iff.1 hc).1];exact hc,rfl⟩
theorem Ext.drew (h:ab)(ρ:au)(w:World)(n:Nat):Ext h h ρ ρ w { w with drawn:=n }:=
 ⟨rfl,rfl,rfl,Nat.le_refl _,Nat.le_refl _,rfl,fun _ h=>h,fun _ _=>rfl,fun _ _ _ h=>.inl h,fun _ h=>h,fun _ h=>.inl h,fun _ _ _=>rfl,fun _ _ _ h _=>.inl h,
  fun _ cs _ fr h=>⟨cs,fr,h,rfl⟩⟩
theorem Mem.ext {ρ':au}{h':ab}(m:Mem P gl ρ h w)(x:Ext h h' ρ ρ' w w')
 (hb:∀b o,h'[b]? = some (some o)->BR P gl ρ' w' b o) (hf:∀b,h'.length<=b->ρ' b = .fresh)
 (hi:∀b b' c d d',ρ' b = .live c d->ρ' b' = .live c d'->b=b') (hbd:∀b c d,ρ' b = .live c d->c<w'.heap.size):Mem P gl ρ' h' w':=
 ⟨hb,hf,hi,hbd,fun c hc=>Nat.lt_of_lt_of_le (m.xb c (by rw[←x.X];exact hc)) x.size,fun b c d hl hX=>by
  rw[x.X]at hX;have hlt:=m.xb c hX;rcases x.back b c d hl hlt with h1|⟨b0,d0,h1,_⟩
  . exact m.xo _ _ _ h1 hX
  . exact m.xo _ _ _ h1 hX,fun g v hg=>(m.gl g v hg).mono x⟩
theorem Mem.alloc (m:Mem P gl ρ h w)(o:Option bw)(O:Obj)(s:BS)(hs:(∃d,s = .live w.heap.size d)\/s = .nil\/s = .dead)
 (ho:∀o',o=some o'->BR P gl (ρ.dH h.length s) { w with heap:=w.heap.push O } h.length o') :
 Mem P gl (ρ.dH h.length s) (h++[o]) { w with heap:=w.heap.push O }:=by
 have x:=Ext.alloc m o O s hs;refine m.ext x ?_ ?_ ?_ ?_
 . intro b o' hb;rcases Nat.lt_trichotomy b h.length with hlt|heq|hgt
   . rw[List.getElem?_append_left hlt]at hb;refine(m.cW b o' hb).mono x (au.dh (by omega)) (fun c d hl=>zz (m.bound b c d hl))
   . subst heq;rw[List.getElem?_append_right (Nat.le_refl _)]at hb;simp at hb;exact ho o' hb
   . rw[List.getElem?_eq_none (by simp;omega)]at hb;cases hb
 . intro b hb;simp at hb;rw[au.dh (by omega)];exact m.fresh b (by omega)
 . intro b b' c d d' h1 h2;have bd:∀{x c d},ρ x = .live c d->c<w.heap.size:=fun h=>m.bound _ _ _ h
   by_cases e:b=h.length <;> by_cases e':b'=h.length
   . omega
   . subst e;rw[au.dI]at h1;rw[au.dh e']at h2;rcases hs with ⟨d0,rfl⟩|rfl|rfl
     . cases h1;have:=bd h2;omega
     . cases h1
     . cases h1
   . subst e';rw[au.dI]at h2;rw[au.dh e]at h1;rcases hs with ⟨d0,rfl⟩|rfl|rfl
     . cases h2;have:=bd h1;omega
     . cases h2
     . cases h2
   . rw[au.dh e]at h1;rw[au.dh e']at h2;exact m.inj b b' c d d' h1 h2
 . intro b c d hl;show c<(w.heap.push O).size;rw[Array.size_push];by_cases e:b=h.length
   . subst e;rw[au.dI]at hl;rcases hs with ⟨d0,rfl⟩|rfl|rfl
     . cases hl;omega
     . cases hl
     . cases hl
   . rw[au.dh e]at hl;have:=m.bound b c d hl;omega
theorem Mem.drew (m:Mem P gl ρ h w)(n:Nat):Mem P gl ρ h { w with drawn:=n }:=
 m.ext (Ext.drew h ρ w n) (fun b o hb=>(m.cW b o hb).mono (Ext.drew h ρ w n) rfl (fun _ _ _=>rfl)) m.fresh m.inj m.bound
def _root_.Go.World.di (w:World)(c:Nat)(O:Obj):World:={ w with heap:=w.heap.setIfInBounds c O }
theorem nk (hc:c<w.heap.size):(w.di c O).heap[c]? = some O:=by
 simp[World.di,hc]
theorem zA {c':Nat}(hc:c'≠c):(w.di c O).heap[c']? = w.heap[c']? := by
 simp only[World.di];rw[Array.getElem?_setIfInBounds];rw[if_neg (by omega)]
theorem zB {o:Option bw}(hb:b<h.length):(h.set b o)[b]? = some o:=by
 rw[List.getElem?_set];simp[hb]
theorem jW {b':Nat}{o:Option bw}(hb:b'≠b):(h.set b o)[b']? = h[b']? := by
 rw[List.getElem?_set];rw[if_neg (by omega)]
theorem Ext.write (m:Mem P gl ρ h w){b c d:Nat}{o0:bw}(h0:h[b]? = some (some o0))(hρ:ρ b = .live c d)(o:Option bw)(O:Obj)
 (hO:∀cs e fr,w.heap[c]? = some (.cells cs e fr)->∃cs' fr',O = .cells cs' e fr'/\cs'.size=cs.size) :
 Ext h (h.set b o) ρ ρ w (w.di c O) where
 os:=rfl
 tape:=rfl
 output:=rfl
 size:=by simp[World.di]
 len:=by simp
 X:=rfl
 cR b' hb':=by
  have:b'≠b:=fun e=>by subst e;rw[h0]at hb';cases hb'
  rw[jW this];exact hb'
 same _ _:=rfl
 live _ _ _ h:=.inl h
 dead _ h:=h
 nil _ h:=.inl h
 bU c' hc' hu:=by
  have:c'≠c:=fun e=>by subst e;have:=hu b d hρ;rw[h0]at this;cases this
  exact zA this
 back _ _ _ h _:=.inl h
 shape c' cs e fr hc':=by
  by_cases e':c'=c
  . subst e';obtain⟨cs',fr',rfl,hs⟩:=hO cs e fr hc';exact⟨cs',fr',nk (m.bound _ _ _ hρ),hs⟩
  . exact⟨cs,fr,by rw[zA e'];exact hc',rfl⟩
theorem Mem.write (m:Mem P gl ρ h w){b c d:Nat}{o0:bw}(h0:h[b]? = some (some o0))(hρ:ρ b = .live c d)(o:Option bw)(O:Obj)
 (hO:∀cs e fr,w.heap[c]? = some (.cells cs e fr)->∃cs' fr',O = .cells cs' e fr'/\cs'.size=cs.size)
 (ho:∀o',o=some o'->BR P gl ρ (w.di c O) b o'):Mem P gl ρ (h.set b o) (w.di c O):=by
 have x:=Ext.write m h0 hρ o O hO;refine m.ext x ?_ ?_ m.inj ?_
 . intro b' o' hb';by_cases e:b'=b
   . subst e;rw[zB (List.getElem?_eq_some_iff.1 h0).1]at hb';exact ho o' (Option.some.inj hb')
   . rw[jW e]at hb';exact(m.cW b' o' hb').mono x rfl (fun c' d' hl=>zA (fun e'=>e (m.inj b' b c d' d (e' ▸ hl) hρ)))
 . intro b' hb';simp at hb';exact m.fresh b' hb'
 . intro b' c' d' hl;have:=m.bound b' c' d' hl;simpa[World.di] using this
theorem Ext.forget {o0:bw}(h0:h[b]? = some (some o0))(hl:∀c d,ρ b = .live c d->c<w.heap.size) :
 Ext h (h.set b none) ρ (ρ.dH b .dead) w w where
 os:=rfl
 tape:=rfl
 output:=rfl
 size:=Nat.le_refl _
 len:=by simp
 X:=rfl
 cR b' hb':=by
  have:b'≠b:=fun e=>by subst e;rw[h0]at hb';cases hb'
  rw[jW this];exact hb'
 same b' hb':=by
  have:b'≠b:=fun e=>by subst e;rw[h0]at hb';cases hb'
  exact au.dh this
 live b' c d hb':=by
  by_cases e:b'=b
  . subst e;exact .inr (au.dI _ _ _)
  . exact .inl ((au.dh e).trans hb')
 dead b' hb':=by
  by_cases e:b'=b
  . subst e;exact au.dI _ _ _
  . exact(au.dh e).trans hb'
 nil b' hb':=by
  by_cases e:b'=b
  . subst e;exact .inr (au.dI _ _ _)
  . exact .inl ((au.dh e).trans hb')
 bU _ _ _:=rfl
 back b' c d hb' _:=by
  by_cases e:b'=b
  . subst e;rw[au.dI]at hb';cases hb'
  . rw[au.dh e]at hb';exact .inl hb'
 shape _ cs _ fr h:=⟨cs,fr,h,rfl⟩
theorem Mem.forget (m:Mem P gl ρ h w){b:Nat}{o0:bw}(h0:h[b]? = some (some o0)):Mem P gl (ρ.dH b .dead) (h.set b none) w:=by
 have x:=Ext.forget (w:=w) h0 (fun c d hl=>m.bound b c d hl);have hlt:b<h.length:=(List.getElem?_eq_some_iff.1 h0).1;refine m.ext x ?_ ?_ ?_ ?_
 . intro b' o' hb';by_cases e:b'=b
   . subst e;rw[zB hlt]at hb';cases hb'
   . rw[jW e]at hb';exact(m.cW b' o' hb').mono x (au.dh e) (fun _ _ _=>rfl)
 . intro b' hb';simp at hb';rw[au.dh (by omega)];exact m.fresh b' hb'
 . intro b1 b2 c d d' h1 h2;by_cases e1:b1=b
   . subst e1;rw[au.dI]at h1;cases h1
   . by_cases e2:b2=b
     . subst e2;rw[au.dI]at h2;cases h2
     . rw[au.dh e1]at h1;rw[au.dh e2]at h2;exact m.inj _ _ _ _ _ h1 h2
 . intro b' c d hl;by_cases e:b'=b
   . subst e;rw[au.dI]at hl;cases hl
   . rw[au.dh e]at hl;exact m.bound _ _ _ hl
theorem Ext.move (m:Mem P gl ρ h w){b c d:Nat}{o0:bw}(h0:h[b]? = some (some o0))(hρ:ρ b = .live c d)(o:Option bw)(d':Nat) :
 Ext h (h.set b none++[o]) ρ ((ρ.dH b .dead).dH h.length (.live c d')) w w:=by
 have hlt:b<h.length:=(List.getElem?_eq_some_iff.1 h0).1;have x:=Ext.forget (w:=w) h0 (fun c d hl=>m.bound b c d hl);have bU:∀b',ρ b'≠.fresh->b'≠h.length:=fun b' hb e=>hb (m.fresh b' (by omega))
 refine⟨rfl,rfl,rfl,Nat.le_refl _,by simp,rfl,?_,?_,?_,?_,?_,fun _ _ _=>rfl,?_,fun _ cs _ fr h=>⟨cs,fr,h,rfl⟩⟩
 . intro b' hb';have hlt':=(List.getElem?_eq_some_iff.1 hb').1;rw[List.getElem?_append_left (by simpa using hlt')];exact x.cR b' hb'
 . intro b' hb';have hlt':=(List.getElem?_eq_some_iff.1 hb').1;rw[au.dh (by omega)];exact x.same b' hb'
 . intro b' c' d'' hb';rw[au.dh (bU b' (by rw[hb'];simp))];exact x.live b' c' d'' hb'
 . intro b' hb';rw[au.dh (bU b' (by rw[hb'];simp))];exact x.dead b' hb'
 . intro b' hb';rw[au.dh (bU b' (by rw[hb'];simp))];exact x.nil b' hb'
 . intro b' c' d'' hb' hc;by_cases e:b'=h.length
   . subst e;rw[au.dI]at hb';cases hb';exact .inr ⟨b,d,hρ,by rw[h0];simp⟩
   . rw[au.dh e]at hb';exact x.back b' c' d'' hb' hc
theorem Mem.move (m:Mem P gl ρ h w){b c d:Nat}{o0:bw}(h0:h[b]? = some (some o0))(hρ:ρ b = .live c d)(o:Option bw)(d':Nat)
 (ho:∀o',o=some o'->BR P gl ((ρ.dH b .dead).dH h.length (.live c d')) w h.length o'):Mem P gl ((ρ.dH b .dead).dH h.length (.live c d')) (h.set b none++[o]) w:=by
 have hlt:b<h.length:=(List.getElem?_eq_some_iff.1 h0).1;have x:=Ext.move m h0 hρ o d';have m':=m.forget h0;refine m.ext x ?_ ?_ ?_ ?_
 . intro b' o' hb';rcases Nat.lt_trichotomy b' h.length with hl|he|hg
   . rw[List.getElem?_append_left (by simpa using hl)]at hb';by_cases e:b'=b
     . subst e;rw[zB hlt]at hb';cases hb'
     . rw[jW e]at hb';exact(m.cW b' o' hb').mono x (by rw[au.dh (by omega),au.dh e]) (fun _ _ _=>rfl)
   . subst he;rw[List.getElem?_append_right (by simp)]at hb';simp at hb';exact ho o' hb'
   . rw[List.getElem?_eq_none (by simp;omega)]at hb';cases hb'
 . intro b' hb';simp at hb';rw[au.dh (by omega)];exact m'.fresh b' (by simp;omega)
 . intro b1 b2 c1 d1 d2 h1 h2;have key:∀b1 d1,b1≠h.length->(ρ.dH b .dead) b1 = .live c d1->False:=fun b1 d1 e h1=>by
    by_cases e1:b1=b
    . subst e1;rw[au.dI]at h1;cases h1
    . rw[au.dh e1]at h1;exact e1 (m.inj _ _ _ _ _ h1 hρ)
   by_cases e1:b1=h.length <;> by_cases e2:b2=h.length
   . omega
   . subst e1;rw[au.dI]at h1;cases h1;rw[au.dh e2]at h2;exact(key _ _ e2 h2).elim
   . subst e2;rw[au.dI]at h2;cases h2;rw[au.dh e1]at h1;exact(key _ _ e1 h1).elim
   . rw[au.dh e1]at h1;rw[au.dh e2]at h2;exact m'.inj _ _ _ _ _ h1 h2
 . intro b' c' d'' hl;by_cases e:b'=h.length
   . subst e;rw[au.dI]at hl;cases hl;exact m.bound _ _ _ hρ
   . rw[au.dh e]at hl;exact m'.bound _ _ _ hl
end Go.Ab

/-
  Own work: the operations that do not look at the heap: what the abstract machine reckons is what the model gives.
-/
namespace Go.Ab
variable {v x':Value} {l:List AV} {m:List Value} {t e:TypeId} {n:Nat}
variable {P:Program} {gl:Nat->Option AV} {ρ:au} {w:World}
theorem V.fY {k:IntKind}{n:Int}(h:V ρ w (.int k n) v):v = .int k n:=by cases h;rfl
theorem V.me {b:Bool}(h:V ρ w (.bool b) v):v = .bool b:=by cases h;rfl
theorem V.jC {s:List UInt8}(h:V ρ w (.str s) v):v = .string ⟨s.toArray⟩:=by cases h;rfl
theorem V.iP (h:V ρ w (.agg l) v):∃m:List Value,v = .agg m.toArray/\VL ρ w l m:=by
 cases h with|agg h g=>exact⟨_,rfl,h,g⟩
theorem V.FC (h:V ρ w (.aq l) v):∃m:List Value,v = .tuple m.toArray/\VL ρ w l m:=by
 cases h with|aq h g=>exact⟨_,rfl,h,g⟩
theorem V.qY (h:VL ρ w l m):V ρ w (.agg l) (.agg m.toArray):=.agg h.1 h.2
theorem V.im (h:VL ρ w l m):V ρ w (.aq l) (.tuple m.toArray):=.aq h.1 h.2
theorem V.undef:V ρ w cB undef:=V.im VL.nil
theorem VL.get (h:VL ρ w l m){i:Nat}{x:AV}(hx:l[i]? = some x):∃y,m[i]? = some y/\V ρ w x y:=by
 have hi:i<m.length:=h.1 ▸ (List.getElem?_eq_some_iff.1 hx).1;exact⟨m[i],List.getElem?_eq_getElem hi,h.2 i x _ hx (List.getElem?_eq_getElem hi)⟩
theorem zC {rec:Value->Option AV}(hr:∀v a,rec v=some a->V ρ w a v):∀(l:List Value) (r:List AV),pc rec l=some r->VL ρ w r l
 | [],r,h=>by simp[pc]at h;subst h;exact .nil
 | v::l,r,h=>by
  simp only[pc]at h;split at h
  . rename_i a r' h1 h2;cases h;exact .cons (hr v a h1) (zC hr l r' h2)
  . cases h
theorem qZ:∀(n:Nat) (v:Value) (a:AV),nh n v=some a->V ρ w a v
 | 0,_,_,h=>by simp[nh]at h
 | n+1,v,a,h=>by
  unfold nh at h;split at h
  . cases h;exact .bool _
  . cases h;exact .int _ _
  . cases h;exact V.tJ _
  . cases h;exact .du
  . cases h;exact .ae
  . cases h;exact .dU
  . cases h;exact .fv
  . cases h;exact .cY
  . cases h;exact V.fn (fi':=[]) (ca':=[]) (by simp) rfl rfl (by simp) (by simp)
  . rename_i cs;simp only[Option.map_eq_some_iff]at h;obtain⟨l,h1,rfl⟩:=h;exact V.qY (zC (fun v a=>qZ n v a) cs l h1)
  . rename_i cs;simp only[Option.map_eq_some_iff]at h;obtain⟨l,h1,rfl⟩:=h;exact V.im (zC (fun v a=>qZ n v a) cs l h1)
  . cases h
theorem FD {t:Nat}:∀{l:List Nat} {k i:Nat},idx t l k=some i->∃j,i=k+j/\l[j]? = some t
 | [],_,_,h=>by simp[idx]at h
 | u::r,k,i,h=>by
  simp only[idx]at h;split at h
  . rename_i hu;cases h;exact⟨0,rfl,by simp[hu]⟩
  . obtain⟨j,h1,h2⟩:=FD h;exact⟨j+1,by omega,by simpa using h2⟩
theorem tK {t:Nat}{l:List Nat}{i:Nat}(h:idx t l 0=some i):l[i]? = some t:=by
 obtain⟨j,rfl,h2⟩:=FD h;simpa using h2
theorem tL {t:Nat}:∀{l:List Nat} {k:Nat},idx t l k=none->t∉l
 | [],_,_=>by simp
 | u::r,k,h=>by
  simp only[idx]at h;split at h
  . cases h
  . rename_i hu;have:=tL h;simp;exact⟨fun e=>hu e.symm,this⟩
structure Rel (C:Cx)(ρ:au)(s:St)(a:Act)(w:World):Prop where
 er:ER C ρ w s.pe s.lo a.tmps
 mem:Mem C.P C.gl ρ s.hp w
variable {C:Cx} {s:St} {a:Act}
theorem OY (r:ER C ρ w s.pe s.lo a.tmps)(g:∀n v,C.gl n=some v->V ρ w v (.pointer (some ⟨n,0,none⟩))){x:Operand}{y:aL}(hc:fW C x=some y){v:AV}(hv:s.aa y=some v) :
 V ρ w v (a.eval x):=by
 cases x with
 | tmp t=>
  simp only[fW]at hc;split at hc
  . rename_i i hi;cases hc;exact r.pe i v t hv (tK hi)
  . cases hc;exact(r.lo t v hv).2.2
 | const c=>
  simp only[fW,Option.map_eq_some_iff]at hc;obtain⟨u,h1,rfl⟩:=hc;simp only[St.aa,Option.some.injEq]at hv;subst hv;exact qZ 5 c _ h1
 | global n=>
  simp only[fW,Option.map_eq_some_iff]at hc;obtain⟨u,h1,rfl⟩:=hc;simp only[St.aa,Option.some.injEq]at hv;subst hv;exact g n _ h1
 | func f=>
  simp only[fW]at hc;cases hc;simp only[St.aa]at hv;cases hv;exact V.fn (fi':=[]) (ca':=[]) (by simp) rfl rfl (by simp) (by simp)
theorem Rel.aa (r:Rel C ρ s a w){x:Operand}{y:aL}(hc:fW C x=some y){v:AV}(hv:s.aa y=some v):V ρ w v (a.eval x):=
 OY r.er r.mem.gl hc hv
theorem Rel.cH (r:Rel C ρ s a w):∀{xs:List Operand} {ys:List aL},gU C xs=some ys->∀{vs:List AV},s.cH ys=some vs->VL ρ w vs (xs.map a.eval)
 | [],ys,hc,vs,hv=>by
  simp[gU]at hc;subst hc;simp[St.cH]at hv;subst hv;exact .nil
 | x::xs,ys,hc,vs,hv=>by
  simp only[gU]at hc;split at hc
  . rename_i y l h1 h2;cases hc;simp only[St.cH]at hv;split at hv
    . rename_i v hv1;split at hv
      . rename_i vs' hv2;cases hv;exact .cons (r.aa h1 hv1) (r.cH h2 hv2)
      . cases hv
    . cases hv
  . cases hc
theorem OZ {op:BinOp}{x y v:AV}{y':Value}(hx:V ρ w x x')(hy:V ρ w y y')(h:cN op x y=some v)(t:TypeId) :
 ∃v',(binOp op t x' y').run P w = .ok v' w/\V ρ w v v':=by
 unfold cN at h;split at h
 . rename_i k a k' b;obtain rfl:=hx.fY;obtain rfl:=hy.fY;split at h
   . split at h
     . cases h
     . rename_i hb;cases h;exact⟨_,by simp[binOp,Op.shift,hb] <;> rfl,.int _ _⟩
   . split at h
     . cases h
     . rename_i hb;cases h;exact⟨_,by simp[binOp,Op.shift,hb] <;> rfl,.int _ _⟩
   . rename_i op' h1 h2;split at h
     . rename_i hk;subst hk;split at h <;> first
        | (cases h;exact⟨_,by simp only[binOp];rw[if_neg (by simp)];rfl,.int _ _⟩)
        | (cases h;exact⟨_,by simp only[binOp];rw[if_neg (by simp)];rfl,.bool _⟩)
        | (split at h;cases h;rename_i hb;cases h;exact⟨_,by simp[binOp,Op.intDiv,hb] <;> rfl,.int _ _⟩)
        | cases h
     . cases h
 . rename_i a b;obtain rfl:=hx.jC;obtain rfl:=hy.jC;split at h
   . split at h
     . rename_i hl;cases h;refine⟨.string ⟨(a++b).toArray⟩,?_,.str _⟩;have hs:¬(((ByteArray.mk a.toArray).size+(ByteArray.mk b.toArray).size:Nat):Int) > IntKind.i64.max:=by
        have e1:(ByteArray.mk a.toArray).size=a.length:=by simp[ByteArray.size]
        have e2:(ByteArray.mk b.toArray).size=b.length:=by simp[ByteArray.size]
        rw[e1,e2];have:IntKind.i64.max=9223372036854775807:=by decide
        omega
       have e:(ByteArray.mk a.toArray)++(ByteArray.mk b.toArray)=⟨(a++b).toArray⟩:=by
        apply ByteArray.ext;simp
       simp only[binOp,Op.stringOp];rw[if_neg hs,e];rfl
     . cases h
   all_goals first
    | (cases h;exact⟨_,by simp[binOp,Op.stringOp] <;> rfl,.bool _⟩)
    | cases h
 . cases h
theorem Pa {op:UnOp}{x v:AV}(hx:V ρ w x x')(h:qL op x=some v):∃v',(Op.unary op x').run P w = .ok v' w/\V ρ w v v':=by
 unfold qL at h;split at h
 . obtain rfl:=hx.fY;cases h;exact⟨_,by simp[Op.unary,Op.intArith] <;> rfl,.int _ _⟩
 . obtain rfl:=hx.me;cases h;exact⟨_,by simp[Op.unary] <;> rfl,.bool _⟩
 . obtain rfl:=hx.fY;cases h;exact⟨_,by simp[Op.unary,Op.intBits] <;> rfl,.int _ _⟩
 . cases h
theorem bS {d:TypeDesc}(h:P.underlying t=some d):(underlying t).run P w = .ok d w:=by simp[underlying,h]
theorem tM {i:TypeInfo}(h:P.info? t=some i):(typeInfo t).run P w = .ok i w:=by simp[typeInfo,h]
theorem gG {i:TypeInfo}(h:P.info? t=some i):(sizeOf t).run P w = .ok i.size w:=by simp[sizeOf,typeInfo,h]
theorem FE {d:TypeDesc}(h:P.underlying t=some d):(isAgg t).run P w = .ok (zj d) w:=by
 simp only[isAgg,Sem.run_bind,bS h,Result.andThen_ok];cases d <;> rfl
theorem ra {ag:Bool}(h:shapeOf P t=some (n,ag)):∃i d,P.info? t=some i/\P.underlying t=some d/\i.size=n/\zj d=ag:=by
 unfold shapeOf at h;split at h
 . rename_i i d h1 h2;cases h;exact⟨i,d,h1,h2,rfl,rfl⟩
 . cases h
theorem Pb (h:VL ρ w l m){off n:Nat}{r:List AV}(hc:cut l off n=some r):VL ρ w r ((m.drop off).take n)/\r.length=n:=by
 unfold cut at hc;simp only at hc;split at hc
 . rename_i hl;cases hc;exact⟨(h.drop off).take n,hl⟩
 . cases hc
theorem Pc (m:List Value)(off n:Nat):(m.toArray.extract off (off+n))=((m.drop off).take n).toArray:=by
 rw[List.extract_toArray,List.extract_eq_drop_take'];simp[List.drop_take]
theorem ph {ag:Bool}(hs:shapeOf P t=some (n,ag)){l:List AV}{m:List Value}(h:VL ρ w l m){off:Nat}{v:AV}(hv:partOf l off n ag=some v) :
 ∃v',(part t m.toArray off).run P w = .ok v' w/\V ρ w v v':=by
 obtain⟨i,d,h1,h2,rfl,rfl⟩:=ra hs;unfold partOf at hv;simp only[part,Sem.run_bind,FE h2,Result.andThen_ok];split at hv
 . rename_i hag;simp only[Option.map_eq_some_iff]at hv;obtain⟨r,hr,rfl⟩:=hv;obtain⟨hr1,hr2⟩:=Pb h hr;rw[if_pos hag];refine⟨.agg ((m.drop off).take i.size).toArray,?_,V.qY hr1⟩;simp only[Sem.run_bind,gG h1,Result.andThen_ok,Pc];rfl
 . rename_i hag;rw[if_neg hag];obtain⟨y,hy1,hy2⟩:=h.get hv;refine⟨y,?_,hy2⟩;have:m.toArray[off]? = some y:=by simpa using hy1
   rw[this];rfl
theorem Pd {i:Nat}{x:List AV}(hx:V ρ w (.aq x) x'){v:AV}(h:x[i]? = some v):∃v',(Instr.extract x' i).run P w = .ok v' w/\V ρ w v v':=by
 obtain⟨m,rfl,hl⟩:=hx.FC;obtain⟨y,hy1,hy2⟩:=hl.get h;refine⟨y,?_,hy2⟩;have:m.toArray[i]? = some y:=by simpa using hy1
 simp only[Instr.extract,this];rfl
theorem Pe (hd:P.underlying t=some (.pointer e)){x y:AV}{x' y':Value}(hx:V ρ w x x')(hy:V ρ w y y'){r:Bool}
 (h:jb .ptr x y=some r):(Op.equalIn (n+1) t x' y').run P w = .ok r w:=by
 unfold jb at h;split at h
 all_goals first|contradiction|skip
 all_goals (cases h;cases hx <;> cases hy <;> simp[Op.equalIn,bS hd])
theorem Pf (hd:P.underlying t=some (.slice e)){x y:AV}{x' y':Value}(hx:V ρ w x x')(hy:V ρ w y y'){r:Bool}
 (h:jb .slice x y=some r):(Op.equalIn (n+1) t x' y').run P w = .ok r w:=by
 unfold jb at h;split at h
 all_goals first|contradiction|skip
 all_goals (cases h;cases hx <;> cases hy <;> simp[Op.equalIn,bS hd])
theorem Pg {k:TypeId}(hd:P.underlying t=some (.map k e)){x y:AV}{x' y':Value}(hx:V ρ w x x')(hy:V ρ w y y'){r:Bool}
 (h:jb .map x y=some r):(Op.equalIn (n+1) t x' y').run P w = .ok r w:=by
 unfold jb at h;split at h
 all_goals first|contradiction|skip
 all_goals (cases h;cases hx <;> cases hy <;> simp[Op.equalIn,bS hd])
theorem Ph {ps rs:Array TypeId}{vr:Bool}(hd:P.underlying t=some (.func ps rs vr)){x y:AV}{x' y':Value}(hx:V ρ w x x')(hy:V ρ w y y'){r:Bool}
 (h:jb .func x y=some r):(Op.equalIn (n+1) t x' y').run P w = .ok r w:=by
 unfold jb at h;split at h
 all_goals first|contradiction|skip
 all_goals (cases h;cases hx <;> cases hy <;> simp[Op.equalIn,bS hd])
theorem Pj {f d:Nat}(ih:∀(g:Bool) (T:TypeId) (t:gD),gV P d g T=some t->∀(x y:AV) (x' y':Value) (r:Bool),V ρ w x x'->V ρ w y y'->dQ f t x y=some r ->
 ∀n,f<=n->(Op.equalIn n T x' y').run P w = .ok r w){n:Nat}(hn:f<=n){xs ys:List AV}{xm ym:List Value}(hx:VL ρ w xs xm)(hy:VL ρ w ys ym) :
 ∀(l:List Field) (fs:List (Nat×Nat×Bool×gD)),qV P (fun t=>gV P d true t) l=some fs->∀r,goEq (fun t x y=>dQ f t x y) fs xs ys=some r ->
  (Op.eqFields n xm.toArray ym.toArray l).run P w = .ok r w:=by
 intro l;induction l with
 | nil=>
  intro fs hf r h;simp[qV]at hf;subst hf;simp[goEq]at h;subst h;simp[Op.eqFields]
 | cons fd l ihl=>
  intro fs hf r h;simp only[qV]at hf;split at hf
  . rename_i l' hl';split at hf
    . rename_i hname;cases hf;simp only[Op.eqFields];rw[if_neg (by simpa using hname)];exact ihl _ hl' r h
    . rename_i hname;split at hf
      . rename_i k ag e hs he;cases hf;simp only[goEq]at h;split at h
        . rename_i a b ha hb;obtain⟨a',ha1,ha2⟩:=ph hs hx ha;obtain⟨b',hb1,hb2⟩:=ph hs hy hb;simp only[Op.eqFields];rw[if_pos (by simpa using hname)];simp only[Sem.run_bind,ha1,hb1,Result.andThen_ok];split at h
          . rename_i hr;rw[ih true fd.type e he a b a' b' true ha2 hb2 hr n hn];simp only[Result.andThen_ok,Bool.not_true,Bool.false_eq_true,if_false];exact ihl _ hl' r h
          . rename_i hr;cases h;rw[ih true fd.type e he a b a' b' false ha2 hb2 hr n hn];simp
          . cases h
        . cases h
      . cases hf
  . cases hf
theorem Pk {f d:Nat}(ih:∀(g:Bool) (T:TypeId) (t:gD),gV P d g T=some t->∀(x y:AV) (x' y':Value) (r:Bool),V ρ w x x'->V ρ w y y'->dQ f t x y=some r ->
 ∀n,f<=n->(Op.equalIn n T x' y').run P w = .ok r w){n:Nat}(hn:f<=n){xs ys:List AV}{xm ym:List Value}(hx:VL ρ w xs xm)(hy:VL ρ w ys ym)
 {e:TypeId} {k:Nat} {ag:Bool} {q:gD} (hs:shapeOf P e=some (k,ag)) (hc:P.cellsOf e=k) (he:gV P d true e=some q) :
 ∀(m i:Nat) r,goEq (fun t x y=>dQ f t x y) (qW k ag q m i) xs ys=some r ->
  (Op.eqItems n e (P.cellsOf e) xm.toArray ym.toArray (List.range' i m)).run P w = .ok r w:=by
 intro m;induction m with
 | zero=>
  intro i r h;simp[qW,goEq]at h;subst h;simp[Op.eqItems]
 | succ m ihm=>
  intro i r h;simp only[qW,goEq]at h;rw[List.range'_succ];split at h
  . rename_i a b ha hb;obtain⟨a',ha1,ha2⟩:=ph hs hx ha;obtain⟨b',hb1,hb2⟩:=ph hs hy hb;simp only[Op.eqItems,hc];simp only[Sem.run_bind,ha1,hb1,Result.andThen_ok];split at h
    . rename_i hr;rw[ih true e q he a b a' b' true ha2 hb2 hr n hn];simp only[Result.andThen_ok,Bool.not_true,Bool.false_eq_true,if_false];have:=ihm (i+1) r h;rw[hc]at this;exact this
    . rename_i hr;cases h;rw[ih true e q he a b a' b' false ha2 hb2 hr n hn];simp
    . cases h
  . cases h
theorem Pl:∀(f d:Nat) (g:Bool) (T:TypeId) (t:gD),gV P d g T=some t->∀(x y:AV) (x' y':Value) (r:Bool),V ρ w x x'->V ρ w y y'->dQ f t x y=some r ->
 ∀n,f<=n->(Op.equalIn n T x' y').run P w = .ok r w:=by
 intro f;induction f with
 | zero=>intro d g T t _ x y x' y' r _ _ h;simp[dQ]at h
 | succ f ih=>
  intro d g T t ht x y x' y' r hx hy h n hn;obtain⟨n,rfl⟩:∃m,n=m+1:=⟨n-1,by omega⟩;cases d with
  | zero=>simp[gV]at ht
  | succ d=>
   simp only[gV]at ht;cases hu:P.underlying T with
   | none=>simp[hu]at ht
   | some u=>
    simp only[hu]at ht;cases u <;> simp only[Option.some.injEq,reduceCtorEq]at ht
    case bool=>
     subst ht;simp only[dQ]at h;split at h <;> simp_all
     obtain rfl:=hx.me;obtain rfl:=hy.me;simp[Op.equalIn,bS hu,h]
    case int k=>
     subst ht;simp only[dQ]at h;split at h <;> simp_all
     obtain rfl:=hx.fY;obtain rfl:=hy.fY;obtain⟨rfl,h⟩:=h;simp[Op.equalIn,bS hu,h]
    case string=>
     subst ht;simp only[dQ]at h;split at h <;> simp_all
     obtain rfl:=hx.jC;obtain rfl:=hy.jC;rw[run_equalIn_string w n T _ _ hu];simp[h]
    case pointer e=>subst ht;exact Pe hu hx hy (by simpa[dQ] using h)
    case slice e=>subst ht;exact Pf hu hx hy (by simpa[dQ] using h)
    case map k e=>subst ht;exact Pg hu hx hy (by simpa[dQ] using h)
    case func ps rs vr=>subst ht;exact Ph hu hx hy (by simpa[dQ] using h)
    case interface ms=>
     subst ht;simp only[dQ]at h;generalize hg:(g && !ms.isEmpty)=g' at h;clear hg;split at h
     all_goals first|(rename_i heq;cases heq;done)|(rename_i heq _ _;cases heq;done)|skip
     all_goals first|(simp at h;done)|skip
     all_goals (cases hx;cases hy;first|(split at h;(cases h);(cases h;simp[Op.equalIn,bS hu]))|(cases h;simp[Op.equalIn,bS hu]))
    case struct fs=>
     split at ht
     . cases ht
     . rename_i hst;simp only[Option.map_eq_some_iff]at ht;obtain⟨l,hl,rfl⟩:=ht;simp only[dQ]at h;split at h <;> try (simp_all;done)
       rename_i fs' xs ys heq;cases heq;obtain⟨xm,rfl,hxm⟩:=hx.iP;obtain⟨ym,rfl,hym⟩:=hy.iP;have hfo:P.fieldsOf T=fs:=by simp[Program.fieldsOf,hu]
       rw[run_equalIn_struct w n T _ _ (by rw[hfo];exact hu) (by simpa using hst),hfo];exact Pj (fun g T t ht x y x' y' r h1 h2 h3 n hn=>ih d g T t ht x y x' y' r h1 h2 h3 n hn) (by omega) hxm hym _ _ hl r h
    case array m e=>
     split at ht
     . rename_i k ag q hs hq;cases ht;simp only[dQ]at h;split at h <;> try (simp_all;done)
       rename_i fs' xs ys heq;cases heq;obtain⟨xm,rfl,hxm⟩:=hx.iP;obtain⟨ym,rfl,hym⟩:=hy.iP;obtain⟨i,dd,hi,_,hk,_⟩:=ra hs;have hc:P.cellsOf e=k:=by simp[Program.cellsOf,hi,hk]
       rw[run_equalIn_array w n _ _ hu hi,List.range_eq_range'];exact Pk (fun g T t ht x y x' y' r h1 h2 h3 n hn=>ih d g T t ht x y x' y' r h1 h2 h3 n hn) (by omega) hxm hym hs hc hq m 0 r h
     . cases ht
end Go.Ab

/-
  Own work: the operations that do not look at the heap, continued: addresses, slices, composites; all of them together.
-/
namespace Go.Ab
variable {l o n len esz dflt most r capC:Nat} {f:Field} {i:TypeInfo} {t e:TypeId} {cap:Option Nat} {x:Option AV} {a:Option Addr}
variable {P:Program} {gl:Nat->Option AV} {ρ:au} {w:World}
theorem Pm {src dst:TypeId}{k k':IntKind}(hs:P.underlying src=some (.int k'))(hd:P.underlying dst=some (.int k)){x v:AV}{x':Value}(hx:V ρ w x x')
 (h:lO k x=some v):∃v',(convert src dst x').run P w = .ok v' w/\V ρ w v v':=by
 unfold lO at h;split at h
 . cases h;obtain rfl:=hx.fY;exact⟨_,by simp[convert,bS hs,bS hd,Conv.intToInt] <;> rfl,.int _ _⟩
 . cases h
theorem Pn {x v:AV}{x':Value}(hx:V ρ w x x')(h:yJ x=some v)(t:TypeId)(pos:String)(dst:Option Tmp)(af:Array Edge)(g:Option (Nat×Bool))(e:Operand->Value)(X:Operand)(hX:e X=x') :
 ∃v',(execOp e ⟨dst,.nilCheck X,t,pos,af,g⟩).run P w = .ok (.value v') w/\V ρ w v v':=by
 unfold yJ at h;simp only[execOp,hX];split at h <;> cases h
 . cases hx with
   | ptr _ hb=>exact⟨_,rfl,.ptr _ hb⟩
   | dO _ _ _ hb=>exact⟨_,rfl,.dO _ _ _ hb⟩
 . cases hx with
   | vp c o g hf hc hg=>exact⟨_,rfl,.vp c o g hf hc hg⟩
 . cases hx with
   | fn hf h1 h2 g1 g2=>exact⟨_,rfl,.fn hf h1 h2 g1 g2⟩
 . cases hx with
   | yield hb=>exact⟨_,rfl,.yield hb⟩
   | fn hf h1 h2 g1 g2=>exact absurd rfl (hf _)
   | gE c hb=>exact⟨_,rfl,.gE c hb⟩
theorem Addr.gH (c o n:Nat):(⟨c,o,none⟩:Addr).add n=⟨c,o+n,none⟩:=by
 unfold Addr.add;split
 . rename_i h;subst h;rfl
 . rfl
theorem zD {l:List AV}{c:Nat}(h:V ρ w (.vp l) (.pointer (some ⟨c,o,none⟩)))(n:Nat):V ρ w (.vp (l.drop n)) (.pointer (some ⟨c,o+n,none⟩)):=by
 cases h with
 | vp c o g hf hc hg=>
  refine .vp c (o+n) (fun i=>g (n+i)) (fun hn=>hf (fun e=>hn (by rw[e];simp))) (fun i hi=>?_) (fun i x hx=>?_)
  . rw[show o+n+i=o+(n+i) from by omega];exact hc (n+i) (by simp at hi;omega)
  . exact hg (n+i) x (by simpa using hx)
theorem FF {l:List AV}{v:Value}(h:V ρ w (.vp l) v):∃c o,v = .pointer (some ⟨c,o,none⟩):=by
 cases h with|vp c o g hf hc hg=>exact⟨c,o,rfl⟩
theorem Po {a:Addr}(hi:P.info? f.type=some i)(h0:i.size≠0):(fieldPlace a f).run P w = .ok (a.add f.offset) w:=by
 simp[fieldPlace,gG hi,h0]
theorem Pp {fs:Array Field}(hu:P.underlying t=some (.struct fs))(hf:fs[n]? = some f)(hi:P.info? f.type=some i)(h0:i.size≠0)
 {x v:AV} {x':Value} (hx:V ρ w x x') (h:yI f.offset x=some v):∃v',(Instr.fieldAt t x' n).run P w = .ok v' w/\V ρ w v v':=by
 have key:∀a,x' = .pointer (some a)->(Instr.fieldAt t x' n).run P w = .ok (.pointer (some (a.add f.offset))) w:=by
  rintro a rfl;simp[Instr.fieldAt,bS hu,hf,Instr.sureAddr,Po hi h0]
 unfold yI at h;split at h <;> cases h
 . cases hx with
   | ptr _ hb=>
    refine⟨_,key _ rfl,?_⟩;rw[Addr.gH,Nat.add_right_comm];exact .ptr _ hb
   | dO _ _ _ hb=>exact⟨_,key _ rfl,by rw[Addr.gH];exact .dO _ _ _ hb⟩
 . obtain⟨c,o,rfl⟩:=FF hx;refine⟨_,key _ rfl,?_⟩;rw[Addr.gH];exact zD hx _
theorem pj (k:IntKind)(n:Int):(asIntOf (.int k n)).run P w = .ok (k,n) w:=rfl
theorem Pq {l:List AV}{v:Value}(h:V ρ w (.vs l len cap) v)(hn:0<len):∃c o capC,v = .slice (some ⟨c,o,none⟩) len capC/\V ρ w (.vp l) (.pointer (some ⟨c,o,none⟩)):=by
 cases h with
 | vs c o g hf hl hcap hc hg=>exact⟨c,o,_,rfl,.vp c o g hf hc hg⟩
 | dT hcap=>omega
 | fm a hcap=>omega
theorem zE (hu:P.underlying t=some (.slice e))(hi:P.info? e=some i){k:IntKind}{n:Int}{a:Addr}{len capC:Nat}(h0:0<=n)(h1:n<len) :
 (Instr.indexAt t (.slice (some a) len capC) (.int k n)).run P w = .ok (.pointer (some (a.add (n.toNat*i.size)))) w:=by
 simp[Instr.indexAt,pj,bS hu,gG hi,h0,h1]
theorem zF (hu:P.underlying t=some (.array len e))(hi:P.info? e=some i){k:IntKind}{n:Int}{a:Addr}(h0:0<=n)(h1:n<len) :
 (Instr.indexAt t (.pointer (some a)) (.int k n)).run P w = .ok (.pointer (some (a.add (n.toNat*i.size)))) w:=by
 simp[Instr.indexAt,pj,bS hu,gG hi,h0,h1,Instr.sureAddr]
theorem FG {arr:Option Nat}(hu:P.underlying t=some (match arr with|some len=>.array len e|none=>.slice e))(hi:P.info? e=some i)
 {x y v:AV} {x' y':Value} (hx:V ρ w x x') (hy:V ρ w y y') (h:mV arr i.size x y=some v):∃v',(Instr.indexAt t x' y').run P w = .ok v' w/\V ρ w v v':=by
 unfold mV at h;split at h
 . rename_i k n;obtain rfl:=hy.fY;split at h
   . split at h
     . rename_i hb;cases h;cases hx with
       | ptr _ hr=>
        refine⟨_,zF hu hi hb.1 hb.2,?_⟩;rw[Addr.gH,Nat.add_right_comm];exact .ptr _ hr
       | dO _ _ _ hr=>exact⟨_,zF hu hi hb.1 hb.2,by rw[Addr.gH];exact .dO _ _ _ hr⟩
     . cases h
   . split at h
     . rename_i hb;cases h;obtain⟨c,o,rfl⟩:=FF hx;refine⟨_,zF hu hi hb.1 hb.2,?_⟩;rw[Addr.gH];exact zD hx _
     . cases h
   . split at h
     . rename_i hb;cases h;obtain⟨h0,h1,rfl⟩:=hb;cases hx with
       | sl hr hl hcap hs=>
        refine⟨_,zE hu hi h0 h1,?_⟩;rw[Addr.gH,Nat.add_right_comm];exact .ptr _ hr
       | fk hr=>simp at h1;omega
       | dX _ _ hr hl hcap=>exact⟨_,zE hu hi h0 h1,by rw[Addr.gH];exact .dO _ _ _ hr⟩
       | fe hr=>simp at h1;omega
       | fl a hr=>simp at h1;omega
     . cases h
   . split at h
     . rename_i hb;cases h;obtain⟨h0,h1⟩:=hb;obtain⟨c,o,capC,rfl,hv⟩:=Pq hx (by omega);refine⟨_,zE hu hi h0 h1,?_⟩;rw[Addr.gH];exact zD hv _
     . cases h
   . cases h
 . cases h
theorem Pr (hu:P.underlying t=some .string){x y v:AV}{x' y':Value}(hx:V ρ w x x')(hy:V ρ w y y')(h:tr x y=some v) :
 ∃v',(Instr.index t x' y').run P w = .ok v' w/\V ρ w v v':=by
 unfold tr at h;split at h
 . rename_i s k n;obtain rfl:=hx.jC;obtain rfl:=hy.fY;split at h
   . rename_i h0;simp only[Option.map_eq_some_iff]at h;obtain⟨c,hc,rfl⟩:=h;refine⟨.int .u8 c.toNat,?_,.int _ _⟩;have e:(ByteArray.mk s.toArray)[n.toNat]? = some c:=by
      have hlt:=(List.getElem?_eq_some_iff.1 hc).1;have:n.toNat<(ByteArray.mk s.toArray).size:=by simpa[ByteArray.size] using hlt
      rw[getElem?_pos (ByteArray.mk s.toArray) n.toNat this];have h2:=(List.getElem?_eq_some_iff.1 hc).2;congr 1
     simp[Instr.index,pj,bS hu,h0,e]
   . cases h
 . cases h
theorem Ps {ag:Bool}(hu:P.underlying t=some (.array len e))(hs:shapeOf P e=some (esz,ag)){l:List AV}{x':Value}(hx:V ρ w (.agg l) x')
 {k:IntKind} {n:Int} (h0:0<=n) (h1:n<len) {v:AV} (h:partOf l (n.toNat*esz) esz ag=some v):∃v',(Instr.index t x' (.int k n)).run P w = .ok v' w/\V ρ w v v':=by
 obtain⟨m,rfl,hm⟩:=hx.iP;obtain⟨i,d,hi,hd,rfl,rfl⟩:=ra hs;obtain⟨v',h2,h3⟩:=ph hs hm h;refine⟨v',?_,h3⟩;simp[Instr.index,pj,bS hu,gG hi,h0,h1,h2]
theorem Pt {fs:Array Field}{sz:Nat}{ag:Bool}(hu:P.underlying t=some (.struct fs))(hf:fs[n]? = some f)(hs:shapeOf P f.type=some (sz,ag))
 {l:List AV} {x':Value} (hx:V ρ w (.agg l) x') {v:AV} (h:partOf l f.offset sz ag=some v):∃v',(Instr.field t x' n).run P w = .ok v' w/\V ρ w v v':=by
 obtain⟨m,rfl,hm⟩:=hx.iP;obtain⟨v',h2,h3⟩:=ph hs hm h;refine⟨v',?_,h3⟩;simp[Instr.field,bS hu,hf,asAgg,h2]
theorem mf {a:AV}{b:Value}(hx:V ρ w a b){dflt most r:Nat}(h:bM (some a) dflt most=some r) :
 (∀code,(Instr.sliceBound b most code).run P w = .ok r w)/\r<=most:=by
 unfold bM at h;split at h
 . rename_i heq;cases heq
 . rename_i k n heq;cases heq;split at h
   . rename_i hb;cases h;obtain rfl:=hx.fY;exact⟨fun code=>by simp[Instr.sliceBound,pj,hb.1,hb.2],by omega⟩
   . cases h
 . cases h
theorem rf (h:bM none dflt most=some r):r=dflt:=by
 simp[bM]at h;exact h.symm
def VO (ρ:au)(w:World):Option AV->Option Value->Prop
 | none,none=>True
 | some a,some b=>V ρ w a b
 | _,_=>False
theorem zG {isS:Bool}{cap:Nat}{lo hi mx:Option AV}{lo' hi' mx':Option Value}(hl:VO ρ w lo lo')(hh:VO ρ w hi hi')(hm:VO ρ w mx mx')
 {m h l:Nat} (h1:bM mx cap cap=some m) (h2:bM hi len m=some h) (h3:bM lo 0 h=some l) (hmh:mx=none\/hi≠none) :
 (Instr.sliceBounds isS len cap lo' hi' mx').run P w = .ok (l,h,m) w:=by
 unfold Instr.sliceBounds;cases mx with
 | none=>
  cases mx' with
  | some _=>exact hm.elim
  | none=>
   obtain rfl:=rf h1;cases hi with
   | none=>
    cases hi' with
    | some _=>exact hh.elim
    | none=>
     obtain rfl:=rf h2;cases lo with
     | none=>
      cases lo' with
      | some _=>exact hl.elim
      | none=>obtain rfl:=rf h3;simp
     | some a=>
      cases lo' with
      | none=>exact hl.elim
      | some b=>simp[(mf (P:=P) hl h3).1]
   | some c=>
    cases hi' with
    | none=>exact hh.elim
    | some d=>
     have e2:=(mf (P:=P) hh h2).1;cases lo with
     | none=>
      cases lo' with
      | some _=>exact hl.elim
      | none=>obtain rfl:=rf h3;simp[e2]
     | some a=>
      cases lo' with
      | none=>exact hl.elim
      | some b=>simp[e2,(mf (P:=P) hl h3).1]
 | some x=>
  cases mx' with
  | none=>exact hm.elim
  | some y=>
   have e1:=(mf (P:=P) hm h1).1;cases hi with
   | none=>
             rcases hmh with h|h
             . cases h
             . exact absurd rfl h
   | some c=>
    cases hi' with
    | none=>exact hh.elim
    | some d=>
     have e2:=(mf (P:=P) hh h2).1;cases lo with
     | none=>
      cases lo' with
      | some _=>exact hl.elim
      | none=>obtain rfl:=rf h3;simp[e1,e2]
     | some a=>
      cases lo' with
      | none=>exact hl.elim
      | some b=>simp[e1,e2,(mf (P:=P) hl h3).1]
theorem zH (h:bM x dflt most=some r):r<=max dflt most:=by
 unfold bM at h;split at h
 . cases h;omega
 . split at h
   . cases h;omega
   . cases h
 . cases h
theorem kS (hd:dflt<=most)(h:bM x dflt most=some r):r<=most:=by
 have:=zH h;omega
theorem tN {most':Nat}(hm:most<=most')(h:bM x dflt most=some r):bM x dflt most'=some r:=by
 unfold bM at *
 split at h
 . exact h
 . split at h
   . rename_i hb;rw[if_pos ⟨hb.1,by omega⟩];exact h
   . cases h
 . cases h
theorem zI (s:List UInt8)(l h:Nat):(ByteArray.mk s.toArray).extract l h=⟨((s.drop l).take (h-l)).toArray⟩:=by
 apply ByteArray.ext;rw[ByteArray.data_extract];simp
theorem Pu {b h:Nat}(hx:V ρ w (.sl b o len esz cap) (.slice a len capC))(hlh:l<h)(hhc:h<=capC)(m:Nat)(hm:m<=capC)(hhm:h<=m)(cap':Option Nat)
 (hc':∀n,cap'=some n->m-l=n):V ρ w (.sl b (o+l*esz) (h-l) esz cap') (.slice (if m=l then a else a.map (·.add (l*esz))) (h-l) (m-l)):=by
 have hne:m≠l:=by omega
 rw[if_neg hne];cases hx with
 | sl hr hl hcap hs=>
  obtain⟨cs,e,fr,h1,h2⟩:=hs;simp only[Option.map_some];rw[Addr.gH,Nat.add_right_comm];refine .sl hr (by omega) hc' ⟨cs,e,fr,h1,?_⟩;have e1:l*esz+(m-l)*esz=m*esz:=by rw[←Nat.add_mul];congr 1;omega
  have e2:m*esz<=capC*esz:=Nat.mul_le_mul_right _ hm;omega
 | fk hr=>omega
 | dX _ _ hr hl hcap=>simp only[Option.map_some];rw[Addr.gH];exact .dX _ _ hr (by omega) hc'
 | fe hr=>omega
 | fl a hr=>omega
theorem Pv {c:List AV}{h:Nat}(hx:V ρ w (.vs c len cap) (.slice a len capC))(hlh:l<=h)(m:Nat)(hhm:h<=m)(cap':Option Nat)
 (hc':∀n,cap'=some n->m-l=n) (hm:m<=capC):V ρ w (.vs ((c.drop (l*esz)).take ((h-l)*esz)) (h-l) cap') (.slice (if m=l then a else a.map (·.add (l*esz))) (h-l) (m-l)):=by
 cases hx with
 | vs c' o g hf hl hcap hcc hg=>
  by_cases hne:m=l
  . rw[if_pos hne];have e1:h-l=0:=by omega
    rw[e1];simp only[Nat.zero_mul,List.take_zero];exact .vs c' o g (fun h=>absurd rfl h) (by omega) hc' (by simp) (by simp)
  . rw[if_neg hne];simp only[Option.map_some];rw[Addr.gH];refine .vs c' (o+l*esz) (fun i=>g (l*esz+i)) (fun hn=>hf (fun e=>hn (by rw[e];simp))) (by omega) hc' (fun i hi=>?_) (fun i x hx=>?_)
    . rw[Nat.add_assoc];refine hcc _ ?_;simp at hi;omega
    . rw[List.getElem?_take]at hx;split at hx
      . exact hg _ x (by simpa using hx)
      . cases hx
 | dT hcap=>
  have:m=0:=by omega
  subst this;have:l=0:=by omega
  subst this;have:h=0:=by omega
  subst this;simp;exact .dT (fun n hn=>(hc' n hn).symm)
 | fm a hcap=>
  have:m=0:=by omega
  subst this;have:l=0:=by omega
  subst this;have:h=0:=by omega
  subst this;simp;exact .fm a (fun n hn=>(hc' n hn).symm)
theorem V.empty {c:Nat}(ha:a=none->c=0)(hs:∀x,a=some x->x.spot=none\/c=0)(hc:∀n,cap=some n->c=n):V ρ w (.vs [] 0 cap) (.slice a 0 c):=by
 cases a with
 | none=>obtain rfl:=ha rfl;exact .dT (fun n hn=>(hc n hn).symm)
 | some x=>
  obtain⟨b,o,sp⟩:=x;rcases hs _ rfl with h|rfl
  . obtain rfl:sp=none:=h;exact .vs b o (fun _=>Go.undef) (fun h=>absurd rfl h) (Nat.zero_le _) hc (by simp) (by simp)
  . exact .fm _ (fun n hn=>(hc n hn).symm)
theorem Pw (hu:P.underlying t=some .string){s:List UInt8}{lo hi:Option AV}{lo' hi':Option Value}(hl:VO ρ w lo lo')(hh:VO ρ w hi hi')
 {h l:Nat} (h2:bM hi s.length s.length=some h) (h3:bM lo 0 h=some l) :
 (Instr.sliceAt t (.string ⟨s.toArray⟩) lo' hi' none).run P w = .ok (.string ⟨((s.drop l).take (h-l)).toArray⟩) w:=by
 have e:(ByteArray.mk s.toArray).size=s.length:=by simp[ByteArray.size]
 have b:=zG (P:=P) (isS:=false) (len:=s.length) (cap:=s.length) hl hh (show VO ρ w none none from trivial) (m:=s.length) (by simp[bM]) h2 h3 (.inl rfl);simp only[Instr.sliceAt,Instr.slice,Sem.run_bind,bS hu,Result.andThen_ok];simp[e,b,zI]
theorem zJ (hu:P.underlying t=some (.slice e))(hi:P.info? e=some i){a:Option Addr}{len capC:Nat}{lo hi' mx:Option AV}{lo' hi'' mx':Option Value}
 (hl:VO ρ w lo lo') (hh:VO ρ w hi' hi'') (hm:VO ρ w mx mx') {h l m:Nat} (h1:bM mx capC capC=some m) (h2:bM hi' len m=some h) (h3:bM lo 0 h=some l) (hmh:mx=none\/hi'≠none) :
 (Instr.sliceAt t (.slice a len capC) lo' hi'' mx').run P w = .ok (.slice (if m=l then a else a.map (·.add (l*i.size))) (h-l) (m-l)) w:=by
 have b:=zG (P:=P) (isS:=true) hl hh hm h1 h2 h3 hmh;simp only[Instr.sliceAt,Instr.slice,Sem.run_bind,bS hu,Result.andThen_ok];simp[b,gG hi]
theorem Px (hu:P.underlying t=some (.array n e))(hi:P.info? e=some i){a:Addr}{lo hi':Option AV}{lo' hi'':Option Value}
 (hl:VO ρ w lo lo') (hh:VO ρ w hi' hi'') {h l:Nat} (h2:bM hi' n n=some h) (h3:bM lo 0 h=some l) :
 (Instr.sliceAt t (.pointer (some a)) lo' hi'' none).run P w = .ok (.slice (some (if n=l then a else a.add (l*i.size))) (h-l) (n-l)) w:=by
 have b:=zG (P:=P) (isS:=false) (len:=n) (cap:=n) hl hh (show VO ρ w none none from trivial) (m:=n) (by simp[bM]) h2 h3 (.inl rfl);simp only[Instr.sliceAt,Sem.run_bind,bS hu,Result.andThen_ok];simp[b,gG hi,Instr.sureAddr]
theorem Py {m:Nat}(hm:m<=capC)(ha:∀x,a=some x->x.spot=none\/capC=0)(n:Nat)(c:Prop)[Decidable c]:∀x,(if c then a else a.map (·.add n))=some x->x.spot=none\/m-l=0:=by
 intro x hx;split at hx
 . rcases ha x hx with h|h
   . exact .inl h
   . exact .inr (by omega)
 . simp only[Option.map_eq_some_iff]at hx;obtain⟨y,hy,rfl⟩:=hx;rcases ha y hy with this|h
   . refine .inl ?_;unfold Addr.add;split
     . exact this
     . rfl
   . exact .inr (by omega)
theorem jX {x:AV}{x':Value}(hx:V ρ w x x')(hk:match x with | .ae | .sl .. | .vs .. => True|_=>False) :
 ∃a len capC,x' = .slice a len capC/\len<=capC/\(∀y,a=some y->y.spot=none\/capC=0)/\(a=none->capC=0):=by
 cases hx <;> simp at hk
 case ae=>exact⟨none,0,0,rfl,Nat.le_refl _,by simp,fun _=>rfl⟩
 case sl hr hl hcap hs=>exact⟨_,_,_,rfl,hl,by rintro y ⟨⟩;exact .inl rfl,by simp⟩
 case fk=>exact⟨none,0,0,rfl,Nat.le_refl _,by simp,fun _=>rfl⟩
 case dX hr hl hcap=>exact⟨_,_,_,rfl,hl,by rintro y ⟨⟩;exact .inl rfl,by simp⟩
 case fe=>exact⟨none,0,0,rfl,Nat.le_refl _,by simp,fun _=>rfl⟩
 case vs hf hl hcap hc hg=>exact⟨_,_,_,rfl,hl,by rintro y ⟨⟩;exact .inl rfl,by simp⟩
 case dT hcap=>exact⟨none,0,0,rfl,Nat.le_refl _,by simp,fun _=>rfl⟩
 case fm a hcap=>exact⟨some a,0,0,rfl,Nat.le_refl _,fun _ _=>.inr rfl,fun h=>by cases h⟩
 case fl a h=>exact⟨some a,0,0,rfl,Nat.le_refl _,fun _ _=>.inr rfl,fun h=>by cases h⟩
theorem ri {b len':Nat}(hx:V ρ w (.sl b o len esz cap) (.slice a len' capC)):len'=len/\∀n,cap=some n->capC=n:=by
 cases hx with
 | sl hr hl hcap hs=>exact⟨rfl,hcap⟩
 | fk hr=>exact⟨rfl,by simp⟩
 | dX _ _ hr hl hcap=>exact⟨rfl,hcap⟩
 | fe hr=>exact⟨rfl,by simp⟩
 | fl a hr=>exact⟨rfl,fun n hn=>by cases hn;rfl⟩
theorem rj {c:List AV}{len':Nat}(hx:V ρ w (.vs c len cap) (.slice a len' capC)):len'=len/\∀n,cap=some n->capC=n:=by
 cases hx with
 | vs c o g hf hl hcap hc hg=>exact⟨rfl,hcap⟩
 | dT hcap=>exact⟨rfl,fun n hn=>(hcap n hn).symm⟩
 | fm a hcap=>exact⟨rfl,fun n hn=>(hcap n hn).symm⟩
theorem Pz (hl:len<=capC)(hc:∀n,cap=some n->capC=n):cap.getD len<=capC:=by
 cases cap with
 | none=>exact hl
 | some n=>rw[hc n rfl];exact Nat.le_refl _
theorem FH (hc:∀n,cap=some n->capC=n):∀n,cap.map (· - l)=some n->capC-l=n:=by
 intro n hn;simp only[Option.map_eq_some_iff]at hn;obtain⟨c,hc',rfl⟩:=hn;rw[hc c hc']
theorem FI (hu:P.underlying t=some (.slice e))(hi:P.info? e=some i){b o len:Nat}{cap:Option Nat}{a:Option Addr}{len' capC:Nat}(hx:V ρ w (.sl b o len i.size cap) (.slice a len' capC))
 {lo hi' mx:Option AV} {lo' hi'' mx':Option Value} (hl:VO ρ w lo lo') (hh:VO ρ w hi' hi'') (hm:VO ρ w mx mx') {h l m:Nat}
 (h1:bM mx capC capC=some m) (h2:bM hi' len m=some h) (h3:bM lo 0 h=some l) (hmh:mx=none\/hi'≠none) (hhm:h<=m) (hmc:m<=capC) (cap':Option Nat) (hc':∀n,cap'=some n->m-l=n) :
 ∃v',(Instr.sliceAt t (.slice a len' capC) lo' hi'' mx').run P w = .ok v' w/\V ρ w (if l<h then .sl b (o+l*i.size) (h-l) i.size cap' else .vs [] 0 cap') v':=by
 obtain⟨_,_,_,he,hlc,hsp,hnil⟩:=jX hx trivial;cases he;obtain⟨rfl,hcap⟩:=ri hx;refine⟨_,zJ (P:=P) hu hi hl hh hm h1 h2 h3 hmh,?_⟩;have hlh:=kS (Nat.zero_le _) h3;split
 . rename_i hlt;exact Pu hx hlt (by omega) m hmc hhm _ hc'
 . rename_i hlt;have e0:h-l=0:=by omega
   rw[e0];refine V.empty (fun e=>?_) (Py hmc hsp _ _) hc';split at e
   . omega
   . rw[Option.map_eq_none_iff]at e;have:=hnil e;omega
theorem FJ (hu:P.underlying t=some (.slice e))(hi:P.info? e=some i){l0:List AV}{len:Nat}{cap:Option Nat}{a:Option Addr}{len' capC:Nat}(hx:V ρ w (.vs l0 len cap) (.slice a len' capC))
 {lo hi' mx:Option AV} {lo' hi'' mx':Option Value} (hl:VO ρ w lo lo') (hh:VO ρ w hi' hi'') (hm:VO ρ w mx mx') {h l m:Nat}
 (h1:bM mx capC capC=some m) (h2:bM hi' len m=some h) (h3:bM lo 0 h=some l) (hmh:mx=none\/hi'≠none) (hhm:h<=m) (hmc:m<=capC) (cap':Option Nat) (hc':∀n,cap'=some n->m-l=n) :
 ∃v',(Instr.sliceAt t (.slice a len' capC) lo' hi'' mx').run P w = .ok v' w/\V ρ w (.vs ((l0.drop (l*i.size)).take ((h-l)*i.size)) (h-l) cap') v':=by
 obtain⟨_,_,_,he,hlc,hsp,hnil⟩:=jX hx trivial;cases he;obtain⟨rfl,hcap⟩:=rj hx;exact⟨_,zJ (P:=P) hu hi hl hh hm h1 h2 h3 hmh,Pv hx (kS (Nat.zero_le _) h3) m hhm _ hc' hmc⟩
theorem FK (hu:P.underlying t=some (.slice e))(hi:P.info? e=some i){x':Value}(hx:V ρ w .ae x')
 {lo hi' mx:Option AV} {lo' hi'' mx':Option Value} (hl:VO ρ w lo lo') (hh:VO ρ w hi' hi'') (hm:VO ρ w mx mx') {h l m:Nat}
 (h1:bM mx 0 0=some m) (h2:bM hi' 0 0=some h) (h3:bM lo 0 0=some l) (hmh:mx=none\/hi'≠none) :
 ∃v',(Instr.sliceAt t x' lo' hi'' mx').run P w = .ok v' w/\V ρ w .ae v':=by
 cases hx;have e0:=kS (Nat.le_refl _) h1;obtain rfl:m=0:=by omega
 have e1:=kS (Nat.le_refl _) h2;obtain rfl:h=0:=by omega
 have e2:=kS (Nat.le_refl _) h3;obtain rfl:l=0:=by omega
 exact⟨_,zJ (P:=P) (a:=none) hu hi hl hh hm h1 h2 h3 hmh,by simpa using V.ae⟩
theorem FL {d d':Nat}(hx:x≠none)(h:bM x d most=some r):bM x d' most=some r:=by
 cases x with
 | none=>exact absurd rfl hx
 | some a=>cases a <;> exact h
theorem FM {k:lM} 
 (hk:match k with | .str=>P.underlying t=some .string | .sl=>∃e i,P.underlying t=some (.slice e)/\P.info? e=some i/\i.size=esz | .arr n=>∃e i,P.underlying t=some (.array n e)/\P.info? e=some i/\i.size=esz)
 {x v:AV} {x':Value} (hx:V ρ w x x') {lo hi mx:Option AV} {lo' hi' mx':Option Value} (hl:VO ρ w lo lo') (hh:VO ρ w hi hi') (hm:VO ρ w mx mx') (hmh:mx=none\/hi≠none)
 (h:jc k esz x lo hi mx=some v):∃v',(Instr.sliceAt t x' lo' hi' mx').run P w = .ok v' w/\V ρ w v v':=by
 cases k with
 | str=>
  cases x <;> cases mx <;> simp only[jc,reduceCtorEq]at h;cases mx' with
  | some _=>exact hm.elim
  | none=>
   obtain rfl:=hx.jC;split at h
   . rename_i hb;split at h
     . rename_i lb;cases h;exact⟨_,Pw hk hl hh hb lb,.str _⟩
     . cases h
   . cases h
 | sl=>
  obtain⟨e,i,hu,hinf,rfl⟩:=hk;cases x <;> simp only[jc,reduceCtorEq]at h
  case ae=>
   cases mx with
   | none=>
    simp only at h;split at h
    . rename_i hb lb;cases h;exact FK hu hinf hx hl hh hm (m:=0) (by simp[bM]) hb lb hmh
    . cases h
   | some m0=>
    simp only at h;split at h
    . rename_i mb hb lb;cases h;exact FK hu hinf hx hl hh hm mb hb lb hmh
    . cases h
  case sl b o len e' cap=>
   obtain⟨a,len',capC,rfl,hlc,hsp,hnil⟩:=jX hx trivial;obtain⟨rfl,hcap⟩:=ri hx;have hcc:=Pz hlc hcap;cases mx with
   | none=>
    simp only at h;split at h
    . rename_i he;subst he;split at h
      . rename_i h' hb;split at h
        . rename_i l' lb;have hhc:h'<=capC:=by
           have h1:=zH hb;have h2:=Nat.max_le.2 ⟨hlc,hcc⟩;omega
          have:=FI (P:=P) hu hinf hx hl hh hm (m:=capC) (by simp[bM]) (tN hcc hb) lb hmh hhc (Nat.le_refl _) (cap.map (· - l')) (FH hcap);split at h <;> (rename_i hlt;cases h;simpa[hlt] using this)
        . cases h
      . cases h
    . cases h
   | some m0=>
    simp only at h;split at h
    . rename_i he;subst he;split at h
      . rename_i m' mb;split at h
        . rename_i h' hb;split at h
          . rename_i l' lb;have hmc:m'<=capC:=by
             have h1:=zH mb;have h2:=Nat.max_le.2 ⟨hlc,hcc⟩;omega
            have hhi:hi≠none:=by rcases hmh with h|h;cases h;exact h
            have hhm:h'<=m':=by
             cases hi with
             | none=>exact absurd rfl hhi
             | some c=>
              cases hi' with
              | none=>exact hh.elim
              | some d=>exact(mf (P:=P) hh hb).2
            have:=FI (P:=P) hu hinf hx hl hh hm (FL (by simp) (tN hcc mb)) hb lb hmh hhm hmc (some (m'-l')) (by intro n hn;cases hn;rfl);split at h <;> (rename_i hlt;cases h;simpa[hlt] using this)
          . cases h
        . cases h
      . cases h
    . cases h
  case vs l0 len cap=>
   obtain⟨a,len',capC,rfl,hlc,hsp,hnil⟩:=jX hx trivial;obtain⟨rfl,hcap⟩:=rj hx;cases mx with
   | none=>
    simp only at h;split at h
    . rename_i h' hb;split at h
      . rename_i l' lb;cases h;have hhc:h'<=len':=kS (Nat.le_refl _) hb;exact FJ (P:=P) hu hinf hx hl hh hm (m:=capC) (by simp[bM]) (tN hlc hb) lb hmh (by omega) (Nat.le_refl _) (cap.map (· - l')) (FH hcap)
      . cases h
    . cases h
   | some m0=>
    simp only at h;split at h
    . rename_i m' mb;split at h
      . rename_i h' hb;split at h
        . rename_i l' lb;cases h;have hmc:m'<=len':=kS (Nat.le_refl _) mb;have hhi:hi≠none:=by rcases hmh with h|h;cases h;exact h
          have hhm:h'<=m':=by
           cases hi with
           | none=>exact absurd rfl hhi
           | some c=>
            cases hi' with
            | none=>exact hh.elim
            | some d=>exact(mf (P:=P) hh hb).2
          exact FJ (P:=P) hu hinf hx hl hh hm (FL (by simp) (tN hlc mb)) hb lb hmh hhm (by omega) (some (m'-l')) (by intro n hn;cases hn;rfl)
        . cases h
      . cases h
    . cases h
 | arr n=>cases x <;> cases mx <;> simp only[jc,reduceCtorEq]at h
end Go.Ab

/-
  Own work: composites, and all operations that do not look at the heap together.
-/
namespace Go.Ab
variable {m:List Value} {t ty:TypeId} {op:BinOp} {x y:Operand} {x' y':Value}
variable {P:Program} {gl:Nat->Option AV} {ρ:au} {w:World}
def ow (m:List Value)(off:Nat)(new:List Value):List Value:=m.take off++new++m.drop (off+new.length)
theorem VL.length {l:List AV}(h:VL ρ w l m):l.length=m.length:=h.1
theorem PA {l new:List AV}{newm:List Value}(h:VL ρ w l m)(h':VL ρ w new newm)(off:Nat):VL ρ w (overwrite l off new) (ow m off newm):=by
 unfold overwrite ow;rw[h'.length];exact((h.take off).append h').append (h.drop _)
theorem PB {new:List Value}{off:Nat}(h:off+new.length<=m.length):(ow m off new).length=m.length:=by
 simp[ow];omega
theorem FN {off:Nat}{x:Value}{r:List Value}(h:off+(r.length+1)<=m.length):ow m off (x::r)=ow (m.set off x) (off+1) r:=by
 apply List.ext_getElem?;intro i;unfold ow;simp only[List.getElem?_append,List.length_append,List.length_take,List.length_cons,List.length_set,List.getElem?_take,List.getElem?_drop,List.getElem?_set,List.getElem?_cons];have e1:min off m.length=off:=by omega
 have e2:min (off+1) m.length=off+1:=by omega
 rw[e1,e2];by_cases h1:i<off
 . rw[if_pos (by omega),if_pos (by omega),if_pos (by omega),if_pos (by omega),if_pos (by omega),if_pos (by omega),if_neg (by omega)]
 . by_cases h2:i=off
   . subst h2;rw[if_pos (by omega),if_neg (by omega),if_pos (by omega),if_pos (by omega),if_pos (by omega),if_pos (by omega),if_pos rfl,if_pos (by omega)]
   . by_cases h3:i<off+(r.length+1)
     . rw[if_pos (by omega),if_neg (by omega),if_neg (by omega),if_pos (by omega),if_neg (by omega)];congr 1
     . rw[if_neg (by omega),if_neg (by omega),if_neg (by omega)];congr 1;omega
theorem FO (off:Nat):∀(r:List Value) (k:Nat) (m:List Value),off+k+r.length<=m.length ->
 ((r.zipIdx k).foldl (fun (cs:Array Value) (p:Value×Nat)=>cs.setIfInBounds (off+p.2) p.1) m.toArray)=(ow m (off+k) r).toArray
 | [],k,m,_=>by simp[ow]
 | x::r,k,m,h=>by
  simp only[List.length_cons]at h;simp only[List.zipIdx_cons,List.foldl_cons];rw[List.setIfInBounds_toArray,FO off r (k+1) (m.set (off+k) x) (by simp;omega),FN (by omega)];rfl
theorem V.one {x:AV}{v:Value}(h:V ρ w x v)(h1:x≠.cR)(h2:∀l,x≠.agg l):v.cells = #[v]:=by
 cases h <;> first|rfl|exact absurd rfl h1|exact absurd rfl (h2 _)
theorem pk {x:AV}{v:Value}(h:V ρ w x v){l:List AV}(hl:x.cells=some l):VL ρ w l v.cells.toList:=by
 by_cases h2:∃l0,x = .agg l0
 . obtain⟨l0,rfl⟩:=h2;simp only[AV.cells,Option.some.injEq]at hl;subst hl;obtain⟨m,rfl,hm⟩:=h.iP;simpa[Value.cells] using hm
 . have h1:x≠.cR:=fun e=>by subst e;simp[AV.cells]at hl
   have h2':∀l0,x≠.agg l0:=fun l0 e=>h2 ⟨l0,e⟩
   have hl':l=[x]:=by
    cases x <;> simp only[AV.cells,Option.some.injEq,reduceCtorEq]at hl <;> first|exact hl.symm|exact absurd rfl h1|exact absurd rfl (h2' _)
   rw[hl',h.one h1 h2'];exact VL.cons h VL.nil
theorem tO {place:Nat->Option (Nat×Nat)}:∀(vs:List (Nat×Nat×AV)) (ps:List (Nat×Value)) (l:List AV) (m:List Value) (l':List AV),
 vs.length=ps.length->(∀(i:Nat) o n v p,vs[i]? = some (o,n,v)->ps[i]? = some p->place p.1=some (o,n)/\V ρ w v p.2) ->
 VL ρ w l m->kG l vs=some l'->∃m':List Value,Instr.fill place m.toArray ps=some m'.toArray/\VL ρ w l' m'
 | [],[],l,m,l',_,_,hl,h=>by simp[kG]at h;subst h;exact⟨m,rfl,hl⟩
 | [],_::_,_,_,_,hlen,_,_,_=>by simp at hlen
 | _::_,[],_,_,_,hlen,_,_,_=>by simp at hlen
 | (o,n,v)::vs,(j,y)::ps,l,m,l',hlen,hall,hl,h=>by
  obtain⟨hp,hv⟩:=hall 0 o n v (j,y) rfl rfl;simp only[kG]at h;split at h
  . rename_i c hc;split at h
    . rename_i hb;have hcv:=pk hv hc;have hsz:y.cells.size=n:=by rw[←hb.1,hcv.length];simp
      have hfold:=FO o y.cells.toList 0 m (by rw[←hcv.length,hb.1,←hl.length];omega);obtain⟨m',h1,h2⟩:=tO vs ps (overwrite l o c) (ow m o y.cells.toList) l' (by simpa using hlen)
        (fun i o' n' v' p' hi hp'=>hall (i+1) o' n' v' p' (by simpa using hi) (by simpa using hp')) (PA hl hcv o) h
      refine⟨m',?_,h2⟩;have hp':place j=some (o,n):=hp;simp only[Instr.fill,hp'];have hcond:¬((decide (y.cells.size≠n) || decide (o+y.cells.size > m.toArray.size))=true):=by
       have h1:m.toArray.size=m.length:=by simp
       have h2:=hl.length;rw[h1];simp;omega
      rw[if_neg hcond];rw[←Array.foldl_toList,Array.toList_zipIdx];simp only[Nat.add_zero]at hfold;rw[hfold];exact h1
    . cases h
  . cases h
theorem tP {C:Cx}{s:St}{a:Act}(r:Rel C ρ s a w){place:Nat->Option (Nat×Nat)}:∀{ps:List (Nat×Operand)} {cps:List (Nat×Nat×aL)},jU C place ps=some cps ->
 ∀{vs:List (Nat×Nat×AV)},s.parts cps=some vs->vs.length=(ps.map fun p=>(p.1,a.eval p.2)).length /\
  ∀(i:Nat) o n v p,vs[i]? = some (o,n,v)->(ps.map fun p=>(p.1,a.eval p.2))[i]? = some p->place p.1=some (o,n)/\V ρ w v p.2
 | [],cps,hc,vs,hv=>by
  simp[jU]at hc;subst hc;simp[St.parts]at hv;subst hv;simp
 | (j,x)::ps,cps,hc,vs,hv=>by
  simp only[jU]at hc;split at hc
  . rename_i o n y l h1 h2 h3;cases hc;simp only[St.parts]at hv;split at hv
    . rename_i v hv1;split at hv
      . rename_i vs' hv2;cases hv;obtain⟨e1,e2⟩:=tP r h3 hv2;refine⟨by simpa using e1,fun i o' n' v' p' hi hp=>?_⟩;cases i with
        | zero=>simp at hi hp;obtain⟨rfl,rfl,rfl⟩:=hi;subst hp;exact⟨h1,r.aa h2 hv1⟩
        | succ i=>simp at hi;exact e2 i o' n' v' p' hi (by simpa using hp)
      . cases hv
    . cases hv
  . cases hc
theorem tQ {z:AV}(h:zeroOf P t=some z):∃v,(zeroValue t).run P w = .ok v w/\V ρ w z v:=by
 unfold zeroOf at h;split at h
 . rename_i i hi;split at h
   . rename_i v hv;exact⟨v,by simp[zeroValue,tM hi,hv],qZ 5 v z h⟩
   . cases h
 . cases h
theorem run_places:∀(fs:List Field) (pl:List (Nat×Nat)),pd P fs=some pl ->
 (fs.mapM fun f=>do pure (f.offset,←sizeOf f.type):Sem (List (Nat×Nat))).run P w = .ok pl w
 | [],pl,h=>by simp[pd]at h;subst h;simp
 | f::fs,pl,h=>by
  simp only[pd]at h;split at h
  . rename_i i l h1 h2;cases h;simp only[List.mapM_cons,Sem.run_bind,gG h1,Result.andThen_ok,Sem.run_pure];rw[run_places fs l h2];simp
  . cases h
theorem PC {C:Cx}{s:St}{a:Act}(r:Rel C ρ s a w){t:TypeId}{z:AV}{zc:List AV}{fs:Array Field}{pl:List (Nat×Nat)}(hz:zeroOf C.P t=some z)(hzc:z.cells=some zc)(hu:C.P.underlying t=some (.struct fs))
 (hpl:pd C.P fs.toList=some pl) {ps:Array (Nat×Operand)} {cps:List (Nat×Nat×aL)} (hc:jU C (pl[·]?) ps.toList=some cps) {vs:List (Nat×Nat×AV)} (hv:s.parts cps=some vs)
 {l:List AV} (hf:kG zc vs=some l):∃v',(Instr.build t (ps.map fun p=>(p.1,a.eval p.2))).run C.P w = .ok v' w/\V ρ w (.agg l) v':=by
 obtain⟨zv,hz1,hz2⟩:=tQ (P:=C.P) (ρ:=ρ) (w:=w) hz;have hzl:=pk hz2 hzc;obtain⟨e1,e2⟩:=tP r hc hv;obtain⟨m',h1,h2⟩:=tO vs _ zc _ l e1 e2 hzl hf;refine⟨.agg m'.toArray,?_,V.qY h2⟩;have hpl':=run_places (w:=w) fs.toList pl hpl;have hm:(fs.mapM fun f=>do pure (f.offset,←sizeOf f.type):Sem (Array (Nat×Nat))).run C.P w = .ok pl.toArray w:=by
  rw[Array.mapM_eq_mapM_toList,Sem.run_map,hpl'];rfl
 simp only[Instr.build,Sem.run_bind,hz1,Result.andThen_ok,bS hu,hm];have hfill:Instr.fill (fun x=>pl.toArray[x]?) zv.cells (ps.map fun p=>(p.1,a.eval p.2)).toList=some m'.toArray:=by
  rw[Array.toList_map];simpa using h1
 rw[hfill];rfl
theorem PD {C:Cx}{s:St}{a:Act}(r:Rel C ρ s a w){t e:TypeId}{n:Nat}{i:TypeInfo}{z:AV}{zc:List AV}(hz:zeroOf C.P t=some z)(hzc:z.cells=some zc)(hu:C.P.underlying t=some (.array n e))
 (hi:C.P.info? e=some i) {ps:Array (Nat×Operand)} {cps:List (Nat×Nat×aL)} (hc:jU C (fun j=>some (j*i.size,i.size)) ps.toList=some cps) {vs:List (Nat×Nat×AV)} (hv:s.parts cps=some vs)
 {l:List AV} (hf:kG zc vs=some l):∃v',(Instr.build t (ps.map fun p=>(p.1,a.eval p.2))).run C.P w = .ok v' w/\V ρ w (.agg l) v':=by
 obtain⟨zv,hz1,hz2⟩:=tQ (P:=C.P) (ρ:=ρ) (w:=w) hz;have hzl:=pk hz2 hzc;obtain⟨e1,e2⟩:=tP r hc hv;obtain⟨m',h1,h2⟩:=tO (place:=fun j=>some (j*i.size,i.size)) vs _ zc _ l e1 e2 hzl hf;refine⟨.agg m'.toArray,?_,V.qY h2⟩;simp only[Instr.build,Sem.run_bind,hz1,Result.andThen_ok,bS hu,gG hi];have hfill:Instr.fill (fun j=>some (j*i.size,i.size)) zv.cells (ps.map fun p=>(p.1,a.eval p.2)).toList=some m'.toArray:=by
  rw[Array.toList_map];simpa using h1
 rw[hfill];rfl
theorem zK (mx:Bool):∀(l:List AV) (m:List Value) (k:IntKind) (a:Int) (v:AV),VL ρ w l m->mW mx (.int k a) l=some v ->
 ∃v',(m.foldlM (if mx then Builtin.max2 else Builtin.min2) (.int k a)).run P w = .ok v' w/\V ρ w v v'
 | [],m,k,a,v,hl,h=>by
  rw[hl.jB];simp[mW]at h;subst h;exact⟨_,rfl,.int _ _⟩
 | x::l,m,k,a,v,hl,h=>by
  obtain⟨y,m',rfl,hy,hl'⟩:=hl.cons_inv;unfold mW at h;split at h
  . cases ‹_::_=[]›
  . rename_i heq1 heq2;cases heq1;cases heq2;obtain rfl:=hy.fY;split at h
    . rename_i hk;subst hk;obtain⟨v',h1,h2⟩:=zK mx l m' _ _ v hl' h;refine⟨v',?_,h2⟩;cases mx
      . simp only[List.foldlM_cons,Sem.run_bind,Bool.false_eq_true,if_false,Builtin.min2,Sem.run_pure,Result.andThen_ok]at h1 ⊢;exact h1
      . simp only[List.foldlM_cons,Sem.run_bind,if_true,Builtin.max2,Sem.run_pure,Result.andThen_ok]at h1 ⊢;exact h1
    . cases h
  . cases h
variable {C:Cx} {s:St} {a:Act}
theorem nt (r:Rel C ρ s a w){x:Option Operand}{y:Option aL}(hc:lW C x=some y){v:Option AV}(hv:s.cZ y=some v):VO ρ w v (x.map a.eval):=by
 cases x with
 | none=>simp[lW]at hc;subst hc;simp[St.cZ]at hv;subst hv;trivial
 | some x0=>
  simp only[lW,Option.map_eq_some_iff]at hc;obtain⟨y0,h1,rfl⟩:=hc;simp only[St.cZ,Option.map_eq_some_iff]at hv;obtain⟨u,h2,rfl⟩:=hv;exact r.aa h1 h2
theorem rk (h1:¬(x' = .nilIface/\y' = .nilIface))(h2:∀a b,¬(x' = .agg a/\y' = .agg b)):(eqGuard op t x y x' y').run P w = .ok () w:=by
 have key:∀op:BinOp,(op = .eql\/op = .neq)->(eqGuard op t x y x' y').run P w = .ok () w:=by
  intro op hop;unfold eqGuard;rcases hop with rfl|rfl;all_goals
   simp only[Bool.not_true,Bool.false_eq_true,if_false];split
   . exact absurd ⟨rfl,rfl⟩ h1
   . exact absurd ⟨rfl,rfl⟩ (h2 _ _)
   . rfl
 cases op
 case eql=>exact key _ (.inl rfl)
 case neq=>exact key _ (.inr rfl)
 all_goals rfl
theorem PE {ms:Array (String×TypeId)}(hu:P.underlying t=some (.interface ms))(hg:((!(kQ x || kQ y)) && !ms.isEmpty)=false) :
 (eqGuard op t x y .nilIface .nilIface).run P w = .ok () w:=by
 obtain⟨k,hk⟩:∃k,Op.maxDepth=k+1:=⟨9999,rfl⟩;have h3:(Op.eqGuardIn Op.maxDepth t .nilIface .nilIface).run P w = .ok (!ms.isEmpty) w:=by
  rw[hk];simp only[Op.eqGuardIn,Sem.run_bind,bS hu,Result.andThen_ok];rfl
 have key:∀op:BinOp,(op = .eql\/op = .neq)->(eqGuard op t x y .nilIface .nilIface).run P w = .ok () w:=by
  intro op hop;unfold eqGuard;rcases hop with rfl|rfl;all_goals
   simp only[Bool.not_true,Bool.false_eq_true,if_false];cases x <;> cases y <;> simp only[kQ,Bool.or_self,Bool.or_true,Bool.or_false,Bool.not_true,Bool.not_false,Bool.true_and,Bool.false_and,if_true,if_false,Bool.false_eq_true]at hg ⊢;all_goals first
    | rfl
    | (simp only[Sem.run_bind,h3,Result.andThen_ok,hg,Bool.false_eq_true,if_false];rfl)
 cases op
 case eql=>exact key _ (.inl rfl)
 case neq=>exact key _ (.inr rfl)
 all_goals rfl
theorem PF {f n:Nat}{e:gD}{xa ya:AV}{r:Bool} 
 (hst:zk P t=false)
 (he:gV P f (!(kQ x || kQ y)) t=some e) (hx:V ρ w xa x') (hy:V ρ w ya y') (hr:dQ (n+1) e xa ya=some r):(eqGuard op t x y x' y').run P w = .ok () w:=by
 cases f with
 | zero=>simp[gV]at he
 | succ f=>
 simp only[gV]at he;cases hu:P.underlying t with
 | none=>simp[hu]at he
 | some u=>
  simp only[zk,hu]at he hst;cases u <;> simp only[Option.some.injEq,reduceCtorEq]at he
  case struct fs=>
   split at he
   . cases he
   . simp only[Option.map_eq_some_iff]at he;obtain⟨l,hl,rfl⟩:=he;cases xa <;> cases ya <;> simp only[dQ,reduceCtorEq]at hr;obtain⟨xm,rfl,_⟩:=hx.iP;obtain⟨ym,rfl,_⟩:=hy.iP;exact run_eqGuard_agg w op t x y _ _ hst
  case array m e'=>
   split at he
   . cases he;cases xa <;> cases ya <;> simp only[dQ,reduceCtorEq]at hr;obtain⟨xm,rfl,_⟩:=hx.iP;obtain⟨ym,rfl,_⟩:=hy.iP;exact run_eqGuard_agg w op t x y _ _ hst
   . cases he
  case interface ms=>
   subst he;cases xa <;> cases ya <;> simp only[dQ,reduceCtorEq]at hr
   . cases hx;cases hy;exact rk (by simp) (by simp)
   . cases hx;cases hy;exact rk (by simp) (by simp)
   . split at hr
     . cases hr
     . rename_i hg;cases hx;cases hy;exact PE hu (by simpa using hg)
  all_goals
   subst he;refine rk ?_ ?_
   . rintro⟨rfl,rfl⟩;cases hx <;> cases hy <;> simp[dQ,jb]at hr
   . rintro a b ⟨rfl,rfl⟩;cases hx <;> cases hy <;> simp[dQ,jb]at hr
def pn:Value->Bool
 | .int _ _ | .float _ _ | .complex _ _ _ | .string _=>true
 | _=>false
theorem binOp_eql (h:pn x'=false):binOp .eql t x' y'=(do pure (.bool (←Op.equal t x' y'))):=by
 cases x' <;> simp only[pn,reduceCtorEq]at h <;> rfl
theorem binOp_neq (h:pn x'=false):binOp .neq t x' y'=(do pure (.bool (!(←Op.equal t x' y')))):=by
 cases x' <;> simp only[pn,reduceCtorEq]at h <;> rfl
theorem PG {d n:Nat}{g:Bool}{e:gD}(hs:tD P t=false)(he:gV P d g t=some e){xa ya:AV}{x':Value}(hx:V ρ w xa x'){b:Bool}(hb:dQ (n+1) e xa ya=some b):pn x'=false:=by
 cases d with
 | zero=>simp[gV]at he
 | succ d=>
 simp only[gV]at he;cases hu:P.underlying t with
 | none=>simp[hu]at he
 | some u=>
  simp only[hu]at he;simp only[tD,hu]at hs;cases u <;> simp only[Option.some.injEq,reduceCtorEq]at he hs
  case struct fs=>
   split at he
   . cases he
   . simp only[Option.map_eq_some_iff]at he;obtain⟨l,hl,rfl⟩:=he;cases xa <;> cases ya <;> simp only[dQ,reduceCtorEq]at hb;obtain⟨xm,rfl,_⟩:=hx.iP;rfl
  case array m e'=>
   split at he
   . cases he;cases xa <;> cases ya <;> simp only[dQ,reduceCtorEq]at hb;obtain⟨xm,rfl,_⟩:=hx.iP;rfl
   . cases he
  all_goals
   subst he;cases hx <;> first|rfl|(cases ya <;> simp[dQ,jb]at hb)
theorem gI {e:Operand->Value}{dst:Option Tmp}{b:Builtin}{args:Array Operand}{ats:Array TypeId}{pos:String}{af:Array Edge}{gd:Option (Nat×Bool)} :
 (execOp e ⟨dst,.call ⟨.builtin b,args,ats⟩,ty,pos,af,gd⟩).run P w=(builtin b ats ty (args.map fun | .const _=>true|_=>false) (args.map e)).run P w:=by
 simp[execOp,resolve,invoke];rfl
theorem gY {α:Type}{x:Array α}{l:List α}(h:x.toList=l):x=l.toArray:=by
 rw[←h]
theorem po {x:List Operand}{y:aL}(h:gU C x=some [y]):∃x0,x=[x0]/\fW C x0=some y:=by
 match x,h with
 | [],h=>simp[gU]at h
 | [x0],h=>
  simp only[gU]at h;split at h
  . rename_i a l h1 h2;simp at h2;cases h;exact⟨x0,rfl,h1⟩
  . cases h
 | x0::x1::r,h=>
  simp only[gU]at h;split at h
  . rename_i a l h1 h2;cases h;split at h2
    . cases h2
    . cases h2
  . cases h
theorem zM {x:List Operand}{y z:aL}(h:gU C x=some [y,z]):∃x0 x1,x=[x0,x1]/\fW C x0=some y/\fW C x1=some z:=by
 match x,h with
 | [],h=>simp[gU]at h
 | x0::r,h=>
  simp only[gU]at h;split at h
  . rename_i a l h1 h2;cases h;obtain⟨x1,rfl,h3⟩:=po h2;exact⟨x0,x1,rfl,h1,h3⟩
  . cases h
def FP (P:Program)(t:TypeId):lM->Prop
 | .str=>P.underlying t=some .string
 | .sl=>∃e,P.underlying t=some (.slice e)
 | .arr n=>∃e,P.underlying t=some (.array n e)
def rl:lM->AV->Option AV
 | .arr n,_=>some (.int .i64 n)
 | k,x=>tt k x
theorem PH {k:lM}(hk:FP P t k){x v:AV}{x':Value}(hx:V ρ w x x')
 (h:rl k x=some v):∃v',(Builtin.len_ #[t] ty #[x']).run P w = .ok v' w/\V ρ w v v':=by
 cases k with
 | arr n=>
  obtain⟨e,hu⟩:=hk;simp only[rl,Option.some.injEq]at h;subst h;refine⟨goInt n,?_,.int _ _⟩;simp[Builtin.len_,bS hu]
 | str=>
  cases x <;> simp only[rl,tt,reduceCtorEq,Option.some.injEq]at h;subst h;obtain rfl:=hx.jC;refine⟨.int .i64 _,?_,.int _ _⟩;have hk':P.underlying t=some .string:=hk;simp only[Builtin.len_,List.getElem?_toArray,List.getElem?_cons_zero,Sem.run_bind,bS hk',Result.andThen_ok];rfl
 | sl=>
  obtain⟨e,hu⟩:=hk;have hnil:∀l,(x = .ae/\l=0)\/(∃b o es c,x = .sl b o l es c)\/(∃q c,x = .vs q l c)->∃v',(Builtin.len_ #[t] ty #[x']).run P w = .ok v' w/\V ρ w (.int .i64 l) v':=by
   intro l hl;have:∃a c,x' = .slice a l c:=by
    rcases hl with ⟨rfl,rfl⟩|⟨b,o,es,c,rfl⟩|⟨q,c,rfl⟩
    . cases hx;exact⟨_,_,rfl⟩
    . obtain⟨a,l',c',rfl,_⟩:=jX hx trivial;obtain⟨rfl,_⟩:=ri hx;exact⟨_,_,rfl⟩
    . obtain⟨a,l',c',rfl,_⟩:=jX hx trivial;obtain⟨rfl,_⟩:=rj hx;exact⟨_,_,rfl⟩
   obtain⟨a,c,rfl⟩:=this;exact⟨goInt l,by simp[Builtin.len_,bS hu],.int _ _⟩
  cases x <;> simp only[rl,tt,reduceCtorEq,Option.some.injEq]at h <;> subst h
  . exact hnil 0 (.inl ⟨rfl,rfl⟩)
  . exact hnil _ (.inr (.inl ⟨_,_,_,_,rfl⟩))
  . exact hnil _ (.inr (.inr ⟨_,_,rfl⟩))
theorem PI {e:TypeId}(hu:P.underlying t=some (.slice e)){x:AV}{x':Value}(hx:V ρ w x x'){n:Nat}(h:x = .ae/\n=0\/(∃b o l es,x = .sl b o l es (some n))\/∃q l,x = .vs q l (some n)) :
 (Builtin.cap_ #[t] ty #[x']).run P w = .ok (.int .i64 n) w:=by
 have:∃a l,x' = .slice a l n:=by
  rcases h with ⟨rfl,rfl⟩|⟨b,o,l,es,rfl⟩|⟨q,l,rfl⟩
  . cases hx;exact⟨_,_,rfl⟩
  . obtain⟨a,l',c',rfl,_⟩:=jX hx trivial;obtain⟨rfl,hc⟩:=ri hx;rw[hc n rfl];exact⟨_,_,rfl⟩
  . obtain⟨a,l',c',rfl,_⟩:=jX hx trivial;obtain⟨rfl,hc⟩:=rj hx;rw[hc n rfl];exact⟨_,_,rfl⟩
 obtain⟨a,l,rfl⟩:=this;simp[Builtin.cap_,bS hu,goInt]
theorem PJ (r:Rel C ρ s a w){o:Oper}{io:aZ}(hc:iM C o=some io)(hh:io.bG=false){v:AV}(hv:aW s io=some v) :
 ∃v',(execOp a.eval o).run C.P w = .ok (.value v') w/\V ρ w v v':=by
 obtain⟨dst,op,ty,pos,af,gd⟩:=o;cases op <;> simp only[iM]at hc
 case move x=>
  simp only[Option.map_eq_some_iff]at hc;obtain⟨y,h1,rfl⟩:=hc;exact⟨_,by simp[execOp],r.aa h1 hv⟩
 case assign x=>
  simp only[Option.map_eq_some_iff]at hc;obtain⟨y,h1,rfl⟩:=hc;exact⟨_,by simp[execOp],r.aa h1 hv⟩
 case pick c x y=>
  split at hc
  . rename_i c' x' y' h1 h2 h3;cases hc;simp only[aW]at hv;split at hv
    . rename_i t av bv hc' ha' hb';have e1:=(r.aa h1 hc').me;cases hv;refine⟨_,by simp[execOp,e1,asBool] <;> rfl,?_⟩;cases t
      . exact r.aa h3 hb'
      . exact r.aa h2 ha'
    . rename_i t av hc' ha' hb';have e1:=(r.aa h1 hc').me;split at hv
      . rename_i ht;subst ht;cases hv;exact⟨_,by simp[execOp,e1,asBool] <;> rfl,r.aa h2 ha'⟩
      . cases hv
    . rename_i t bv hc' ha' hb';have e1:=(r.aa h1 hc').me;split at hv
      . cases hv
      . rename_i ht;obtain rfl:t=false:=by simpa using ht
        cases hv;exact⟨_,by simp[execOp,e1,asBool] <;> rfl,r.aa h3 hb'⟩
    . cases hv
  . cases hc
 case build t ps=>
  split at hc
  . rename_i z hz;split at hc
    . rename_i zc fs hzc hu;split at hc
      . rename_i pl hpl;simp only[Option.map_eq_some_iff]at hc;obtain⟨cps,h1,rfl⟩:=hc;simp only[aW]at hv;split at hv
        . rename_i vs hvs;simp only[Option.map_eq_some_iff]at hv;obtain⟨l,hl,rfl⟩:=hv;obtain⟨v',h2,h3⟩:=PC r hz hzc hu hpl h1 hvs hl;exact⟨v',by simp[execOp,h2],h3⟩
        . cases hv
      . cases hc
    . rename_i zc n e hzc hu;split at hc
      . rename_i i hi;simp only[Option.map_eq_some_iff]at hc;obtain⟨cps,h1,rfl⟩:=hc;simp only[aW]at hv;split at hv
        . rename_i vs hvs;simp only[Option.map_eq_some_iff]at hv;obtain⟨l,hl,rfl⟩:=hv;obtain⟨v',h2,h3⟩:=PD r hz hzc hu hi h1 hvs hl;exact⟨v',by simp[execOp,h2],h3⟩
        . cases hv
      . cases hc
    . cases hc
  . cases hc
 case nilCheck x=>
  simp only[Option.map_eq_some_iff]at hc;obtain⟨y,h1,rfl⟩:=hc;simp only[aW,Option.bind_eq_some_iff]at hv;obtain⟨u,h2,h3⟩:=hv;exact Pn (r.aa h1 h2) h3 _ _ _ _ _ _ _ rfl
 case binOp op t x y u=>
  split at hc
  . rename_i x' y' h1 h2;split at hc
    . rename_i hcmp;split at hc
      . cases hc;simp[aZ.bG]at hh
      split at hc
      . cases hc
      . rename_i hst;simp only[Option.map_eq_some_iff]at hc;obtain⟨e,he,rfl⟩:=hc;simp only[aW]at hv;split at hv
        . rename_i xa ya hx hy;split at hv
          . rename_i b hb;cases hv;have gx:=r.aa h1 hx;have gy:=r.aa h2 hy;have hg:=PF (w:=w) (op:=op) (n:=99) (by simpa using hst) he gx gy hb;have hE:=Pl 100 20 _ t e he xa ya _ _ b gx gy hb 10000 (by omega);have hE':(Op.equal t (a.eval x) (a.eval y)).run C.P w = .ok b w:=hE;have hns:tD C.P t=false:=by
             simp only[Bool.and_eq_true,Bool.not_eq_true']at hcmp;exact hcmp.2
            have hcm:qX op=true:=by
             simp only[Bool.and_eq_true]at hcmp;exact hcmp.1
            have hnum:=PG hns he gx hb;refine⟨_,?_,.bool _⟩;cases op <;> simp only[qX,Bool.false_eq_true]at hcm
            . simp[execOp,hg,binOp_eql hnum,hE']
            . simp[execOp,hg,binOp_neq hnum,hE']
          . cases hv
        . cases hv
    . rename_i hcmp;cases hc;simp only[aW]at hv;split at hv
      . rename_i xa ya hx hy;have gx:=r.aa h1 hx;have gy:=r.aa h2 hy;obtain⟨v',h3,h4⟩:=OZ (P:=C.P) gx gy hv t;have hg:(eqGuard op t x y (a.eval x) (a.eval y)).run C.P w = .ok () w:=by
         refine rk ?_ ?_
         . rintro⟨e1,e2⟩;rw[e1]at gx;rw[e2]at gy;cases gx <;> cases gy <;> simp[cN]at hv
         . rintro p q ⟨e1,e2⟩;rw[e1]at gx;rw[e2]at gy;cases gx <;> cases gy <;> simp[cN]at hv
        exact⟨v',by simp[execOp,hg,h3],h4⟩
      . cases hv
  . cases hc
 case unOp op t x=>
  simp only[Option.map_eq_some_iff]at hc;obtain⟨y,h1,rfl⟩:=hc;simp only[aW,Option.bind_eq_some_iff]at hv;obtain⟨u,h2,h3⟩:=hv;obtain⟨v',h4,h5⟩:=Pa (P:=C.P) (r.aa h1 h2) h3;exact⟨v',by simp[execOp,h4],h5⟩
 case convert src dst x=>
  split at hc <;> try (cases hc;done)
  . rename_i k' k y hs hd h1;cases hc;simp only[aW,Option.bind_eq_some_iff]at hv;obtain⟨u,h2,h3⟩:=hv;obtain⟨v',h4,h5⟩:=Pm hs hd (r.aa h1 h2) h3;exact⟨v',by simp[execOp,h4],h5⟩
  . rename_i k y hs hd h1;cases hc;simp only[aW]at hv;split at hv
    . rename_i k0 n h2;cases hv;have e:=(r.aa h1 h2).fY;refine⟨.string (Utf8.encode n),?_,V.tJ _⟩;simp[execOp,e,convert,bS hs,bS hd,Conv.intToString]
    . cases hv
  . rename_i y hs hd h1;cases hc;simp only[aW]at hv;split at hv
    . rename_i st h2;cases hv;have e:=(r.aa h1 h2).jC;refine⟨_,?_,V.str _⟩;simp[execOp,e,convert,bS hs,bS hd]
    . cases hv
  . split at hc
    . split at hc
      . cases hc
      . cases hc;simp[aZ.bG]at hh
    . cases hc
  . split at hc
    . cases hc;simp[aZ.bG]at hh
    . cases hc
  . split at hc
    . split at hc
      . cases hc
      . cases hc;simp[aZ.bG]at hh
    . cases hc
  . split at hc
    . split at hc
      . cases hc;simp[aZ.bG]at hh
      . cases hc
    . cases hc
 case makeInterface t x=>
  split at hc
  . cases hc
  . rename_i u hni hu;simp only[Option.map_eq_some_iff]at hc;obtain⟨y,h1,rfl⟩:=hc;simp only[aW,Option.map_eq_some_iff]at hv;obtain⟨xa,h2,rfl⟩:=hv;refine⟨_,?_,.iface (r.aa h1 h2)⟩;cases u <;> first|(exact absurd rfl (hni _))|simp[execOp,Instr.makeInterface,bS hu]
  . cases hc
 case typeAssert x xt t ok=>
  split at hc
  . cases hc
  . rename_i u hni hu;split at hc
    . rename_i x' z h1 h2;cases hc;obtain⟨zv,hz1,hz2⟩:=tQ (P:=C.P) (w:=w) (ρ:=ρ) h2;simp only[aW]at hv;split at hv
      . rename_i u0 va h3;have e0:=r.aa h1 h3;generalize hxv:a.eval x=xv at e0;cases e0 with
        | @iface _ _ v' hin=>
         split at hv
         . rename_i e;subst e;cases ok
           . cases hv;exact⟨v',by cases u <;> first|(exact absurd rfl (hni _))|simp[execOp,hxv,Instr.typeAssert,bS hu],hin⟩
           . cases hv;exact⟨.tuple #[v',.bool true],by cases u <;> first|(exact absurd rfl (hni _))|simp[execOp,hxv,Instr.typeAssert,bS hu],.im (.cons hin (.cons (.bool _) .nil))⟩
         . rename_i e;cases ok
           . cases hv
           . cases hv;exact⟨.tuple #[zv,.bool false],by cases u <;> first|(exact absurd rfl (hni _))|simp[execOp,hxv,Instr.typeAssert,bS hu,e,hz1],.im (.cons hz2 (.cons (.bool _) .nil))⟩
      . rename_i h3;have e0:=r.aa h1 h3;generalize hxv:a.eval x=xv at e0;cases e0 with
        | cY=>
         cases ok
         . cases hv
         . cases hv;exact⟨.tuple #[zv,.bool false],by cases u <;> first|(exact absurd rfl (hni _))|simp[execOp,hxv,Instr.typeAssert,bS hu,hz1],.im (.cons hz2 (.cons (.bool _) .nil))⟩
      . cases hv
    . cases hc
  . cases hc
 case makeFunc f fi ca=>
  split at hc
  . cases hc
  . rename_i hy;split at hc
    . rename_i fi' ca' h1 h2;cases hc;simp only[aW]at hv;split at hv
      . rename_i va vb h3 h4;cases hv;have g1:=r.cH h1 h3;have g2:=r.cH h2 h4;refine⟨_,by simp[execOp,Instr.makeFunc] <;> rfl,?_⟩;have e1:fi.map a.eval=(fi.toList.map a.eval).toArray:=by rw[←Array.toList_map,Array.toArray_toList]
        have e2:ca.map a.eval=(ca.toList.map a.eval).toArray:=by rw[←Array.toList_map,Array.toArray_toList]
        rw[e1,e2];refine .fn (fun l e=>hy (by subst e;rfl)) g1.1 g2.1 g1.2 g2.2
      . cases hv
    . cases hc
 case slice t x lo hi mx=>
  split at hc <;> try (cases hc;done)
  . rename_i x' l h hu h1 h2 h3 h4;cases hc;simp only[aW]at hv;split at hv
    . rename_i xa hx;split at hv
      . rename_i la ha ma hl hh' hm;split at hv
        . rename_i hmh;have e4:mx=none:=by cases mx with
            | none=>rfl
            | some m=>simp[lW]at h4
          subst e4;simp only[St.cZ,Option.some.injEq]at hm;subst hm;obtain⟨v',h5,h6⟩:=FM (P:=C.P) (t:=t) (k:=.str) (esz:=1) hu (r.aa h1 hx) (nt r h2 hl) (nt r h3 hh') (mx':=none) (show VO ρ w none none from trivial) (.inl rfl) hv;exact⟨v',by simp[execOp,h5],h6⟩
        . cases hv
      . cases hv
    . cases hv
  . rename_i e x' l h m hu h1 h2 h3 h4;split at hc
    . rename_i i hi';cases hc;simp only[aW]at hv;split at hv
      . rename_i xa hx;split at hv
        . rename_i la ha ma hl hh' hm;split at hv
          . rename_i hmh;obtain⟨v',h5,h6⟩:=FM (P:=C.P) (t:=t) (k:=.sl) (esz:=i.size) ⟨e,i,hu,hi',rfl⟩ (r.aa h1 hx) (nt r h2 hl) (nt r h3 hh') (nt r h4 hm) (by cases ma <;> cases ha <;> simp at hmh ⊢) hv;exact⟨v',by simp[execOp,h5],h6⟩
          . cases hv
        . cases hv
      . cases hv
    . cases hc
  . split at hc
    . cases hc;simp[aZ.bG]at hh
    . cases hc
 case fieldAddr t x f=>
  split at hc <;> try (cases hc;done)
  rename_i fs x' hu h1;split at hc <;> try (cases hc;done)
  rename_i fd hf;split at hc <;> try (cases hc;done)
  rename_i i hi';split at hc
  . cases hc
  . rename_i h0;cases hc;simp only[aW,Option.bind_eq_some_iff]at hv;obtain⟨u,h2,h3⟩:=hv;obtain⟨v',h4,h5⟩:=Pp hu hf hi' h0 (r.aa h1 h2) h3;exact⟨v',by simp[execOp,h4],h5⟩
 case field t x f=>
  split at hc <;> try (cases hc;done)
  rename_i fs x' hu h1;split at hc <;> try (cases hc;done)
  rename_i fd hf;split at hc <;> try (cases hc;done)
  rename_i n ag hs;cases hc;simp only[aW]at hv;split at hv
  . rename_i l hx;obtain⟨v',h4,h5⟩:=Pt hu hf hs (r.aa h1 hx) hv;exact⟨v',by simp[execOp,h4],h5⟩
  . cases hv
 case indexAddr t x i=>
  split at hc <;> try (cases hc;done)
  . rename_i n e x' i' hu h1 h2;split at hc <;> try (cases hc;done)
    rename_i inf hinf;cases hc;simp only[aW]at hv;split at hv
    . rename_i xa ia hx hi';obtain⟨v',h4,h5⟩:=FG (P:=C.P) (t:=t) (arr:=some n) hu hinf (r.aa h1 hx) (r.aa h2 hi') hv;exact⟨v',by simp[execOp,h4],h5⟩
    . cases hv
  . rename_i e x' i' hu h1 h2;split at hc <;> try (cases hc;done)
    rename_i inf hinf;cases hc;simp only[aW]at hv;split at hv
    . rename_i xa ia hx hi';obtain⟨v',h4,h5⟩:=FG (P:=C.P) (t:=t) (arr:=none) hu hinf (r.aa h1 hx) (r.aa h2 hi') hv;exact⟨v',by simp[execOp,h4],h5⟩
    . cases hv
 case index t x i=>
  split at hc <;> try (cases hc;done)
  . rename_i x' i' hu h1 h2;cases hc;simp only[aW]at hv;split at hv
    . rename_i xa ia hx hi';obtain⟨v',h4,h5⟩:=Pr hu (r.aa h1 hx) (r.aa h2 hi') hv;exact⟨v',by simp[execOp,h4],h5⟩
    . cases hv
  . rename_i n e x' i' hu h1 h2;split at hc <;> try (cases hc;done)
    rename_i sz ag hs;cases hc;simp only[aW]at hv;split at hv
    . rename_i l k m hx hi';split at hv
      . rename_i hb;have ei:=(r.aa h2 hi').fY;obtain⟨v',h4,h5⟩:=Ps hu hs (r.aa h1 hx) (k:=k) hb.1 hb.2 hv;exact⟨v',by simp[execOp,ei,h4],h5⟩
      . cases hv
    . cases hv
 case extract x i=>
  simp only[Option.map_eq_some_iff]at hc;obtain⟨y,h1,rfl⟩:=hc;simp only[aW]at hv;split at hv
  . rename_i l hx;obtain⟨v',h4,h5⟩:=Pd (P:=C.P) (r.aa h1 hx) hv;exact⟨v',by simp[execOp,h4],h5⟩
  . cases hv
 case call c=>
  obtain⟨callee,args,ats⟩:=c;cases callee with
  | value f=>
   simp only at hc;split at hc
   . cases hc;simp[aZ.bG]at hh
   . cases hc
  | invoke x name=>
   simp only at hc;split at hc
   . cases hc;simp[aZ.bG]at hh
   . cases hc
  | builtin b=>
   simp only at hc;split at hc <;> try (cases hc;done)
   . -- len
     rename_i t x h1 h2;obtain rfl:=gY h1;obtain⟨x0,hx0,h3⟩:=po h2;obtain rfl:=gY hx0;have fin:∀k,FP C.P t k->io = .len k x ->
      ∃v',(execOp a.eval ⟨dst,.call ⟨.builtin .len,[x0].toArray,[t].toArray⟩,ty,pos,af,gd⟩).run C.P w = .ok (.value v') w/\V ρ w v v':=by
      rintro k hk rfl;simp only[aW]at hv;have:∃xa,V ρ w xa (a.eval x0)/\rl k xa=some v:=by
       cases k with
       | arr n=>exact⟨.cR,.cR _,hv⟩
       | str=>simp only[Option.bind_eq_some_iff]at hv;obtain⟨u,h4,h5⟩:=hv;exact⟨u,r.aa h3 h4,h5⟩
       | sl=>simp only[Option.bind_eq_some_iff]at hv;obtain⟨u,h4,h5⟩:=hv;exact⟨u,r.aa h3 h4,h5⟩
      obtain⟨xa,h4,h5⟩:=this;obtain⟨v',h6,h7⟩:=PH (ty:=ty) hk h4 h5;refine⟨v',?_,h7⟩;rw[gI];simp[builtin,h6]
     split at hc
     . rename_i n e hu;cases hc;exact fin (.arr n) ⟨e,hu⟩ rfl
     . cases hc;simp[aZ.bG]at hh
     . rename_i hu;cases hc;exact fin .str hu rfl
     . rename_i e hu;cases hc;exact fin .sl ⟨e,hu⟩ rfl
     . cases hc
   . -- cap
     rename_i t x h1 h2;obtain rfl:=gY h1;obtain⟨x0,hx0,h3⟩:=po h2;obtain rfl:=gY hx0;split at hc <;> try (cases hc;done)
     rename_i e hu;cases hc;have fin:∀n,(∃xa,V ρ w xa (a.eval x0)/\(xa = .ae/\n=0\/(∃b o l es,xa = .sl b o l es (some n))\/∃q l,xa = .vs q l (some n)))->v = .int .i64 n ->
      ∃v',(execOp a.eval ⟨dst,.call ⟨.builtin .cap,[x0].toArray,[t].toArray⟩,ty,pos,af,gd⟩).run C.P w = .ok (.value v') w/\V ρ w v v':=by
      rintro n ⟨xa,h4,h5⟩ rfl;have h6:=PI (ty:=ty) hu h4 h5;refine⟨_,?_,.int _ _⟩;rw[gI];simp[builtin,h6]
     simp only[aW]at hv;split at hv <;> try (cases hv;done)
     . rename_i h4;cases hv;exact fin 0 ⟨_,r.aa h3 h4,.inl ⟨rfl,rfl⟩⟩ rfl
     . rename_i h4;cases hv;exact fin _ ⟨_,r.aa h3 h4,.inr (.inl ⟨_,_,_,_,rfl⟩)⟩ rfl
     . rename_i h4;cases hv;exact fin _ ⟨_,r.aa h3 h4,.inr (.inr ⟨_,_,rfl⟩)⟩ rfl
   . -- append
     split at hc
     . split at hc
       . cases hc;simp[aZ.bG]at hh
       . cases hc
     . split at hc
       . cases hc;simp[aZ.bG]at hh
       . cases hc
     . cases hc
   . -- copy
     split at hc
     . split at hc
       . cases hc;simp[aZ.bG]at hh
       . cases hc
     . cases hc
   . -- clear
     split at hc
     . split at hc
       . split at hc
         . cases hc;simp[aZ.bG]at hh
         . cases hc
       . cases hc
     . cases hc
   . -- unsafe.SliceData
     rename_i t x h1 h2;obtain rfl:=gY h1;obtain⟨x0,hx0,h3⟩:=po h2;obtain rfl:=gY hx0;split at hc <;> try (cases hc;done)
     rename_i e hu;cases hc;simp only[aW]at hv;split at hv <;> try (cases hv;done)
     . rename_i h4;cases hv;have e0:=r.aa h3 h4;generalize hxv:a.eval x0=xv at e0;cases e0;refine⟨.pointer none,?_,.du⟩;rw[gI];simp[builtin,hxv,Lib.run_unsafeSliceData_nil]
     . rename_i b o len es cap h4;cases hv;have e0:=r.aa h3 h4;generalize hxv:a.eval x0=xv at e0;cases e0 with
       | @sl _ c d _ _ _ capC _ h hl hcap hb=>
        have hc0:capC≠0:=by omega
        refine⟨_,?_,.ptr o h⟩;rw[gI];simp[builtin,hxv,Lib.run_unsafeSliceData_row (P:=C.P) w _ _ _ _ _ hc0]
       | @dX _ _ _ _ capC _ c o' h hl hcap=>
        have hc0:capC≠0:=by omega
        refine⟨_,?_,.dO o c o' h⟩;rw[gI];simp[builtin,hxv,Lib.run_unsafeSliceData_row (P:=C.P) w _ _ _ _ _ hc0]
   . -- unsafe.String
     split at hc
     . split at hc
       . cases hc;simp[aZ.bG]at hh
       . cases hc
     . cases hc
   . -- max
     rename_i xs h2;cases hc;simp only[aW]at hv;split at hv <;> try (cases hv;done)
     rename_i k n rest h4;obtain⟨y,m',he,hy,hl⟩:=(r.cH h2 h4).cons_inv;obtain rfl:=hy.fY;obtain⟨v',h5,h6⟩:=zK (P:=C.P) true rest m' k n v hl hv;refine⟨v',?_,h6⟩;rw[gI];simp only[if_true]at h5;simp[builtin,Builtin.max_,he,h5]
   . rename_i xs h2;cases hc;simp only[aW]at hv;split at hv <;> try (cases hv;done)
     rename_i k n rest h4;obtain⟨y,m',he,hy,hl⟩:=(r.cH h2 h4).cons_inv;obtain rfl:=hy.fY;obtain⟨v',h5,h6⟩:=zK (P:=C.P) false rest m' k n v hl hv;refine⟨v',?_,h6⟩;rw[gI];simp only[Bool.false_eq_true,if_false]at h5;simp[builtin,Builtin.min_,he,h5]
 all_goals exfalso
 case next x b=>cases b <;> simp at hc;obtain⟨_,_,rfl⟩:=hc;simp[aZ.bG]at hh
 case makeMap t r=>cases r <;> simp at hc;subst hc;simp[aZ.bG]at hh
 all_goals first
  | (cases hc;done)
  | (simp only[Option.map_eq_some_iff]at hc;obtain⟨_,_,rfl⟩:=hc;simp[aZ.bG]at hh;done)
  | (cases hc;simp[aZ.bG]at hh;done)
  | (
     repeat' (split at hc)
     all_goals first
      | (cases hc;done)
      | (cases hc;simp[aZ.bG]at hh;done)
      | (simp only[Option.map_eq_some_iff]at hc;obtain⟨_,_,rfl⟩:=hc;simp[aZ.bG]at hh;done))
end Go.Ab

/-
  Own work: the operations that look at the heap: what the abstract machine reckons is what the model gives.
-/
namespace Go.Ab
variable {c:Nat} {cs:Array Value} {e:TypeId} {O:Obj} {fr:Nat×Nat}
variable {P:Program} {gl:Nat->Option AV} {ρ:au} {w:World} {h:ab}
def dY (P:Program)(gl:Nat->Option AV)(ρ:au)(h:ab)(w:World)(r:HR)(v':Value)(w':World):Prop:=
 ∃ρ',V ρ' w' r.v v'/\Mem P gl ρ' r.h w'/\Ext h r.h ρ ρ' w w'
theorem VL.toList {l:List AV}{m:Array Value}(hl:VL ρ w l m.toList):l.length=m.size:=by rw[hl.length];simp
theorem PK {i:Nat}(h:w.heap[c]? = some (.cells cs e (0,0))):w.frozen? ⟨c,i,none⟩=false:=by
 unfold World.frozen?;rw[h];simp
theorem FQ (m:Mem P gl ρ h w){l:List AV}{cs:Array Value}(e:TypeId)(hl:VL ρ w l (cs.toList.take l.length))(hlen:l.length<=cs.size)(hex:jj P e=true->l.length=cs.size) :
 Mem P gl (ρ.dH h.length (.live w.heap.size 0)) (h++[some (.cells l e)]) { w with heap:=w.heap.push (.cells cs e) } /\
 Ext h (h++[some (.cells l e)]) ρ (ρ.dH h.length (.live w.heap.size 0)) w { w with heap:=w.heap.push (.cells cs e) }:=by
 have x:=Ext.alloc m (some (.cells l e)) (.cells cs e) (.live w.heap.size 0) (.inl ⟨0,rfl⟩);refine⟨Mem.alloc m _ _ _ (.inl ⟨0,rfl⟩) ?_,x⟩;intro o' ho;cases ho;refine .inl ⟨w.heap.size,0,cs,(0,0),au.dI _ _ _,by simp,⟨by omega,fun he=>⟨rfl,hex he⟩⟩,fun i _=>PK (cs:=cs) (e:=e) (by simp),fun i a y hx hy=>?_⟩;have hi:i<l.length:=(List.getElem?_eq_some_iff.1 hx).1;refine(hl.2 i a y hx ?_).mono x;rw[List.getElem?_take,if_pos hi];simpa using hy
theorem PL (m:Mem P gl ρ h w){l:List AV}{cs:Array Value}(e:TypeId)(hl:VL ρ w l cs.toList) :
 Mem P gl (ρ.dH h.length (.live w.heap.size 0)) (h++[some (.cells l e)]) { w with heap:=w.heap.push (.cells cs e) } /\
 Ext h (h++[some (.cells l e)]) ρ (ρ.dH h.length (.live w.heap.size 0)) w { w with heap:=w.heap.push (.cells cs e) }:=
 FQ m e (by rw[hl.length,List.take_length];exact hl) (by rw[hl.toList];exact Nat.le_refl _) (fun _=>hl.toList)
theorem zN {len esz capC:Nat}{cap:Option Nat}(hl:len<=capC)(hcap:∀n,cap=some n->capC=n)(hb:capC*esz<=cs.size) :
 V (ρ.dH h.length (.live w.heap.size 0)) { w with heap:=w.heap.push (.cells cs e) } (.sl h.length 0 len esz cap) (.slice (some ⟨w.heap.size,0,none⟩) len capC):=
 V.sl (d:=0) (au.dI _ _ _) hl hcap ⟨cs,e,(0,0),by simp,by omega⟩
theorem zO:V (ρ.dH h.length (.live w.heap.size 0)) { w with heap:=w.heap.push O } (.ptr h.length 0) (.pointer (some ⟨w.heap.size,0,none⟩)):=
 V.ptr (d:=0) 0 (au.dI _ _ _)
theorem readable (m:Mem P gl ρ h w){x:AV}{x':Value}(hx:V ρ w x x'){l:List AV}(hr:fg h x=some l) :
 ∃(c o:Nat) (g:Nat->Value),x' = .pointer (some ⟨c,o,none⟩)/\∀(i:Nat) y,l[i]? = some y->w.cell? ⟨c,o+i,none⟩=some (g i)/\V ρ w y (g i):=by
 cases x <;> simp only[fg,reduceCtorEq]at hr
 case ptr b off=>
  obtain⟨l0,e,hb',rfl⟩:∃l0 e,h[b]? = some (some (.cells l0 e))/\l0.drop off=l:=by
   unfold ab.at at hr;cases hq:h[b]? with
   | none=>simp[hq]at hr
   | some q=>
    cases q with
    | none=>simp[hq]at hr
    | some o=>cases o <;> simp[hq]at hr;exact⟨_,_,rfl,hr⟩
  rcases m.cW b _ hb' with ⟨c,d,cs,fr,h1,h2,h3,h4,h5⟩|⟨h1,h2⟩
  . cases hx with
    | ptr _ hρ=>
     rw[h1]at hρ;cases hρ;refine⟨c,off+d,fun i=>cs.getD (off+d+i) undef,rfl,fun i y hy=>?_⟩;have hy':l0[off+i]? = some y:=by simpa using hy
     have hlt:off+i<l0.length:=(List.getElem?_eq_some_iff.1 hy').1;have hcs:cs[off+i+d]? = some (cs.getD (off+d+i) undef):=by
      have:off+d+i=off+i+d:=by omega
      rw[this];have hlt':off+i+d<cs.size:=by have:=h3.1;omega
      simp[hlt']
     refine⟨?_,h5 (off+i) y _ hy' hcs⟩;unfold World.cell?;simp only[h2];rw[if_neg (by simp),show off+d+i=off+i+d from by omega];rw[show off+d+i=off+i+d from by omega]at hcs;exact hcs
    | dO _ _ _ hρ=>rw[h1]at hρ;cases hρ
  . subst h2;cases hx with
    | ptr _ hρ=>rw[h1]at hρ;cases hρ
    | dO _ _ _ hρ=>rw[h1]at hρ;cases hρ
 case vp l0=>
  cases hr;cases hx with
  | vp c o g hf hc hg=>
   exact⟨c,o,g,rfl,fun i y hy=>⟨hc i (List.getElem?_eq_some_iff.1 hy).1,hg i y hy⟩⟩
theorem run_loadCellsFrom {c o:Nat}{g:Nat->Value}:∀(n i:Nat) (acc:Array Value),(∀j,i<=j->j<i+n->w.cell? ⟨c,o+j,none⟩=some (g j)) ->
 (loadCellsFrom ⟨c,o,none⟩ i n acc).run P w = .ok (acc++((List.range' i n).map g).toArray) w
 | 0,i,acc,_=>by simp[loadCellsFrom]
 | n+1,i,acc,hc=>by
  have h0:=hc i (Nat.le_refl _) (by omega);simp only[loadCellsFrom,Sem.run_bind,Addr.gH,run_load,h0,Result.andThen_ok];rw[run_loadCellsFrom n (i+1) _ (fun j h1 h2=>hc j (by omega) (by omega))];simp[List.range'_succ]
theorem FU {t:TypeId}{n:Nat}{ag:Bool}(hs:shapeOf P t=some (n,ag)){c o:Nat}{g:Nat->Value}{l:List AV}
 (hr:∀(i:Nat) y,l[i]? = some y->w.cell? ⟨c,o+i,none⟩=some (g i)/\V ρ w y (g i)) {v:AV} (hv:partOf l 0 n ag=some v) :
 ∃v',(loadVar t ⟨c,o,none⟩).run P w = .ok v' w/\V ρ w v v':=by
 obtain⟨i,d,h1,h2,rfl,rfl⟩:=ra hs;unfold partOf at hv;simp only[loadVar,Sem.run_bind,FE h2,Result.andThen_ok];split at hv
 . rename_i hag;simp only[Option.map_eq_some_iff]at hv;obtain⟨r,hr',rfl⟩:=hv;unfold cut at hr';simp only[List.drop_zero]at hr';split at hr'
   . rename_i hl;cases hr';have hl':i.size<=l.length:=by simp at hl;omega
     rw[if_pos hag];have hrun:=run_loadCellsFrom (P:=P) (w:=w) (c:=c) (o:=o) (g:=g) i.size 0 #[] (fun j _ hj=>by
      have hj':j<l.length:=by omega
      exact(hr j l[j] (List.getElem?_eq_getElem hj')).1)
     refine⟨.agg ((List.range' 0 i.size).map g).toArray,?_,V.qY ⟨by simp;omega,fun j x y hx hy=>?_⟩⟩
     . simp only[Sem.run_bind,gG h1,Result.andThen_ok,loadCells,hrun];simp
     . rw[List.getElem?_take]at hx;split at hx
       . rename_i hj;have:=(hr j x hx).2;rw[List.getElem?_map,List.getElem?_range' hj]at hy;simp at hy;subst hy;exact this
       . cases hx
   . cases hr'
 . rename_i hag;rw[if_neg hag];obtain⟨h3,h4⟩:=hr 0 v hv;refine⟨g 0,?_,h4⟩;simp only[Nat.add_zero]at h3;simp only[run_load,h3]
theorem PM {x:AV}{v:Value}(hx:V ρ w x v)(h:cS x=true):v.oneCell'=true:=by
 cases hx <;> first|rfl|(simp[cS]at h)
theorem PN {o:Nat}(h:w.heap[c]? = some (.cells cs e fr)):w.cell? ⟨c,o,none⟩=cs[o]? := by
 unfold World.cell?;simp[h]
theorem PO {o:Nat}(h:w.heap[c]? = some (.cells cs e fr))(v:Value) :
 w.setCell ⟨c,o,none⟩ v=w.di c (.cells (cs.setIfInBounds o v) e fr):=by
 have hlt:=(Array.getElem?_eq_some_iff.1 h).1;have hg:=(Array.getElem?_eq_some_iff.1 h).2;unfold World.setCell World.di;congr 1;apply Array.ext_getElem?;intro i;rw[Array.getElem?_modify,Array.getElem?_setIfInBounds];by_cases hi:c=i
 . subst hi;simp[hlt,hg]
 . rw[if_neg hi,if_neg hi]
theorem PQ {O':Obj}:(w.di c O).di c O'=w.di c O':=by
 unfold World.di;simp
theorem PR (h:w.heap[c]? = some O):w.di c O=w:=by
 have hlt:=(Array.getElem?_eq_some_iff.1 h).1;have hg:=(Array.getElem?_eq_some_iff.1 h).2;unfold World.di;have:w.heap.setIfInBounds c O=w.heap:=by
  apply Array.ext_getElem?;intro i;rw[Array.getElem?_setIfInBounds];by_cases hi:c=i
  . subst hi;simp[hlt,hg]
  . rw[if_neg hi]
 rw[this]
theorem FV {i:Nat}{cs':Array Value}(h:w.heap[c]? = some (.cells cs e fr)) :
 (w.di c (.cells cs' e fr)).frozen? ⟨c,i,none⟩=w.frozen? ⟨c,i,none⟩:=by
 unfold World.frozen?;rw[nk (Array.getElem?_eq_some_iff.1 h).1,h]
theorem FW {c o:Nat}{e:TypeId}{fr:Nat×Nat}:∀(vs:List Value) (i:Nat) (w:World) (cs:Array Value),w.heap[c]? = some (.cells cs e fr)->o+i+vs.length<=cs.size ->
 (∀j,j<cs.size->w.frozen? ⟨c,j,none⟩=false)->(∀v∈vs,v.oneCell'=true) ->
 (storeCells ⟨c,o,none⟩ vs i).run P w = .ok () (w.di c (.cells (ow cs.toList (o+i) vs).toArray e fr))
 | [],i,w,cs,h,_,_,_=>by
  simp only[storeCells,Sem.run_pure];have:ow cs.toList (o+i) []=cs.toList:=by simp[ow]
  rw[this,Array.toArray_toList,PR h]
 | v::vs,i,w,cs,h,hl,hf,hv=>by
  simp only[List.length_cons]at hl;simp only[storeCells,Sem.run_bind,Addr.gH];have hlt:o+i<cs.size:=by omega
  rw[run_store P w _ v .plain (hv v (by simp)),PN h];rw[show cs[o+i]? = some cs[o+i] from by simp[hlt]];simp only[hf _ hlt,Bool.false_eq_true,if_false,Result.andThen_ok];rw[PO h];have hc:=(Array.getElem?_eq_some_iff.1 h).1;have hf':∀j,j<cs.size->(w.di c (.cells (cs.setIfInBounds (o+i) v) e fr)).frozen? ⟨c,j,none⟩=false:=fun j hj=>by rw[FV h];exact hf j hj
  rw[FW vs (i+1) _ (cs.setIfInBounds (o+i) v) (nk hc) (by simp;omega) (by simpa using hf') (fun u hu=>hv u (by simp[hu]))];rw[PQ];have e1:(ow (cs.setIfInBounds (o+i) v).toList (o+(i+1)) vs)=ow cs.toList (o+i) (v::vs):=by
   rw[FN (by simp;omega),Array.toList_setIfInBounds];rfl
  rw[e1]
theorem kT (m:Mem P gl ρ h w){b:Nat}{l:List AV}{e:TypeId}(hb:h.at b=some (.cells l e)) :
 h[b]? = some (some (.cells l e))/\BR P gl ρ w b (.cells l e):=by
 have:h[b]? = some (some (.cells l e)):=by
  unfold ab.at at hb;cases hq:h[b]? with
  | none=>simp[hq]at hb
  | some q=>simp[hq]at hb;rw[hb]
 exact⟨this,m.cW b _ this⟩
theorem pq {b:Nat}{o:bw}(hb:h.at b=some o):h[b]? = some (some o):=by
 unfold ab.at at hb;cases hq:h[b]? with
 | none=>simp[hq]at hb
 | some q=>simp[hq]at hb;rw[hb]
theorem rm (m:Mem P gl ρ h w){b:Nat}{l:List AV}{e:TypeId}(hb:h.at b=some (.cells l e)){c d:Nat}(hρ:ρ b = .live c d){off:Nat}{new:List AV}{nv:List Value}(hn:VL ρ w new nv)
 (hoff:off<=l.length) (hlen:∀cs e' fr,w.heap[c]? = some (.cells cs e' fr)->off+d+new.length<=cs.size) (hone:new.all cS=true) :
 ∃w',(storeCells ⟨c,off+d,none⟩ nv).run P w = .ok () w'/\Mem P gl ρ (h.put b (some (.cells (overwrite l off new) e))) w'/\Ext h (h.put b (some (.cells (overwrite l off new) e))) ρ ρ w w':=by
 obtain⟨h0,hbr⟩:=kT m hb;rcases hbr with ⟨c',d',cs,fr,h1,h2,h3,h4,h5⟩|⟨h1,_⟩
 . rw[hρ]at h1;cases h1;have hone':∀v∈nv,v.oneCell'=true:=by
    intro v hv;obtain⟨i,hi,rfl⟩:=List.mem_iff_getElem.1 hv;have hi':i<new.length:=by rw[hn.length];exact hi
    have ho:cS new[i]=true:=List.all_eq_true.1 hone _ (List.getElem_mem hi');exact PM (hn.2 i new[i] nv[i] (List.getElem?_eq_getElem hi') (List.getElem?_eq_getElem hi)) ho
   have hlen':off+d+nv.length<=cs.size:=by rw[←hn.length];exact hlen cs e fr h2
   have hrun:=FW (P:=P) (c:=c) (o:=off+d) (e:=e) (fr:=fr) nv 0 w cs h2 (by omega) h4 hone';simp only[Nat.add_zero]at hrun;have hsz:(ow cs.toList (off+d) nv).toArray.size=cs.size:=by
    have:=PB (m:=cs.toList) (new:=nv) (off:=off+d) (by simpa using hlen');simpa using this
   have hO:∀cs0 e0 fr0,w.heap[c]? = some (.cells cs0 e0 fr0)->∃cs' fr',Obj.cells (ow cs.toList (off+d) nv).toArray e fr = .cells cs' e0 fr'/\cs'.size=cs0.size:=by
    intro cs0 e0 fr0 hq;rw[h2]at hq;cases hq;exact⟨_,_,rfl,hsz⟩
   have x:=Ext.write m h0 hρ (some (.cells (overwrite l off new) e)) (.cells (ow cs.toList (off+d) nv).toArray e fr) hO;refine⟨_,hrun,?_,x⟩;refine Mem.write m h0 hρ _ _ hO ?_;intro o' ho;cases ho;have hc:=m.bound _ _ _ hρ;have hle:Fits P e d (overwrite l off new).length cs.size:=by
    have h9:=hn.length;have FX:=h3.1;refine⟨by simp[overwrite];omega,fun he=>?_⟩;have zQ:=h3.2 he;refine⟨zQ.1,?_⟩;simp[overwrite];omega
   refine .inl ⟨c,d,_,fr,hρ,nk hc,by rw[hsz];exact hle,fun i hi=>by rw[FV h2];exact h4 i (by rw[hsz]at hi;exact hi),fun i x' y hx hy=>?_⟩;refine V.mono x ?_;have hy':(ow cs.toList (off+d) nv)[i+d]? = some y:=by simpa using hy
   unfold overwrite at hx;unfold ow at hy';have hnl:=hn.length;simp only[List.getElem?_append,List.length_append,List.length_take,List.getElem?_take,List.getElem?_drop]at hx hy';have t1:min off l.length=off:=by omega
   have t2:min (off+d) cs.toList.length=off+d:=by simp;omega
   rw[t1]at hx;rw[t2]at hy';by_cases k1:i<off
   . rw[if_pos (by omega),if_pos k1,if_pos k1]at hx;rw[if_pos (by omega),if_pos (by omega),if_pos (by omega)]at hy';exact h5 i x' y hx (by simpa using hy')
   . by_cases k2:i<off+new.length
     . rw[if_pos (by omega),if_neg k1]at hx;rw[if_pos (by omega),if_neg (by omega)]at hy';rw[show i+d-(off+d)=i-off from by omega]at hy';exact hn.2 _ x' y hx hy'
     . rw[if_neg (by omega)]at hx;rw[if_neg (by omega)]at hy';rw[show off+new.length+(i-(off+new.length))=i from by omega]at hx;rw[show off+d+nv.length+(i+d-(off+d+nv.length))=i+d from by omega]at hy';exact h5 i x' y hx (by simpa using hy')
 . rw[hρ]at h1;cases h1
end Go.Ab

/-
  Own work: append.
-/
namespace Go.Ab
variable {P:Program} {gl:Nat->Option AV} {ρ:au} {w:World} {h:ab}
theorem run_loadCells {c o:Nat}{g:Nat->Value}{l:List AV}(hr:∀(i:Nat) y,l[i]? = some y->w.cell? ⟨c,o+i,none⟩=some (g i)/\V ρ w y (g i)){k:Nat}(hk:k<=l.length) :
 ∃cs:List Value,(loadCells ⟨c,o,none⟩ k).run P w = .ok cs.toArray w/\VL ρ w (l.take k) cs:=by
 have hrun:=run_loadCellsFrom (P:=P) (w:=w) (c:=c) (o:=o) (g:=g) k 0 #[] (fun j _ hj=>by
  have hj':j<l.length:=by omega
  exact(hr j l[j] (List.getElem?_eq_getElem hj')).1)
 refine⟨(List.range' 0 k).map g,by simpa[loadCells] using hrun,by simp;omega,fun j x y hx hy=>?_⟩;rw[List.getElem?_take]at hx;split at hx
 . rename_i hj;have:=(hr j x hx).2;rw[List.getElem?_map,List.getElem?_range' hj]at hy;simp at hy;subst hy;exact this
 . cases hx
theorem PS (m:Mem P gl ρ h w){b:Nat}{l:List AV}{e:TypeId}(hb:h.at b=some (.cells l e)){c d:Nat}(hρ:ρ b = .live c d)(off:Nat) :
 ∃g:Nat->Value,∀(i:Nat) y,(l.drop off)[i]? = some y->w.cell? ⟨c,off+d+i,none⟩=some (g i)/\V ρ w y (g i):=by
 have hx:V ρ w (.ptr b off) (.pointer (some ⟨c,off+d,none⟩)):=.ptr off hρ;have hr:fg h (.ptr b off)=some (l.drop off):=by simp[fg,hb]
 obtain⟨c',o',g,he,hg⟩:=readable m hx hr;cases he;exact⟨g,hg⟩
theorem FY:∀(s:List UInt8),VL ρ w (s.map fun c=>AV.int .u8 c.toNat) (s.map fun c=>Value.int .u8 c.toNat)
 | []=>.nil
 | _::s=>.cons (.int _ _) (FY s)
theorem mg (m:Mem P gl ρ h w){x:AV}{x':Value}(hx:V ρ w x x'){l:List AV}{n:Nat}(hs:eA h x=some (l,n)){size:Nat}(hl:l.length=n*size) :
 (Builtin.lenOf x').run P w = .ok n w/\∀k,k<=n->∃cs:List Value,(Builtin.firstCells size k x').run P w = .ok cs.toArray w/\VL ρ w (l.take (k*size)) cs:=by
 cases x <;> simp only[eA,reduceCtorEq,Option.some.injEq,Prod.mk.injEq]at hs
 case str s=>
  obtain⟨rfl,rfl⟩:=hs;obtain rfl:=hx.jC;by_cases hs0:s=[]
  . subst hs0;exact⟨rfl,fun k hk=>⟨[],by simp only[Builtin.firstCells,Sem.run_pure];rw[zI];simp,by simpa using VL.nil⟩⟩
  obtain rfl:size=1:=by
   have h1:0<s.length:=List.length_pos_iff.2 hs0;have h2:s.length*1=s.length*size:=by simpa using hl
   exact(Nat.eq_of_mul_eq_mul_left h1 h2).symm
  refine⟨by simp[Builtin.lenOf,ByteArray.size],fun k hk=>⟨(s.take k).map fun c=>Value.int .u8 c.toNat,?_,?_⟩⟩
  . simp only[Builtin.firstCells,Sem.run_pure];congr 1;rw[zI];simp
  . rw[Nat.mul_one,←List.map_take];exact FY _
 case ae=>
  obtain⟨rfl,rfl⟩:=hs;cases hx;exact⟨rfl,fun k _=>⟨[],rfl,by simpa using VL.nil⟩⟩
 case vs l0 len cap=>
  obtain⟨rfl,rfl⟩:=hs;cases hx with
  | vs c o g hf hlc hcap hc hg=>
   refine⟨rfl,fun k hk=>?_⟩;have hk':k*size<=l0.length:=by rw[hl];exact Nat.mul_le_mul_right _ hk
   exact run_loadCells (P:=P) (fun i y hy=>⟨hc i (List.getElem?_eq_some_iff.1 hy).1,hg i y hy⟩) hk'
  | dT hcap=>exact⟨rfl,fun k _=>⟨[],rfl,by simpa using VL.nil⟩⟩
  | fm a hcap=>exact⟨rfl,fun k hk=>⟨[],by rw[Nat.le_zero.1 hk];(simp only[Builtin.firstCells,loadCells,Nat.zero_mul];rfl),by simpa using VL.nil⟩⟩
 case sl b off len esz cap=>
  split at hs
  . rename_i l0 e hb;simp only[Option.map_eq_some_iff,Prod.mk.injEq]at hs;obtain⟨r,hcut,rfl,rfl⟩:=hs;unfold cut at hcut;simp only at hcut;split at hcut
    . rename_i hlen;cases hcut;obtain⟨h0,hbr⟩:=kT m hb;have hln:len*esz=len*size:=by rw[←hlen,hl]
      cases hx with
      | @sl _ c d _ _ _ capC _ hρ hlc hcap hs=>
       refine⟨rfl,fun k hk=>?_⟩;obtain⟨g,hg⟩:=PS m hb hρ off;have hk':k*size<=(l0.drop off).length:=by
        have:(List.take (len*esz) (List.drop off l0)).length<=(l0.drop off).length:=by rw[List.length_take];omega
        have h3:k*size<=len*size:=Nat.mul_le_mul_right _ hk;omega
       obtain⟨cs,h1,h2⟩:=run_loadCells (P:=P) hg hk';refine⟨cs,h1,?_⟩;rw[List.take_take,Nat.min_eq_left (by rw[hln];exact Nat.mul_le_mul_right _ hk)];exact h2
      | fk hρ=>exact⟨rfl,fun k _=>⟨[],rfl,by simp at hlen ⊢;exact VL.nil⟩⟩
      | dX _ _ hρ _ _=>rcases hbr.live with ⟨c,d,hl'⟩|hl'|hl' <;> (rw[hρ]at hl';cases hl')
      | fe hρ=>rcases hbr.live with ⟨c,d,hl'⟩|hl'|hl' <;> (rw[hρ]at hl';cases hl')
      | fl a hρ=>rcases hbr.live with ⟨c,d,hl'⟩|hl'|hl' <;> (rw[hρ]at hl';cases hl')
    . cases hcut
  . split at hs
    . rename_i hn;subst hn;cases hs;cases hx with
      | sl hρ hlc hcap hs=>exact⟨rfl,fun k hk=>run_loadCells (P:=P) (g:=fun _=>.bool false) (l:=[]) (fun i y hy=>by simp at hy) (by rw[Nat.le_zero.1 hk];simp)⟩
      | fk hρ=>exact⟨rfl,fun k _=>⟨[],rfl,by simpa using VL.nil⟩⟩
      | dX _ _ hρ _ _=>exact⟨rfl,fun k hk=>run_loadCells (P:=P) (g:=fun _=>.bool false) (l:=[]) (fun i y hy=>by simp at hy) (by rw[Nat.le_zero.1 hk];simp)⟩
      | fe hρ=>exact⟨rfl,fun k _=>⟨[],rfl,by simpa using VL.nil⟩⟩
      | fl a hρ=>exact⟨rfl,fun k hk=>⟨[],by rw[Nat.le_zero.1 hk];(simp only[Builtin.firstCells,loadCells,Nat.zero_mul];rfl),by simpa using VL.nil⟩⟩
    . cases hs
theorem FZ (n:Nat):∀(k c:Nat),256<=c->c<=2*n->Builtin.growBy n k c<=2*n
 | 0,c,_,h=>h
 | k+1,c,h0,h=>by
  simp only[Builtin.growBy];split
  . exact h
  . exact FZ n k _ (by omega) (by omega)
theorem PT {n c:Nat}(h:c<n):Builtin.nextslicecap n c<=2*n:=by
 unfold Builtin.nextslicecap;split
 . omega
 . split
   . omega
   . exact FZ n 4 c (by omega) (by omega)
theorem PU (z:Array Value)(n:Nat):(Builtin.zeroCells z n).size=n*z.size:=by simp[Builtin.zeroCells]
structure zU (P:Program)(t u elem:TypeId)(i:TypeInfo)(z:Value):Prop where
 ht:P.underlying t=some (.slice elem)
 hu:(∃e,P.underlying u=some (.slice e))\/P.underlying u=some .string
 hi:P.info? elem=some i
 hz:i.zero=some z
 hs:z.cells.size=i.size
theorem zV {t u ty elem:TypeId}{i:TypeInfo}{z:Value}(ht:zU P t u elem i z){base:Option Addr}{len capC n:Nat}{y':Value}{new:Array Value}{w':World}
 (hn:(Builtin.lenOf y').run P w = .ok n w) (hf:(Builtin.firstCells i.size n y').run P w = .ok new w) (hle:len+n<=capC)
 (hs:(match base with|some a=>storeCells (a.add (len*i.size)) new.toList|none=>pure ():Sem Unit).run P w = .ok () w') :
 (Builtin.append_ #[t,u] ty #[.slice base len capC,y']).run P w = .ok (.slice base (len+n) capC) w':=by
 obtain⟨h1,h2,h3,h4,h5⟩:=ht;rcases h2 with ⟨e,h2⟩|h2;all_goals
  cases base with
  | none=>
   simp only[Sem.run_pure,Result.ok.injEq,true_and]at hs;subst hs;simp[Builtin.append_,bS h1,bS h2,sizeOf,typeInfo,h3,hn,hf,hle]
  | some a=>
   simp only at hs;simp[Builtin.append_,bS h1,bS h2,sizeOf,typeInfo,h3,hn,hf,hle,hs]
theorem PV {t u ty elem:TypeId}{i:TypeInfo}{z:Value}(ht:zU P t u elem i z){base:Option Addr}{len capC n:Nat}{y':Value}{bU new:Array Value}
 (hn:(Builtin.lenOf y').run P w = .ok n w) (hlt:capC<len+n) (hb:0<i.bytes) (hr:(len+n)*i.bytes<=dD)
 (ho:(Builtin.firstCells i.size len (.slice base len capC)).run P { w with drawn:=w.drawn+1 } = .ok bU { w with drawn:=w.drawn+1 })
 (hf:(Builtin.firstCells i.size n y').run P { w with drawn:=w.drawn+1 } = .ok new { w with drawn:=w.drawn+1 }) :
 ∃cap,len+n<=cap/\(Builtin.append_ #[t,u] ty #[.slice base len capC,y']).run P w =
  .ok (.slice (some ⟨w.heap.size,0,none⟩) (len+n) cap) { w with drawn:=w.drawn+1,heap:=w.heap.push (.cells (bU++new++Builtin.zeroCells z.cells (cap-(len+n))) elem) }:=by
 obtain⟨h1,h2,h3,h4,h5⟩:=ht;have hle:¬(len+n<=capC):=by omega
 have hroom:dD=70368744177664:=by decide
 have hN:len+n<=dD:=Nat.le_trans (Nat.le_mul_of_pos_right _ hb) hr;have h48:¬(281474976710656<Builtin.nextslicecap (len+n) capC*i.bytes):=by
  have:=Nat.mul_le_mul_right i.bytes (PT hlt);rw[Nat.mul_assoc]at this;omega
 have hb':i.bytes≠0:=by omega
 refine⟨(Question.appendCap (len+n) capC elem).cut (w.tape w.drawn (.appendCap (len+n) capC elem)),by simp[Question.cut],?_⟩;have ho':(Builtin.firstCells i.size len (.slice base len capC)).run P w.drew = .ok bU w.drew:=ho;have hf':(Builtin.firstCells i.size n y').run P w.drew = .ok new w.drew:=hf;rcases h2 with ⟨e,h2⟩|h2;all_goals
  simp[Builtin.append_,bS h1,bS h2,sizeOf,typeInfo,zeroValue,h3,h4,hn,hle,h48,hb',Question.forced,newRow,ho',hf'];rfl
theorem VL.PW {l:List AV}{m m':List Value}(h:VL ρ w l (m.take l.length)):VL ρ w l ((m++m').take l.length):=by
 rw[List.take_append_of_le_length]
 . exact h
 . have:=h.length;simp at this;omega
theorem Ga {h0:List (Option bw)}{n:Nat}(hn:h0.length=n)(x y:Option bw):ab.put (h0++[x]) n y=h0++[y]:=by
 subst hn;unfold ab.put;rw[List.set_append_right _ _ (Nat.le_refl _)];simp
theorem PX (m:Mem P gl ρ h w){t u ty elem:TypeId}{i:TypeInfo}{z:Value}(ht:zU P t u elem i z){x y:AV}{x' y':Value}(hx:V ρ w x x')(hy:V ρ w y y')
 (hne:jj P elem=false) {r:HR} (ha:jv elem i.size i.bytes h x y=some r) :
 ∃v' w',(Builtin.append_ #[t,u] ty #[x',y']).run P w = .ok v' w'/\dY P gl ρ h w r v' w':=by
 unfold jv at ha;split at ha
 . cases ha
 . rename_i new n hsc;split at ha
   . rename_i hcond;obtain⟨hnl,hb,hone⟩:=hcond;obtain⟨hlen,hfirst⟩:=mg m hy hsc hnl;obtain⟨hlen',hfirst'⟩:=mg (m.drew (w.drawn+1)) (hy.mono (Ext.drew h ρ w _)) hsc hnl;obtain⟨nv,hf,fJ⟩:=hfirst n (Nat.le_refl _);obtain⟨nv',hf',hnv'⟩:=hfirst' n (Nat.le_refl _);rw[←hnl,List.take_length]at fJ hnv';have none_case:n=0->(∃base len capC,x' = .slice base len capC/\len<=capC)->r=⟨x,h,[]⟩->∃v' w',(Builtin.append_ #[t,u] ty #[x',y']).run P w = .ok v' w'/\dY P gl ρ h w r v' w':=by
      rintro rfl ⟨base,len,capC,rfl,hlc⟩ rfl;have hnv0:nv=[]:=by
       have:=fJ.length;rw[hnl,Nat.zero_mul]at this;exact List.length_eq_zero_iff.1 this.symm
      subst hnv0;refine⟨_,w,zV ht hlen hf (by omega) ?_,ρ,by simpa using hx,m,Ext.refl _ _ _⟩;cases base <;> simp[storeCells]
     have new_case:∀(base:Option Addr) (len capC:Nat) (oldl:List AV) (bU:List Value) (h0:ab) (ρ0:au),x' = .slice base len capC->capC<len+n->(len+n)*i.bytes<=dD->oldl.length=len*i.size ->
      (Builtin.firstCells i.size len x').run P { w with drawn:=w.drawn+1 } = .ok bU.toArray { w with drawn:=w.drawn+1 } ->
      Mem P gl ρ0 h0 { w with drawn:=w.drawn+1 }->Ext h h0 ρ ρ0 w { w with drawn:=w.drawn+1 }->VL ρ0 { w with drawn:=w.drawn+1 } oldl bU->VL ρ0 { w with drawn:=w.drawn+1 } new nv'->h0.length=h.length ->
      ∀wr,r=⟨.sl h.length 0 (len+n) i.size none,h0++[some (.cells (oldl++new) elem)],wr⟩ ->
      ∃v' w',(Builtin.append_ #[t,u] ty #[x',y']).run P w = .ok v' w'/\dY P gl ρ h w r v' w':=by
      rintro base len capC oldl bU h0 ρ0 rfl hlt hroom hol hfo m0 x0 ho hn0 hl0 wr rfl;obtain⟨cap,hcap,hrun⟩:=PV (ty:=ty) ht hlen hlt hb hroom hfo hf';refine⟨_,_,hrun,?_⟩;have e1:=ho.length;have e2:=hn0.length;have hcs:(bU.toArray++nv'.toArray++Builtin.zeroCells z.cells (cap-(len+n))).size=(oldl++new).length+(cap-(len+n))*i.size:=by
       rw[Array.size_append,PU,ht.hs];simp;omega
      have hvl:VL ρ0 { w with drawn:=w.drawn+1 } (oldl++new) ((bU.toArray++nv'.toArray++Builtin.zeroCells z.cells (cap-(len+n))).toList.take (oldl++new).length):=by
       have h9:=ho.append hn0;have e9:=h9.length;rw[show (bU.toArray++nv'.toArray++Builtin.zeroCells z.cells (cap-(len+n))).toList=(bU++nv')++(Builtin.zeroCells z.cells (cap-(len+n))).toList from by simp];refine VL.PW ?_;rw[e9,List.take_length];exact h9
      obtain⟨m1,x1⟩:=FQ m0 (l:=oldl++new) (cs:=bU.toArray++nv'.toArray++Builtin.zeroCells z.cells (cap-(len+n))) elem hvl (by rw[hcs];omega) (fun he=>by rw[hne]at he;cases he);rw[←hl0];refine⟨_,zN hcap (by simp) ?_,m1,x0.trans x1⟩;rw[hcs,List.length_append,hol,hnl,←Nat.add_mul,←Nat.add_mul];have:len+n+(cap-(len+n))=cap:=by omega
      rw[this];exact Nat.le_refl _
     have md:=m.drew (w.drawn+1);have xd:=Ext.drew h ρ w (w.drawn+1);split at ha
     . -- nil
       cases hx;split at ha
       . rename_i h0;cases ha;exact none_case h0 ⟨_,_,_,rfl,Nat.le_refl _⟩ rfl
       . rename_i h0;split at ha
         . rename_i hroom;cases ha;exact new_case none 0 0 [] [] h ρ rfl (by omega) (by simpa using hroom) (by simp) rfl md xd VL.nil hnv' rfl [] (by simp)
         . cases ha
     . -- by its content
       rename_i l len cap;obtain⟨base,len',capC,rfl,hlc,hsp,hnil⟩:=jX hx trivial;obtain⟨rfl,hcap⟩:=rj hx;split at ha
       . rename_i h0;cases ha;exact none_case h0 ⟨_,_,_,rfl,hlc⟩ rfl
       . rename_i h0;split at ha
         . rename_i c;split at ha
           . rename_i hc;cases ha;obtain⟨h1,hroom,hll⟩:=hc;have hcc:=hcap c rfl;obtain⟨_,ho⟩:=mg md (hx.mono xd) (l:=l) (n:=len') (by simp[eA]) hll;obtain⟨bU,ho1,ho2⟩:=ho len' (Nat.le_refl _);rw[←hll,List.take_length]at ho2;exact new_case base len' capC l bU h ρ rfl (by omega) hroom hll ho1 md xd ho2 hnv' rfl [] rfl
           . cases ha
         . cases ha
     . -- into a block of the call's own
       rename_i b off len e cap;obtain⟨base,len',capC,rfl,hlc,hsp,hnil⟩:=jX hx trivial;obtain⟨rfl,hcap⟩:=ri hx;split at ha
       . rename_i h0;cases ha;exact none_case h0 ⟨_,_,_,rfl,hlc⟩ rfl
       . rename_i h0;split at ha <;> try (cases ha;done)
         rename_i hc;obtain⟨he,hroom⟩:=hc;subst he;split at ha <;> try (cases ha;done)
         rename_i l el hat;obtain⟨hb0,hbr⟩:=kT m hat;have hρl:ρ b≠.dead:=fun hd=>by rcases hbr.live with ⟨_,_,hl'⟩|hl'|hl' <;> (rw[hd]at hl';cases hl')
         split at ha
         . -- the capacity is known
           rename_i c;have hcc:=hcap c rfl;split at ha
           . rename_i hle;split at ha
             . rename_i hin;cases ha;cases hx with
               | @sl _ cb d _ _ _ _ _ hρ _ _ hs=>
                obtain⟨cs,e',fr,h5,h6⟩:=hs;have hoff:off+len'*i.size<=l.length:=by
                 have:len'*i.size<=(len'+n)*i.size:=Nat.mul_le_mul_right _ (by omega);omega
                obtain⟨w',hst,m1,x1⟩:=rm (off:=off+len'*i.size) m hat hρ fJ hoff (fun cs0 e0 fr0 hq=>by
                 rw[h5]at hq;cases hq;rw[hnl];have:(len'+n)*i.size<=capC*i.size:=Nat.mul_le_mul_right _ (by omega);rw[Nat.add_mul]at this;omega) hone
                refine⟨_,w',zV ht hlen hf (by omega) (by
                 show Sem.run P (storeCells ((⟨cb,off+d,none⟩:Addr).add (len'*i.size)) nv) w=_;rw[Addr.gH,show off+d+len'*i.size=off+len'*i.size+d from by omega];exact hst),ρ,?_,m1,x1⟩
                obtain⟨cs',fr',h7,h8⟩:=x1.shape _ _ _ _ h5;exact .sl hρ (by omega) hcap ⟨cs',e',fr',h7,by omega⟩
               | dX _ _ hρ _ _=>exact absurd hρ hρl
               | fl a hρ=>exact absurd hρ hρl
             . cases ha
           . rename_i hgt;split at ha
             . rename_i old' hcut;cases ha;have hcut':=hcut;unfold cut at hcut';simp only at hcut';split at hcut'
               . rename_i hcl;cases hcut';obtain⟨_,ho⟩:=mg md (hx.mono xd) (l:=List.take (len'*i.size) (List.drop off l)) (n:=len') (by simp[eA,hat,hcut]) hcl;obtain⟨bU,ho1,ho2⟩:=ho len' (Nat.le_refl _);rw[List.take_take,Nat.min_self]at ho2;exact new_case base len' capC _ bU h ρ rfl (by omega) hroom hcl ho1 md xd ho2 hnv' rfl [] rfl
               . cases hcut'
             . cases ha
         . -- the capacity is not known
           split at ha
           . rename_i hend;cases ha;obtain⟨hend,rfl⟩:=hend;have hcl:(List.take (len'*i.size) (List.drop off l)).length=len'*i.size:=by simp;omega
             have hdrop:List.take (len'*i.size) (List.drop off l)=List.drop off l:=List.take_of_length_le (by simp;omega);by_cases hfit:len'+n<=capC
             . -- there is room
               cases hx with
               | @sl _ cb d _ _ _ _ _ hρ _ _ hs=>
                obtain⟨cs,e',fr,h5,h6⟩:=hs;have hroomc:off+d+(len'+n)*i.size<=cs.size:=by
                 have:(len'+n)*i.size<=capC*i.size:=Nat.mul_le_mul_right _ hfit;omega
                have hbr':BR P gl ((ρ.dH b .dead).dH h.length (.live cb (off+d))) w h.length (.cells (l.drop off) el):=by
                 rcases hbr with ⟨c',d',cs',fr',g1,g2,g3,g4,g5⟩|⟨g1,g2⟩
                 . rw[hρ]at g1;cases g1;rw[h5]at g2;cases g2;refine .inl ⟨cb,off+d,cs,fr,au.dI _ _ _,h5,⟨by have:=g3.1;simp;omega,fun he=>by rw[hne]at he;cases he⟩,g4,fun j a v' ha hv=>?_⟩;refine(g5 (off+j) a v' (by simpa using ha) (by rw[show off+j+d=j+(off+d) from by omega];exact hv)).mono (Ext.move m hb0 hρ (some (.cells (l.drop off) el)) (off+d))
                 . rw[hρ]at g1;cases g1
                have m1:=Mem.move m hb0 hρ (some (.cells (l.drop off) el)) (off+d) (fun o' ho=>by cases ho;exact hbr');have x1:=Ext.move m hb0 hρ (some (.cells (l.drop off) el)) (off+d);have hat':(h.set b none++[some (.cells (l.drop off) el)]:ab).at h.length=some (.cells (l.drop off) el):=by
                 unfold ab.at;rw[List.getElem?_append_right (by simp)];simp
                have hρ':((ρ.dH b .dead).dH h.length (.live cb (off+d))) h.length = .live cb (off+d):=au.dI _ _ _;obtain⟨w',hst,m2,x2⟩:=rm (off:=len'*i.size) m1 hat' hρ' (fJ.mono x1) (by simp;omega) (fun cs0 e0 fr0 hq=>by
                 rw[h5]at hq;cases hq;rw[hnl];rw[Nat.add_mul]at hroomc;omega) hone
                have hh:(h.set b none++[some (.cells (l.drop off) el)]:ab).put h.length (some (.cells (overwrite (l.drop off) (len'*i.size) new) el))=h.put b none++[some (.cells (l.drop off++new) el)]:=by
                 have:overwrite (l.drop off) (len'*i.size) new=l.drop off++new:=by
                  unfold overwrite;have e2:(l.drop off).drop (len'*i.size+new.length)=[]:=List.drop_of_length_le (by rw[List.length_drop];omega);rw[hdrop,e2,List.append_nil]
                 rw[this];exact Ga (List.length_set) _ _
                rw[hh]at m2 x2;refine⟨_,w',zV ht hlen hf hfit (by
                 show Sem.run P (storeCells ((⟨cb,off+d,none⟩:Addr).add (len'*i.size)) nv) w=_;rw[Addr.gH,show off+d+len'*i.size=len'*i.size+(off+d) from by omega];exact hst),_,?_,m2,x1.trans x2⟩
                obtain⟨cs',fr',h7,h8⟩:=(x1.trans x2).shape _ _ _ _ h5;have:=V.sl (w:=w') (o:=0) (len:=len'+n) (esz:=i.size) (capC:=capC) (cap:=none) hρ' hfit (by simp) ⟨cs',e',fr',h7,by rw[Nat.zero_add];omega⟩;simpa using this
               | fk hρ=>omega
               | dX _ _ hρ _ _=>exact absurd hρ hρl
               | fe hρ=>exact absurd hρ hρl
             . have hsc':eA h (.sl b off len' i.size none)=some (List.take (len'*i.size) (List.drop off l),len'):=by
                simp[eA,hat,cut];omega
               obtain⟨_,ho⟩:=mg md (hx.mono xd) hsc' hcl;obtain⟨bU,ho1,ho2⟩:=ho len' (Nat.le_refl _);rw[List.take_take,Nat.min_self,hdrop]at ho2;have m1:=md.forget hb0;have x1:=xd.trans (Ext.forget (w:={ w with drawn:=w.drawn+1 }) hb0 (fun c d hl=>m.bound b c d hl));exact new_case base len' capC _ bU (h.set b none) _ rfl (by omega) hroom (by simp;omega) ho1 m1 x1 (ho2.mono (Ext.forget (w:={ w with drawn:=w.drawn+1 }) hb0 (fun c d hl=>m.bound b c d hl))) (hnv'.mono (Ext.forget (w:={ w with drawn:=w.drawn+1 }) hb0 (fun c d hl=>m.bound b c d hl))) (by simp) [b] rfl
           . cases ha
     . cases ha
   . cases ha
end Go.Ab

/-
  Own work: the operations that look at the heap, all of them together.
-/
namespace Go.Ab
variable {P:Program} {gl:Nat->Option AV} {ρ:au} {w:World} {h:ab} {C:Cx} {s:St} {a:Act}
def ck (C:Cx)(e:Operand->Value)(o:Oper)(ρ:au)(h:ab)(w:World)(r:HR):Prop:=
 ∃v' w',((execOp e o).run C.P w = .ok (.value v') w'\/((execOp e o).run C.P w = .ok .skip w'/\v'=undef))/\dY C.P C.gl ρ h w r v' w'
theorem ck.val {o:Oper}{r:HR}{v':Value}{w':World}(h1:(execOp a.eval o).run C.P w = .ok (.value v') w')(h2:dY C.P C.gl ρ h w r v' w'):ck C a.eval o ρ h w r:=⟨v',w',.inl h1,h2⟩
theorem ck.skip {o:Oper}{r:HR}{w':World}(h1:(execOp a.eval o).run C.P w = .ok .skip w')(h2:dY C.P C.gl ρ h w r undef w'):ck C a.eval o ρ h w r:=⟨undef,w',.inr ⟨h1,rfl⟩,h2⟩
theorem gZ (m:Mem P gl ρ h w){x:AV}{v':Value}(hv:V ρ w x v'):dY P gl ρ h w ⟨x,h,[]⟩ v' w:=⟨ρ,hv,m,Ext.refl _ _ _⟩
theorem tS (m:Mem P gl ρ h w){l:List AV}{cs:Array Value}(e:TypeId)(hl:VL ρ w l cs.toList){x:AV}{v':Value}(hv:V (ρ.dH h.length (.live w.heap.size 0)) { w with heap:=w.heap.push (.cells cs e) } x v') :
 dY P gl ρ h w ⟨x,h++[some (.cells l e)],[]⟩ v' { w with heap:=w.heap.push (.cells cs e) }:=
 let ⟨m1,x1⟩:=PL m e hl
 ⟨_,hv,m1,x1⟩
theorem zW {z:List AV}{zv:Array Value}(hz:VL ρ w z zv.toList):∀n,VL ρ w (fS z n) ((Array.range (n*zv.size)).map (zv[· % zv.size]!)).toList:=by
 intro n;have key:∀n,((Array.range (n*zv.size)).map (zv[· % zv.size]!)).toList=(List.replicate n zv.toList).flatten:=by
  intro n;by_cases h0:zv.size=0
  . have hz0:zv.toList=[]:=by simpa using h0
    simp[h0,hz0]
  . induction n with
    | zero=>simp
    | succ n ih=>
     rw[List.replicate_succ',List.flatten_append,←ih];simp only[Array.toList_map,Array.toList_range];rw[Nat.succ_mul,List.range_add,List.map_append];congr 1;simp only[List.map_map,List.flatten_cons,List.flatten_nil,List.append_nil];apply List.ext_getElem
     . simp
     . intro i h1 h2;simp at h1;simp[Nat.add_comm,Nat.mod_eq_of_lt h1,h1]
 rw[key];induction n with
 | zero=>exact .nil
 | succ n ih=>
  simp only[fS,List.replicate_succ,List.flatten_cons];exact hz.append ih
theorem zX (z:List AV):∀n,(fS z n).length=n*z.length
 | 0=>by simp[fS]
 | n+1=>by simp[fS,zX z n,Nat.succ_mul];omega
theorem mh {t e:TypeId}{n b:Nat}(h:iL P t=some (e,n,b)):∃i,P.underlying t=some (.slice e)/\P.info? e=some i/\i.size=n/\i.bytes=b:=by
 unfold iL at h;split at h
 . rename_i e' hu;split at h
   . rename_i i hi;cases h;exact⟨i,hu,hi,rfl,rfl⟩
   . cases h
 . cases h
theorem rn {e:TypeId}{z:List AV}(h:(zeroOf P e).bind AV.cells=some z):∃(i:TypeInfo) (v:Value),P.info? e=some i/\i.zero=some v/\(∀(ρ:au) (w:World),VL ρ w z v.cells.toList)/\∀w:World,(zeroValue e).run P w = .ok v w:=by
 simp only[Option.bind_eq_some_iff]at h;obtain⟨u,h1,h2⟩:=h;unfold zeroOf at h1;split at h1
 . rename_i i hi;split at h1
   . rename_i v hv;exact⟨i,v,hi,hv,fun ρ w=>pk (qZ 5 v u h1) h2,fun w=>by simp[zeroValue,tM hi,hv]⟩
   . cases h1
 . cases h1
theorem PY (r:Rel C ρ s a w){t elem:TypeId}{n bb len:Nat}{ps:Array (Nat×Operand)}{z:List AV}{cps:List (Nat×Nat×aL)}(he:iL C.P t=some (elem,n,bb))(hz:(zeroOf C.P elem).bind AV.cells=some z)
 (hc:jU C (fun j=>some (j*n,n)) ps.toList=some cps) (hn0:0<n) (hzn:z.length=n) (hroom:len*n<=2^24) {vs:List (Nat×Nat×AV)} (hv:s.parts cps=some vs) {l:List AV} (hf:kG (fS z len) vs=some l) (hll:l.length=len*n)
 {o:Oper} (ho:o.op = .buildSlice t len ps):ck C a.eval o ρ s.hp w ⟨.sl s.hp.length 0 len n (some len),s.hp++[some (.cells l elem)],[]⟩:=by
 obtain⟨i,hu,hi,rfl,rfl⟩:=mh he;obtain⟨i',zv,hi',hzv,hzl,hzrun⟩:=rn hz;rw[hi]at hi';cases hi';have hzs:zv.cells.size=i.size:=by rw[←hzn,(hzl ρ w).toList]
 have hrep:=zW (hzl ρ w) len;obtain⟨e1,e2⟩:=tP r hc hv;obtain⟨m',h1,h2⟩:=tO (place:=fun j=>some (j*i.size,i.size)) vs _ _ _ l e1 e2 hrep hf;have hms:m'.length=len*i.size:=by rw[←h2.length,hll]
 refine ck.val (v':=.slice (some ⟨w.heap.size,0,none⟩) len len) (w':={ w with heap:=w.heap.push (.cells m'.toArray elem) }) ?_ (tS r.mem elem (by simpa using h2) (zN (Nat.le_refl _) (by simp) (by simp[hms])));obtain⟨dst,op,ty,pos,af,gd⟩:=o;simp only at ho;subst ho;have hroom':¬(16777216<len*i.size):=by omega
 have hfill:Instr.fill (fun j=>some (j*i.size,i.size)) ((Array.range (len*i.size)).map (zv.cells[· % zv.cells.size]!)) (ps.map fun p=>(p.1,a.eval p.2)).toList=some m'.toArray:=by
  rw[Array.toList_map];rw[hzs]at h1;rw[hzs];have e3:((Array.range (len*i.size)).map (zv.cells[· % i.size]!)).toList.toArray=(Array.range (len*i.size)).map (zv.cells[· % i.size]!):=Array.toArray_toList;rw[e3]at h1;exact h1
 have hr0:(Array.range 0:Array Nat) = #[]:=rfl;rw[Array.toList_map]at hfill;by_cases hl0:len*i.size=0
 . have hfill0:Instr.fill (fun j=>some (j*i.size,i.size)) #[] (List.map (fun p=>(p.1,a.eval p.2)) ps.toList)=some m'.toArray:=by
    rw[hl0,hr0]at hfill;simpa using hfill
   simp only[execOp,Instr.buildSlice,Sem.run_bind,bS hu,Result.andThen_ok,gG hi,hl0,hr0];simp[hfill0,newRow]
 . simp only[execOp,Instr.buildSlice,Sem.run_bind,bS hu,Result.andThen_ok,gG hi];have hl00:¬(len=0\/i.size=0):=by rwa [←Nat.mul_eq_zero]
   simp[hroom',hzrun,hfill,newRow];exact fun h=>absurd h hl0
theorem PZ (r:Rel C ρ s a w){t elem:TypeId}{n bb:Nat}{lo co:Operand}{z:List AV}(he:iL C.P t=some (elem,n,bb))(hz:(zeroOf C.P elem).bind AV.cells=some z)(hzn:z.length=n)(hn0:0<n)
 {k k':IntKind} {x y:Int} (hl:a.eval lo = .int k x) (hc:a.eval co = .int k' y) (h0:0<=x) (h1:x<=y) (h2:y.toNat*bb<=dD) (h3:y<=2^46) {o:Oper} (ho:o.op = .makeSlice t lo co) :
 ck C a.eval o ρ s.hp w ⟨.sl s.hp.length 0 x.toNat n (some y.toNat),s.hp++[some (.cells (fS z y.toNat) elem)],[]⟩:=by
 obtain⟨i,hu,hi,rfl,rfl⟩:=mh he;obtain⟨i',zv,hi',hzv,hzl,hzrun⟩:=rn hz;rw[hi]at hi';cases hi';have hzs:zv.cells.size=i.size:=by rw[←hzn,(hzl ρ w).toList]
 have hrep:=zW (hzl ρ w) y.toNat;have hlen:=zX z y.toNat;refine ck.val (v':=.slice (some ⟨w.heap.size,0,none⟩) x.toNat y.toNat) (w':={ w with heap:=w.heap.push (.cells ((Array.range (y.toNat*zv.cells.size)).map (zv.cells[· % zv.cells.size]!)) elem) }) ?_
  (tS r.mem elem hrep (zN (by omega) (by simp) (by simp[hzs])))
 obtain⟨dst,op,ty,pos,af,gd⟩:=o;simp only at ho;subst ho;have hroom:dD=70368744177664:=by decide
 have w1:IntKind.i64.wrap x=x:=IntWalk.i64_in x (by omega);have w2:IntKind.i64.wrap y=y:=IntWalk.i64_in y (by omega);have hy:(y.toNat:Int)=y:=by omega
 have hb:¬((281474976710656:Int)<(i.bytes:Int)*y):=by
  have:((y.toNat*i.bytes:Nat):Int)<=70368744177664:=by omega
  rw[Int.natCast_mul,hy,Int.mul_comm]at this;omega
 have hcond:¬(((y<0\/(281474976710656:Int)<(i.bytes:Int)*y)\/x<0)\/y<x):=by omega
 have hr0:(Array.range 0:Array Nat) = #[]:=rfl;simp[execOp,Instr.makeSlice,bS hu,hl,hc,asInt,pj,tM hi,gG hi,w1,w2,hcond,newRow,hzrun,hzs];by_cases hy0:y.toNat*i.size=0
 . simp[hy0,hr0]
 . simp[hy0]
theorem Qa (r:Rel C ρ s a w){e:TypeId}{xo:Operand}{x:AV}{l:List AV}(hx:V ρ w x (a.eval xo))(hl:x.cells=some l){o:Oper}(ho:o.op = .box e xo) :
 ck C a.eval o ρ s.hp w ⟨.ptr s.hp.length 0,s.hp++[some (.cells l e)],[]⟩:=by
 refine ck.val (v':=.pointer (some ⟨w.heap.size,0,none⟩)) (w':={ w with heap:=w.heap.push (.cells (a.eval xo).cells e) }) ?_ (tS r.mem e (pk hx hl) zO);obtain⟨dst,op,ty,pos,af,gd⟩:=o;simp only at ho;subst ho;simp[execOp,Instr.box,newVar,newRow]
theorem Qb (r:Rel C ρ s a w){e:TypeId}{z:List AV}(hz:(zeroOf C.P e).bind AV.cells=some z){o:Oper}(ho:o.op = .alloc e) :
 ck C a.eval o ρ s.hp w ⟨.ptr s.hp.length 0,s.hp++[some (.cells z e)],[]⟩:=by
 obtain⟨i,zv,hi,hzv,hzl,hzrun⟩:=rn hz;refine ck.val (v':=.pointer (some ⟨w.heap.size,0,none⟩)) (w':={ w with heap:=w.heap.push (.cells zv.cells e) }) ?_ (tS r.mem e (hzl ρ w) zO);obtain⟨dst,op,ty,pos,af,gd⟩:=o;simp only at ho;subst ho;simp[execOp,Instr.alloc,hzrun,newVar,newRow]
theorem Qc (r:Rel C ρ s a w){t:TypeId}{n:Nat}{ag:Bool}{xo:Operand}{x:AV}(hs:shapeOf C.P t=some (n,ag))(hx:V ρ w x (a.eval xo)){l:List AV}(hl:fg s.hp x=some l){v:AV}(hv:partOf l 0 n ag=some v)
 {o:Oper} (ho:o.op = .load t xo):ck C a.eval o ρ s.hp w ⟨v,s.hp,[]⟩:=by
 obtain⟨c,off,g,he,hg⟩:=readable r.mem hx hl;obtain⟨v',h1,h2⟩:=FU hs hg hv;refine ck.val (v':=v') (w':=w) ?_ (gZ r.mem h2);obtain⟨dst,op,ty,pos,af,gd⟩:=o;simp only at ho;subst ho;simp[execOp,Instr.loadAt,he,Instr.sureAddr,h1]
theorem Qd (r:Rel C ρ s a w){t:TypeId}{n:Nat}{ag:Bool}{xo yo:Operand}{b off:Nat}{y:AV}{new l:List AV}{el:TypeId}(hs:shapeOf C.P t=some (n,ag))(hx:V ρ w (.ptr b off) (a.eval xo))(hy:V ρ w y (a.eval yo))
 (hn:y.cells=some new) (hb:s.hp.at b=some (.cells l el)) (hnn:new.length=n) (hin:off+n<=l.length) (hone:new.all cS=true) {o:Oper} (ho:o.op = .store t xo yo) :
 ck C a.eval o ρ s.hp w ⟨cB,s.hp.put b (some (.cells (overwrite l off new) el)),[b]⟩:=by
 obtain⟨i,d0,hi,hd0,rfl,rfl⟩:=ra hs;obtain⟨h0,hbr⟩:=kT r.mem hb;have hyv:=pk hy hn;generalize hxv:a.eval xo=xv at hx;cases hx with
 | ptr _ hρ=>
  rename_i c d;obtain⟨w',h1,m1,x1⟩:=rm (off:=off) r.mem hb hρ hyv (by omega) (fun cs e fr hq=>by
   rcases hbr with ⟨c',d',cs',fr',g1,g2,g3,_⟩|⟨g1,_⟩
   . rw[hρ]at g1;cases g1;rw[hq]at g2;cases g2;have:=g3.1;omega
   . rw[hρ]at g1;cases g1) hone
  refine ck.skip (w':=w') ?_ ⟨ρ,V.undef,m1,x1⟩;obtain⟨dst,op,ty,pos,af,gd⟩:=o;simp only at ho;subst ho;have hsz:(a.eval yo).cells.size=i.size:=by rw[←hyv.toList,hnn]
  simp[execOp,Instr.storeAt,hxv,Instr.sureAddr,storeVar,gG hi,hsz,h1]
 | dO _ _ _ hρ=>rcases hbr.live with ⟨_,_,hl'⟩|hl'|hl' <;> (rw[hρ]at hl';cases hl')
end Go.Ab
