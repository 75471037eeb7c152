/-
  Own work: an abstract machine for the calls of a translated Go program: values by content, a heap of the blocks that the call itself has made, and an evaluator of resolved code. Definitions only.
-/
import GoSem.Step
import Derived.Laws.Sem
import Derived.CallsIn
import Derived.RangeFuncIn
import Derived.OrdersIn
import Derived.Laws.Strings
import Derived.Laws.StructEq
import Derived.ChangeKeysEq
import Derived.Lib.UnsafeStr
import Derived.IntWalk
import Derived.Laws.BytesString
set_option maxHeartbeats 8000000
namespace Go.Ab
inductive AV where
 | cL
 | bool (b:Bool)
 | int (k:IntKind) (n:Int)
 | str (s:List UInt8)
 | dh
 | ptr (b off:Nat)
 | vp (l:List AV)
 | ah
 | sl (b off len esz:Nat) (cap:Option Nat)
 | vs (l:List AV) (len:Nat) (cap:Option Nat)
 | dW
 | map (b:Nat)
 | fn (f:Fn) (first captured:List AV)
 | fx
 | iface (t:TypeId) (v:AV)
 | cU
 | agg (l:List AV)
 | ao (l:List AV)
 deriving Inhabited
inductive aN where
 | p (i:Nat)
 | l (t:Nat)
 | c (v:AV)
 deriving Inhabited
inductive DS where
 | ptr|slice|map|func
 deriving Inhabited
inductive gn where
 | bool|int|str|ref (k:DS)|iface (guard:Bool)
 | xJ (fs:List (Nat×Nat×Bool×gn))
 deriving Inhabited
inductive kP where
 | str|sl|arr (n:Nat)
 deriving Inhabited
inductive gR where
 | int|str
 deriving Inhabited
inductive bc where
 | mv (x:aN)
 | pick (c a b:aN)
 | bin (op:BinOp) (x y:aN)
 | eq (neg:Bool) (t:gn) (x y:aN)
 | un (op:UnOp) (x:aN)
 | du (k:IntKind) (x:aN)
 | xK (x:aN)
 | xL (x:aN)
 | oc (elem:TypeId) (x:aN)
 | kd (x:aN)
 -- pointers as package unsafe has them: to unsafe.Pointer (none) and back (the type, its cells); one's own address compared; the row of a slice; the string over a row
 | jC (u:Option (TypeId×Nat)) (x:aN)
 | mB (neg:Bool) (x y:aN)
 | qq (x:aN)
 | jf (e:TypeId) (x n:aN)
 | qs (esz:Nat) (z:List AV) (x:aN)
 | jg (x:aN)
 | field (off n:Nat) (agg:Bool) (x:aN)
 | iz (off:Nat) (x:aN)
 | dw (arr:Option Nat) (esz:Nat) (x i:aN)
 | index (x i:aN)
 | xM (len esz:Nat) (agg:Bool) (x i:aN)
 | slice (k:kP) (esz:Nat) (x:aN) (lo hi mx:Option aN)
 | extract (i:Nat) (x:aN)
 | qu (t:TypeId) (x:aN)
 | xN (t:TypeId) (z:AV) (ok:Bool) (x:aN)
 | tg (f:Fn) (first captured:List aN)
 | build (zero:List AV) (ps:List (Nat×Nat×aN))
 | len (k:kP) (x:aN)
 | cap (x:aN)
 | mm (max:Bool) (xs:List aN)
 -- these look at the heap
 | alloc (elem:TypeId) (zero:List AV)
 | box (elem:TypeId) (n:Nat) (x:aN)
 | eu (elem:TypeId) (len esz:Nat) (zero:List AV) (ps:List (Nat×Nat×aN))
 | load (n:Nat) (agg:Bool) (x:aN)
 | store (n:Nat) (x y:aN)
 | mC
 | fY (elem:TypeId) (esz bytes:Nat) (zero:List AV) (l c:aN)
 | lookup (k:gR) (zero:AV) (x i:aN) (ok:Bool)
 | qw (k:gR) (m i x:aN)
 | range (x:aN)
 | next (x:aN)
 | append (elem:TypeId) (esz bytes:Nat) (x y:aN)
 | copy (esz:Nat) (x y:aN)
 | ic (n esz:Nat) (x:aN) (lo hi:Option aN)
 | qx (x:aN)
 | call (f:aN) (args:List aN)
 | invoke (x:aN) (name:String) (args:List aN)
 deriving Inhabited
inductive ew where
 | no|p (i:Nat)|l (t:Nat)
 deriving Inhabited
structure aU where
 dst:ew
 op:bc
 guard:Option (aN×Bool)
 deriving Inhabited
inductive ak where
 | skip
 | region (ops:List aU)
 | draw (ops:List (aU×List Nat))
 | seq (a b:ak)
 | cond (c:aN) (thn els:ak)
 | block (id:Nat) (body:ak)
 | loop (body:ak)
 | exit (id:Nat)
 | ret
 | rangeFunc (inner:Bool) (f:aN) (ps:List ew) (assign body:ak)
 | bad
 deriving Inhabited
inductive Ex where
 | normal|exit (id:Nat)|ret
 deriving DecidableEq,Inhabited
inductive bA where
 | cells (l:List AV) (elem:TypeId)
 | map (es:List (AV×AV))
 | iter (s:List UInt8) (pos:Nat)
 | fO
 | hole
 | loop (st:LoopState) (pend:Option Ex) (pe:List AV) (ps:List ew) (assign body:ak)
 deriving Inhabited
abbrev ae:=List (Option bA)
inductive eK where
 | var (x:aN)
 | cell (n:Nat) (agg:Bool) (x:aN)
 deriving Inhabited
structure cX where
 N:Nat
 aP:List Nat
 results:List eK
 body:ak
 deriving Inhabited
structure St where
 pe:List AV
 lo:List (Nat×AV)
 hp:ae
 bU:List Nat:=[]
 deriving Inhabited
def St.aa (s:St):aN->Option AV
 | .p i=>s.pe[i]?
 | .l t=>s.lo.lookup t
 | .c v=>some v
def St.ck (s:St):List aN->Option (List AV)
 | []=>some []
 | x::xs=>match s.aa x with
   | some v=>match s.ck xs with
     | some vs=>some (v::vs)
     | none=>none
   | none=>none
def St.cY (s:St):Option aN->Option (Option AV)
 | none=>some none
 | some x=>(s.aa x).map some
def St.put (s:St)(d:ew)(v:AV):St:=
 match d with
 | .no=>s
 | .p i=>{ s with pe:=s.pe.set i v }
 | .l t=>{ s with lo:=(t,v)::s.lo }
def AV.cells:AV->Option (List AV)
 | .cL=>none
 | .agg l=>some l
 | v=>some [v]
def cR:AV->Bool
 | .cL | .agg _ | .ao _=>false
 | _=>true
def cut (l:List AV)(off n:Nat):Option (List AV):=
 let r:=(l.drop off).take n
 if r.length=n then some r else none
def partOf (l:List AV)(off n:Nat)(agg:Bool):Option AV:=
 if agg then (cut l off n).map .agg else l[off]?
def overwrite (l:List AV)(off:Nat)(new:List AV):List AV:=
 l.take off++new++l.drop (off+new.length)
def ke:List AV->List (Nat×Nat×AV)->Option (List AV)
 | cs,[]=>some cs
 | cs,(off,n,v)::rest=>match v.cells with
   | some l=>if l.length=n/\off+n<=cs.length then ke (overwrite cs off l) rest else none
   | none=>none
def St.parts (s:St):List (Nat×Nat×aN)->Option (List (Nat×Nat×AV))
 | []=>some []
 | (o,n,x)::r=>match s.aa x with
   | some v=>match s.parts r with
     | some vs=>some ((o,n,v)::vs)
     | none=>none
   | none=>none
def qy:AV->Option Int
 | .int _ n=>some n
 | _=>none
def ae.at (h:ae)(b:Nat):Option bA:=(h[b]?).join
def fj (h:ae):AV->Option (List AV)
 | .ptr b off=>match h.at b with|some (.cells l _)=>some (l.drop off)|_=>none
 | .vp l=>some l
 | _=>none
def eL (h:ae):AV->Option (List AV×Nat)
 | .ah=>some ([],0)
 | .vs l n _=>some (l,n)
 | .sl b off n esz _=>match h.at b with
   | some (.cells l _)=>(cut l off (n*esz)).map (·,n)
   | _=>if n=0 then some ([],0) else none
 | .str s=>some (s.map fun c=>.int .u8 c.toNat,s.length)
 | _=>none
def iS:DS->AV->AV->Option Bool
 | .ptr,.dh,.dh=>some true
 | .ptr,.dh,.ptr _ _=>some false
 | .ptr,.dh,.vp _=>some false
 | .ptr,.ptr _ _,.dh=>some false
 | .ptr,.vp _,.dh=>some false
 | .slice,.ah,.ah=>some true
 | .slice,.ah,.sl _ _ (_+1) _ _=>some false
 | .slice,.sl _ _ (_+1) _ _,.ah=>some false
 | .slice,.ah,.sl _ _ 0 _ (some _)=>some false
 | .slice,.sl _ _ 0 _ (some _),.ah=>some false
 | .slice,.ah,.vs (_::_) _ _=>some false
 | .slice,.vs (_::_) _ _,.ah=>some false
 | .map,.dW,.dW=>some true
 | .map,.dW,.map _=>some false
 | .map,.map _,.dW=>some false
 | .func,.fx,.fx=>some true
 | .func,.fx,.fn _ _ _=>some false
 | .func,.fn _ _ _,.fx=>some false
 | _,_,_=>none
def goEq (rec:gn->AV->AV->Option Bool):List (Nat×Nat×Bool×gn)->List AV->List AV->Option Bool
 | [],_,_=>some true
 | (off,n,ag,t)::rest,xs,ys=>
  match partOf xs off n ag,partOf ys off n ag with
  | some x,some y=>match rec t x y with
    | some true=>goEq rec rest xs ys
    | some false=>some false
    | none=>none
  | _,_=>none
def dR:Nat->gn->AV->AV->Option Bool
 | 0,_,_,_=>none
 | d+1,t,x,y=>
  match t,x,y with
  | .bool,.bool a,.bool b=>some (a == b)
  | .int,.int k a,.int k' b=>if k=k' then some (a == b) else none
  | .str,.str a,.str b=>some (a == b)
  | .ref k,x,y=>iS k x y
  | .iface g,.cU,.cU=>if g then none else some true
  | .iface _,.cU,.iface _ _=>some false
  | .iface _,.iface _ _,.cU=>some false
  | .xJ fs,.agg xs,.agg ys=>goEq (fun t x y=>dR d t x y) fs xs ys
  | _,_,_=>none
def cE (op:BinOp)(x y:AV):Option AV:=
 match x,y with
 | .int k a,.int k' b=>
  match op with
  | .shl=>if b<0 then none else some (.int k (k.wrap (a*2^(min b.toNat k.bits))))
  | .shr=>if b<0 then none else some (.int k (a.fdiv (2^(min b.toNat k.bits))))
  | op=>if k=k' then
      match op with
      | .add=>some (.int k (k.wrap (a+b)))
      | .sub=>some (.int k (k.wrap (a-b)))
      | .mul=>some (.int k (k.wrap (a*b)))
      | .quo=>if b=0 then none else some (.int k (k.wrap (a.tdiv b)))
      | .rem=>if b=0 then none else some (.int k (a.tmod b))
      | .and=>some (.int k (k.wrap (BitVec.ofInt k.bits a &&& BitVec.ofInt k.bits b).toNat))
      | .or=>some (.int k (k.wrap (BitVec.ofInt k.bits a ||| BitVec.ofInt k.bits b).toNat))
      | .xor=>some (.int k (k.wrap (BitVec.ofInt k.bits a ^^^ BitVec.ofInt k.bits b).toNat))
      | .andNot=>some (.int k (k.wrap (BitVec.ofInt k.bits a &&& ~~~ BitVec.ofInt k.bits b).toNat))
      | .eql=>some (.bool (a == b))
      | .neq=>some (.bool (a != b))
      | .lss=>some (.bool (a<b))
      | .leq=>some (.bool (a<=b))
      | .gtr=>some (.bool (a > b))
      | .geq=>some (.bool (a>=b))
      | _=>none
    else none
 | .str a,.str b=>
  match op with
  | .add=>if a.length+b.length<2^62 then some (.str (a++b)) else none
  | .eql=>some (.bool (a == b))
  | .neq=>some (.bool !(a == b))
  | .lss=>some (.bool (Op.bytesLess a b))
  | .leq=>some (.bool (Op.bytesLess a b || a == b))
  | .gtr=>some (.bool !(Op.bytesLess a b || a == b))
  | .geq=>some (.bool !(Op.bytesLess a b))
  | _=>none
 | _,_=>none
def qz (op:UnOp)(x:AV):Option AV:=
 match op,x with
 | .neg,.int k n=>some (.int k (k.wrap (0-n)))
 | .not,.bool b=>some (.bool !b)
 | .xor,.int k n=>some (.int k (k.wrap (BitVec.ofInt k.bits (if k.signed then -1 else k.max) ^^^ BitVec.ofInt k.bits n).toNat))
 | _,_=>none
def kQ (k:IntKind)(x:AV):Option AV:=
 match x with
 | .int _ n=>some (.int k (k.wrap n))
 | _=>none
def xO (off:Nat)(x:AV):Option AV:=
 match x with
 | .ptr b o=>some (.ptr b (o+off))
 | .vp l=>some (.vp (l.drop off))
 | _=>none
def mD (arr:Option Nat)(esz:Nat)(x i:AV):Option AV:=
 match i with
 | .int _ n=>
  match arr,x with
  | some len,.ptr b o=>if 0<=n/\n<len then some (.ptr b (o+n.toNat*esz)) else none
  | some len,.vp l=>if 0<=n/\n<len then some (.vp (l.drop (n.toNat*esz))) else none
  | none,.sl b o len e _=>if 0<=n/\n<len/\e=esz then some (.ptr b (o+n.toNat*esz)) else none
  | none,.vs l len _=>if 0<=n/\n<len then some (.vp (l.drop (n.toNat*esz))) else none
  | _,_=>none
 | _=>none
def th (x i:AV):Option AV:=
 match x,i with
 | .str s,.int _ n=>if 0<=n then (s[n.toNat]?).map fun c=>.int .u8 c.toNat else none
 | _,_=>none
def bL (x:Option AV)(dflt most:Nat):Option Nat:=
 match x with
 | none=>some dflt
 | some (.int _ n)=>if 0<=n/\n<=most then some n.toNat else none
 | some _=>none
def jD (k:kP)(esz:Nat)(x:AV)(lo hi mx:Option AV):Option AV:=
 match k,x,mx with
 | .str,.str s,none=>
  match bL hi s.length s.length with
  | some h=>match bL lo 0 h with
    | some l=>some (.str ((s.drop l).take (h-l)))
    | none=>none
  | none=>none
 | .sl,.ah,none=>
  match bL hi 0 0,bL lo 0 0 with
  | some _,some _=>some .ah
  | _,_=>none
 | .sl,.ah,some m=>
  match bL (some m) 0 0,bL hi 0 0,bL lo 0 0 with
  | some _,some _,some _=>some .ah
  | _,_,_=>none
 | .sl,.sl b o len e cap,none=>
  if e=esz then
   match bL hi len (cap.getD len) with
   | some h=>match bL lo 0 h with
     | some l=>
      if l<h then some (.sl b (o+l*esz) (h-l) esz (cap.map (· - l)))
      else some (.vs [] 0 (cap.map (· - l)))
     | none=>none
   | none=>none
  else none
 | .sl,.sl b o len e cap,some m=>
  if e=esz then
   match bL (some m) len (cap.getD len) with
   | some m=>match bL hi len m with
     | some h=>match bL lo 0 h with
       | some l=>
        if l<h then some (.sl b (o+l*esz) (h-l) esz (some (m-l)))
        else some (.vs [] 0 (some (m-l)))
       | none=>none
     | none=>none
   | none=>none
  else none
 | .sl,.vs c len cap,none=>
  match bL hi len len with
  | some h=>match bL lo 0 h with
    | some l=>some (.vs ((c.drop (l*esz)).take ((h-l)*esz)) (h-l) (cap.map (· - l)))
    | none=>none
  | none=>none
 | .sl,.vs c len _,some m=>
  match bL (some m) len len with
  | some m=>match bL hi len m with
    | some h=>match bL lo 0 h with
      | some l=>some (.vs ((c.drop (l*esz)).take ((h-l)*esz)) (h-l) (some (m-l)))
      | none=>none
    | none=>none
  | none=>none
 | _,_,_=>none
def ti (k:kP)(x:AV):Option AV:=
 match k,x with
 | .str,.str s=>some (.int .i64 s.length)
 | .sl,.ah=>some (.int .i64 0)
 | .sl,.sl _ _ n _ _=>some (.int .i64 n)
 | .sl,.vs _ n _=>some (.int .i64 n)
 | _,_=>none
def mE (max:Bool):AV->List AV->Option AV
 | x,[]=>some x
 | .int k a,.int k' b::rest=>
  if k=k' then mE max (.int k (if max then (if b > a then b else a) else (if b<a then b else a))) rest else none
 | _,_=>none
def xP (x:AV):Option AV:=
 match x with
 | .ptr _ _ | .vp _=>some x
 | .fn (.func _) _ _=>some x
 | .fn (.yield _) _ _=>some x
 | _=>none
def aV (s:St)(io:bc):Option AV:=
 match io with
 | .mv x=>s.aa x
 | .pick c a b=>match s.aa c,s.aa a,s.aa b with
   | some (.bool t),some a,some b=>some (if t then a else b)
   | some (.bool t),some a,none=>if t then some a else none
   | some (.bool t),none,some b=>if t then none else some b
   | _,_,_=>none
 | .bin op x y=>match s.aa x,s.aa y with
   | some a,some b=>cE op a b
   | _,_=>none
 | .eq neg t x y=>match s.aa x,s.aa y with
   | some a,some b=>match dR 100 t a b with
     | some r=>some (.bool (if neg then !r else r))
     | none=>none
   | _,_=>none
 | .un op x=>(s.aa x).bind (qz op)
 | .du k x=>(s.aa x).bind (kQ k)
 | .xK x=>match s.aa x with
   | some (.int _ n)=>some (.str (Utf8.encode n).data.toList)
   | _=>none
 | .xL x=>match s.aa x with
   | some (.str t)=>some (.str t)
   | _=>none
 | .jg x=>(s.aa x).bind xP
 | .field off n ag x=>match s.aa x with
   | some (.agg l)=>partOf l off n ag
   | _=>none
 | .iz off x=>(s.aa x).bind (xO off)
 | .dw arr esz x i=>match s.aa x,s.aa i with
   | some a,some b=>mD arr esz a b
   | _,_=>none
 | .index x i=>match s.aa x,s.aa i with
   | some a,some b=>th a b
   | _,_=>none
 | .xM len esz ag x i=>match s.aa x,s.aa i with
   | some (.agg l),some (.int _ n)=>if 0<=n/\n<len then partOf l (n.toNat*esz) esz ag else none
   | _,_=>none
 | .slice k esz x lo hi mx=>match s.aa x with
   | some a=>
    match s.cY lo,s.cY hi,s.cY mx with
    | some l,some h,some m=>if m.isNone || h.isSome then jD k esz a l h m else none
    | _,_,_=>none
   | none=>none
 | .extract i x=>match s.aa x with
   | some (.ao l)=>l[i]?
   | _=>none
 | .qu t x=>(s.aa x).map (.iface t)
 | .xN t z ok x=>match s.aa x with
   | some (.iface u v)=>if u=t then some (if ok then .ao [v,.bool true] else v) else if ok then some (.ao [z,.bool false]) else none
   | some .cU=>if ok then some (.ao [z,.bool false]) else none
   | _=>none
 | .tg f fi ca=>match s.ck fi,s.ck ca with
   | some a,some b=>some (.fn f a b)
   | _,_=>none
 | .build zero ps=>match s.parts ps with
   | some vs=>(ke zero vs).map .agg
   | none=>none
 | .len k x=>match k with
   | .arr n=>some (.int .i64 n)
   | k=>(s.aa x).bind (ti k)
 | .cap x=>match s.aa x with
   | some .ah=>some (.int .i64 0)
   | some (.sl _ _ _ _ (some c))=>some (.int .i64 c)
   | some (.vs _ _ (some c))=>some (.int .i64 c)
   | _=>none
 | .mm mx xs=>match s.ck xs with
   | some (.int k a::rest)=>mE mx (.int k a) rest
   | _=>none
 | .qq x=>match s.aa x with
   | some .ah=>some .dh
   | some (.sl b o (_+1) _ _)=>some (.ptr b o)
   | _=>none
 | _=>none
def bc.bG:bc->Bool
 | .alloc .. | .box .. | .eu .. | .load .. | .store .. | .mC | .fY .. | .lookup .. | .qw .. | .range .. | .next .. | .append .. | .copy .. | .ic .. | .qx .. | .call .. | .invoke .. | .kd .. | .oc .. | .jC .. | .mB .. | .jf .. | .qs .. => true
 | _=>false
def tj:List (Nat×Nat×aN)->List aN
 | []=>[]
 | (_,_,x)::r=>x::tj r
def bc.fZ:bc->List aN
 | .mv x | .un _ x | .du _ x | .xK x | .xL x | .oc _ x | .kd x | .jg x | .field _ _ _ x | .iz _ x | .extract _ x | .qu _ x
 | .len _ x | .cap x | .box _ _ x | .load _ _ x | .range x | .next x | .qx x | .jC _ x | .qq x | .xN _ _ _ x | .qs _ _ x=>[x]
 | .pick c a b=>[c,a,b]
 | .bin _ x y | .eq _ _ x y | .dw _ _ x y | .index x y | .xM _ _ _ x y | .store _ x y | .fY _ _ _ _ x y | .lookup _ _ x y _ | .append _ _ _ x y | .copy _ x y | .mB _ x y | .jf _ x y=>[x,y]
 | .slice _ _ x lo hi mx=>x::(lo.toList++hi.toList++mx.toList)
 | .ic _ _ x lo hi=>x::(lo.toList++hi.toList)
 | .tg _ fi ca=>fi++ca
 | .build _ ps | .eu _ _ _ _ ps=>tj ps
 | .mm _ xs=>xs
 | .alloc .. | .mC=>[]
 | .qw _ m i x=>[m,i,x]
 | .call f as | .invoke f _ as=>f::as
def aU.fZ (o:aU):List aN:=(match o.guard with|some (x,_)=>[x]|none=>[])++o.op.fZ
def dH:ew->aN->Bool
 | .p i,.p j=>i == j
 | .l t,.l u=>t == u
 | _,_=>false
def DT:ew->ew->Bool
 | .p i,.p j=>i == j
 | .l t,.l u=>t == u
 | _,_=>false
def od (a b:aU):Bool:=(b.fZ.all fun x=>!dH a.dst x) && (a.fZ.all fun x=>!dH b.dst x) && !DT a.dst b.dst
structure HR where
 v:AV
 h:ae
 wr:List Nat
def cF:AV:=.ao []
def ae.put (h:ae)(b:Nat)(o:Option bA):ae:=h.set b o
def qK:AV->AV->Option Bool
 | .int k a,.int k' b=>if k=k' then some (a == b) else none
 | .str a,.str b=>some (a == b)
 | _,_=>none
def kf (k:AV):List (AV×AV)->Nat->Option (Option (Nat×AV))
 | [],_=>some none
 | (k',v)::r,i=>match qK k k' with
   | some true=>some (some (i,v))
   | some false=>kf k r (i+1)
   | none=>none
def gR.ok:gR->AV->Bool
 | .int,.int _ _=>true
 | .str,.str _=>true
 | _,_=>false
def fP (zero:List AV):Nat->List AV
 | 0=>[]
 | n+1=>zero++fP zero n
def bytesOf:List AV->Option (List UInt8)
 | []=>some []
 | .int .u8 n::r=>match bytesOf r with
   | some l=>some (UInt8.ofNat n.toNat::l)
   | none=>none
 | _=>none
def dX:Nat:=2^46
def jh (elem:TypeId)(esz bytes:Nat)(h:ae)(x y:AV):Option HR:=
 match eL h y with
 | none=>none
 | some (new,n)=>
  if new.length=n*esz/\0<bytes/\new.all cR=true then
   match x with
   | .ah=>
    if n=0 then some ⟨.ah,h,[]⟩
    else if n*bytes<=dX then some ⟨.sl h.length 0 n esz none,h++[some (.cells new elem)],[]⟩ else none
   | .vs l len cap=>
    if n=0 then some ⟨x,h,[]⟩ else
    match cap with
    | some c=>if c<len+n/\(len+n)*bytes<=dX/\l.length=len*esz then some ⟨.sl h.length 0 (len+n) esz none,h++[some (.cells (l++new) elem)],[]⟩ else none
    | none=>none
   | .sl b off len e cap=>
    if n=0 then some ⟨x,h,[]⟩ else
    if e=esz/\(len+n)*bytes<=dX then
     match h.at b with
     | some (.cells l el)=>
      match cap with
      | some c=>
       if len+n<=c then
        if off+(len+n)*esz<=l.length then some ⟨.sl b off (len+n) esz cap,h.put b (some (.cells (overwrite l (off+len*esz) new) el)),[b]⟩ else none
       else match cut l off (len*esz) with
        | some bS=>some ⟨.sl h.length 0 (len+n) esz none,h++[some (.cells (bS++new) elem)],[]⟩
        | none=>none
      | none=>
       if l.length=off+len*esz/\el=elem then
        some ⟨.sl h.length 0 (len+n) esz none,h.put b none++[some (.cells (l.drop off++new) elem)],[b]⟩
       else none
     | _=>none
    else none
   | _=>none
  else none
def bH (s:St)(io:bc)(h:ae):Option HR:=
 match io with
 | .alloc elem zero=>some ⟨.ptr h.length 0,h++[some (.cells zero elem)],[]⟩
 | .box elem n x=>match (s.aa x).bind AV.cells with
   | some l=>if l.length=n then some ⟨.ptr h.length 0,h++[some (.cells l elem)],[]⟩ else none
   | none=>none
 | .eu elem len esz zero ps=>match s.parts ps with
   | some vs=>match ke (fP zero len) vs with
     | some l=>if l.length=len*esz then some ⟨.sl h.length 0 len esz (some len),h++[some (.cells l elem)],[]⟩ else none
     | none=>none
   | none=>none
 | .load n ag x=>match (s.aa x).bind (fj h) with
   | some l=>match partOf l 0 n ag with
     | some v=>some ⟨v,h,[]⟩
     | none=>none
   | none=>none
 | .store n x y=>match s.aa x,(s.aa y).bind AV.cells with
   | some (.ptr b off),some new=>match h.at b with
     | some (.cells l el)=>if new.length=n/\off+n<=l.length/\new.all cR=true then some ⟨cF,h.put b (some (.cells (overwrite l off new) el)),[b]⟩ else none
     | _=>none
   | _,_=>none
 | .mC=>some ⟨.map h.length,h++[some (.map [])],[]⟩
 | .fY elem esz bytes zero l c=>match (s.aa l).bind qy,(s.aa c).bind qy with
   | some a,some b=>
    if 0<=a/\a<=b/\b.toNat*bytes<=dX/\b<=2^46/\zero.length=esz then some ⟨.sl h.length 0 a.toNat esz (some b.toNat),h++[some (.cells (fP zero b.toNat) elem)],[]⟩ else none
   | _,_=>none
 | .lookup kt zero x i ok=>match s.aa x,s.aa i with
   | some m,some k=>
    if kt.ok k then
     let es? : Option (List (AV×AV)):=match m with
      | .dW=>some []
      | .map b=>match h.at b with|some (.map es)=>some es|_=>none
      | _=>none
     match es? with
     | some es=>match kf k es 0 with
       | some r=>
        let v:=match r with|some (_,v)=>v|none=>zero
        some ⟨if ok then .ao [v,.bool r.isSome] else v,h,[]⟩
       | none=>none
     | none=>none
    else none
   | _,_=>none
 | .qw kt m i x=>match s.aa m,s.aa i,s.aa x with
   | some (.map b),some k,some v=>
    if kt.ok k then
     match h.at b with
     | some (.map es)=>match kf k es 0 with
       | some (some (j,_))=>some ⟨cF,h.put b (some (.map (es.set j (k,v)))),[b]⟩
       | some none=>some ⟨cF,h.put b (some (.map (es++[(k,v)]))),[b]⟩
       | none=>none
     | _=>none
    else none
   | _,_,_=>none
 | .range x=>match s.aa x with
   | some (.str t)=>some ⟨.ptr h.length 0,h++[some (.iter t 0)],[]⟩
   | _=>none
 | .next x=>match s.aa x with
   | some (.ptr b 0)=>match h.at b with
     | some (.iter t pos)=>
      if pos<t.length then
       let (c,w):=Utf8.decode ⟨t.toArray⟩ pos
       some ⟨.ao [.bool true,.int .i64 pos,.int .i32 c],h.put b (some (.iter t (pos+w))),[b]⟩
      else some ⟨.ao [.bool false],h,[]⟩
     | _=>none
   | _=>none
 | .append elem esz bytes x y=>match s.aa x,s.aa y with
   | some a,some b=>jh elem esz bytes h a b
   | _,_=>none
 | .qs esz z x=>match s.aa x with
   | some (.sl b off len e _)=>
    if e=esz/\z.all cR=true/\z.length=esz/\0<len then
     match h.at b with
     | some (.cells l el)=>if off+len*esz<=l.length then some ⟨.ao [],h.put b (some (.cells (overwrite l off (fP z len)) el)),[b]⟩ else none
     | _=>none
    else none
   | some (.vs [] 0 _)=>some ⟨.ao [],h,[]⟩
   | some .ah=>some ⟨.ao [],h,[]⟩
   | _=>none
 | .copy esz x y=>match s.aa x,s.aa y with
   | some (.sl b off len e _),some y=>
    match eL h y with
    | some (src,n)=>
     if e=esz/\src.length=n*esz/\src.all cR=true then
      let m:=min n len
      match h.at b with
      | some (.cells l el)=>if off+m*esz<=l.length then some ⟨.int .i64 m,h.put b (some (.cells (overwrite l off (src.take (m*esz))) el)),[b]⟩ else none
      | _=>none
     else none
    | none=>none
   | some .ah,some y=>match eL h y with
     | some (src,n)=>if src.length=n*esz then some ⟨.int .i64 0,h,[]⟩ else none
     | none=>none
   | _,_=>none
 | .ic n esz x lo hi=>match s.aa x,s.cY lo,s.cY hi with
   | some (.ptr b o),some lo,some hi=>match h.at b with
     | some (.cells l _)=>
      if o+n*esz<=l.length then
       match bL hi n n with
       | some hh=>match bL lo 0 hh with
         | some ll=>some ⟨if ll<n then .sl b (o+ll*esz) (hh-ll) esz (some (n-ll)) else .vs [] 0 (some 0),h,[]⟩
         | none=>none
       | none=>none
      else none
     | _=>none
   | _,_,_=>none
 | .qx x=>match s.aa x with
   | some (.map b)=>match h.at b with
     | some (.map es)=>some ⟨.int .i64 es.length,h,[]⟩
     | _=>none
   | some .dW=>some ⟨.int .i64 0,h,[]⟩
   | _=>none
 | .oc elem x=>match s.aa x with
   | some (.str t)=>some ⟨.sl h.length 0 t.length 1 none,h++[some (.cells (t.map fun c=>.int .u8 c.toNat) elem)],[]⟩
   | _=>none
 | .kd x=>match s.aa x with
   | some (.str _)=>none
   | some y=>match eL h y with
     | some (l,n)=>if l.length=n then
         match bytesOf l with
         | some t=>some ⟨.str t,h,[]⟩
         | none=>none
       else none
     | none=>none
   | none=>none
 | .jC u x=>match s.aa x with
   | some (.ptr b o)=>match h.at b with
     | some (.cells l e)=>
      if o<l.length/\(match u with|none=>true|some (t,n)=>decide (o=0/\e=t/\l.length=n))=true then some ⟨.ptr b o,h,[]⟩ else none
     | _=>none
   | _=>none
 | .mB neg x y=>match s.aa x,s.aa y with
   | some (.ptr b o),some (.ptr b' o')=>match h.at b with
     | some (.cells _ _)=>if b=b'/\o=o' then some ⟨.bool !neg,h,[]⟩ else none
     | _=>none
   | _,_=>none
 | .jf e x n=>match s.aa x,s.aa n with
   | some .dh,some (.int _ k)=>if k=0 then some ⟨.str [],h,[]⟩ else none
   | some (.ptr b o),some (.int _ k)=>
    if 0<k/\k<=2^46 then
     match h.at b with
     | some (.cells l el)=>
      if el=e then
       match cut l o k.toNat with
       | some c=>match bytesOf c with
         | some t=>some ⟨.str t,h.put b none,[b]⟩
         | none=>none
       | none=>none
      else none
     | _=>none
    else none
   | _,_=>none
 | _=>none
abbrev dI:=AV->List AV->ae->Option HR
abbrev fy:=TypeId->String->Option FuncId
def bO (call:dI)(inv:fy)(s:St)(io:bc):Option HR:=
 match io with
 | .call f args=>match s.aa f,s.ck args with
   | some g,some as=>call g as s.hp
   | _,_=>none
 | .invoke x name args=>match s.aa x,s.ck args with
   | some (.iface t v),some as=>match inv t name with
     | some f=>call (.fn (.func f) [] []) (v::as) s.hp
     | none=>none
   | _,_=>none
 | io=>if io.bG then bH s io s.hp else (aV s io).map fun v=>⟨v,s.hp,[]⟩
def eM (s:St)(g:Option (aN×Bool)):Option Bool:=
 match g with
 | none=>some true
 | some (x,want)=>match s.aa x with
   | some (.bool b)=>some (b == want)
   | some (.ao _)=>some false
   | _=>none
structure aq where
 s:St
 wr:List Nat
def eO (call:dI)(inv:fy):List aU->aq->Option aq
 | [],s=>some s
 | o::rest,s=>match eM s.s o.guard with
   | some true=>match bO call inv s.s o.op with
     | some r=>eO call inv rest ⟨{ s.s.put o.dst r.v with hp:=r.h },r.wr++s.wr⟩
     | none=>none
   | some false=>eO call inv rest ⟨s.s.put o.dst cF,s.wr⟩
   | none=>none
def mask (h:ae)(U:List Nat):ae:=U.foldl (fun h b=>h.set b none) h
def di (T:List Nat):ae->Nat->ae
 | [],_=>[]
 | o::r,i=>(if T.contains i then o else none)::di T r (i+1)
def dY (wr:List Nat):ae->ae->Nat->ae
 | o::h,n::h',i=>(if wr.contains i then n else o)::dY wr h h' (i+1)
 | [],h',_=>h'
 | h,[],_=>h
def ji (s:St)(io:bc):Option (List Nat):=
 let cS (x:aN):List Nat:=match s.aa x with
  | some (.ptr b _)=>[b]
  | some (.sl b _ _ _ _)=>[b]
  | some (.map b)=>[b]
  | _=>[]
 match io with
 | .alloc .. | .box .. | .eu .. | .mC | .fY .. | .range _ | .oc .. => some []
 | .load _ _ x | .next x | .qx x | .kd x | .store _ x _ | .lookup _ _ x _ _ | .qw _ x _ _=>some (cS x)
 | .append _ _ _ x y | .copy _ x y | .mB _ x y=>some (cS x++cS y)
 | .jC _ x | .jf _ x _ | .qs _ _ x=>some (cS x)
 | .ic _ _ x _ _=>some (cS x)
 | .call .. | .invoke .. => none
 | _=>some []
structure bX where
 jE:Option (List Nat)
 wr:List Nat
 lo:Nat
 hi:Nat
def bX.own (d:bX):List Nat:=d.wr++List.range' d.lo (d.hi-d.lo)
def gD (a b:List Nat):Bool:=a.all fun x=>!b.contains x
def dJ (call:dI)(inv:fy):List (aU×List Nat)->aq->List bX->Option aq
 | [],s,_=>some s
 | (o,un)::rest,s,ds=>match eM s.s o.guard with
   | some true=>
    if o.op.bG then
     let U:=un.flatMap fun j=>(ds[j]?).elim [] bX.own
     let t:=ji s.s o.op
     if (match t with|some T=>gD T U|none=>true) then
      let h0:=match t with|some T=>di T s.s.hp 0|none=>mask s.s.hp U
      match bO call inv { s.s with hp:=h0 } o.op with
      | some r=>
       if (r.wr.all fun b=>(h0.at b).isSome) && (r.wr.isEmpty || un.all (fun j=>match ds[j]? with|some d=>(match d.jE with|some T=>gD r.wr T|none=>false)|none=>false)) then
        dJ call inv rest ⟨{ s.s.put o.dst r.v with hp:=dY r.wr s.s.hp r.h 0 },r.wr++s.wr⟩ (ds++[⟨t,r.wr,s.s.hp.length,r.h.length⟩])
       else none
      | none=>none
     else none
    else match aV s.s o.op with
     | some v=>dJ call inv rest ⟨s.s.put o.dst v,s.wr⟩ (ds++[⟨some [],[],s.s.hp.length,s.s.hp.length⟩])
     | none=>none
   | some false=>dJ call inv rest ⟨s.s.put o.dst cF,s.wr⟩ (ds++[⟨some [],[],s.s.hp.length,s.s.hp.length⟩])
   | none=>none
mutual
def AV.top:AV->Nat
 | .ptr b _=>b+1
 | .sl b _ _ _ _=>b+1
 | .map b=>b+1
 | .vp l=>br l
 | .vs l _ _=>br l
 | .fn f a b=>max (match f with | .yield l=>l+1|_=>0) (max (br a) (br b))
 | .iface _ v=>v.top
 | .agg l=>br l
 | .ao l=>br l
 | _=>0
def br:List AV->Nat
 | []=>0
 | v::r=>max v.top (br r)
end
def bA.top:bA->Nat
 | .cells l _=>br l
 | .map es=>mF es
 | .iter _ _=>0
 | .fO=>0
 | .hole=>0
 | .loop _ _ pe _ _ _=>br pe
where
 mF:List (AV×AV)->Nat
  | []=>0
  | (k,v)::r=>max (max k.top v.top) (mF r)
def tight (h:ae)(n:Nat)(wr:List Nat):Bool:=
 wr.all fun b=>match h.at b with
  | some o=>b>=n || o.top<=n
  | none=>true
def dm (s:St):List eK->Option (List AV)
 | []=>some []
 | r::rest=>
  let v? : Option AV:=match r with
   | .var x=>s.aa x
   | .cell n ag x=>(s.aa x).bind fun p=>(fj s.hp p).bind fun l=>partOf l 0 n ag
  match v?,dm s rest with
  | some v,some vs=>some (v::vs)
  | _,_=>none
def bg:List AV->AV
 | [v]=>v
 | vs=>.ao vs
def dS (v:AV)(n:Nat)(s:aq):HR:=
 if v.top<=n && tight s.s.hp n s.wr then ⟨v,s.s.hp.take n,s.wr.filter (· < n)⟩
 else ⟨v,s.s.hp,s.wr.filter (· < n)⟩
def kh:List Nat->aq->Option aq
 | [],s=>some s
 | d::r,s=>match s.s.hp.at d with
   | some .fO=>kh r ⟨{ s.s with hp:=s.s.hp.put d none },d::s.wr⟩
   | _=>none
def oe (s:St):List ew->List AV->Option St
 | [],[]=>some s
 | d::ds,v::vs=>oe (s.put d v) ds vs
 | _,_=>none
def gg (run:ak->aq->Option (Ex×aq))(FT:FuncId->Option cX)(f:FuncId)(all:List AV)(h:ae):Option HR:=
 match FT f with
 | some fi=>
  if fi.N<all.length then none else
  match run fi.body ⟨⟨fi.aP.map (fun t=>(all[t]?).getD cF),[],h,[]⟩,[]⟩ with
  | some (e,s)=>
   if e = .normal\/e = .ret then
    match kh s.s.bU s with
    | some s=>match dm s.s fi.results with
      | some vs=>some (dS (bg vs) h.length s)
      | none=>none
    | none=>none
   else none
  | none=>none
 | none=>none
def gE (run:ak->aq->Option (Ex×aq))(ext:FuncId->List AV->ae->Option HR)(FT:FuncId->Option cX):dI:=fun g as h=>
 match g with
 | .fn (.func f) first cap=>
  match ext f (first++as++cap) h with
  | some r=>some r
  | none=>gg run FT f (first++as++cap) h
 | .fn (.yield b) [] []=>
  match h.at b with
  | some (.loop .ready none pe ps a bd)=>
   match oe ⟨pe,[],h,[]⟩ ps as with
   | some s0=>match run a ⟨s0,[]⟩ with
     | some (.normal,s1)=>match s1.s.hp.at b with
       | some (.loop .ready none pe' ps' a' bd')=>
        match run bd ⟨{ s1.s with hp:=s1.s.hp.put b (some (.loop .busy none pe' ps' a' bd')) },b::s1.wr⟩ with
        | some (e,s2)=>match s2.s.hp.at b,s2.s.bU with
          | some (.loop .busy none pe' ps' a' bd'),[]=>
           let o:bA:=if e = .normal then .loop .ready none pe' ps' a' bd' else .loop .done (some e) pe' ps' a' bd'
           some (dS (.bool (decide (e = .normal))) h.length ⟨{ s2.s with hp:=s2.s.hp.put b (some o) },b::s2.wr⟩)
          | _,_=>none
        | none=>none
       | _=>none
     | _=>none
   | none=>none
  | _=>none
 | _=>none
def bj (ext:FuncId->List AV->ae->Option HR)(inv:fy)(FT:FuncId->Option cX):Nat->ak->aq->Option (Ex×aq)
 | 0,_,_=>none
 | n+1,c,s=>
  match c with
  | .skip=>some (.normal,s)
  | .seq a b=>match bj ext inv FT n a s with
    | some (.normal,s')=>bj ext inv FT n b s'
    | r=>r
  | .cond x a b=>match s.s.aa x with
    | some (.bool t)=>bj ext inv FT n (if t then a else b) s
    | _=>none
  | .block id c=>match bj ext inv FT n c s with
    | some (.exit id',s')=>if id'=id then some (.normal,s') else some (.exit id',s')
    | r=>r
  | .loop c=>match bj ext inv FT n c s with
    | some (.normal,s')=>bj ext inv FT n (.loop c) s'
    | r=>r
  | .exit id=>some (.exit id,s)
  | .ret=>some (.ret,s)
  | .region ops=>match eO (gE (bj ext inv FT n) ext FT) inv ops ⟨{ s.s with lo:=[] },s.wr⟩ with
    | some s'=>some (.normal,s')
    | none=>none
  | .draw ops=>match dJ (gE (bj ext inv FT n) ext FT) inv ops ⟨{ s.s with lo:=[] },s.wr⟩ [] with
    | some s'=>some (.normal,s')
    | none=>none
  | .rangeFunc inner f ps a b=>
   if inner then none else
   match s.s.aa f with
   | some (.fn (.func g) fi ca)=>
    match gg (bj ext inv FT n) FT g (fi++[.fn (.yield (s.s.hp.length+1)) [] []]++ca) (s.s.hp++[some .fO,some (.loop .ready none s.s.pe ps a b)]) with
    | some r=>match r.h.at (s.s.hp.length+1) with
      | some (.loop st pend pe' ps' a' b')=>
       if st = .busy then none else
       some (pend.getD .normal,⟨{ s.s with hp:=r.h.put (s.s.hp.length+1) (some (.loop .exhausted pend pe' ps' a' b')),bU:=s.s.hp.length::s.s.bU },(s.s.hp.length+1)::r.wr++s.wr⟩)
      | _=>none
    | none=>none
   | _=>none
  | .bad=>none
end Go.Ab
namespace Go.Ab
abbrev zm (a b:Nat):aU:=⟨.l a,.mv (.p b),none⟩
abbrev zw (a b:Nat):aU:=⟨.p a,.mv (.l b),none⟩
abbrev zn (a b:Nat):aU:=⟨.l a,.mv (.l b),none⟩
abbrev zi (a:Nat)(n:Int):aU:=⟨.p a,.mv (.c (.int .i64 n)),none⟩
abbrev z1 (a f x:Nat):aU:=⟨.l a,.call (.c (.fn (.func f) [] [])) [.l x],none⟩
abbrev z2 (a f x y:Nat):aU:=⟨.l a,.call (.c (.fn (.func f) [] [])) [.l x,.l y],none⟩
abbrev ze (a i x:Nat):aU:=⟨.l a,.extract i (.l x),none⟩
abbrev za (a k x y:Nat):aU:=⟨.l a,.dw none k (.l x) (.l y),none⟩
abbrev zd (a n x:Nat):aU:=⟨.l a,.load n false (.l x),none⟩
abbrev zt (a n x:Nat):aU:=⟨.l a,.load n true (.p x),none⟩
abbrev zT (a n x:Nat):aU:=⟨.l a,.load n true (.l x),none⟩
abbrev zs (n a x:Nat):aU:=⟨.no,.store n (.p a) (.l x),none⟩
abbrev zS (n a x:Nat):aU:=⟨.no,.store n (.l a) (.l x),none⟩
abbrev zf (a n x:Nat):aU:=⟨.l a,.iz n (.p x),none⟩
abbrev zl (a x:Nat):aU:=⟨.l a,.len .sl (.l x),none⟩
abbrev zL (a x:Nat):aU:=⟨.l a,.len .str (.l x),none⟩
abbrev zb (a:Nat)(o:BinOp)(x y:Nat):aU:=⟨.l a,.bin o (.l x) (.l y),none⟩
abbrev zc (a:Nat)(o:BinOp)(x:Nat)(n:Int):aU:=⟨.l a,.bin o (.l x) (.c (.int .i64 n)),none⟩
abbrev zq (a:Nat)(o:BinOp)(x:Nat)(n:Int):aU:=⟨.l a,.bin o (.p x) (.c (.int .i64 n)),none⟩
abbrev zr (a:Nat)(o:BinOp)(x y:Nat):aU:=⟨.l a,.bin o (.p x) (.p y),none⟩
abbrev zp (a c x:Nat):aU:=⟨.l a,.pick (.l c) (.l x) (.c (.bool false)),none⟩
abbrev zP (a c x:Nat):aU:=⟨.l a,.pick (.l c) (.c (.bool true)) (.l x),none⟩
abbrev zx (a e n x:Nat):aU:=⟨.p a,.box e n (.p x),none⟩
abbrev zu (a x:Nat):aU:=⟨.l a,.un .not (.l x),none⟩
theorem nca:(∀l:List AV,[]++l=l) /\ ∀(a:AV) (l m:List AV),(a::l)++m=a::(l++m):=⟨List.nil_append,fun _ _ _=>List.cons_append⟩
abbrev kI (n:Int):aN:=.c (.int .i64 n)
abbrev kU (n:Int):aN:=.c (.int .u64 n)
abbrev kW (n:Int):aN:=.c (.int .u32 n)
abbrev AV.iV (n:Int):AV:=.int .i64 n
abbrev AV.uV (n:Int):AV:=.int .u64 n
abbrev kF (f:Nat):aN:=.c (.fn (.func f) [] [])
abbrev zg (o:aU)(k:Nat)(b:Bool):aU:=⟨o.dst,o.op,some (.l k,b)⟩
abbrev zD0:List UInt8:=[0,1,2,2,3,3,3,3,4,4,4,4,4,4,4,4,5,5,5,5,5,5,5,5,5,5,5,5,5,5,5,5,6,6,6,6,6,6,6,6,6,6,6,6,6,6,6,6,6,6,6,6,6,6,6,6,6,6,6,6,6,6,6,6,7,7,7,7,7,7,7,7,7,7,7,7,7,7,7,7,7,7,7,7,7,7,7,7,7,7,7,7,7,7,7,7,7,7,7,7,7,7,7,7,7,7,7,7,7,7,7,7,7,7,7,7,7,7,7,7,7,7,7,7,7,7,7,7,8,8,8,8,8,8,8,8,8,8,8,8,8,8,8,8,8,8,8,8,8,8,8,8,8,8,8,8,8,8,8,8,8,8,8,8,8,8,8,8,8,8,8,8,8,8,8,8,8,8,8,8,8,8,8,8,8,8,8,8,8,8,8,8,8,8,8,8,8,8,8,8,8,8,8,8,8,8,8,8,8,8,8,8,8,8,8,8,8,8,8,8,8,8,8,8,8,8,8,8,8,8,8,8,8,8,8,8,8,8,8,8,8,8,8,8,8,8,8,8,8,8,8,8,8,8,8,8]
abbrev zD1:List UInt8:=[48,48,48,49,48,50,48,51,48,52,48,53,48,54,48,55,48,56,48,57,49,48,49,49,49,50,49,51,49,52,49,53,49,54,49,55,49,56,49,57,50,48,50,49,50,50,50,51,50,52,50,53,50,54,50,55,50,56,50,57,51,48,51,49,51,50,51,51,51,52,51,53,51,54,51,55,51,56,51,57,52,48,52,49,52,50,52,51,52,52,52,53,52,54,52,55,52,56,52,57,53,48,53,49,53,50,53,51,53,52,53,53,53,54,53,55,53,56,53,57,54,48,54,49,54,50,54,51,54,52,54,53,54,54,54,55,54,56,54,57,55,48,55,49,55,50,55,51,55,52,55,53,55,54,55,55,55,56,55,57,56,48,56,49,56,50,56,51,56,52,56,53,56,54,56,55,56,56,56,57,57,48,57,49,57,50,57,51,57,52,57,53,57,54,57,55,57,56,57,57]
abbrev zD2:List UInt8:=[48,49,50,51,52,53,54,55,56,57,97,98,99,100,101,102,103,104,105,106,107,108,109,110,111,112,113,114,115,116,117,118,119,120,121,122]
abbrev zD3:List UInt8:=[9,9,9,9,9,9,9,9,9,9,9,9,9,9,9,9,9,9,9,9,9,9,9,9,9,9,9,9,9,9,9,9,9,9,9,9,9,9,9,9,9,9,9,9,9,9,9,9,9,9,9,9,9,9,9,9,9,9,9,9,9,9,9,9]
abbrev zD4:List UInt8:=[61,61,61,61,61,61,61,61,61,61,61,61,61,61,61,61,61,61,61,61,61,61,61,61,61,61,61,61,61,61,61,61,61,61,61,61,61,61,61,61,61,61,61,61,61,61,61,61,61,61,61,61,61,61,61,61,61,61,61,61,61,61,61,61,61,61,61,61,61,61,61,61,61,61,61,61,61,61,61,61,61,61,61,61,61,61,61,61,61,61,61,61,61,61,61,61,61,61,61,61,61,61,61,61,61,61,61,61,61,61,61,61,61,61,61,61,61,61,61,61,61,61,61,61,61,61,61,61]
abbrev zD5:List UInt8:=[48,48,48,48,48,48,48,48,48,48,48,48,48,48,48,48,48,48,48,48,48,48,48,48,48,48,48,48,48,48,48,48,48,48,48,48,48,48,48,48,48,48,48,48,48,48,48,48,48,48,48,48,48,48,48,48,48,48,48,48,48,48,48,48]
abbrev zD6:List UInt8:=[45,45,45,45,45,45,45,45,45,45,45,45,45,45,45,45,45,45,45,45,45,45,45,45,45,45,45,45,45,45,45,45,45,45,45,45,45,45,45,45,45,45,45,45,45,45,45,45,45,45,45,45,45,45,45,45,45,45,45,45,45,45,45,45,45,45,45,45,45,45,45,45,45,45,45,45,45,45,45,45,45,45,45,45,45,45,45,45,45,45,45,45,45,45,45,45,45,45,45,45,45,45,45,45,45,45,45,45,45,45,45,45,45,45,45,45,45,45,45,45,45,45,45,45,45,45,45,45]
abbrev zD7:List UInt8:=[32,32,32,32,32,32,32,32,32,32,32,32,32,32,32,32,32,32,32,32,32,32,32,32,32,32,32,32,32,32,32,32,32,32,32,32,32,32,32,32,32,32,32,32,32,32,32,32,32,32,32,32,32,32,32,32,32,32,32,32,32,32,32,32,32,32,32,32,32,32,32,32,32,32,32,32,32,32,32,32,32,32,32,32,32,32,32,32,32,32,32,32,32,32,32,32,32,32,32,32,32,32,32,32,32,32,32,32,32,32,32,32,32,32,32,32,32,32,32,32,32,32,32,32,32,32,32,32]
abbrev zD8:List UInt8:=[65,116,111,105]
abbrev zD9:List UInt8:=[48,49,50,51,52,53,54,55,56,57]
end Go.Ab

/-
  Own work: the resolver: an operation of the translated program becomes one of the abstract machine; whatever is not covered gives none.
-/
namespace Go.Ab
def oh (rec:Value->Option AV):List Value->Option (List AV)
 | []=>some []
 | v::r=>match rec v,oh rec r with
   | some a,some l=>some (a::l)
   | _,_=>none
def mG:Nat->Value->Option AV
 | 0,_=>none
 | n+1,v=>
  match v with
  | .bool b=>some (.bool b)
  | .int k m=>some (.int k m)
  | .string s=>some (.str s.data.toList)
  | .pointer none=>some .dh
  | .slice none 0 0=>some .ah
  | .map none=>some .dW
  | .nilFunc=>some .fx
  | .nilIface=>some .cU
  | .func (.func f) ⟨[]⟩ ⟨[]⟩=>some (.fn (.func f) [] [])
  | .agg ⟨cs⟩=>(oh (fun v=>mG n v) cs).map .agg
  | .tuple ⟨cs⟩=>(oh (fun v=>mG n v) cs).map .ao
  | _=>none
def idx (t:Nat):List Nat->Nat->Option Nat
 | [],_=>none
 | u::r,i=>if u=t then some i else idx t r (i+1)
structure Cx where
 P:Program
 gl:Nat->Option AV
 aP:List Nat
 N:Nat
def fQ (C:Cx):Operand->Option aN
 | .tmp t=>match idx t C.aP 0 with
   | some i=>some (.p i)
   | none=>some (.l t)
 | .const v=>(mG 5 v).map .c
 | .func f=>some (.c (.fn (.func f) [] []))
 | .global g=>(C.gl g).map .c
def gG (C:Cx):List Operand->Option (List aN)
 | []=>some []
 | x::xs=>match fQ C x,gG C xs with
   | some a,some l=>some (a::l)
   | _,_=>none
def kR (C:Cx):Option Operand->Option (Option aN)
 | none=>some none
 | some x=>(fQ C x).map some
def xQ:TypeDesc->Bool
 | .struct _ | .array _ _=>true
 | _=>false
def shapeOf (P:Program)(t:TypeId):Option (Nat×Bool):=
 match P.info? t,P.underlying t with
 | some i,some d=>some (i.size,xQ d)
 | _,_=>none
def zeroOf (P:Program)(t:TypeId):Option AV:=
 match P.info? t with
 | some i=>match i.zero with
   | some v=>mG 5 v
   | none=>none
 | none=>none
def qL (P:Program)(rec:TypeId->Option gn):List Field->Option (List (Nat×Nat×Bool×gn))
 | []=>some []
 | f::r=>match qL P rec r with
   | some l => if f.name == "_" then some l else
     match shapeOf P f.type,rec f.type with
     | some (n,ag),some e=>some ((f.offset,n,ag,e)::l)
     | _,_=>none
   | none=>none
def qM (sz:Nat)(ag:Bool)(q:gn):Nat->Nat->List (Nat×Nat×Bool×gn)
 | 0,_=>[]
 | n+1,i=>(i*sz,sz,ag,q)::qM sz ag q n (i+1)
def gH (P:Program):Nat->Bool->TypeId->Option gn
 | 0,_,_=>none
 | d+1,g,t=>
  match P.underlying t with
  | some .bool=>some .bool
  | some (.int _)=>some .int
  | some .string=>some .str
  | some (.pointer _)=>some (.ref .ptr)
  | some (.slice _)=>some (.ref .slice)
  | some (.map _ _)=>some (.ref .map)
  | some (.func _ _ _)=>some (.ref .func)
  | some (.interface ms)=>some (.iface (g && !ms.isEmpty))
  | some (.struct fs)=>if P.stoodInHeld t then none else (qL P (fun t=>gH P d true t) fs.toList).map .xJ
  | some (.array n e)=>match shapeOf P e,gH P d true e with
    | some (sz,ag),some q=>some (.xJ (qM sz ag q n 0))
    | _,_=>none
  | _=>none
def ki:Operand->Bool
 | .const _=>true
 | _=>false
def jF (C:Cx)(place:Nat->Option (Nat×Nat)):List (Nat×Operand)->Option (List (Nat×Nat×aN))
 | []=>some []
 | (i,x)::r=>match place i,fQ C x,jF C place r with
   | some (o,n),some a,some l=>some ((o,n,a)::l)
   | _,_,_=>none
def om (P:Program):List Field->Option (List (Nat×Nat))
 | []=>some []
 | f::r=>match P.info? f.type,om P r with
   | some i,some l=>some ((f.offset,i.size)::l)
   | _,_=>none
def iA (P:Program)(t:TypeId):Option (TypeId×Nat×Nat):=
 match P.underlying t with
 | some (.slice e)=>match P.info? e with
   | some i=>some (e,i.size,i.bytes)
   | none=>none
 | _=>none
def keyOf (P:Program)(t:TypeId):Option gR:=
 match P.underlying t with
 | some (.int _)=>some .int
 | some .string=>some .str
 | _=>none
def qN:BinOp->Bool
 | .eql | .neq=>true
 | _=>false
def tk (P:Program)(t:TypeId):Bool:=
 match P.underlying t with
 | some (.int _)|some .string=>true
 | _=>false
def tn (P:Program)(e:TypeId)(n:Nat):Bool:=
 match (zeroOf P e).bind AV.cells with
 | some z=>z.length == n
 | none=>false
def xR (P:Program)(t:TypeId):Bool:=
 match P.underlying t with
 | some (.struct _)|some (.array _ _)=>P.eqGuardType P.depth t
 | _=>false
def LW:Fn->Bool
 | .yield _=>true
 | _=>false
def iT (P:Program)(e:TypeId):Bool:=
 match P.info? e with
 | some i=>match i.desc with
   | .named n _ => n == "strings.Builder"
   | _=>false
 | none=>false
def xS (P:Program)(t:TypeId):Bool:=
 match P.underlying t with
 | some (.pointer e)=>iT P e
 | _=>false
def gS (C:Cx)(o:Oper):Option bc:=
 let P:=C.P
 let d:=fQ C
 match o.op with
 | .move x | .assign x=>(d x).map .mv
 | .pick c a b=>match d c,d a,d b with
   | some c,some a,some b=>some (.pick c a b)
   | _,_,_=>none
 | .alloc e=>match zeroOf P e with
   | some z=>z.cells.map (.alloc e)
   | none=>none
 | .box e x=>match shapeOf P e,d x with
   | some (n,_),some x=>some (.box e n x)
   | _,_=>none
 | .build t ps=>match zeroOf P t with
   | some z=>match z.cells,P.underlying t with
     | some zc,some (.struct fs)=>match om P fs.toList with
       | some pl=>(jF C (pl[·]?) ps.toList).map (.build zc)
       | none=>none
     | some zc,some (.array _ e)=>match P.info? e with
       | some i=>(jF C (fun j=>some (j*i.size,i.size)) ps.toList).map (.build zc)
       | none=>none
     | _,_=>none
   | none=>none
 | .buildSlice t len ps=>match iA P t with
   | some (e,n,_)=>match (zeroOf P e).bind AV.cells,jF C (fun j=>some (j*n,n)) ps.toList with
     | some z,some l=>if len*n<=2^24/\z.length=n/\0<n then some (.eu e len n z l) else none
     | _,_=>none
   | none=>none
 | .load t a=>match shapeOf P t,d a with
   | some (n,ag),some a=>some (.load n ag a)
   | _,_=>none
 | .store t a x=>match shapeOf P t,d a,d x with
   | some (n,_),some a,some x=>some (.store n a x)
   | _,_,_=>none
 | .nilCheck x=>(d x).map .jg
 | .binOp op t x y _=>match d x,d y with
   | some a,some b=>
    if qN op && !tk P t then
     if xS P t && !(ki x || ki y) then some (.mB (op == .neq) a b) else
     if xR P t then none else
     (gH P 20 (!(ki x || ki y)) t).map fun e=>.eq (op == .neq) e a b
    else some (.bin op a b)
   | _,_=>none
 | .unOp op _ x=>(d x).map (.un op)
 | .convert src dst x=>match P.underlying src,P.underlying dst,d x with
   | some (.int _),some (.int k),some a=>some (.du k a)
   | some (.int _),some .string,some a=>some (.xK a)
   | some .string,some .string,some a=>some (.xL a)
   | some .string,some (.slice e),some a=>match P.underlying e with
     | some (.int .u8)=>if iT P e then none else some (.oc e a)
     | _=>none
   | some (.slice e),some .string,some a=>match P.underlying e with
     | some (.int .u8)=>some (.kd a)
     | _=>none
   | some (.pointer t),some .unsafePointer,some a=>match P.info? t with
     | some i=>if i.size=0 then none else some (.jC none a)
     | none=>none
   | some .unsafePointer,some (.pointer u),some a=>match P.info? u with
     | some _=>if iT P u && liesAt P P.depth u (P.cellsOf u/P.cellsOf u) 0 u 1 then some (.jC (some (u,P.cellsOf u)) a) else none
     | none=>none
   | _,_,_=>none
 | .makeInterface t x=>match P.underlying t with
   | some (.interface _)=>none
   | some _=>(d x).map (.qu t)
   | none=>none
 | .typeAssert x _ t ok=>match P.underlying t with
   | some (.interface _)=>none
   | some _=>match d x,zeroOf P t with
     | some x,some z=>some (.xN t z ok x)
     | _,_=>none
   | none=>none
 | .makeFunc f fi ca=>if LW f then none else match gG C fi.toList,gG C ca.toList with
   | some a,some b=>some (.tg f a b)
   | _,_=>none
 | .makeMap _ none=>some .mC
 | .makeSlice t l c=>match iA P t,d l,d c with
   | some (e,n,by'),some l,some c=>match (zeroOf P e).bind AV.cells with
     | some z=>if z.length=n/\0<n then some (.fY e n by' z l c) else none
     | none=>none
   | _,_,_=>none
 | .slice t x lo hi mx=>match P.underlying t,d x,kR C lo,kR C hi,kR C mx with
   | some .string,some x,some l,some h,some none=>some (.slice .str 1 x l h none)
   | some (.slice e),some x,some l,some h,some m=>match P.info? e with
     | some i=>some (.slice .sl i.size x l h m)
     | none=>none
   | some (.array n e),some x,some l,some h,some none=>match P.info? e with
     | some i=>some (.ic n i.size x l h)
     | none=>none
   | _,_,_,_,_=>none
 | .fieldAddr t x f=>match P.underlying t,d x with
   | some (.struct fs),some x=>match fs[f]? with
     | some f=>match P.info? f.type with
       | some i=>if i.size=0 then none else some (.iz f.offset x)
       | none=>none
     | none=>none
   | _,_=>none
 | .field t x f=>match P.underlying t,d x with
   | some (.struct fs),some x=>match fs[f]? with
     | some f=>match shapeOf P f.type with
       | some (n,ag)=>some (.field f.offset n ag x)
       | none=>none
     | none=>none
   | _,_=>none
 | .indexAddr t x i=>match P.underlying t,d x,d i with
   | some (.array n e),some x,some i=>match P.info? e with
     | some inf=>some (.dw (some n) inf.size x i)
     | none=>none
   | some (.slice e),some x,some i=>match P.info? e with
     | some inf=>some (.dw none inf.size x i)
     | none=>none
   | _,_,_=>none
 | .index t x i=>match P.underlying t,d x,d i with
   | some .string,some x,some i=>some (.index x i)
   | some (.array n e),some x,some i=>match shapeOf P e with
     | some (sz,ag)=>some (.xM n sz ag x i)
     | none=>none
   | _,_,_=>none
 | .lookup t x i ok=>match P.underlying t,d x,d i with
   | some (.map k e),some x,some i=>match keyOf P k,zeroOf P e with
     | some k,some z=>some (.lookup k z x i ok)
     | _,_=>none
   | _,_,_=>none
 | .mapUpdate t m i x | .insert t m i x=>match P.underlying t,d m,d i,d x with
   | some (.map k _),some m,some i,some x=>(keyOf P k).map fun k=>.qw k m i x
   | _,_,_,_=>none
 | .range t x=>match P.underlying t,d x with
   | some .string,some x=>some (.range x)
   | _,_=>none
 | .next x true=>(d x).map .next
 | .extract x i=>(d x).map (.extract i)
 | .call c=>match c.callee with
   | .value f=>match d f,gG C c.args.toList with
     | some f,some as=>some (.call f as)
     | _,_=>none
   | .invoke r name=>match d r,gG C c.args.toList with
     | some r,some as=>some (.invoke r name as)
     | _,_=>none
   | .builtin b=>match b,c.argTypes.toList,gG C c.args.toList with
     | .len,[t],some [x]=>match P.underlying t with
       | some (.array n _)=>some (.len (.arr n) x)
       | some (.map _ _)=>some (.qx x)
       | some .string=>some (.len .str x)
       | some (.slice _)=>some (.len .sl x)
       | _=>none
     | .cap,[t],some [x]=>match P.underlying t with
       | some (.slice _)=>some (.cap x)
       | _=>none
     | .append,[t,u],some [x,y]=>match iA P t,P.underlying u with
       | some (e,n,by'),some .string=>if n=1/\tn P e n=true/\iT P e=false then some (.append e n by' x y) else none
       | some (e,n,by'),some (.slice _)=>if 0<n/\tn P e n=true/\iT P e=false then some (.append e n by' x y) else none
       | _,_=>none
     | .copy,[t,_],some [x,y]=>match iA P t with
       | some (_,n,_)=>if 0<n then some (.copy n x y) else none
       | none=>none
     | .clear,[t],some [x]=>match iA P t with
       | some (e,n,_)=>match (zeroOf P e).bind AV.cells with
         | some z=>if z.length=n/\0<n then some (.qs n z x) else none
         | none=>none
       | none=>none
     | .unsafeSliceData,[t],some [x]=>match P.underlying t with
       | some (.slice _)=>some (.qq x)
       | _=>none
     | .unsafeString,[t,_],some [x,n]=>match P.underlying t with
       | some (.pointer e)=>if P.cellsOf e=1 then some (.jf e x n) else none
       | _=>none
     | .max,_,some xs=>some (.mm true xs)
     | .min,_,some xs=>some (.mm false xs)
     | _,_,_=>none
 | _=>none
def jG (C:Cx):Option Tmp->Option ew
 | none=>some .no
 | some t=>if t<C.N then
     match idx t C.aP 0 with
     | some i=>some (.p i)
     | none=>some (.l t)
   else none
def tp (C:Cx)(ops:List Oper):Option (Nat×Bool)->Option (Option (aN×Bool))
 | none=>some none
 | some (j,w)=>match ops[j]? with
   | some o=>match o.dst with
     | some t=>(fQ C (.tmp t)).map fun x=>some (x,w)
     | none=>none
   | none=>none
def tq (C:Cx)(ops:List Oper)(o:Oper):Option aU:=
 match jG C o.dst,gS C o,tp C ops o.guard with
 | some d,some op,some g=>some ⟨d,op,g⟩
 | _,_,_=>none
def jj (C:Cx)(ops:List Oper):List Oper->Option (List aU)
 | []=>some []
 | o::r=>match tq C ops o,jj C ops r with
   | some a,some l=>some (a::l)
   | _,_=>none
def LX (ops:List Oper):List Nat:=
 ops.foldl (fun acc o=>acc++[o.after.toList.foldl (fun s e=>if Region.binds .any e then s ||| 2^e.on ||| acc.getD e.on 0 else s) 0]) []
def iU (bits i:Nat):List Nat:=(List.range i).filter fun j=>!bits.testBit j
def oq (ops:List Oper)(bits:List Nat):Bool:=
 ops.zipIdx.all fun (o,i)=>
  o.after.toList.all (fun e=>!Region.binds .any e || decide (e.on<i)) &&
  (List.range i).all fun j=>!(bits.getD i 0).testBit j || o.after.toList.any fun e=>Region.binds .any e && (e.on == j || (decide (j<e.on) && (bits.getD e.on 0).testBit j))
def ot (l:List aU)(bits:List Nat):Bool:=
 l.zipIdx.all fun (o,i)=>(iU (bits.getD i 0) i).all fun j=>match l[j]? with|some oj=>od oj o|none=>false
def tr (C:Cx)(ops:List Oper)(draw:Bool):Option ak:=
 match jj C ops ops with
 | none=>none
 | some l=>
  if draw then
   let bits:=LX ops
   if oq ops bits && ot l bits then some (.draw (l.zipIdx.map fun (o,i)=>(o,iU (bits.getD i 0) i))) else none
  else some (.region l)
def kS (C:Cx):List Tmp->Option (List ew)
 | []=>some []
 | t::r=>match jG C (some t),kS C r with
   | some d,some l=>some (d::l)
   | _,_=>none
def fz (C:Cx)(rd:Bool):Code->Option ak
 | .skip=>some .skip
 | .region _ ops draw=>some ((tr C ops.toList draw).getD .bad)
 | .seq a b=>match fz C rd a,fz C rd b with
   | some a,some b=>some (.seq a b)
   | _,_=>none
 | .cond c a b=>match fQ C c,fz C rd a,fz C rd b with
   | some c,some a,some b=>some (.cond c a b)
   | _,_,_=>none
 | .block id c=>(fz C rd c).map (.block id)
 | .loop c=>(fz C rd c).map .loop
 | .exit id=>some (.exit id)
 | .ret=>some .ret
 | .scope c=>(fz C rd c).map fun c=>.seq c .skip
 | .label _=>some .skip
 | .rangeFunc f ps a b=>match fQ C f,kS C ps.toList,fz C true a,fz C true b with
   | some f,some ps,some a,some b=>some (.rangeFunc rd f ps a b)
   | _,_,_,_=>none
 | _=>some .bad
def kj (C:Cx):List ResultVar->Option (List eK)
 | []=>some []
 | .tmp t::r=>match fQ C (.tmp t),kj C r with
   | some x,some l=>some (.var x::l)
   | _,_=>none
 | .cell t ty::r=>match fQ C (.tmp t),shapeOf C.P ty,kj C r with
   | some x,some (n,ag),some l=>some (.cell n ag x::l)
   | _,_,_=>none
def tt (P:Program)(gl:Nat->Option AV)(aP:List Nat)(f:Func):Option cX:=
 let C:Cx:=⟨P,gl,aP,f.ntmps⟩
 match f.body with
 | none=>none
 | some c=>
  match fz C false c,kj C f.results.toList with
  | some b,some r=>if aP.all (· < f.ntmps) && decide aP.Nodup then some ⟨f.ntmps,aP,r,b⟩ else none
  | _,_=>none
def eZ (P:Program)(t:TypeId)(name:String):Option FuncId:=
 match P.info? t,P.underlying t with
 | some i,some u=>match i.methods.toList.find? (·.name == name) with
   | some m=>match m.func,m.path.toList with
     | some (f,ptr),[]=>match u,ptr with
       | .pointer _,true=>some f
       | .pointer _,false=>none
       | _,false=>some f
       | _,true=>none
     | _,_=>none
   | none=>none
 | _,_=>none
end Go.Ab

/-
  Own work: the functions without a body that the abstract machine knows, and the table of functions.
-/
namespace Go.Ab
def DU (P:Program)(gl:Nat->Option AV)(aP:List (List Nat))(f:FuncId):Option cX:=
 match P.funcs[f]?,aP[f]? with
 | some fn,some p=>tt P gl p fn
 | _,_=>none
end Go.Ab

/-
  Own work: how the abstract state and the machine's state hang together, and what a step may change.
-/
namespace Go.Ab
variable {w w':World} {x:AV} {l:List AV} {y v:Value} {m:List Value} {h h':ae} {a:Addr} {n:Nat}
inductive BS where
 | fresh|dead|nil|live (c d:Nat)
structure az where
 at':Nat->BS
 X:Nat->Prop
instance:CoeFun az (fun _=>Nat->BS):=⟨az.at'⟩
def cH (ρ:az)(c:Nat):Prop:=(∀b d,ρ b≠.live c d)/\¬ρ.X c
inductive V (ρ:az) (w:World):AV->Value->Prop
 | cL (v:Value):V ρ w .cL v
 | bool (b:Bool):V ρ w (.bool b) (.bool b)
 | int (k:IntKind) (n:Int):V ρ w (.int k n) (.int k n)
 | str (s:List UInt8):V ρ w (.str s) (.string ⟨s.toArray⟩)
 | dh:V ρ w .dh (.pointer none)
 | ptr {b c d:Nat} (o:Nat) (h:ρ b = .live c d):V ρ w (.ptr b o) (.pointer (some ⟨c,o+d,none⟩))
 | dO {b:Nat} (o c o':Nat) (h:ρ b = .dead):V ρ w (.ptr b o) (.pointer (some ⟨c,o',none⟩))
 | vp {l:List AV} (c o:Nat) (g:Nat->Value) (hf:l≠[]->cH ρ c) (hc:∀i:Nat,i<l.length->w.cell? ⟨c,o+i,none⟩=some (g i))
     (hg:∀(i:Nat) x,l[i]? = some x->V ρ w x (g i)):V ρ w (.vp l) (.pointer (some ⟨c,o,none⟩))
 | ah:V ρ w .ah (.slice none 0 0)
 | sl {b c d o len esz capC:Nat} {cap:Option Nat} (h:ρ b = .live c d) (hl:len<=capC) (hcap:∀n,cap=some n->capC=n)
     (hb:∃cs e fr,w.heap[c]? = some (.cells cs e fr)/\o+d+capC*esz<=cs.size):V ρ w (.sl b o len esz cap) (.slice (some ⟨c,o+d,none⟩) len capC)
 | fk {b esz:Nat} (h:ρ b = .nil):V ρ w (.sl b 0 0 esz none) (.slice none 0 0)
 | dZ {b o len esz capC:Nat} {cap:Option Nat} (c o':Nat) (h:ρ b = .dead) (hl:len<=capC) (hcap:∀n,cap=some n->capC=n):V ρ w (.sl b o len esz cap) (.slice (some ⟨c,o',none⟩) len capC)
 | ff {b esz:Nat} (h:ρ b = .dead):V ρ w (.sl b 0 0 esz none) (.slice none 0 0)
 | fl {b esz:Nat} (a:Addr) (h:ρ b = .dead):V ρ w (.sl b 0 0 esz (some 0)) (.slice (some a) 0 0)
 | vs {l:List AV} {len capC:Nat} {cap:Option Nat} (c o:Nat) (g:Nat->Value) (hf:l≠[]->cH ρ c) (hl:len<=capC) (hcap:∀n,cap=some n->capC=n)
     (hc:∀i:Nat,i<l.length->w.cell? ⟨c,o+i,none⟩=some (g i)) (hg:∀(i:Nat) x,l[i]? = some x->V ρ w x (g i)):V ρ w (.vs l len cap) (.slice (some ⟨c,o,none⟩) len capC)
 | dT {cap:Option Nat} (hcap:∀n,cap=some n->n=0):V ρ w (.vs [] 0 cap) (.slice none 0 0)
 | fm {cap:Option Nat} (a:Addr) (hcap:∀n,cap=some n->n=0):V ρ w (.vs [] 0 cap) (.slice (some a) 0 0)
 | dW:V ρ w .dW (.map none)
 | map {b c:Nat} (h:ρ b = .live c 0):V ρ w (.map b) (.map (some c))
 | gI {b:Nat} (c:Nat) (h:ρ b = .dead):V ρ w (.map b) (.map (some c))
 | yield {b c d:Nat} (h:ρ b = .live c d):V ρ w (.fn (.yield b) [] []) (.func (.yield c) #[] #[])
 | fn {f:Fn} {fi ca:List AV} {fi' ca':List Value} (hf:∀l,f≠.yield l) (h1:fi.length=fi'.length) (h2:ca.length=ca'.length)
     (g1:∀(i:Nat) x y,fi[i]? = some x->fi'[i]? = some y->V ρ w x y) (g2:∀(i:Nat) x y,ca[i]? = some x->ca'[i]? = some y->V ρ w x y):V ρ w (.fn f fi ca) (.func f fi'.toArray ca'.toArray)
 | gp {b:Nat} (c:Nat) (h:ρ b = .dead):V ρ w (.fn (.yield b) [] []) (.func (.yield c) #[] #[])
 | fx:V ρ w .fx .nilFunc
 | iface {t:TypeId} {x:AV} {y:Value} (h:V ρ w x y):V ρ w (.iface t x) (.iface t y)
 | cU:V ρ w .cU .nilIface
 | agg {l:List AV} {m:List Value} (h:l.length=m.length) (g:∀(i:Nat) x y,l[i]? = some x->m[i]? = some y->V ρ w x y):V ρ w (.agg l) (.agg m.toArray)
 | ao {l:List AV} {m:List Value} (h:l.length=m.length) (g:∀(i:Nat) x y,l[i]? = some x->m[i]? = some y->V ρ w x y):V ρ w (.ao l) (.tuple m.toArray)
def VL (ρ:az)(w:World)(l:List AV)(m:List Value):Prop:=
 l.length=m.length/\∀(i:Nat) x y,l[i]? = some x->m[i]? = some y->V ρ w x y
theorem V.qO {ρ:az}(s:ByteArray):V ρ w (.str s.data.toList) (.string s):=by
 have:=V.str (ρ:=ρ) (w:=w) s.data.toList
 simpa using this
theorem VL.nil {ρ:az}:VL ρ w [] []:=⟨rfl,by simp⟩
theorem VL.cons {ρ:az}(h:V ρ w x y)(h':VL ρ w l m):VL ρ w (x::l) (y::m):=by
 refine⟨by simp[h'.1],fun i a b ha hb=>?_⟩
 cases i with
 | zero=>simp at ha hb;subst ha;subst hb;exact h
 | succ i=>simp at ha hb;exact h'.2 i a b ha hb
theorem VL.head {ρ:az}(h:VL ρ w (x::l) (y::m)):V ρ w x y:=h.2 0 x y rfl rfl
theorem VL.tail {ρ:az}(h:VL ρ w (x::l) (y::m)):VL ρ w l m:=
 ⟨by simpa using h.1,fun i a b ha hb=>h.2 (i+1) a b (by simpa using ha) (by simpa using hb)⟩
theorem VL.cons_inv {ρ:az}(h:VL ρ w (x::l) m):∃y m',m=y::m'/\V ρ w x y/\VL ρ w l m':=by
 cases m with
 | nil=>exact absurd h.1 (by simp)
 | cons y m'=>exact⟨y,m',rfl,h.head,h.tail⟩
theorem VL.jk {ρ:az}(h:VL ρ w [] m):m=[]:=by
 have:=h.1
 cases m <;> simp_all
theorem VL.append {ρ:az}:∀{l l':List AV} {m m':List Value},VL ρ w l m->VL ρ w l' m'->VL ρ w (l++l') (m++m')
 | [],_,_,_,h,h'=>by rw[h.jk];exact h'
 | _::_,_,_,_,h,h'=>by
  obtain⟨y,m1,rfl,hv,hl⟩:=h.cons_inv
  exact .cons hv (hl.append h')
theorem VL.drop {ρ:az}(h:VL ρ w l m)(n:Nat):VL ρ w (l.drop n) (m.drop n):=
 ⟨by simp[h.1],fun i a b ha hb=>h.2 (n+i) a b (by simpa using ha) (by simpa using hb)⟩
theorem VL.take {ρ:az}(h:VL ρ w l m)(n:Nat):VL ρ w (l.take n) (m.take n):=
 ⟨by simp[h.1],fun i a b ha hb=>by
  rw[List.getElem?_take]at ha hb
  split at ha
  . rename_i hlt;rw[if_pos hlt]at hb;exact h.2 i a b ha hb
  . cases ha⟩
structure ER (C:Cx)(ρ:az)(w:World)(pe:List AV)(lo:List (Nat×AV))(tmps:Array Value):Prop where
 size:tmps.size=C.N
 nodup:C.aP.Nodup
 lt:∀t∈C.aP,t<C.N
 iB:pe.length=C.aP.length
 pe:∀(i:Nat) v t,pe[i]? = some v->C.aP[i]? = some t->V ρ w v (tmps.getD t undef)
 lo:∀t v,lo.lookup t=some v->t<C.N/\t∉C.aP/\V ρ w v (tmps.getD t undef)
def mH:Option Ex->Option Code->Prop
 | none,none=>True
 | some .ret,some .ret=>True
 | some (.exit i),some (.exit j)=>i=j
 | _,_=>False
def Fits (P:Program)(e:TypeId)(d n s:Nat):Prop:=d+n<=s/\(iT P e=true->d=0/\n=s)
def BR (P:Program)(gl:Nat->Option AV)(ρ:az)(w:World)(b:Nat):bA->Prop
 | .cells l e=>(∃c d cs fr,ρ b = .live c d/\w.heap[c]? = some (.cells cs e fr)/\Fits P e d l.length cs.size/\(∀i,i<cs.size->w.frozen? ⟨c,i,none⟩=false) /\
     ∀(i:Nat) x y,l[i]? = some x->cs[i+d]? = some y->V ρ w x y)\/(ρ b = .nil/\l=[])
 | .map es=>∃c ms clk,ρ b = .live c 0/\w.heap[c]? = some (.map ms clk)/\es.length=ms.size /\
     ∀(i:Nat) kx vx m,es[i]? = some (kx,vx)->ms[i]? = some m->V ρ w kx m.key/\V ρ w vx m.val
 | .iter s pos=>∃c,ρ b = .live c 0/\w.heap[c]? = some (.stringIter ⟨s.toArray⟩ pos)
 | .fO=>∃c,ρ b = .live c 0/\w.heap[c]? = some (.deferred (some []))
 | .hole=>ρ b = .fresh
 | .loop st pend pe ps a bd=>∃c r aP N,ρ b = .live c 0/\w.heap[c]? = some (.loop r)/\r.state=st/\mH pend r.pending /\
     ER ⟨P,gl,aP,N⟩ ρ w pe [] r.tmps/\kS ⟨P,gl,aP,N⟩ r.params.toList=some ps/\fz ⟨P,gl,aP,N⟩ true r.assign=some a/\fz ⟨P,gl,aP,N⟩ true r.body=some bd
structure Mem (P:Program)(gl:Nat->Option AV)(ρ:az)(h:ae)(w:World):Prop where
 cS:∀b o,h[b]? = some (some o)->BR P gl ρ w b o
 fresh:∀b,h.length<=b->ρ b = .fresh
 inj:∀b b' c d d',ρ b = .live c d->ρ b' = .live c d'->b=b'
 bound:∀b c d,ρ b = .live c d->c<w.heap.size
 xb:∀c,ρ.X c->c<w.heap.size
 xo:∀b c d,ρ b = .live c d->¬ρ.X c
 gl:∀g v,gl g=some v->V ρ w v (.pointer (some ⟨g,0,none⟩))
structure Ext (h h':ae)(ρ ρ':az)(w w':World):Prop where
 os:w'.os=w.os
 tape:w'.tape=w.tape
 output:w'.output=w.output
 size:w.heap.size<=w'.heap.size
 len:h.length<=h'.length
 X:ρ'.X=ρ.X
 cL:∀b:Nat,h[b]? = some none->h'[b]? = some none
 same:∀b:Nat,h[b]? = some none->ρ' b=ρ b
 live:∀b c d,ρ b = .live c d->ρ' b = .live c d\/ρ' b = .dead
 dead:∀b,ρ b = .dead->ρ' b = .dead
 nil:∀b,ρ b = .nil->ρ' b = .nil\/ρ' b = .dead
 bS:∀c,c<w.heap.size->(∀b d,ρ b = .live c d->h[b]? = some none)->w'.heap[c]? = w.heap[c]?
 back:∀b c d,ρ' b = .live c d->c<w.heap.size->ρ b = .live c d\/∃b0 d0,ρ b0 = .live c d0/\h[b0]? ≠ some none
 shape:∀(c:Nat) cs e fr,w.heap[c]? = some (.cells cs e fr)->∃cs' fr',w'.heap[c]? = some (.cells cs' e fr')/\cs'.size=cs.size
theorem Ext.refl (h:ae)(ρ:az)(w:World):Ext h h ρ ρ w w:=
 ⟨rfl,rfl,rfl,Nat.le_refl _,Nat.le_refl _,rfl,fun _ h=>h,fun _ _=>rfl,fun _ _ _ h=>.inl h,fun _ h=>h,fun _ h=>.inl h,fun _ _ _=>rfl,fun _ _ _ h _=>.inl h,
  fun _ cs _ fr h=>⟨cs,fr,h,rfl⟩⟩
theorem Ext.trans {h1 h2:ae}{ρ ρ1 ρ2:az}{w1 w2:World}(x:Ext h h1 ρ ρ1 w w1)(y:Ext h1 h2 ρ1 ρ2 w1 w2):Ext h h2 ρ ρ2 w w2 where
 os:=y.os.trans x.os
 tape:=y.tape.trans x.tape
 output:=y.output.trans x.output
 size:=Nat.le_trans x.size y.size
 len:=Nat.le_trans x.len y.len
 X:=y.X.trans x.X
 cL b hb:=y.cL b (x.cL b hb)
 same b hb:=(y.same b (x.cL b hb)).trans (x.same b hb)
 live b c d hb:=by
  rcases x.live b c d hb with h|h
  . exact y.live b c d h
  . exact .inr (y.dead b h)
 dead b hb:=y.dead b (x.dead b hb)
 nil b hb:=by
  rcases x.nil b hb with h|h
  . exact y.nil b h
  . exact .inr (y.dead b h)
 bS c hc hb:=by
  rw[y.bS c (Nat.lt_of_lt_of_le hc x.size) ?_,x.bS c hc hb]
  intro b d h1
  rcases x.back b c d h1 hc with h|⟨b0,d0,h,hn⟩
  . exact x.cL b (hb b d h)
  . exact absurd (hb b0 d0 h) hn
 back b c d h2 hc:=by
  rcases y.back b c d h2 (Nat.lt_of_lt_of_le hc x.size) with h1|⟨b1,d1,h1,hn1⟩
  . exact x.back b c d h1 hc
  . rcases x.back b1 c d1 h1 hc with h0|h0
    . exact .inr ⟨b1,d1,h0,fun hu=>hn1 (x.cL b1 hu)⟩
    . exact .inr h0
 shape c cs e fr h0:=by
  obtain⟨cs1,fr1,h1,e1⟩:=x.shape c cs e fr h0
  obtain⟨cs2,fr2,h2,e2⟩:=y.shape c cs1 e fr1 h1
  exact⟨cs2,fr2,h2,e2.trans e1⟩
theorem LY (h:w.cell? a=some v):∃cs e fr,w.heap[a.block]? = some (.cells cs e fr):=by
 unfold World.cell? at h
 split at h
 . rename_i cs e fr hc;exact⟨cs,e,fr,hc⟩
 . cases h
theorem xT (h:w.cell? a=some v):a.block<w.heap.size:=by
 obtain⟨cs,e,fr,hc⟩:=LY h
 exact(Array.getElem?_eq_some_iff.1 hc).1
theorem LZ (h:w'.heap[a.block]? = w.heap[a.block]?):w'.cell? a=w.cell? a:=by
 unfold World.cell?;rw[h]
theorem Ext.free {ρ ρ':az}(x:Ext h h' ρ ρ' w w'){c:Nat}(hc:c<w.heap.size)(hf:cH ρ c):cH ρ' c:=by
 refine⟨fun b d hb=>?_,by rw[x.X];exact hf.2⟩
 rcases x.back b c d hb hc with h|⟨b0,d0,h,_⟩
 . exact hf.1 _ _ h
 . exact hf.1 _ _ h
theorem Ext.cell {ρ ρ':az}(x:Ext h h' ρ ρ' w w'){c o:Nat}{v:Value}(hf:cH ρ c)(hc:w.cell? ⟨c,o,none⟩=some v):w'.cell? ⟨c,o,none⟩=some v:=by
 have hlt:=xT hc
 rw[LZ (w:=w)]
 . exact hc
 . exact x.bS c hlt (fun b d hb=>absurd hb (hf.1 b d))
theorem V.mono {ρ ρ':az}(x:Ext h h' ρ ρ' w w'){a:AV}{v:Value}(hv:V ρ w a v):V ρ' w' a v:=by
 induction hv with
 | cL v=>exact .cL v
 | bool b=>exact .bool b
 | int k n=>exact .int k n
 | str s=>exact .str s
 | dh=>exact .dh
 | ptr o hb=>
               rcases x.live _ _ _ hb with h|h
               . exact .ptr o h
               . exact .dO o _ _ h
 | dO o c o' hb=>exact .dO o c o' (x.dead _ hb)
 | @vp l c o g hf hc _ ih=>
  by_cases hl:l=[]
  . subst hl;exact .vp c o g (fun h=>absurd rfl h) (by simp) (by simp)
  . have h0:=hc 0 (by cases l <;> simp_all)
    exact .vp c o g (fun _=>x.free (xT h0) (hf hl)) (fun i hi=>x.cell (hf hl) (hc i hi)) ih
 | ah=>exact .ah
 | sl hb hl hcap hs=>
  obtain⟨cs,e,fr,h1,h2⟩:=hs
  obtain⟨cs',fr',h3,h4⟩:=x.shape _ _ _ _ h1
  rcases x.live _ _ _ hb with h|h
  . exact .sl h hl hcap ⟨cs',e,fr',h3,by omega⟩
  . exact .dZ _ _ h hl hcap
 | fk hb=>
             rcases x.nil _ hb with h|h
             . exact .fk h
             . exact .ff h
 | dZ c o' hb hl hcap=>exact .dZ c o' (x.dead _ hb) hl hcap
 | ff hb=>exact .ff (x.dead _ hb)
 | fl a hb=>exact .fl a (x.dead _ hb)
 | @vs l len capC cap c o g hf hl hcap hc _ ih=>
  by_cases hn:l=[]
  . subst hn;exact .vs c o g (fun h=>absurd rfl h) hl hcap (by simp) (by simp)
  . have h0:=hc 0 (by cases l <;> simp_all)
    exact .vs c o g (fun _=>x.free (xT h0) (hf hn)) hl hcap (fun i hi=>x.cell (hf hn) (hc i hi)) ih
 | dT hcap=>exact .dT hcap
 | fm a hcap=>exact .fm a hcap
 | dW=>exact .dW
 | map hb=>
             rcases x.live _ _ _ hb with h|h
             . exact .map h
             . exact .gI _ h
 | gI v hb=>exact .gI v (x.dead _ hb)
 | yield hb=>
               rcases x.live _ _ _ hb with h|h
               . exact .yield h
               . exact .gp _ h
 | fn hf h1 h2 _ _ ih1 ih2=>exact .fn hf h1 h2 ih1 ih2
 | gp v hb=>exact .gp v (x.dead _ hb)
 | fx=>exact .fx
 | iface _ ih=>exact .iface ih
 | cU=>exact .cU
 | agg h _ ih=>exact .agg h ih
 | ao h _ ih=>exact .ao h ih
theorem VL.mono {ρ ρ':az}(x:Ext h h' ρ ρ' w w'){l:List AV}{m:List Value}(hv:VL ρ w l m):VL ρ' w' l m:=
 ⟨hv.1,fun i a b ha hb=>(hv.2 i a b ha hb).mono x⟩
theorem ER.mono {C:Cx}{ρ ρ':az}(x:Ext h h' ρ ρ' w w'){pe:List AV}{lo:List (Nat×AV)}{t:Array Value}(e:ER C ρ w pe lo t):ER C ρ' w' pe lo t:=
 ⟨e.size,e.nodup,e.lt,e.iB,fun i v t h1 h2=>(e.pe i v t h1 h2).mono x,fun t v h1=>let ⟨a,b,c⟩:=e.lo t v h1;⟨a,b,c.mono x⟩⟩
def iD (n:Nat)(ρ:az):az:=⟨fun b=>if b<n then ρ b else .fresh,ρ.X⟩
theorem cH.cut {ρ:az}{c:Nat}(n:Nat)(h:cH ρ c):cH (iD n ρ) c:=by
 refine⟨fun b d hb=>?_,h.2⟩
 simp only[iD]at hb
 split at hb
 . exact h.1 b d hb
 . cases hb
theorem fo (h:br l<=n):∀(i:Nat) x,l[i]? = some x->x.top<=n:=by
 induction l with
 | nil=>intro i x hx;simp at hx
 | cons v r ih=>
  simp only[br]at h
  intro i x hx
  cases i with
  | zero=>simp at hx;subst hx;omega
  | succ i=>simp at hx;exact ih (by omega) i x hx
theorem kT (h:∀(i:Nat) x,l[i]? = some x->x.top<=n):br l<=n:=by
 induction l with
 | nil=>simp[br]
 | cons v r ih=>
  simp only[br]
  have h0:=h 0 v rfl
  have h1:=ih (fun i x hx=>h (i+1) x (by simpa using hx))
  omega
theorem V.fR {ρ ρ':az}(hρ:∀b,b<n->ρ' b=ρ b)(hF:∀c,cH ρ c->cH ρ' c){a:AV}{v:Value}(hv:V ρ w a v):a.top<=n->V ρ' w a v:=by
 induction hv with
 | cL v=>exact fun _=>.cL v
 | bool b=>exact fun _=>.bool b
 | int k n=>exact fun _=>.int k n
 | str s=>exact fun _=>.str s
 | dh=>exact fun _=>.dh
 | ptr o hb=>exact fun h=>.ptr o (by simp only[AV.top]at h;rw[hρ _ (by omega)];exact hb)
 | dO o c o' hb=>exact fun h=>.dO o c o' (by simp only[AV.top]at h;rw[hρ _ (by omega)];exact hb)
 | vp c o g hf hc _ ih=>exact fun h=>.vp c o g (fun hl=>hF _ (hf hl)) hc (fun i x hx=>ih i x hx (fo (by simpa only[AV.top] using h) i x hx))
 | ah=>exact fun _=>.ah
 | sl hb hl hcap hs=>exact fun h=>.sl (by simp only[AV.top]at h;rw[hρ _ (by omega)];exact hb) hl hcap hs
 | fk hb=>exact fun h=>.fk (by simp only[AV.top]at h;rw[hρ _ (by omega)];exact hb)
 | dZ c o' hb hl hcap=>exact fun h=>.dZ c o' (by simp only[AV.top]at h;rw[hρ _ (by omega)];exact hb) hl hcap
 | ff hb=>exact fun h=>.ff (by simp only[AV.top]at h;rw[hρ _ (by omega)];exact hb)
 | fl a hb=>exact fun h=>.fl a (by simp only[AV.top]at h;rw[hρ _ (by omega)];exact hb)
 | vs c o g hf hl hcap hc _ ih=>exact fun h=>.vs c o g (fun hn=>hF _ (hf hn)) hl hcap hc (fun i x hx=>ih i x hx (fo (by simpa only[AV.top] using h) i x hx))
 | dT hcap=>exact fun _=>.dT hcap
 | fm a hcap=>exact fun _=>.fm a hcap
 | dW=>exact fun _=>.dW
 | map hb=>exact fun h=>.map (by simp only[AV.top]at h;rw[hρ _ (by omega)];exact hb)
 | gI v hb=>exact fun h=>.gI v (by simp only[AV.top]at h;rw[hρ _ (by omega)];exact hb)
 | yield hb=>exact fun h=>.yield (by simp only[AV.top]at h;rw[hρ _ (by omega)];exact hb)
 | @fn f fi ca _ _ hf h1 h2 _ _ ih1 ih2=>
  intro h
  have hh:br fi<=n/\br ca<=n:=by
   cases f <;> simp only[AV.top]at h <;> exact⟨by omega,by omega⟩
  exact .fn hf h1 h2 (fun i x y a b=>ih1 i x y a b (fo hh.1 i x a)) (fun i x y a b=>ih2 i x y a b (fo hh.2 i x a))
 | gp v hb=>exact fun h=>.gp v (by simp only[AV.top]at h;rw[hρ _ (by omega)];exact hb)
 | fx=>exact fun _=>.fx
 | iface _ ih=>exact fun h=>.iface (ih (by simpa only[AV.top] using h))
 | cU=>exact fun _=>.cU
 | agg hl _ ih=>exact fun h=>.agg hl (fun i x y a b=>ih i x y a b (fo (by simpa only[AV.top] using h) i x a))
 | ao hl _ ih=>exact fun h=>.ao hl (fun i x y a b=>ih i x y a b (fo (by simpa only[AV.top] using h) i x a))
theorem V.cut {ρ:az}{a:AV}(hv:V ρ w a v):a.top<=n->V (iD n ρ) w a v:=
 hv.fR (fun b hb=>by simp only[iD];rw[if_pos hb]) (fun _ h=>h.cut n)
theorem V.top {ρ:az}(hn:∀b,n<=b->ρ b = .fresh){a:AV}{v:Value}(hv:V ρ w a v):a.top<=n:=by
 have key:∀b,ρ b≠.fresh->b+1<=n:=fun b hb=>by
  rcases Nat.lt_or_ge b n with h|h
  . omega
  . exact absurd (hn b h) hb
 induction hv with
 | ptr o hb=>exact key _ (by rw[hb];simp)
 | dO o c o' hb=>exact key _ (by rw[hb];simp)
 | vp c o g hf hc _ ih=>exact kT ih
 | sl hb _ _ _=>exact key _ (by rw[hb];simp)
 | fk hb=>exact key _ (by rw[hb];simp)
 | dZ c o' hb _ _=>exact key _ (by rw[hb];simp)
 | ff hb=>exact key _ (by rw[hb];simp)
 | fl a hb=>exact key _ (by rw[hb];simp)
 | vs c o g hf hl hcap hc _ ih=>exact kT ih
 | map hb=>exact key _ (by rw[hb];simp)
 | gI v hb=>exact key _ (by rw[hb];simp)
 | @yield b _ _ hb=>have:=key b (by rw[hb];simp);simp only[AV.top,br];omega
 | @fn f fi ca fi' ca' hf h1 h2 _ _ ih1 ih2=>
  have a1:br fi<=n:=kT fun i x hx=>by
   have hi:i<fi'.length:=h1 ▸ (List.getElem?_eq_some_iff.1 hx).1
   exact ih1 i x fi'[i] hx (List.getElem?_eq_getElem hi)
  have a2:br ca<=n:=kT fun i x hx=>by
   have hi:i<ca'.length:=h2 ▸ (List.getElem?_eq_some_iff.1 hx).1
   exact ih2 i x ca'[i] hx (List.getElem?_eq_getElem hi)
  cases f <;> simp only[AV.top] <;> first|omega|exact absurd rfl (hf _)
 | @gp b v hb=>have:=key b (by rw[hb];simp);simp only[AV.top,br];omega
 | iface _ ih=>exact ih
 | @agg l m hl _ ih=>
  exact kT fun i x hx=>by
   have hi:i<m.length:=hl ▸ (List.getElem?_eq_some_iff.1 hx).1
   exact ih i x m[i] hx (List.getElem?_eq_getElem hi)
 | @ao l m hl _ ih=>
  exact kT fun i x hx=>by
   have hi:i<m.length:=hl ▸ (List.getElem?_eq_some_iff.1 hx).1
   exact ih i x m[i] hx (List.getElem?_eq_getElem hi)
 | _=>simp[AV.top,br]
end Go.Ab

/-
  Own work: the memory relation behind a new block, a store, an append in place.
-/
namespace Go.Ab
variable {w w':World} {h:ae} {ρ:az} {b c:Nat} {O:Obj}
variable {P:Program} {gl:Nat->Option AV}
theorem DV {a:Addr}(h:w'.heap[a.block]? = w.heap[a.block]?):w'.frozen? a=w.frozen? a:=by
 unfold World.frozen?;rw[h]
theorem BR.mono {h':ae}{ρ':az}(x:Ext h h' ρ ρ' w w'){b:Nat}(hρ:ρ' b=ρ b)
 (hh:∀c d,ρ b = .live c d->w'.heap[c]? = w.heap[c]?) {o:bA} (hb:BR P gl ρ w b o):BR P gl ρ' w' b o:=by
 cases o with
 | cells l e=>
  rcases hb with ⟨c,d,cs,fr,h1,h2,h3,h4,h5⟩|⟨h1,h2⟩
  . refine .inl ⟨c,d,cs,fr,hρ.trans h1,(hh c d h1).trans h2,h3,fun i hi=>?_,fun i x' y hx hy=>(h5 i x' y hx hy).mono x⟩
    rw[DV (w:=w) (hh c d h1)];exact h4 i hi
  . exact .inr ⟨hρ.trans h1,h2⟩
 | map es=>
  obtain⟨c,ms,clk,h1,h2,h3,h4⟩:=hb
  exact⟨c,ms,clk,hρ.trans h1,(hh c 0 h1).trans h2,h3,fun i kx vx m hx hm=>let ⟨a,b⟩:=h4 i kx vx m hx hm;⟨a.mono x,b.mono x⟩⟩
 | iter s pos=>obtain⟨c,h1,h2⟩:=hb;exact⟨c,hρ.trans h1,(hh c 0 h1).trans h2⟩
 | fO=>obtain⟨c,h1,h2⟩:=hb;exact⟨c,hρ.trans h1,(hh c 0 h1).trans h2⟩
 | hole=>exact hρ.trans hb
 | loop st pend pe ps a bd=>
  obtain⟨c,r,aP,N,h1,h2,h3,h4,h5,h6⟩:=hb
  exact⟨c,r,aP,N,hρ.trans h1,(hh c 0 h1).trans h2,h3,h4,h5.mono x,h6⟩
theorem BR.live {o:bA}(hb:BR P gl ρ w b o):(∃c d,ρ b = .live c d)\/ρ b = .nil\/ρ b = .fresh:=by
 cases o with
 | cells l e=>
                rcases hb with ⟨c,d,_,_,h1,_⟩|⟨h1,_⟩
                . exact .inl ⟨c,d,h1⟩
                . exact .inr (.inl h1)
 | map es=>obtain⟨c,_,_,h1,_⟩:=hb;exact .inl ⟨c,0,h1⟩
 | iter s pos=>obtain⟨c,h1,_⟩:=hb;exact .inl ⟨c,0,h1⟩
 | fO=>obtain⟨c,h1,_⟩:=hb;exact .inl ⟨c,0,h1⟩
 | hole=>exact .inr (.inr hb)
 | loop=>obtain⟨c,_,_,_,h1,_⟩:=hb;exact .inl ⟨c,0,h1⟩
def az.dz (ρ:az)(b:Nat)(s:BS):az:=⟨fun x=>if x=b then s else ρ x,ρ.X⟩
@[simp] theorem az.abB (ρ:az)(b:Nat)(s:BS):(ρ.dz b s).X=ρ.X:=rfl
@[simp] theorem az.dD (ρ:az)(b:Nat)(s:BS):ρ.dz b s b=s:=by simp[az.dz]
theorem az.cZ {x:Nat}{s:BS}(h:x≠b):ρ.dz b s x=ρ x:=by simp[az.dz,h]
theorem xU (hc:c<w.heap.size):(w.heap.push O)[c]? = w.heap[c]? := by
 rw[Array.getElem?_push,if_neg (by omega)]
theorem Ext.alloc (m:Mem P gl ρ h w)(o:Option bA)(O:Obj)(s:BS)(hs:(∃d,s = .live w.heap.size d)\/s = .nil\/s = .dead) :
 Ext h (h++[o]) ρ (ρ.dz h.length s) w { w with heap:=w.heap.push O } where
 os:=rfl
 tape:=rfl
 output:=rfl
 size:=by simp
 len:=by simp
 X:=rfl
 cL b hb:=by
  have hlt:=(List.getElem?_eq_some_iff.1 hb).1
  rw[List.getElem?_append_left hlt];exact hb
 same b hb:=by
  have hlt:=(List.getElem?_eq_some_iff.1 hb).1
  exact az.cZ (by omega)
 live b c d hb:=by
  have:b≠h.length:=fun e=>by rw[m.fresh b (by omega)]at hb;cases hb
  exact .inl ((az.cZ this).trans hb)
 dead b hb:=by
  have:b≠h.length:=fun e=>by rw[m.fresh b (by omega)]at hb;cases hb
  exact(az.cZ this).trans hb
 nil b hb:=by
  have:b≠h.length:=fun e=>by rw[m.fresh b (by omega)]at hb;cases hb
  exact .inl ((az.cZ this).trans hb)
 bS c hc _:=xU hc
 back b c d hb hc:=by
  by_cases e:b=h.length
  . subst e
    rw[az.dD]at hb
    rcases hs with ⟨d',rfl⟩|rfl|rfl
    . cases hb;omega
    . cases hb
    . cases hb
  . rw[az.cZ e]at hb;exact .inl hb
 shape c cs e fr hc:=⟨cs,fr,by rw[xU (Array.getElem?_eq_some_iff.1 hc).1];exact hc,rfl⟩
theorem Ext.drew (h:ae)(ρ:az)(w:World)(n:Nat):Ext h h ρ ρ w { w with drawn:=n }:=
 ⟨rfl,rfl,rfl,Nat.le_refl _,Nat.le_refl _,rfl,fun _ h=>h,fun _ _=>rfl,fun _ _ _ h=>.inl h,fun _ h=>h,fun _ h=>.inl h,fun _ _ _=>rfl,fun _ _ _ h _=>.inl h,
  fun _ cs _ fr h=>⟨cs,fr,h,rfl⟩⟩
theorem Mem.ext {ρ':az}{h':ae}(m:Mem P gl ρ h w)(x:Ext h h' ρ ρ' w w')
 (hb:∀b o,h'[b]? = some (some o)->BR P gl ρ' w' b o) (hf:∀b,h'.length<=b->ρ' b = .fresh)
 (hi:∀b b' c d d',ρ' b = .live c d->ρ' b' = .live c d'->b=b') (hbd:∀b c d,ρ' b = .live c d->c<w'.heap.size):Mem P gl ρ' h' w':=
 ⟨hb,hf,hi,hbd,fun c hc=>Nat.lt_of_lt_of_le (m.xb c (by rw[←x.X];exact hc)) x.size,fun b c d hl hX=>by
  rw[x.X]at hX
  have hlt:=m.xb c hX
  rcases x.back b c d hl hlt with h1|⟨b0,d0,h1,_⟩
  . exact m.xo _ _ _ h1 hX
  . exact m.xo _ _ _ h1 hX,fun g v hg=>(m.gl g v hg).mono x⟩
theorem Mem.alloc (m:Mem P gl ρ h w)(o:Option bA)(O:Obj)(s:BS)(hs:(∃d,s = .live w.heap.size d)\/s = .nil\/s = .dead)
 (ho:∀o',o=some o'->BR P gl (ρ.dz h.length s) { w with heap:=w.heap.push O } h.length o') :
 Mem P gl (ρ.dz h.length s) (h++[o]) { w with heap:=w.heap.push O }:=by
 have x:=Ext.alloc m o O s hs
 refine m.ext x ?_ ?_ ?_ ?_
 . intro b o' hb
   rcases Nat.lt_trichotomy b h.length with hlt|heq|hgt
   . rw[List.getElem?_append_left hlt]at hb
     refine(m.cS b o' hb).mono x (az.cZ (by omega)) (fun c d hl=>xU (m.bound b c d hl))
   . subst heq
     rw[List.getElem?_append_right (Nat.le_refl _)]at hb
     simp at hb
     exact ho o' hb
   . rw[List.getElem?_eq_none (by simp;omega)]at hb;cases hb
 . intro b hb
   simp at hb
   rw[az.cZ (by omega)]
   exact m.fresh b (by omega)
 . intro b b' c d d' h1 h2
   have bd:∀{x c d},ρ x = .live c d->c<w.heap.size:=fun h=>m.bound _ _ _ h
   by_cases e:b=h.length <;> by_cases e':b'=h.length
   . omega
   . subst e;rw[az.dD]at h1;rw[az.cZ e']at h2
     rcases hs with ⟨d0,rfl⟩|rfl|rfl
     . cases h1;have:=bd h2;omega
     . cases h1
     . cases h1
   . subst e';rw[az.dD]at h2;rw[az.cZ e]at h1
     rcases hs with ⟨d0,rfl⟩|rfl|rfl
     . cases h2;have:=bd h1;omega
     . cases h2
     . cases h2
   . rw[az.cZ e]at h1;rw[az.cZ e']at h2;exact m.inj b b' c d d' h1 h2
 . intro b c d hl
   show c<(w.heap.push O).size
   rw[Array.size_push]
   by_cases e:b=h.length
   . subst e;rw[az.dD]at hl
     rcases hs with ⟨d0,rfl⟩|rfl|rfl
     . cases hl;omega
     . cases hl
     . cases hl
   . rw[az.cZ e]at hl;have:=m.bound b c d hl;omega
theorem Mem.drew (m:Mem P gl ρ h w)(n:Nat):Mem P gl ρ h { w with drawn:=n }:=
 m.ext (Ext.drew h ρ w n) (fun b o hb=>(m.cS b o hb).mono (Ext.drew h ρ w n) rfl (fun _ _ _=>rfl)) m.fresh m.inj m.bound
def _root_.Go.World.da (w:World)(c:Nat)(O:Obj):World:={ w with heap:=w.heap.setIfInBounds c O }
theorem mI (hc:c<w.heap.size):(w.da c O).heap[c]? = some O:=by
 simp[World.da,hc]
theorem xV {c':Nat}(hc:c'≠c):(w.da c O).heap[c']? = w.heap[c']? := by
 simp only[World.da];rw[Array.getElem?_setIfInBounds];rw[if_neg (by omega)]
theorem xW {o:Option bA}(hb:b<h.length):(h.set b o)[b]? = some o:=by
 rw[List.getElem?_set];simp[hb]
theorem jH {b':Nat}{o:Option bA}(hb:b'≠b):(h.set b o)[b']? = h[b']? := by
 rw[List.getElem?_set];rw[if_neg (by omega)]
theorem Ext.write (m:Mem P gl ρ h w){b c d:Nat}{o0:bA}(h0:h[b]? = some (some o0))(hρ:ρ b = .live c d)(o:Option bA)(O:Obj)
 (hO:∀cs e fr,w.heap[c]? = some (.cells cs e fr)->∃cs' fr',O = .cells cs' e fr'/\cs'.size=cs.size) :
 Ext h (h.set b o) ρ ρ w (w.da c O) where
 os:=rfl
 tape:=rfl
 output:=rfl
 size:=by simp[World.da]
 len:=by simp
 X:=rfl
 cL b' hb':=by
  have:b'≠b:=fun e=>by subst e;rw[h0]at hb';cases hb'
  rw[jH this];exact hb'
 same _ _:=rfl
 live _ _ _ h:=.inl h
 dead _ h:=h
 nil _ h:=.inl h
 bS c' hc' hu:=by
  have:c'≠c:=fun e=>by subst e;have:=hu b d hρ;rw[h0]at this;cases this
  exact xV this
 back _ _ _ h _:=.inl h
 shape c' cs e fr hc':=by
  by_cases e':c'=c
  . subst e'
    obtain⟨cs',fr',rfl,hs⟩:=hO cs e fr hc'
    exact⟨cs',fr',mI (m.bound _ _ _ hρ),hs⟩
  . exact⟨cs,fr,by rw[xV e'];exact hc',rfl⟩
theorem Mem.write (m:Mem P gl ρ h w){b c d:Nat}{o0:bA}(h0:h[b]? = some (some o0))(hρ:ρ b = .live c d)(o:Option bA)(O:Obj)
 (hO:∀cs e fr,w.heap[c]? = some (.cells cs e fr)->∃cs' fr',O = .cells cs' e fr'/\cs'.size=cs.size)
 (ho:∀o',o=some o'->BR P gl ρ (w.da c O) b o'):Mem P gl ρ (h.set b o) (w.da c O):=by
 have x:=Ext.write m h0 hρ o O hO
 refine m.ext x ?_ ?_ m.inj ?_
 . intro b' o' hb'
   by_cases e:b'=b
   . subst e
     rw[xW (List.getElem?_eq_some_iff.1 h0).1]at hb'
     exact ho o' (Option.some.inj hb')
   . rw[jH e]at hb'
     exact(m.cS b' o' hb').mono x rfl (fun c' d' hl=>xV (fun e'=>e (m.inj b' b c d' d (e' ▸ hl) hρ)))
 . intro b' hb';simp at hb';exact m.fresh b' hb'
 . intro b' c' d' hl;have:=m.bound b' c' d' hl;simpa[World.da] using this
theorem Ext.forget {o0:bA}(h0:h[b]? = some (some o0))(hl:∀c d,ρ b = .live c d->c<w.heap.size) :
 Ext h (h.set b none) ρ (ρ.dz b .dead) w w where
 os:=rfl
 tape:=rfl
 output:=rfl
 size:=Nat.le_refl _
 len:=by simp
 X:=rfl
 cL b' hb':=by
  have:b'≠b:=fun e=>by subst e;rw[h0]at hb';cases hb'
  rw[jH this];exact hb'
 same b' hb':=by
  have:b'≠b:=fun e=>by subst e;rw[h0]at hb';cases hb'
  exact az.cZ this
 live b' c d hb':=by
  by_cases e:b'=b
  . subst e;exact .inr (az.dD _ _ _)
  . exact .inl ((az.cZ e).trans hb')
 dead b' hb':=by
  by_cases e:b'=b
  . subst e;exact az.dD _ _ _
  . exact(az.cZ e).trans hb'
 nil b' hb':=by
  by_cases e:b'=b
  . subst e;exact .inr (az.dD _ _ _)
  . exact .inl ((az.cZ e).trans hb')
 bS _ _ _:=rfl
 back b' c d hb' _:=by
  by_cases e:b'=b
  . subst e;rw[az.dD]at hb';cases hb'
  . rw[az.cZ e]at hb';exact .inl hb'
 shape _ cs _ fr h:=⟨cs,fr,h,rfl⟩
theorem Mem.forget (m:Mem P gl ρ h w){b:Nat}{o0:bA}(h0:h[b]? = some (some o0)):Mem P gl (ρ.dz b .dead) (h.set b none) w:=by
 have x:=Ext.forget (w:=w) h0 (fun c d hl=>m.bound b c d hl)
 have hlt:b<h.length:=(List.getElem?_eq_some_iff.1 h0).1
 refine m.ext x ?_ ?_ ?_ ?_
 . intro b' o' hb'
   by_cases e:b'=b
   . subst e;rw[xW hlt]at hb';cases hb'
   . rw[jH e]at hb'
     exact(m.cS b' o' hb').mono x (az.cZ e) (fun _ _ _=>rfl)
 . intro b' hb';simp at hb';rw[az.cZ (by omega)];exact m.fresh b' hb'
 . intro b1 b2 c d d' h1 h2
   by_cases e1:b1=b
   . subst e1;rw[az.dD]at h1;cases h1
   . by_cases e2:b2=b
     . subst e2;rw[az.dD]at h2;cases h2
     . rw[az.cZ e1]at h1;rw[az.cZ e2]at h2;exact m.inj _ _ _ _ _ h1 h2
 . intro b' c d hl
   by_cases e:b'=b
   . subst e;rw[az.dD]at hl;cases hl
   . rw[az.cZ e]at hl;exact m.bound _ _ _ hl
theorem Ext.move (m:Mem P gl ρ h w){b c d:Nat}{o0:bA}(h0:h[b]? = some (some o0))(hρ:ρ b = .live c d)(o:Option bA)(d':Nat) :
 Ext h (h.set b none++[o]) ρ ((ρ.dz b .dead).dz h.length (.live c d')) w w:=by
 have hlt:b<h.length:=(List.getElem?_eq_some_iff.1 h0).1
 have x:=Ext.forget (w:=w) h0 (fun c d hl=>m.bound b c d hl)
 have bS:∀b',ρ b'≠.fresh->b'≠h.length:=fun b' hb e=>hb (m.fresh b' (by omega))
 refine⟨rfl,rfl,rfl,Nat.le_refl _,by simp,rfl,?_,?_,?_,?_,?_,fun _ _ _=>rfl,?_,fun _ cs _ fr h=>⟨cs,fr,h,rfl⟩⟩
 . intro b' hb'
   have hlt':=(List.getElem?_eq_some_iff.1 hb').1
   rw[List.getElem?_append_left (by simpa using hlt')]
   exact x.cL b' hb'
 . intro b' hb'
   have hlt':=(List.getElem?_eq_some_iff.1 hb').1
   rw[az.cZ (by omega)];exact x.same b' hb'
 . intro b' c' d'' hb'
   rw[az.cZ (bS b' (by rw[hb'];simp))];exact x.live b' c' d'' hb'
 . intro b' hb'
   rw[az.cZ (bS b' (by rw[hb'];simp))];exact x.dead b' hb'
 . intro b' hb'
   rw[az.cZ (bS b' (by rw[hb'];simp))];exact x.nil b' hb'
 . intro b' c' d'' hb' hc
   by_cases e:b'=h.length
   . subst e;rw[az.dD]at hb';cases hb'
     exact .inr ⟨b,d,hρ,by rw[h0];simp⟩
   . rw[az.cZ e]at hb';exact x.back b' c' d'' hb' hc
theorem Mem.move (m:Mem P gl ρ h w){b c d:Nat}{o0:bA}(h0:h[b]? = some (some o0))(hρ:ρ b = .live c d)(o:Option bA)(d':Nat)
 (ho:∀o',o=some o'->BR P gl ((ρ.dz b .dead).dz h.length (.live c d')) w h.length o'):Mem P gl ((ρ.dz b .dead).dz h.length (.live c d')) (h.set b none++[o]) w:=by
 have hlt:b<h.length:=(List.getElem?_eq_some_iff.1 h0).1
 have x:=Ext.move m h0 hρ o d'
 have m':=m.forget h0
 refine m.ext x ?_ ?_ ?_ ?_
 . intro b' o' hb'
   rcases Nat.lt_trichotomy b' h.length with hl|he|hg
   . rw[List.getElem?_append_left (by simpa using hl)]at hb'
     by_cases e:b'=b
     . subst e;rw[xW hlt]at hb';cases hb'
     . rw[jH e]at hb'
       exact(m.cS b' o' hb').mono x (by rw[az.cZ (by omega),az.cZ e]) (fun _ _ _=>rfl)
   . subst he
     rw[List.getElem?_append_right (by simp)]at hb'
     simp at hb'
     exact ho o' hb'
   . rw[List.getElem?_eq_none (by simp;omega)]at hb';cases hb'
 . intro b' hb';simp at hb';rw[az.cZ (by omega)];exact m'.fresh b' (by simp;omega)
 . intro b1 b2 c1 d1 d2 h1 h2
   have key:∀b1 d1,b1≠h.length->(ρ.dz b .dead) b1 = .live c d1->False:=fun b1 d1 e h1=>by
    by_cases e1:b1=b
    . subst e1;rw[az.dD]at h1;cases h1
    . rw[az.cZ e1]at h1;exact e1 (m.inj _ _ _ _ _ h1 hρ)
   by_cases e1:b1=h.length <;> by_cases e2:b2=h.length
   . omega
   . subst e1;rw[az.dD]at h1;cases h1;rw[az.cZ e2]at h2;exact(key _ _ e2 h2).elim
   . subst e2;rw[az.dD]at h2;cases h2;rw[az.cZ e1]at h1;exact(key _ _ e1 h1).elim
   . rw[az.cZ e1]at h1;rw[az.cZ e2]at h2;exact m'.inj _ _ _ _ _ h1 h2
 . intro b' c' d'' hl
   by_cases e:b'=h.length
   . subst e;rw[az.dD]at hl;cases hl;exact m.bound _ _ _ hρ
   . rw[az.cZ e]at hl;exact m'.bound _ _ _ hl
end Go.Ab

/-
  Own work: the operations that do not look at the heap: what the abstract machine reckons is what the model gives.
-/
namespace Go.Ab
variable {v x':Value} {l:List AV} {m:List Value} {t e:TypeId} {n:Nat}
variable {P:Program} {gl:Nat->Option AV} {ρ:az} {w:World}
theorem V.fS {k:IntKind}{n:Int}(h:V ρ w (.int k n) v):v = .int k n:=by cases h;rfl
theorem V.kV {b:Bool}(h:V ρ w (.bool b) v):v = .bool b:=by cases h;rfl
theorem V.jl {s:List UInt8}(h:V ρ w (.str s) v):v = .string ⟨s.toArray⟩:=by cases h;rfl
theorem V.iE (h:V ρ w (.agg l) v):∃m:List Value,v = .agg m.toArray/\VL ρ w l m:=by
 cases h with|agg h g=>exact⟨_,rfl,h,g⟩
theorem V.DW (h:V ρ w (.ao l) v):∃m:List Value,v = .tuple m.toArray/\VL ρ w l m:=by
 cases h with|ao h g=>exact⟨_,rfl,h,g⟩
theorem V.qP (h:VL ρ w l m):V ρ w (.agg l) (.agg m.toArray):=.agg h.1 h.2
theorem V.gU (h:VL ρ w l m):V ρ w (.ao l) (.tuple m.toArray):=.ao h.1 h.2
theorem V.undef:V ρ w cF undef:=V.gU VL.nil
theorem VL.get (h:VL ρ w l m){i:Nat}{x:AV}(hx:l[i]? = some x):∃y,m[i]? = some y/\V ρ w x y:=by
 have hi:i<m.length:=h.1 ▸ (List.getElem?_eq_some_iff.1 hx).1
 exact⟨m[i],List.getElem?_eq_getElem hi,h.2 i x _ hx (List.getElem?_eq_getElem hi)⟩
theorem xX {rec:Value->Option AV}(hr:∀v a,rec v=some a->V ρ w a v):∀(l:List Value) (r:List AV),oh rec l=some r->VL ρ w r l
 | [],r,h=>by simp[oh]at h;subst h;exact .nil
 | v::l,r,h=>by
  simp only[oh]at h
  split at h
  . rename_i a r' h1 h2
    cases h
    exact .cons (hr v a h1) (xX hr l r' h2)
  . cases h
theorem qQ:∀(n:Nat) (v:Value) (a:AV),mG n v=some a->V ρ w a v
 | 0,_,_,h=>by simp[mG]at h
 | n+1,v,a,h=>by
  unfold mG at h
  split at h
  . cases h;exact .bool _
  . cases h;exact .int _ _
  . cases h;exact V.qO _
  . cases h;exact .dh
  . cases h;exact .ah
  . cases h;exact .dW
  . cases h;exact .fx
  . cases h;exact .cU
  . cases h
    exact V.fn (fi':=[]) (ca':=[]) (by simp) rfl rfl (by simp) (by simp)
  . rename_i cs
    simp only[Option.map_eq_some_iff]at h
    obtain⟨l,h1,rfl⟩:=h
    exact V.qP (xX (fun v a=>qQ n v a) cs l h1)
  . rename_i cs
    simp only[Option.map_eq_some_iff]at h
    obtain⟨l,h1,rfl⟩:=h
    exact V.gU (xX (fun v a=>qQ n v a) cs l h1)
  . cases h
theorem DX {t:Nat}:∀{l:List Nat} {k i:Nat},idx t l k=some i->∃j,i=k+j/\l[j]? = some t
 | [],_,_,h=>by simp[idx]at h
 | u::r,k,i,h=>by
  simp only[idx]at h
  split at h
  . rename_i hu;cases h;exact⟨0,rfl,by simp[hu]⟩
  . obtain⟨j,h1,h2⟩:=DX h
    exact⟨j+1,by omega,by simpa using h2⟩
theorem tu {t:Nat}{l:List Nat}{i:Nat}(h:idx t l 0=some i):l[i]? = some t:=by
 obtain⟨j,rfl,h2⟩:=DX h;simpa using h2
theorem tv {t:Nat}:∀{l:List Nat} {k:Nat},idx t l k=none->t∉l
 | [],_,_=>by simp
 | u::r,k,h=>by
  simp only[idx]at h
  split at h
  . cases h
  . rename_i hu;have:=tv h;simp;exact⟨fun e=>hu e.symm,this⟩
structure Rel (C:Cx)(ρ:az)(s:St)(a:Act)(w:World):Prop where
 er:ER C ρ w s.pe s.lo a.tmps
 mem:Mem C.P C.gl ρ s.hp w
variable {C:Cx} {s:St} {a:Act}
theorem Ma (r:ER C ρ w s.pe s.lo a.tmps)(g:∀n v,C.gl n=some v->V ρ w v (.pointer (some ⟨n,0,none⟩))){x:Operand}{y:aN}(hc:fQ C x=some y){v:AV}(hv:s.aa y=some v) :
 V ρ w v (a.eval x):=by
 cases x with
 | tmp t=>
  simp only[fQ]at hc
  split at hc
  . rename_i i hi
    cases hc
    exact r.pe i v t hv (tu hi)
  . cases hc
    exact(r.lo t v hv).2.2
 | const c=>
  simp only[fQ,Option.map_eq_some_iff]at hc
  obtain⟨u,h1,rfl⟩:=hc
  simp only[St.aa,Option.some.injEq]at hv
  subst hv
  exact qQ 5 c _ h1
 | global n=>
  simp only[fQ,Option.map_eq_some_iff]at hc
  obtain⟨u,h1,rfl⟩:=hc
  simp only[St.aa,Option.some.injEq]at hv
  subst hv
  exact g n _ h1
 | func f=>
  simp only[fQ]at hc
  cases hc
  simp only[St.aa]at hv
  cases hv
  exact V.fn (fi':=[]) (ca':=[]) (by simp) rfl rfl (by simp) (by simp)
theorem Rel.aa (r:Rel C ρ s a w){x:Operand}{y:aN}(hc:fQ C x=some y){v:AV}(hv:s.aa y=some v):V ρ w v (a.eval x):=
 Ma r.er r.mem.gl hc hv
theorem Rel.ck (r:Rel C ρ s a w):∀{xs:List Operand} {ys:List aN},gG C xs=some ys->∀{vs:List AV},s.ck ys=some vs->VL ρ w vs (xs.map a.eval)
 | [],ys,hc,vs,hv=>by
  simp[gG]at hc;subst hc;simp[St.ck]at hv;subst hv;exact .nil
 | x::xs,ys,hc,vs,hv=>by
  simp only[gG]at hc
  split at hc
  . rename_i y l h1 h2
    cases hc
    simp only[St.ck]at hv
    split at hv
    . rename_i v hv1
      split at hv
      . rename_i vs' hv2
        cases hv
        exact .cons (r.aa h1 hv1) (r.ck h2 hv2)
      . cases hv
    . cases hv
  . cases hc
theorem Mb {op:BinOp}{x y v:AV}{y':Value}(hx:V ρ w x x')(hy:V ρ w y y')(h:cE op x y=some v)(t:TypeId) :
 ∃v',(binOp op t x' y').run P w = .ok v' w/\V ρ w v v':=by
 unfold cE at h
 split at h
 . rename_i k a k' b
   obtain rfl:=hx.fS
   obtain rfl:=hy.fS
   split at h
   . split at h
     . cases h
     . rename_i hb;cases h;exact⟨_,by simp[binOp,Op.shift,hb] <;> rfl,.int _ _⟩
   . split at h
     . cases h
     . rename_i hb;cases h;exact⟨_,by simp[binOp,Op.shift,hb] <;> rfl,.int _ _⟩
   . rename_i op' h1 h2
     split at h
     . rename_i hk
       subst hk
       split at h <;> first
        | (cases h;exact⟨_,by simp only[binOp];rw[if_neg (by simp)];rfl,.int _ _⟩)
        | (cases h;exact⟨_,by simp only[binOp];rw[if_neg (by simp)];rfl,.bool _⟩)
        | (split at h;cases h;rename_i hb;cases h;exact⟨_,by simp[binOp,Op.intDiv,hb] <;> rfl,.int _ _⟩)
        | cases h
     . cases h
 . rename_i a b
   obtain rfl:=hx.jl
   obtain rfl:=hy.jl
   split at h
   . split at h
     . rename_i hl
       cases h
       refine⟨.string ⟨(a++b).toArray⟩,?_,.str _⟩
       have hs:¬(((ByteArray.mk a.toArray).size+(ByteArray.mk b.toArray).size:Nat):Int) > IntKind.i64.max:=by
        have e1:(ByteArray.mk a.toArray).size=a.length:=by simp[ByteArray.size]
        have e2:(ByteArray.mk b.toArray).size=b.length:=by simp[ByteArray.size]
        rw[e1,e2]
        have:IntKind.i64.max=9223372036854775807:=by decide
        omega
       have e:(ByteArray.mk a.toArray)++(ByteArray.mk b.toArray)=⟨(a++b).toArray⟩:=by
        apply ByteArray.ext
        simp
       simp only[binOp,Op.stringOp]
       rw[if_neg hs,e];rfl
     . cases h
   all_goals first
    | (cases h;exact⟨_,by simp[binOp,Op.stringOp] <;> rfl,.bool _⟩)
    | cases h
 . cases h
theorem Mc {op:UnOp}{x v:AV}(hx:V ρ w x x')(h:qz op x=some v):∃v',(Op.unary op x').run P w = .ok v' w/\V ρ w v v':=by
 unfold qz at h
 split at h
 . obtain rfl:=hx.fS;cases h;exact⟨_,by simp[Op.unary,Op.intArith] <;> rfl,.int _ _⟩
 . obtain rfl:=hx.kV;cases h;exact⟨_,by simp[Op.unary] <;> rfl,.bool _⟩
 . obtain rfl:=hx.fS;cases h;exact⟨_,by simp[Op.unary,Op.intBits] <;> rfl,.int _ _⟩
 . cases h
theorem bQ {d:TypeDesc}(h:P.underlying t=some d):(underlying t).run P w = .ok d w:=by simp[underlying,h]
theorem tw {i:TypeInfo}(h:P.info? t=some i):(typeInfo t).run P w = .ok i w:=by simp[typeInfo,h]
theorem gq {i:TypeInfo}(h:P.info? t=some i):(sizeOf t).run P w = .ok i.size w:=by simp[sizeOf,typeInfo,h]
theorem DY {d:TypeDesc}(h:P.underlying t=some d):(isAgg t).run P w = .ok (xQ d) w:=by
 simp only[isAgg,Sem.run_bind,bQ h,Result.andThen_ok]
 cases d <;> rfl
theorem qR {ag:Bool}(h:shapeOf P t=some (n,ag)):∃i d,P.info? t=some i/\P.underlying t=some d/\i.size=n/\xQ d=ag:=by
 unfold shapeOf at h
 split at h
 . rename_i i d h1 h2;cases h;exact⟨i,d,h1,h2,rfl,rfl⟩
 . cases h
theorem Md (h:VL ρ w l m){off n:Nat}{r:List AV}(hc:cut l off n=some r):VL ρ w r ((m.drop off).take n)/\r.length=n:=by
 unfold cut at hc
 simp only at hc
 split at hc
 . rename_i hl;cases hc;exact⟨(h.drop off).take n,hl⟩
 . cases hc
theorem Me (m:List Value)(off n:Nat):(m.toArray.extract off (off+n))=((m.drop off).take n).toArray:=by
 rw[List.extract_toArray,List.extract_eq_drop_take']
 simp[List.drop_take]
theorem ou {ag:Bool}(hs:shapeOf P t=some (n,ag)){l:List AV}{m:List Value}(h:VL ρ w l m){off:Nat}{v:AV}(hv:partOf l off n ag=some v) :
 ∃v',(part t m.toArray off).run P w = .ok v' w/\V ρ w v v':=by
 obtain⟨i,d,h1,h2,rfl,rfl⟩:=qR hs
 unfold partOf at hv
 simp only[part,Sem.run_bind,DY h2,Result.andThen_ok]
 split at hv
 . rename_i hag
   simp only[Option.map_eq_some_iff]at hv
   obtain⟨r,hr,rfl⟩:=hv
   obtain⟨hr1,hr2⟩:=Md h hr
   rw[if_pos hag]
   refine⟨.agg ((m.drop off).take i.size).toArray,?_,V.qP hr1⟩
   simp only[Sem.run_bind,gq h1,Result.andThen_ok,Me]
   rfl
 . rename_i hag
   rw[if_neg hag]
   obtain⟨y,hy1,hy2⟩:=h.get hv
   refine⟨y,?_,hy2⟩
   have:m.toArray[off]? = some y:=by simpa using hy1
   rw[this];rfl
theorem Mf {i:Nat}{x:List AV}(hx:V ρ w (.ao x) x'){v:AV}(h:x[i]? = some v):∃v',(Instr.extract x' i).run P w = .ok v' w/\V ρ w v v':=by
 obtain⟨m,rfl,hl⟩:=hx.DW
 obtain⟨y,hy1,hy2⟩:=hl.get h
 refine⟨y,?_,hy2⟩
 have:m.toArray[i]? = some y:=by simpa using hy1
 simp only[Instr.extract,this];rfl
theorem Mg (hd:P.underlying t=some (.pointer e)){x y:AV}{x' y':Value}(hx:V ρ w x x')(hy:V ρ w y y'){r:Bool}
 (h:iS .ptr x y=some r):(Op.equalIn (n+1) t x' y').run P w = .ok r w:=by
 unfold iS at h
 split at h
 all_goals first|contradiction|skip
 all_goals (cases h;cases hx <;> cases hy <;> simp[Op.equalIn,bQ hd])
theorem Mh (hd:P.underlying t=some (.slice e)){x y:AV}{x' y':Value}(hx:V ρ w x x')(hy:V ρ w y y'){r:Bool}
 (h:iS .slice x y=some r):(Op.equalIn (n+1) t x' y').run P w = .ok r w:=by
 unfold iS at h
 split at h
 all_goals first|contradiction|skip
 all_goals (cases h;cases hx <;> cases hy <;> simp[Op.equalIn,bQ hd])
theorem Mi {k:TypeId}(hd:P.underlying t=some (.map k e)){x y:AV}{x' y':Value}(hx:V ρ w x x')(hy:V ρ w y y'){r:Bool}
 (h:iS .map x y=some r):(Op.equalIn (n+1) t x' y').run P w = .ok r w:=by
 unfold iS at h
 split at h
 all_goals first|contradiction|skip
 all_goals (cases h;cases hx <;> cases hy <;> simp[Op.equalIn,bQ hd])
theorem Mj {ps rs:Array TypeId}{vr:Bool}(hd:P.underlying t=some (.func ps rs vr)){x y:AV}{x' y':Value}(hx:V ρ w x x')(hy:V ρ w y y'){r:Bool}
 (h:iS .func x y=some r):(Op.equalIn (n+1) t x' y').run P w = .ok r w:=by
 unfold iS at h
 split at h
 all_goals first|contradiction|skip
 all_goals (cases h;cases hx <;> cases hy <;> simp[Op.equalIn,bQ hd])
theorem Mk {f d:Nat}(ih:∀(g:Bool) (T:TypeId) (t:gn),gH P d g T=some t->∀(x y:AV) (x' y':Value) (r:Bool),V ρ w x x'->V ρ w y y'->dR f t x y=some r ->
 ∀n,f<=n->(Op.equalIn n T x' y').run P w = .ok r w){n:Nat}(hn:f<=n){xs ys:List AV}{xm ym:List Value}(hx:VL ρ w xs xm)(hy:VL ρ w ys ym) :
 ∀(l:List Field) (fs:List (Nat×Nat×Bool×gn)),qL P (fun t=>gH P d true t) l=some fs->∀r,goEq (fun t x y=>dR f t x y) fs xs ys=some r ->
  (Op.eqFields n xm.toArray ym.toArray l).run P w = .ok r w:=by
 intro l
 induction l with
 | nil=>
  intro fs hf r h
  simp[qL]at hf;subst hf
  simp[goEq]at h;subst h
  simp[Op.eqFields]
 | cons fd l ihl=>
  intro fs hf r h
  simp only[qL]at hf
  split at hf
  . rename_i l' hl'
    split at hf
    . rename_i hname
      cases hf
      simp only[Op.eqFields]
      rw[if_neg (by simpa using hname)]
      exact ihl _ hl' r h
    . rename_i hname
      split at hf
      . rename_i k ag e hs he
        cases hf
        simp only[goEq]at h
        split at h
        . rename_i a b ha hb
          obtain⟨a',ha1,ha2⟩:=ou hs hx ha
          obtain⟨b',hb1,hb2⟩:=ou hs hy hb
          simp only[Op.eqFields]
          rw[if_pos (by simpa using hname)]
          simp only[Sem.run_bind,ha1,hb1,Result.andThen_ok]
          split at h
          . rename_i hr
            rw[ih true fd.type e he a b a' b' true ha2 hb2 hr n hn]
            simp only[Result.andThen_ok,Bool.not_true,Bool.false_eq_true,if_false]
            exact ihl _ hl' r h
          . rename_i hr
            cases h
            rw[ih true fd.type e he a b a' b' false ha2 hb2 hr n hn]
            simp
          . cases h
        . cases h
      . cases hf
  . cases hf
theorem Ml {f d:Nat}(ih:∀(g:Bool) (T:TypeId) (t:gn),gH P d g T=some t->∀(x y:AV) (x' y':Value) (r:Bool),V ρ w x x'->V ρ w y y'->dR f t x y=some r ->
 ∀n,f<=n->(Op.equalIn n T x' y').run P w = .ok r w){n:Nat}(hn:f<=n){xs ys:List AV}{xm ym:List Value}(hx:VL ρ w xs xm)(hy:VL ρ w ys ym)
 {e:TypeId} {k:Nat} {ag:Bool} {q:gn} (hs:shapeOf P e=some (k,ag)) (hc:P.cellsOf e=k) (he:gH P d true e=some q) :
 ∀(m i:Nat) r,goEq (fun t x y=>dR f t x y) (qM k ag q m i) xs ys=some r ->
  (Op.eqItems n e (P.cellsOf e) xm.toArray ym.toArray (List.range' i m)).run P w = .ok r w:=by
 intro m
 induction m with
 | zero=>
  intro i r h
  simp[qM,goEq]at h;subst h
  simp[Op.eqItems]
 | succ m ihm=>
  intro i r h
  simp only[qM,goEq]at h
  rw[List.range'_succ]
  split at h
  . rename_i a b ha hb
    obtain⟨a',ha1,ha2⟩:=ou hs hx ha
    obtain⟨b',hb1,hb2⟩:=ou hs hy hb
    simp only[Op.eqItems,hc]
    simp only[Sem.run_bind,ha1,hb1,Result.andThen_ok]
    split at h
    . rename_i hr
      rw[ih true e q he a b a' b' true ha2 hb2 hr n hn]
      simp only[Result.andThen_ok,Bool.not_true,Bool.false_eq_true,if_false]
      have:=ihm (i+1) r h
      rw[hc]at this
      exact this
    . rename_i hr
      cases h
      rw[ih true e q he a b a' b' false ha2 hb2 hr n hn]
      simp
    . cases h
  . cases h
theorem Mm:∀(f d:Nat) (g:Bool) (T:TypeId) (t:gn),gH P d g T=some t->∀(x y:AV) (x' y':Value) (r:Bool),V ρ w x x'->V ρ w y y'->dR f t x y=some r ->
 ∀n,f<=n->(Op.equalIn n T x' y').run P w = .ok r w:=by
 intro f
 induction f with
 | zero=>intro d g T t _ x y x' y' r _ _ h;simp[dR]at h
 | succ f ih=>
  intro d g T t ht x y x' y' r hx hy h n hn
  obtain⟨n,rfl⟩:∃m,n=m+1:=⟨n-1,by omega⟩
  cases d with
  | zero=>simp[gH]at ht
  | succ d=>
   simp only[gH]at ht
   cases hu:P.underlying T with
   | none=>simp[hu]at ht
   | some u=>
    simp only[hu]at ht
    cases u <;> simp only[Option.some.injEq,reduceCtorEq]at ht
    case bool=>
     subst ht
     simp only[dR]at h
     split at h <;> simp_all
     obtain rfl:=hx.kV
     obtain rfl:=hy.kV
     simp[Op.equalIn,bQ hu,h]
    case int k=>
     subst ht
     simp only[dR]at h
     split at h <;> simp_all
     obtain rfl:=hx.fS
     obtain rfl:=hy.fS
     obtain⟨rfl,h⟩:=h
     simp[Op.equalIn,bQ hu,h]
    case string=>
     subst ht
     simp only[dR]at h
     split at h <;> simp_all
     obtain rfl:=hx.jl
     obtain rfl:=hy.jl
     rw[run_equalIn_string w n T _ _ hu]
     simp[h]
    case pointer e=>subst ht;exact Mg hu hx hy (by simpa[dR] using h)
    case slice e=>subst ht;exact Mh hu hx hy (by simpa[dR] using h)
    case map k e=>subst ht;exact Mi hu hx hy (by simpa[dR] using h)
    case func ps rs vr=>subst ht;exact Mj hu hx hy (by simpa[dR] using h)
    case interface ms=>
     subst ht
     simp only[dR]at h
     generalize hg:(g && !ms.isEmpty)=g' at h
     clear hg
     split at h
     all_goals first|(rename_i heq;cases heq;done)|(rename_i heq _ _;cases heq;done)|skip
     all_goals first|(simp at h;done)|skip
     all_goals (cases hx;cases hy;first|(split at h;(cases h);(cases h;simp[Op.equalIn,bQ hu]))|(cases h;simp[Op.equalIn,bQ hu]))
    case struct fs=>
     split at ht
     . cases ht
     . rename_i hst
       simp only[Option.map_eq_some_iff]at ht
       obtain⟨l,hl,rfl⟩:=ht
       simp only[dR]at h
       split at h <;> try (simp_all;done)
       rename_i fs' xs ys heq
       cases heq
       obtain⟨xm,rfl,hxm⟩:=hx.iE
       obtain⟨ym,rfl,hym⟩:=hy.iE
       have hfo:P.fieldsOf T=fs:=by simp[Program.fieldsOf,hu]
       rw[run_equalIn_struct w n T _ _ (by rw[hfo];exact hu) (by simpa using hst),hfo]
       exact Mk (fun g T t ht x y x' y' r h1 h2 h3 n hn=>ih d g T t ht x y x' y' r h1 h2 h3 n hn) (by omega) hxm hym _ _ hl r h
    case array m e=>
     split at ht
     . rename_i k ag q hs hq
       cases ht
       simp only[dR]at h
       split at h <;> try (simp_all;done)
       rename_i fs' xs ys heq
       cases heq
       obtain⟨xm,rfl,hxm⟩:=hx.iE
       obtain⟨ym,rfl,hym⟩:=hy.iE
       obtain⟨i,dd,hi,_,hk,_⟩:=qR hs
       have hc:P.cellsOf e=k:=by simp[Program.cellsOf,hi,hk]
       rw[run_equalIn_array w n _ _ hu hi,List.range_eq_range']
       exact Ml (fun g T t ht x y x' y' r h1 h2 h3 n hn=>ih d g T t ht x y x' y' r h1 h2 h3 n hn) (by omega) hxm hym hs hc hq m 0 r h
     . cases ht
end Go.Ab

/-
  Own work: the operations that do not look at the heap, continued: addresses, slices, composites; all of them together.
-/
namespace Go.Ab
variable {l o n len esz dflt most r capC:Nat} {f:Field} {i:TypeInfo} {t e:TypeId} {cap:Option Nat} {x:Option AV} {a:Option Addr}
variable {P:Program} {gl:Nat->Option AV} {ρ:az} {w:World}
theorem Mn {src dst:TypeId}{k k':IntKind}(hs:P.underlying src=some (.int k'))(hd:P.underlying dst=some (.int k)){x v:AV}{x':Value}(hx:V ρ w x x')
 (h:kQ k x=some v):∃v',(convert src dst x').run P w = .ok v' w/\V ρ w v v':=by
 unfold kQ at h
 split at h
 . cases h
   obtain rfl:=hx.fS
   exact⟨_,by simp[convert,bQ hs,bQ hd,Conv.intToInt] <;> rfl,.int _ _⟩
 . cases h
theorem Mo {x v:AV}{x':Value}(hx:V ρ w x x')(h:xP x=some v)(t:TypeId)(pos:String)(dst:Option Tmp)(af:Array Edge)(g:Option (Nat×Bool))(e:Operand->Value)(X:Operand)(hX:e X=x') :
 ∃v',(execOp e ⟨dst,.nilCheck X,t,pos,af,g⟩).run P w = .ok (.value v') w/\V ρ w v v':=by
 unfold xP at h
 simp only[execOp,hX]
 split at h <;> cases h
 . cases hx with
   | ptr _ hb=>exact⟨_,rfl,.ptr _ hb⟩
   | dO _ _ _ hb=>exact⟨_,rfl,.dO _ _ _ hb⟩
 . cases hx with
   | vp c o g hf hc hg=>exact⟨_,rfl,.vp c o g hf hc hg⟩
 . cases hx with
   | fn hf h1 h2 g1 g2=>exact⟨_,rfl,.fn hf h1 h2 g1 g2⟩
 . cases hx with
   | yield hb=>exact⟨_,rfl,.yield hb⟩
   | fn hf h1 h2 g1 g2=>exact absurd rfl (hf _)
   | gp c hb=>exact⟨_,rfl,.gp c hb⟩
theorem Addr.gr (c o n:Nat):(⟨c,o,none⟩:Addr).add n=⟨c,o+n,none⟩:=by
 unfold Addr.add
 split
 . rename_i h;subst h;rfl
 . rfl
theorem xY {l:List AV}{c:Nat}(h:V ρ w (.vp l) (.pointer (some ⟨c,o,none⟩)))(n:Nat):V ρ w (.vp (l.drop n)) (.pointer (some ⟨c,o+n,none⟩)):=by
 cases h with
 | vp c o g hf hc hg=>
  refine .vp c (o+n) (fun i=>g (n+i)) (fun hn=>hf (fun e=>hn (by rw[e];simp))) (fun i hi=>?_) (fun i x hx=>?_)
  . rw[show o+n+i=o+(n+i) from by omega]
    exact hc (n+i) (by simp at hi;omega)
  . exact hg (n+i) x (by simpa using hx)
theorem DZ {l:List AV}{v:Value}(h:V ρ w (.vp l) v):∃c o,v = .pointer (some ⟨c,o,none⟩):=by
 cases h with|vp c o g hf hc hg=>exact⟨c,o,rfl⟩
theorem Mp {a:Addr}(hi:P.info? f.type=some i)(h0:i.size≠0):(fieldPlace a f).run P w = .ok (a.add f.offset) w:=by
 simp[fieldPlace,gq hi,h0]
theorem Mq {fs:Array Field}(hu:P.underlying t=some (.struct fs))(hf:fs[n]? = some f)(hi:P.info? f.type=some i)(h0:i.size≠0)
 {x v:AV} {x':Value} (hx:V ρ w x x') (h:xO f.offset x=some v):∃v',(Instr.fieldAt t x' n).run P w = .ok v' w/\V ρ w v v':=by
 have key:∀a,x' = .pointer (some a)->(Instr.fieldAt t x' n).run P w = .ok (.pointer (some (a.add f.offset))) w:=by
  rintro a rfl
  simp[Instr.fieldAt,bQ hu,hf,Instr.sureAddr,Mp hi h0]
 unfold xO at h
 split at h <;> cases h
 . cases hx with
   | ptr _ hb=>
    refine⟨_,key _ rfl,?_⟩
    rw[Addr.gr,Nat.add_right_comm]
    exact .ptr _ hb
   | dO _ _ _ hb=>exact⟨_,key _ rfl,by rw[Addr.gr];exact .dO _ _ _ hb⟩
 . obtain⟨c,o,rfl⟩:=DZ hx
   refine⟨_,key _ rfl,?_⟩
   rw[Addr.gr]
   exact xY hx _
theorem ox (k:IntKind)(n:Int):(asIntOf (.int k n)).run P w = .ok (k,n) w:=rfl
theorem Mr {l:List AV}{v:Value}(h:V ρ w (.vs l len cap) v)(hn:0<len):∃c o capC,v = .slice (some ⟨c,o,none⟩) len capC/\V ρ w (.vp l) (.pointer (some ⟨c,o,none⟩)):=by
 cases h with
 | vs c o g hf hl hcap hc hg=>exact⟨c,o,_,rfl,.vp c o g hf hc hg⟩
 | dT hcap=>omega
 | fm a hcap=>omega
theorem xZ (hu:P.underlying t=some (.slice e))(hi:P.info? e=some i){k:IntKind}{n:Int}{a:Addr}{len capC:Nat}(h0:0<=n)(h1:n<len) :
 (Instr.indexAt t (.slice (some a) len capC) (.int k n)).run P w = .ok (.pointer (some (a.add (n.toNat*i.size)))) w:=by
 simp[Instr.indexAt,ox,bQ hu,gq hi,h0,h1]
theorem yb (hu:P.underlying t=some (.array len e))(hi:P.info? e=some i){k:IntKind}{n:Int}{a:Addr}(h0:0<=n)(h1:n<len) :
 (Instr.indexAt t (.pointer (some a)) (.int k n)).run P w = .ok (.pointer (some (a.add (n.toNat*i.size)))) w:=by
 simp[Instr.indexAt,ox,bQ hu,gq hi,h0,h1,Instr.sureAddr]
theorem Ea {arr:Option Nat}(hu:P.underlying t=some (match arr with|some len=>.array len e|none=>.slice e))(hi:P.info? e=some i)
 {x y v:AV} {x' y':Value} (hx:V ρ w x x') (hy:V ρ w y y') (h:mD arr i.size x y=some v):∃v',(Instr.indexAt t x' y').run P w = .ok v' w/\V ρ w v v':=by
 unfold mD at h
 split at h
 . rename_i k n
   obtain rfl:=hy.fS
   split at h
   . split at h
     . rename_i hb;cases h
       cases hx with
       | ptr _ hr=>
        refine⟨_,yb hu hi hb.1 hb.2,?_⟩
        rw[Addr.gr,Nat.add_right_comm]
        exact .ptr _ hr
       | dO _ _ _ hr=>exact⟨_,yb hu hi hb.1 hb.2,by rw[Addr.gr];exact .dO _ _ _ hr⟩
     . cases h
   . split at h
     . rename_i hb;cases h
       obtain⟨c,o,rfl⟩:=DZ hx
       refine⟨_,yb hu hi hb.1 hb.2,?_⟩
       rw[Addr.gr];exact xY hx _
     . cases h
   . split at h
     . rename_i hb;cases h
       obtain⟨h0,h1,rfl⟩:=hb
       cases hx with
       | sl hr hl hcap hs=>
        refine⟨_,xZ hu hi h0 h1,?_⟩
        rw[Addr.gr,Nat.add_right_comm]
        exact .ptr _ hr
       | fk hr=>simp at h1;omega
       | dZ _ _ hr hl hcap=>exact⟨_,xZ hu hi h0 h1,by rw[Addr.gr];exact .dO _ _ _ hr⟩
       | ff hr=>simp at h1;omega
       | fl a hr=>simp at h1;omega
     . cases h
   . split at h
     . rename_i hb;cases h
       obtain⟨h0,h1⟩:=hb
       obtain⟨c,o,capC,rfl,hv⟩:=Mr hx (by omega)
       refine⟨_,xZ hu hi h0 h1,?_⟩
       rw[Addr.gr];exact xY hv _
     . cases h
   . cases h
 . cases h
theorem Ms (hu:P.underlying t=some .string){x y v:AV}{x' y':Value}(hx:V ρ w x x')(hy:V ρ w y y')(h:th x y=some v) :
 ∃v',(Instr.index t x' y').run P w = .ok v' w/\V ρ w v v':=by
 unfold th at h
 split at h
 . rename_i s k n
   obtain rfl:=hx.jl
   obtain rfl:=hy.fS
   split at h
   . rename_i h0
     simp only[Option.map_eq_some_iff]at h
     obtain⟨c,hc,rfl⟩:=h
     refine⟨.int .u8 c.toNat,?_,.int _ _⟩
     have e:(ByteArray.mk s.toArray)[n.toNat]? = some c:=by
      have hlt:=(List.getElem?_eq_some_iff.1 hc).1
      have:n.toNat<(ByteArray.mk s.toArray).size:=by simpa[ByteArray.size] using hlt
      rw[getElem?_pos (ByteArray.mk s.toArray) n.toNat this]
      have h2:=(List.getElem?_eq_some_iff.1 hc).2
      congr 1
     simp[Instr.index,ox,bQ hu,h0,e]
   . cases h
 . cases h
theorem Mt {ag:Bool}(hu:P.underlying t=some (.array len e))(hs:shapeOf P e=some (esz,ag)){l:List AV}{x':Value}(hx:V ρ w (.agg l) x')
 {k:IntKind} {n:Int} (h0:0<=n) (h1:n<len) {v:AV} (h:partOf l (n.toNat*esz) esz ag=some v):∃v',(Instr.index t x' (.int k n)).run P w = .ok v' w/\V ρ w v v':=by
 obtain⟨m,rfl,hm⟩:=hx.iE
 obtain⟨i,d,hi,hd,rfl,rfl⟩:=qR hs
 obtain⟨v',h2,h3⟩:=ou hs hm h
 refine⟨v',?_,h3⟩
 simp[Instr.index,ox,bQ hu,gq hi,h0,h1,h2]
theorem Mu {fs:Array Field}{sz:Nat}{ag:Bool}(hu:P.underlying t=some (.struct fs))(hf:fs[n]? = some f)(hs:shapeOf P f.type=some (sz,ag))
 {l:List AV} {x':Value} (hx:V ρ w (.agg l) x') {v:AV} (h:partOf l f.offset sz ag=some v):∃v',(Instr.field t x' n).run P w = .ok v' w/\V ρ w v v':=by
 obtain⟨m,rfl,hm⟩:=hx.iE
 obtain⟨v',h2,h3⟩:=ou hs hm h
 refine⟨v',?_,h3⟩
 simp[Instr.field,bQ hu,hf,asAgg,h2]
theorem kX {a:AV}{b:Value}(hx:V ρ w a b){dflt most r:Nat}(h:bL (some a) dflt most=some r) :
 (∀code,(Instr.sliceBound b most code).run P w = .ok r w)/\r<=most:=by
 unfold bL at h
 split at h
 . rename_i heq;cases heq
 . rename_i k n heq
   cases heq
   split at h
   . rename_i hb
     cases h
     obtain rfl:=hx.fS
     exact⟨fun code=>by simp[Instr.sliceBound,ox,hb.1,hb.2],by omega⟩
   . cases h
 . cases h
theorem qS (h:bL none dflt most=some r):r=dflt:=by
 simp[bL]at h;exact h.symm
def VO (ρ:az)(w:World):Option AV->Option Value->Prop
 | none,none=>True
 | some a,some b=>V ρ w a b
 | _,_=>False
theorem yc {isS:Bool}{cap:Nat}{lo hi mx:Option AV}{lo' hi' mx':Option Value}(hl:VO ρ w lo lo')(hh:VO ρ w hi hi')(hm:VO ρ w mx mx')
 {m h l:Nat} (h1:bL mx cap cap=some m) (h2:bL hi len m=some h) (h3:bL lo 0 h=some l) (hmh:mx=none\/hi≠none) :
 (Instr.sliceBounds isS len cap lo' hi' mx').run P w = .ok (l,h,m) w:=by
 unfold Instr.sliceBounds
 cases mx with
 | none=>
  cases mx' with
  | some _=>exact hm.elim
  | none=>
   obtain rfl:=qS h1
   cases hi with
   | none=>
    cases hi' with
    | some _=>exact hh.elim
    | none=>
     obtain rfl:=qS h2
     cases lo with
     | none=>
      cases lo' with
      | some _=>exact hl.elim
      | none=>obtain rfl:=qS h3;simp
     | some a=>
      cases lo' with
      | none=>exact hl.elim
      | some b=>simp[(kX (P:=P) hl h3).1]
   | some c=>
    cases hi' with
    | none=>exact hh.elim
    | some d=>
     have e2:=(kX (P:=P) hh h2).1
     cases lo with
     | none=>
      cases lo' with
      | some _=>exact hl.elim
      | none=>obtain rfl:=qS h3;simp[e2]
     | some a=>
      cases lo' with
      | none=>exact hl.elim
      | some b=>simp[e2,(kX (P:=P) hl h3).1]
 | some x=>
  cases mx' with
  | none=>exact hm.elim
  | some y=>
   have e1:=(kX (P:=P) hm h1).1
   cases hi with
   | none=>
             rcases hmh with h|h
             . cases h
             . exact absurd rfl h
   | some c=>
    cases hi' with
    | none=>exact hh.elim
    | some d=>
     have e2:=(kX (P:=P) hh h2).1
     cases lo with
     | none=>
      cases lo' with
      | some _=>exact hl.elim
      | none=>obtain rfl:=qS h3;simp[e1,e2]
     | some a=>
      cases lo' with
      | none=>exact hl.elim
      | some b=>simp[e1,e2,(kX (P:=P) hl h3).1]
theorem yd (h:bL x dflt most=some r):r<=max dflt most:=by
 unfold bL at h
 split at h
 . cases h;omega
 . split at h
   . cases h;omega
   . cases h
 . cases h
theorem kl (hd:dflt<=most)(h:bL x dflt most=some r):r<=most:=by
 have:=yd h;omega
theorem tx {most':Nat}(hm:most<=most')(h:bL x dflt most=some r):bL x dflt most'=some r:=by
 unfold bL at *
 split at h
 . exact h
 . split at h
   . rename_i hb;rw[if_pos ⟨hb.1,by omega⟩];exact h
   . cases h
 . cases h
theorem ye (s:List UInt8)(l h:Nat):(ByteArray.mk s.toArray).extract l h=⟨((s.drop l).take (h-l)).toArray⟩:=by
 apply ByteArray.ext
 rw[ByteArray.data_extract]
 simp
theorem Mv {b h:Nat}(hx:V ρ w (.sl b o len esz cap) (.slice a len capC))(hlh:l<h)(hhc:h<=capC)(m:Nat)(hm:m<=capC)(hhm:h<=m)(cap':Option Nat)
 (hc':∀n,cap'=some n->m-l=n):V ρ w (.sl b (o+l*esz) (h-l) esz cap') (.slice (if m=l then a else a.map (·.add (l*esz))) (h-l) (m-l)):=by
 have hne:m≠l:=by omega
 rw[if_neg hne]
 cases hx with
 | sl hr hl hcap hs=>
  obtain⟨cs,e,fr,h1,h2⟩:=hs
  simp only[Option.map_some]
  rw[Addr.gr,Nat.add_right_comm]
  refine .sl hr (by omega) hc' ⟨cs,e,fr,h1,?_⟩
  have e1:l*esz+(m-l)*esz=m*esz:=by rw[←Nat.add_mul];congr 1;omega
  have e2:m*esz<=capC*esz:=Nat.mul_le_mul_right _ hm
  omega
 | fk hr=>omega
 | dZ _ _ hr hl hcap=>simp only[Option.map_some];rw[Addr.gr];exact .dZ _ _ hr (by omega) hc'
 | ff hr=>omega
 | fl a hr=>omega
theorem Mw {c:List AV}{h:Nat}(hx:V ρ w (.vs c len cap) (.slice a len capC))(hlh:l<=h)(m:Nat)(hhm:h<=m)(cap':Option Nat)
 (hc':∀n,cap'=some n->m-l=n) (hm:m<=capC):V ρ w (.vs ((c.drop (l*esz)).take ((h-l)*esz)) (h-l) cap') (.slice (if m=l then a else a.map (·.add (l*esz))) (h-l) (m-l)):=by
 cases hx with
 | vs c' o g hf hl hcap hcc hg=>
  by_cases hne:m=l
  . rw[if_pos hne]
    have e1:h-l=0:=by omega
    rw[e1]
    simp only[Nat.zero_mul,List.take_zero]
    exact .vs c' o g (fun h=>absurd rfl h) (by omega) hc' (by simp) (by simp)
  . rw[if_neg hne]
    simp only[Option.map_some]
    rw[Addr.gr]
    refine .vs c' (o+l*esz) (fun i=>g (l*esz+i)) (fun hn=>hf (fun e=>hn (by rw[e];simp))) (by omega) hc' (fun i hi=>?_) (fun i x hx=>?_)
    . rw[Nat.add_assoc]
      refine hcc _ ?_
      simp at hi;omega
    . rw[List.getElem?_take]at hx
      split at hx
      . exact hg _ x (by simpa using hx)
      . cases hx
 | dT hcap=>
  have:m=0:=by omega
  subst this
  have:l=0:=by omega
  subst this
  have:h=0:=by omega
  subst this
  simp
  exact .dT (fun n hn=>(hc' n hn).symm)
 | fm a hcap=>
  have:m=0:=by omega
  subst this
  have:l=0:=by omega
  subst this
  have:h=0:=by omega
  subst this
  simp
  exact .fm a (fun n hn=>(hc' n hn).symm)
theorem V.empty {c:Nat}(ha:a=none->c=0)(hs:∀x,a=some x->x.spot=none\/c=0)(hc:∀n,cap=some n->c=n):V ρ w (.vs [] 0 cap) (.slice a 0 c):=by
 cases a with
 | none=>obtain rfl:=ha rfl;exact .dT (fun n hn=>(hc n hn).symm)
 | some x=>
  obtain⟨b,o,sp⟩:=x
  rcases hs _ rfl with h|rfl
  . obtain rfl:sp=none:=h
    exact .vs b o (fun _=>Go.undef) (fun h=>absurd rfl h) (Nat.zero_le _) hc (by simp) (by simp)
  . exact .fm _ (fun n hn=>(hc n hn).symm)
theorem Mx (hu:P.underlying t=some .string){s:List UInt8}{lo hi:Option AV}{lo' hi':Option Value}(hl:VO ρ w lo lo')(hh:VO ρ w hi hi')
 {h l:Nat} (h2:bL hi s.length s.length=some h) (h3:bL lo 0 h=some l) :
 (Instr.sliceAt t (.string ⟨s.toArray⟩) lo' hi' none).run P w = .ok (.string ⟨((s.drop l).take (h-l)).toArray⟩) w:=by
 have e:(ByteArray.mk s.toArray).size=s.length:=by simp[ByteArray.size]
 have b:=yc (P:=P) (isS:=false) (len:=s.length) (cap:=s.length) hl hh (show VO ρ w none none from trivial) (m:=s.length) (by simp[bL]) h2 h3 (.inl rfl)
 simp only[Instr.sliceAt,Instr.slice,Sem.run_bind,bQ hu,Result.andThen_ok]
 simp[e,b,ye]
theorem yf (hu:P.underlying t=some (.slice e))(hi:P.info? e=some i){a:Option Addr}{len capC:Nat}{lo hi' mx:Option AV}{lo' hi'' mx':Option Value}
 (hl:VO ρ w lo lo') (hh:VO ρ w hi' hi'') (hm:VO ρ w mx mx') {h l m:Nat} (h1:bL mx capC capC=some m) (h2:bL hi' len m=some h) (h3:bL lo 0 h=some l) (hmh:mx=none\/hi'≠none) :
 (Instr.sliceAt t (.slice a len capC) lo' hi'' mx').run P w = .ok (.slice (if m=l then a else a.map (·.add (l*i.size))) (h-l) (m-l)) w:=by
 have b:=yc (P:=P) (isS:=true) hl hh hm h1 h2 h3 hmh
 simp only[Instr.sliceAt,Instr.slice,Sem.run_bind,bQ hu,Result.andThen_ok]
 simp[b,gq hi]
theorem My (hu:P.underlying t=some (.array n e))(hi:P.info? e=some i){a:Addr}{lo hi':Option AV}{lo' hi'':Option Value}
 (hl:VO ρ w lo lo') (hh:VO ρ w hi' hi'') {h l:Nat} (h2:bL hi' n n=some h) (h3:bL lo 0 h=some l) :
 (Instr.sliceAt t (.pointer (some a)) lo' hi'' none).run P w = .ok (.slice (some (if n=l then a else a.add (l*i.size))) (h-l) (n-l)) w:=by
 have b:=yc (P:=P) (isS:=false) (len:=n) (cap:=n) hl hh (show VO ρ w none none from trivial) (m:=n) (by simp[bL]) h2 h3 (.inl rfl)
 simp only[Instr.sliceAt,Sem.run_bind,bQ hu,Result.andThen_ok]
 simp[b,gq hi,Instr.sureAddr]
theorem Mz {m:Nat}(hm:m<=capC)(ha:∀x,a=some x->x.spot=none\/capC=0)(n:Nat)(c:Prop)[Decidable c]:∀x,(if c then a else a.map (·.add n))=some x->x.spot=none\/m-l=0:=by
 intro x hx
 split at hx
 . rcases ha x hx with h|h
   . exact .inl h
   . exact .inr (by omega)
 . simp only[Option.map_eq_some_iff]at hx
   obtain⟨y,hy,rfl⟩:=hx
   rcases ha y hy with this|h
   . refine .inl ?_
     unfold Addr.add
     split
     . exact this
     . rfl
   . exact .inr (by omega)
theorem jI {x:AV}{x':Value}(hx:V ρ w x x')(hk:match x with | .ah | .sl .. | .vs .. => True|_=>False) :
 ∃a len capC,x' = .slice a len capC/\len<=capC/\(∀y,a=some y->y.spot=none\/capC=0)/\(a=none->capC=0):=by
 cases hx <;> simp at hk
 case ah=>exact⟨none,0,0,rfl,Nat.le_refl _,by simp,fun _=>rfl⟩
 case sl hr hl hcap hs=>exact⟨_,_,_,rfl,hl,by rintro y ⟨⟩;exact .inl rfl,by simp⟩
 case fk=>exact⟨none,0,0,rfl,Nat.le_refl _,by simp,fun _=>rfl⟩
 case dZ hr hl hcap=>exact⟨_,_,_,rfl,hl,by rintro y ⟨⟩;exact .inl rfl,by simp⟩
 case ff=>exact⟨none,0,0,rfl,Nat.le_refl _,by simp,fun _=>rfl⟩
 case vs hf hl hcap hc hg=>exact⟨_,_,_,rfl,hl,by rintro y ⟨⟩;exact .inl rfl,by simp⟩
 case dT hcap=>exact⟨none,0,0,rfl,Nat.le_refl _,by simp,fun _=>rfl⟩
 case fm a hcap=>exact⟨some a,0,0,rfl,Nat.le_refl _,fun _ _=>.inr rfl,fun h=>by cases h⟩
 case fl a h=>exact⟨some a,0,0,rfl,Nat.le_refl _,fun _ _=>.inr rfl,fun h=>by cases h⟩
theorem qT {b len':Nat}(hx:V ρ w (.sl b o len esz cap) (.slice a len' capC)):len'=len/\∀n,cap=some n->capC=n:=by
 cases hx with
 | sl hr hl hcap hs=>exact⟨rfl,hcap⟩
 | fk hr=>exact⟨rfl,by simp⟩
 | dZ _ _ hr hl hcap=>exact⟨rfl,hcap⟩
 | ff hr=>exact⟨rfl,by simp⟩
 | fl a hr=>exact⟨rfl,fun n hn=>by cases hn;rfl⟩
theorem qU {c:List AV}{len':Nat}(hx:V ρ w (.vs c len cap) (.slice a len' capC)):len'=len/\∀n,cap=some n->capC=n:=by
 cases hx with
 | vs c o g hf hl hcap hc hg=>exact⟨rfl,hcap⟩
 | dT hcap=>exact⟨rfl,fun n hn=>(hcap n hn).symm⟩
 | fm a hcap=>exact⟨rfl,fun n hn=>(hcap n hn).symm⟩
theorem MA (hl:len<=capC)(hc:∀n,cap=some n->capC=n):cap.getD len<=capC:=by
 cases cap with
 | none=>exact hl
 | some n=>rw[hc n rfl];exact Nat.le_refl _
theorem Eb (hc:∀n,cap=some n->capC=n):∀n,cap.map (· - l)=some n->capC-l=n:=by
 intro n hn
 simp only[Option.map_eq_some_iff]at hn
 obtain⟨c,hc',rfl⟩:=hn
 rw[hc c hc']
theorem Ec (hu:P.underlying t=some (.slice e))(hi:P.info? e=some i){b o len:Nat}{cap:Option Nat}{a:Option Addr}{len' capC:Nat}(hx:V ρ w (.sl b o len i.size cap) (.slice a len' capC))
 {lo hi' mx:Option AV} {lo' hi'' mx':Option Value} (hl:VO ρ w lo lo') (hh:VO ρ w hi' hi'') (hm:VO ρ w mx mx') {h l m:Nat}
 (h1:bL mx capC capC=some m) (h2:bL hi' len m=some h) (h3:bL lo 0 h=some l) (hmh:mx=none\/hi'≠none) (hhm:h<=m) (hmc:m<=capC) (cap':Option Nat) (hc':∀n,cap'=some n->m-l=n) :
 ∃v',(Instr.sliceAt t (.slice a len' capC) lo' hi'' mx').run P w = .ok v' w/\V ρ w (if l<h then .sl b (o+l*i.size) (h-l) i.size cap' else .vs [] 0 cap') v':=by
 obtain⟨_,_,_,he,hlc,hsp,hnil⟩:=jI hx trivial
 cases he
 obtain⟨rfl,hcap⟩:=qT hx
 refine⟨_,yf (P:=P) hu hi hl hh hm h1 h2 h3 hmh,?_⟩
 have hlh:=kl (Nat.zero_le _) h3
 split
 . rename_i hlt
   exact Mv hx hlt (by omega) m hmc hhm _ hc'
 . rename_i hlt
   have e0:h-l=0:=by omega
   rw[e0]
   refine V.empty (fun e=>?_) (Mz hmc hsp _ _) hc'
   split at e
   . omega
   . rw[Option.map_eq_none_iff]at e;have:=hnil e;omega
theorem Ed (hu:P.underlying t=some (.slice e))(hi:P.info? e=some i){l0:List AV}{len:Nat}{cap:Option Nat}{a:Option Addr}{len' capC:Nat}(hx:V ρ w (.vs l0 len cap) (.slice a len' capC))
 {lo hi' mx:Option AV} {lo' hi'' mx':Option Value} (hl:VO ρ w lo lo') (hh:VO ρ w hi' hi'') (hm:VO ρ w mx mx') {h l m:Nat}
 (h1:bL mx capC capC=some m) (h2:bL hi' len m=some h) (h3:bL lo 0 h=some l) (hmh:mx=none\/hi'≠none) (hhm:h<=m) (hmc:m<=capC) (cap':Option Nat) (hc':∀n,cap'=some n->m-l=n) :
 ∃v',(Instr.sliceAt t (.slice a len' capC) lo' hi'' mx').run P w = .ok v' w/\V ρ w (.vs ((l0.drop (l*i.size)).take ((h-l)*i.size)) (h-l) cap') v':=by
 obtain⟨_,_,_,he,hlc,hsp,hnil⟩:=jI hx trivial
 cases he
 obtain⟨rfl,hcap⟩:=qU hx
 exact⟨_,yf (P:=P) hu hi hl hh hm h1 h2 h3 hmh,Mw hx (kl (Nat.zero_le _) h3) m hhm _ hc' hmc⟩
theorem Ee (hu:P.underlying t=some (.slice e))(hi:P.info? e=some i){x':Value}(hx:V ρ w .ah x')
 {lo hi' mx:Option AV} {lo' hi'' mx':Option Value} (hl:VO ρ w lo lo') (hh:VO ρ w hi' hi'') (hm:VO ρ w mx mx') {h l m:Nat}
 (h1:bL mx 0 0=some m) (h2:bL hi' 0 0=some h) (h3:bL lo 0 0=some l) (hmh:mx=none\/hi'≠none) :
 ∃v',(Instr.sliceAt t x' lo' hi'' mx').run P w = .ok v' w/\V ρ w .ah v':=by
 cases hx
 have e0:=kl (Nat.le_refl _) h1
 obtain rfl:m=0:=by omega
 have e1:=kl (Nat.le_refl _) h2
 obtain rfl:h=0:=by omega
 have e2:=kl (Nat.le_refl _) h3
 obtain rfl:l=0:=by omega
 exact⟨_,yf (P:=P) (a:=none) hu hi hl hh hm h1 h2 h3 hmh,by simpa using V.ah⟩
theorem Ef {d d':Nat}(hx:x≠none)(h:bL x d most=some r):bL x d' most=some r:=by
 cases x with
 | none=>exact absurd rfl hx
 | some a=>cases a <;> exact h
theorem Eg {k:kP} 
 (hk:match k with | .str=>P.underlying t=some .string | .sl=>∃e i,P.underlying t=some (.slice e)/\P.info? e=some i/\i.size=esz | .arr n=>∃e i,P.underlying t=some (.array n e)/\P.info? e=some i/\i.size=esz)
 {x v:AV} {x':Value} (hx:V ρ w x x') {lo hi mx:Option AV} {lo' hi' mx':Option Value} (hl:VO ρ w lo lo') (hh:VO ρ w hi hi') (hm:VO ρ w mx mx') (hmh:mx=none\/hi≠none)
 (h:jD k esz x lo hi mx=some v):∃v',(Instr.sliceAt t x' lo' hi' mx').run P w = .ok v' w/\V ρ w v v':=by
 cases k with
 | str=>
  cases x <;> cases mx <;> simp only[jD,reduceCtorEq]at h
  cases mx' with
  | some _=>exact hm.elim
  | none=>
   obtain rfl:=hx.jl
   split at h
   . rename_i hb
     split at h
     . rename_i lb;cases h
       exact⟨_,Mx hk hl hh hb lb,.str _⟩
     . cases h
   . cases h
 | sl=>
  obtain⟨e,i,hu,hinf,rfl⟩:=hk
  cases x <;> simp only[jD,reduceCtorEq]at h
  case ah=>
   cases mx with
   | none=>
    simp only at h
    split at h
    . rename_i hb lb;cases h
      exact Ee hu hinf hx hl hh hm (m:=0) (by simp[bL]) hb lb hmh
    . cases h
   | some m0=>
    simp only at h
    split at h
    . rename_i mb hb lb;cases h
      exact Ee hu hinf hx hl hh hm mb hb lb hmh
    . cases h
  case sl b o len e' cap=>
   obtain⟨a,len',capC,rfl,hlc,hsp,hnil⟩:=jI hx trivial
   obtain⟨rfl,hcap⟩:=qT hx
   have hcc:=MA hlc hcap
   cases mx with
   | none=>
    simp only at h
    split at h
    . rename_i he;subst he
      split at h
      . rename_i h' hb
        split at h
        . rename_i l' lb
          have hhc:h'<=capC:=by
           have h1:=yd hb
           have h2:=Nat.max_le.2 ⟨hlc,hcc⟩
           omega
          have:=Ec (P:=P) hu hinf hx hl hh hm (m:=capC) (by simp[bL]) (tx hcc hb) lb hmh hhc (Nat.le_refl _) (cap.map (· - l')) (Eb hcap)
          split at h <;> (rename_i hlt;cases h;simpa[hlt] using this)
        . cases h
      . cases h
    . cases h
   | some m0=>
    simp only at h
    split at h
    . rename_i he;subst he
      split at h
      . rename_i m' mb
        split at h
        . rename_i h' hb
          split at h
          . rename_i l' lb
            have hmc:m'<=capC:=by
             have h1:=yd mb
             have h2:=Nat.max_le.2 ⟨hlc,hcc⟩
             omega
            have hhi:hi≠none:=by rcases hmh with h|h;cases h;exact h
            have hhm:h'<=m':=by
             cases hi with
             | none=>exact absurd rfl hhi
             | some c=>
              cases hi' with
              | none=>exact hh.elim
              | some d=>exact(kX (P:=P) hh hb).2
            have:=Ec (P:=P) hu hinf hx hl hh hm (Ef (by simp) (tx hcc mb)) hb lb hmh hhm hmc (some (m'-l')) (by intro n hn;cases hn;rfl)
            split at h <;> (rename_i hlt;cases h;simpa[hlt] using this)
          . cases h
        . cases h
      . cases h
    . cases h
  case vs l0 len cap=>
   obtain⟨a,len',capC,rfl,hlc,hsp,hnil⟩:=jI hx trivial
   obtain⟨rfl,hcap⟩:=qU hx
   cases mx with
   | none=>
    simp only at h
    split at h
    . rename_i h' hb
      split at h
      . rename_i l' lb;cases h
        have hhc:h'<=len':=kl (Nat.le_refl _) hb
        exact Ed (P:=P) hu hinf hx hl hh hm (m:=capC) (by simp[bL]) (tx hlc hb) lb hmh (by omega) (Nat.le_refl _) (cap.map (· - l')) (Eb hcap)
      . cases h
    . cases h
   | some m0=>
    simp only at h
    split at h
    . rename_i m' mb
      split at h
      . rename_i h' hb
        split at h
        . rename_i l' lb;cases h
          have hmc:m'<=len':=kl (Nat.le_refl _) mb
          have hhi:hi≠none:=by rcases hmh with h|h;cases h;exact h
          have hhm:h'<=m':=by
           cases hi with
           | none=>exact absurd rfl hhi
           | some c=>
            cases hi' with
            | none=>exact hh.elim
            | some d=>exact(kX (P:=P) hh hb).2
          exact Ed (P:=P) hu hinf hx hl hh hm (Ef (by simp) (tx hlc mb)) hb lb hmh hhm (by omega) (some (m'-l')) (by intro n hn;cases hn;rfl)
        . cases h
      . cases h
    . cases h
 | arr n=>cases x <;> cases mx <;> simp only[jD,reduceCtorEq]at h
end Go.Ab

/-
  Own work: composites, and all operations that do not look at the heap together.
-/
namespace Go.Ab
variable {m:List Value} {t ty:TypeId} {op:BinOp} {x y:Operand} {x' y':Value}
variable {P:Program} {gl:Nat->Option AV} {ρ:az} {w:World}
def ow (m:List Value)(off:Nat)(new:List Value):List Value:=m.take off++new++m.drop (off+new.length)
theorem VL.length {l:List AV}(h:VL ρ w l m):l.length=m.length:=h.1
theorem MB {l new:List AV}{newm:List Value}(h:VL ρ w l m)(h':VL ρ w new newm)(off:Nat):VL ρ w (overwrite l off new) (ow m off newm):=by
 unfold overwrite ow
 rw[h'.length]
 exact((h.take off).append h').append (h.drop _)
theorem MC {new:List Value}{off:Nat}(h:off+new.length<=m.length):(ow m off new).length=m.length:=by
 simp[ow];omega
theorem Eh {off:Nat}{x:Value}{r:List Value}(h:off+(r.length+1)<=m.length):ow m off (x::r)=ow (m.set off x) (off+1) r:=by
 apply List.ext_getElem?
 intro i
 unfold ow
 simp only[List.getElem?_append,List.length_append,List.length_take,List.length_cons,List.length_set,List.getElem?_take,List.getElem?_drop,List.getElem?_set,List.getElem?_cons]
 have e1:min off m.length=off:=by omega
 have e2:min (off+1) m.length=off+1:=by omega
 rw[e1,e2]
 by_cases h1:i<off
 . rw[if_pos (by omega),if_pos (by omega),if_pos (by omega),if_pos (by omega),if_pos (by omega),if_pos (by omega),if_neg (by omega)]
 . by_cases h2:i=off
   . subst h2
     rw[if_pos (by omega),if_neg (by omega),if_pos (by omega),if_pos (by omega),if_pos (by omega),if_pos (by omega),if_pos rfl,if_pos (by omega)]
   . by_cases h3:i<off+(r.length+1)
     . rw[if_pos (by omega),if_neg (by omega),if_neg (by omega),if_pos (by omega),if_neg (by omega)]
       congr 1
     . rw[if_neg (by omega),if_neg (by omega),if_neg (by omega)]
       congr 1
       omega
theorem Ei (off:Nat):∀(r:List Value) (k:Nat) (m:List Value),off+k+r.length<=m.length ->
 ((r.zipIdx k).foldl (fun (cs:Array Value) (p:Value×Nat)=>cs.setIfInBounds (off+p.2) p.1) m.toArray)=(ow m (off+k) r).toArray
 | [],k,m,_=>by simp[ow]
 | x::r,k,m,h=>by
  simp only[List.length_cons]at h
  simp only[List.zipIdx_cons,List.foldl_cons]
  rw[List.setIfInBounds_toArray,Ei off r (k+1) (m.set (off+k) x) (by simp;omega),Eh (by omega)]
  rfl
theorem V.one {x:AV}{v:Value}(h:V ρ w x v)(h1:x≠.cL)(h2:∀l,x≠.agg l):v.cells = #[v]:=by
 cases h <;> first|rfl|exact absurd rfl h1|exact absurd rfl (h2 _)
theorem oy {x:AV}{v:Value}(h:V ρ w x v){l:List AV}(hl:x.cells=some l):VL ρ w l v.cells.toList:=by
 by_cases h2:∃l0,x = .agg l0
 . obtain⟨l0,rfl⟩:=h2
   simp only[AV.cells,Option.some.injEq]at hl
   subst hl;obtain⟨m,rfl,hm⟩:=h.iE;simpa[Value.cells] using hm
 . have h1:x≠.cL:=fun e=>by subst e;simp[AV.cells]at hl
   have h2':∀l0,x≠.agg l0:=fun l0 e=>h2 ⟨l0,e⟩
   have hl':l=[x]:=by
    cases x <;> simp only[AV.cells,Option.some.injEq,reduceCtorEq]at hl <;> first|exact hl.symm|exact absurd rfl h1|exact absurd rfl (h2' _)
   rw[hl',h.one h1 h2']
   exact VL.cons h VL.nil
theorem tz {place:Nat->Option (Nat×Nat)}:∀(vs:List (Nat×Nat×AV)) (ps:List (Nat×Value)) (l:List AV) (m:List Value) (l':List AV),
 vs.length=ps.length->(∀(i:Nat) o n v p,vs[i]? = some (o,n,v)->ps[i]? = some p->place p.1=some (o,n)/\V ρ w v p.2) ->
 VL ρ w l m->ke l vs=some l'->∃m':List Value,Instr.fill place m.toArray ps=some m'.toArray/\VL ρ w l' m'
 | [],[],l,m,l',_,_,hl,h=>by simp[ke]at h;subst h;exact⟨m,rfl,hl⟩
 | [],_::_,_,_,_,hlen,_,_,_=>by simp at hlen
 | _::_,[],_,_,_,hlen,_,_,_=>by simp at hlen
 | (o,n,v)::vs,(j,y)::ps,l,m,l',hlen,hall,hl,h=>by
  obtain⟨hp,hv⟩:=hall 0 o n v (j,y) rfl rfl
  simp only[ke]at h
  split at h
  . rename_i c hc
    split at h
    . rename_i hb
      have hcv:=oy hv hc
      have hsz:y.cells.size=n:=by rw[←hb.1,hcv.length];simp
      have hfold:=Ei o y.cells.toList 0 m (by rw[←hcv.length,hb.1,←hl.length];omega)
      obtain⟨m',h1,h2⟩:=tz vs ps (overwrite l o c) (ow m o y.cells.toList) l' (by simpa using hlen)
        (fun i o' n' v' p' hi hp'=>hall (i+1) o' n' v' p' (by simpa using hi) (by simpa using hp')) (MB hl hcv o) h
      refine⟨m',?_,h2⟩
      have hp':place j=some (o,n):=hp
      simp only[Instr.fill,hp']
      have hcond:¬((decide (y.cells.size≠n) || decide (o+y.cells.size > m.toArray.size))=true):=by
       have h1:m.toArray.size=m.length:=by simp
       have h2:=hl.length
       rw[h1]
       simp;omega
      rw[if_neg hcond]
      rw[←Array.foldl_toList,Array.toList_zipIdx]
      simp only[Nat.add_zero]at hfold
      rw[hfold]
      exact h1
    . cases h
  . cases h
theorem tA {C:Cx}{s:St}{a:Act}(r:Rel C ρ s a w){place:Nat->Option (Nat×Nat)}:∀{ps:List (Nat×Operand)} {cps:List (Nat×Nat×aN)},jF C place ps=some cps ->
 ∀{vs:List (Nat×Nat×AV)},s.parts cps=some vs->vs.length=(ps.map fun p=>(p.1,a.eval p.2)).length /\
  ∀(i:Nat) o n v p,vs[i]? = some (o,n,v)->(ps.map fun p=>(p.1,a.eval p.2))[i]? = some p->place p.1=some (o,n)/\V ρ w v p.2
 | [],cps,hc,vs,hv=>by
  simp[jF]at hc;subst hc;simp[St.parts]at hv;subst hv;simp
 | (j,x)::ps,cps,hc,vs,hv=>by
  simp only[jF]at hc
  split at hc
  . rename_i o n y l h1 h2 h3
    cases hc
    simp only[St.parts]at hv
    split at hv
    . rename_i v hv1
      split at hv
      . rename_i vs' hv2
        cases hv
        obtain⟨e1,e2⟩:=tA r h3 hv2
        refine⟨by simpa using e1,fun i o' n' v' p' hi hp=>?_⟩
        cases i with
        | zero=>simp at hi hp;obtain⟨rfl,rfl,rfl⟩:=hi;subst hp;exact⟨h1,r.aa h2 hv1⟩
        | succ i=>simp at hi;exact e2 i o' n' v' p' hi (by simpa using hp)
      . cases hv
    . cases hv
  . cases hc
theorem tB {z:AV}(h:zeroOf P t=some z):∃v,(zeroValue t).run P w = .ok v w/\V ρ w z v:=by
 unfold zeroOf at h
 split at h
 . rename_i i hi
   split at h
   . rename_i v hv
     exact⟨v,by simp[zeroValue,tw hi,hv],qQ 5 v z h⟩
   . cases h
 . cases h
theorem run_places:∀(fs:List Field) (pl:List (Nat×Nat)),om P fs=some pl ->
 (fs.mapM fun f=>do pure (f.offset,←sizeOf f.type):Sem (List (Nat×Nat))).run P w = .ok pl w
 | [],pl,h=>by simp[om]at h;subst h;simp
 | f::fs,pl,h=>by
  simp only[om]at h
  split at h
  . rename_i i l h1 h2
    cases h
    simp only[List.mapM_cons,Sem.run_bind,gq h1,Result.andThen_ok,Sem.run_pure]
    rw[run_places fs l h2]
    simp
  . cases h
theorem MD {C:Cx}{s:St}{a:Act}(r:Rel C ρ s a w){t:TypeId}{z:AV}{zc:List AV}{fs:Array Field}{pl:List (Nat×Nat)}(hz:zeroOf C.P t=some z)(hzc:z.cells=some zc)(hu:C.P.underlying t=some (.struct fs))
 (hpl:om C.P fs.toList=some pl) {ps:Array (Nat×Operand)} {cps:List (Nat×Nat×aN)} (hc:jF C (pl[·]?) ps.toList=some cps) {vs:List (Nat×Nat×AV)} (hv:s.parts cps=some vs)
 {l:List AV} (hf:ke zc vs=some l):∃v',(Instr.build t (ps.map fun p=>(p.1,a.eval p.2))).run C.P w = .ok v' w/\V ρ w (.agg l) v':=by
 obtain⟨zv,hz1,hz2⟩:=tB (P:=C.P) (ρ:=ρ) (w:=w) hz
 have hzl:=oy hz2 hzc
 obtain⟨e1,e2⟩:=tA r hc hv
 obtain⟨m',h1,h2⟩:=tz vs _ zc _ l e1 e2 hzl hf
 refine⟨.agg m'.toArray,?_,V.qP h2⟩
 have hpl':=run_places (w:=w) fs.toList pl hpl
 have hm:(fs.mapM fun f=>do pure (f.offset,←sizeOf f.type):Sem (Array (Nat×Nat))).run C.P w = .ok pl.toArray w:=by
  rw[Array.mapM_eq_mapM_toList,Sem.run_map,hpl'];rfl
 simp only[Instr.build,Sem.run_bind,hz1,Result.andThen_ok,bQ hu,hm]
 have hfill:Instr.fill (fun x=>pl.toArray[x]?) zv.cells (ps.map fun p=>(p.1,a.eval p.2)).toList=some m'.toArray:=by
  rw[Array.toList_map]
  simpa using h1
 rw[hfill]
 rfl
theorem ME {C:Cx}{s:St}{a:Act}(r:Rel C ρ s a w){t e:TypeId}{n:Nat}{i:TypeInfo}{z:AV}{zc:List AV}(hz:zeroOf C.P t=some z)(hzc:z.cells=some zc)(hu:C.P.underlying t=some (.array n e))
 (hi:C.P.info? e=some i) {ps:Array (Nat×Operand)} {cps:List (Nat×Nat×aN)} (hc:jF C (fun j=>some (j*i.size,i.size)) ps.toList=some cps) {vs:List (Nat×Nat×AV)} (hv:s.parts cps=some vs)
 {l:List AV} (hf:ke zc vs=some l):∃v',(Instr.build t (ps.map fun p=>(p.1,a.eval p.2))).run C.P w = .ok v' w/\V ρ w (.agg l) v':=by
 obtain⟨zv,hz1,hz2⟩:=tB (P:=C.P) (ρ:=ρ) (w:=w) hz
 have hzl:=oy hz2 hzc
 obtain⟨e1,e2⟩:=tA r hc hv
 obtain⟨m',h1,h2⟩:=tz (place:=fun j=>some (j*i.size,i.size)) vs _ zc _ l e1 e2 hzl hf
 refine⟨.agg m'.toArray,?_,V.qP h2⟩
 simp only[Instr.build,Sem.run_bind,hz1,Result.andThen_ok,bQ hu,gq hi]
 have hfill:Instr.fill (fun j=>some (j*i.size,i.size)) zv.cells (ps.map fun p=>(p.1,a.eval p.2)).toList=some m'.toArray:=by
  rw[Array.toList_map]
  simpa using h1
 rw[hfill]
 rfl
theorem yg (mx:Bool):∀(l:List AV) (m:List Value) (k:IntKind) (a:Int) (v:AV),VL ρ w l m->mE mx (.int k a) l=some v ->
 ∃v',(m.foldlM (if mx then Builtin.max2 else Builtin.min2) (.int k a)).run P w = .ok v' w/\V ρ w v v'
 | [],m,k,a,v,hl,h=>by
  rw[hl.jk]
  simp[mE]at h;subst h
  exact⟨_,rfl,.int _ _⟩
 | x::l,m,k,a,v,hl,h=>by
  obtain⟨y,m',rfl,hy,hl'⟩:=hl.cons_inv
  unfold mE at h
  split at h
  . cases ‹_::_=[]›
  . rename_i heq1 heq2
    cases heq1;cases heq2
    obtain rfl:=hy.fS
    split at h
    . rename_i hk;subst hk
      obtain⟨v',h1,h2⟩:=yg mx l m' _ _ v hl' h
      refine⟨v',?_,h2⟩
      cases mx
      . simp only[List.foldlM_cons,Sem.run_bind,Bool.false_eq_true,if_false,Builtin.min2,Sem.run_pure,Result.andThen_ok]at h1 ⊢
        exact h1
      . simp only[List.foldlM_cons,Sem.run_bind,if_true,Builtin.max2,Sem.run_pure,Result.andThen_ok]at h1 ⊢
        exact h1
    . cases h
  . cases h
variable {C:Cx} {s:St} {a:Act}
theorem mJ (r:Rel C ρ s a w){x:Option Operand}{y:Option aN}(hc:kR C x=some y){v:Option AV}(hv:s.cY y=some v):VO ρ w v (x.map a.eval):=by
 cases x with
 | none=>simp[kR]at hc;subst hc;simp[St.cY]at hv;subst hv;trivial
 | some x0=>
  simp only[kR,Option.map_eq_some_iff]at hc
  obtain⟨y0,h1,rfl⟩:=hc
  simp only[St.cY,Option.map_eq_some_iff]at hv
  obtain⟨u,h2,rfl⟩:=hv
  exact r.aa h1 h2
theorem qV (h1:¬(x' = .nilIface/\y' = .nilIface))(h2:∀a b,¬(x' = .agg a/\y' = .agg b)):(eqGuard op t x y x' y').run P w = .ok () w:=by
 have key:∀op:BinOp,(op = .eql\/op = .neq)->(eqGuard op t x y x' y').run P w = .ok () w:=by
  intro op hop
  unfold eqGuard
  rcases hop with rfl|rfl
  all_goals
   simp only[Bool.not_true,Bool.false_eq_true,if_false]
   split
   . exact absurd ⟨rfl,rfl⟩ h1
   . exact absurd ⟨rfl,rfl⟩ (h2 _ _)
   . rfl
 cases op
 case eql=>exact key _ (.inl rfl)
 case neq=>exact key _ (.inr rfl)
 all_goals rfl
theorem MF {ms:Array (String×TypeId)}(hu:P.underlying t=some (.interface ms))(hg:((!(ki x || ki y)) && !ms.isEmpty)=false) :
 (eqGuard op t x y .nilIface .nilIface).run P w = .ok () w:=by
 obtain⟨k,hk⟩:∃k,Op.maxDepth=k+1:=⟨9999,rfl⟩
 have h3:(Op.eqGuardIn Op.maxDepth t .nilIface .nilIface).run P w = .ok (!ms.isEmpty) w:=by
  rw[hk]
  simp only[Op.eqGuardIn,Sem.run_bind,bQ hu,Result.andThen_ok]
  rfl
 have key:∀op:BinOp,(op = .eql\/op = .neq)->(eqGuard op t x y .nilIface .nilIface).run P w = .ok () w:=by
  intro op hop
  unfold eqGuard
  rcases hop with rfl|rfl
  all_goals
   simp only[Bool.not_true,Bool.false_eq_true,if_false]
   cases x <;> cases y <;> simp only[ki,Bool.or_self,Bool.or_true,Bool.or_false,Bool.not_true,Bool.not_false,Bool.true_and,Bool.false_and,if_true,if_false,Bool.false_eq_true]at hg ⊢
   all_goals first
    | rfl
    | (simp only[Sem.run_bind,h3,Result.andThen_ok,hg,Bool.false_eq_true,if_false];rfl)
 cases op
 case eql=>exact key _ (.inl rfl)
 case neq=>exact key _ (.inr rfl)
 all_goals rfl
theorem MG {f n:Nat}{e:gn}{xa ya:AV}{r:Bool} 
 (hst:xR P t=false)
 (he:gH P f (!(ki x || ki y)) t=some e) (hx:V ρ w xa x') (hy:V ρ w ya y') (hr:dR (n+1) e xa ya=some r):(eqGuard op t x y x' y').run P w = .ok () w:=by
 cases f with
 | zero=>simp[gH]at he
 | succ f=>
 simp only[gH]at he
 cases hu:P.underlying t with
 | none=>simp[hu]at he
 | some u=>
  simp only[xR,hu]at he hst
  cases u <;> simp only[Option.some.injEq,reduceCtorEq]at he
  case struct fs=>
   split at he
   . cases he
   . simp only[Option.map_eq_some_iff]at he
     obtain⟨l,hl,rfl⟩:=he
     cases xa <;> cases ya <;> simp only[dR,reduceCtorEq]at hr
     obtain⟨xm,rfl,_⟩:=hx.iE
     obtain⟨ym,rfl,_⟩:=hy.iE
     exact run_eqGuard_agg w op t x y _ _ hst
  case array m e'=>
   split at he
   . cases he
     cases xa <;> cases ya <;> simp only[dR,reduceCtorEq]at hr
     obtain⟨xm,rfl,_⟩:=hx.iE
     obtain⟨ym,rfl,_⟩:=hy.iE
     exact run_eqGuard_agg w op t x y _ _ hst
   . cases he
  case interface ms=>
   subst he
   cases xa <;> cases ya <;> simp only[dR,reduceCtorEq]at hr
   . cases hx;cases hy;exact qV (by simp) (by simp)
   . cases hx;cases hy;exact qV (by simp) (by simp)
   . split at hr
     . cases hr
     . rename_i hg
       cases hx;cases hy
       exact MF hu (by simpa using hg)
  all_goals
   subst he
   refine qV ?_ ?_
   . rintro⟨rfl,rfl⟩
     cases hx <;> cases hy <;> simp[dR,iS]at hr
   . rintro a b ⟨rfl,rfl⟩
     cases hx <;> cases hy <;> simp[dR,iS]at hr
def oz:Value->Bool
 | .int _ _ | .float _ _ | .complex _ _ _ | .string _=>true
 | _=>false
theorem binOp_eql (h:oz x'=false):binOp .eql t x' y'=(do pure (.bool (←Op.equal t x' y'))):=by
 cases x' <;> simp only[oz,reduceCtorEq]at h <;> rfl
theorem binOp_neq (h:oz x'=false):binOp .neq t x' y'=(do pure (.bool (!(←Op.equal t x' y')))):=by
 cases x' <;> simp only[oz,reduceCtorEq]at h <;> rfl
theorem MH {d n:Nat}{g:Bool}{e:gn}(hs:tk P t=false)(he:gH P d g t=some e){xa ya:AV}{x':Value}(hx:V ρ w xa x'){b:Bool}(hb:dR (n+1) e xa ya=some b):oz x'=false:=by
 cases d with
 | zero=>simp[gH]at he
 | succ d=>
 simp only[gH]at he
 cases hu:P.underlying t with
 | none=>simp[hu]at he
 | some u=>
  simp only[hu]at he
  simp only[tk,hu]at hs
  cases u <;> simp only[Option.some.injEq,reduceCtorEq]at he hs
  case struct fs=>
   split at he
   . cases he
   . simp only[Option.map_eq_some_iff]at he
     obtain⟨l,hl,rfl⟩:=he
     cases xa <;> cases ya <;> simp only[dR,reduceCtorEq]at hb
     obtain⟨xm,rfl,_⟩:=hx.iE
     rfl
  case array m e'=>
   split at he
   . cases he
     cases xa <;> cases ya <;> simp only[dR,reduceCtorEq]at hb
     obtain⟨xm,rfl,_⟩:=hx.iE
     rfl
   . cases he
  all_goals
   subst he
   cases hx <;> first|rfl|(cases ya <;> simp[dR,iS]at hb)
theorem gu {e:Operand->Value}{dst:Option Tmp}{b:Builtin}{args:Array Operand}{ats:Array TypeId}{pos:String}{af:Array Edge}{gd:Option (Nat×Bool)} :
 (execOp e ⟨dst,.call ⟨.builtin b,args,ats⟩,ty,pos,af,gd⟩).run P w=(builtin b ats ty (args.map fun | .const _=>true|_=>false) (args.map e)).run P w:=by
 simp[execOp,resolve,invoke]
 rfl
theorem gJ {α:Type}{x:Array α}{l:List α}(h:x.toList=l):x=l.toArray:=by
 rw[←h]
theorem oC {x:List Operand}{y:aN}(h:gG C x=some [y]):∃x0,x=[x0]/\fQ C x0=some y:=by
 match x,h with
 | [],h=>simp[gG]at h
 | [x0],h=>
  simp only[gG]at h
  split at h
  . rename_i a l h1 h2
    simp at h2
    cases h
    exact⟨x0,rfl,h1⟩
  . cases h
 | x0::x1::r,h=>
  simp only[gG]at h
  split at h
  . rename_i a l h1 h2
    cases h
    split at h2
    . cases h2
    . cases h2
  . cases h
theorem yh {x:List Operand}{y z:aN}(h:gG C x=some [y,z]):∃x0 x1,x=[x0,x1]/\fQ C x0=some y/\fQ C x1=some z:=by
 match x,h with
 | [],h=>simp[gG]at h
 | x0::r,h=>
  simp only[gG]at h
  split at h
  . rename_i a l h1 h2
    cases h
    obtain⟨x1,rfl,h3⟩:=oC h2
    exact⟨x0,x1,rfl,h1,h3⟩
  . cases h
def Ej (P:Program)(t:TypeId):kP->Prop
 | .str=>P.underlying t=some .string
 | .sl=>∃e,P.underlying t=some (.slice e)
 | .arr n=>∃e,P.underlying t=some (.array n e)
def qW:kP->AV->Option AV
 | .arr n,_=>some (.int .i64 n)
 | k,x=>ti k x
theorem MI {k:kP}(hk:Ej P t k){x v:AV}{x':Value}(hx:V ρ w x x')
 (h:qW k x=some v):∃v',(Builtin.len_ #[t] ty #[x']).run P w = .ok v' w/\V ρ w v v':=by
 cases k with
 | arr n=>
  obtain⟨e,hu⟩:=hk
  simp only[qW,Option.some.injEq]at h
  subst h
  refine⟨goInt n,?_,.int _ _⟩
  simp[Builtin.len_,bQ hu]
 | str=>
  cases x <;> simp only[qW,ti,reduceCtorEq,Option.some.injEq]at h
  subst h
  obtain rfl:=hx.jl
  refine⟨.int .i64 _,?_,.int _ _⟩
  have hk':P.underlying t=some .string:=hk
  simp only[Builtin.len_,List.getElem?_toArray,List.getElem?_cons_zero,Sem.run_bind,bQ hk',Result.andThen_ok]
  rfl
 | sl=>
  obtain⟨e,hu⟩:=hk
  have hnil:∀l,(x = .ah/\l=0)\/(∃b o es c,x = .sl b o l es c)\/(∃q c,x = .vs q l c)->∃v',(Builtin.len_ #[t] ty #[x']).run P w = .ok v' w/\V ρ w (.int .i64 l) v':=by
   intro l hl
   have:∃a c,x' = .slice a l c:=by
    rcases hl with ⟨rfl,rfl⟩|⟨b,o,es,c,rfl⟩|⟨q,c,rfl⟩
    . cases hx;exact⟨_,_,rfl⟩
    . obtain⟨a,l',c',rfl,_⟩:=jI hx trivial
      obtain⟨rfl,_⟩:=qT hx;exact⟨_,_,rfl⟩
    . obtain⟨a,l',c',rfl,_⟩:=jI hx trivial
      obtain⟨rfl,_⟩:=qU hx;exact⟨_,_,rfl⟩
   obtain⟨a,c,rfl⟩:=this
   exact⟨goInt l,by simp[Builtin.len_,bQ hu],.int _ _⟩
  cases x <;> simp only[qW,ti,reduceCtorEq,Option.some.injEq]at h <;> subst h
  . exact hnil 0 (.inl ⟨rfl,rfl⟩)
  . exact hnil _ (.inr (.inl ⟨_,_,_,_,rfl⟩))
  . exact hnil _ (.inr (.inr ⟨_,_,rfl⟩))
theorem MJ {e:TypeId}(hu:P.underlying t=some (.slice e)){x:AV}{x':Value}(hx:V ρ w x x'){n:Nat}(h:x = .ah/\n=0\/(∃b o l es,x = .sl b o l es (some n))\/∃q l,x = .vs q l (some n)) :
 (Builtin.cap_ #[t] ty #[x']).run P w = .ok (.int .i64 n) w:=by
 have:∃a l,x' = .slice a l n:=by
  rcases h with ⟨rfl,rfl⟩|⟨b,o,l,es,rfl⟩|⟨q,l,rfl⟩
  . cases hx;exact⟨_,_,rfl⟩
  . obtain⟨a,l',c',rfl,_⟩:=jI hx trivial
    obtain⟨rfl,hc⟩:=qT hx;rw[hc n rfl];exact⟨_,_,rfl⟩
  . obtain⟨a,l',c',rfl,_⟩:=jI hx trivial
    obtain⟨rfl,hc⟩:=qU hx;rw[hc n rfl];exact⟨_,_,rfl⟩
 obtain⟨a,l,rfl⟩:=this
 simp[Builtin.cap_,bQ hu,goInt]
theorem MK (r:Rel C ρ s a w){o:Oper}{io:bc}(hc:gS C o=some io)(hh:io.bG=false){v:AV}(hv:aV s io=some v) :
 ∃v',(execOp a.eval o).run C.P w = .ok (.value v') w/\V ρ w v v':=by
 obtain⟨dst,op,ty,pos,af,gd⟩:=o
 cases op <;> simp only[gS]at hc
 case move x=>
  simp only[Option.map_eq_some_iff]at hc
  obtain⟨y,h1,rfl⟩:=hc
  exact⟨_,by simp[execOp],r.aa h1 hv⟩
 case assign x=>
  simp only[Option.map_eq_some_iff]at hc
  obtain⟨y,h1,rfl⟩:=hc
  exact⟨_,by simp[execOp],r.aa h1 hv⟩
 case pick c x y=>
  split at hc
  . rename_i c' x' y' h1 h2 h3
    cases hc
    simp only[aV]at hv
    split at hv
    . rename_i t av bv hc' ha' hb'
      have e1:=(r.aa h1 hc').kV
      cases hv
      refine⟨_,by simp[execOp,e1,asBool] <;> rfl,?_⟩
      cases t
      . exact r.aa h3 hb'
      . exact r.aa h2 ha'
    . rename_i t av hc' ha' hb'
      have e1:=(r.aa h1 hc').kV
      split at hv
      . rename_i ht;subst ht;cases hv
        exact⟨_,by simp[execOp,e1,asBool] <;> rfl,r.aa h2 ha'⟩
      . cases hv
    . rename_i t bv hc' ha' hb'
      have e1:=(r.aa h1 hc').kV
      split at hv
      . cases hv
      . rename_i ht
        obtain rfl:t=false:=by simpa using ht
        cases hv
        exact⟨_,by simp[execOp,e1,asBool] <;> rfl,r.aa h3 hb'⟩
    . cases hv
  . cases hc
 case build t ps=>
  split at hc
  . rename_i z hz
    split at hc
    . rename_i zc fs hzc hu
      split at hc
      . rename_i pl hpl
        simp only[Option.map_eq_some_iff]at hc
        obtain⟨cps,h1,rfl⟩:=hc
        simp only[aV]at hv
        split at hv
        . rename_i vs hvs
          simp only[Option.map_eq_some_iff]at hv
          obtain⟨l,hl,rfl⟩:=hv
          obtain⟨v',h2,h3⟩:=MD r hz hzc hu hpl h1 hvs hl
          exact⟨v',by simp[execOp,h2],h3⟩
        . cases hv
      . cases hc
    . rename_i zc n e hzc hu
      split at hc
      . rename_i i hi
        simp only[Option.map_eq_some_iff]at hc
        obtain⟨cps,h1,rfl⟩:=hc
        simp only[aV]at hv
        split at hv
        . rename_i vs hvs
          simp only[Option.map_eq_some_iff]at hv
          obtain⟨l,hl,rfl⟩:=hv
          obtain⟨v',h2,h3⟩:=ME r hz hzc hu hi h1 hvs hl
          exact⟨v',by simp[execOp,h2],h3⟩
        . cases hv
      . cases hc
    . cases hc
  . cases hc
 case nilCheck x=>
  simp only[Option.map_eq_some_iff]at hc
  obtain⟨y,h1,rfl⟩:=hc
  simp only[aV,Option.bind_eq_some_iff]at hv
  obtain⟨u,h2,h3⟩:=hv
  exact Mo (r.aa h1 h2) h3 _ _ _ _ _ _ _ rfl
 case binOp op t x y u=>
  split at hc
  . rename_i x' y' h1 h2
    split at hc
    . rename_i hcmp
      split at hc
      . cases hc;simp[bc.bG]at hh
      split at hc
      . cases hc
      . rename_i hst
        simp only[Option.map_eq_some_iff]at hc
        obtain⟨e,he,rfl⟩:=hc
        simp only[aV]at hv
        split at hv
        . rename_i xa ya hx hy
          split at hv
          . rename_i b hb
            cases hv
            have gx:=r.aa h1 hx
            have gy:=r.aa h2 hy
            have hg:=MG (w:=w) (op:=op) (n:=99) (by simpa using hst) he gx gy hb
            have hE:=Mm 100 20 _ t e he xa ya _ _ b gx gy hb 10000 (by omega)
            have hE':(Op.equal t (a.eval x) (a.eval y)).run C.P w = .ok b w:=hE
            have hns:tk C.P t=false:=by
             simp only[Bool.and_eq_true,Bool.not_eq_true']at hcmp;exact hcmp.2
            have hcm:qN op=true:=by
             simp only[Bool.and_eq_true]at hcmp;exact hcmp.1
            have hnum:=MH hns he gx hb
            refine⟨_,?_,.bool _⟩
            cases op <;> simp only[qN,Bool.false_eq_true]at hcm
            . simp[execOp,hg,binOp_eql hnum,hE']
            . simp[execOp,hg,binOp_neq hnum,hE']
          . cases hv
        . cases hv
    . rename_i hcmp
      cases hc
      simp only[aV]at hv
      split at hv
      . rename_i xa ya hx hy
        have gx:=r.aa h1 hx
        have gy:=r.aa h2 hy
        obtain⟨v',h3,h4⟩:=Mb (P:=C.P) gx gy hv t
        have hg:(eqGuard op t x y (a.eval x) (a.eval y)).run C.P w = .ok () w:=by
         refine qV ?_ ?_
         . rintro⟨e1,e2⟩
           rw[e1]at gx;rw[e2]at gy
           cases gx <;> cases gy <;> simp[cE]at hv
         . rintro p q ⟨e1,e2⟩
           rw[e1]at gx;rw[e2]at gy
           cases gx <;> cases gy <;> simp[cE]at hv
        exact⟨v',by simp[execOp,hg,h3],h4⟩
      . cases hv
  . cases hc
 case unOp op t x=>
  simp only[Option.map_eq_some_iff]at hc
  obtain⟨y,h1,rfl⟩:=hc
  simp only[aV,Option.bind_eq_some_iff]at hv
  obtain⟨u,h2,h3⟩:=hv
  obtain⟨v',h4,h5⟩:=Mc (P:=C.P) (r.aa h1 h2) h3
  exact⟨v',by simp[execOp,h4],h5⟩
 case convert src dst x=>
  split at hc <;> try (cases hc;done)
  . rename_i k' k y hs hd h1
    cases hc
    simp only[aV,Option.bind_eq_some_iff]at hv
    obtain⟨u,h2,h3⟩:=hv
    obtain⟨v',h4,h5⟩:=Mn hs hd (r.aa h1 h2) h3
    exact⟨v',by simp[execOp,h4],h5⟩
  . rename_i k y hs hd h1
    cases hc
    simp only[aV]at hv
    split at hv
    . rename_i k0 n h2
      cases hv
      have e:=(r.aa h1 h2).fS
      refine⟨.string (Utf8.encode n),?_,V.qO _⟩
      simp[execOp,e,convert,bQ hs,bQ hd,Conv.intToString]
    . cases hv
  . rename_i y hs hd h1
    cases hc
    simp only[aV]at hv
    split at hv
    . rename_i st h2
      cases hv
      have e:=(r.aa h1 h2).jl
      refine⟨_,?_,V.str _⟩
      simp[execOp,e,convert,bQ hs,bQ hd]
    . cases hv
  . split at hc
    . split at hc
      . cases hc
      . cases hc;simp[bc.bG]at hh
    . cases hc
  . split at hc
    . cases hc;simp[bc.bG]at hh
    . cases hc
  . split at hc
    . split at hc
      . cases hc
      . cases hc;simp[bc.bG]at hh
    . cases hc
  . split at hc
    . split at hc
      . cases hc;simp[bc.bG]at hh
      . cases hc
    . cases hc
 case makeInterface t x=>
  split at hc
  . cases hc
  . rename_i u hni hu
    simp only[Option.map_eq_some_iff]at hc
    obtain⟨y,h1,rfl⟩:=hc
    simp only[aV,Option.map_eq_some_iff]at hv
    obtain⟨xa,h2,rfl⟩:=hv
    refine⟨_,?_,.iface (r.aa h1 h2)⟩
    cases u <;> first|(exact absurd rfl (hni _))|simp[execOp,Instr.makeInterface,bQ hu]
  . cases hc
 case typeAssert x xt t ok=>
  split at hc
  . cases hc
  . rename_i u hni hu
    split at hc
    . rename_i x' z h1 h2
      cases hc
      obtain⟨zv,hz1,hz2⟩:=tB (P:=C.P) (w:=w) (ρ:=ρ) h2
      simp only[aV]at hv
      split at hv
      . rename_i u0 va h3
        have e0:=r.aa h1 h3
        generalize hxv:a.eval x=xv at e0
        cases e0 with
        | @iface _ _ v' hin=>
         split at hv
         . rename_i e
           subst e
           cases ok
           . cases hv
             exact⟨v',by cases u <;> first|(exact absurd rfl (hni _))|simp[execOp,hxv,Instr.typeAssert,bQ hu],hin⟩
           . cases hv
             exact⟨.tuple #[v',.bool true],by cases u <;> first|(exact absurd rfl (hni _))|simp[execOp,hxv,Instr.typeAssert,bQ hu],.gU (.cons hin (.cons (.bool _) .nil))⟩
         . rename_i e
           cases ok
           . cases hv
           . cases hv
             exact⟨.tuple #[zv,.bool false],by cases u <;> first|(exact absurd rfl (hni _))|simp[execOp,hxv,Instr.typeAssert,bQ hu,e,hz1],.gU (.cons hz2 (.cons (.bool _) .nil))⟩
      . rename_i h3
        have e0:=r.aa h1 h3
        generalize hxv:a.eval x=xv at e0
        cases e0 with
        | cU=>
         cases ok
         . cases hv
         . cases hv
           exact⟨.tuple #[zv,.bool false],by cases u <;> first|(exact absurd rfl (hni _))|simp[execOp,hxv,Instr.typeAssert,bQ hu,hz1],.gU (.cons hz2 (.cons (.bool _) .nil))⟩
      . cases hv
    . cases hc
  . cases hc
 case makeFunc f fi ca=>
  split at hc
  . cases hc
  . rename_i hy
    split at hc
    . rename_i fi' ca' h1 h2
      cases hc
      simp only[aV]at hv
      split at hv
      . rename_i va vb h3 h4
        cases hv
        have g1:=r.ck h1 h3
        have g2:=r.ck h2 h4
        refine⟨_,by simp[execOp,Instr.makeFunc] <;> rfl,?_⟩
        have e1:fi.map a.eval=(fi.toList.map a.eval).toArray:=by rw[←Array.toList_map,Array.toArray_toList]
        have e2:ca.map a.eval=(ca.toList.map a.eval).toArray:=by rw[←Array.toList_map,Array.toArray_toList]
        rw[e1,e2]
        refine .fn (fun l e=>hy (by subst e;rfl)) g1.1 g2.1 g1.2 g2.2
      . cases hv
    . cases hc
 case slice t x lo hi mx=>
  split at hc <;> try (cases hc;done)
  . rename_i x' l h hu h1 h2 h3 h4
    cases hc
    simp only[aV]at hv
    split at hv
    . rename_i xa hx
      split at hv
      . rename_i la ha ma hl hh' hm
        split at hv
        . rename_i hmh
          have e4:mx=none:=by cases mx with
            | none=>rfl
            | some m=>simp[kR]at h4
          subst e4
          simp only[St.cY,Option.some.injEq]at hm
          subst hm
          obtain⟨v',h5,h6⟩:=Eg (P:=C.P) (t:=t) (k:=.str) (esz:=1) hu (r.aa h1 hx) (mJ r h2 hl) (mJ r h3 hh') (mx':=none) (show VO ρ w none none from trivial) (.inl rfl) hv
          exact⟨v',by simp[execOp,h5],h6⟩
        . cases hv
      . cases hv
    . cases hv
  . rename_i e x' l h m hu h1 h2 h3 h4
    split at hc
    . rename_i i hi'
      cases hc
      simp only[aV]at hv
      split at hv
      . rename_i xa hx
        split at hv
        . rename_i la ha ma hl hh' hm
          split at hv
          . rename_i hmh
            obtain⟨v',h5,h6⟩:=Eg (P:=C.P) (t:=t) (k:=.sl) (esz:=i.size) ⟨e,i,hu,hi',rfl⟩ (r.aa h1 hx) (mJ r h2 hl) (mJ r h3 hh') (mJ r h4 hm) (by cases ma <;> cases ha <;> simp at hmh ⊢) hv
            exact⟨v',by simp[execOp,h5],h6⟩
          . cases hv
        . cases hv
      . cases hv
    . cases hc
  . split at hc
    . cases hc;simp[bc.bG]at hh
    . cases hc
 case fieldAddr t x f=>
  split at hc <;> try (cases hc;done)
  rename_i fs x' hu h1
  split at hc <;> try (cases hc;done)
  rename_i fd hf
  split at hc <;> try (cases hc;done)
  rename_i i hi'
  split at hc
  . cases hc
  . rename_i h0
    cases hc
    simp only[aV,Option.bind_eq_some_iff]at hv
    obtain⟨u,h2,h3⟩:=hv
    obtain⟨v',h4,h5⟩:=Mq hu hf hi' h0 (r.aa h1 h2) h3
    exact⟨v',by simp[execOp,h4],h5⟩
 case field t x f=>
  split at hc <;> try (cases hc;done)
  rename_i fs x' hu h1
  split at hc <;> try (cases hc;done)
  rename_i fd hf
  split at hc <;> try (cases hc;done)
  rename_i n ag hs
  cases hc
  simp only[aV]at hv
  split at hv
  . rename_i l hx
    obtain⟨v',h4,h5⟩:=Mu hu hf hs (r.aa h1 hx) hv
    exact⟨v',by simp[execOp,h4],h5⟩
  . cases hv
 case indexAddr t x i=>
  split at hc <;> try (cases hc;done)
  . rename_i n e x' i' hu h1 h2
    split at hc <;> try (cases hc;done)
    rename_i inf hinf
    cases hc
    simp only[aV]at hv
    split at hv
    . rename_i xa ia hx hi'
      obtain⟨v',h4,h5⟩:=Ea (P:=C.P) (t:=t) (arr:=some n) hu hinf (r.aa h1 hx) (r.aa h2 hi') hv
      exact⟨v',by simp[execOp,h4],h5⟩
    . cases hv
  . rename_i e x' i' hu h1 h2
    split at hc <;> try (cases hc;done)
    rename_i inf hinf
    cases hc
    simp only[aV]at hv
    split at hv
    . rename_i xa ia hx hi'
      obtain⟨v',h4,h5⟩:=Ea (P:=C.P) (t:=t) (arr:=none) hu hinf (r.aa h1 hx) (r.aa h2 hi') hv
      exact⟨v',by simp[execOp,h4],h5⟩
    . cases hv
 case index t x i=>
  split at hc <;> try (cases hc;done)
  . rename_i x' i' hu h1 h2
    cases hc
    simp only[aV]at hv
    split at hv
    . rename_i xa ia hx hi'
      obtain⟨v',h4,h5⟩:=Ms hu (r.aa h1 hx) (r.aa h2 hi') hv
      exact⟨v',by simp[execOp,h4],h5⟩
    . cases hv
  . rename_i n e x' i' hu h1 h2
    split at hc <;> try (cases hc;done)
    rename_i sz ag hs
    cases hc
    simp only[aV]at hv
    split at hv
    . rename_i l k m hx hi'
      split at hv
      . rename_i hb
        have ei:=(r.aa h2 hi').fS
        obtain⟨v',h4,h5⟩:=Mt hu hs (r.aa h1 hx) (k:=k) hb.1 hb.2 hv
        exact⟨v',by simp[execOp,ei,h4],h5⟩
      . cases hv
    . cases hv
 case extract x i=>
  simp only[Option.map_eq_some_iff]at hc
  obtain⟨y,h1,rfl⟩:=hc
  simp only[aV]at hv
  split at hv
  . rename_i l hx
    obtain⟨v',h4,h5⟩:=Mf (P:=C.P) (r.aa h1 hx) hv
    exact⟨v',by simp[execOp,h4],h5⟩
  . cases hv
 case call c=>
  obtain⟨callee,args,ats⟩:=c
  cases callee with
  | value f=>
   simp only at hc
   split at hc
   . cases hc;simp[bc.bG]at hh
   . cases hc
  | invoke x name=>
   simp only at hc
   split at hc
   . cases hc;simp[bc.bG]at hh
   . cases hc
  | builtin b=>
   simp only at hc
   split at hc <;> try (cases hc;done)
   . -- len
     rename_i t x h1 h2
     obtain rfl:=gJ h1
     obtain⟨x0,hx0,h3⟩:=oC h2
     obtain rfl:=gJ hx0
     have fin:∀k,Ej C.P t k->io = .len k x ->
      ∃v',(execOp a.eval ⟨dst,.call ⟨.builtin .len,[x0].toArray,[t].toArray⟩,ty,pos,af,gd⟩).run C.P w = .ok (.value v') w/\V ρ w v v':=by
      rintro k hk rfl
      simp only[aV]at hv
      have:∃xa,V ρ w xa (a.eval x0)/\qW k xa=some v:=by
       cases k with
       | arr n=>exact⟨.cL,.cL _,hv⟩
       | str=>simp only[Option.bind_eq_some_iff]at hv;obtain⟨u,h4,h5⟩:=hv;exact⟨u,r.aa h3 h4,h5⟩
       | sl=>simp only[Option.bind_eq_some_iff]at hv;obtain⟨u,h4,h5⟩:=hv;exact⟨u,r.aa h3 h4,h5⟩
      obtain⟨xa,h4,h5⟩:=this
      obtain⟨v',h6,h7⟩:=MI (ty:=ty) hk h4 h5
      refine⟨v',?_,h7⟩
      rw[gu]
      simp[builtin,h6]
     split at hc
     . rename_i n e hu;cases hc;exact fin (.arr n) ⟨e,hu⟩ rfl
     . cases hc;simp[bc.bG]at hh
     . rename_i hu;cases hc;exact fin .str hu rfl
     . rename_i e hu;cases hc;exact fin .sl ⟨e,hu⟩ rfl
     . cases hc
   . -- cap
     rename_i t x h1 h2
     obtain rfl:=gJ h1
     obtain⟨x0,hx0,h3⟩:=oC h2
     obtain rfl:=gJ hx0
     split at hc <;> try (cases hc;done)
     rename_i e hu
     cases hc
     have fin:∀n,(∃xa,V ρ w xa (a.eval x0)/\(xa = .ah/\n=0\/(∃b o l es,xa = .sl b o l es (some n))\/∃q l,xa = .vs q l (some n)))->v = .int .i64 n ->
      ∃v',(execOp a.eval ⟨dst,.call ⟨.builtin .cap,[x0].toArray,[t].toArray⟩,ty,pos,af,gd⟩).run C.P w = .ok (.value v') w/\V ρ w v v':=by
      rintro n ⟨xa,h4,h5⟩ rfl
      have h6:=MJ (ty:=ty) hu h4 h5
      refine⟨_,?_,.int _ _⟩
      rw[gu]
      simp[builtin,h6]
     simp only[aV]at hv
     split at hv <;> try (cases hv;done)
     . rename_i h4;cases hv;exact fin 0 ⟨_,r.aa h3 h4,.inl ⟨rfl,rfl⟩⟩ rfl
     . rename_i h4;cases hv;exact fin _ ⟨_,r.aa h3 h4,.inr (.inl ⟨_,_,_,_,rfl⟩)⟩ rfl
     . rename_i h4;cases hv;exact fin _ ⟨_,r.aa h3 h4,.inr (.inr ⟨_,_,rfl⟩)⟩ rfl
   . -- append
     split at hc
     . split at hc
       . cases hc;simp[bc.bG]at hh
       . cases hc
     . split at hc
       . cases hc;simp[bc.bG]at hh
       . cases hc
     . cases hc
   . -- copy
     split at hc
     . split at hc
       . cases hc;simp[bc.bG]at hh
       . cases hc
     . cases hc
   . -- clear
     split at hc
     . split at hc
       . split at hc
         . cases hc;simp[bc.bG]at hh
         . cases hc
       . cases hc
     . cases hc
   . -- unsafe.SliceData
     rename_i t x h1 h2
     obtain rfl:=gJ h1
     obtain⟨x0,hx0,h3⟩:=oC h2
     obtain rfl:=gJ hx0
     split at hc <;> try (cases hc;done)
     rename_i e hu
     cases hc
     simp only[aV]at hv
     split at hv <;> try (cases hv;done)
     . rename_i h4
       cases hv
       have e0:=r.aa h3 h4
       generalize hxv:a.eval x0=xv at e0
       cases e0
       refine⟨.pointer none,?_,.dh⟩
       rw[gu]
       simp[builtin,hxv,Lib.run_unsafeSliceData_nil]
     . rename_i b o len es cap h4
       cases hv
       have e0:=r.aa h3 h4
       generalize hxv:a.eval x0=xv at e0
       cases e0 with
       | @sl _ c d _ _ _ capC _ h hl hcap hb=>
        have hc0:capC≠0:=by omega
        refine⟨_,?_,.ptr o h⟩
        rw[gu]
        simp[builtin,hxv,Lib.run_unsafeSliceData_row (P:=C.P) w _ _ _ _ _ hc0]
       | @dZ _ _ _ _ capC _ c o' h hl hcap=>
        have hc0:capC≠0:=by omega
        refine⟨_,?_,.dO o c o' h⟩
        rw[gu]
        simp[builtin,hxv,Lib.run_unsafeSliceData_row (P:=C.P) w _ _ _ _ _ hc0]
   . -- unsafe.String
     split at hc
     . split at hc
       . cases hc;simp[bc.bG]at hh
       . cases hc
     . cases hc
   . -- max
     rename_i xs h2
     cases hc
     simp only[aV]at hv
     split at hv <;> try (cases hv;done)
     rename_i k n rest h4
     obtain⟨y,m',he,hy,hl⟩:=(r.ck h2 h4).cons_inv
     obtain rfl:=hy.fS
     obtain⟨v',h5,h6⟩:=yg (P:=C.P) true rest m' k n v hl hv
     refine⟨v',?_,h6⟩
     rw[gu]
     simp only[if_true]at h5
     simp[builtin,Builtin.max_,he,h5]
   . rename_i xs h2
     cases hc
     simp only[aV]at hv
     split at hv <;> try (cases hv;done)
     rename_i k n rest h4
     obtain⟨y,m',he,hy,hl⟩:=(r.ck h2 h4).cons_inv
     obtain rfl:=hy.fS
     obtain⟨v',h5,h6⟩:=yg (P:=C.P) false rest m' k n v hl hv
     refine⟨v',?_,h6⟩
     rw[gu]
     simp only[Bool.false_eq_true,if_false]at h5
     simp[builtin,Builtin.min_,he,h5]
 all_goals exfalso
 case next x b=>cases b <;> simp at hc;obtain⟨_,_,rfl⟩:=hc;simp[bc.bG]at hh
 case makeMap t r=>cases r <;> simp at hc;subst hc;simp[bc.bG]at hh
 all_goals first
  | (cases hc;done)
  | (simp only[Option.map_eq_some_iff]at hc;obtain⟨_,_,rfl⟩:=hc;simp[bc.bG]at hh;done)
  | (cases hc;simp[bc.bG]at hh;done)
  | (
     repeat' (split at hc)
     all_goals first
      | (cases hc;done)
      | (cases hc;simp[bc.bG]at hh;done)
      | (simp only[Option.map_eq_some_iff]at hc;obtain⟨_,_,rfl⟩:=hc;simp[bc.bG]at hh;done))
end Go.Ab

/-
  Own work: the operations that look at the heap: what the abstract machine reckons is what the model gives.
-/
namespace Go.Ab
variable {c:Nat} {cs:Array Value} {e:TypeId} {O:Obj} {fr:Nat×Nat}
variable {P:Program} {gl:Nat->Option AV} {ρ:az} {w:World} {h:ae}
def ec (P:Program)(gl:Nat->Option AV)(ρ:az)(h:ae)(w:World)(r:HR)(v':Value)(w':World):Prop:=
 ∃ρ',V ρ' w' r.v v'/\Mem P gl ρ' r.h w'/\Ext h r.h ρ ρ' w w'
theorem VL.toList {l:List AV}{m:Array Value}(hl:VL ρ w l m.toList):l.length=m.size:=by rw[hl.length];simp
theorem ML {i:Nat}(h:w.heap[c]? = some (.cells cs e (0,0))):w.frozen? ⟨c,i,none⟩=false:=by
 unfold World.frozen?;rw[h];simp
theorem Ek (m:Mem P gl ρ h w){l:List AV}{cs:Array Value}(e:TypeId)(hl:VL ρ w l (cs.toList.take l.length))(hlen:l.length<=cs.size)(hex:iT P e=true->l.length=cs.size) :
 Mem P gl (ρ.dz h.length (.live w.heap.size 0)) (h++[some (.cells l e)]) { w with heap:=w.heap.push (.cells cs e) } /\
 Ext h (h++[some (.cells l e)]) ρ (ρ.dz h.length (.live w.heap.size 0)) w { w with heap:=w.heap.push (.cells cs e) }:=by
 have x:=Ext.alloc m (some (.cells l e)) (.cells cs e) (.live w.heap.size 0) (.inl ⟨0,rfl⟩)
 refine⟨Mem.alloc m _ _ _ (.inl ⟨0,rfl⟩) ?_,x⟩
 intro o' ho
 cases ho
 refine .inl ⟨w.heap.size,0,cs,(0,0),az.dD _ _ _,by simp,⟨by omega,fun he=>⟨rfl,hex he⟩⟩,fun i _=>ML (cs:=cs) (e:=e) (by simp),fun i a y hx hy=>?_⟩
 have hi:i<l.length:=(List.getElem?_eq_some_iff.1 hx).1
 refine(hl.2 i a y hx ?_).mono x
 rw[List.getElem?_take,if_pos hi]
 simpa using hy
theorem MM (m:Mem P gl ρ h w){l:List AV}{cs:Array Value}(e:TypeId)(hl:VL ρ w l cs.toList) :
 Mem P gl (ρ.dz h.length (.live w.heap.size 0)) (h++[some (.cells l e)]) { w with heap:=w.heap.push (.cells cs e) } /\
 Ext h (h++[some (.cells l e)]) ρ (ρ.dz h.length (.live w.heap.size 0)) w { w with heap:=w.heap.push (.cells cs e) }:=
 Ek m e (by rw[hl.length,List.take_length];exact hl) (by rw[hl.toList];exact Nat.le_refl _) (fun _=>hl.toList)
theorem yi {len esz capC:Nat}{cap:Option Nat}(hl:len<=capC)(hcap:∀n,cap=some n->capC=n)(hb:capC*esz<=cs.size) :
 V (ρ.dz h.length (.live w.heap.size 0)) { w with heap:=w.heap.push (.cells cs e) } (.sl h.length 0 len esz cap) (.slice (some ⟨w.heap.size,0,none⟩) len capC):=
 V.sl (d:=0) (az.dD _ _ _) hl hcap ⟨cs,e,(0,0),by simp,by omega⟩
theorem yj:V (ρ.dz h.length (.live w.heap.size 0)) { w with heap:=w.heap.push O } (.ptr h.length 0) (.pointer (some ⟨w.heap.size,0,none⟩)):=
 V.ptr (d:=0) 0 (az.dD _ _ _)
theorem readable (m:Mem P gl ρ h w){x:AV}{x':Value}(hx:V ρ w x x'){l:List AV}(hr:fj h x=some l) :
 ∃(c o:Nat) (g:Nat->Value),x' = .pointer (some ⟨c,o,none⟩)/\∀(i:Nat) y,l[i]? = some y->w.cell? ⟨c,o+i,none⟩=some (g i)/\V ρ w y (g i):=by
 cases x <;> simp only[fj,reduceCtorEq]at hr
 case ptr b off=>
  obtain⟨l0,e,hb',rfl⟩:∃l0 e,h[b]? = some (some (.cells l0 e))/\l0.drop off=l:=by
   unfold ae.at at hr
   cases hq:h[b]? with
   | none=>simp[hq]at hr
   | some q=>
    cases q with
    | none=>simp[hq]at hr
    | some o=>cases o <;> simp[hq]at hr;exact⟨_,_,rfl,hr⟩
  rcases m.cS b _ hb' with ⟨c,d,cs,fr,h1,h2,h3,h4,h5⟩|⟨h1,h2⟩
  . cases hx with
    | ptr _ hρ=>
     rw[h1]at hρ;cases hρ
     refine⟨c,off+d,fun i=>cs.getD (off+d+i) undef,rfl,fun i y hy=>?_⟩
     have hy':l0[off+i]? = some y:=by simpa using hy
     have hlt:off+i<l0.length:=(List.getElem?_eq_some_iff.1 hy').1
     have hcs:cs[off+i+d]? = some (cs.getD (off+d+i) undef):=by
      have:off+d+i=off+i+d:=by omega
      rw[this]
      have hlt':off+i+d<cs.size:=by have:=h3.1;omega
      simp[hlt']
     refine⟨?_,h5 (off+i) y _ hy' hcs⟩
     unfold World.cell?
     simp only[h2]
     rw[if_neg (by simp),show off+d+i=off+i+d from by omega]
     rw[show off+d+i=off+i+d from by omega]at hcs
     exact hcs
    | dO _ _ _ hρ=>rw[h1]at hρ;cases hρ
  . subst h2
    cases hx with
    | ptr _ hρ=>rw[h1]at hρ;cases hρ
    | dO _ _ _ hρ=>rw[h1]at hρ;cases hρ
 case vp l0=>
  cases hr
  cases hx with
  | vp c o g hf hc hg=>
   exact⟨c,o,g,rfl,fun i y hy=>⟨hc i (List.getElem?_eq_some_iff.1 hy).1,hg i y hy⟩⟩
theorem run_loadCellsFrom {c o:Nat}{g:Nat->Value}:∀(n i:Nat) (acc:Array Value),(∀j,i<=j->j<i+n->w.cell? ⟨c,o+j,none⟩=some (g j)) ->
 (loadCellsFrom ⟨c,o,none⟩ i n acc).run P w = .ok (acc++((List.range' i n).map g).toArray) w
 | 0,i,acc,_=>by simp[loadCellsFrom]
 | n+1,i,acc,hc=>by
  have h0:=hc i (Nat.le_refl _) (by omega)
  simp only[loadCellsFrom,Sem.run_bind,Addr.gr,run_load,h0,Result.andThen_ok]
  rw[run_loadCellsFrom n (i+1) _ (fun j h1 h2=>hc j (by omega) (by omega))]
  simp[List.range'_succ]
theorem El {t:TypeId}{n:Nat}{ag:Bool}(hs:shapeOf P t=some (n,ag)){c o:Nat}{g:Nat->Value}{l:List AV}
 (hr:∀(i:Nat) y,l[i]? = some y->w.cell? ⟨c,o+i,none⟩=some (g i)/\V ρ w y (g i)) {v:AV} (hv:partOf l 0 n ag=some v) :
 ∃v',(loadVar t ⟨c,o,none⟩).run P w = .ok v' w/\V ρ w v v':=by
 obtain⟨i,d,h1,h2,rfl,rfl⟩:=qR hs
 unfold partOf at hv
 simp only[loadVar,Sem.run_bind,DY h2,Result.andThen_ok]
 split at hv
 . rename_i hag
   simp only[Option.map_eq_some_iff]at hv
   obtain⟨r,hr',rfl⟩:=hv
   unfold cut at hr'
   simp only[List.drop_zero]at hr'
   split at hr'
   . rename_i hl
     cases hr'
     have hl':i.size<=l.length:=by simp at hl;omega
     rw[if_pos hag]
     have hrun:=run_loadCellsFrom (P:=P) (w:=w) (c:=c) (o:=o) (g:=g) i.size 0 #[] (fun j _ hj=>by
      have hj':j<l.length:=by omega
      exact(hr j l[j] (List.getElem?_eq_getElem hj')).1)
     refine⟨.agg ((List.range' 0 i.size).map g).toArray,?_,V.qP ⟨by simp;omega,fun j x y hx hy=>?_⟩⟩
     . simp only[Sem.run_bind,gq h1,Result.andThen_ok,loadCells,hrun]
       simp
     . rw[List.getElem?_take]at hx
       split at hx
       . rename_i hj
         have:=(hr j x hx).2
         rw[List.getElem?_map,List.getElem?_range' hj]at hy
         simp at hy
         subst hy
         exact this
       . cases hx
   . cases hr'
 . rename_i hag
   rw[if_neg hag]
   obtain⟨h3,h4⟩:=hr 0 v hv
   refine⟨g 0,?_,h4⟩
   simp only[Nat.add_zero]at h3
   simp only[run_load,h3]
theorem MN {x:AV}{v:Value}(hx:V ρ w x v)(h:cR x=true):v.oneCell'=true:=by
 cases hx <;> first|rfl|(simp[cR]at h)
theorem MO {o:Nat}(h:w.heap[c]? = some (.cells cs e fr)):w.cell? ⟨c,o,none⟩=cs[o]? := by
 unfold World.cell?;simp[h]
theorem MP {o:Nat}(h:w.heap[c]? = some (.cells cs e fr))(v:Value) :
 w.setCell ⟨c,o,none⟩ v=w.da c (.cells (cs.setIfInBounds o v) e fr):=by
 have hlt:=(Array.getElem?_eq_some_iff.1 h).1
 have hg:=(Array.getElem?_eq_some_iff.1 h).2
 unfold World.setCell World.da
 congr 1
 apply Array.ext_getElem?
 intro i
 rw[Array.getElem?_modify,Array.getElem?_setIfInBounds]
 by_cases hi:c=i
 . subst hi
   simp[hlt,hg]
 . rw[if_neg hi,if_neg hi]
theorem MQ {O':Obj}:(w.da c O).da c O'=w.da c O':=by
 unfold World.da
 simp
theorem MR (h:w.heap[c]? = some O):w.da c O=w:=by
 have hlt:=(Array.getElem?_eq_some_iff.1 h).1
 have hg:=(Array.getElem?_eq_some_iff.1 h).2
 unfold World.da
 have:w.heap.setIfInBounds c O=w.heap:=by
  apply Array.ext_getElem?
  intro i
  rw[Array.getElem?_setIfInBounds]
  by_cases hi:c=i
  . subst hi;simp[hlt,hg]
  . rw[if_neg hi]
 rw[this]
theorem Em {i:Nat}{cs':Array Value}(h:w.heap[c]? = some (.cells cs e fr)) :
 (w.da c (.cells cs' e fr)).frozen? ⟨c,i,none⟩=w.frozen? ⟨c,i,none⟩:=by
 unfold World.frozen?
 rw[mI (Array.getElem?_eq_some_iff.1 h).1,h]
theorem En {c o:Nat}{e:TypeId}{fr:Nat×Nat}:∀(vs:List Value) (i:Nat) (w:World) (cs:Array Value),w.heap[c]? = some (.cells cs e fr)->o+i+vs.length<=cs.size ->
 (∀j,j<cs.size->w.frozen? ⟨c,j,none⟩=false)->(∀v∈vs,v.oneCell'=true) ->
 (storeCells ⟨c,o,none⟩ vs i).run P w = .ok () (w.da c (.cells (ow cs.toList (o+i) vs).toArray e fr))
 | [],i,w,cs,h,_,_,_=>by
  simp only[storeCells,Sem.run_pure]
  have:ow cs.toList (o+i) []=cs.toList:=by simp[ow]
  rw[this,Array.toArray_toList,MR h]
 | v::vs,i,w,cs,h,hl,hf,hv=>by
  simp only[List.length_cons]at hl
  simp only[storeCells,Sem.run_bind,Addr.gr]
  have hlt:o+i<cs.size:=by omega
  rw[run_store P w _ v .plain (hv v (by simp)),MO h]
  rw[show cs[o+i]? = some cs[o+i] from by simp[hlt]]
  simp only[hf _ hlt,Bool.false_eq_true,if_false,Result.andThen_ok]
  rw[MP h]
  have hc:=(Array.getElem?_eq_some_iff.1 h).1
  have hf':∀j,j<cs.size->(w.da c (.cells (cs.setIfInBounds (o+i) v) e fr)).frozen? ⟨c,j,none⟩=false:=fun j hj=>by rw[Em h];exact hf j hj
  rw[En vs (i+1) _ (cs.setIfInBounds (o+i) v) (mI hc) (by simp;omega) (by simpa using hf') (fun u hu=>hv u (by simp[hu]))]
  rw[MQ]
  have e1:(ow (cs.setIfInBounds (o+i) v).toList (o+(i+1)) vs)=ow cs.toList (o+i) (v::vs):=by
   rw[Eh (by simp;omega),Array.toList_setIfInBounds]
   rfl
  rw[e1]
theorem km (m:Mem P gl ρ h w){b:Nat}{l:List AV}{e:TypeId}(hb:h.at b=some (.cells l e)) :
 h[b]? = some (some (.cells l e))/\BR P gl ρ w b (.cells l e):=by
 have:h[b]? = some (some (.cells l e)):=by
  unfold ae.at at hb
  cases hq:h[b]? with
  | none=>simp[hq]at hb
  | some q=>simp[hq]at hb;rw[hb]
 exact⟨this,m.cS b _ this⟩
theorem oE {b:Nat}{o:bA}(hb:h.at b=some o):h[b]? = some (some o):=by
 unfold ae.at at hb
 cases hq:h[b]? with
 | none=>simp[hq]at hb
 | some q=>simp[hq]at hb;rw[hb]
theorem qX (m:Mem P gl ρ h w){b:Nat}{l:List AV}{e:TypeId}(hb:h.at b=some (.cells l e)){c d:Nat}(hρ:ρ b = .live c d){off:Nat}{new:List AV}{nv:List Value}(hn:VL ρ w new nv)
 (hoff:off<=l.length) (hlen:∀cs e' fr,w.heap[c]? = some (.cells cs e' fr)->off+d+new.length<=cs.size) (hone:new.all cR=true) :
 ∃w',(storeCells ⟨c,off+d,none⟩ nv).run P w = .ok () w'/\Mem P gl ρ (h.put b (some (.cells (overwrite l off new) e))) w'/\Ext h (h.put b (some (.cells (overwrite l off new) e))) ρ ρ w w':=by
 obtain⟨h0,hbr⟩:=km m hb
 rcases hbr with ⟨c',d',cs,fr,h1,h2,h3,h4,h5⟩|⟨h1,_⟩
 . rw[hρ]at h1;cases h1
   have hone':∀v∈nv,v.oneCell'=true:=by
    intro v hv
    obtain⟨i,hi,rfl⟩:=List.mem_iff_getElem.1 hv
    have hi':i<new.length:=by rw[hn.length];exact hi
    have ho:cR new[i]=true:=List.all_eq_true.1 hone _ (List.getElem_mem hi')
    exact MN (hn.2 i new[i] nv[i] (List.getElem?_eq_getElem hi') (List.getElem?_eq_getElem hi)) ho
   have hlen':off+d+nv.length<=cs.size:=by rw[←hn.length];exact hlen cs e fr h2
   have hrun:=En (P:=P) (c:=c) (o:=off+d) (e:=e) (fr:=fr) nv 0 w cs h2 (by omega) h4 hone'
   simp only[Nat.add_zero]at hrun
   have hsz:(ow cs.toList (off+d) nv).toArray.size=cs.size:=by
    have:=MC (m:=cs.toList) (new:=nv) (off:=off+d) (by simpa using hlen')
    simpa using this
   have hO:∀cs0 e0 fr0,w.heap[c]? = some (.cells cs0 e0 fr0)->∃cs' fr',Obj.cells (ow cs.toList (off+d) nv).toArray e fr = .cells cs' e0 fr'/\cs'.size=cs0.size:=by
    intro cs0 e0 fr0 hq
    rw[h2]at hq;cases hq
    exact⟨_,_,rfl,hsz⟩
   have x:=Ext.write m h0 hρ (some (.cells (overwrite l off new) e)) (.cells (ow cs.toList (off+d) nv).toArray e fr) hO
   refine⟨_,hrun,?_,x⟩
   refine Mem.write m h0 hρ _ _ hO ?_
   intro o' ho;cases ho
   have hc:=m.bound _ _ _ hρ
   have hle:Fits P e d (overwrite l off new).length cs.size:=by
    have h9:=hn.length
    have Eo:=h3.1
    refine⟨by simp[overwrite];omega,fun he=>?_⟩
    have yk:=h3.2 he
    refine⟨yk.1,?_⟩
    simp[overwrite];omega
   refine .inl ⟨c,d,_,fr,hρ,mI hc,by rw[hsz];exact hle,fun i hi=>by rw[Em h2];exact h4 i (by rw[hsz]at hi;exact hi),fun i x' y hx hy=>?_⟩
   refine V.mono x ?_
   have hy':(ow cs.toList (off+d) nv)[i+d]? = some y:=by simpa using hy
   unfold overwrite at hx
   unfold ow at hy'
   have hnl:=hn.length
   simp only[List.getElem?_append,List.length_append,List.length_take,List.getElem?_take,List.getElem?_drop]at hx hy'
   have t1:min off l.length=off:=by omega
   have t2:min (off+d) cs.toList.length=off+d:=by simp;omega
   rw[t1]at hx
   rw[t2]at hy'
   by_cases k1:i<off
   . rw[if_pos (by omega),if_pos k1,if_pos k1]at hx
     rw[if_pos (by omega),if_pos (by omega),if_pos (by omega)]at hy'
     exact h5 i x' y hx (by simpa using hy')
   . by_cases k2:i<off+new.length
     . rw[if_pos (by omega),if_neg k1]at hx
       rw[if_pos (by omega),if_neg (by omega)]at hy'
       rw[show i+d-(off+d)=i-off from by omega]at hy'
       exact hn.2 _ x' y hx hy'
     . rw[if_neg (by omega)]at hx
       rw[if_neg (by omega)]at hy'
       rw[show off+new.length+(i-(off+new.length))=i from by omega]at hx
       rw[show off+d+nv.length+(i+d-(off+d+nv.length))=i+d from by omega]at hy'
       exact h5 i x' y hx (by simpa using hy')
 . rw[hρ]at h1;cases h1
end Go.Ab

/-
  Own work: append.
-/
namespace Go.Ab
variable {P:Program} {gl:Nat->Option AV} {ρ:az} {w:World} {h:ae}
theorem run_loadCells {c o:Nat}{g:Nat->Value}{l:List AV}(hr:∀(i:Nat) y,l[i]? = some y->w.cell? ⟨c,o+i,none⟩=some (g i)/\V ρ w y (g i)){k:Nat}(hk:k<=l.length) :
 ∃cs:List Value,(loadCells ⟨c,o,none⟩ k).run P w = .ok cs.toArray w/\VL ρ w (l.take k) cs:=by
 have hrun:=run_loadCellsFrom (P:=P) (w:=w) (c:=c) (o:=o) (g:=g) k 0 #[] (fun j _ hj=>by
  have hj':j<l.length:=by omega
  exact(hr j l[j] (List.getElem?_eq_getElem hj')).1)
 refine⟨(List.range' 0 k).map g,by simpa[loadCells] using hrun,by simp;omega,fun j x y hx hy=>?_⟩
 rw[List.getElem?_take]at hx
 split at hx
 . rename_i hj
   have:=(hr j x hx).2
   rw[List.getElem?_map,List.getElem?_range' hj]at hy
   simp at hy
   subst hy
   exact this
 . cases hx
theorem MS (m:Mem P gl ρ h w){b:Nat}{l:List AV}{e:TypeId}(hb:h.at b=some (.cells l e)){c d:Nat}(hρ:ρ b = .live c d)(off:Nat) :
 ∃g:Nat->Value,∀(i:Nat) y,(l.drop off)[i]? = some y->w.cell? ⟨c,off+d+i,none⟩=some (g i)/\V ρ w y (g i):=by
 have hx:V ρ w (.ptr b off) (.pointer (some ⟨c,off+d,none⟩)):=.ptr off hρ
 have hr:fj h (.ptr b off)=some (l.drop off):=by simp[fj,hb]
 obtain⟨c',o',g,he,hg⟩:=readable m hx hr
 cases he
 exact⟨g,hg⟩
theorem Ep:∀(s:List UInt8),VL ρ w (s.map fun c=>AV.int .u8 c.toNat) (s.map fun c=>Value.int .u8 c.toNat)
 | []=>.nil
 | _::s=>.cons (.int _ _) (Ep s)
theorem kY (m:Mem P gl ρ h w){x:AV}{x':Value}(hx:V ρ w x x'){l:List AV}{n:Nat}(hs:eL h x=some (l,n)){size:Nat}(hl:l.length=n*size) :
 (Builtin.lenOf x').run P w = .ok n w/\∀k,k<=n->∃cs:List Value,(Builtin.firstCells size k x').run P w = .ok cs.toArray w/\VL ρ w (l.take (k*size)) cs:=by
 cases x <;> simp only[eL,reduceCtorEq,Option.some.injEq,Prod.mk.injEq]at hs
 case str s=>
  obtain⟨rfl,rfl⟩:=hs
  obtain rfl:=hx.jl
  by_cases hs0:s=[]
  . subst hs0
    exact⟨rfl,fun k hk=>⟨[],by simp only[Builtin.firstCells,Sem.run_pure];rw[ye];simp,by simpa using VL.nil⟩⟩
  obtain rfl:size=1:=by
   have h1:0<s.length:=List.length_pos_iff.2 hs0
   have h2:s.length*1=s.length*size:=by simpa using hl
   exact(Nat.eq_of_mul_eq_mul_left h1 h2).symm
  refine⟨by simp[Builtin.lenOf,ByteArray.size],fun k hk=>⟨(s.take k).map fun c=>Value.int .u8 c.toNat,?_,?_⟩⟩
  . simp only[Builtin.firstCells,Sem.run_pure]
    congr 1
    rw[ye]
    simp
  . rw[Nat.mul_one,←List.map_take]
    exact Ep _
 case ah=>
  obtain⟨rfl,rfl⟩:=hs
  cases hx
  exact⟨rfl,fun k _=>⟨[],rfl,by simpa using VL.nil⟩⟩
 case vs l0 len cap=>
  obtain⟨rfl,rfl⟩:=hs
  cases hx with
  | vs c o g hf hlc hcap hc hg=>
   refine⟨rfl,fun k hk=>?_⟩
   have hk':k*size<=l0.length:=by rw[hl];exact Nat.mul_le_mul_right _ hk
   exact run_loadCells (P:=P) (fun i y hy=>⟨hc i (List.getElem?_eq_some_iff.1 hy).1,hg i y hy⟩) hk'
  | dT hcap=>exact⟨rfl,fun k _=>⟨[],rfl,by simpa using VL.nil⟩⟩
  | fm a hcap=>exact⟨rfl,fun k hk=>⟨[],by rw[Nat.le_zero.1 hk];(simp only[Builtin.firstCells,loadCells,Nat.zero_mul];rfl),by simpa using VL.nil⟩⟩
 case sl b off len esz cap=>
  split at hs
  . rename_i l0 e hb
    simp only[Option.map_eq_some_iff,Prod.mk.injEq]at hs
    obtain⟨r,hcut,rfl,rfl⟩:=hs
    unfold cut at hcut
    simp only at hcut
    split at hcut
    . rename_i hlen
      cases hcut
      obtain⟨h0,hbr⟩:=km m hb
      have hln:len*esz=len*size:=by rw[←hlen,hl]
      cases hx with
      | @sl _ c d _ _ _ capC _ hρ hlc hcap hs=>
       refine⟨rfl,fun k hk=>?_⟩
       obtain⟨g,hg⟩:=MS m hb hρ off
       have hk':k*size<=(l0.drop off).length:=by
        have:(List.take (len*esz) (List.drop off l0)).length<=(l0.drop off).length:=by rw[List.length_take];omega
        have h3:k*size<=len*size:=Nat.mul_le_mul_right _ hk
        omega
       obtain⟨cs,h1,h2⟩:=run_loadCells (P:=P) hg hk'
       refine⟨cs,h1,?_⟩
       rw[List.take_take,Nat.min_eq_left (by rw[hln];exact Nat.mul_le_mul_right _ hk)]
       exact h2
      | fk hρ=>exact⟨rfl,fun k _=>⟨[],rfl,by simp at hlen ⊢;exact VL.nil⟩⟩
      | dZ _ _ hρ _ _=>rcases hbr.live with ⟨c,d,hl'⟩|hl'|hl' <;> (rw[hρ]at hl';cases hl')
      | ff hρ=>rcases hbr.live with ⟨c,d,hl'⟩|hl'|hl' <;> (rw[hρ]at hl';cases hl')
      | fl a hρ=>rcases hbr.live with ⟨c,d,hl'⟩|hl'|hl' <;> (rw[hρ]at hl';cases hl')
    . cases hcut
  . split at hs
    . rename_i hn
      subst hn
      cases hs
      cases hx with
      | sl hρ hlc hcap hs=>exact⟨rfl,fun k hk=>run_loadCells (P:=P) (g:=fun _=>.bool false) (l:=[]) (fun i y hy=>by simp at hy) (by rw[Nat.le_zero.1 hk];simp)⟩
      | fk hρ=>exact⟨rfl,fun k _=>⟨[],rfl,by simpa using VL.nil⟩⟩
      | dZ _ _ hρ _ _=>exact⟨rfl,fun k hk=>run_loadCells (P:=P) (g:=fun _=>.bool false) (l:=[]) (fun i y hy=>by simp at hy) (by rw[Nat.le_zero.1 hk];simp)⟩
      | ff hρ=>exact⟨rfl,fun k _=>⟨[],rfl,by simpa using VL.nil⟩⟩
      | fl a hρ=>exact⟨rfl,fun k hk=>⟨[],by rw[Nat.le_zero.1 hk];(simp only[Builtin.firstCells,loadCells,Nat.zero_mul];rfl),by simpa using VL.nil⟩⟩
    . cases hs
theorem Er (n:Nat):∀(k c:Nat),256<=c->c<=2*n->Builtin.growBy n k c<=2*n
 | 0,c,_,h=>h
 | k+1,c,h0,h=>by
  simp only[Builtin.growBy]
  split
  . exact h
  . exact Er n k _ (by omega) (by omega)
theorem MT {n c:Nat}(h:c<n):Builtin.nextslicecap n c<=2*n:=by
 unfold Builtin.nextslicecap
 split
 . omega
 . split
   . omega
   . exact Er n 4 c (by omega) (by omega)
theorem MU (z:Array Value)(n:Nat):(Builtin.zeroCells z n).size=n*z.size:=by simp[Builtin.zeroCells]
structure yl (P:Program)(t u elem:TypeId)(i:TypeInfo)(z:Value):Prop where
 ht:P.underlying t=some (.slice elem)
 hu:(∃e,P.underlying u=some (.slice e))\/P.underlying u=some .string
 hi:P.info? elem=some i
 hz:i.zero=some z
 hs:z.cells.size=i.size
theorem yn {t u ty elem:TypeId}{i:TypeInfo}{z:Value}(ht:yl P t u elem i z){base:Option Addr}{len capC n:Nat}{y':Value}{new:Array Value}{w':World}
 (hn:(Builtin.lenOf y').run P w = .ok n w) (hf:(Builtin.firstCells i.size n y').run P w = .ok new w) (hle:len+n<=capC)
 (hs:(match base with|some a=>storeCells (a.add (len*i.size)) new.toList|none=>pure ():Sem Unit).run P w = .ok () w') :
 (Builtin.append_ #[t,u] ty #[.slice base len capC,y']).run P w = .ok (.slice base (len+n) capC) w':=by
 obtain⟨h1,h2,h3,h4,h5⟩:=ht
 rcases h2 with ⟨e,h2⟩|h2
 all_goals
  cases base with
  | none=>
   simp only[Sem.run_pure,Result.ok.injEq,true_and]at hs
   subst hs
   simp[Builtin.append_,bQ h1,bQ h2,sizeOf,typeInfo,h3,hn,hf,hle]
  | some a=>
   simp only at hs
   simp[Builtin.append_,bQ h1,bQ h2,sizeOf,typeInfo,h3,hn,hf,hle,hs]
theorem MV {t u ty elem:TypeId}{i:TypeInfo}{z:Value}(ht:yl P t u elem i z){base:Option Addr}{len capC n:Nat}{y':Value}{bS new:Array Value}
 (hn:(Builtin.lenOf y').run P w = .ok n w) (hlt:capC<len+n) (hb:0<i.bytes) (hr:(len+n)*i.bytes<=dX)
 (ho:(Builtin.firstCells i.size len (.slice base len capC)).run P { w with drawn:=w.drawn+1 } = .ok bS { w with drawn:=w.drawn+1 })
 (hf:(Builtin.firstCells i.size n y').run P { w with drawn:=w.drawn+1 } = .ok new { w with drawn:=w.drawn+1 }) :
 ∃cap,len+n<=cap/\(Builtin.append_ #[t,u] ty #[.slice base len capC,y']).run P w =
  .ok (.slice (some ⟨w.heap.size,0,none⟩) (len+n) cap) { w with drawn:=w.drawn+1,heap:=w.heap.push (.cells (bS++new++Builtin.zeroCells z.cells (cap-(len+n))) elem) }:=by
 obtain⟨h1,h2,h3,h4,h5⟩:=ht
 have hle:¬(len+n<=capC):=by omega
 have hroom:dX=70368744177664:=by decide
 have hN:len+n<=dX:=Nat.le_trans (Nat.le_mul_of_pos_right _ hb) hr
 have h48:¬(281474976710656<Builtin.nextslicecap (len+n) capC*i.bytes):=by
  have:=Nat.mul_le_mul_right i.bytes (MT hlt)
  rw[Nat.mul_assoc]at this
  omega
 have hb':i.bytes≠0:=by omega
 refine⟨(Question.appendCap (len+n) capC elem).cut (w.tape w.drawn (.appendCap (len+n) capC elem)),by simp[Question.cut],?_⟩
 have ho':(Builtin.firstCells i.size len (.slice base len capC)).run P w.drew = .ok bS w.drew:=ho
 have hf':(Builtin.firstCells i.size n y').run P w.drew = .ok new w.drew:=hf
 rcases h2 with ⟨e,h2⟩|h2
 all_goals
  simp[Builtin.append_,bQ h1,bQ h2,sizeOf,typeInfo,zeroValue,h3,h4,hn,hle,h48,hb',Question.forced,newRow,ho',hf']
  rfl
theorem VL.MW {l:List AV}{m m':List Value}(h:VL ρ w l (m.take l.length)):VL ρ w l ((m++m').take l.length):=by
 rw[List.take_append_of_le_length]
 . exact h
 . have:=h.length
   simp at this
   omega
theorem MX {h0:List (Option bA)}{n:Nat}(hn:h0.length=n)(x y:Option bA):ae.put (h0++[x]) n y=h0++[y]:=by
 subst hn
 unfold ae.put
 rw[List.set_append_right _ _ (Nat.le_refl _)]
 simp
theorem MY (m:Mem P gl ρ h w){t u ty elem:TypeId}{i:TypeInfo}{z:Value}(ht:yl P t u elem i z){x y:AV}{x' y':Value}(hx:V ρ w x x')(hy:V ρ w y y')
 (hne:iT P elem=false) {r:HR} (ha:jh elem i.size i.bytes h x y=some r) :
 ∃v' w',(Builtin.append_ #[t,u] ty #[x',y']).run P w = .ok v' w'/\ec P gl ρ h w r v' w':=by
 unfold jh at ha
 split at ha
 . cases ha
 . rename_i new n hsc
   split at ha
   . rename_i hcond
     obtain⟨hnl,hb,hone⟩:=hcond
     obtain⟨hlen,hfirst⟩:=kY m hy hsc hnl
     obtain⟨hlen',hfirst'⟩:=kY (m.drew (w.drawn+1)) (hy.mono (Ext.drew h ρ w _)) hsc hnl
     obtain⟨nv,hf,fA⟩:=hfirst n (Nat.le_refl _)
     obtain⟨nv',hf',hnv'⟩:=hfirst' n (Nat.le_refl _)
     rw[←hnl,List.take_length]at fA hnv'
     -- nothing is appended
     have none_case:n=0->(∃base len capC,x' = .slice base len capC/\len<=capC)->r=⟨x,h,[]⟩->∃v' w',(Builtin.append_ #[t,u] ty #[x',y']).run P w = .ok v' w'/\ec P gl ρ h w r v' w':=by
      rintro rfl ⟨base,len,capC,rfl,hlc⟩ rfl
      have hnv0:nv=[]:=by
       have:=fA.length;rw[hnl,Nat.zero_mul]at this;exact List.length_eq_zero_iff.1 this.symm
      subst hnv0
      refine⟨_,w,yn ht hlen hf (by omega) ?_,ρ,by simpa using hx,m,Ext.refl _ _ _⟩
      cases base <;> simp[storeCells]
     -- a new array
     have new_case:∀(base:Option Addr) (len capC:Nat) (oldl:List AV) (bS:List Value) (h0:ae) (ρ0:az),x' = .slice base len capC->capC<len+n->(len+n)*i.bytes<=dX->oldl.length=len*i.size ->
      (Builtin.firstCells i.size len x').run P { w with drawn:=w.drawn+1 } = .ok bS.toArray { w with drawn:=w.drawn+1 } ->
      Mem P gl ρ0 h0 { w with drawn:=w.drawn+1 }->Ext h h0 ρ ρ0 w { w with drawn:=w.drawn+1 }->VL ρ0 { w with drawn:=w.drawn+1 } oldl bS->VL ρ0 { w with drawn:=w.drawn+1 } new nv'->h0.length=h.length ->
      ∀wr,r=⟨.sl h.length 0 (len+n) i.size none,h0++[some (.cells (oldl++new) elem)],wr⟩ ->
      ∃v' w',(Builtin.append_ #[t,u] ty #[x',y']).run P w = .ok v' w'/\ec P gl ρ h w r v' w':=by
      rintro base len capC oldl bS h0 ρ0 rfl hlt hroom hol hfo m0 x0 ho hn0 hl0 wr rfl
      obtain⟨cap,hcap,hrun⟩:=MV (ty:=ty) ht hlen hlt hb hroom hfo hf'
      refine⟨_,_,hrun,?_⟩
      have e1:=ho.length
      have e2:=hn0.length
      have hcs:(bS.toArray++nv'.toArray++Builtin.zeroCells z.cells (cap-(len+n))).size=(oldl++new).length+(cap-(len+n))*i.size:=by
       rw[Array.size_append,MU,ht.hs]
       simp;omega
      have hvl:VL ρ0 { w with drawn:=w.drawn+1 } (oldl++new) ((bS.toArray++nv'.toArray++Builtin.zeroCells z.cells (cap-(len+n))).toList.take (oldl++new).length):=by
       have h9:=ho.append hn0
       have e9:=h9.length
       rw[show (bS.toArray++nv'.toArray++Builtin.zeroCells z.cells (cap-(len+n))).toList=(bS++nv')++(Builtin.zeroCells z.cells (cap-(len+n))).toList from by simp]
       refine VL.MW ?_
       rw[e9,List.take_length]
       exact h9
      obtain⟨m1,x1⟩:=Ek m0 (l:=oldl++new) (cs:=bS.toArray++nv'.toArray++Builtin.zeroCells z.cells (cap-(len+n))) elem hvl (by rw[hcs];omega) (fun he=>by rw[hne]at he;cases he)
      rw[←hl0]
      refine⟨_,yi hcap (by simp) ?_,m1,x0.trans x1⟩
      rw[hcs,List.length_append,hol,hnl,←Nat.add_mul,←Nat.add_mul]
      have:len+n+(cap-(len+n))=cap:=by omega
      rw[this]
      exact Nat.le_refl _
     have md:=m.drew (w.drawn+1)
     have xd:=Ext.drew h ρ w (w.drawn+1)
     split at ha
     . -- nil
       cases hx
       split at ha
       . rename_i h0;cases ha
         exact none_case h0 ⟨_,_,_,rfl,Nat.le_refl _⟩ rfl
       . rename_i h0
         split at ha
         . rename_i hroom;cases ha
           exact new_case none 0 0 [] [] h ρ rfl (by omega) (by simpa using hroom) (by simp) rfl md xd VL.nil hnv' rfl [] (by simp)
         . cases ha
     . -- by its content
       rename_i l len cap
       obtain⟨base,len',capC,rfl,hlc,hsp,hnil⟩:=jI hx trivial
       obtain⟨rfl,hcap⟩:=qU hx
       split at ha
       . rename_i h0;cases ha
         exact none_case h0 ⟨_,_,_,rfl,hlc⟩ rfl
       . rename_i h0
         split at ha
         . rename_i c
           split at ha
           . rename_i hc;cases ha
             obtain⟨h1,hroom,hll⟩:=hc
             have hcc:=hcap c rfl
             obtain⟨_,ho⟩:=kY md (hx.mono xd) (l:=l) (n:=len') (by simp[eL]) hll
             obtain⟨bS,ho1,ho2⟩:=ho len' (Nat.le_refl _)
             rw[←hll,List.take_length]at ho2
             exact new_case base len' capC l bS h ρ rfl (by omega) hroom hll ho1 md xd ho2 hnv' rfl [] rfl
           . cases ha
         . cases ha
     . -- into a block of the call's own
       rename_i b off len e cap
       obtain⟨base,len',capC,rfl,hlc,hsp,hnil⟩:=jI hx trivial
       obtain⟨rfl,hcap⟩:=qT hx
       split at ha
       . rename_i h0;cases ha
         exact none_case h0 ⟨_,_,_,rfl,hlc⟩ rfl
       . rename_i h0
         split at ha <;> try (cases ha;done)
         rename_i hc
         obtain⟨he,hroom⟩:=hc
         subst he
         split at ha <;> try (cases ha;done)
         rename_i l el hat
         obtain⟨hb0,hbr⟩:=km m hat
         have hρl:ρ b≠.dead:=fun hd=>by rcases hbr.live with ⟨_,_,hl'⟩|hl'|hl' <;> (rw[hd]at hl';cases hl')
         split at ha
         . -- the capacity is known
           rename_i c
           have hcc:=hcap c rfl
           split at ha
           . rename_i hle
             split at ha
             . rename_i hin;cases ha
               cases hx with
               | @sl _ cb d _ _ _ _ _ hρ _ _ hs=>
                obtain⟨cs,e',fr,h5,h6⟩:=hs
                have hoff:off+len'*i.size<=l.length:=by
                 have:len'*i.size<=(len'+n)*i.size:=Nat.mul_le_mul_right _ (by omega)
                 omega
                obtain⟨w',hst,m1,x1⟩:=qX (off:=off+len'*i.size) m hat hρ fA hoff (fun cs0 e0 fr0 hq=>by
                 rw[h5]at hq;cases hq
                 rw[hnl]
                 have:(len'+n)*i.size<=capC*i.size:=Nat.mul_le_mul_right _ (by omega)
                 rw[Nat.add_mul]at this
                 omega) hone
                refine⟨_,w',yn ht hlen hf (by omega) (by
                 show Sem.run P (storeCells ((⟨cb,off+d,none⟩:Addr).add (len'*i.size)) nv) w=_
                 rw[Addr.gr,show off+d+len'*i.size=off+len'*i.size+d from by omega];exact hst),ρ,?_,m1,x1⟩
                obtain⟨cs',fr',h7,h8⟩:=x1.shape _ _ _ _ h5
                exact .sl hρ (by omega) hcap ⟨cs',e',fr',h7,by omega⟩
               | dZ _ _ hρ _ _=>exact absurd hρ hρl
               | fl a hρ=>exact absurd hρ hρl
             . cases ha
           . rename_i hgt
             split at ha
             . rename_i old' hcut;cases ha
               have hcut':=hcut
               unfold cut at hcut'
               simp only at hcut'
               split at hcut'
               . rename_i hcl
                 cases hcut'
                 obtain⟨_,ho⟩:=kY md (hx.mono xd) (l:=List.take (len'*i.size) (List.drop off l)) (n:=len') (by simp[eL,hat,hcut]) hcl
                 obtain⟨bS,ho1,ho2⟩:=ho len' (Nat.le_refl _)
                 rw[List.take_take,Nat.min_self]at ho2
                 exact new_case base len' capC _ bS h ρ rfl (by omega) hroom hcl ho1 md xd ho2 hnv' rfl [] rfl
               . cases hcut'
             . cases ha
         . -- the capacity is not known
           split at ha
           . rename_i hend;cases ha
             obtain⟨hend,rfl⟩:=hend
             have hcl:(List.take (len'*i.size) (List.drop off l)).length=len'*i.size:=by simp;omega
             have hdrop:List.take (len'*i.size) (List.drop off l)=List.drop off l:=List.take_of_length_le (by simp;omega)
             by_cases hfit:len'+n<=capC
             . -- there is room
               cases hx with
               | @sl _ cb d _ _ _ _ _ hρ _ _ hs=>
                obtain⟨cs,e',fr,h5,h6⟩:=hs
                have hroomc:off+d+(len'+n)*i.size<=cs.size:=by
                 have:(len'+n)*i.size<=capC*i.size:=Nat.mul_le_mul_right _ hfit
                 omega
                have hbr':BR P gl ((ρ.dz b .dead).dz h.length (.live cb (off+d))) w h.length (.cells (l.drop off) el):=by
                 rcases hbr with ⟨c',d',cs',fr',g1,g2,g3,g4,g5⟩|⟨g1,g2⟩
                 . rw[hρ]at g1;cases g1
                   rw[h5]at g2;cases g2
                   refine .inl ⟨cb,off+d,cs,fr,az.dD _ _ _,h5,⟨by have:=g3.1;simp;omega,fun he=>by rw[hne]at he;cases he⟩,g4,fun j a v' ha hv=>?_⟩
                   refine(g5 (off+j) a v' (by simpa using ha) (by rw[show off+j+d=j+(off+d) from by omega];exact hv)).mono (Ext.move m hb0 hρ (some (.cells (l.drop off) el)) (off+d))
                 . rw[hρ]at g1;cases g1
                have m1:=Mem.move m hb0 hρ (some (.cells (l.drop off) el)) (off+d) (fun o' ho=>by cases ho;exact hbr')
                have x1:=Ext.move m hb0 hρ (some (.cells (l.drop off) el)) (off+d)
                have hat':(h.set b none++[some (.cells (l.drop off) el)]:ae).at h.length=some (.cells (l.drop off) el):=by
                 unfold ae.at;rw[List.getElem?_append_right (by simp)];simp
                have hρ':((ρ.dz b .dead).dz h.length (.live cb (off+d))) h.length = .live cb (off+d):=az.dD _ _ _
                obtain⟨w',hst,m2,x2⟩:=qX (off:=len'*i.size) m1 hat' hρ' (fA.mono x1) (by simp;omega) (fun cs0 e0 fr0 hq=>by
                 rw[h5]at hq;cases hq
                 rw[hnl];rw[Nat.add_mul]at hroomc
                 omega) hone
                have hh:(h.set b none++[some (.cells (l.drop off) el)]:ae).put h.length (some (.cells (overwrite (l.drop off) (len'*i.size) new) el))=h.put b none++[some (.cells (l.drop off++new) el)]:=by
                 have:overwrite (l.drop off) (len'*i.size) new=l.drop off++new:=by
                  unfold overwrite
                  have e2:(l.drop off).drop (len'*i.size+new.length)=[]:=List.drop_of_length_le (by rw[List.length_drop];omega)
                  rw[hdrop,e2,List.append_nil]
                 rw[this]
                 exact MX (List.length_set) _ _
                rw[hh]at m2 x2
                refine⟨_,w',yn ht hlen hf hfit (by
                 show Sem.run P (storeCells ((⟨cb,off+d,none⟩:Addr).add (len'*i.size)) nv) w=_
                 rw[Addr.gr,show off+d+len'*i.size=len'*i.size+(off+d) from by omega];exact hst),_,?_,m2,x1.trans x2⟩
                obtain⟨cs',fr',h7,h8⟩:=(x1.trans x2).shape _ _ _ _ h5
                have:=V.sl (w:=w') (o:=0) (len:=len'+n) (esz:=i.size) (capC:=capC) (cap:=none) hρ' hfit (by simp) ⟨cs',e',fr',h7,by rw[Nat.zero_add];omega⟩
                simpa using this
               | fk hρ=>omega
               | dZ _ _ hρ _ _=>exact absurd hρ hρl
               | ff hρ=>exact absurd hρ hρl
             . have hsc':eL h (.sl b off len' i.size none)=some (List.take (len'*i.size) (List.drop off l),len'):=by
                simp[eL,hat,cut];omega
               obtain⟨_,ho⟩:=kY md (hx.mono xd) hsc' hcl
               obtain⟨bS,ho1,ho2⟩:=ho len' (Nat.le_refl _)
               rw[List.take_take,Nat.min_self,hdrop]at ho2
               have m1:=md.forget hb0
               have x1:=xd.trans (Ext.forget (w:={ w with drawn:=w.drawn+1 }) hb0 (fun c d hl=>m.bound b c d hl))
               exact new_case base len' capC _ bS (h.set b none) _ rfl (by omega) hroom (by simp;omega) ho1 m1 x1 (ho2.mono (Ext.forget (w:={ w with drawn:=w.drawn+1 }) hb0 (fun c d hl=>m.bound b c d hl))) (hnv'.mono (Ext.forget (w:={ w with drawn:=w.drawn+1 }) hb0 (fun c d hl=>m.bound b c d hl))) (by simp) [b] rfl
           . cases ha
     . cases ha
   . cases ha
end Go.Ab

/-
  Own work: the operations that look at the heap, all of them together.
-/
namespace Go.Ab
variable {P:Program} {gl:Nat->Option AV} {ρ:az} {w:World} {h:ae} {C:Cx} {s:St} {a:Act}
def cf (C:Cx)(e:Operand->Value)(o:Oper)(ρ:az)(h:ae)(w:World)(r:HR):Prop:=
 ∃v' w',((execOp e o).run C.P w = .ok (.value v') w'\/((execOp e o).run C.P w = .ok .skip w'/\v'=undef))/\ec C.P C.gl ρ h w r v' w'
theorem cf.val {o:Oper}{r:HR}{v':Value}{w':World}(h1:(execOp a.eval o).run C.P w = .ok (.value v') w')(h2:ec C.P C.gl ρ h w r v' w'):cf C a.eval o ρ h w r:=⟨v',w',.inl h1,h2⟩
theorem cf.skip {o:Oper}{r:HR}{w':World}(h1:(execOp a.eval o).run C.P w = .ok .skip w')(h2:ec C.P C.gl ρ h w r undef w'):cf C a.eval o ρ h w r:=⟨undef,w',.inr ⟨h1,rfl⟩,h2⟩
theorem gK (m:Mem P gl ρ h w){x:AV}{v':Value}(hv:V ρ w x v'):ec P gl ρ h w ⟨x,h,[]⟩ v' w:=⟨ρ,hv,m,Ext.refl _ _ _⟩
theorem tC (m:Mem P gl ρ h w){l:List AV}{cs:Array Value}(e:TypeId)(hl:VL ρ w l cs.toList){x:AV}{v':Value}(hv:V (ρ.dz h.length (.live w.heap.size 0)) { w with heap:=w.heap.push (.cells cs e) } x v') :
 ec P gl ρ h w ⟨x,h++[some (.cells l e)],[]⟩ v' { w with heap:=w.heap.push (.cells cs e) }:=
 let ⟨m1,x1⟩:=MM m e hl
 ⟨_,hv,m1,x1⟩
theorem yp {z:List AV}{zv:Array Value}(hz:VL ρ w z zv.toList):∀n,VL ρ w (fP z n) ((Array.range (n*zv.size)).map (zv[· % zv.size]!)).toList:=by
 intro n
 have key:∀n,((Array.range (n*zv.size)).map (zv[· % zv.size]!)).toList=(List.replicate n zv.toList).flatten:=by
  intro n
  by_cases h0:zv.size=0
  . have hz0:zv.toList=[]:=by simpa using h0
    simp[h0,hz0]
  . induction n with
    | zero=>simp
    | succ n ih=>
     rw[List.replicate_succ',List.flatten_append,←ih]
     simp only[Array.toList_map,Array.toList_range]
     rw[Nat.succ_mul,List.range_add,List.map_append]
     congr 1
     simp only[List.map_map,List.flatten_cons,List.flatten_nil,List.append_nil]
     apply List.ext_getElem
     . simp
     . intro i h1 h2
       simp at h1
       simp[Nat.add_comm,Nat.mod_eq_of_lt h1,h1]
 rw[key]
 induction n with
 | zero=>exact .nil
 | succ n ih=>
  simp only[fP,List.replicate_succ,List.flatten_cons]
  exact hz.append ih
theorem yq (z:List AV):∀n,(fP z n).length=n*z.length
 | 0=>by simp[fP]
 | n+1=>by simp[fP,yq z n,Nat.succ_mul];omega
theorem kZ {t e:TypeId}{n b:Nat}(h:iA P t=some (e,n,b)):∃i,P.underlying t=some (.slice e)/\P.info? e=some i/\i.size=n/\i.bytes=b:=by
 unfold iA at h
 split at h
 . rename_i e' hu
   split at h
   . rename_i i hi;cases h;exact⟨i,hu,hi,rfl,rfl⟩
   . cases h
 . cases h
theorem qY {e:TypeId}{z:List AV}(h:(zeroOf P e).bind AV.cells=some z):∃(i:TypeInfo) (v:Value),P.info? e=some i/\i.zero=some v/\(∀(ρ:az) (w:World),VL ρ w z v.cells.toList)/\∀w:World,(zeroValue e).run P w = .ok v w:=by
 simp only[Option.bind_eq_some_iff]at h
 obtain⟨u,h1,h2⟩:=h
 unfold zeroOf at h1
 split at h1
 . rename_i i hi
   split at h1
   . rename_i v hv
     exact⟨i,v,hi,hv,fun ρ w=>oy (qQ 5 v u h1) h2,fun w=>by simp[zeroValue,tw hi,hv]⟩
   . cases h1
 . cases h1
theorem MZ (r:Rel C ρ s a w){t elem:TypeId}{n bb len:Nat}{ps:Array (Nat×Operand)}{z:List AV}{cps:List (Nat×Nat×aN)}(he:iA C.P t=some (elem,n,bb))(hz:(zeroOf C.P elem).bind AV.cells=some z)
 (hc:jF C (fun j=>some (j*n,n)) ps.toList=some cps) (hn0:0<n) (hzn:z.length=n) (hroom:len*n<=2^24) {vs:List (Nat×Nat×AV)} (hv:s.parts cps=some vs) {l:List AV} (hf:ke (fP z len) vs=some l) (hll:l.length=len*n)
 {o:Oper} (ho:o.op = .buildSlice t len ps):cf C a.eval o ρ s.hp w ⟨.sl s.hp.length 0 len n (some len),s.hp++[some (.cells l elem)],[]⟩:=by
 obtain⟨i,hu,hi,rfl,rfl⟩:=kZ he
 obtain⟨i',zv,hi',hzv,hzl,hzrun⟩:=qY hz
 rw[hi]at hi';cases hi'
 have hzs:zv.cells.size=i.size:=by rw[←hzn,(hzl ρ w).toList]
 have hrep:=yp (hzl ρ w) len
 obtain⟨e1,e2⟩:=tA r hc hv
 obtain⟨m',h1,h2⟩:=tz (place:=fun j=>some (j*i.size,i.size)) vs _ _ _ l e1 e2 hrep hf
 have hms:m'.length=len*i.size:=by rw[←h2.length,hll]
 refine cf.val (v':=.slice (some ⟨w.heap.size,0,none⟩) len len) (w':={ w with heap:=w.heap.push (.cells m'.toArray elem) }) ?_ (tC r.mem elem (by simpa using h2) (yi (Nat.le_refl _) (by simp) (by simp[hms])))
 obtain⟨dst,op,ty,pos,af,gd⟩:=o
 simp only at ho
 subst ho
 have hroom':¬(16777216<len*i.size):=by omega
 have hfill:Instr.fill (fun j=>some (j*i.size,i.size)) ((Array.range (len*i.size)).map (zv.cells[· % zv.cells.size]!)) (ps.map fun p=>(p.1,a.eval p.2)).toList=some m'.toArray:=by
  rw[Array.toList_map]
  rw[hzs]at h1
  rw[hzs]
  have e3:((Array.range (len*i.size)).map (zv.cells[· % i.size]!)).toList.toArray=(Array.range (len*i.size)).map (zv.cells[· % i.size]!):=Array.toArray_toList
  rw[e3]at h1
  exact h1
 have hr0:(Array.range 0:Array Nat) = #[]:=rfl
 rw[Array.toList_map]at hfill
 by_cases hl0:len*i.size=0
 . have hfill0:Instr.fill (fun j=>some (j*i.size,i.size)) #[] (List.map (fun p=>(p.1,a.eval p.2)) ps.toList)=some m'.toArray:=by
    rw[hl0,hr0]at hfill;simpa using hfill
   simp only[execOp,Instr.buildSlice,Sem.run_bind,bQ hu,Result.andThen_ok,gq hi,hl0,hr0]
   simp[hfill0,newRow]
 . simp only[execOp,Instr.buildSlice,Sem.run_bind,bQ hu,Result.andThen_ok,gq hi]
   have hl00:¬(len=0\/i.size=0):=by rwa [←Nat.mul_eq_zero]
   simp[hroom',hzrun,hfill,newRow]
   exact fun h=>absurd h hl0
theorem Na (r:Rel C ρ s a w){t elem:TypeId}{n bb:Nat}{lo co:Operand}{z:List AV}(he:iA C.P t=some (elem,n,bb))(hz:(zeroOf C.P elem).bind AV.cells=some z)(hzn:z.length=n)(hn0:0<n)
 {k k':IntKind} {x y:Int} (hl:a.eval lo = .int k x) (hc:a.eval co = .int k' y) (h0:0<=x) (h1:x<=y) (h2:y.toNat*bb<=dX) (h3:y<=2^46) {o:Oper} (ho:o.op = .makeSlice t lo co) :
 cf C a.eval o ρ s.hp w ⟨.sl s.hp.length 0 x.toNat n (some y.toNat),s.hp++[some (.cells (fP z y.toNat) elem)],[]⟩:=by
 obtain⟨i,hu,hi,rfl,rfl⟩:=kZ he
 obtain⟨i',zv,hi',hzv,hzl,hzrun⟩:=qY hz
 rw[hi]at hi';cases hi'
 have hzs:zv.cells.size=i.size:=by rw[←hzn,(hzl ρ w).toList]
 have hrep:=yp (hzl ρ w) y.toNat
 have hlen:=yq z y.toNat
 refine cf.val (v':=.slice (some ⟨w.heap.size,0,none⟩) x.toNat y.toNat) (w':={ w with heap:=w.heap.push (.cells ((Array.range (y.toNat*zv.cells.size)).map (zv.cells[· % zv.cells.size]!)) elem) }) ?_
  (tC r.mem elem hrep (yi (by omega) (by simp) (by simp[hzs])))
 obtain⟨dst,op,ty,pos,af,gd⟩:=o
 simp only at ho
 subst ho
 have hroom:dX=70368744177664:=by decide
 have w1:IntKind.i64.wrap x=x:=IntWalk.i64_in x (by omega)
 have w2:IntKind.i64.wrap y=y:=IntWalk.i64_in y (by omega)
 have hy:(y.toNat:Int)=y:=by omega
 have hb:¬((281474976710656:Int)<(i.bytes:Int)*y):=by
  have:((y.toNat*i.bytes:Nat):Int)<=70368744177664:=by omega
  rw[Int.natCast_mul,hy,Int.mul_comm]at this
  omega
 have hcond:¬(((y<0\/(281474976710656:Int)<(i.bytes:Int)*y)\/x<0)\/y<x):=by omega
 have hr0:(Array.range 0:Array Nat) = #[]:=rfl
 simp[execOp,Instr.makeSlice,bQ hu,hl,hc,asInt,ox,tw hi,gq hi,w1,w2,hcond,newRow,hzrun,hzs]
 by_cases hy0:y.toNat*i.size=0
 . simp[hy0,hr0]
 . simp[hy0]
theorem Nb (r:Rel C ρ s a w){e:TypeId}{xo:Operand}{x:AV}{l:List AV}(hx:V ρ w x (a.eval xo))(hl:x.cells=some l){o:Oper}(ho:o.op = .box e xo) :
 cf C a.eval o ρ s.hp w ⟨.ptr s.hp.length 0,s.hp++[some (.cells l e)],[]⟩:=by
 refine cf.val (v':=.pointer (some ⟨w.heap.size,0,none⟩)) (w':={ w with heap:=w.heap.push (.cells (a.eval xo).cells e) }) ?_ (tC r.mem e (oy hx hl) yj)
 obtain⟨dst,op,ty,pos,af,gd⟩:=o
 simp only at ho
 subst ho
 simp[execOp,Instr.box,newVar,newRow]
theorem Nc (r:Rel C ρ s a w){e:TypeId}{z:List AV}(hz:(zeroOf C.P e).bind AV.cells=some z){o:Oper}(ho:o.op = .alloc e) :
 cf C a.eval o ρ s.hp w ⟨.ptr s.hp.length 0,s.hp++[some (.cells z e)],[]⟩:=by
 obtain⟨i,zv,hi,hzv,hzl,hzrun⟩:=qY hz
 refine cf.val (v':=.pointer (some ⟨w.heap.size,0,none⟩)) (w':={ w with heap:=w.heap.push (.cells zv.cells e) }) ?_ (tC r.mem e (hzl ρ w) yj)
 obtain⟨dst,op,ty,pos,af,gd⟩:=o
 simp only at ho
 subst ho
 simp[execOp,Instr.alloc,hzrun,newVar,newRow]
theorem Nd (r:Rel C ρ s a w){t:TypeId}{n:Nat}{ag:Bool}{xo:Operand}{x:AV}(hs:shapeOf C.P t=some (n,ag))(hx:V ρ w x (a.eval xo)){l:List AV}(hl:fj s.hp x=some l){v:AV}(hv:partOf l 0 n ag=some v)
 {o:Oper} (ho:o.op = .load t xo):cf C a.eval o ρ s.hp w ⟨v,s.hp,[]⟩:=by
 obtain⟨c,off,g,he,hg⟩:=readable r.mem hx hl
 obtain⟨v',h1,h2⟩:=El hs hg hv
 refine cf.val (v':=v') (w':=w) ?_ (gK r.mem h2)
 obtain⟨dst,op,ty,pos,af,gd⟩:=o
 simp only at ho
 subst ho
 simp[execOp,Instr.loadAt,he,Instr.sureAddr,h1]
theorem Nf (r:Rel C ρ s a w){t:TypeId}{n:Nat}{ag:Bool}{xo yo:Operand}{b off:Nat}{y:AV}{new l:List AV}{el:TypeId}(hs:shapeOf C.P t=some (n,ag))(hx:V ρ w (.ptr b off) (a.eval xo))(hy:V ρ w y (a.eval yo))
 (hn:y.cells=some new) (hb:s.hp.at b=some (.cells l el)) (hnn:new.length=n) (hin:off+n<=l.length) (hone:new.all cR=true) {o:Oper} (ho:o.op = .store t xo yo) :
 cf C a.eval o ρ s.hp w ⟨cF,s.hp.put b (some (.cells (overwrite l off new) el)),[b]⟩:=by
 obtain⟨i,d0,hi,hd0,rfl,rfl⟩:=qR hs
 obtain⟨h0,hbr⟩:=km r.mem hb
 have hyv:=oy hy hn
 generalize hxv:a.eval xo=xv at hx
 cases hx with
 | ptr _ hρ=>
  rename_i c d
  obtain⟨w',h1,m1,x1⟩:=qX (off:=off) r.mem hb hρ hyv (by omega) (fun cs e fr hq=>by
   rcases hbr with ⟨c',d',cs',fr',g1,g2,g3,_⟩|⟨g1,_⟩
   . rw[hρ]at g1;cases g1;rw[hq]at g2;cases g2;have:=g3.1;omega
   . rw[hρ]at g1;cases g1) hone
  refine cf.skip (w':=w') ?_ ⟨ρ,V.undef,m1,x1⟩
  obtain⟨dst,op,ty,pos,af,gd⟩:=o
  simp only at ho
  subst ho
  have hsz:(a.eval yo).cells.size=i.size:=by rw[←hyv.toList,hnn]
  simp[execOp,Instr.storeAt,hxv,Instr.sureAddr,storeVar,gq hi,hsz,h1]
 | dO _ _ _ hρ=>rcases hbr.live with ⟨_,_,hl'⟩|hl'|hl' <;> (rw[hρ]at hl';cases hl')
end Go.Ab

/-
  Own work: maps, ranges over strings, append, copy, slices of arrays, bytes to string.
-/
namespace Go.Ab
variable {t:TypeId}
variable {P:Program} {gl:Nat->Option AV} {ρ:az} {w:World} {h:ae} {C:Cx} {s:St} {a:Act}
theorem bytes_beq (x y:List UInt8):((ByteArray.mk x.toArray) == (ByteArray.mk y.toArray))=(x == y):=by
 have e:∀x y:ByteArray,(x == y)=(x.data == y.data):=fun _ _=>rfl
 rw[e];simp
theorem lf {c:Nat}{o:Obj}(h:w.heap[c]? = some o)(ho:∀cs e fr,o≠.cells cs e fr):(getObj c).run P w = .ok o w:=by
 cases o <;> first|exact absurd rfl (ho _ _ _)|simp[getObj,Sem.run,h]
theorem mK {c:Nat}{o o':Obj}(h:w.heap[c]? = some o)(ho:∀cs e fr,o≠.cells cs e fr):(setObj c o').run P w = .ok () (w.da c o'):=by
 cases o <;> first|exact absurd rfl (ho _ _ _)|simp[setObj,Sem.run,h,World.da]
theorem yr (m:Mem P gl ρ h w){b:Nat}{es:List (AV×AV)}(hb:h.at b=some (.map es)):h[b]? = some (some (.map es))/\∃c ms clk,ρ b = .live c 0/\w.heap[c]? = some (.map ms clk)/\es.length=ms.size /\
      ∀(i:Nat) kx vx m,es[i]? = some (kx,vx)->ms[i]? = some m->V ρ w kx m.key/\V ρ w vx m.val:=
 ⟨oE hb,m.cS b _ (oE hb)⟩
def yt:gR->TypeDesc->Prop
 | .int,d=>∃k,d = .int k
 | .str,d=>d = .string
theorem Es {k:gR}(hk:keyOf P t=some k):∃d,P.underlying t=some d/\yt k d:=by
 unfold keyOf at hk
 split at hk
 . rename_i kk hu;cases hk;exact⟨_,hu,_,rfl⟩
 . rename_i hu;cases hk;exact⟨_,hu,rfl⟩
 . cases hk
theorem tD {k:gR}(hk:keyOf P t=some k)(e:Bool)(v:Value):(Instr.checkKey e 10000 t v).run P w = .ok () w:=by
 obtain⟨d,hu,hd⟩:=Es hk
 unfold Instr.checkKey
 rw[Sem.run_bind,bQ hu,Result.andThen_ok]
 cases k
 . obtain⟨kk,rfl⟩:=hd;simp
 . cases hd;simp
theorem Ng {kt:gR}{d:TypeDesc}(hd:yt kt d){k kx:AV}(hk:kt.ok k=true){k' kx':Value}(h1:V ρ w k k')(h2:V ρ w kx kx'){r:Bool}(he:qK k kx=some r) :
 Instr.sameNow d k' kx'=some r/\(r=true->kx'=k'/\Instr.sameBits 10000 kx' k'=true):=by
 cases kt
 . obtain⟨kk,rfl⟩:=hd
   cases k <;> simp only[gR.ok,Bool.false_eq_true]at hk
   cases kx <;> simp only[qK,reduceCtorEq,Option.ite_none_right_eq_some,Option.some.injEq]at he
   obtain⟨rfl,rfl⟩:=he
   cases h1;cases h2
   refine⟨by simp[Instr.sameNow],fun hr=>?_⟩
   simp only[beq_iff_eq]at hr
   subst hr
   exact⟨rfl,by simp[Instr.sameBits]⟩
 . cases hd
   cases k <;> simp only[gR.ok,Bool.false_eq_true]at hk
   cases kx <;> simp only[qK,reduceCtorEq,Option.some.injEq]at he
   subst he
   cases h1;cases h2
   refine⟨by simp only[Instr.sameNow,bytes_beq],fun hr=>?_⟩
   simp only[beq_iff_eq]at hr
   subst hr
   exact⟨rfl,by simp only[Instr.sameBits,bytes_beq,beq_self_eq_true]⟩
def yu (ρ:az)(w:World)(ms:List MapEntry)(k':Value)(i:Nat):Option (Nat×AV)->Option (Nat×Value)->Prop
 | none,none=>True
 | some (j,v),some (j',v')=>j=j'/\i<=j/\V ρ w v v'/\∃e,ms[j-i]? = some e/\e.key=k'/\Instr.sameBits 10000 e.key k'=true
 | _,_=>False
theorem Et {kt:gR}{d:TypeDesc}(hd:yt kt d){k:AV}(hk:kt.ok k=true){k':Value}(h1:V ρ w k k') :
 ∀(es:List (AV×AV)) (ms:List MapEntry) (i:Nat) (r:Option (Nat×AV)),es.length=ms.length ->
  (∀(i:Nat) kx vx m,es[i]? = some (kx,vx)->ms[i]? = some m->V ρ w kx m.key/\V ρ w vx m.val)->kf k es i=some r ->
  ∃r',Instr.findNow d k' ms i=some r'/\yu ρ w ms k' i r r'
 | [],ms,i,r,hl,_,hf=>by
  cases ms with
  | nil=>simp only[kf,Option.some.injEq]at hf;subst hf;exact⟨none,rfl,trivial⟩
  | cons _ _=>simp at hl
 | (kx,vx)::es,ms,i,r,hl,hv,hf=>by
  cases ms with
  | nil=>simp at hl
  | cons m ms=>
   obtain⟨e1,e2⟩:=hv 0 kx vx m rfl rfl
   simp only[kf]at hf
   cases he:qK k kx with
   | none=>simp[he]at hf
   | some b=>
    obtain⟨g1,g2⟩:=Ng hd hk h1 e1 he
    cases b with
    | true=>
     simp only[he,Option.some.injEq]at hf
     subst hf
     exact⟨some (i,m.val),by simp[Instr.findNow,g1],rfl,Nat.le_refl _,e2,m,by simp,g2 rfl⟩
    | false=>
     simp only[he]at hf
     obtain⟨r',h3,h4⟩:=Et hd hk h1 es ms (i+1) r (by simpa using hl) (fun i kx vx m hx hm=>hv (i+1) kx vx m (by simpa using hx) (by simpa using hm)) hf
     refine⟨r',by simp[Instr.findNow,g1,h3],?_⟩
     cases r with
     | none=>cases r' with
       | none=>trivial
       | some _=>exact h4
     | some q=>
      cases r' with
      | none=>exact h4
      | some q'=>
       obtain⟨a1,a2,a3,e,a4,a5⟩:=h4
       refine⟨a1,by omega,a3,e,?_,a5⟩
       rw[show q.1-i=q.1-(i+1)+1 from by omega]
       simpa using a4
theorem yw {kt:gR}(hk:keyOf P t=some kt){k:AV}(bE:kt.ok k=true){k':Value}(h1:V ρ w k k'){es:List (AV×AV)}{ms:List MapEntry}(hl:es.length=ms.length)
 (hv:∀(i:Nat) kx vx m,es[i]? = some (kx,vx)->ms[i]? = some m->V ρ w kx m.key/\V ρ w vx m.val) {r:Option (Nat×AV)} (hf:kf k es 0=some r) :
 ∃r',(Instr.findKey t k' ms).run P w = .ok r' w/\yu ρ w ms k' 0 r r':=by
 obtain⟨d,hu,hd⟩:=Es hk
 obtain⟨r',h2,h3⟩:=Et hd bE h1 es ms 0 r hl hv hf
 refine⟨r',?_,h3⟩
 unfold Instr.findKey
 simp[bQ hu,h2]
def lh (z:AV)(q:Option (Nat×AV)):AV:=match q with|some (_,v)=>v|none=>z
theorem Nh (r:Rel C ρ s a w){t kt' et:TypeId}{kt:gR}{z:AV}{xo io:Operand}{ok:Bool}(hu:C.P.underlying t=some (.map kt' et))(hk:keyOf C.P kt'=some kt)(hz:zeroOf C.P et=some z)
 {m k:AV} (hm:V ρ w m (a.eval xo)) (hkv:V ρ w k (a.eval io)) (bE:kt.ok k=true) {es:List (AV×AV)} (hes:m = .dW/\es=[]\/∃b,m = .map b/\s.hp.at b=some (.map es))
 {q:Option (Nat×AV)} (hf:kf k es 0=some q) {o:Oper} (ho:o.op = .lookup t xo io ok) :
 cf C a.eval o ρ s.hp w ⟨if ok then .ao [lh z q,.bool q.isSome] else lh z q,s.hp,[]⟩:=by
 obtain⟨dst,op,ty,pos,af,gd⟩:=o
 simp only at ho
 subst ho
 obtain⟨zv,hz1,hz2⟩:=tB (w:=w) (ρ:=ρ) hz
 have hrun:∃v',(Instr.lookup t (a.eval xo) (a.eval io) ok).run C.P w = .ok v' w/\V ρ w (if ok then .ao [lh z q,.bool q.isSome] else lh z q) v':=by
  have tail:∀(q':Option (Nat×Value)) (ms:List MapEntry),yu ρ w ms (a.eval io) 0 q q'->∃v',((match q' with
   | some (_,v)=>do let p ←(pure (v,true):Sem (Value×Bool));pure (if ok then .tuple #[p.1,.bool p.2] else p.1)
   | none=>do let z ←zeroValue et;let p ←(pure (z,false):Sem (Value×Bool));pure (if ok then .tuple #[p.1,.bool p.2] else p.1):Sem Value)).run C.P w = .ok (if ok then .tuple #[v',.bool q.isSome] else v') w/\V ρ w (lh z q) v':=by
   intro q' ms h2
   cases q with
   | none=>
    cases q' with
    | some _=>exact h2.elim
    | none=>exact⟨zv,by simp[hz1],hz2⟩
   | some p=>
    cases q' with
    | none=>exact h2.elim
    | some p'=>exact⟨p'.2,by simp,h2.2.2.1⟩
  have fin:∀(v':Value),V ρ w (lh z q) v'->V ρ w (if ok then .ao [lh z q,.bool q.isSome] else lh z q) (if ok then .tuple #[v',.bool q.isSome] else v'):=by
   intro v' hv
   cases ok
   . exact hv
   . exact V.gU (VL.cons hv (VL.cons (.bool _) .nil))
  unfold Instr.lookup
  rcases hes with ⟨rfl,rfl⟩|⟨b,rfl,hb⟩
  . generalize hxv:a.eval xo=xv at hm
    cases hm
    obtain⟨q',h1,h2⟩:=yw (P:=C.P) (es:=[]) (ms:=[]) hk bE hkv rfl (by simp) hf
    obtain⟨v',t1,t2⟩:=tail q' _ h2
    refine⟨_,?_,fin v' t2⟩
    simp only[Sem.run_bind,bQ hu,Result.andThen_ok,Sem.run_pure,tD hk,h1]
    exact t1
  . obtain⟨_,c,ms,clk,g1,g2,g3,g4⟩:=yr r.mem hb
    generalize hxv:a.eval xo=xv at hm
    cases hm with
    | map hρ=>
     rw[hρ]at g1;cases g1
     obtain⟨q',h1,h2⟩:=yw (P:=C.P) (ms:=ms.toList) hk bE hkv (by simpa using g3) (by simpa using g4) hf
     obtain⟨v',t1,t2⟩:=tail q' _ h2
     refine⟨_,?_,fin v' t2⟩
     simp only[Sem.run_bind,bQ hu,Result.andThen_ok,Sem.run_pure,tD hk,h1,lf g2 (by simp)]
     exact t1
    | gI _ hρ=>rw[hρ]at g1;cases g1
 obtain⟨v',h3,h4⟩:=hrun
 refine cf.val (v':=v') (w':=w) ?_ (gK r.mem h4)
 simp[execOp,h3]
def lj (es:List (AV×AV))(k v:AV)(q:Option (Nat×AV)):List (AV×AV):=match q with|some (j,_)=>es.set j (k,v)|none=>es++[(k,v)]
theorem tE (r:Rel C ρ s a w){t kt' et:TypeId}{kt:gR}{mo io xo:Operand}(hu:C.P.underlying t=some (.map kt' et))(hk:keyOf C.P kt'=some kt)
 {k v:AV} {b:Nat} (hm:V ρ w (.map b) (a.eval mo)) (hkv:V ρ w k (a.eval io)) (hv:V ρ w v (a.eval xo)) (bE:kt.ok k=true) {es:List (AV×AV)} (hb:s.hp.at b=some (.map es))
 {q:Option (Nat×AV)} (hf:kf k es 0=some q) {o:Oper} (ho:o.op = .mapUpdate t mo io xo\/o.op = .insert t mo io xo) :
 cf C a.eval o ρ s.hp w ⟨cF,s.hp.put b (some (.map (lj es k v q))),[b]⟩:=by
 obtain⟨h0,c,ms,clk,g1,g2,g3,g4⟩:=yr r.mem hb
 have hrun:∃ms' clk',(Instr.mapUpdate t (a.eval mo) (a.eval io) (a.eval xo)).run C.P w = .ok () (w.da c (.map ms' clk'))/\(lj es k v q).length=ms'.size /\
  ∀(i:Nat) kx vx m,(lj es k v q)[i]? = some (kx,vx)->ms'[i]? = some m->V ρ w kx m.key/\V ρ w vx m.val:=by
  unfold Instr.mapUpdate
  generalize hxv:a.eval mo=xv at hm
  cases hm with
  | map hρ=>
   rw[hρ]at g1;cases g1
   obtain⟨q',h1,h2⟩:=yw (P:=C.P) (ms:=ms.toList) hk bE hkv (by simpa using g3) (by simpa using g4) hf
   cases q with
   | none=>
    cases q' with
    | some _=>exact h2.elim
    | none=>
     refine⟨ms.push { key:=a.eval io,val:=a.eval xo,born:=clk },clk+1,?_,by simp[lj,g3],?_⟩
     . simp only[Sem.run_bind,bQ hu,Result.andThen_ok,tD hk,h1,lf g2 (by simp)]
       exact mK g2 (by simp)
     . intro i kx vx m hx hm
       simp only[lj]at hx
       rw[List.getElem?_append]at hx
       rw[Array.getElem?_push]at hm
       split at hx
       . rw[if_neg (by omega)]at hm;exact g4 i kx vx m hx hm
       . have:i<es.length+1:=by
          have:=(List.getElem?_eq_some_iff.1 hx).1
          simp at this;omega
         rw[if_pos (by omega)]at hm
         cases hm
         rw[show i-es.length=0 from by omega]at hx
         simp at hx
         obtain⟨rfl,rfl⟩:=hx
         exact⟨hkv,hv⟩
   | some p=>
    cases q' with
    | none=>exact h2.elim
    | some p'=>
     obtain⟨j,pv⟩:=p
     obtain⟨j',pv'⟩:=p'
     obtain⟨e1,_,_,e,e3,e4,e5⟩:=h2
     have e1:j=j':=e1
     subst e1
     have e3:ms[j]? = some e:=by simpa using e3
     have hj:j<ms.size:=(Array.getElem?_eq_some_iff.1 e3).1
     refine⟨ms.modify j fun e=>{ e with key:=a.eval io,val:=a.eval xo },clk,?_,by simp[lj,g3],?_⟩
     . simp only[Sem.run_bind,bQ hu,Result.andThen_ok,tD hk,h1,lf g2 (by simp)]
       simp only[e3,Option.map_some,Option.getD_some,Instr.keyThatStays,e5,if_true,Sem.run_pure,Result.andThen_ok]
       exact mK g2 (by simp)
     . intro i kx vx m hx hm
       rw[Array.getElem?_modify]at hm
       simp only[lj]at hx
       rw[List.getElem?_set]at hx
       by_cases hij:j=i
       . subst hij
         rw[if_pos rfl]at hx hm
         rw[if_pos (by omega)]at hx
         simp only[e3,Option.map_some,Option.some.injEq]at hm
         cases hx;subst hm
         exact⟨hkv,hv⟩
       . rw[if_neg hij]at hx hm
         exact g4 i kx vx m hx hm
  | gI _ hρ=>rw[hρ]at g1;cases g1
 obtain⟨ms',clk',h1,h2,h3⟩:=hrun
 have hO:∀cs0 e0 fr0,w.heap[c]? = some (.cells cs0 e0 fr0)->∃cs' fr',Obj.map ms' clk' = .cells cs' e0 fr'/\cs'.size=cs0.size:=by
  intro _ _ _ hq;rw[g2]at hq;cases hq
 have x:=Ext.write r.mem h0 g1 (some (.map (lj es k v q))) (.map ms' clk') hO
 refine cf.skip (w':=w.da c (.map ms' clk')) ?_ ⟨ρ,V.undef,Mem.write r.mem h0 g1 _ _ hO ?_,x⟩
 . obtain⟨dst,op,ty,pos,af,gd⟩:=o
   simp only at ho
   rcases ho with rfl|rfl <;> simp[execOp,h1]
 . intro o' ho';cases ho'
   exact⟨c,ms',clk',g1,mI (r.mem.bound _ _ _ g1),h2,fun i kx vx m hx hm=>let ⟨a1,a2⟩:=h3 i kx vx m hx hm;⟨a1.mono x,a2.mono x⟩⟩
theorem Ni (r:Rel C ρ s a w){t:TypeId}{o:Oper}(ho:o.op = .makeMap t none):cf C a.eval o ρ s.hp w ⟨.map s.hp.length,s.hp++[some (.map [])],[]⟩:=by
 have x:=Ext.alloc r.mem (some (.map [])) (.map #[] 0) (.live w.heap.size 0) (.inl ⟨0,rfl⟩)
 refine cf.val (v':=.map (some w.heap.size)) (w':={ w with heap:=w.heap.push (.map #[] 0) }) ?_ ⟨_,.map (az.dD _ _ _),Mem.alloc r.mem _ _ _ (.inl ⟨0,rfl⟩) ?_,x⟩
 . obtain⟨dst,op,ty,pos,af,gd⟩:=o
   simp only at ho
   subst ho
   simp[execOp,Instr.makeMap]
 . intro o' ho';cases ho'
   exact⟨w.heap.size,#[],0,az.dD _ _ _,by simp,rfl,by simp⟩
theorem Nj (r:Rel C ρ s a w){t:TypeId}{xo:Operand}(hu:C.P.underlying t=some .string){u:List UInt8}(hx:V ρ w (.str u) (a.eval xo)){o:Oper}(ho:o.op = .range t xo) :
 cf C a.eval o ρ s.hp w ⟨.ptr s.hp.length 0,s.hp++[some (.iter u 0)],[]⟩:=by
 have x:=Ext.alloc r.mem (some (.iter u 0)) (.stringIter ⟨u.toArray⟩ 0) (.live w.heap.size 0) (.inl ⟨0,rfl⟩)
 refine cf.val (v':=.pointer (some ⟨w.heap.size,0,none⟩)) (w':={ w with heap:=w.heap.push (.stringIter ⟨u.toArray⟩ 0) }) ?_ ⟨_,yj,Mem.alloc r.mem _ _ _ (.inl ⟨0,rfl⟩) ?_,x⟩
 . obtain⟨dst,op,ty,pos,af,gd⟩:=o
   simp only at ho
   subst ho
   simp[execOp,Instr.range,bQ hu,hx.jl]
 . intro o' ho';cases ho'
   exact⟨w.heap.size,az.dD _ _ _,by simp⟩
theorem Nk (r:Rel C ρ s a w){xo:Operand}{b pos:Nat}{t:List UInt8}(hx:V ρ w (.ptr b 0) (a.eval xo))(hb:s.hp.at b=some (.iter t pos)){o:Oper}(ho:o.op = .next xo true) :
 cf C a.eval o ρ s.hp w (if pos<t.length then ⟨.ao [.bool true,.int .i64 pos,.int .i32 (Utf8.decode ⟨t.toArray⟩ pos).1],s.hp.put b (some (.iter t (pos+(Utf8.decode ⟨t.toArray⟩ pos).2))),[b]⟩ else ⟨.ao [.bool false],s.hp,[]⟩):=by
 have h0:=oE hb
 obtain⟨c,g1,g2⟩:=r.mem.cS b _ h0
 obtain⟨dst,op,ty,ps,af,gd⟩:=o
 simp only at ho
 subst ho
 generalize hxv:a.eval xo=xv at hx
 cases hx with
 | ptr _ hρ=>
  rw[hρ]at g1;cases g1
  have hsz:(ByteArray.mk t.toArray).size=t.length:=by simp[ByteArray.size]
  by_cases hp:pos<t.length
  . rw[if_pos hp]
    have hO:∀cs0 e0 fr0,w.heap[c]? = some (.cells cs0 e0 fr0)->∃cs' fr',Obj.stringIter ⟨t.toArray⟩ (pos+(Utf8.decode ⟨t.toArray⟩ pos).2) = .cells cs' e0 fr'/\cs'.size=cs0.size:=by
     intro _ _ _ hq;rw[g2]at hq;cases hq
    have x:=Ext.write r.mem h0 hρ (some (.iter t (pos+(Utf8.decode ⟨t.toArray⟩ pos).2))) (.stringIter ⟨t.toArray⟩ (pos+(Utf8.decode ⟨t.toArray⟩ pos).2)) hO
    refine cf.val (v':=.tuple #[.bool true,goInt pos,.int .i32 (Utf8.decode ⟨t.toArray⟩ pos).1]) (w':=w.da c (.stringIter ⟨t.toArray⟩ (pos+(Utf8.decode ⟨t.toArray⟩ pos).2))) ?_
     ⟨ρ,V.gU (.cons (.bool _) (.cons (.int _ _) (.cons (.int _ _) .nil))),Mem.write r.mem h0 hρ _ _ hO ?_,x⟩
    . simp[execOp,Instr.next,hxv,lf g2,hsz,hp,mK g2]
    . intro o' ho';cases ho'
      exact⟨c,hρ,mI (r.mem.bound _ _ _ hρ)⟩
  . rw[if_neg hp]
    refine cf.val (v':=.tuple #[.bool false]) (w':=w) ?_ (gK r.mem (V.gU (.cons (.bool _) .nil)))
    simp[execOp,Instr.next,hxv,lf g2,hsz,hp]
 | dO _ _ _ hρ=>rw[hρ]at g1;cases g1
end Go.Ab
