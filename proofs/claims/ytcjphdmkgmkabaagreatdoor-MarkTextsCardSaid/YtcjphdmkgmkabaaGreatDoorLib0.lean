/-
  Own work: an abstract machine for the calls of a translated Go program: values by content, a heap of the blocks that the call itself has made, and an evaluator of resolved code. Definitions only.
-/
import GoSem.Step
import Derived.Laws.Sem
import Derived.CallsIn
import Derived.RangeFuncIn
import Derived.OrdersIn
import Derived.Laws.Strings
import Derived.Laws.StructEq
import Derived.ChangeKeysEq
set_option maxHeartbeats 8000000
set_option maxRecDepth 20000
namespace Go.Ab
inductive AV where
 | bP
 | bool (b:Bool)
 | int (k:IntKind) (n:Int)
 | str (s:List UInt8)
 | cT
 | ptr (b off:Nat)
 | vp (l:List AV)
 | al
 | sl (b off len esz:Nat) (cap:Option Nat)
 | vs (l:List AV) (len:Nat) (cap:Option Nat)
 | cf
 | map (b:Nat)
 | fn (f:Fn) (first captured:List AV)
 | cN
 | iface (t:TypeId) (v:AV)
 | cg
 | agg (l:List AV)
 | ar (l:List AV)
 deriving Inhabited
inductive aq where
 | p (i:Nat)
 | l (t:Nat)
 | c (v:AV)
 deriving Inhabited
inductive sW where
 | ptr|slice|map|func
 deriving Inhabited
inductive ej where
 | bool|int|str|ref (k:sW)|iface (guard:Bool)
 | jC (fs:List (Nat×Nat×Bool×ej))
 deriving Inhabited
inductive hJ where
 | str|sl|arr (n:Nat)
 deriving Inhabited
inductive eE where
 | int|str
 deriving Inhabited
inductive aD where
 | mv (x:aq)
 | pick (c a b:aq)
 | bin (op:BinOp) (x y:aq)
 | eq (neg:Bool) (t:ej) (x y:aq)
 | un (op:UnOp) (x:aq)
 | dh (k:IntKind) (x:aq)
 | oN (x:aq)
 | oO (x:aq)
 | jD (elem:TypeId) (x:aq)
 | hY (x:aq)
 | jE (u:Option (TypeId×Nat)) (x:aq)
 | kC (neg:Bool) (x y:aq)
 | oP (x:aq)
 | kD (e:TypeId) (x n:aq)
 | kE (esz:Nat) (z:List AV) (x:aq)
 | mc (x:aq)
 | field (off n:Nat) (agg:Bool) (x:aq)
 | me (off:Nat) (x:aq)
 | dE (arr:Option Nat) (esz:Nat) (x i:aq)
 | index (x i:aq)
 | oQ (len esz:Nat) (agg:Bool) (x i:aq)
 | slice (k:hJ) (esz:Nat) (x:aq) (lo hi mx:Option aq)
 | extract (i:Nat) (x:aq)
 | kG (t:TypeId) (x:aq)
 | oR (t:TypeId) (z:AV) (ok:Bool) (x:aq)
 | jF (f:Fn) (first captured:List aq)
 | build (zero:List AV) (ps:List (Nat×Nat×aq))
 | len (k:hJ) (x:aq)
 | cap (x:aq)
 | mm (max:Bool) (xs:List aq)
 | alloc (elem:TypeId) (zero:List AV)
 | box (elem:TypeId) (n:Nat) (x:aq)
 | fp (elem:TypeId) (len esz:Nat) (zero:List AV) (ps:List (Nat×Nat×aq))
 | load (n:Nat) (agg:Bool) (x:aq)
 | store (n:Nat) (x y:aq)
 | fU
 | gk (elem:TypeId) (esz bytes:Nat) (zero:List AV) (l c:aq)
 | lookup (k:eE) (zero:AV) (x i:aq) (ok:Bool)
 | ff (k:eE) (m i x:aq)
 | range (x:aq)
 | next (x:aq)
 | append (elem:TypeId) (esz bytes:Nat) (x y:aq)
 | copy (esz:Nat) (x y:aq)
 | fB (n esz:Nat) (x:aq) (lo hi:Option aq)
 | kH (x:aq)
 | call (f:aq) (args:List aq)
 | invoke (x:aq) (name:String) (args:List aq)
 deriving Inhabited
inductive cX where
 | no|p (i:Nat)|l (t:Nat)
 deriving Inhabited
structure az where
 dst:cX
 op:aD
 guard:Option (aq×Bool)
 deriving Inhabited
inductive ao where
 | skip
 | region (ops:List az)
 | draw (ops:List (az×List Nat))
 | seq (a b:ao)
 | cond (c:aq) (thn els:ao)
 | block (id:Nat) (body:ao)
 | loop (body:ao)
 | exit (id:Nat)
 | ret
 | rangeFunc (inner:Bool) (f:aq) (ps:List cX) (assign body:ao)
 | bad
 deriving Inhabited
inductive Ex where
 | normal|exit (id:Nat)|ret
 deriving DecidableEq,Inhabited
inductive aP where
 | cells (l:List AV) (elem:TypeId)
 | map (es:List (AV×AV))
 | iter (s:List UInt8) (pos:Nat)
 | cY
 | hole
 | loop (st:LoopState) (pend:Option Ex) (pe:List AV) (ps:List cX) (assign body:ao)
 deriving Inhabited
abbrev ae:=List (Option aP)
inductive fV where
 | var (x:aq)
 | cell (n:Nat) (agg:Bool) (x:aq)
 deriving Inhabited
structure bQ where
 N:Nat
 au:List Nat
 results:List fV
 body:ao
 deriving Inhabited
structure St where
 pe:List AV
 lo:List (Nat×AV)
 hp:ae
 bI:List Nat:=[]
 deriving Inhabited
def St.aa (s:St):aq->Option AV
 | .p i=>s.pe[i]?
 | .l t=>s.lo.lookup t
 | .c v=>some v
def St.br (s:St):List aq->Option (List AV)
 | []=>some []
 | x::xs=>match s.aa x with
   | some v=>match s.br xs with
     | some vs=>some (v::vs)
     | none=>none
   | none=>none
def St.bT (s:St):Option aq->Option (Option AV)
 | none=>some none
 | some x=>(s.aa x).map some
def St.put (s:St)(d:cX)(v:AV):St:=
 match d with
 | .no=>s
 | .p i=>{ s with pe:=s.pe.set i v }
 | .l t=>{ s with lo:=(t,v)::s.lo }
def AV.cells:AV->Option (List AV)
 | .bP=>none
 | .agg l=>some l
 | v=>some [v]
def cF:AV->Bool
 | .bP | .agg _ | .ar _=>false
 | _=>true
def cut (l:List AV)(off n:Nat):Option (List AV):=
 let r:=(l.drop off).take n
 if r.length=n then some r else none
def partOf (l:List AV)(off n:Nat)(agg:Bool):Option AV:=
 if agg then (cut l off n).map .agg else l[off]?
def overwrite (l:List AV)(off:Nat)(new:List AV):List AV:=
 l.take off++new++l.drop (off+new.length)
def gK:List AV->List (Nat×Nat×AV)->Option (List AV)
 | cs,[]=>some cs
 | cs,(off,n,v)::rest=>match v.cells with
   | some l=>if l.length=n/\off+n<=cs.length then gK (overwrite cs off l) rest else none
   | none=>none
def St.parts (s:St):List (Nat×Nat×aq)->Option (List (Nat×Nat×AV))
 | []=>some []
 | (o,n,x)::r=>match s.aa x with
   | some v=>match s.parts r with
     | some vs=>some ((o,n,v)::vs)
     | none=>none
   | none=>none
def kJ:AV->Option Int
 | .int _ n=>some n
 | _=>none
def ae.at (h:ae)(b:Nat):Option aP:=(h[b]?).join
def dO (h:ae):AV->Option (List AV)
 | .ptr b off=>match h.at b with|some (.cells l _)=>some (l.drop off)|_=>none
 | .vp l=>some l
 | _=>none
def dF (h:ae):AV->Option (List AV×Nat)
 | .al=>some ([],0)
 | .vs l n _=>some (l,n)
 | .sl b off n esz _=>match h.at b with
   | some (.cells l _)=>(cut l off (n*esz)).map (·,n)
   | _=>if n=0 then some ([],0) else none
 | .str s=>some (s.map fun c=>.int .u8 c.toNat,s.length)
 | _=>none
def fC:sW->AV->AV->Option Bool
 | .ptr,.cT,.cT=>some true
 | .ptr,.cT,.ptr _ _=>some false
 | .ptr,.cT,.vp _=>some false
 | .ptr,.ptr _ _,.cT=>some false
 | .ptr,.vp _,.cT=>some false
 | .slice,.al,.al=>some true
 | .slice,.al,.sl _ _ (_+1) _ _=>some false
 | .slice,.sl _ _ (_+1) _ _,.al=>some false
 | .slice,.al,.sl _ _ 0 _ (some _)=>some false
 | .slice,.sl _ _ 0 _ (some _),.al=>some false
 | .slice,.al,.vs (_::_) _ _=>some false
 | .slice,.vs (_::_) _ _,.al=>some false
 | .map,.cf,.cf=>some true
 | .map,.cf,.map _=>some false
 | .map,.map _,.cf=>some false
 | .func,.cN,.cN=>some true
 | .func,.cN,.fn _ _ _=>some false
 | .func,.fn _ _ _,.cN=>some false
 | _,_,_=>none
def goEq (rec:ej->AV->AV->Option Bool):List (Nat×Nat×Bool×ej)->List AV->List AV->Option Bool
 | [],_,_=>some true
 | (off,n,ag,t)::rest,xs,ys=>
  match partOf xs off n ag,partOf ys off n ag with
  | some x,some y=>match rec t x y with
    | some true=>goEq rec rest xs ys
    | some false=>some false
    | none=>none
  | _,_=>none
def cA:Nat->ej->AV->AV->Option Bool
 | 0,_,_,_=>none
 | d+1,t,x,y=>
  match t,x,y with
  | .bool,.bool a,.bool b=>some (a == b)
  | .int,.int k a,.int k' b=>if k=k' then some (a == b) else none
  | .str,.str a,.str b=>some (a == b)
  | .ref k,x,y=>fC k x y
  | .iface g,.cg,.cg=>if g then none else some true
  | .iface _,.cg,.iface _ _=>some false
  | .iface _,.iface _ _,.cg=>some false
  | .jC fs,.agg xs,.agg ys=>goEq (fun t x y=>cA d t x y) fs xs ys
  | _,_,_=>none
def cj (op:BinOp)(x y:AV):Option AV:=
 match x,y with
 | .int k a,.int k' b=>
  match op with
  | .shl=>if b<0 then none else some (.int k (k.wrap (a*2^(min b.toNat k.bits))))
  | .shr=>if b<0 then none else some (.int k (a.fdiv (2^(min b.toNat k.bits))))
  | op=>if k=k' then
      match op with
      | .add=>some (.int k (k.wrap (a+b)))
      | .sub=>some (.int k (k.wrap (a-b)))
      | .mul=>some (.int k (k.wrap (a*b)))
      | .quo=>if b=0 then none else some (.int k (k.wrap (a.tdiv b)))
      | .rem=>if b=0 then none else some (.int k (a.tmod b))
      | .and=>some (.int k (k.wrap (BitVec.ofInt k.bits a &&& BitVec.ofInt k.bits b).toNat))
      | .or=>some (.int k (k.wrap (BitVec.ofInt k.bits a ||| BitVec.ofInt k.bits b).toNat))
      | .xor=>some (.int k (k.wrap (BitVec.ofInt k.bits a ^^^ BitVec.ofInt k.bits b).toNat))
      | .andNot=>some (.int k (k.wrap (BitVec.ofInt k.bits a &&& ~~~ BitVec.ofInt k.bits b).toNat))
      | .eql=>some (.bool (a == b))
      | .neq=>some (.bool (a != b))
      | .lss=>some (.bool (a<b))
      | .leq=>some (.bool (a<=b))
      | .gtr=>some (.bool (a > b))
      | .geq=>some (.bool (a>=b))
      | _=>none
    else none
 | .str a,.str b=>
  match op with
  | .add=>if a.length+b.length<2^62 then some (.str (a++b)) else none
  | .eql=>some (.bool (a == b))
  | .neq=>some (.bool !(a == b))
  | .lss=>some (.bool (Op.bytesLess a b))
  | .leq=>some (.bool (Op.bytesLess a b || a == b))
  | .gtr=>some (.bool !(Op.bytesLess a b || a == b))
  | .geq=>some (.bool !(Op.bytesLess a b))
  | _=>none
 | _,_=>none
def mf (op:UnOp)(x:AV):Option AV:=
 match op,x with
 | .neg,.int k n=>some (.int k (k.wrap (0-n)))
 | .not,.bool b=>some (.bool !b)
 | .xor,.int k n=>some (.int k (k.wrap (BitVec.ofInt k.bits (if k.signed then -1 else k.max) ^^^ BitVec.ofInt k.bits n).toNat))
 | _,_=>none
def hZ (k:IntKind)(x:AV):Option AV:=
 match x with
 | .int _ n=>some (.int k (k.wrap n))
 | _=>none
def oS (off:Nat)(x:AV):Option AV:=
 match x with
 | .ptr b o=>some (.ptr b (o+off))
 | .vp l=>some (.vp (l.drop off))
 | _=>none
def iR (arr:Option Nat)(esz:Nat)(x i:AV):Option AV:=
 match i with
 | .int _ n=>
  match arr,x with
  | some len,.ptr b o=>if 0<=n/\n<len then some (.ptr b (o+n.toNat*esz)) else none
  | some len,.vp l=>if 0<=n/\n<len then some (.vp (l.drop (n.toNat*esz))) else none
  | none,.sl b o len e _=>if 0<=n/\n<len/\e=esz then some (.ptr b (o+n.toNat*esz)) else none
  | none,.vs l len _=>if 0<=n/\n<len then some (.vp (l.drop (n.toNat*esz))) else none
  | _,_=>none
 | _=>none
def mg (x i:AV):Option AV:=
 match x,i with
 | .str s,.int _ n=>if 0<=n then (s[n.toNat]?).map fun c=>.int .u8 c.toNat else none
 | _,_=>none
def aS (x:Option AV)(dflt most:Nat):Option Nat:=
 match x with
 | none=>some dflt
 | some (.int _ n)=>if 0<=n/\n<=most then some n.toNat else none
 | some _=>none
def gm (k:hJ)(esz:Nat)(x:AV)(lo hi mx:Option AV):Option AV:=
 match k,x,mx with
 | .str,.str s,none=>
  match aS hi s.length s.length with
  | some h=>match aS lo 0 h with
    | some l=>some (.str ((s.drop l).take (h-l)))
    | none=>none
  | none=>none
 | .sl,.al,none=>
  match aS hi 0 0,aS lo 0 0 with
  | some _,some _=>some .al
  | _,_=>none
 | .sl,.al,some m=>
  match aS (some m) 0 0,aS hi 0 0,aS lo 0 0 with
  | some _,some _,some _=>some .al
  | _,_,_=>none
 | .sl,.sl b o len e cap,none=>
  if e=esz then
   match aS hi len (cap.getD len) with
   | some h=>match aS lo 0 h with
     | some l=>
      if l<h then some (.sl b (o+l*esz) (h-l) esz (cap.map (· - l)))
      else some (.vs [] 0 (cap.map (· - l)))
     | none=>none
   | none=>none
  else none
 | .sl,.sl b o len e cap,some m=>
  if e=esz then
   match aS (some m) len (cap.getD len) with
   | some m=>match aS hi len m with
     | some h=>match aS lo 0 h with
       | some l=>
        if l<h then some (.sl b (o+l*esz) (h-l) esz (some (m-l)))
        else some (.vs [] 0 (some (m-l)))
       | none=>none
     | none=>none
   | none=>none
  else none
 | .sl,.vs c len cap,none=>
  match aS hi len len with
  | some h=>match aS lo 0 h with
    | some l=>some (.vs ((c.drop (l*esz)).take ((h-l)*esz)) (h-l) (cap.map (· - l)))
    | none=>none
  | none=>none
 | .sl,.vs c len _,some m=>
  match aS (some m) len len with
  | some m=>match aS hi len m with
    | some h=>match aS lo 0 h with
      | some l=>some (.vs ((c.drop (l*esz)).take ((h-l)*esz)) (h-l) (some (m-l)))
      | none=>none
    | none=>none
  | none=>none
 | _,_,_=>none
def mh (k:hJ)(x:AV):Option AV:=
 match k,x with
 | .str,.str s=>some (.int .i64 s.length)
 | .sl,.al=>some (.int .i64 0)
 | .sl,.sl _ _ n _ _=>some (.int .i64 n)
 | .sl,.vs _ n _=>some (.int .i64 n)
 | _,_=>none
def iS (max:Bool):AV->List AV->Option AV
 | x,[]=>some x
 | .int k a,.int k' b::rest=>
  if k=k' then iS max (.int k (if max then (if b > a then b else a) else (if b<a then b else a))) rest else none
 | _,_=>none
def oT (x:AV):Option AV:=
 match x with
 | .ptr _ _ | .vp _=>some x
 | .fn (.func _) _ _=>some x
 | .fn (.yield _) _ _=>some x
 | _=>none
def aE (s:St)(io:aD):Option AV:=
 match io with
 | .mv x=>s.aa x
 | .pick c a b=>match s.aa c,s.aa a,s.aa b with
   | some (.bool t),some a,some b=>some (if t then a else b)
   | some (.bool t),some a,none=>if t then some a else none
   | some (.bool t),none,some b=>if t then none else some b
   | _,_,_=>none
 | .bin op x y=>match s.aa x,s.aa y with
   | some a,some b=>cj op a b
   | _,_=>none
 | .eq neg t x y=>match s.aa x,s.aa y with
   | some a,some b=>match cA 100 t a b with
     | some r=>some (.bool (if neg then !r else r))
     | none=>none
   | _,_=>none
 | .un op x=>(s.aa x).bind (mf op)
 | .dh k x=>(s.aa x).bind (hZ k)
 | .oN x=>match s.aa x with
   | some (.int _ n)=>some (.str (Utf8.encode n).data.toList)
   | _=>none
 | .oO x=>match s.aa x with
   | some (.str t)=>some (.str t)
   | _=>none
 | .mc x=>(s.aa x).bind oT
 | .field off n ag x=>match s.aa x with
   | some (.agg l)=>partOf l off n ag
   | _=>none
 | .me off x=>(s.aa x).bind (oS off)
 | .dE arr esz x i=>match s.aa x,s.aa i with
   | some a,some b=>iR arr esz a b
   | _,_=>none
 | .index x i=>match s.aa x,s.aa i with
   | some a,some b=>mg a b
   | _,_=>none
 | .oQ len esz ag x i=>match s.aa x,s.aa i with
   | some (.agg l),some (.int _ n)=>if 0<=n/\n<len then partOf l (n.toNat*esz) esz ag else none
   | _,_=>none
 | .slice k esz x lo hi mx=>match s.aa x with
   | some a=>
    match s.bT lo,s.bT hi,s.bT mx with
    | some l,some h,some m=>if m.isNone || h.isSome then gm k esz a l h m else none
    | _,_,_=>none
   | none=>none
 | .extract i x=>match s.aa x with
   | some (.ar l)=>l[i]?
   | _=>none
 | .kG t x=>(s.aa x).map (.iface t)
 | .oR t z ok x=>match s.aa x with
   | some (.iface u v)=>if u=t then some (if ok then .ar [v,.bool true] else v) else if ok then some (.ar [z,.bool false]) else none
   | some .cg=>if ok then some (.ar [z,.bool false]) else none
   | _=>none
 | .jF f fi ca=>match s.br fi,s.br ca with
   | some a,some b=>some (.fn f a b)
   | _,_=>none
 | .build zero ps=>match s.parts ps with
   | some vs=>(gK zero vs).map .agg
   | none=>none
 | .len k x=>match k with
   | .arr n=>some (.int .i64 n)
   | k=>(s.aa x).bind (mh k)
 | .cap x=>match s.aa x with
   | some .al=>some (.int .i64 0)
   | some (.sl _ _ _ _ (some c))=>some (.int .i64 c)
   | some (.vs _ _ (some c))=>some (.int .i64 c)
   | _=>none
 | .mm mx xs=>match s.br xs with
   | some (.int k a::rest)=>iS mx (.int k a) rest
   | _=>none
 | .oP x=>match s.aa x with
   | some .al=>some .cT
   | some (.sl b o (_+1) _ _)=>some (.ptr b o)
   | _=>none
 | _=>none
def aD.aL:aD->Bool
 | .alloc .. | .box .. | .fp .. | .load .. | .store .. | .fU | .gk .. | .lookup .. | .ff .. | .range .. | .next .. | .append .. | .copy .. | .fB .. | .kH .. | .call .. | .invoke .. | .hY .. | .jD .. | .jE .. | .kC .. | .kD .. | .kE .. => true
 | _=>false
def mi:List (Nat×Nat×aq)->List aq
 | []=>[]
 | (_,_,x)::r=>x::mi r
def aD.dY:aD->List aq
 | .mv x | .un _ x | .dh _ x | .oN x | .oO x | .jD _ x | .hY x | .mc x | .field _ _ _ x | .me _ x | .extract _ x | .kG _ x
 | .len _ x | .cap x | .box _ _ x | .load _ _ x | .range x | .next x | .kH x | .jE _ x | .oP x | .oR _ _ _ x | .kE _ _ x=>[x]
 | .pick c a b=>[c,a,b]
 | .bin _ x y | .eq _ _ x y | .dE _ _ x y | .index x y | .oQ _ _ _ x y | .store _ x y | .gk _ _ _ _ x y | .lookup _ _ x y _ | .append _ _ _ x y | .copy _ x y | .kC _ x y | .kD _ x y=>[x,y]
 | .slice _ _ x lo hi mx=>x::(lo.toList++hi.toList++mx.toList)
 | .fB _ _ x lo hi=>x::(lo.toList++hi.toList)
 | .jF _ fi ca=>fi++ca
 | .build _ ps | .fp _ _ _ _ ps=>mi ps
 | .mm _ xs=>xs
 | .alloc .. | .fU=>[]
 | .ff _ m i x=>[m,i,x]
 | .call f as | .invoke f _ as=>f::as
def az.dY (o:az):List aq:=(match o.guard with|some (x,_)=>[x]|none=>[])++o.op.dY
def cB:cX->aq->Bool
 | .p i,.p j=>i == j
 | .l t,.l u=>t == u
 | _,_=>false
def sX:cX->cX->Bool
 | .p i,.p j=>i == j
 | .l t,.l u=>t == u
 | _,_=>false
def jG (a b:az):Bool:=(b.dY.all fun x=>!cB a.dst x) && (a.dY.all fun x=>!cB b.dst x) && !sX a.dst b.dst
structure HR where
 v:AV
 h:ae
 wr:List Nat
def bm:AV:=.ar []
def ae.put (h:ae)(b:Nat)(o:Option aP):ae:=h.set b o
def jH:AV->AV->Option Bool
 | .int k a,.int k' b=>if k=k' then some (a == b) else none
 | .str a,.str b=>some (a == b)
 | _,_=>none
def fD (k:AV):List (AV×AV)->Nat->Option (Option (Nat×AV))
 | [],_=>some none
 | (k',v)::r,i=>match jH k k' with
   | some true=>some (some (i,v))
   | some false=>fD k r (i+1)
   | none=>none
def eE.ok:eE->AV->Bool
 | .int,.int _ _=>true
 | .str,.str _=>true
 | _,_=>false
def dZ (zero:List AV):Nat->List AV
 | 0=>[]
 | n+1=>zero++dZ zero n
def bytesOf:List AV->Option (List UInt8)
 | []=>some []
 | .int .u8 n::r=>match bytesOf r with
   | some l=>some (UInt8.ofNat n.toNat::l)
   | none=>none
 | _=>none
def eM:Nat:=2^46
def gL (elem:TypeId)(esz bytes:Nat)(h:ae)(x y:AV):Option HR:=
 match dF h y with
 | none=>none
 | some (new,n)=>
  if new.length=n*esz/\0<bytes/\new.all cF=true then
   match x with
   | .al=>
    if n=0 then some ⟨.al,h,[]⟩
    else if n*bytes<=eM then some ⟨.sl h.length 0 n esz none,h++[some (.cells new elem)],[]⟩ else none
   | .vs l len cap=>
    if n=0 then some ⟨x,h,[]⟩ else
    match cap with
    | some c=>if c<len+n/\(len+n)*bytes<=eM/\l.length=len*esz then some ⟨.sl h.length 0 (len+n) esz none,h++[some (.cells (l++new) elem)],[]⟩ else none
    | none=>none
   | .sl b off len e cap=>
    if n=0 then some ⟨x,h,[]⟩ else
    if e=esz/\(len+n)*bytes<=eM then
     match h.at b with
     | some (.cells l el)=>
      match cap with
      | some c=>
       if len+n<=c then
        if off+(len+n)*esz<=l.length then some ⟨.sl b off (len+n) esz cap,h.put b (some (.cells (overwrite l (off+len*esz) new) el)),[b]⟩ else none
       else match cut l off (len*esz) with
        | some bp=>some ⟨.sl h.length 0 (len+n) esz none,h++[some (.cells (bp++new) elem)],[]⟩
        | none=>none
      | none=>
       if l.length=off+len*esz/\el=elem then
        some ⟨.sl h.length 0 (len+n) esz none,h.put b none++[some (.cells (l.drop off++new) elem)],[b]⟩
       else none
     | _=>none
    else none
   | _=>none
  else none
def aN (s:St)(io:aD)(h:ae):Option HR:=
 match io with
 | .alloc elem zero=>some ⟨.ptr h.length 0,h++[some (.cells zero elem)],[]⟩
 | .box elem n x=>match (s.aa x).bind AV.cells with
   | some l=>if l.length=n then some ⟨.ptr h.length 0,h++[some (.cells l elem)],[]⟩ else none
   | none=>none
 | .fp elem len esz zero ps=>match s.parts ps with
   | some vs=>match gK (dZ zero len) vs with
     | some l=>if l.length=len*esz then some ⟨.sl h.length 0 len esz (some len),h++[some (.cells l elem)],[]⟩ else none
     | none=>none
   | none=>none
 | .load n ag x=>match (s.aa x).bind (dO h) with
   | some l=>match partOf l 0 n ag with
     | some v=>some ⟨v,h,[]⟩
     | none=>none
   | none=>none
 | .store n x y=>match s.aa x,(s.aa y).bind AV.cells with
   | some (.ptr b off),some new=>match h.at b with
     | some (.cells l el)=>if new.length=n/\off+n<=l.length/\new.all cF=true then some ⟨bm,h.put b (some (.cells (overwrite l off new) el)),[b]⟩ else none
     | _=>none
   | _,_=>none
 | .fU=>some ⟨.map h.length,h++[some (.map [])],[]⟩
 | .gk elem esz bytes zero l c=>match (s.aa l).bind kJ,(s.aa c).bind kJ with
   | some a,some b=>
    if 0<=a/\a<=b/\b.toNat*bytes<=eM/\b<=2^46/\zero.length=esz then some ⟨.sl h.length 0 a.toNat esz (some b.toNat),h++[some (.cells (dZ zero b.toNat) elem)],[]⟩ else none
   | _,_=>none
 | .lookup kt zero x i ok=>match s.aa x,s.aa i with
   | some m,some k=>
    if kt.ok k then
     let es? : Option (List (AV×AV)):=match m with
      | .cf=>some []
      | .map b=>match h.at b with|some (.map es)=>some es|_=>none
      | _=>none
     match es? with
     | some es=>match fD k es 0 with
       | some r=>
        let v:=match r with|some (_,v)=>v|none=>zero
        some ⟨if ok then .ar [v,.bool r.isSome] else v,h,[]⟩
       | none=>none
     | none=>none
    else none
   | _,_=>none
 | .ff kt m i x=>match s.aa m,s.aa i,s.aa x with
   | some (.map b),some k,some v=>
    if kt.ok k then
     match h.at b with
     | some (.map es)=>match fD k es 0 with
       | some (some (j,_))=>some ⟨bm,h.put b (some (.map (es.set j (k,v)))),[b]⟩
       | some none=>some ⟨bm,h.put b (some (.map (es++[(k,v)]))),[b]⟩
       | none=>none
     | _=>none
    else none
   | _,_,_=>none
 | .range x=>match s.aa x with
   | some (.str t)=>some ⟨.ptr h.length 0,h++[some (.iter t 0)],[]⟩
   | _=>none
 | .next x=>match s.aa x with
   | some (.ptr b 0)=>match h.at b with
     | some (.iter t pos)=>
      if pos<t.length then
       let (c,w):=Utf8.decode ⟨t.toArray⟩ pos
       some ⟨.ar [.bool true,.int .i64 pos,.int .i32 c],h.put b (some (.iter t (pos+w))),[b]⟩
      else some ⟨.ar [.bool false],h,[]⟩
     | _=>none
   | _=>none
 | .append elem esz bytes x y=>match s.aa x,s.aa y with
   | some a,some b=>gL elem esz bytes h a b
   | _,_=>none
 | .kE esz z x=>match s.aa x with
   | some (.sl b off len e _)=>
    if e=esz/\z.all cF=true/\z.length=esz/\0<len then
     match h.at b with
     | some (.cells l el)=>if off+len*esz<=l.length then some ⟨.ar [],h.put b (some (.cells (overwrite l off (dZ z len)) el)),[b]⟩ else none
     | _=>none
    else none
   | some (.vs [] 0 _)=>some ⟨.ar [],h,[]⟩
   | some .al=>some ⟨.ar [],h,[]⟩
   | _=>none
 | .copy esz x y=>match s.aa x,s.aa y with
   | some (.sl b off len e _),some y=>
    match dF h y with
    | some (src,n)=>
     if e=esz/\src.length=n*esz/\src.all cF=true then
      let m:=min n len
      match h.at b with
      | some (.cells l el)=>if off+m*esz<=l.length then some ⟨.int .i64 m,h.put b (some (.cells (overwrite l off (src.take (m*esz))) el)),[b]⟩ else none
      | _=>none
     else none
    | none=>none
   | some .al,some y=>match dF h y with
     | some (src,n)=>if src.length=n*esz then some ⟨.int .i64 0,h,[]⟩ else none
     | none=>none
   | _,_=>none
 | .fB n esz x lo hi=>match s.aa x,s.bT lo,s.bT hi with
   | some (.ptr b o),some lo,some hi=>match h.at b with
     | some (.cells l _)=>
      if o+n*esz<=l.length then
       match aS hi n n with
       | some hh=>match aS lo 0 hh with
         | some ll=>some ⟨if ll<n then .sl b (o+ll*esz) (hh-ll) esz (some (n-ll)) else .vs [] 0 (some 0),h,[]⟩
         | none=>none
       | none=>none
      else none
     | _=>none
   | _,_,_=>none
 | .kH x=>match s.aa x with
   | some (.map b)=>match h.at b with
     | some (.map es)=>some ⟨.int .i64 es.length,h,[]⟩
     | _=>none
   | some .cf=>some ⟨.int .i64 0,h,[]⟩
   | _=>none
 | .jD elem x=>match s.aa x with
   | some (.str t)=>some ⟨.sl h.length 0 t.length 1 none,h++[some (.cells (t.map fun c=>.int .u8 c.toNat) elem)],[]⟩
   | _=>none
 | .hY x=>match s.aa x with
   | some (.str _)=>none
   | some y=>match dF h y with
     | some (l,n)=>if l.length=n then
         match bytesOf l with
         | some t=>some ⟨.str t,h,[]⟩
         | none=>none
       else none
     | none=>none
   | none=>none
 | .jE u x=>match s.aa x with
   | some (.ptr b o)=>match h.at b with
     | some (.cells l e)=>
      if o<l.length/\(match u with|none=>true|some (t,n)=>decide (o=0/\e=t/\l.length=n))=true then some ⟨.ptr b o,h,[]⟩ else none
     | _=>none
   | _=>none
 | .kC neg x y=>match s.aa x,s.aa y with
   | some (.ptr b o),some (.ptr b' o')=>match h.at b with
     | some (.cells _ _)=>if b=b'/\o=o' then some ⟨.bool !neg,h,[]⟩ else none
     | _=>none
   | _,_=>none
 | .kD e x n=>match s.aa x,s.aa n with
   | some .cT,some (.int _ k)=>if k=0 then some ⟨.str [],h,[]⟩ else none
   | some (.ptr b o),some (.int _ k)=>
    if 0<k/\k<=2^46 then
     match h.at b with
     | some (.cells l el)=>
      if el=e then
       match cut l o k.toNat with
       | some c=>match bytesOf c with
         | some t=>some ⟨.str t,h.put b none,[b]⟩
         | none=>none
       | none=>none
      else none
     | _=>none
    else none
   | _,_=>none
 | _=>none
abbrev ck:=AV->List AV->ae->Option HR
abbrev cO:=TypeId->String->Option FuncId
def aU (call:ck)(inv:cO)(s:St)(io:aD):Option HR:=
 match io with
 | .call f args=>match s.aa f,s.br args with
   | some g,some as=>call g as s.hp
   | _,_=>none
 | .invoke x name args=>match s.aa x,s.br args with
   | some (.iface t v),some as=>match inv t name with
     | some f=>call (.fn (.func f) [] []) (v::as) s.hp
     | none=>none
   | _,_=>none
 | io=>if io.aL then aN s io s.hp else (aE s io).map fun v=>⟨v,s.hp,[]⟩
def cP (s:St)(g:Option (aq×Bool)):Option Bool:=
 match g with
 | none=>some true
 | some (x,want)=>match s.aa x with
   | some (.bool b)=>some (b == want)
   | some (.ar _)=>some false
   | _=>none
structure ak where
 s:St
 wr:List Nat
def di (call:ck)(inv:cO):List az->ak->Option ak
 | [],s=>some s
 | o::rest,s=>match cP s.s o.guard with
   | some true=>match aU call inv s.s o.op with
     | some r=>di call inv rest ⟨{ s.s.put o.dst r.v with hp:=r.h },r.wr++s.wr⟩
     | none=>none
   | some false=>di call inv rest ⟨s.s.put o.dst bm,s.wr⟩
   | none=>none
def mask (h:ae)(U:List Nat):ae:=U.foldl (fun h b=>h.set b none) h
def cG (T:List Nat):ae->Nat->ae
 | [],_=>[]
 | o::r,i=>(if T.contains i then o else none)::cG T r (i+1)
def cZ (wr:List Nat):ae->ae->Nat->ae
 | o::h,n::h',i=>(if wr.contains i then n else o)::cZ wr h h' (i+1)
 | [],h',_=>h'
 | h,[],_=>h
def gM (s:St)(io:aD):Option (List Nat):=
 let bU (x:aq):List Nat:=match s.aa x with
  | some (.ptr b _)=>[b]
  | some (.sl b _ _ _ _)=>[b]
  | some (.map b)=>[b]
  | _=>[]
 match io with
 | .alloc .. | .box .. | .fp .. | .fU | .gk .. | .range _ | .jD .. => some []
 | .load _ _ x | .next x | .kH x | .hY x | .store _ x _ | .lookup _ _ x _ _ | .ff _ x _ _=>some (bU x)
 | .append _ _ _ x y | .copy _ x y | .kC _ x y=>some (bU x++bU y)
 | .jE _ x | .kD _ x _ | .kE _ _ x=>some (bU x)
 | .fB _ _ x _ _=>some (bU x)
 | .call .. | .invoke .. => none
 | _=>some []
structure bn where
 gn:Option (List Nat)
 wr:List Nat
 lo:Nat
 hi:Nat
def bn.own (d:bn):List Nat:=d.wr++List.range' d.lo (d.hi-d.lo)
def eO (a b:List Nat):Bool:=a.all fun x=>!b.contains x
def cm (call:ck)(inv:cO):List (az×List Nat)->ak->List bn->Option ak
 | [],s,_=>some s
 | (o,un)::rest,s,ds=>match cP s.s o.guard with
   | some true=>
    if o.op.aL then
     let U:=un.flatMap fun j=>(ds[j]?).elim [] bn.own
     let t:=gM s.s o.op
     if (match t with|some T=>eO T U|none=>true) then
      let h0:=match t with|some T=>cG T s.s.hp 0|none=>mask s.s.hp U
      match aU call inv { s.s with hp:=h0 } o.op with
      | some r=>
       if (r.wr.all fun b=>(h0.at b).isSome) && (r.wr.isEmpty || un.all (fun j=>match ds[j]? with|some d=>(match d.gn with|some T=>eO r.wr T|none=>false)|none=>false)) then
        cm call inv rest ⟨{ s.s.put o.dst r.v with hp:=cZ r.wr s.s.hp r.h 0 },r.wr++s.wr⟩ (ds++[⟨t,r.wr,s.s.hp.length,r.h.length⟩])
       else none
      | none=>none
     else none
    else match aE s.s o.op with
     | some v=>cm call inv rest ⟨s.s.put o.dst v,s.wr⟩ (ds++[⟨some [],[],s.s.hp.length,s.s.hp.length⟩])
     | none=>none
   | some false=>cm call inv rest ⟨s.s.put o.dst bm,s.wr⟩ (ds++[⟨some [],[],s.s.hp.length,s.s.hp.length⟩])
   | none=>none
mutual
def AV.top:AV->Nat
 | .ptr b _=>b+1
 | .sl b _ _ _ _=>b+1
 | .map b=>b+1
 | .vp l=>bg l
 | .vs l _ _=>bg l
 | .fn f a b=>max (match f with | .yield l=>l+1|_=>0) (max (bg a) (bg b))
 | .iface _ v=>v.top
 | .agg l=>bg l
 | .ar l=>bg l
 | _=>0
def bg:List AV->Nat
 | []=>0
 | v::r=>max v.top (bg r)
end
def aP.top:aP->Nat
 | .cells l _=>bg l
 | .map es=>iT es
 | .iter _ _=>0
 | .cY=>0
 | .hole=>0
 | .loop _ _ pe _ _ _=>bg pe
where
 iT:List (AV×AV)->Nat
  | []=>0
  | (k,v)::r=>max (max k.top v.top) (iT r)
def tight (h:ae)(n:Nat)(wr:List Nat):Bool:=
 wr.all fun b=>match h.at b with
  | some o=>b>=n || o.top<=n
  | none=>true
def dJ (s:St):List fV->Option (List AV)
 | []=>some []
 | r::rest=>
  let v? : Option AV:=match r with
   | .var x=>s.aa x
   | .cell n ag x=>(s.aa x).bind fun p=>(dO s.hp p).bind fun l=>partOf l 0 n ag
  match v?,dJ s rest with
  | some v,some vs=>some (v::vs)
  | _,_=>none
def cd:List AV->AV
 | [v]=>v
 | vs=>.ar vs
def cC (v:AV)(n:Nat)(s:ak):HR:=
 if v.top<=n && tight s.s.hp n s.wr then ⟨v,s.s.hp.take n,s.wr.filter (· < n)⟩
 else ⟨v,s.s.hp,s.wr.filter (· < n)⟩
def fg:List Nat->ak->Option ak
 | [],s=>some s
 | d::r,s=>match s.s.hp.at d with
   | some .cY=>fg r ⟨{ s.s with hp:=s.s.hp.put d none },d::s.wr⟩
   | _=>none
def ib (s:St):List cX->List AV->Option St
 | [],[]=>some s
 | d::ds,v::vs=>ib (s.put d v) ds vs
 | _,_=>none
def dT (run:ao->ak->Option (Ex×ak))(FT:FuncId->Option bQ)(f:FuncId)(all:List AV)(h:ae):Option HR:=
 match FT f with
 | some fi=>
  if fi.N<all.length then none else
  match run fi.body ⟨⟨fi.au.map (fun t=>(all[t]?).getD bm),[],h,[]⟩,[]⟩ with
  | some (e,s)=>
   if e = .normal\/e = .ret then
    match fg s.s.bI s with
    | some s=>match dJ s.s fi.results with
      | some vs=>some (cC (cd vs) h.length s)
      | none=>none
    | none=>none
   else none
  | none=>none
 | none=>none
def ek (run:ao->ak->Option (Ex×ak))(ext:FuncId->List AV->ae->Option HR)(FT:FuncId->Option bQ):ck:=fun g as h=>
 match g with
 | .fn (.func f) first cap=>
  match ext f (first++as++cap) h with
  | some r=>some r
  | none=>dT run FT f (first++as++cap) h
 | .fn (.yield b) [] []=>
  match h.at b with
  | some (.loop .ready none pe ps a bd)=>
   match ib ⟨pe,[],h,[]⟩ ps as with
   | some s0=>match run a ⟨s0,[]⟩ with
     | some (.normal,s1)=>match s1.s.hp.at b with
       | some (.loop .ready none pe' ps' a' bd')=>
        match run bd ⟨{ s1.s with hp:=s1.s.hp.put b (some (.loop .busy none pe' ps' a' bd')) },b::s1.wr⟩ with
        | some (e,s2)=>match s2.s.hp.at b,s2.s.bI with
          | some (.loop .busy none pe' ps' a' bd'),[]=>
           let o:aP:=if e = .normal then .loop .ready none pe' ps' a' bd' else .loop .done (some e) pe' ps' a' bd'
           some (cC (.bool (decide (e = .normal))) h.length ⟨{ s2.s with hp:=s2.s.hp.put b (some o) },b::s2.wr⟩)
          | _,_=>none
        | none=>none
       | _=>none
     | _=>none
   | none=>none
  | _=>none
 | _=>none
def aC (ext:FuncId->List AV->ae->Option HR)(inv:cO)(FT:FuncId->Option bQ):Nat->ao->ak->Option (Ex×ak)
 | 0,_,_=>none
 | n+1,c,s=>
  match c with
  | .skip=>some (.normal,s)
  | .seq a b=>match aC ext inv FT n a s with
    | some (.normal,s')=>aC ext inv FT n b s'
    | r=>r
  | .cond x a b=>match s.s.aa x with
    | some (.bool t)=>aC ext inv FT n (if t then a else b) s
    | _=>none
  | .block id c=>match aC ext inv FT n c s with
    | some (.exit id',s')=>if id'=id then some (.normal,s') else some (.exit id',s')
    | r=>r
  | .loop c=>match aC ext inv FT n c s with
    | some (.normal,s')=>aC ext inv FT n (.loop c) s'
    | r=>r
  | .exit id=>some (.exit id,s)
  | .ret=>some (.ret,s)
  | .region ops=>match di (ek (aC ext inv FT n) ext FT) inv ops ⟨{ s.s with lo:=[] },s.wr⟩ with
    | some s'=>some (.normal,s')
    | none=>none
  | .draw ops=>match cm (ek (aC ext inv FT n) ext FT) inv ops ⟨{ s.s with lo:=[] },s.wr⟩ [] with
    | some s'=>some (.normal,s')
    | none=>none
  | .rangeFunc inner f ps a b=>
   if inner then none else
   match s.s.aa f with
   | some (.fn (.func g) fi ca)=>
    match dT (aC ext inv FT n) FT g (fi++[.fn (.yield (s.s.hp.length+1)) [] []]++ca) (s.s.hp++[some .cY,some (.loop .ready none s.s.pe ps a b)]) with
    | some r=>match r.h.at (s.s.hp.length+1) with
      | some (.loop st pend pe' ps' a' b')=>
       if st = .busy then none else
       some (pend.getD .normal,⟨{ s.s with hp:=r.h.put (s.s.hp.length+1) (some (.loop .exhausted pend pe' ps' a' b')),bI:=s.s.hp.length::s.s.bI },(s.s.hp.length+1)::r.wr++s.wr⟩)
      | _=>none
    | none=>none
   | _=>none
  | .bad=>none
end Go.Ab
namespace Go.Ab
abbrev zm (a b:Nat):az:=⟨.l a,.mv (.p b),none⟩
abbrev zw (a b:Nat):az:=⟨.p a,.mv (.l b),none⟩
abbrev zn (a b:Nat):az:=⟨.l a,.mv (.l b),none⟩
abbrev zi (a:Nat)(n:Int):az:=⟨.p a,.mv (.c (.int .i64 n)),none⟩
abbrev z1 (a f x:Nat):az:=⟨.l a,.call (.c (.fn (.func f) [] [])) [.l x],none⟩
abbrev z2 (a f x y:Nat):az:=⟨.l a,.call (.c (.fn (.func f) [] [])) [.l x,.l y],none⟩
abbrev ze (a i x:Nat):az:=⟨.l a,.extract i (.l x),none⟩
abbrev za (a k x y:Nat):az:=⟨.l a,.dE none k (.l x) (.l y),none⟩
abbrev zd (a n x:Nat):az:=⟨.l a,.load n false (.l x),none⟩
abbrev zt (a n x:Nat):az:=⟨.l a,.load n true (.p x),none⟩
abbrev zT (a n x:Nat):az:=⟨.l a,.load n true (.l x),none⟩
abbrev zs (n a x:Nat):az:=⟨.no,.store n (.p a) (.l x),none⟩
abbrev zS (n a x:Nat):az:=⟨.no,.store n (.l a) (.l x),none⟩
abbrev zf (a n x:Nat):az:=⟨.l a,.me n (.p x),none⟩
abbrev zl (a x:Nat):az:=⟨.l a,.len .sl (.l x),none⟩
abbrev zL (a x:Nat):az:=⟨.l a,.len .str (.l x),none⟩
abbrev zb (a:Nat)(o:BinOp)(x y:Nat):az:=⟨.l a,.bin o (.l x) (.l y),none⟩
abbrev zc (a:Nat)(o:BinOp)(x:Nat)(n:Int):az:=⟨.l a,.bin o (.l x) (.c (.int .i64 n)),none⟩
abbrev zq (a:Nat)(o:BinOp)(x:Nat)(n:Int):az:=⟨.l a,.bin o (.p x) (.c (.int .i64 n)),none⟩
abbrev zr (a:Nat)(o:BinOp)(x y:Nat):az:=⟨.l a,.bin o (.p x) (.p y),none⟩
abbrev zp (a c x:Nat):az:=⟨.l a,.pick (.l c) (.l x) (.c (.bool false)),none⟩
abbrev zP (a c x:Nat):az:=⟨.l a,.pick (.l c) (.c (.bool true)) (.l x),none⟩
abbrev zx (a e n x:Nat):az:=⟨.p a,.box e n (.p x),none⟩
abbrev zu (a x:Nat):az:=⟨.l a,.un .not (.l x),none⟩
theorem nca:(∀l:List AV,[]++l=l) /\ ∀(a:AV) (l m:List AV),(a::l)++m=a::(l++m):=⟨List.nil_append,fun _ _ _=>List.cons_append⟩
abbrev kI (n:Int):aq:=.c (.int .i64 n)
abbrev kU (n:Int):aq:=.c (.int .u64 n)
abbrev kW (n:Int):aq:=.c (.int .u32 n)
abbrev AV.iV (n:Int):AV:=.int .i64 n
abbrev AV.uV (n:Int):AV:=.int .u64 n
abbrev zR (l:List az)(c:ao):ao:=.seq (.region l) c
abbrev kF (f:Nat):aq:=.c (.fn (.func f) [] [])
abbrev zg (o:az)(k:Nat)(b:Bool):az:=⟨o.dst,o.op,some (.l k,b)⟩
abbrev zD0:List UInt8:=[0,1,2,2,3,3,3,3,4,4,4,4,4,4,4,4,5,5,5,5,5,5,5,5,5,5,5,5,5,5,5,5,6,6,6,6,6,6,6,6,6,6,6,6,6,6,6,6,6,6,6,6,6,6,6,6,6,6,6,6,6,6,6,6,7,7,7,7,7,7,7,7,7,7,7,7,7,7,7,7,7,7,7,7,7,7,7,7,7,7,7,7,7,7,7,7,7,7,7,7,7,7,7,7,7,7,7,7,7,7,7,7,7,7,7,7,7,7,7,7,7,7,7,7,7,7,7,7,8,8,8,8,8,8,8,8,8,8,8,8,8,8,8,8,8,8,8,8,8,8,8,8,8,8,8,8,8,8,8,8,8,8,8,8,8,8,8,8,8,8,8,8,8,8,8,8,8,8,8,8,8,8,8,8,8,8,8,8,8,8,8,8,8,8,8,8,8,8,8,8,8,8,8,8,8,8,8,8,8,8,8,8,8,8,8,8,8,8,8,8,8,8,8,8,8,8,8,8,8,8,8,8,8,8,8,8,8,8,8,8,8,8,8,8,8,8,8,8,8,8,8,8,8,8,8,8]
abbrev zD1:List UInt8:=[48,49,50,51,52,53,54,55,56,57,97,98,99,100,101,102,103,104,105,106,107,108,109,110,111,112,113,114,115,116,117,118,119,120,121,122]
abbrev zD2:List UInt8:=[48,48,48,49,48,50,48,51,48,52,48,53,48,54,48,55,48,56,48,57,49,48,49,49,49,50,49,51,49,52,49,53,49,54,49,55,49,56,49,57,50,48,50,49,50,50,50,51,50,52,50,53,50,54,50,55,50,56,50,57,51,48,51,49,51,50,51,51,51,52,51,53,51,54,51,55,51,56,51,57,52,48,52,49,52,50,52,51,52,52,52,53,52,54,52,55,52,56,52,57,53,48,53,49,53,50,53,51,53,52,53,53,53,54,53,55,53,56,53,57,54,48,54,49,54,50,54,51,54,52,54,53,54,54,54,55,54,56,54,57,55,48,55,49,55,50,55,51,55,52,55,53,55,54,55,55,55,56,55,57,56,48,56,49,56,50,56,51,56,52,56,53,56,54,56,55,56,56,56,57,57,48,57,49,57,50,57,51,57,52,57,53,57,54,57,55,57,56,57,57]
abbrev zD3:List UInt8:=[45,45,45,45,45,45,45,45,45,45,45,45,45,45,45,45,45,45,45,45,45,45,45,45,45,45,45,45,45,45,45,45,45,45,45,45,45,45,45,45,45,45,45,45,45,45,45,45,45,45,45,45,45,45,45,45,45,45,45,45,45,45,45,45,45,45,45,45,45,45,45,45,45,45,45,45,45,45,45,45,45,45,45,45,45,45,45,45,45,45,45,45,45,45,45,45,45,45,45,45,45,45,45,45,45,45,45,45,45,45,45,45,45,45,45,45,45,45,45,45,45,45,45,45,45,45,45,45]
abbrev zD4:List UInt8:=[48,48,48,48,48,48,48,48,48,48,48,48,48,48,48,48,48,48,48,48,48,48,48,48,48,48,48,48,48,48,48,48,48,48,48,48,48,48,48,48,48,48,48,48,48,48,48,48,48,48,48,48,48,48,48,48,48,48,48,48,48,48,48,48]
abbrev zD5:List UInt8:=[32,32,32,32,32,32,32,32,32,32,32,32,32,32,32,32,32,32,32,32,32,32,32,32,32,32,32,32,32,32,32,32,32,32,32,32,32,32,32,32,32,32,32,32,32,32,32,32,32,32,32,32,32,32,32,32,32,32,32,32,32,32,32,32,32,32,32,32,32,32,32,32,32,32,32,32,32,32,32,32,32,32,32,32,32,32,32,32,32,32,32,32,32,32,32,32,32,32,32,32,32,32,32,32,32,32,32,32,32,32,32,32,32,32,32,32,32,32,32,32,32,32,32,32,32,32,32,32]
abbrev zD6:List UInt8:=[61,61,61,61,61,61,61,61,61,61,61,61,61,61,61,61,61,61,61,61,61,61,61,61,61,61,61,61,61,61,61,61,61,61,61,61,61,61,61,61,61,61,61,61,61,61,61,61,61,61,61,61,61,61,61,61,61,61,61,61,61,61,61,61,61,61,61,61,61,61,61,61,61,61,61,61,61,61,61,61,61,61,61,61,61,61,61,61,61,61,61,61,61,61,61,61,61,61,61,61,61,61,61,61,61,61,61,61,61,61,61,61,61,61,61,61,61,61,61,61,61,61,61,61,61,61,61,61]
abbrev zD7:List UInt8:=[9,9,9,9,9,9,9,9,9,9,9,9,9,9,9,9,9,9,9,9,9,9,9,9,9,9,9,9,9,9,9,9,9,9,9,9,9,9,9,9,9,9,9,9,9,9,9,9,9,9,9,9,9,9,9,9,9,9,9,9,9,9,9,9]
abbrev zD8:List UInt8:=[65,116,111,105]
abbrev zD9:List UInt8:=[48,49,50,51,52,53,54,55,56,57]
abbrev zD10:List UInt8:=[116,105,109,101]
abbrev zD11:List UInt8:=[110,111,110,101]
abbrev zD12:List UInt8:=[104,117,110,100,114,101,100,116,104,115]
abbrev zD13:List UInt8:=[101,120,97,99,116]
abbrev zD14:List UInt8:=[112,111,105,110,116,115]
abbrev zD15:List UInt8:=[99,101,110,116,105,109,101,116,114,101,115]
abbrev zD16:List UInt8:=[116,101,110,116,104,115]
abbrev zD17:List UInt8:=[108,101,110,103,116,104]
end Go.Ab
namespace Go.Ab
def jI (rec:Value->Option AV):List Value->Option (List AV)
 | []=>some []
 | v::r=>match rec v,jI rec r with
   | some a,some l=>some (a::l)
   | _,_=>none
def iU:Nat->Value->Option AV
 | 0,_=>none
 | n+1,v=>
  match v with
  | .bool b=>some (.bool b)
  | .int k m=>some (.int k m)
  | .string s=>some (.str s.data.toList)
  | .pointer none=>some .cT
  | .slice none 0 0=>some .al
  | .map none=>some .cf
  | .nilFunc=>some .cN
  | .nilIface=>some .cg
  | .func (.func f) ⟨[]⟩ ⟨[]⟩=>some (.fn (.func f) [] [])
  | .agg ⟨cs⟩=>(jI (fun v=>iU n v) cs).map .agg
  | .tuple ⟨cs⟩=>(jI (fun v=>iU n v) cs).map .ar
  | _=>none
def idx (t:Nat):List Nat->Nat->Option Nat
 | [],_=>none
 | u::r,i=>if u=t then some i else idx t r (i+1)
structure Cx where
 P:Program
 gl:Nat->Option AV
 au:List Nat
 N:Nat
def dU (C:Cx):Operand->Option aq
 | .tmp t=>match idx t C.au 0 with
   | some i=>some (.p i)
   | none=>some (.l t)
 | .const v=>(iU 5 v).map .c
 | .func f=>some (.c (.fn (.func f) [] []))
 | .global g=>(C.gl g).map .c
def eF (C:Cx):List Operand->Option (List aq)
 | []=>some []
 | x::xs=>match dU C x,eF C xs with
   | some a,some l=>some (a::l)
   | _,_=>none
def ic (C:Cx):Option Operand->Option (Option aq)
 | none=>some none
 | some x=>(dU C x).map some
def oU:TypeDesc->Bool
 | .struct _ | .array _ _=>true
 | _=>false
def shapeOf (P:Program)(t:TypeId):Option (Nat×Bool):=
 match P.info? t,P.underlying t with
 | some i,some d=>some (i.size,oU d)
 | _,_=>none
def zeroOf (P:Program)(t:TypeId):Option AV:=
 match P.info? t with
 | some i=>match i.zero with
   | some v=>iU 5 v
   | none=>none
 | none=>none
def kK (P:Program)(rec:TypeId->Option ej):List Field->Option (List (Nat×Nat×Bool×ej))
 | []=>some []
 | f::r=>match kK P rec r with
   | some l => if f.name == "_" then some l else
     match shapeOf P f.type,rec f.type with
     | some (n,ag),some e=>some ((f.offset,n,ag,e)::l)
     | _,_=>none
   | none=>none
def kL (sz:Nat)(ag:Bool)(q:ej):Nat->Nat->List (Nat×Nat×Bool×ej)
 | 0,_=>[]
 | n+1,i=>(i*sz,sz,ag,q)::kL sz ag q n (i+1)
def eG (P:Program):Nat->Bool->TypeId->Option ej
 | 0,_,_=>none
 | d+1,g,t=>
  match P.underlying t with
  | some .bool=>some .bool
  | some (.int _)=>some .int
  | some .string=>some .str
  | some (.pointer _)=>some (.ref .ptr)
  | some (.slice _)=>some (.ref .slice)
  | some (.map _ _)=>some (.ref .map)
  | some (.func _ _ _)=>some (.ref .func)
  | some (.interface ms)=>some (.iface (g && !ms.isEmpty))
  | some (.struct fs)=>if P.stoodInHeld t then none else (kK P (fun t=>eG P d true t) fs.toList).map .jC
  | some (.array n e)=>match shapeOf P e,eG P d true e with
    | some (sz,ag),some q=>some (.jC (kL sz ag q n 0))
    | _,_=>none
  | _=>none
def gN:Operand->Bool
 | .const _=>true
 | _=>false
def gp (C:Cx)(place:Nat->Option (Nat×Nat)):List (Nat×Operand)->Option (List (Nat×Nat×aq))
 | []=>some []
 | (i,x)::r=>match place i,dU C x,gp C place r with
   | some (o,n),some a,some l=>some ((o,n,a)::l)
   | _,_,_=>none
def jJ (P:Program):List Field->Option (List (Nat×Nat))
 | []=>some []
 | f::r=>match P.info? f.type,jJ P r with
   | some i,some l=>some ((f.offset,i.size)::l)
   | _,_=>none
def fq (P:Program)(t:TypeId):Option (TypeId×Nat×Nat):=
 match P.underlying t with
 | some (.slice e)=>match P.info? e with
   | some i=>some (e,i.size,i.bytes)
   | none=>none
 | _=>none
def keyOf (P:Program)(t:TypeId):Option eE:=
 match P.underlying t with
 | some (.int _)=>some .int
 | some .string=>some .str
 | _=>none
def kM:BinOp->Bool
 | .eql | .neq=>true
 | _=>false
def mj (P:Program)(t:TypeId):Bool:=
 match P.underlying t with
 | some (.int _)|some .string=>true
 | _=>false
def ml (P:Program)(e:TypeId)(n:Nat):Bool:=
 match (zeroOf P e).bind AV.cells with
 | some z=>z.length == n
 | none=>false
def oV (P:Program)(t:TypeId):Bool:=
 match P.underlying t with
 | some (.struct _)|some (.array _ _)=>P.eqGuardType P.depth t
 | _=>false
def Ap:Fn->Bool
 | .yield _=>true
 | _=>false
def fE (P:Program)(e:TypeId):Bool:=
 match P.info? e with
 | some i=>match i.desc with
   | .named n _ => n == "strings.Builder"
   | _=>false
 | none=>false
def oW (P:Program)(t:TypeId):Bool:=
 match P.underlying t with
 | some (.pointer e)=>fE P e
 | _=>false
def fu (C:Cx)(o:Oper):Option aD:=
 let P:=C.P
 let d:=dU C
 match o.op with
 | .move x | .assign x=>(d x).map .mv
 | .pick c a b=>match d c,d a,d b with
   | some c,some a,some b=>some (.pick c a b)
   | _,_,_=>none
 | .alloc e=>match zeroOf P e with
   | some z=>z.cells.map (.alloc e)
   | none=>none
 | .box e x=>match shapeOf P e,d x with
   | some (n,_),some x=>some (.box e n x)
   | _,_=>none
 | .build t ps=>match zeroOf P t with
   | some z=>match z.cells,P.underlying t with
     | some zc,some (.struct fs)=>match jJ P fs.toList with
       | some pl=>(gp C (pl[·]?) ps.toList).map (.build zc)
       | none=>none
     | some zc,some (.array _ e)=>match P.info? e with
       | some i=>(gp C (fun j=>some (j*i.size,i.size)) ps.toList).map (.build zc)
       | none=>none
     | _,_=>none
   | none=>none
 | .buildSlice t len ps=>match fq P t with
   | some (e,n,_)=>match (zeroOf P e).bind AV.cells,gp C (fun j=>some (j*n,n)) ps.toList with
     | some z,some l=>if len*n<=2^24/\z.length=n/\0<n then some (.fp e len n z l) else none
     | _,_=>none
   | none=>none
 | .load t a=>match shapeOf P t,d a with
   | some (n,ag),some a=>some (.load n ag a)
   | _,_=>none
 | .store t a x=>match shapeOf P t,d a,d x with
   | some (n,_),some a,some x=>some (.store n a x)
   | _,_,_=>none
 | .nilCheck x=>(d x).map .mc
 | .binOp op t x y _=>match d x,d y with
   | some a,some b=>
    if kM op && !mj P t then
     if oW P t && !(gN x || gN y) then some (.kC (op == .neq) a b) else
     if oV P t then none else
     (eG P 20 (!(gN x || gN y)) t).map fun e=>.eq (op == .neq) e a b
    else some (.bin op a b)
   | _,_=>none
 | .unOp op _ x=>(d x).map (.un op)
 | .convert src dst x=>match P.underlying src,P.underlying dst,d x with
   | some (.int _),some (.int k),some a=>some (.dh k a)
   | some (.int _),some .string,some a=>some (.oN a)
   | some .string,some .string,some a=>some (.oO a)
   | some .string,some (.slice e),some a=>match P.underlying e with
     | some (.int .u8)=>if fE P e then none else some (.jD e a)
     | _=>none
   | some (.slice e),some .string,some a=>match P.underlying e with
     | some (.int .u8)=>some (.hY a)
     | _=>none
   | some (.pointer t),some .unsafePointer,some a=>match P.info? t with
     | some i=>if i.size=0 then none else some (.jE none a)
     | none=>none
   | some .unsafePointer,some (.pointer u),some a=>match P.info? u with
     | some _=>if fE P u && liesAt P P.depth u (P.cellsOf u/P.cellsOf u) 0 u 1 then some (.jE (some (u,P.cellsOf u)) a) else none
     | none=>none
   | _,_,_=>none
 | .makeInterface t x=>match P.underlying t with
   | some (.interface _)=>none
   | some _=>(d x).map (.kG t)
   | none=>none
 | .typeAssert x _ t ok=>match P.underlying t with
   | some (.interface _)=>none
   | some _=>match d x,zeroOf P t with
     | some x,some z=>some (.oR t z ok x)
     | _,_=>none
   | none=>none
 | .makeFunc f fi ca=>if Ap f then none else match eF C fi.toList,eF C ca.toList with
   | some a,some b=>some (.jF f a b)
   | _,_=>none
 | .makeMap _ none=>some .fU
 | .makeSlice t l c=>match fq P t,d l,d c with
   | some (e,n,by'),some l,some c=>match (zeroOf P e).bind AV.cells with
     | some z=>if z.length=n/\0<n then some (.gk e n by' z l c) else none
     | none=>none
   | _,_,_=>none
 | .slice t x lo hi mx=>match P.underlying t,d x,ic C lo,ic C hi,ic C mx with
   | some .string,some x,some l,some h,some none=>some (.slice .str 1 x l h none)
   | some (.slice e),some x,some l,some h,some m=>match P.info? e with
     | some i=>some (.slice .sl i.size x l h m)
     | none=>none
   | some (.array n e),some x,some l,some h,some none=>match P.info? e with
     | some i=>some (.fB n i.size x l h)
     | none=>none
   | _,_,_,_,_=>none
 | .fieldAddr t x f=>match P.underlying t,d x with
   | some (.struct fs),some x=>match fs[f]? with
     | some f=>match P.info? f.type with
       | some i=>if i.size=0 then none else some (.me f.offset x)
       | none=>none
     | none=>none
   | _,_=>none
 | .field t x f=>match P.underlying t,d x with
   | some (.struct fs),some x=>match fs[f]? with
     | some f=>match shapeOf P f.type with
       | some (n,ag)=>some (.field f.offset n ag x)
       | none=>none
     | none=>none
   | _,_=>none
 | .indexAddr t x i=>match P.underlying t,d x,d i with
   | some (.array n e),some x,some i=>match P.info? e with
     | some inf=>some (.dE (some n) inf.size x i)
     | none=>none
   | some (.slice e),some x,some i=>match P.info? e with
     | some inf=>some (.dE none inf.size x i)
     | none=>none
   | _,_,_=>none
 | .index t x i=>match P.underlying t,d x,d i with
   | some .string,some x,some i=>some (.index x i)
   | some (.array n e),some x,some i=>match shapeOf P e with
     | some (sz,ag)=>some (.oQ n sz ag x i)
     | none=>none
   | _,_,_=>none
 | .lookup t x i ok=>match P.underlying t,d x,d i with
   | some (.map k e),some x,some i=>match keyOf P k,zeroOf P e with
     | some k,some z=>some (.lookup k z x i ok)
     | _,_=>none
   | _,_,_=>none
 | .mapUpdate t m i x | .insert t m i x=>match P.underlying t,d m,d i,d x with
   | some (.map k _),some m,some i,some x=>(keyOf P k).map fun k=>.ff k m i x
   | _,_,_,_=>none
 | .range t x=>match P.underlying t,d x with
   | some .string,some x=>some (.range x)
   | _,_=>none
 | .next x true=>(d x).map .next
 | .extract x i=>(d x).map (.extract i)
 | .call c=>match c.callee with
   | .value f=>match d f,eF C c.args.toList with
     | some f,some as=>some (.call f as)
     | _,_=>none
   | .invoke r name=>match d r,eF C c.args.toList with
     | some r,some as=>some (.invoke r name as)
     | _,_=>none
   | .builtin b=>match b,c.argTypes.toList,eF C c.args.toList with
     | .len,[t],some [x]=>match P.underlying t with
       | some (.array n _)=>some (.len (.arr n) x)
       | some (.map _ _)=>some (.kH x)
       | some .string=>some (.len .str x)
       | some (.slice _)=>some (.len .sl x)
       | _=>none
     | .cap,[t],some [x]=>match P.underlying t with
       | some (.slice _)=>some (.cap x)
       | _=>none
     | .append,[t,u],some [x,y]=>match fq P t,P.underlying u with
       | some (e,n,by'),some .string=>if n=1/\ml P e n=true/\fE P e=false then some (.append e n by' x y) else none
       | some (e,n,by'),some (.slice _)=>if 0<n/\ml P e n=true/\fE P e=false then some (.append e n by' x y) else none
       | _,_=>none
     | .copy,[t,_],some [x,y]=>match fq P t with
       | some (_,n,_)=>if 0<n then some (.copy n x y) else none
       | none=>none
     | .clear,[t],some [x]=>match fq P t with
       | some (e,n,_)=>match (zeroOf P e).bind AV.cells with
         | some z=>if z.length=n/\0<n then some (.kE n z x) else none
         | none=>none
       | none=>none
     | .unsafeSliceData,[t],some [x]=>match P.underlying t with
       | some (.slice _)=>some (.oP x)
       | _=>none
     | .unsafeString,[t,_],some [x,n]=>match P.underlying t with
       | some (.pointer e)=>if P.cellsOf e=1 then some (.kD e x n) else none
       | _=>none
     | .max,_,some xs=>some (.mm true xs)
     | .min,_,some xs=>some (.mm false xs)
     | _,_,_=>none
 | _=>none
def gq (C:Cx):Option Tmp->Option cX
 | none=>some .no
 | some t=>if t<C.N then
     match idx t C.au 0 with
     | some i=>some (.p i)
     | none=>some (.l t)
   else none
def mn (C:Cx)(ops:List Oper):Option (Nat×Bool)->Option (Option (aq×Bool))
 | none=>some none
 | some (j,w)=>match ops[j]? with
   | some o=>match o.dst with
     | some t=>(dU C (.tmp t)).map fun x=>some (x,w)
     | none=>none
   | none=>none
def mq (C:Cx)(ops:List Oper)(o:Oper):Option az:=
 match gq C o.dst,fu C o,mn C ops o.guard with
 | some d,some op,some g=>some ⟨d,op,g⟩
 | _,_,_=>none
def fW (C:Cx)(ops:List Oper):List Oper->Option (List az)
 | []=>some []
 | o::r=>match mq C ops o,fW C ops r with
   | some a,some l=>some (a::l)
   | _,_=>none
def Aq (ops:List Oper):List Nat:=
 ops.foldl (fun acc o=>acc++[o.after.toList.foldl (fun s e=>if Region.binds .any e then s ||| 2^e.on ||| acc.getD e.on 0 else s) 0]) []
def fF (bits i:Nat):List Nat:=(List.range i).filter fun j=>!bits.testBit j
def jK (ops:List Oper)(bits:List Nat):Bool:=
 ops.zipIdx.all fun (o,i)=>
  o.after.toList.all (fun e=>!Region.binds .any e || decide (e.on<i)) &&
  (List.range i).all fun j=>!(bits.getD i 0).testBit j || o.after.toList.any fun e=>Region.binds .any e && (e.on == j || (decide (j<e.on) && (bits.getD e.on 0).testBit j))
def jL (l:List az)(bits:List Nat):Bool:=
 l.zipIdx.all fun (o,i)=>(fF (bits.getD i 0) i).all fun j=>match l[j]? with|some oj=>jG oj o|none=>false
def mr (C:Cx)(ops:List Oper)(draw:Bool):Option ao:=
 match fW C ops ops with
 | none=>none
 | some l=>
  if draw then
   let bits:=Aq ops
   if jK ops bits && jL l bits then some (.draw (l.zipIdx.map fun (o,i)=>(o,fF (bits.getD i 0) i))) else none
  else some (.region l)
def ie (C:Cx):List Tmp->Option (List cX)
 | []=>some []
 | t::r=>match gq C (some t),ie C r with
   | some d,some l=>some (d::l)
   | _,_=>none
def dG (C:Cx)(rd:Bool):Code->Option ao
 | .skip=>some .skip
 | .region _ ops draw=>some ((mr C ops.toList draw).getD .bad)
 | .seq a b=>match dG C rd a,dG C rd b with
   | some a,some b=>some (.seq a b)
   | _,_=>none
 | .cond c a b=>match dU C c,dG C rd a,dG C rd b with
   | some c,some a,some b=>some (.cond c a b)
   | _,_,_=>none
 | .block id c=>(dG C rd c).map (.block id)
 | .loop c=>(dG C rd c).map .loop
 | .exit id=>some (.exit id)
 | .ret=>some .ret
 | .scope c=>(dG C rd c).map fun c=>.seq c .skip
 | .label _=>some .skip
 | .rangeFunc f ps a b=>match dU C f,ie C ps.toList,dG C true a,dG C true b with
   | some f,some ps,some a,some b=>some (.rangeFunc rd f ps a b)
   | _,_,_,_=>none
 | _=>some .bad
def gO (C:Cx):List ResultVar->Option (List fV)
 | []=>some []
 | .tmp t::r=>match dU C (.tmp t),gO C r with
   | some x,some l=>some (.var x::l)
   | _,_=>none
 | .cell t ty::r=>match dU C (.tmp t),shapeOf C.P ty,gO C r with
   | some x,some (n,ag),some l=>some (.cell n ag x::l)
   | _,_,_=>none
def mu (P:Program)(gl:Nat->Option AV)(au:List Nat)(f:Func):Option bQ:=
 let C:Cx:=⟨P,gl,au,f.ntmps⟩
 match f.body with
 | none=>none
 | some c=>
  match dG C false c,gO C f.results.toList with
  | some b,some r=>if au.all (· < f.ntmps) && decide au.Nodup then some ⟨f.ntmps,au,r,b⟩ else none
  | _,_=>none
def dj (P:Program)(t:TypeId)(name:String):Option FuncId:=
 match P.info? t,P.underlying t with
 | some i,some u=>match i.methods.toList.find? (·.name == name) with
   | some m=>match m.func,m.path.toList with
     | some (f,ptr),[]=>match u,ptr with
       | .pointer _,true=>some f
       | .pointer _,false=>none
       | _,false=>some f
       | _,true=>none
     | _,_=>none
   | none=>none
 | _,_=>none
end Go.Ab
namespace Go.Ab
def sY (P:Program)(gl:Nat->Option AV)(au:List (List Nat))(f:FuncId):Option bQ:=
 match P.funcs[f]?,au[f]? with
 | some fn,some p=>mu P gl p fn
 | _,_=>none
end Go.Ab
namespace Go.Ab
variable {w w':World} {x:AV} {l:List AV} {y v:Value} {m:List Value} {h h':ae} {a:Addr} {n:Nat}
inductive BS where
 | fresh|dead|nil|live (c d:Nat)
structure an where
 at':Nat->BS
 X:Nat->Prop
instance:CoeFun an (fun _=>Nat->BS):=⟨an.at'⟩
def bZ (ρ:an)(c:Nat):Prop:=(∀b d,ρ b≠.live c d)/\¬ρ.X c
inductive V (ρ:an) (w:World):AV->Value->Prop
 | bP (v:Value):V ρ w .bP v
 | bool (b:Bool):V ρ w (.bool b) (.bool b)
 | int (k:IntKind) (n:Int):V ρ w (.int k n) (.int k n)
 | str (s:List UInt8):V ρ w (.str s) (.string ⟨s.toArray⟩)
 | cT:V ρ w .cT (.pointer none)
 | ptr {b c d:Nat} (o:Nat) (h:ρ b = .live c d):V ρ w (.ptr b o) (.pointer (some ⟨c,o+d,none⟩))
 | da {b:Nat} (o c o':Nat) (h:ρ b = .dead):V ρ w (.ptr b o) (.pointer (some ⟨c,o',none⟩))
 | vp {l:List AV} (c o:Nat) (g:Nat->Value) (hf:l≠[]->bZ ρ c) (hc:∀i:Nat,i<l.length->w.cell? ⟨c,o+i,none⟩=some (g i))
     (hg:∀(i:Nat) x,l[i]? = some x->V ρ w x (g i)):V ρ w (.vp l) (.pointer (some ⟨c,o,none⟩))
 | al:V ρ w .al (.slice none 0 0)
 | sl {b c d o len esz capC:Nat} {cap:Option Nat} (h:ρ b = .live c d) (hl:len<=capC) (hcap:∀n,cap=some n->capC=n)
     (hb:∃cs e fr,w.heap[c]? = some (.cells cs e fr)/\o+d+capC*esz<=cs.size):V ρ w (.sl b o len esz cap) (.slice (some ⟨c,o+d,none⟩) len capC)
 | dP {b esz:Nat} (h:ρ b = .nil):V ρ w (.sl b 0 0 esz none) (.slice none 0 0)
 | dr {b o len esz capC:Nat} {cap:Option Nat} (c o':Nat) (h:ρ b = .dead) (hl:len<=capC) (hcap:∀n,cap=some n->capC=n):V ρ w (.sl b o len esz cap) (.slice (some ⟨c,o',none⟩) len capC)
 | dK {b esz:Nat} (h:ρ b = .dead):V ρ w (.sl b 0 0 esz none) (.slice none 0 0)
 | dQ {b esz:Nat} (a:Addr) (h:ρ b = .dead):V ρ w (.sl b 0 0 esz (some 0)) (.slice (some a) 0 0)
 | vs {l:List AV} {len capC:Nat} {cap:Option Nat} (c o:Nat) (g:Nat->Value) (hf:l≠[]->bZ ρ c) (hl:len<=capC) (hcap:∀n,cap=some n->capC=n)
     (hc:∀i:Nat,i<l.length->w.cell? ⟨c,o+i,none⟩=some (g i)) (hg:∀(i:Nat) x,l[i]? = some x->V ρ w x (g i)):V ρ w (.vs l len cap) (.slice (some ⟨c,o,none⟩) len capC)
 | dL {cap:Option Nat} (hcap:∀n,cap=some n->n=0):V ρ w (.vs [] 0 cap) (.slice none 0 0)
 | dV {cap:Option Nat} (a:Addr) (hcap:∀n,cap=some n->n=0):V ρ w (.vs [] 0 cap) (.slice (some a) 0 0)
 | cf:V ρ w .cf (.map none)
 | map {b c:Nat} (h:ρ b = .live c 0):V ρ w (.map b) (.map (some c))
 | fh {b:Nat} (c:Nat) (h:ρ b = .dead):V ρ w (.map b) (.map (some c))
 | yield {b c d:Nat} (h:ρ b = .live c d):V ρ w (.fn (.yield b) [] []) (.func (.yield c) #[] #[])
 | fn {f:Fn} {fi ca:List AV} {fi' ca':List Value} (hf:∀l,f≠.yield l) (h1:fi.length=fi'.length) (h2:ca.length=ca'.length)
     (g1:∀(i:Nat) x y,fi[i]? = some x->fi'[i]? = some y->V ρ w x y) (g2:∀(i:Nat) x y,ca[i]? = some x->ca'[i]? = some y->V ρ w x y):V ρ w (.fn f fi ca) (.func f fi'.toArray ca'.toArray)
 | fj {b:Nat} (c:Nat) (h:ρ b = .dead):V ρ w (.fn (.yield b) [] []) (.func (.yield c) #[] #[])
 | cN:V ρ w .cN .nilFunc
 | iface {t:TypeId} {x:AV} {y:Value} (h:V ρ w x y):V ρ w (.iface t x) (.iface t y)
 | cg:V ρ w .cg .nilIface
 | agg {l:List AV} {m:List Value} (h:l.length=m.length) (g:∀(i:Nat) x y,l[i]? = some x->m[i]? = some y->V ρ w x y):V ρ w (.agg l) (.agg m.toArray)
 | ar {l:List AV} {m:List Value} (h:l.length=m.length) (g:∀(i:Nat) x y,l[i]? = some x->m[i]? = some y->V ρ w x y):V ρ w (.ar l) (.tuple m.toArray)
def VL (ρ:an)(w:World)(l:List AV)(m:List Value):Prop:=
 l.length=m.length/\∀(i:Nat) x y,l[i]? = some x->m[i]? = some y->V ρ w x y
theorem V.kN {ρ:an}(s:ByteArray):V ρ w (.str s.data.toList) (.string s):=by
 have:=V.str (ρ:=ρ) (w:=w) s.data.toList;simpa using this
theorem VL.nil {ρ:an}:VL ρ w [] []:=⟨rfl,by simp⟩
theorem VL.cons {ρ:an}(h:V ρ w x y)(h':VL ρ w l m):VL ρ w (x::l) (y::m):=by
 refine⟨by simp[h'.1],fun i a b ha hb=>?_⟩;cases i with
 | zero=>simp at ha hb;subst ha;subst hb;exact h
 | succ i=>simp at ha hb;exact h'.2 i a b ha hb
theorem VL.head {ρ:an}(h:VL ρ w (x::l) (y::m)):V ρ w x y:=h.2 0 x y rfl rfl
theorem VL.tail {ρ:an}(h:VL ρ w (x::l) (y::m)):VL ρ w l m:=
 ⟨by simpa using h.1,fun i a b ha hb=>h.2 (i+1) a b (by simpa using ha) (by simpa using hb)⟩
theorem VL.cons_inv {ρ:an}(h:VL ρ w (x::l) m):∃y m',m=y::m'/\V ρ w x y/\VL ρ w l m':=by
 cases m with
 | nil=>exact absurd h.1 (by simp)
 | cons y m'=>exact⟨y,m',rfl,h.head,h.tail⟩
theorem VL.fX {ρ:an}(h:VL ρ w [] m):m=[]:=by
 have:=h.1;cases m <;> simp_all
theorem VL.append {ρ:an}:∀{l l':List AV} {m m':List Value},VL ρ w l m->VL ρ w l' m'->VL ρ w (l++l') (m++m')
 | [],_,_,_,h,h'=>by rw[h.fX];exact h'
 | _::_,_,_,_,h,h'=>by
  obtain⟨y,m1,rfl,hv,hl⟩:=h.cons_inv;exact .cons hv (hl.append h')
theorem VL.drop {ρ:an}(h:VL ρ w l m)(n:Nat):VL ρ w (l.drop n) (m.drop n):=
 ⟨by simp[h.1],fun i a b ha hb=>h.2 (n+i) a b (by simpa using ha) (by simpa using hb)⟩
theorem VL.take {ρ:an}(h:VL ρ w l m)(n:Nat):VL ρ w (l.take n) (m.take n):=
 ⟨by simp[h.1],fun i a b ha hb=>by
  rw[List.getElem?_take]at ha hb;split at ha
  . rename_i hlt;rw[if_pos hlt]at hb;exact h.2 i a b ha hb
  . cases ha⟩
structure ER (C:Cx)(ρ:an)(w:World)(pe:List AV)(lo:List (Nat×AV))(tmps:Array Value):Prop where
 size:tmps.size=C.N
 nodup:C.au.Nodup
 lt:∀t∈C.au,t<C.N
 gr:pe.length=C.au.length
 pe:∀(i:Nat) v t,pe[i]? = some v->C.au[i]? = some t->V ρ w v (tmps.getD t undef)
 lo:∀t v,lo.lookup t=some v->t<C.N/\t∉C.au/\V ρ w v (tmps.getD t undef)
def iW:Option Ex->Option Code->Prop
 | none,none=>True
 | some .ret,some .ret=>True
 | some (.exit i),some (.exit j)=>i=j
 | _,_=>False
def Fits (P:Program)(e:TypeId)(d n s:Nat):Prop:=d+n<=s/\(fE P e=true->d=0/\n=s)
def BR (P:Program)(gl:Nat->Option AV)(ρ:an)(w:World)(b:Nat):aP->Prop
 | .cells l e=>(∃c d cs fr,ρ b = .live c d/\w.heap[c]? = some (.cells cs e fr)/\Fits P e d l.length cs.size/\(∀i,i<cs.size->w.frozen? ⟨c,i,none⟩=false) /\
     ∀(i:Nat) x y,l[i]? = some x->cs[i+d]? = some y->V ρ w x y)\/(ρ b = .nil/\l=[])
 | .map es=>∃c ms clk,ρ b = .live c 0/\w.heap[c]? = some (.map ms clk)/\es.length=ms.size /\
     ∀(i:Nat) kx vx m,es[i]? = some (kx,vx)->ms[i]? = some m->V ρ w kx m.key/\V ρ w vx m.val
 | .iter s pos=>∃c,ρ b = .live c 0/\w.heap[c]? = some (.stringIter ⟨s.toArray⟩ pos)
 | .cY=>∃c,ρ b = .live c 0/\w.heap[c]? = some (.deferred (some []))
 | .hole=>ρ b = .fresh
 | .loop st pend pe ps a bd=>∃c r au N,ρ b = .live c 0/\w.heap[c]? = some (.loop r)/\r.state=st/\iW pend r.pending /\
     ER ⟨P,gl,au,N⟩ ρ w pe [] r.tmps/\ie ⟨P,gl,au,N⟩ r.params.toList=some ps/\dG ⟨P,gl,au,N⟩ true r.assign=some a/\dG ⟨P,gl,au,N⟩ true r.body=some bd
structure Mem (P:Program)(gl:Nat->Option AV)(ρ:an)(h:ae)(w:World):Prop where
 bU:∀b o,h[b]? = some (some o)->BR P gl ρ w b o
 fresh:∀b,h.length<=b->ρ b = .fresh
 inj:∀b b' c d d',ρ b = .live c d->ρ b' = .live c d'->b=b'
 bound:∀b c d,ρ b = .live c d->c<w.heap.size
 xb:∀c,ρ.X c->c<w.heap.size
 xo:∀b c d,ρ b = .live c d->¬ρ.X c
 gl:∀g v,gl g=some v->V ρ w v (.pointer (some ⟨g,0,none⟩))
structure Ext (h h':ae)(ρ ρ':an)(w w':World):Prop where
 os:w'.os=w.os
 tape:w'.tape=w.tape
 output:w'.output=w.output
 size:w.heap.size<=w'.heap.size
 len:h.length<=h'.length
 X:ρ'.X=ρ.X
 bP:∀b:Nat,h[b]? = some none->h'[b]? = some none
 same:∀b:Nat,h[b]? = some none->ρ' b=ρ b
 live:∀b c d,ρ b = .live c d->ρ' b = .live c d\/ρ' b = .dead
 dead:∀b,ρ b = .dead->ρ' b = .dead
 nil:∀b,ρ b = .nil->ρ' b = .nil\/ρ' b = .dead
 bp:∀c,c<w.heap.size->(∀b d,ρ b = .live c d->h[b]? = some none)->w'.heap[c]? = w.heap[c]?
 back:∀b c d,ρ' b = .live c d->c<w.heap.size->ρ b = .live c d\/∃b0 d0,ρ b0 = .live c d0/\h[b0]? ≠ some none
 shape:∀(c:Nat) cs e fr,w.heap[c]? = some (.cells cs e fr)->∃cs' fr',w'.heap[c]? = some (.cells cs' e fr')/\cs'.size=cs.size
theorem Ext.refl (h:ae)(ρ:an)(w:World):Ext h h ρ ρ w w:=
 ⟨rfl,rfl,rfl,Nat.le_refl _,Nat.le_refl _,rfl,fun _ h=>h,fun _ _=>rfl,fun _ _ _ h=>.inl h,fun _ h=>h,fun _ h=>.inl h,fun _ _ _=>rfl,fun _ _ _ h _=>.inl h,
  fun _ cs _ fr h=>⟨cs,fr,h,rfl⟩⟩
theorem Ext.trans {h1 h2:ae}{ρ ρ1 ρ2:an}{w1 w2:World}(x:Ext h h1 ρ ρ1 w w1)(y:Ext h1 h2 ρ1 ρ2 w1 w2):Ext h h2 ρ ρ2 w w2 where
 os:=y.os.trans x.os
 tape:=y.tape.trans x.tape
 output:=y.output.trans x.output
 size:=Nat.le_trans x.size y.size
 len:=Nat.le_trans x.len y.len
 X:=y.X.trans x.X
 bP b hb:=y.bP b (x.bP b hb)
 same b hb:=(y.same b (x.bP b hb)).trans (x.same b hb)
 live b c d hb:=by
  rcases x.live b c d hb with h|h
  . exact y.live b c d h
  . exact .inr (y.dead b h)
 dead b hb:=y.dead b (x.dead b hb)
 nil b hb:=by
  rcases x.nil b hb with h|h
  . exact y.nil b h
  . exact .inr (y.dead b h)
 bp c hc hb:=by
  rw[y.bp c (Nat.lt_of_lt_of_le hc x.size) ?_,x.bp c hc hb];intro b d h1;rcases x.back b c d h1 hc with h|⟨b0,d0,h,hn⟩
  . exact x.bP b (hb b d h)
  . exact absurd (hb b0 d0 h) hn
 back b c d h2 hc:=by
  rcases y.back b c d h2 (Nat.lt_of_lt_of_le hc x.size) with h1|⟨b1,d1,h1,hn1⟩
  . exact x.back b c d h1 hc
  . rcases x.back b1 c d1 h1 hc with h0|h0
    . exact .inr ⟨b1,d1,h0,fun hu=>hn1 (x.bP b1 hu)⟩
    . exact .inr h0
 shape c cs e fr h0:=by
  obtain⟨cs1,fr1,h1,e1⟩:=x.shape c cs e fr h0;obtain⟨cs2,fr2,h2,e2⟩:=y.shape c cs1 e fr1 h1;exact⟨cs2,fr2,h2,e2.trans e1⟩
theorem Ar (h:w.cell? a=some v):∃cs e fr,w.heap[a.block]? = some (.cells cs e fr):=by
 unfold World.cell? at h;split at h
 . rename_i cs e fr hc;exact⟨cs,e,fr,hc⟩
 . cases h
theorem oX (h:w.cell? a=some v):a.block<w.heap.size:=by
 obtain⟨cs,e,fr,hc⟩:=Ar h;exact(Array.getElem?_eq_some_iff.1 hc).1
theorem As (h:w'.heap[a.block]? = w.heap[a.block]?):w'.cell? a=w.cell? a:=by
 unfold World.cell?;rw[h]
theorem Ext.free {ρ ρ':an}(x:Ext h h' ρ ρ' w w'){c:Nat}(hc:c<w.heap.size)(hf:bZ ρ c):bZ ρ' c:=by
 refine⟨fun b d hb=>?_,by rw[x.X];exact hf.2⟩;rcases x.back b c d hb hc with h|⟨b0,d0,h,_⟩
 . exact hf.1 _ _ h
 . exact hf.1 _ _ h
theorem Ext.cell {ρ ρ':an}(x:Ext h h' ρ ρ' w w'){c o:Nat}{v:Value}(hf:bZ ρ c)(hc:w.cell? ⟨c,o,none⟩=some v):w'.cell? ⟨c,o,none⟩=some v:=by
 have hlt:=oX hc;rw[As (w:=w)]
 . exact hc
 . exact x.bp c hlt (fun b d hb=>absurd hb (hf.1 b d))
theorem V.mono {ρ ρ':an}(x:Ext h h' ρ ρ' w w'){a:AV}{v:Value}(hv:V ρ w a v):V ρ' w' a v:=by
 induction hv with
 | bP v=>exact .bP v
 | bool b=>exact .bool b
 | int k n=>exact .int k n
 | str s=>exact .str s
 | cT=>exact .cT
 | ptr o hb=>
               rcases x.live _ _ _ hb with h|h
               . exact .ptr o h
               . exact .da o _ _ h
 | da o c o' hb=>exact .da o c o' (x.dead _ hb)
 | @vp l c o g hf hc _ ih=>
  by_cases hl:l=[]
  . subst hl;exact .vp c o g (fun h=>absurd rfl h) (by simp) (by simp)
  . have h0:=hc 0 (by cases l <;> simp_all);exact .vp c o g (fun _=>x.free (oX h0) (hf hl)) (fun i hi=>x.cell (hf hl) (hc i hi)) ih
 | al=>exact .al
 | sl hb hl hcap hs=>
  obtain⟨cs,e,fr,h1,h2⟩:=hs;obtain⟨cs',fr',h3,h4⟩:=x.shape _ _ _ _ h1;rcases x.live _ _ _ hb with h|h
  . exact .sl h hl hcap ⟨cs',e,fr',h3,by omega⟩
  . exact .dr _ _ h hl hcap
 | dP hb=>
             rcases x.nil _ hb with h|h
             . exact .dP h
             . exact .dK h
 | dr c o' hb hl hcap=>exact .dr c o' (x.dead _ hb) hl hcap
 | dK hb=>exact .dK (x.dead _ hb)
 | dQ a hb=>exact .dQ a (x.dead _ hb)
 | @vs l len capC cap c o g hf hl hcap hc _ ih=>
  by_cases hn:l=[]
  . subst hn;exact .vs c o g (fun h=>absurd rfl h) hl hcap (by simp) (by simp)
  . have h0:=hc 0 (by cases l <;> simp_all);exact .vs c o g (fun _=>x.free (oX h0) (hf hn)) hl hcap (fun i hi=>x.cell (hf hn) (hc i hi)) ih
 | dL hcap=>exact .dL hcap
 | dV a hcap=>exact .dV a hcap
 | cf=>exact .cf
 | map hb=>
             rcases x.live _ _ _ hb with h|h
             . exact .map h
             . exact .fh _ h
 | fh v hb=>exact .fh v (x.dead _ hb)
 | yield hb=>
               rcases x.live _ _ _ hb with h|h
               . exact .yield h
               . exact .fj _ h
 | fn hf h1 h2 _ _ ih1 ih2=>exact .fn hf h1 h2 ih1 ih2
 | fj v hb=>exact .fj v (x.dead _ hb)
 | cN=>exact .cN
 | iface _ ih=>exact .iface ih
 | cg=>exact .cg
 | agg h _ ih=>exact .agg h ih
 | ar h _ ih=>exact .ar h ih
theorem VL.mono {ρ ρ':an}(x:Ext h h' ρ ρ' w w'){l:List AV}{m:List Value}(hv:VL ρ w l m):VL ρ' w' l m:=
 ⟨hv.1,fun i a b ha hb=>(hv.2 i a b ha hb).mono x⟩
theorem ER.mono {C:Cx}{ρ ρ':an}(x:Ext h h' ρ ρ' w w'){pe:List AV}{lo:List (Nat×AV)}{t:Array Value}(e:ER C ρ w pe lo t):ER C ρ' w' pe lo t:=
 ⟨e.size,e.nodup,e.lt,e.gr,fun i v t h1 h2=>(e.pe i v t h1 h2).mono x,fun t v h1=>let ⟨a,b,c⟩:=e.lo t v h1;⟨a,b,c.mono x⟩⟩
def fv (n:Nat)(ρ:an):an:=⟨fun b=>if b<n then ρ b else .fresh,ρ.X⟩
theorem bZ.cut {ρ:an}{c:Nat}(n:Nat)(h:bZ ρ c):bZ (fv n ρ) c:=by
 refine⟨fun b d hb=>?_,h.2⟩;simp only[fv]at hb;split at hb
 . exact h.1 b d hb
 . cases hb
theorem dR (h:bg l<=n):∀(i:Nat) x,l[i]? = some x->x.top<=n:=by
 induction l with
 | nil=>intro i x hx;simp at hx
 | cons v r ih=>
  simp only[bg]at h;intro i x hx;cases i with
  | zero=>simp at hx;subst hx;omega
  | succ i=>simp at hx;exact ih (by omega) i x hx
theorem ig (h:∀(i:Nat) x,l[i]? = some x->x.top<=n):bg l<=n:=by
 induction l with
 | nil=>simp[bg]
 | cons v r ih=>
  simp only[bg];have h0:=h 0 v rfl;have h1:=ih (fun i x hx=>h (i+1) x (by simpa using hx));omega
theorem V.ea {ρ ρ':an}(hρ:∀b,b<n->ρ' b=ρ b)(hF:∀c,bZ ρ c->bZ ρ' c){a:AV}{v:Value}(hv:V ρ w a v):a.top<=n->V ρ' w a v:=by
 induction hv with
 | bP v=>exact fun _=>.bP v
 | bool b=>exact fun _=>.bool b
 | int k n=>exact fun _=>.int k n
 | str s=>exact fun _=>.str s
 | cT=>exact fun _=>.cT
 | ptr o hb=>exact fun h=>.ptr o (by simp only[AV.top]at h;rw[hρ _ (by omega)];exact hb)
 | da o c o' hb=>exact fun h=>.da o c o' (by simp only[AV.top]at h;rw[hρ _ (by omega)];exact hb)
 | vp c o g hf hc _ ih=>exact fun h=>.vp c o g (fun hl=>hF _ (hf hl)) hc (fun i x hx=>ih i x hx (dR (by simpa only[AV.top] using h) i x hx))
 | al=>exact fun _=>.al
 | sl hb hl hcap hs=>exact fun h=>.sl (by simp only[AV.top]at h;rw[hρ _ (by omega)];exact hb) hl hcap hs
 | dP hb=>exact fun h=>.dP (by simp only[AV.top]at h;rw[hρ _ (by omega)];exact hb)
 | dr c o' hb hl hcap=>exact fun h=>.dr c o' (by simp only[AV.top]at h;rw[hρ _ (by omega)];exact hb) hl hcap
 | dK hb=>exact fun h=>.dK (by simp only[AV.top]at h;rw[hρ _ (by omega)];exact hb)
 | dQ a hb=>exact fun h=>.dQ a (by simp only[AV.top]at h;rw[hρ _ (by omega)];exact hb)
 | vs c o g hf hl hcap hc _ ih=>exact fun h=>.vs c o g (fun hn=>hF _ (hf hn)) hl hcap hc (fun i x hx=>ih i x hx (dR (by simpa only[AV.top] using h) i x hx))
 | dL hcap=>exact fun _=>.dL hcap
 | dV a hcap=>exact fun _=>.dV a hcap
 | cf=>exact fun _=>.cf
 | map hb=>exact fun h=>.map (by simp only[AV.top]at h;rw[hρ _ (by omega)];exact hb)
 | fh v hb=>exact fun h=>.fh v (by simp only[AV.top]at h;rw[hρ _ (by omega)];exact hb)
 | yield hb=>exact fun h=>.yield (by simp only[AV.top]at h;rw[hρ _ (by omega)];exact hb)
 | @fn f fi ca _ _ hf h1 h2 _ _ ih1 ih2=>
  intro h;have hh:bg fi<=n/\bg ca<=n:=by
   cases f <;> simp only[AV.top]at h <;> exact⟨by omega,by omega⟩
  exact .fn hf h1 h2 (fun i x y a b=>ih1 i x y a b (dR hh.1 i x a)) (fun i x y a b=>ih2 i x y a b (dR hh.2 i x a))
 | fj v hb=>exact fun h=>.fj v (by simp only[AV.top]at h;rw[hρ _ (by omega)];exact hb)
 | cN=>exact fun _=>.cN
 | iface _ ih=>exact fun h=>.iface (ih (by simpa only[AV.top] using h))
 | cg=>exact fun _=>.cg
 | agg hl _ ih=>exact fun h=>.agg hl (fun i x y a b=>ih i x y a b (dR (by simpa only[AV.top] using h) i x a))
 | ar hl _ ih=>exact fun h=>.ar hl (fun i x y a b=>ih i x y a b (dR (by simpa only[AV.top] using h) i x a))
theorem V.cut {ρ:an}{a:AV}(hv:V ρ w a v):a.top<=n->V (fv n ρ) w a v:=
 hv.ea (fun b hb=>by simp only[fv];rw[if_pos hb]) (fun _ h=>h.cut n)
theorem V.top {ρ:an}(hn:∀b,n<=b->ρ b = .fresh){a:AV}{v:Value}(hv:V ρ w a v):a.top<=n:=by
 have key:∀b,ρ b≠.fresh->b+1<=n:=fun b hb=>by
  rcases Nat.lt_or_ge b n with h|h
  . omega
  . exact absurd (hn b h) hb
 induction hv with
 | ptr o hb=>exact key _ (by rw[hb];simp)
 | da o c o' hb=>exact key _ (by rw[hb];simp)
 | vp c o g hf hc _ ih=>exact ig ih
 | sl hb _ _ _=>exact key _ (by rw[hb];simp)
 | dP hb=>exact key _ (by rw[hb];simp)
 | dr c o' hb _ _=>exact key _ (by rw[hb];simp)
 | dK hb=>exact key _ (by rw[hb];simp)
 | dQ a hb=>exact key _ (by rw[hb];simp)
 | vs c o g hf hl hcap hc _ ih=>exact ig ih
 | map hb=>exact key _ (by rw[hb];simp)
 | fh v hb=>exact key _ (by rw[hb];simp)
 | @yield b _ _ hb=>have:=key b (by rw[hb];simp);simp only[AV.top,bg];omega
 | @fn f fi ca fi' ca' hf h1 h2 _ _ ih1 ih2=>
  have a1:bg fi<=n:=ig fun i x hx=>by
   have hi:i<fi'.length:=h1 ▸ (List.getElem?_eq_some_iff.1 hx).1;exact ih1 i x fi'[i] hx (List.getElem?_eq_getElem hi)
  have a2:bg ca<=n:=ig fun i x hx=>by
   have hi:i<ca'.length:=h2 ▸ (List.getElem?_eq_some_iff.1 hx).1;exact ih2 i x ca'[i] hx (List.getElem?_eq_getElem hi)
  cases f <;> simp only[AV.top] <;> first|omega|exact absurd rfl (hf _)
 | @fj b v hb=>have:=key b (by rw[hb];simp);simp only[AV.top,bg];omega
 | iface _ ih=>exact ih
 | @agg l m hl _ ih=>
  exact ig fun i x hx=>by
   have hi:i<m.length:=hl ▸ (List.getElem?_eq_some_iff.1 hx).1;exact ih i x m[i] hx (List.getElem?_eq_getElem hi)
 | @ar l m hl _ ih=>
  exact ig fun i x hx=>by
   have hi:i<m.length:=hl ▸ (List.getElem?_eq_some_iff.1 hx).1;exact ih i x m[i] hx (List.getElem?_eq_getElem hi)
 | _=>simp[AV.top,bg]
end Go.Ab
namespace Go.Ab
variable {w w':World} {h:ae} {ρ:an} {b c:Nat} {O:Obj}
variable {P:Program} {gl:Nat->Option AV}
theorem sZ {a:Addr}(h:w'.heap[a.block]? = w.heap[a.block]?):w'.frozen? a=w.frozen? a:=by
 unfold World.frozen?;rw[h]
theorem BR.mono {h':ae}{ρ':an}(x:Ext h h' ρ ρ' w w'){b:Nat}(hρ:ρ' b=ρ b)
 (hh:∀c d,ρ b = .live c d->w'.heap[c]? = w.heap[c]?) {o:aP} (hb:BR P gl ρ w b o):BR P gl ρ' w' b o:=by
 cases o with
 | cells l e=>
  rcases hb with ⟨c,d,cs,fr,h1,h2,h3,h4,h5⟩|⟨h1,h2⟩
  . refine .inl ⟨c,d,cs,fr,hρ.trans h1,(hh c d h1).trans h2,h3,fun i hi=>?_,fun i x' y hx hy=>(h5 i x' y hx hy).mono x⟩;rw[sZ (w:=w) (hh c d h1)];exact h4 i hi
  . exact .inr ⟨hρ.trans h1,h2⟩
 | map es=>
  obtain⟨c,ms,clk,h1,h2,h3,h4⟩:=hb;exact⟨c,ms,clk,hρ.trans h1,(hh c 0 h1).trans h2,h3,fun i kx vx m hx hm=>let ⟨a,b⟩:=h4 i kx vx m hx hm;⟨a.mono x,b.mono x⟩⟩
 | iter s pos=>obtain⟨c,h1,h2⟩:=hb;exact⟨c,hρ.trans h1,(hh c 0 h1).trans h2⟩
 | cY=>obtain⟨c,h1,h2⟩:=hb;exact⟨c,hρ.trans h1,(hh c 0 h1).trans h2⟩
 | hole=>exact hρ.trans hb
 | loop st pend pe ps a bd=>
  obtain⟨c,r,au,N,h1,h2,h3,h4,h5,h6⟩:=hb;exact⟨c,r,au,N,hρ.trans h1,(hh c 0 h1).trans h2,h3,h4,h5.mono x,h6⟩
theorem BR.live {o:aP}(hb:BR P gl ρ w b o):(∃c d,ρ b = .live c d)\/ρ b = .nil\/ρ b = .fresh:=by
 cases o with
 | cells l e=>
                rcases hb with ⟨c,d,_,_,h1,_⟩|⟨h1,_⟩
                . exact .inl ⟨c,d,h1⟩
                . exact .inr (.inl h1)
 | map es=>obtain⟨c,_,_,h1,_⟩:=hb;exact .inl ⟨c,0,h1⟩
 | iter s pos=>obtain⟨c,h1,_⟩:=hb;exact .inl ⟨c,0,h1⟩
 | cY=>obtain⟨c,h1,_⟩:=hb;exact .inl ⟨c,0,h1⟩
 | hole=>exact .inr (.inr hb)
 | loop=>obtain⟨c,_,_,_,h1,_⟩:=hb;exact .inl ⟨c,0,h1⟩
def an.cn (ρ:an)(b:Nat)(s:BS):an:=⟨fun x=>if x=b then s else ρ x,ρ.X⟩
@[simp] theorem an.LF (ρ:an)(b:Nat)(s:BS):(ρ.cn b s).X=ρ.X:=rfl
@[simp] theorem an.cq (ρ:an)(b:Nat)(s:BS):ρ.cn b s b=s:=by simp[an.cn]
theorem an.bV {x:Nat}{s:BS}(h:x≠b):ρ.cn b s x=ρ x:=by simp[an.cn,h]
theorem oY (hc:c<w.heap.size):(w.heap.push O)[c]? = w.heap[c]? := by
 rw[Array.getElem?_push,if_neg (by omega)]
theorem Ext.alloc (m:Mem P gl ρ h w)(o:Option aP)(O:Obj)(s:BS)(hs:(∃d,s = .live w.heap.size d)\/s = .nil\/s = .dead) :
 Ext h (h++[o]) ρ (ρ.cn h.length s) w { w with heap:=w.heap.push O } where
 os:=rfl
 tape:=rfl
 output:=rfl
 size:=by simp
 len:=by simp
 X:=rfl
 bP b hb:=by
  have hlt:=(List.getElem?_eq_some_iff.1 hb).1;rw[List.getElem?_append_left hlt];exact hb
 same b hb:=by
  have hlt:=(List.getElem?_eq_some_iff.1 hb).1;exact an.bV (by omega)
 live b c d hb:=by
  have:b≠h.length:=fun e=>by rw[m.fresh b (by omega)]at hb;cases hb
  exact .inl ((an.bV this).trans hb)
 dead b hb:=by
  have:b≠h.length:=fun e=>by rw[m.fresh b (by omega)]at hb;cases hb
  exact(an.bV this).trans hb
 nil b hb:=by
  have:b≠h.length:=fun e=>by rw[m.fresh b (by omega)]at hb;cases hb
  exact .inl ((an.bV this).trans hb)
 bp c hc _:=oY hc
 back b c d hb hc:=by
  by_cases e:b=h.length
  . subst e;rw[an.cq]at hb;rcases hs with ⟨d',rfl⟩|rfl|rfl
    . cases hb;omega
    . cases hb
    . cases hb
  . rw[an.bV e]at hb;exact .inl hb
 shape c cs e fr hc:=⟨cs,fr,by rw[oY (Array.getElem?_eq_some_iff.1 hc).1];exact hc,rfl⟩
theorem Ext.drew (h:ae)(ρ:an)(w:World)(n:Nat):Ext h h ρ ρ w { w with drawn:=n }:=
 ⟨rfl,rfl,rfl,Nat.le_refl _,Nat.le_refl _,rfl,fun _ h=>h,fun _ _=>rfl,fun _ _ _ h=>.inl h,fun _ h=>h,fun _ h=>.inl h,fun _ _ _=>rfl,fun _ _ _ h _=>.inl h,
  fun _ cs _ fr h=>⟨cs,fr,h,rfl⟩⟩
theorem Mem.ext {ρ':an}{h':ae}(m:Mem P gl ρ h w)(x:Ext h h' ρ ρ' w w')
 (hb:∀b o,h'[b]? = some (some o)->BR P gl ρ' w' b o) (hf:∀b,h'.length<=b->ρ' b = .fresh)
 (hi:∀b b' c d d',ρ' b = .live c d->ρ' b' = .live c d'->b=b') (hbd:∀b c d,ρ' b = .live c d->c<w'.heap.size):Mem P gl ρ' h' w':=
 ⟨hb,hf,hi,hbd,fun c hc=>Nat.lt_of_lt_of_le (m.xb c (by rw[←x.X];exact hc)) x.size,fun b c d hl hX=>by
  rw[x.X]at hX;have hlt:=m.xb c hX;rcases x.back b c d hl hlt with h1|⟨b0,d0,h1,_⟩
  . exact m.xo _ _ _ h1 hX
  . exact m.xo _ _ _ h1 hX,fun g v hg=>(m.gl g v hg).mono x⟩
theorem Mem.alloc (m:Mem P gl ρ h w)(o:Option aP)(O:Obj)(s:BS)(hs:(∃d,s = .live w.heap.size d)\/s = .nil\/s = .dead)
 (ho:∀o',o=some o'->BR P gl (ρ.cn h.length s) { w with heap:=w.heap.push O } h.length o') :
 Mem P gl (ρ.cn h.length s) (h++[o]) { w with heap:=w.heap.push O }:=by
 have x:=Ext.alloc m o O s hs;refine m.ext x ?_ ?_ ?_ ?_
 . intro b o' hb;rcases Nat.lt_trichotomy b h.length with hlt|heq|hgt
   . rw[List.getElem?_append_left hlt]at hb;refine(m.bU b o' hb).mono x (an.bV (by omega)) (fun c d hl=>oY (m.bound b c d hl))
   . subst heq;rw[List.getElem?_append_right (Nat.le_refl _)]at hb;simp at hb;exact ho o' hb
   . rw[List.getElem?_eq_none (by simp;omega)]at hb;cases hb
 . intro b hb;simp at hb;rw[an.bV (by omega)];exact m.fresh b (by omega)
 . intro b b' c d d' h1 h2;have bd:∀{x c d},ρ x = .live c d->c<w.heap.size:=fun h=>m.bound _ _ _ h
   by_cases e:b=h.length <;> by_cases e':b'=h.length
   . omega
   . subst e;rw[an.cq]at h1;rw[an.bV e']at h2;rcases hs with ⟨d0,rfl⟩|rfl|rfl
     . cases h1;have:=bd h2;omega
     . cases h1
     . cases h1
   . subst e';rw[an.cq]at h2;rw[an.bV e]at h1;rcases hs with ⟨d0,rfl⟩|rfl|rfl
     . cases h2;have:=bd h1;omega
     . cases h2
     . cases h2
   . rw[an.bV e]at h1;rw[an.bV e']at h2;exact m.inj b b' c d d' h1 h2
 . intro b c d hl;show c<(w.heap.push O).size;rw[Array.size_push];by_cases e:b=h.length
   . subst e;rw[an.cq]at hl;rcases hs with ⟨d0,rfl⟩|rfl|rfl
     . cases hl;omega
     . cases hl
     . cases hl
   . rw[an.bV e]at hl;have:=m.bound b c d hl;omega
theorem Mem.drew (m:Mem P gl ρ h w)(n:Nat):Mem P gl ρ h { w with drawn:=n }:=
 m.ext (Ext.drew h ρ w n) (fun b o hb=>(m.bU b o hb).mono (Ext.drew h ρ w n) rfl (fun _ _ _=>rfl)) m.fresh m.inj m.bound
def _root_.Go.World.bW (w:World)(c:Nat)(O:Obj):World:={ w with heap:=w.heap.setIfInBounds c O }
theorem iX (hc:c<w.heap.size):(w.bW c O).heap[c]? = some O:=by
 simp[World.bW,hc]
theorem oZ {c':Nat}(hc:c'≠c):(w.bW c O).heap[c']? = w.heap[c']? := by
 simp only[World.bW];rw[Array.getElem?_setIfInBounds];rw[if_neg (by omega)]
theorem pa {o:Option aP}(hb:b<h.length):(h.set b o)[b]? = some o:=by
 rw[List.getElem?_set];simp[hb]
theorem gu {b':Nat}{o:Option aP}(hb:b'≠b):(h.set b o)[b']? = h[b']? := by
 rw[List.getElem?_set];rw[if_neg (by omega)]
theorem Ext.write (m:Mem P gl ρ h w){b c d:Nat}{o0:aP}(h0:h[b]? = some (some o0))(hρ:ρ b = .live c d)(o:Option aP)(O:Obj)
 (hO:∀cs e fr,w.heap[c]? = some (.cells cs e fr)->∃cs' fr',O = .cells cs' e fr'/\cs'.size=cs.size) :
 Ext h (h.set b o) ρ ρ w (w.bW c O) where
 os:=rfl
 tape:=rfl
 output:=rfl
 size:=by simp[World.bW]
 len:=by simp
 X:=rfl
 bP b' hb':=by
  have:b'≠b:=fun e=>by subst e;rw[h0]at hb';cases hb'
  rw[gu this];exact hb'
 same _ _:=rfl
 live _ _ _ h:=.inl h
 dead _ h:=h
 nil _ h:=.inl h
 bp c' hc' hu:=by
  have:c'≠c:=fun e=>by subst e;have:=hu b d hρ;rw[h0]at this;cases this
  exact oZ this
 back _ _ _ h _:=.inl h
 shape c' cs e fr hc':=by
  by_cases e':c'=c
  . subst e';obtain⟨cs',fr',rfl,hs⟩:=hO cs e fr hc';exact⟨cs',fr',iX (m.bound _ _ _ hρ),hs⟩
  . exact⟨cs,fr,by rw[oZ e'];exact hc',rfl⟩
theorem Mem.write (m:Mem P gl ρ h w){b c d:Nat}{o0:aP}(h0:h[b]? = some (some o0))(hρ:ρ b = .live c d)(o:Option aP)(O:Obj)
 (hO:∀cs e fr,w.heap[c]? = some (.cells cs e fr)->∃cs' fr',O = .cells cs' e fr'/\cs'.size=cs.size)
 (ho:∀o',o=some o'->BR P gl ρ (w.bW c O) b o'):Mem P gl ρ (h.set b o) (w.bW c O):=by
 have x:=Ext.write m h0 hρ o O hO;refine m.ext x ?_ ?_ m.inj ?_
 . intro b' o' hb';by_cases e:b'=b
   . subst e;rw[pa (List.getElem?_eq_some_iff.1 h0).1]at hb';exact ho o' (Option.some.inj hb')
   . rw[gu e]at hb';exact(m.bU b' o' hb').mono x rfl (fun c' d' hl=>oZ (fun e'=>e (m.inj b' b c d' d (e' ▸ hl) hρ)))
 . intro b' hb';simp at hb';exact m.fresh b' hb'
 . intro b' c' d' hl;have:=m.bound b' c' d' hl;simpa[World.bW] using this
theorem Ext.forget {o0:aP}(h0:h[b]? = some (some o0))(hl:∀c d,ρ b = .live c d->c<w.heap.size) :
 Ext h (h.set b none) ρ (ρ.cn b .dead) w w where
 os:=rfl
 tape:=rfl
 output:=rfl
 size:=Nat.le_refl _
 len:=by simp
 X:=rfl
 bP b' hb':=by
  have:b'≠b:=fun e=>by subst e;rw[h0]at hb';cases hb'
  rw[gu this];exact hb'
 same b' hb':=by
  have:b'≠b:=fun e=>by subst e;rw[h0]at hb';cases hb'
  exact an.bV this
 live b' c d hb':=by
  by_cases e:b'=b
  . subst e;exact .inr (an.cq _ _ _)
  . exact .inl ((an.bV e).trans hb')
 dead b' hb':=by
  by_cases e:b'=b
  . subst e;exact an.cq _ _ _
  . exact(an.bV e).trans hb'
 nil b' hb':=by
  by_cases e:b'=b
  . subst e;exact .inr (an.cq _ _ _)
  . exact .inl ((an.bV e).trans hb')
 bp _ _ _:=rfl
 back b' c d hb' _:=by
  by_cases e:b'=b
  . subst e;rw[an.cq]at hb';cases hb'
  . rw[an.bV e]at hb';exact .inl hb'
 shape _ cs _ fr h:=⟨cs,fr,h,rfl⟩
theorem Mem.forget (m:Mem P gl ρ h w){b:Nat}{o0:aP}(h0:h[b]? = some (some o0)):Mem P gl (ρ.cn b .dead) (h.set b none) w:=by
 have x:=Ext.forget (w:=w) h0 (fun c d hl=>m.bound b c d hl);have hlt:b<h.length:=(List.getElem?_eq_some_iff.1 h0).1;refine m.ext x ?_ ?_ ?_ ?_
 . intro b' o' hb';by_cases e:b'=b
   . subst e;rw[pa hlt]at hb';cases hb'
   . rw[gu e]at hb';exact(m.bU b' o' hb').mono x (an.bV e) (fun _ _ _=>rfl)
 . intro b' hb';simp at hb';rw[an.bV (by omega)];exact m.fresh b' hb'
 . intro b1 b2 c d d' h1 h2;by_cases e1:b1=b
   . subst e1;rw[an.cq]at h1;cases h1
   . by_cases e2:b2=b
     . subst e2;rw[an.cq]at h2;cases h2
     . rw[an.bV e1]at h1;rw[an.bV e2]at h2;exact m.inj _ _ _ _ _ h1 h2
 . intro b' c d hl;by_cases e:b'=b
   . subst e;rw[an.cq]at hl;cases hl
   . rw[an.bV e]at hl;exact m.bound _ _ _ hl
theorem Ext.move (m:Mem P gl ρ h w){b c d:Nat}{o0:aP}(h0:h[b]? = some (some o0))(hρ:ρ b = .live c d)(o:Option aP)(d':Nat) :
 Ext h (h.set b none++[o]) ρ ((ρ.cn b .dead).cn h.length (.live c d')) w w:=by
 have hlt:b<h.length:=(List.getElem?_eq_some_iff.1 h0).1;have x:=Ext.forget (w:=w) h0 (fun c d hl=>m.bound b c d hl);have bp:∀b',ρ b'≠.fresh->b'≠h.length:=fun b' hb e=>hb (m.fresh b' (by omega))
 refine⟨rfl,rfl,rfl,Nat.le_refl _,by simp,rfl,?_,?_,?_,?_,?_,fun _ _ _=>rfl,?_,fun _ cs _ fr h=>⟨cs,fr,h,rfl⟩⟩
 . intro b' hb';have hlt':=(List.getElem?_eq_some_iff.1 hb').1;rw[List.getElem?_append_left (by simpa using hlt')];exact x.bP b' hb'
 . intro b' hb';have hlt':=(List.getElem?_eq_some_iff.1 hb').1;rw[an.bV (by omega)];exact x.same b' hb'
 . intro b' c' d'' hb';rw[an.bV (bp b' (by rw[hb'];simp))];exact x.live b' c' d'' hb'
 . intro b' hb';rw[an.bV (bp b' (by rw[hb'];simp))];exact x.dead b' hb'
 . intro b' hb';rw[an.bV (bp b' (by rw[hb'];simp))];exact x.nil b' hb'
 . intro b' c' d'' hb' hc;by_cases e:b'=h.length
   . subst e;rw[an.cq]at hb';cases hb';exact .inr ⟨b,d,hρ,by rw[h0];simp⟩
   . rw[an.bV e]at hb';exact x.back b' c' d'' hb' hc
theorem Mem.move (m:Mem P gl ρ h w){b c d:Nat}{o0:aP}(h0:h[b]? = some (some o0))(hρ:ρ b = .live c d)(o:Option aP)(d':Nat)
 (ho:∀o',o=some o'->BR P gl ((ρ.cn b .dead).cn h.length (.live c d')) w h.length o'):Mem P gl ((ρ.cn b .dead).cn h.length (.live c d')) (h.set b none++[o]) w:=by
 have hlt:b<h.length:=(List.getElem?_eq_some_iff.1 h0).1;have x:=Ext.move m h0 hρ o d';have m':=m.forget h0;refine m.ext x ?_ ?_ ?_ ?_
 . intro b' o' hb';rcases Nat.lt_trichotomy b' h.length with hl|he|hg
   . rw[List.getElem?_append_left (by simpa using hl)]at hb';by_cases e:b'=b
     . subst e;rw[pa hlt]at hb';cases hb'
     . rw[gu e]at hb';exact(m.bU b' o' hb').mono x (by rw[an.bV (by omega),an.bV e]) (fun _ _ _=>rfl)
   . subst he;rw[List.getElem?_append_right (by simp)]at hb';simp at hb';exact ho o' hb'
   . rw[List.getElem?_eq_none (by simp;omega)]at hb';cases hb'
 . intro b' hb';simp at hb';rw[an.bV (by omega)];exact m'.fresh b' (by simp;omega)
 . intro b1 b2 c1 d1 d2 h1 h2;have key:∀b1 d1,b1≠h.length->(ρ.cn b .dead) b1 = .live c d1->False:=fun b1 d1 e h1=>by
    by_cases e1:b1=b
    . subst e1;rw[an.cq]at h1;cases h1
    . rw[an.bV e1]at h1;exact e1 (m.inj _ _ _ _ _ h1 hρ)
   by_cases e1:b1=h.length <;> by_cases e2:b2=h.length
   . omega
   . subst e1;rw[an.cq]at h1;cases h1;rw[an.bV e2]at h2;exact(key _ _ e2 h2).elim
   . subst e2;rw[an.cq]at h2;cases h2;rw[an.bV e1]at h1;exact(key _ _ e1 h1).elim
   . rw[an.bV e1]at h1;rw[an.bV e2]at h2;exact m'.inj _ _ _ _ _ h1 h2
 . intro b' c' d'' hl;by_cases e:b'=h.length
   . subst e;rw[an.cq]at hl;cases hl;exact m.bound _ _ _ hρ
   . rw[an.bV e]at hl;exact m'.bound _ _ _ hl
end Go.Ab
namespace Go.Ab
variable {v x':Value} {l:List AV} {m:List Value} {t e:TypeId} {n:Nat}
variable {P:Program} {gl:Nat->Option AV} {ρ:an} {w:World}
theorem V.dW {k:IntKind}{n:Int}(h:V ρ w (.int k n) v):v = .int k n:=by cases h;rfl
theorem V.ij {b:Bool}(h:V ρ w (.bool b) v):v = .bool b:=by cases h;rfl
theorem V.fY {s:List UInt8}(h:V ρ w (.str s) v):v = .string ⟨s.toArray⟩:=by cases h;rfl
theorem V.fw (h:V ρ w (.agg l) v):∃m:List Value,v = .agg m.toArray/\VL ρ w l m:=by
 cases h with|agg h g=>exact⟨_,rfl,h,g⟩
theorem V.ta (h:V ρ w (.ar l) v):∃m:List Value,v = .tuple m.toArray/\VL ρ w l m:=by
 cases h with|ar h g=>exact⟨_,rfl,h,g⟩
theorem V.kO (h:VL ρ w l m):V ρ w (.agg l) (.agg m.toArray):=.agg h.1 h.2
theorem V.eQ (h:VL ρ w l m):V ρ w (.ar l) (.tuple m.toArray):=.ar h.1 h.2
theorem V.undef:V ρ w bm undef:=V.eQ VL.nil
theorem VL.get (h:VL ρ w l m){i:Nat}{x:AV}(hx:l[i]? = some x):∃y,m[i]? = some y/\V ρ w x y:=by
 have hi:i<m.length:=h.1 ▸ (List.getElem?_eq_some_iff.1 hx).1;exact⟨m[i],List.getElem?_eq_getElem hi,h.2 i x _ hx (List.getElem?_eq_getElem hi)⟩
theorem pb {rec:Value->Option AV}(hr:∀v a,rec v=some a->V ρ w a v):∀(l:List Value) (r:List AV),jI rec l=some r->VL ρ w r l
 | [],r,h=>by simp[jI]at h;subst h;exact .nil
 | v::l,r,h=>by
  simp only[jI]at h;split at h
  . rename_i a r' h1 h2;cases h;exact .cons (hr v a h1) (pb hr l r' h2)
  . cases h
theorem kP:∀(n:Nat) (v:Value) (a:AV),iU n v=some a->V ρ w a v
 | 0,_,_,h=>by simp[iU]at h
 | n+1,v,a,h=>by
  unfold iU at h;split at h
  . cases h;exact .bool _
  . cases h;exact .int _ _
  . cases h;exact V.kN _
  . cases h;exact .cT
  . cases h;exact .al
  . cases h;exact .cf
  . cases h;exact .cN
  . cases h;exact .cg
  . cases h;exact V.fn (fi':=[]) (ca':=[]) (by simp) rfl rfl (by simp) (by simp)
  . rename_i cs;simp only[Option.map_eq_some_iff]at h;obtain⟨l,h1,rfl⟩:=h;exact V.kO (pb (fun v a=>kP n v a) cs l h1)
  . rename_i cs;simp only[Option.map_eq_some_iff]at h;obtain⟨l,h1,rfl⟩:=h;exact V.eQ (pb (fun v a=>kP n v a) cs l h1)
  . cases h
theorem tc {t:Nat}:∀{l:List Nat} {k i:Nat},idx t l k=some i->∃j,i=k+j/\l[j]? = some t
 | [],_,_,h=>by simp[idx]at h
 | u::r,k,i,h=>by
  simp only[idx]at h;split at h
  . rename_i hu;cases h;exact⟨0,rfl,by simp[hu]⟩
  . obtain⟨j,h1,h2⟩:=tc h;exact⟨j+1,by omega,by simpa using h2⟩
theorem mw {t:Nat}{l:List Nat}{i:Nat}(h:idx t l 0=some i):l[i]? = some t:=by
 obtain⟨j,rfl,h2⟩:=tc h;simpa using h2
theorem my {t:Nat}:∀{l:List Nat} {k:Nat},idx t l k=none->t∉l
 | [],_,_=>by simp
 | u::r,k,h=>by
  simp only[idx]at h;split at h
  . cases h
  . rename_i hu;have:=my h;simp;exact⟨fun e=>hu e.symm,this⟩
structure Rel (C:Cx)(ρ:an)(s:St)(a:Act)(w:World):Prop where
 er:ER C ρ w s.pe s.lo a.tmps
 mem:Mem C.P C.gl ρ s.hp w
variable {C:Cx} {s:St} {a:Act}
theorem Au (r:ER C ρ w s.pe s.lo a.tmps)(g:∀n v,C.gl n=some v->V ρ w v (.pointer (some ⟨n,0,none⟩))){x:Operand}{y:aq}(hc:dU C x=some y){v:AV}(hv:s.aa y=some v) :
 V ρ w v (a.eval x):=by
 cases x with
 | tmp t=>
  simp only[dU]at hc;split at hc
  . rename_i i hi;cases hc;exact r.pe i v t hv (mw hi)
  . cases hc;exact(r.lo t v hv).2.2
 | const c=>
  simp only[dU,Option.map_eq_some_iff]at hc;obtain⟨u,h1,rfl⟩:=hc;simp only[St.aa,Option.some.injEq]at hv;subst hv;exact kP 5 c _ h1
 | global n=>
  simp only[dU,Option.map_eq_some_iff]at hc;obtain⟨u,h1,rfl⟩:=hc;simp only[St.aa,Option.some.injEq]at hv;subst hv;exact g n _ h1
 | func f=>
  simp only[dU]at hc;cases hc;simp only[St.aa]at hv;cases hv;exact V.fn (fi':=[]) (ca':=[]) (by simp) rfl rfl (by simp) (by simp)
theorem Rel.aa (r:Rel C ρ s a w){x:Operand}{y:aq}(hc:dU C x=some y){v:AV}(hv:s.aa y=some v):V ρ w v (a.eval x):=
 Au r.er r.mem.gl hc hv
theorem Rel.br (r:Rel C ρ s a w):∀{xs:List Operand} {ys:List aq},eF C xs=some ys->∀{vs:List AV},s.br ys=some vs->VL ρ w vs (xs.map a.eval)
 | [],ys,hc,vs,hv=>by
  simp[eF]at hc;subst hc;simp[St.br]at hv;subst hv;exact .nil
 | x::xs,ys,hc,vs,hv=>by
  simp only[eF]at hc;split at hc
  . rename_i y l h1 h2;cases hc;simp only[St.br]at hv;split at hv
    . rename_i v hv1;split at hv
      . rename_i vs' hv2;cases hv;exact .cons (r.aa h1 hv1) (r.br h2 hv2)
      . cases hv
    . cases hv
  . cases hc
theorem Av {op:BinOp}{x y v:AV}{y':Value}(hx:V ρ w x x')(hy:V ρ w y y')(h:cj op x y=some v)(t:TypeId) :
 ∃v',(binOp op t x' y').run P w = .ok v' w/\V ρ w v v':=by
 unfold cj at h;split at h
 . rename_i k a k' b;obtain rfl:=hx.dW;obtain rfl:=hy.dW;split at h
   . split at h
     . cases h
     . rename_i hb;cases h;exact⟨_,by simp[binOp,Op.shift,hb] <;> rfl,.int _ _⟩
   . split at h
     . cases h
     . rename_i hb;cases h;exact⟨_,by simp[binOp,Op.shift,hb] <;> rfl,.int _ _⟩
   . rename_i op' h1 h2;split at h
     . rename_i hk;subst hk;split at h <;> first
        | (cases h;exact⟨_,by simp only[binOp];rw[if_neg (by simp)];rfl,.int _ _⟩)
        | (cases h;exact⟨_,by simp only[binOp];rw[if_neg (by simp)];rfl,.bool _⟩)
        | (split at h;cases h;rename_i hb;cases h;exact⟨_,by simp[binOp,Op.intDiv,hb] <;> rfl,.int _ _⟩)
        | cases h
     . cases h
 . rename_i a b;obtain rfl:=hx.fY;obtain rfl:=hy.fY;split at h
   . split at h
     . rename_i hl;cases h;refine⟨.string ⟨(a++b).toArray⟩,?_,.str _⟩;have hs:¬(((ByteArray.mk a.toArray).size+(ByteArray.mk b.toArray).size:Nat):Int) > IntKind.i64.max:=by
        have e1:(ByteArray.mk a.toArray).size=a.length:=by simp[ByteArray.size]
        have e2:(ByteArray.mk b.toArray).size=b.length:=by simp[ByteArray.size]
        rw[e1,e2];have:IntKind.i64.max=9223372036854775807:=by decide
        omega
       have e:(ByteArray.mk a.toArray)++(ByteArray.mk b.toArray)=⟨(a++b).toArray⟩:=by
        apply ByteArray.ext;simp
       simp only[binOp,Op.stringOp];rw[if_neg hs,e];rfl
     . cases h
   all_goals first
    | (cases h;exact⟨_,by simp[binOp,Op.stringOp] <;> rfl,.bool _⟩)
    | cases h
 . cases h
theorem Aw {op:UnOp}{x v:AV}(hx:V ρ w x x')(h:mf op x=some v):∃v',(Op.unary op x').run P w = .ok v' w/\V ρ w v v':=by
 unfold mf at h;split at h
 . obtain rfl:=hx.dW;cases h;exact⟨_,by simp[Op.unary,Op.intArith] <;> rfl,.int _ _⟩
 . obtain rfl:=hx.ij;cases h;exact⟨_,by simp[Op.unary] <;> rfl,.bool _⟩
 . obtain rfl:=hx.dW;cases h;exact⟨_,by simp[Op.unary,Op.intBits] <;> rfl,.int _ _⟩
 . cases h
theorem aW {d:TypeDesc}(h:P.underlying t=some d):(underlying t).run P w = .ok d w:=by simp[underlying,h]
theorem mz {i:TypeInfo}(h:P.info? t=some i):(typeInfo t).run P w = .ok i w:=by simp[typeInfo,h]
theorem eo {i:TypeInfo}(h:P.info? t=some i):(sizeOf t).run P w = .ok i.size w:=by simp[sizeOf,typeInfo,h]
theorem td {d:TypeDesc}(h:P.underlying t=some d):(isAgg t).run P w = .ok (oU d) w:=by
 simp only[isAgg,Sem.run_bind,aW h,Result.andThen_ok];cases d <;> rfl
theorem kQ {ag:Bool}(h:shapeOf P t=some (n,ag)):∃i d,P.info? t=some i/\P.underlying t=some d/\i.size=n/\oU d=ag:=by
 unfold shapeOf at h;split at h
 . rename_i i d h1 h2;cases h;exact⟨i,d,h1,h2,rfl,rfl⟩
 . cases h
theorem Ax (h:VL ρ w l m){off n:Nat}{r:List AV}(hc:cut l off n=some r):VL ρ w r ((m.drop off).take n)/\r.length=n:=by
 unfold cut at hc;simp only at hc;split at hc
 . rename_i hl;cases hc;exact⟨(h.drop off).take n,hl⟩
 . cases hc
theorem Ay (m:List Value)(off n:Nat):(m.toArray.extract off (off+n))=((m.drop off).take n).toArray:=by
 rw[List.extract_toArray,List.extract_eq_drop_take'];simp[List.drop_take]
theorem jM {ag:Bool}(hs:shapeOf P t=some (n,ag)){l:List AV}{m:List Value}(h:VL ρ w l m){off:Nat}{v:AV}(hv:partOf l off n ag=some v) :
 ∃v',(part t m.toArray off).run P w = .ok v' w/\V ρ w v v':=by
 obtain⟨i,d,h1,h2,rfl,rfl⟩:=kQ hs;unfold partOf at hv;simp only[part,Sem.run_bind,td h2,Result.andThen_ok];split at hv
 . rename_i hag;simp only[Option.map_eq_some_iff]at hv;obtain⟨r,hr,rfl⟩:=hv;obtain⟨hr1,hr2⟩:=Ax h hr;rw[if_pos hag];refine⟨.agg ((m.drop off).take i.size).toArray,?_,V.kO hr1⟩;simp only[Sem.run_bind,eo h1,Result.andThen_ok,Ay];rfl
 . rename_i hag;rw[if_neg hag];obtain⟨y,hy1,hy2⟩:=h.get hv;refine⟨y,?_,hy2⟩;have:m.toArray[off]? = some y:=by simpa using hy1
   rw[this];rfl
theorem Az {i:Nat}{x:List AV}(hx:V ρ w (.ar x) x'){v:AV}(h:x[i]? = some v):∃v',(Instr.extract x' i).run P w = .ok v' w/\V ρ w v v':=by
 obtain⟨m,rfl,hl⟩:=hx.ta;obtain⟨y,hy1,hy2⟩:=hl.get h;refine⟨y,?_,hy2⟩;have:m.toArray[i]? = some y:=by simpa using hy1
 simp only[Instr.extract,this];rfl
theorem AA (hd:P.underlying t=some (.pointer e)){x y:AV}{x' y':Value}(hx:V ρ w x x')(hy:V ρ w y y'){r:Bool}
 (h:fC .ptr x y=some r):(Op.equalIn (n+1) t x' y').run P w = .ok r w:=by
 unfold fC at h;split at h
 all_goals first|contradiction|skip
 all_goals (cases h;cases hx <;> cases hy <;> simp[Op.equalIn,aW hd])
theorem AB (hd:P.underlying t=some (.slice e)){x y:AV}{x' y':Value}(hx:V ρ w x x')(hy:V ρ w y y'){r:Bool}
 (h:fC .slice x y=some r):(Op.equalIn (n+1) t x' y').run P w = .ok r w:=by
 unfold fC at h;split at h
 all_goals first|contradiction|skip
 all_goals (cases h;cases hx <;> cases hy <;> simp[Op.equalIn,aW hd])
theorem AD {k:TypeId}(hd:P.underlying t=some (.map k e)){x y:AV}{x' y':Value}(hx:V ρ w x x')(hy:V ρ w y y'){r:Bool}
 (h:fC .map x y=some r):(Op.equalIn (n+1) t x' y').run P w = .ok r w:=by
 unfold fC at h;split at h
 all_goals first|contradiction|skip
 all_goals (cases h;cases hx <;> cases hy <;> simp[Op.equalIn,aW hd])
theorem AE {ps rs:Array TypeId}{vr:Bool}(hd:P.underlying t=some (.func ps rs vr)){x y:AV}{x' y':Value}(hx:V ρ w x x')(hy:V ρ w y y'){r:Bool}
 (h:fC .func x y=some r):(Op.equalIn (n+1) t x' y').run P w = .ok r w:=by
 unfold fC at h;split at h
 all_goals first|contradiction|skip
 all_goals (cases h;cases hx <;> cases hy <;> simp[Op.equalIn,aW hd])
theorem AF {f d:Nat}(ih:∀(g:Bool) (T:TypeId) (t:ej),eG P d g T=some t->∀(x y:AV) (x' y':Value) (r:Bool),V ρ w x x'->V ρ w y y'->cA f t x y=some r ->
 ∀n,f<=n->(Op.equalIn n T x' y').run P w = .ok r w){n:Nat}(hn:f<=n){xs ys:List AV}{xm ym:List Value}(hx:VL ρ w xs xm)(hy:VL ρ w ys ym) :
 ∀(l:List Field) (fs:List (Nat×Nat×Bool×ej)),kK P (fun t=>eG P d true t) l=some fs->∀r,goEq (fun t x y=>cA f t x y) fs xs ys=some r ->
  (Op.eqFields n xm.toArray ym.toArray l).run P w = .ok r w:=by
 intro l;induction l with
 | nil=>
  intro fs hf r h;simp[kK]at hf;subst hf;simp[goEq]at h;subst h;simp[Op.eqFields]
 | cons fd l ihl=>
  intro fs hf r h;simp only[kK]at hf;split at hf
  . rename_i l' hl';split at hf
    . rename_i hname;cases hf;simp only[Op.eqFields];rw[if_neg (by simpa using hname)];exact ihl _ hl' r h
    . rename_i hname;split at hf
      . rename_i k ag e hs he;cases hf;simp only[goEq]at h;split at h
        . rename_i a b ha hb;obtain⟨a',ha1,ha2⟩:=jM hs hx ha;obtain⟨b',hb1,hb2⟩:=jM hs hy hb;simp only[Op.eqFields];rw[if_pos (by simpa using hname)];simp only[Sem.run_bind,ha1,hb1,Result.andThen_ok];split at h
          . rename_i hr;rw[ih true fd.type e he a b a' b' true ha2 hb2 hr n hn];simp only[Result.andThen_ok,Bool.not_true,Bool.false_eq_true,if_false];exact ihl _ hl' r h
          . rename_i hr;cases h;rw[ih true fd.type e he a b a' b' false ha2 hb2 hr n hn];simp
          . cases h
        . cases h
      . cases hf
  . cases hf
theorem AG {f d:Nat}(ih:∀(g:Bool) (T:TypeId) (t:ej),eG P d g T=some t->∀(x y:AV) (x' y':Value) (r:Bool),V ρ w x x'->V ρ w y y'->cA f t x y=some r ->
 ∀n,f<=n->(Op.equalIn n T x' y').run P w = .ok r w){n:Nat}(hn:f<=n){xs ys:List AV}{xm ym:List Value}(hx:VL ρ w xs xm)(hy:VL ρ w ys ym)
 {e:TypeId} {k:Nat} {ag:Bool} {q:ej} (hs:shapeOf P e=some (k,ag)) (hc:P.cellsOf e=k) (he:eG P d true e=some q) :
 ∀(m i:Nat) r,goEq (fun t x y=>cA f t x y) (kL k ag q m i) xs ys=some r ->
  (Op.eqItems n e (P.cellsOf e) xm.toArray ym.toArray (List.range' i m)).run P w = .ok r w:=by
 intro m;induction m with
 | zero=>
  intro i r h;simp[kL,goEq]at h;subst h;simp[Op.eqItems]
 | succ m ihm=>
  intro i r h;simp only[kL,goEq]at h;rw[List.range'_succ];split at h
  . rename_i a b ha hb;obtain⟨a',ha1,ha2⟩:=jM hs hx ha;obtain⟨b',hb1,hb2⟩:=jM hs hy hb;simp only[Op.eqItems,hc];simp only[Sem.run_bind,ha1,hb1,Result.andThen_ok];split at h
    . rename_i hr;rw[ih true e q he a b a' b' true ha2 hb2 hr n hn];simp only[Result.andThen_ok,Bool.not_true,Bool.false_eq_true,if_false];have:=ihm (i+1) r h;rw[hc]at this;exact this
    . rename_i hr;cases h;rw[ih true e q he a b a' b' false ha2 hb2 hr n hn];simp
    . cases h
  . cases h
theorem AH:∀(f d:Nat) (g:Bool) (T:TypeId) (t:ej),eG P d g T=some t->∀(x y:AV) (x' y':Value) (r:Bool),V ρ w x x'->V ρ w y y'->cA f t x y=some r ->
 ∀n,f<=n->(Op.equalIn n T x' y').run P w = .ok r w:=by
 intro f;induction f with
 | zero=>intro d g T t _ x y x' y' r _ _ h;simp[cA]at h
 | succ f ih=>
  intro d g T t ht x y x' y' r hx hy h n hn;obtain⟨n,rfl⟩:∃m,n=m+1:=⟨n-1,by omega⟩;cases d with
  | zero=>simp[eG]at ht
  | succ d=>
   simp only[eG]at ht;cases hu:P.underlying T with
   | none=>simp[hu]at ht
   | some u=>
    simp only[hu]at ht;cases u <;> simp only[Option.some.injEq,reduceCtorEq]at ht
    case bool=>
     subst ht;simp only[cA]at h;split at h <;> simp_all
     obtain rfl:=hx.ij;obtain rfl:=hy.ij;simp[Op.equalIn,aW hu,h]
    case int k=>
     subst ht;simp only[cA]at h;split at h <;> simp_all
     obtain rfl:=hx.dW;obtain rfl:=hy.dW;obtain⟨rfl,h⟩:=h;simp[Op.equalIn,aW hu,h]
    case string=>
     subst ht;simp only[cA]at h;split at h <;> simp_all
     obtain rfl:=hx.fY;obtain rfl:=hy.fY;rw[run_equalIn_string w n T _ _ hu];simp[h]
    case pointer e=>subst ht;exact AA hu hx hy (by simpa[cA] using h)
    case slice e=>subst ht;exact AB hu hx hy (by simpa[cA] using h)
    case map k e=>subst ht;exact AD hu hx hy (by simpa[cA] using h)
    case func ps rs vr=>subst ht;exact AE hu hx hy (by simpa[cA] using h)
    case interface ms=>
     subst ht;simp only[cA]at h;generalize hg:(g && !ms.isEmpty)=g' at h;clear hg;split at h
     all_goals first|(rename_i heq;cases heq;done)|(rename_i heq _ _;cases heq;done)|skip
     all_goals first|(simp at h;done)|skip
     all_goals (cases hx;cases hy;first|(split at h;(cases h);(cases h;simp[Op.equalIn,aW hu]))|(cases h;simp[Op.equalIn,aW hu]))
    case struct fs=>
     split at ht
     . cases ht
     . rename_i hst;simp only[Option.map_eq_some_iff]at ht;obtain⟨l,hl,rfl⟩:=ht;simp only[cA]at h;split at h <;> try (simp_all;done)
       rename_i fs' xs ys heq;cases heq;obtain⟨xm,rfl,hxm⟩:=hx.fw;obtain⟨ym,rfl,hym⟩:=hy.fw;have hfo:P.fieldsOf T=fs:=by simp[Program.fieldsOf,hu]
       rw[run_equalIn_struct w n T _ _ (by rw[hfo];exact hu) (by simpa using hst),hfo];exact AF (fun g T t ht x y x' y' r h1 h2 h3 n hn=>ih d g T t ht x y x' y' r h1 h2 h3 n hn) (by omega) hxm hym _ _ hl r h
    case array m e=>
     split at ht
     . rename_i k ag q hs hq;cases ht;simp only[cA]at h;split at h <;> try (simp_all;done)
       rename_i fs' xs ys heq;cases heq;obtain⟨xm,rfl,hxm⟩:=hx.fw;obtain⟨ym,rfl,hym⟩:=hy.fw;obtain⟨i,dd,hi,_,hk,_⟩:=kQ hs;have hc:P.cellsOf e=k:=by simp[Program.cellsOf,hi,hk]
       rw[run_equalIn_array w n _ _ hu hi,List.range_eq_range'];exact AG (fun g T t ht x y x' y' r h1 h2 h3 n hn=>ih d g T t ht x y x' y' r h1 h2 h3 n hn) (by omega) hxm hym hs hc hq m 0 r h
     . cases ht
end Go.Ab
