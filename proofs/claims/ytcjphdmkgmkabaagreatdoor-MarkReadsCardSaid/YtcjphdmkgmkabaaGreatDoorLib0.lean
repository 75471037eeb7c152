/-
  Own work: an abstract machine for the calls of a translated Go program: values by content, a heap of the blocks that the call itself has made, and an evaluator of resolved code. Definitions only.
-/
import GoSem.Step
import Derived.Laws.Sem
import Derived.CallsIn
import Derived.RangeFuncIn
import Derived.OrdersIn
import Derived.Laws.Strings
import Derived.Laws.StructEq
import Derived.ChangeKeysEq
set_option maxHeartbeats 8000000
set_option maxRecDepth 20000
namespace Go.Ab
inductive AV where
 | bI
 | bool (b:Bool)
 | int (k:IntKind) (n:Int)
 | str (s:List UInt8)
 | cK
 | ptr (b off:Nat)
 | vp (l:List AV)
 | ak
 | sl (b off len esz:Nat) (cap:Option Nat)
 | vs (l:List AV) (len:Nat) (cap:Option Nat)
 | bY
 | map (b:Nat)
 | fn (f:Fn) (first captured:List AV)
 | cH
 | iface (t:TypeId) (v:AV)
 | bZ
 | agg (l:List AV)
 | aq (l:List AV)
 deriving Inhabited
inductive an where
 | p (i:Nat)
 | l (t:Nat)
 | c (v:AV)
 deriving Inhabited
inductive sv where
 | ptr|slice|map|func
 deriving Inhabited
inductive ed where
 | bool|int|str|ref (k:sv)|iface (guard:Bool)
 | fm (fs:List (Nat×Nat×Bool×ed))
 deriving Inhabited
inductive gP where
 | str|sl|arr (n:Nat)
 deriving Inhabited
inductive eo where
 | int|str
 deriving Inhabited
inductive aB where
 | mv (x:an)
 | pick (c a b:an)
 | bin (op:BinOp) (x y:an)
 | eq (neg:Bool) (t:ed) (x y:an)
 | un (op:UnOp) (x:an)
 | de (k:IntKind) (x:an)
 | oq (x:an)
 | ot (x:an)
 | jr (elem:TypeId) (x:an)
 | gQ (x:an)
 | js (u:Option (TypeId×Nat)) (x:an)
 | kp (neg:Bool) (x y:an)
 | ou (x:an)
 | kq (e:TypeId) (x n:an)
 | kr (esz:Nat) (z:List AV) (x:an)
 | lP (x:an)
 | field (off n:Nat) (agg:Bool) (x:an)
 | lQ (off:Nat) (x:an)
 | ee (arr:Option Nat) (esz:Nat) (x i:an)
 | index (x i:an)
 | ov (len esz:Nat) (agg:Bool) (x i:an)
 | slice (k:gP) (esz:Nat) (x:an) (lo hi mx:Option an)
 | extract (i:Nat) (x:an)
 | ku (t:TypeId) (x:an)
 | ox (t:TypeId) (z:AV) (ok:Bool) (x:an)
 | jt (f:Fn) (first captured:List an)
 | build (zero:List AV) (ps:List (Nat×Nat×an))
 | len (k:gP) (x:an)
 | cap (x:an)
 | mm (max:Bool) (xs:List an)
 | alloc (elem:TypeId) (zero:List AV)
 | box (elem:TypeId) (n:Nat) (x:an)
 | fo (elem:TypeId) (len esz:Nat) (zero:List AV) (ps:List (Nat×Nat×an))
 | load (n:Nat) (agg:Bool) (x:an)
 | store (n:Nat) (x y:an)
 | fM
 | fV (elem:TypeId) (esz bytes:Nat) (zero:List AV) (l c:an)
 | lookup (k:eo) (zero:AV) (x i:an) (ok:Bool)
 | eS (k:eo) (m i x:an)
 | range (x:an)
 | next (x:an)
 | append (elem:TypeId) (esz bytes:Nat) (x y:an)
 | copy (esz:Nat) (x y:an)
 | fp (n esz:Nat) (x:an) (lo hi:Option an)
 | ky (x:an)
 | call (f:an) (args:List an)
 | invoke (x:an) (name:String) (args:List an)
 deriving Inhabited
inductive cN where
 | no|p (i:Nat)|l (t:Nat)
 deriving Inhabited
structure aw where
 dst:cN
 op:aB
 guard:Option (an×Bool)
 deriving Inhabited
inductive ao where
 | skip
 | region (ops:List aw)
 | draw (ops:List (aw×List Nat))
 | seq (a b:ao)
 | cond (c:an) (thn els:ao)
 | block (id:Nat) (body:ao)
 | loop (body:ao)
 | exit (id:Nat)
 | ret
 | rangeFunc (inner:Bool) (f:an) (ps:List cN) (assign body:ao)
 | bad
 deriving Inhabited
inductive Ex where
 | normal|exit (id:Nat)|ret
 deriving DecidableEq,Inhabited
inductive aK where
 | cells (l:List AV) (elem:TypeId)
 | map (es:List (AV×AV))
 | iter (s:List UInt8) (pos:Nat)
 | cO
 | hole
 | loop (st:LoopState) (pend:Option Ex) (pe:List AV) (ps:List cN) (assign body:ao)
 deriving Inhabited
abbrev ab:=List (Option aK)
inductive fW where
 | var (x:an)
 | cell (n:Nat) (agg:Bool) (x:an)
 deriving Inhabited
structure bJ where
 N:Nat
 ar:List Nat
 results:List fW
 body:ao
 deriving Inhabited
structure St where
 pe:List AV
 lo:List (Nat×AV)
 hp:ab
 bC:List Nat:=[]
 deriving Inhabited
def St.aa (s:St):an->Option AV
 | .p i=>s.pe[i]?
 | .l t=>s.lo.lookup t
 | .c v=>some v
def St.bp (s:St):List an->Option (List AV)
 | []=>some []
 | x::xs=>match s.aa x with
   | some v=>match s.bp xs with
     | some vs=>some (v::vs)
     | none=>none
   | none=>none
def St.bS (s:St):Option an->Option (Option AV)
 | none=>some none
 | some x=>(s.aa x).map some
def St.put (s:St)(d:cN)(v:AV):St:=
 match d with
 | .no=>s
 | .p i=>{ s with pe:=s.pe.set i v }
 | .l t=>{ s with lo:=(t,v)::s.lo }
def AV.cells:AV->Option (List AV)
 | .bI=>none
 | .agg l=>some l
 | v=>some [v]
def dg:AV->Bool
 | .bI | .agg _ | .aq _=>false
 | _=>true
def cut (l:List AV)(off n:Nat):Option (List AV):=
 let r:=(l.drop off).take n
 if r.length=n then some r else none
def partOf (l:List AV)(off n:Nat)(agg:Bool):Option AV:=
 if agg then (cut l off n).map .agg else l[off]?
def overwrite (l:List AV)(off:Nat)(new:List AV):List AV:=
 l.take off++new++l.drop (off+new.length)
def gw:List AV->List (Nat×Nat×AV)->Option (List AV)
 | cs,[]=>some cs
 | cs,(off,n,v)::rest=>match v.cells with
   | some l=>if l.length=n/\off+n<=cs.length then gw (overwrite cs off l) rest else none
   | none=>none
def St.parts (s:St):List (Nat×Nat×an)->Option (List (Nat×Nat×AV))
 | []=>some []
 | (o,n,x)::r=>match s.aa x with
   | some v=>match s.parts r with
     | some vs=>some ((o,n,v)::vs)
     | none=>none
   | none=>none
def kz:AV->Option Int
 | .int _ n=>some n
 | _=>none
def ab.at (h:ab)(b:Nat):Option aK:=(h[b]?).join
def dO (h:ab):AV->Option (List AV)
 | .ptr b off=>match h.at b with|some (.cells l _)=>some (l.drop off)|_=>none
 | .vp l=>some l
 | _=>none
def dz (h:ab):AV->Option (List AV×Nat)
 | .ak=>some ([],0)
 | .vs l n _=>some (l,n)
 | .sl b off n esz _=>match h.at b with
   | some (.cells l _)=>(cut l off (n*esz)).map (·,n)
   | _=>if n=0 then some ([],0) else none
 | .str s=>some (s.map fun c=>.int .u8 c.toNat,s.length)
 | _=>none
def fq:sv->AV->AV->Option Bool
 | .ptr,.cK,.cK=>some true
 | .ptr,.cK,.ptr _ _=>some false
 | .ptr,.cK,.vp _=>some false
 | .ptr,.ptr _ _,.cK=>some false
 | .ptr,.vp _,.cK=>some false
 | .slice,.ak,.ak=>some true
 | .slice,.ak,.sl _ _ (_+1) _ _=>some false
 | .slice,.sl _ _ (_+1) _ _,.ak=>some false
 | .slice,.ak,.sl _ _ 0 _ (some _)=>some false
 | .slice,.sl _ _ 0 _ (some _),.ak=>some false
 | .slice,.ak,.vs (_::_) _ _=>some false
 | .slice,.vs (_::_) _ _,.ak=>some false
 | .map,.bY,.bY=>some true
 | .map,.bY,.map _=>some false
 | .map,.map _,.bY=>some false
 | .func,.cH,.cH=>some true
 | .func,.cH,.fn _ _ _=>some false
 | .func,.fn _ _ _,.cH=>some false
 | _,_,_=>none
def goEq (rec:ed->AV->AV->Option Bool):List (Nat×Nat×Bool×ed)->List AV->List AV->Option Bool
 | [],_,_=>some true
 | (off,n,ag,t)::rest,xs,ys=>
  match partOf xs off n ag,partOf ys off n ag with
  | some x,some y=>match rec t x y with
    | some true=>goEq rec rest xs ys
    | some false=>some false
    | none=>none
  | _,_=>none
def cd:Nat->ed->AV->AV->Option Bool
 | 0,_,_,_=>none
 | d+1,t,x,y=>
  match t,x,y with
  | .bool,.bool a,.bool b=>some (a == b)
  | .int,.int k a,.int k' b=>if k=k' then some (a == b) else none
  | .str,.str a,.str b=>some (a == b)
  | .ref k,x,y=>fq k x y
  | .iface g,.bZ,.bZ=>if g then none else some true
  | .iface _,.bZ,.iface _ _=>some false
  | .iface _,.iface _ _,.bZ=>some false
  | .fm fs,.agg xs,.agg ys=>goEq (fun t x y=>cd d t x y) fs xs ys
  | _,_,_=>none
def cf (op:BinOp)(x y:AV):Option AV:=
 match x,y with
 | .int k a,.int k' b=>
  match op with
  | .shl=>if b<0 then none else some (.int k (k.wrap (a*2^(min b.toNat k.bits))))
  | .shr=>if b<0 then none else some (.int k (a.fdiv (2^(min b.toNat k.bits))))
  | op=>if k=k' then
      match op with
      | .add=>some (.int k (k.wrap (a+b)))
      | .sub=>some (.int k (k.wrap (a-b)))
      | .mul=>some (.int k (k.wrap (a*b)))
      | .quo=>if b=0 then none else some (.int k (k.wrap (a.tdiv b)))
      | .rem=>if b=0 then none else some (.int k (a.tmod b))
      | .and=>some (.int k (k.wrap (BitVec.ofInt k.bits a &&& BitVec.ofInt k.bits b).toNat))
      | .or=>some (.int k (k.wrap (BitVec.ofInt k.bits a ||| BitVec.ofInt k.bits b).toNat))
      | .xor=>some (.int k (k.wrap (BitVec.ofInt k.bits a ^^^ BitVec.ofInt k.bits b).toNat))
      | .andNot=>some (.int k (k.wrap (BitVec.ofInt k.bits a &&& ~~~ BitVec.ofInt k.bits b).toNat))
      | .eql=>some (.bool (a == b))
      | .neq=>some (.bool (a != b))
      | .lss=>some (.bool (a<b))
      | .leq=>some (.bool (a<=b))
      | .gtr=>some (.bool (a > b))
      | .geq=>some (.bool (a>=b))
      | _=>none
    else none
 | .str a,.str b=>
  match op with
  | .add=>if a.length+b.length<2^62 then some (.str (a++b)) else none
  | .eql=>some (.bool (a == b))
  | .neq=>some (.bool !(a == b))
  | .lss=>some (.bool (Op.bytesLess a b))
  | .leq=>some (.bool (Op.bytesLess a b || a == b))
  | .gtr=>some (.bool !(Op.bytesLess a b || a == b))
  | .geq=>some (.bool !(Op.bytesLess a b))
  | _=>none
 | _,_=>none
def lR (op:UnOp)(x:AV):Option AV:=
 match op,x with
 | .neg,.int k n=>some (.int k (k.wrap (0-n)))
 | .not,.bool b=>some (.bool !b)
 | .xor,.int k n=>some (.int k (k.wrap (BitVec.ofInt k.bits (if k.signed then -1 else k.max) ^^^ BitVec.ofInt k.bits n).toNat))
 | _,_=>none
def gR (k:IntKind)(x:AV):Option AV:=
 match x with
 | .int _ n=>some (.int k (k.wrap n))
 | _=>none
def oy (off:Nat)(x:AV):Option AV:=
 match x with
 | .ptr b o=>some (.ptr b (o+off))
 | .vp l=>some (.vp (l.drop off))
 | _=>none
def iA (arr:Option Nat)(esz:Nat)(x i:AV):Option AV:=
 match i with
 | .int _ n=>
  match arr,x with
  | some len,.ptr b o=>if 0<=n/\n<len then some (.ptr b (o+n.toNat*esz)) else none
  | some len,.vp l=>if 0<=n/\n<len then some (.vp (l.drop (n.toNat*esz))) else none
  | none,.sl b o len e _=>if 0<=n/\n<len/\e=esz then some (.ptr b (o+n.toNat*esz)) else none
  | none,.vs l len _=>if 0<=n/\n<len then some (.vp (l.drop (n.toNat*esz))) else none
  | _,_=>none
 | _=>none
def lS (x i:AV):Option AV:=
 match x,i with
 | .str s,.int _ n=>if 0<=n then (s[n.toNat]?).map fun c=>.int .u8 c.toNat else none
 | _,_=>none
def aO (x:Option AV)(dflt most:Nat):Option Nat:=
 match x with
 | none=>some dflt
 | some (.int _ n)=>if 0<=n/\n<=most then some n.toNat else none
 | some _=>none
def gz (k:gP)(esz:Nat)(x:AV)(lo hi mx:Option AV):Option AV:=
 match k,x,mx with
 | .str,.str s,none=>
  match aO hi s.length s.length with
  | some h=>match aO lo 0 h with
    | some l=>some (.str ((s.drop l).take (h-l)))
    | none=>none
  | none=>none
 | .sl,.ak,none=>
  match aO hi 0 0,aO lo 0 0 with
  | some _,some _=>some .ak
  | _,_=>none
 | .sl,.ak,some m=>
  match aO (some m) 0 0,aO hi 0 0,aO lo 0 0 with
  | some _,some _,some _=>some .ak
  | _,_,_=>none
 | .sl,.sl b o len e cap,none=>
  if e=esz then
   match aO hi len (cap.getD len) with
   | some h=>match aO lo 0 h with
     | some l=>
      if l<h then some (.sl b (o+l*esz) (h-l) esz (cap.map (· - l)))
      else some (.vs [] 0 (cap.map (· - l)))
     | none=>none
   | none=>none
  else none
 | .sl,.sl b o len e cap,some m=>
  if e=esz then
   match aO (some m) len (cap.getD len) with
   | some m=>match aO hi len m with
     | some h=>match aO lo 0 h with
       | some l=>
        if l<h then some (.sl b (o+l*esz) (h-l) esz (some (m-l)))
        else some (.vs [] 0 (some (m-l)))
       | none=>none
     | none=>none
   | none=>none
  else none
 | .sl,.vs c len cap,none=>
  match aO hi len len with
  | some h=>match aO lo 0 h with
    | some l=>some (.vs ((c.drop (l*esz)).take ((h-l)*esz)) (h-l) (cap.map (· - l)))
    | none=>none
  | none=>none
 | .sl,.vs c len _,some m=>
  match aO (some m) len len with
  | some m=>match aO hi len m with
    | some h=>match aO lo 0 h with
      | some l=>some (.vs ((c.drop (l*esz)).take ((h-l)*esz)) (h-l) (some (m-l)))
      | none=>none
    | none=>none
  | none=>none
 | _,_,_=>none
def lT (k:gP)(x:AV):Option AV:=
 match k,x with
 | .str,.str s=>some (.int .i64 s.length)
 | .sl,.ak=>some (.int .i64 0)
 | .sl,.sl _ _ n _ _=>some (.int .i64 n)
 | .sl,.vs _ n _=>some (.int .i64 n)
 | _,_=>none
def iB (max:Bool):AV->List AV->Option AV
 | x,[]=>some x
 | .int k a,.int k' b::rest=>
  if k=k' then iB max (.int k (if max then (if b > a then b else a) else (if b<a then b else a))) rest else none
 | _,_=>none
def oz (x:AV):Option AV:=
 match x with
 | .ptr _ _ | .vp _=>some x
 | .fn (.func _) _ _=>some x
 | .fn (.yield _) _ _=>some x
 | _=>none
def aC (s:St)(io:aB):Option AV:=
 match io with
 | .mv x=>s.aa x
 | .pick c a b=>match s.aa c,s.aa a,s.aa b with
   | some (.bool t),some a,some b=>some (if t then a else b)
   | some (.bool t),some a,none=>if t then some a else none
   | some (.bool t),none,some b=>if t then none else some b
   | _,_,_=>none
 | .bin op x y=>match s.aa x,s.aa y with
   | some a,some b=>cf op a b
   | _,_=>none
 | .eq neg t x y=>match s.aa x,s.aa y with
   | some a,some b=>match cd 100 t a b with
     | some r=>some (.bool (if neg then !r else r))
     | none=>none
   | _,_=>none
 | .un op x=>(s.aa x).bind (lR op)
 | .de k x=>(s.aa x).bind (gR k)
 | .oq x=>match s.aa x with
   | some (.int _ n)=>some (.str (Utf8.encode n).data.toList)
   | _=>none
 | .ot x=>match s.aa x with
   | some (.str t)=>some (.str t)
   | _=>none
 | .lP x=>(s.aa x).bind oz
 | .field off n ag x=>match s.aa x with
   | some (.agg l)=>partOf l off n ag
   | _=>none
 | .lQ off x=>(s.aa x).bind (oy off)
 | .ee arr esz x i=>match s.aa x,s.aa i with
   | some a,some b=>iA arr esz a b
   | _,_=>none
 | .index x i=>match s.aa x,s.aa i with
   | some a,some b=>lS a b
   | _,_=>none
 | .ov len esz ag x i=>match s.aa x,s.aa i with
   | some (.agg l),some (.int _ n)=>if 0<=n/\n<len then partOf l (n.toNat*esz) esz ag else none
   | _,_=>none
 | .slice k esz x lo hi mx=>match s.aa x with
   | some a=>
    match s.bS lo,s.bS hi,s.bS mx with
    | some l,some h,some m=>if m.isNone || h.isSome then gz k esz a l h m else none
    | _,_,_=>none
   | none=>none
 | .extract i x=>match s.aa x with
   | some (.aq l)=>l[i]?
   | _=>none
 | .ku t x=>(s.aa x).map (.iface t)
 | .ox t z ok x=>match s.aa x with
   | some (.iface u v)=>if u=t then some (if ok then .aq [v,.bool true] else v) else if ok then some (.aq [z,.bool false]) else none
   | some .bZ=>if ok then some (.aq [z,.bool false]) else none
   | _=>none
 | .jt f fi ca=>match s.bp fi,s.bp ca with
   | some a,some b=>some (.fn f a b)
   | _,_=>none
 | .build zero ps=>match s.parts ps with
   | some vs=>(gw zero vs).map .agg
   | none=>none
 | .len k x=>match k with
   | .arr n=>some (.int .i64 n)
   | k=>(s.aa x).bind (lT k)
 | .cap x=>match s.aa x with
   | some .ak=>some (.int .i64 0)
   | some (.sl _ _ _ _ (some c))=>some (.int .i64 c)
   | some (.vs _ _ (some c))=>some (.int .i64 c)
   | _=>none
 | .mm mx xs=>match s.bp xs with
   | some (.int k a::rest)=>iB mx (.int k a) rest
   | _=>none
 | .ou x=>match s.aa x with
   | some .ak=>some .cK
   | some (.sl b o (_+1) _ _)=>some (.ptr b o)
   | _=>none
 | _=>none
def aB.aI:aB->Bool
 | .alloc .. | .box .. | .fo .. | .load .. | .store .. | .fM | .fV .. | .lookup .. | .eS .. | .range .. | .next .. | .append .. | .copy .. | .fp .. | .ky .. | .call .. | .invoke .. | .gQ .. | .jr .. | .js .. | .kp .. | .kq .. | .kr .. => true
 | _=>false
def lU:List (Nat×Nat×an)->List an
 | []=>[]
 | (_,_,x)::r=>x::lU r
def aB.dV:aB->List an
 | .mv x | .un _ x | .de _ x | .oq x | .ot x | .jr _ x | .gQ x | .lP x | .field _ _ _ x | .lQ _ x | .extract _ x | .ku _ x
 | .len _ x | .cap x | .box _ _ x | .load _ _ x | .range x | .next x | .ky x | .js _ x | .ou x | .ox _ _ _ x | .kr _ _ x=>[x]
 | .pick c a b=>[c,a,b]
 | .bin _ x y | .eq _ _ x y | .ee _ _ x y | .index x y | .ov _ _ _ x y | .store _ x y | .fV _ _ _ _ x y | .lookup _ _ x y _ | .append _ _ _ x y | .copy _ x y | .kp _ x y | .kq _ x y=>[x,y]
 | .slice _ _ x lo hi mx=>x::(lo.toList++hi.toList++mx.toList)
 | .fp _ _ x lo hi=>x::(lo.toList++hi.toList)
 | .jt _ fi ca=>fi++ca
 | .build _ ps | .fo _ _ _ _ ps=>lU ps
 | .mm _ xs=>xs
 | .alloc .. | .fM=>[]
 | .eS _ m i x=>[m,i,x]
 | .call f as | .invoke f _ as=>f::as
def aw.dV (o:aw):List an:=(match o.guard with|some (x,_)=>[x]|none=>[])++o.op.dV
def cw:cN->an->Bool
 | .p i,.p j=>i == j
 | .l t,.l u=>t == u
 | _,_=>false
def sw:cN->cN->Bool
 | .p i,.p j=>i == j
 | .l t,.l u=>t == u
 | _,_=>false
def ju (a b:aw):Bool:=(b.dV.all fun x=>!cw a.dst x) && (a.dV.all fun x=>!cw b.dst x) && !sw a.dst b.dst
structure HR where
 v:AV
 h:ab
 wr:List Nat
def aW:AV:=.aq []
def ab.put (h:ab)(b:Nat)(o:Option aK):ab:=h.set b o
def jv:AV->AV->Option Bool
 | .int k a,.int k' b=>if k=k' then some (a == b) else none
 | .str a,.str b=>some (a == b)
 | _,_=>none
def fu (k:AV):List (AV×AV)->Nat->Option (Option (Nat×AV))
 | [],_=>some none
 | (k',v)::r,i=>match jv k k' with
   | some true=>some (some (i,v))
   | some false=>fu k r (i+1)
   | none=>none
def eo.ok:eo->AV->Bool
 | .int,.int _ _=>true
 | .str,.str _=>true
 | _,_=>false
def dW (zero:List AV):Nat->List AV
 | 0=>[]
 | n+1=>zero++dW zero n
def bytesOf:List AV->Option (List UInt8)
 | []=>some []
 | .int .u8 n::r=>match bytesOf r with
   | some l=>some (UInt8.ofNat n.toNat::l)
   | none=>none
 | _=>none
def fv:Nat:=2^46
def kA (elem:TypeId)(esz bytes:Nat)(h:ab)(x y:AV):Option HR:=
 match dz h y with
 | none=>none
 | some (new,n)=>
  if new.length=n*esz/\0<bytes/\new.all dg=true then
   match x with
   | .ak=>
    if n=0 then some ⟨.ak,h,[]⟩
    else if n*bytes<=fv then some ⟨.sl h.length 0 n esz none,h++[some (.cells new elem)],[]⟩ else none
   | .vs l len cap=>
    if n=0 then some ⟨x,h,[]⟩ else
    match cap with
    | some c=>if c<len+n/\(len+n)*bytes<=fv/\l.length=len*esz then some ⟨.sl h.length 0 (len+n) esz none,h++[some (.cells (l++new) elem)],[]⟩ else none
    | none=>none
   | .sl b off len e cap=>
    if n=0 then some ⟨x,h,[]⟩ else
    if e=esz/\(len+n)*bytes<=fv then
     match h.at b with
     | some (.cells l el)=>
      match cap with
      | some c=>
       if len+n<=c then
        if off+(len+n)*esz<=l.length then some ⟨.sl b off (len+n) esz cap,h.put b (some (.cells (overwrite l (off+len*esz) new) el)),[b]⟩ else none
       else match cut l off (len*esz) with
        | some bh=>some ⟨.sl h.length 0 (len+n) esz none,h++[some (.cells (bh++new) elem)],[]⟩
        | none=>none
      | none=>
       if l.length=off+len*esz/\el=elem then
        some ⟨.sl h.length 0 (len+n) esz none,h.put b none++[some (.cells (l.drop off++new) elem)],[b]⟩
       else none
     | _=>none
    else none
   | _=>none
  else none
def aP (s:St)(io:aB)(h:ab):Option HR:=
 match io with
 | .alloc elem zero=>some ⟨.ptr h.length 0,h++[some (.cells zero elem)],[]⟩
 | .box elem n x=>match (s.aa x).bind AV.cells with
   | some l=>if l.length=n then some ⟨.ptr h.length 0,h++[some (.cells l elem)],[]⟩ else none
   | none=>none
 | .fo elem len esz zero ps=>match s.parts ps with
   | some vs=>match gw (dW zero len) vs with
     | some l=>if l.length=len*esz then some ⟨.sl h.length 0 len esz (some len),h++[some (.cells l elem)],[]⟩ else none
     | none=>none
   | none=>none
 | .load n ag x=>match (s.aa x).bind (dO h) with
   | some l=>match partOf l 0 n ag with
     | some v=>some ⟨v,h,[]⟩
     | none=>none
   | none=>none
 | .store n x y=>match s.aa x,(s.aa y).bind AV.cells with
   | some (.ptr b off),some new=>match h.at b with
     | some (.cells l el)=>if new.length=n/\off+n<=l.length/\new.all dg=true then some ⟨aW,h.put b (some (.cells (overwrite l off new) el)),[b]⟩ else none
     | _=>none
   | _,_=>none
 | .fM=>some ⟨.map h.length,h++[some (.map [])],[]⟩
 | .fV elem esz bytes zero l c=>match (s.aa l).bind kz,(s.aa c).bind kz with
   | some a,some b=>
    if 0<=a/\a<=b/\b.toNat*bytes<=fv/\b<=2^46/\zero.length=esz then some ⟨.sl h.length 0 a.toNat esz (some b.toNat),h++[some (.cells (dW zero b.toNat) elem)],[]⟩ else none
   | _,_=>none
 | .lookup kt zero x i ok=>match s.aa x,s.aa i with
   | some m,some k=>
    if kt.ok k then
     let es? : Option (List (AV×AV)):=match m with
      | .bY=>some []
      | .map b=>match h.at b with|some (.map es)=>some es|_=>none
      | _=>none
     match es? with
     | some es=>match fu k es 0 with
       | some r=>
        let v:=match r with|some (_,v)=>v|none=>zero
        some ⟨if ok then .aq [v,.bool r.isSome] else v,h,[]⟩
       | none=>none
     | none=>none
    else none
   | _,_=>none
 | .eS kt m i x=>match s.aa m,s.aa i,s.aa x with
   | some (.map b),some k,some v=>
    if kt.ok k then
     match h.at b with
     | some (.map es)=>match fu k es 0 with
       | some (some (j,_))=>some ⟨aW,h.put b (some (.map (es.set j (k,v)))),[b]⟩
       | some none=>some ⟨aW,h.put b (some (.map (es++[(k,v)]))),[b]⟩
       | none=>none
     | _=>none
    else none
   | _,_,_=>none
 | .range x=>match s.aa x with
   | some (.str t)=>some ⟨.ptr h.length 0,h++[some (.iter t 0)],[]⟩
   | _=>none
 | .next x=>match s.aa x with
   | some (.ptr b 0)=>match h.at b with
     | some (.iter t pos)=>
      if pos<t.length then
       let (c,w):=Utf8.decode ⟨t.toArray⟩ pos
       some ⟨.aq [.bool true,.int .i64 pos,.int .i32 c],h.put b (some (.iter t (pos+w))),[b]⟩
      else some ⟨.aq [.bool false],h,[]⟩
     | _=>none
   | _=>none
 | .append elem esz bytes x y=>match s.aa x,s.aa y with
   | some a,some b=>kA elem esz bytes h a b
   | _,_=>none
 | .kr esz z x=>match s.aa x with
   | some (.sl b off len e _)=>
    if e=esz/\z.all dg=true/\z.length=esz/\0<len then
     match h.at b with
     | some (.cells l el)=>if off+len*esz<=l.length then some ⟨.aq [],h.put b (some (.cells (overwrite l off (dW z len)) el)),[b]⟩ else none
     | _=>none
    else none
   | some (.vs [] 0 _)=>some ⟨.aq [],h,[]⟩
   | some .ak=>some ⟨.aq [],h,[]⟩
   | _=>none
 | .copy esz x y=>match s.aa x,s.aa y with
   | some (.sl b off len e _),some y=>
    match dz h y with
    | some (src,n)=>
     if e=esz/\src.length=n*esz/\src.all dg=true then
      let m:=min n len
      match h.at b with
      | some (.cells l el)=>if off+m*esz<=l.length then some ⟨.int .i64 m,h.put b (some (.cells (overwrite l off (src.take (m*esz))) el)),[b]⟩ else none
      | _=>none
     else none
    | none=>none
   | some .ak,some y=>match dz h y with
     | some (src,n)=>if src.length=n*esz then some ⟨.int .i64 0,h,[]⟩ else none
     | none=>none
   | _,_=>none
 | .fp n esz x lo hi=>match s.aa x,s.bS lo,s.bS hi with
   | some (.ptr b o),some lo,some hi=>match h.at b with
     | some (.cells l _)=>
      if o+n*esz<=l.length then
       match aO hi n n with
       | some hh=>match aO lo 0 hh with
         | some ll=>some ⟨if ll<n then .sl b (o+ll*esz) (hh-ll) esz (some (n-ll)) else .vs [] 0 (some 0),h,[]⟩
         | none=>none
       | none=>none
      else none
     | _=>none
   | _,_,_=>none
 | .ky x=>match s.aa x with
   | some (.map b)=>match h.at b with
     | some (.map es)=>some ⟨.int .i64 es.length,h,[]⟩
     | _=>none
   | some .bY=>some ⟨.int .i64 0,h,[]⟩
   | _=>none
 | .jr elem x=>match s.aa x with
   | some (.str t)=>some ⟨.sl h.length 0 t.length 1 none,h++[some (.cells (t.map fun c=>.int .u8 c.toNat) elem)],[]⟩
   | _=>none
 | .gQ x=>match s.aa x with
   | some (.str _)=>none
   | some y=>match dz h y with
     | some (l,n)=>if l.length=n then
         match bytesOf l with
         | some t=>some ⟨.str t,h,[]⟩
         | none=>none
       else none
     | none=>none
   | none=>none
 | .js u x=>match s.aa x with
   | some (.ptr b o)=>match h.at b with
     | some (.cells l e)=>
      if o<l.length/\(match u with|none=>true|some (t,n)=>decide (o=0/\e=t/\l.length=n))=true then some ⟨.ptr b o,h,[]⟩ else none
     | _=>none
   | _=>none
 | .kp neg x y=>match s.aa x,s.aa y with
   | some (.ptr b o),some (.ptr b' o')=>match h.at b with
     | some (.cells _ _)=>if b=b'/\o=o' then some ⟨.bool !neg,h,[]⟩ else none
     | _=>none
   | _,_=>none
 | .kq e x n=>match s.aa x,s.aa n with
   | some .cK,some (.int _ k)=>if k=0 then some ⟨.str [],h,[]⟩ else none
   | some (.ptr b o),some (.int _ k)=>
    if 0<k/\k<=2^46 then
     match h.at b with
     | some (.cells l el)=>
      if el=e then
       match cut l o k.toNat with
       | some c=>match bytesOf c with
         | some t=>some ⟨.str t,h.put b none,[b]⟩
         | none=>none
       | none=>none
      else none
     | _=>none
    else none
   | _,_=>none
 | _=>none
abbrev ck:=AV->List AV->ab->Option HR
abbrev cI:=TypeId->String->Option FuncId
def aQ (call:ck)(inv:cI)(s:St)(io:aB):Option HR:=
 match io with
 | .call f args=>match s.aa f,s.bp args with
   | some g,some as=>call g as s.hp
   | _,_=>none
 | .invoke x name args=>match s.aa x,s.bp args with
   | some (.iface t v),some as=>match inv t name with
     | some f=>call (.fn (.func f) [] []) (v::as) s.hp
     | none=>none
   | _,_=>none
 | io=>if io.aI then aP s io s.hp else (aC s io).map fun v=>⟨v,s.hp,[]⟩
def cJ (s:St)(g:Option (an×Bool)):Option Bool:=
 match g with
 | none=>some true
 | some (x,want)=>match s.aa x with
   | some (.bool b)=>some (b == want)
   | some (.aq _)=>some false
   | _=>none
structure ah where
 s:St
 wr:List Nat
def cX (call:ck)(inv:cI):List aw->ah->Option ah
 | [],s=>some s
 | o::rest,s=>match cJ s.s o.guard with
   | some true=>match aQ call inv s.s o.op with
     | some r=>cX call inv rest ⟨{ s.s.put o.dst r.v with hp:=r.h },r.wr++s.wr⟩
     | none=>none
   | some false=>cX call inv rest ⟨s.s.put o.dst aW,s.wr⟩
   | none=>none
def mask (h:ab)(U:List Nat):ab:=U.foldl (fun h b=>h.set b none) h
def cL (T:List Nat):ab->Nat->ab
 | [],_=>[]
 | o::r,i=>(if T.contains i then o else none)::cL T r (i+1)
def cP (wr:List Nat):ab->ab->Nat->ab
 | o::h,n::h',i=>(if wr.contains i then n else o)::cP wr h h' (i+1)
 | [],h',_=>h'
 | h,[],_=>h
def gA (s:St)(io:aB):Option (List Nat):=
 let bN (x:an):List Nat:=match s.aa x with
  | some (.ptr b _)=>[b]
  | some (.sl b _ _ _ _)=>[b]
  | some (.map b)=>[b]
  | _=>[]
 match io with
 | .alloc .. | .box .. | .fo .. | .fM | .fV .. | .range _ | .jr .. => some []
 | .load _ _ x | .next x | .ky x | .gQ x | .store _ x _ | .lookup _ _ x _ _ | .eS _ x _ _=>some (bN x)
 | .append _ _ _ x y | .copy _ x y | .kp _ x y=>some (bN x++bN y)
 | .js _ x | .kq _ x _ | .kr _ _ x=>some (bN x)
 | .fp _ _ x _ _=>some (bN x)
 | .call .. | .invoke .. => none
 | _=>some []
structure bf where
 fX:Option (List Nat)
 wr:List Nat
 lo:Nat
 hi:Nat
def bf.own (d:bf):List Nat:=d.wr++List.range' d.lo (d.hi-d.lo)
def eC (a b:List Nat):Bool:=a.all fun x=>!b.contains x
def cm (call:ck)(inv:cI):List (aw×List Nat)->ah->List bf->Option ah
 | [],s,_=>some s
 | (o,un)::rest,s,ds=>match cJ s.s o.guard with
   | some true=>
    if o.op.aI then
     let U:=un.flatMap fun j=>(ds[j]?).elim [] bf.own
     let t:=gA s.s o.op
     if (match t with|some T=>eC T U|none=>true) then
      let h0:=match t with|some T=>cL T s.s.hp 0|none=>mask s.s.hp U
      match aQ call inv { s.s with hp:=h0 } o.op with
      | some r=>
       if (r.wr.all fun b=>(h0.at b).isSome) && (r.wr.isEmpty || un.all (fun j=>match ds[j]? with|some d=>(match d.fX with|some T=>eC r.wr T|none=>false)|none=>false)) then
        cm call inv rest ⟨{ s.s.put o.dst r.v with hp:=cP r.wr s.s.hp r.h 0 },r.wr++s.wr⟩ (ds++[⟨t,r.wr,s.s.hp.length,r.h.length⟩])
       else none
      | none=>none
     else none
    else match aC s.s o.op with
     | some v=>cm call inv rest ⟨s.s.put o.dst v,s.wr⟩ (ds++[⟨some [],[],s.s.hp.length,s.s.hp.length⟩])
     | none=>none
   | some false=>cm call inv rest ⟨s.s.put o.dst aW,s.wr⟩ (ds++[⟨some [],[],s.s.hp.length,s.s.hp.length⟩])
   | none=>none
mutual
def AV.top:AV->Nat
 | .ptr b _=>b+1
 | .sl b _ _ _ _=>b+1
 | .map b=>b+1
 | .vp l=>aY l
 | .vs l _ _=>aY l
 | .fn f a b=>max (match f with | .yield l=>l+1|_=>0) (max (aY a) (aY b))
 | .iface _ v=>v.top
 | .agg l=>aY l
 | .aq l=>aY l
 | _=>0
def aY:List AV->Nat
 | []=>0
 | v::r=>max v.top (aY r)
end
def aK.top:aK->Nat
 | .cells l _=>aY l
 | .map es=>iC es
 | .iter _ _=>0
 | .cO=>0
 | .hole=>0
 | .loop _ _ pe _ _ _=>aY pe
where
 iC:List (AV×AV)->Nat
  | []=>0
  | (k,v)::r=>max (max k.top v.top) (iC r)
def tight (h:ab)(n:Nat)(wr:List Nat):Bool:=
 wr.all fun b=>match h.at b with
  | some o=>b>=n || o.top<=n
  | none=>true
def dX (s:St):List fW->Option (List AV)
 | []=>some []
 | r::rest=>
  let v? : Option AV:=match r with
   | .var x=>s.aa x
   | .cell n ag x=>(s.aa x).bind fun p=>(dO s.hp p).bind fun l=>partOf l 0 n ag
  match v?,dX s rest with
  | some v,some vs=>some (v::vs)
  | _,_=>none
def dh:List AV->AV
 | [v]=>v
 | vs=>.aq vs
def cz (v:AV)(n:Nat)(s:ah):HR:=
 if v.top<=n && tight s.s.hp n s.wr then ⟨v,s.s.hp.take n,s.wr.filter (· < n)⟩
 else ⟨v,s.s.hp,s.wr.filter (· < n)⟩
def eT:List Nat->ah->Option ah
 | [],s=>some s
 | d::r,s=>match s.s.hp.at d with
   | some .cO=>eT r ⟨{ s.s with hp:=s.s.hp.put d none },d::s.wr⟩
   | _=>none
def gS (s:St):List cN->List AV->Option St
 | [],[]=>some s
 | d::ds,v::vs=>gS (s.put d v) ds vs
 | _,_=>none
def dP (run:ao->ah->Option (Ex×ah))(FT:FuncId->Option bJ)(f:FuncId)(all:List AV)(h:ab):Option HR:=
 match FT f with
 | some fi=>
  if fi.N<all.length then none else
  match run fi.body ⟨⟨fi.ar.map (fun t=>(all[t]?).getD aW),[],h,[]⟩,[]⟩ with
  | some (e,s)=>
   if e = .normal\/e = .ret then
    match eT s.s.bC s with
    | some s=>match dX s.s fi.results with
      | some vs=>some (cz (dh vs) h.length s)
      | none=>none
    | none=>none
   else none
  | none=>none
 | none=>none
def ef (run:ao->ah->Option (Ex×ah))(ext:FuncId->List AV->ab->Option HR)(FT:FuncId->Option bJ):ck:=fun g as h=>
 match g with
 | .fn (.func f) first cap=>
  match ext f (first++as++cap) h with
  | some r=>some r
  | none=>dP run FT f (first++as++cap) h
 | .fn (.yield b) [] []=>
  match h.at b with
  | some (.loop .ready none pe ps a bd)=>
   match gS ⟨pe,[],h,[]⟩ ps as with
   | some s0=>match run a ⟨s0,[]⟩ with
     | some (.normal,s1)=>match s1.s.hp.at b with
       | some (.loop .ready none pe' ps' a' bd')=>
        match run bd ⟨{ s1.s with hp:=s1.s.hp.put b (some (.loop .busy none pe' ps' a' bd')) },b::s1.wr⟩ with
        | some (e,s2)=>match s2.s.hp.at b,s2.s.bC with
          | some (.loop .busy none pe' ps' a' bd'),[]=>
           let o:aK:=if e = .normal then .loop .ready none pe' ps' a' bd' else .loop .done (some e) pe' ps' a' bd'
           some (cz (.bool (decide (e = .normal))) h.length ⟨{ s2.s with hp:=s2.s.hp.put b (some o) },b::s2.wr⟩)
          | _,_=>none
        | none=>none
       | _=>none
     | _=>none
   | none=>none
  | _=>none
 | _=>none
def az (ext:FuncId->List AV->ab->Option HR)(inv:cI)(FT:FuncId->Option bJ):Nat->ao->ah->Option (Ex×ah)
 | 0,_,_=>none
 | n+1,c,s=>
  match c with
  | .skip=>some (.normal,s)
  | .seq a b=>match az ext inv FT n a s with
    | some (.normal,s')=>az ext inv FT n b s'
    | r=>r
  | .cond x a b=>match s.s.aa x with
    | some (.bool t)=>az ext inv FT n (if t then a else b) s
    | _=>none
  | .block id c=>match az ext inv FT n c s with
    | some (.exit id',s')=>if id'=id then some (.normal,s') else some (.exit id',s')
    | r=>r
  | .loop c=>match az ext inv FT n c s with
    | some (.normal,s')=>az ext inv FT n (.loop c) s'
    | r=>r
  | .exit id=>some (.exit id,s)
  | .ret=>some (.ret,s)
  | .region ops=>match cX (ef (az ext inv FT n) ext FT) inv ops ⟨{ s.s with lo:=[] },s.wr⟩ with
    | some s'=>some (.normal,s')
    | none=>none
  | .draw ops=>match cm (ef (az ext inv FT n) ext FT) inv ops ⟨{ s.s with lo:=[] },s.wr⟩ [] with
    | some s'=>some (.normal,s')
    | none=>none
  | .rangeFunc inner f ps a b=>
   if inner then none else
   match s.s.aa f with
   | some (.fn (.func g) fi ca)=>
    match dP (az ext inv FT n) FT g (fi++[.fn (.yield (s.s.hp.length+1)) [] []]++ca) (s.s.hp++[some .cO,some (.loop .ready none s.s.pe ps a b)]) with
    | some r=>match r.h.at (s.s.hp.length+1) with
      | some (.loop st pend pe' ps' a' b')=>
       if st = .busy then none else
       some (pend.getD .normal,⟨{ s.s with hp:=r.h.put (s.s.hp.length+1) (some (.loop .exhausted pend pe' ps' a' b')),bC:=s.s.hp.length::s.s.bC },(s.s.hp.length+1)::r.wr++s.wr⟩)
      | _=>none
    | none=>none
   | _=>none
  | .bad=>none
end Go.Ab
namespace Go.Ab
abbrev zm (a b:Nat):aw:=⟨.l a,.mv (.p b),none⟩
abbrev zw (a b:Nat):aw:=⟨.p a,.mv (.l b),none⟩
abbrev zn (a b:Nat):aw:=⟨.l a,.mv (.l b),none⟩
abbrev zi (a:Nat)(n:Int):aw:=⟨.p a,.mv (.c (.int .i64 n)),none⟩
abbrev z1 (a f x:Nat):aw:=⟨.l a,.call (.c (.fn (.func f) [] [])) [.l x],none⟩
abbrev z2 (a f x y:Nat):aw:=⟨.l a,.call (.c (.fn (.func f) [] [])) [.l x,.l y],none⟩
abbrev ze (a i x:Nat):aw:=⟨.l a,.extract i (.l x),none⟩
abbrev za (a k x y:Nat):aw:=⟨.l a,.ee none k (.l x) (.l y),none⟩
abbrev zd (a n x:Nat):aw:=⟨.l a,.load n false (.l x),none⟩
abbrev zt (a n x:Nat):aw:=⟨.l a,.load n true (.p x),none⟩
abbrev zT (a n x:Nat):aw:=⟨.l a,.load n true (.l x),none⟩
abbrev zs (n a x:Nat):aw:=⟨.no,.store n (.p a) (.l x),none⟩
abbrev zS (n a x:Nat):aw:=⟨.no,.store n (.l a) (.l x),none⟩
abbrev zf (a n x:Nat):aw:=⟨.l a,.lQ n (.p x),none⟩
abbrev zl (a x:Nat):aw:=⟨.l a,.len .sl (.l x),none⟩
abbrev zL (a x:Nat):aw:=⟨.l a,.len .str (.l x),none⟩
abbrev zb (a:Nat)(o:BinOp)(x y:Nat):aw:=⟨.l a,.bin o (.l x) (.l y),none⟩
abbrev zc (a:Nat)(o:BinOp)(x:Nat)(n:Int):aw:=⟨.l a,.bin o (.l x) (.c (.int .i64 n)),none⟩
abbrev zq (a:Nat)(o:BinOp)(x:Nat)(n:Int):aw:=⟨.l a,.bin o (.p x) (.c (.int .i64 n)),none⟩
abbrev zr (a:Nat)(o:BinOp)(x y:Nat):aw:=⟨.l a,.bin o (.p x) (.p y),none⟩
abbrev zp (a c x:Nat):aw:=⟨.l a,.pick (.l c) (.l x) (.c (.bool false)),none⟩
abbrev zP (a c x:Nat):aw:=⟨.l a,.pick (.l c) (.c (.bool true)) (.l x),none⟩
abbrev zx (a e n x:Nat):aw:=⟨.p a,.box e n (.p x),none⟩
abbrev zu (a x:Nat):aw:=⟨.l a,.un .not (.l x),none⟩
theorem nca:(∀l:List AV,[]++l=l) /\ ∀(a:AV) (l m:List AV),(a::l)++m=a::(l++m):=⟨List.nil_append,fun _ _ _=>List.cons_append⟩
abbrev kI (n:Int):an:=.c (.int .i64 n)
abbrev kU (n:Int):an:=.c (.int .u64 n)
abbrev kW (n:Int):an:=.c (.int .u32 n)
abbrev AV.iV (n:Int):AV:=.int .i64 n
abbrev AV.uV (n:Int):AV:=.int .u64 n
abbrev zR (l:List aw)(c:ao):ao:=.seq (.region l) c
abbrev kF (f:Nat):an:=.c (.fn (.func f) [] [])
abbrev zg (o:aw)(k:Nat)(b:Bool):aw:=⟨o.dst,o.op,some (.l k,b)⟩
abbrev zD0:List UInt8:=[0,1,2,2,3,3,3,3,4,4,4,4,4,4,4,4,5,5,5,5,5,5,5,5,5,5,5,5,5,5,5,5,6,6,6,6,6,6,6,6,6,6,6,6,6,6,6,6,6,6,6,6,6,6,6,6,6,6,6,6,6,6,6,6,7,7,7,7,7,7,7,7,7,7,7,7,7,7,7,7,7,7,7,7,7,7,7,7,7,7,7,7,7,7,7,7,7,7,7,7,7,7,7,7,7,7,7,7,7,7,7,7,7,7,7,7,7,7,7,7,7,7,7,7,7,7,7,7,8,8,8,8,8,8,8,8,8,8,8,8,8,8,8,8,8,8,8,8,8,8,8,8,8,8,8,8,8,8,8,8,8,8,8,8,8,8,8,8,8,8,8,8,8,8,8,8,8,8,8,8,8,8,8,8,8,8,8,8,8,8,8,8,8,8,8,8,8,8,8,8,8,8,8,8,8,8,8,8,8,8,8,8,8,8,8,8,8,8,8,8,8,8,8,8,8,8,8,8,8,8,8,8,8,8,8,8,8,8,8,8,8,8,8,8,8,8,8,8,8,8,8,8,8,8,8,8]
abbrev zD1:List UInt8:=[48,49,50,51,52,53,54,55,56,57,97,98,99,100,101,102,103,104,105,106,107,108,109,110,111,112,113,114,115,116,117,118,119,120,121,122]
abbrev zD2:List UInt8:=[48,48,48,49,48,50,48,51,48,52,48,53,48,54,48,55,48,56,48,57,49,48,49,49,49,50,49,51,49,52,49,53,49,54,49,55,49,56,49,57,50,48,50,49,50,50,50,51,50,52,50,53,50,54,50,55,50,56,50,57,51,48,51,49,51,50,51,51,51,52,51,53,51,54,51,55,51,56,51,57,52,48,52,49,52,50,52,51,52,52,52,53,52,54,52,55,52,56,52,57,53,48,53,49,53,50,53,51,53,52,53,53,53,54,53,55,53,56,53,57,54,48,54,49,54,50,54,51,54,52,54,53,54,54,54,55,54,56,54,57,55,48,55,49,55,50,55,51,55,52,55,53,55,54,55,55,55,56,55,57,56,48,56,49,56,50,56,51,56,52,56,53,56,54,56,55,56,56,56,57,57,48,57,49,57,50,57,51,57,52,57,53,57,54,57,55,57,56,57,57]
abbrev zD3:List UInt8:=[45,45,45,45,45,45,45,45,45,45,45,45,45,45,45,45,45,45,45,45,45,45,45,45,45,45,45,45,45,45,45,45,45,45,45,45,45,45,45,45,45,45,45,45,45,45,45,45,45,45,45,45,45,45,45,45,45,45,45,45,45,45,45,45,45,45,45,45,45,45,45,45,45,45,45,45,45,45,45,45,45,45,45,45,45,45,45,45,45,45,45,45,45,45,45,45,45,45,45,45,45,45,45,45,45,45,45,45,45,45,45,45,45,45,45,45,45,45,45,45,45,45,45,45,45,45,45,45]
abbrev zD4:List UInt8:=[9,9,9,9,9,9,9,9,9,9,9,9,9,9,9,9,9,9,9,9,9,9,9,9,9,9,9,9,9,9,9,9,9,9,9,9,9,9,9,9,9,9,9,9,9,9,9,9,9,9,9,9,9,9,9,9,9,9,9,9,9,9,9,9]
abbrev zD5:List UInt8:=[61,61,61,61,61,61,61,61,61,61,61,61,61,61,61,61,61,61,61,61,61,61,61,61,61,61,61,61,61,61,61,61,61,61,61,61,61,61,61,61,61,61,61,61,61,61,61,61,61,61,61,61,61,61,61,61,61,61,61,61,61,61,61,61,61,61,61,61,61,61,61,61,61,61,61,61,61,61,61,61,61,61,61,61,61,61,61,61,61,61,61,61,61,61,61,61,61,61,61,61,61,61,61,61,61,61,61,61,61,61,61,61,61,61,61,61,61,61,61,61,61,61,61,61,61,61,61,61]
abbrev zD6:List UInt8:=[32,32,32,32,32,32,32,32,32,32,32,32,32,32,32,32,32,32,32,32,32,32,32,32,32,32,32,32,32,32,32,32,32,32,32,32,32,32,32,32,32,32,32,32,32,32,32,32,32,32,32,32,32,32,32,32,32,32,32,32,32,32,32,32,32,32,32,32,32,32,32,32,32,32,32,32,32,32,32,32,32,32,32,32,32,32,32,32,32,32,32,32,32,32,32,32,32,32,32,32,32,32,32,32,32,32,32,32,32,32,32,32,32,32,32,32,32,32,32,32,32,32,32,32,32,32,32,32]
abbrev zD7:List UInt8:=[48,48,48,48,48,48,48,48,48,48,48,48,48,48,48,48,48,48,48,48,48,48,48,48,48,48,48,48,48,48,48,48,48,48,48,48,48,48,48,48,48,48,48,48,48,48,48,48,48,48,48,48,48,48,48,48,48,48,48,48,48,48,48,48]
abbrev zD8:List UInt8:=[48,49,50,51,52,53,54,55,56,57]
abbrev zD9:List UInt8:=[65,116,111,105]
abbrev zD10:List UInt8:=[101,120,97,99,116]
abbrev zD11:List UInt8:=[112,111,105,110,116,115]
abbrev zD12:List UInt8:=[110,111,110,101]
abbrev zD13:List UInt8:=[116,105,109,101]
abbrev zD14:List UInt8:=[99,101,110,116,105,109,101,116,114,101,115]
abbrev zD15:List UInt8:=[116,101,110,116,104,115]
abbrev zD16:List UInt8:=[104,117,110,100,114,101,100,116,104,115]
abbrev zD17:List UInt8:=[108,101,110,103,116,104]
abbrev zD18:List UInt8:=[48,58,48,48,58]
end Go.Ab
namespace Go.Ab
def jx (rec:Value->Option AV):List Value->Option (List AV)
 | []=>some []
 | v::r=>match rec v,jx rec r with
   | some a,some l=>some (a::l)
   | _,_=>none
def iD:Nat->Value->Option AV
 | 0,_=>none
 | n+1,v=>
  match v with
  | .bool b=>some (.bool b)
  | .int k m=>some (.int k m)
  | .string s=>some (.str s.data.toList)
  | .pointer none=>some .cK
  | .slice none 0 0=>some .ak
  | .map none=>some .bY
  | .nilFunc=>some .cH
  | .nilIface=>some .bZ
  | .func (.func f) ⟨[]⟩ ⟨[]⟩=>some (.fn (.func f) [] [])
  | .agg ⟨cs⟩=>(jx (fun v=>iD n v) cs).map .agg
  | .tuple ⟨cs⟩=>(jx (fun v=>iD n v) cs).map .aq
  | _=>none
def idx (t:Nat):List Nat->Nat->Option Nat
 | [],_=>none
 | u::r,i=>if u=t then some i else idx t r (i+1)
structure Cx where
 P:Program
 gl:Nat->Option AV
 ar:List Nat
 N:Nat
def dQ (C:Cx):Operand->Option an
 | .tmp t=>match idx t C.ar 0 with
   | some i=>some (.p i)
   | none=>some (.l t)
 | .const v=>(iD 5 v).map .c
 | .func f=>some (.c (.fn (.func f) [] []))
 | .global g=>(C.gl g).map .c
def ep (C:Cx):List Operand->Option (List an)
 | []=>some []
 | x::xs=>match dQ C x,ep C xs with
   | some a,some l=>some (a::l)
   | _,_=>none
def gU (C:Cx):Option Operand->Option (Option an)
 | none=>some none
 | some x=>(dQ C x).map some
def oA:TypeDesc->Bool
 | .struct _ | .array _ _=>true
 | _=>false
def shapeOf (P:Program)(t:TypeId):Option (Nat×Bool):=
 match P.info? t,P.underlying t with
 | some i,some d=>some (i.size,oA d)
 | _,_=>none
def zeroOf (P:Program)(t:TypeId):Option AV:=
 match P.info? t with
 | some i=>match i.zero with
   | some v=>iD 5 v
   | none=>none
 | none=>none
def kB (P:Program)(rec:TypeId->Option ed):List Field->Option (List (Nat×Nat×Bool×ed))
 | []=>some []
 | f::r=>match kB P rec r with
   | some l => if f.name == "_" then some l else
     match shapeOf P f.type,rec f.type with
     | some (n,ag),some e=>some ((f.offset,n,ag,e)::l)
     | _,_=>none
   | none=>none
def kC (sz:Nat)(ag:Bool)(q:ed):Nat->Nat->List (Nat×Nat×Bool×ed)
 | 0,_=>[]
 | n+1,i=>(i*sz,sz,ag,q)::kC sz ag q n (i+1)
def eu (P:Program):Nat->Bool->TypeId->Option ed
 | 0,_,_=>none
 | d+1,g,t=>
  match P.underlying t with
  | some .bool=>some .bool
  | some (.int _)=>some .int
  | some .string=>some .str
  | some (.pointer _)=>some (.ref .ptr)
  | some (.slice _)=>some (.ref .slice)
  | some (.map _ _)=>some (.ref .map)
  | some (.func _ _ _)=>some (.ref .func)
  | some (.interface ms)=>some (.iface (g && !ms.isEmpty))
  | some (.struct fs)=>if P.stoodInHeld t then none else (kB P (fun t=>eu P d true t) fs.toList).map .fm
  | some (.array n e)=>match shapeOf P e,eu P d true e with
    | some (sz,ag),some q=>some (.fm (kC sz ag q n 0))
    | _,_=>none
  | _=>none
def gB:Operand->Bool
 | .const _=>true
 | _=>false
def fY (C:Cx)(place:Nat->Option (Nat×Nat)):List (Nat×Operand)->Option (List (Nat×Nat×an))
 | []=>some []
 | (i,x)::r=>match place i,dQ C x,fY C place r with
   | some (o,n),some a,some l=>some ((o,n,a)::l)
   | _,_,_=>none
def jy (P:Program):List Field->Option (List (Nat×Nat))
 | []=>some []
 | f::r=>match P.info? f.type,jy P r with
   | some i,some l=>some ((f.offset,i.size)::l)
   | _,_=>none
def fc (P:Program)(t:TypeId):Option (TypeId×Nat×Nat):=
 match P.underlying t with
 | some (.slice e)=>match P.info? e with
   | some i=>some (e,i.size,i.bytes)
   | none=>none
 | _=>none
def keyOf (P:Program)(t:TypeId):Option eo:=
 match P.underlying t with
 | some (.int _)=>some .int
 | some .string=>some .str
 | _=>none
def kD:BinOp->Bool
 | .eql | .neq=>true
 | _=>false
def lV (P:Program)(t:TypeId):Bool:=
 match P.underlying t with
 | some (.int _)|some .string=>true
 | _=>false
def lW (P:Program)(e:TypeId)(n:Nat):Bool:=
 match (zeroOf P e).bind AV.cells with
 | some z=>z.length == n
 | none=>false
def oB (P:Program)(t:TypeId):Bool:=
 match P.underlying t with
 | some (.struct _)|some (.array _ _)=>P.eqGuardType P.depth t
 | _=>false
def yS:Fn->Bool
 | .yield _=>true
 | _=>false
def fw (P:Program)(e:TypeId):Bool:=
 match P.info? e with
 | some i=>match i.desc with
   | .named n _ => n == "strings.Builder"
   | _=>false
 | none=>false
def oC (P:Program)(t:TypeId):Bool:=
 match P.underlying t with
 | some (.pointer e)=>fw P e
 | _=>false
def fe (C:Cx)(o:Oper):Option aB:=
 let P:=C.P
 let d:=dQ C
 match o.op with
 | .move x | .assign x=>(d x).map .mv
 | .pick c a b=>match d c,d a,d b with
   | some c,some a,some b=>some (.pick c a b)
   | _,_,_=>none
 | .alloc e=>match zeroOf P e with
   | some z=>z.cells.map (.alloc e)
   | none=>none
 | .box e x=>match shapeOf P e,d x with
   | some (n,_),some x=>some (.box e n x)
   | _,_=>none
 | .build t ps=>match zeroOf P t with
   | some z=>match z.cells,P.underlying t with
     | some zc,some (.struct fs)=>match jy P fs.toList with
       | some pl=>(fY C (pl[·]?) ps.toList).map (.build zc)
       | none=>none
     | some zc,some (.array _ e)=>match P.info? e with
       | some i=>(fY C (fun j=>some (j*i.size,i.size)) ps.toList).map (.build zc)
       | none=>none
     | _,_=>none
   | none=>none
 | .buildSlice t len ps=>match fc P t with
   | some (e,n,_)=>match (zeroOf P e).bind AV.cells,fY C (fun j=>some (j*n,n)) ps.toList with
     | some z,some l=>if len*n<=2^24/\z.length=n/\0<n then some (.fo e len n z l) else none
     | _,_=>none
   | none=>none
 | .load t a=>match shapeOf P t,d a with
   | some (n,ag),some a=>some (.load n ag a)
   | _,_=>none
 | .store t a x=>match shapeOf P t,d a,d x with
   | some (n,_),some a,some x=>some (.store n a x)
   | _,_,_=>none
 | .nilCheck x=>(d x).map .lP
 | .binOp op t x y _=>match d x,d y with
   | some a,some b=>
    if kD op && !lV P t then
     if oC P t && !(gB x || gB y) then some (.kp (op == .neq) a b) else
     if oB P t then none else
     (eu P 20 (!(gB x || gB y)) t).map fun e=>.eq (op == .neq) e a b
    else some (.bin op a b)
   | _,_=>none
 | .unOp op _ x=>(d x).map (.un op)
 | .convert src dst x=>match P.underlying src,P.underlying dst,d x with
   | some (.int _),some (.int k),some a=>some (.de k a)
   | some (.int _),some .string,some a=>some (.oq a)
   | some .string,some .string,some a=>some (.ot a)
   | some .string,some (.slice e),some a=>match P.underlying e with
     | some (.int .u8)=>if fw P e then none else some (.jr e a)
     | _=>none
   | some (.slice e),some .string,some a=>match P.underlying e with
     | some (.int .u8)=>some (.gQ a)
     | _=>none
   | some (.pointer t),some .unsafePointer,some a=>match P.info? t with
     | some i=>if i.size=0 then none else some (.js none a)
     | none=>none
   | some .unsafePointer,some (.pointer u),some a=>match P.info? u with
     | some _=>if fw P u && liesAt P P.depth u (P.cellsOf u/P.cellsOf u) 0 u 1 then some (.js (some (u,P.cellsOf u)) a) else none
     | none=>none
   | _,_,_=>none
 | .makeInterface t x=>match P.underlying t with
   | some (.interface _)=>none
   | some _=>(d x).map (.ku t)
   | none=>none
 | .typeAssert x _ t ok=>match P.underlying t with
   | some (.interface _)=>none
   | some _=>match d x,zeroOf P t with
     | some x,some z=>some (.ox t z ok x)
     | _,_=>none
   | none=>none
 | .makeFunc f fi ca=>if yS f then none else match ep C fi.toList,ep C ca.toList with
   | some a,some b=>some (.jt f a b)
   | _,_=>none
 | .makeMap _ none=>some .fM
 | .makeSlice t l c=>match fc P t,d l,d c with
   | some (e,n,by'),some l,some c=>match (zeroOf P e).bind AV.cells with
     | some z=>if z.length=n/\0<n then some (.fV e n by' z l c) else none
     | none=>none
   | _,_,_=>none
 | .slice t x lo hi mx=>match P.underlying t,d x,gU C lo,gU C hi,gU C mx with
   | some .string,some x,some l,some h,some none=>some (.slice .str 1 x l h none)
   | some (.slice e),some x,some l,some h,some m=>match P.info? e with
     | some i=>some (.slice .sl i.size x l h m)
     | none=>none
   | some (.array n e),some x,some l,some h,some none=>match P.info? e with
     | some i=>some (.fp n i.size x l h)
     | none=>none
   | _,_,_,_,_=>none
 | .fieldAddr t x f=>match P.underlying t,d x with
   | some (.struct fs),some x=>match fs[f]? with
     | some f=>match P.info? f.type with
       | some i=>if i.size=0 then none else some (.lQ f.offset x)
       | none=>none
     | none=>none
   | _,_=>none
 | .field t x f=>match P.underlying t,d x with
   | some (.struct fs),some x=>match fs[f]? with
     | some f=>match shapeOf P f.type with
       | some (n,ag)=>some (.field f.offset n ag x)
       | none=>none
     | none=>none
   | _,_=>none
 | .indexAddr t x i=>match P.underlying t,d x,d i with
   | some (.array n e),some x,some i=>match P.info? e with
     | some inf=>some (.ee (some n) inf.size x i)
     | none=>none
   | some (.slice e),some x,some i=>match P.info? e with
     | some inf=>some (.ee none inf.size x i)
     | none=>none
   | _,_,_=>none
 | .index t x i=>match P.underlying t,d x,d i with
   | some .string,some x,some i=>some (.index x i)
   | some (.array n e),some x,some i=>match shapeOf P e with
     | some (sz,ag)=>some (.ov n sz ag x i)
     | none=>none
   | _,_,_=>none
 | .lookup t x i ok=>match P.underlying t,d x,d i with
   | some (.map k e),some x,some i=>match keyOf P k,zeroOf P e with
     | some k,some z=>some (.lookup k z x i ok)
     | _,_=>none
   | _,_,_=>none
 | .mapUpdate t m i x | .insert t m i x=>match P.underlying t,d m,d i,d x with
   | some (.map k _),some m,some i,some x=>(keyOf P k).map fun k=>.eS k m i x
   | _,_,_,_=>none
 | .range t x=>match P.underlying t,d x with
   | some .string,some x=>some (.range x)
   | _,_=>none
 | .next x true=>(d x).map .next
 | .extract x i=>(d x).map (.extract i)
 | .call c=>match c.callee with
   | .value f=>match d f,ep C c.args.toList with
     | some f,some as=>some (.call f as)
     | _,_=>none
   | .invoke r name=>match d r,ep C c.args.toList with
     | some r,some as=>some (.invoke r name as)
     | _,_=>none
   | .builtin b=>match b,c.argTypes.toList,ep C c.args.toList with
     | .len,[t],some [x]=>match P.underlying t with
       | some (.array n _)=>some (.len (.arr n) x)
       | some (.map _ _)=>some (.ky x)
       | some .string=>some (.len .str x)
       | some (.slice _)=>some (.len .sl x)
       | _=>none
     | .cap,[t],some [x]=>match P.underlying t with
       | some (.slice _)=>some (.cap x)
       | _=>none
     | .append,[t,u],some [x,y]=>match fc P t,P.underlying u with
       | some (e,n,by'),some .string=>if n=1/\lW P e n=true/\fw P e=false then some (.append e n by' x y) else none
       | some (e,n,by'),some (.slice _)=>if 0<n/\lW P e n=true/\fw P e=false then some (.append e n by' x y) else none
       | _,_=>none
     | .copy,[t,_],some [x,y]=>match fc P t with
       | some (_,n,_)=>if 0<n then some (.copy n x y) else none
       | none=>none
     | .clear,[t],some [x]=>match fc P t with
       | some (e,n,_)=>match (zeroOf P e).bind AV.cells with
         | some z=>if z.length=n/\0<n then some (.kr n z x) else none
         | none=>none
       | none=>none
     | .unsafeSliceData,[t],some [x]=>match P.underlying t with
       | some (.slice _)=>some (.ou x)
       | _=>none
     | .unsafeString,[t,_],some [x,n]=>match P.underlying t with
       | some (.pointer e)=>if P.cellsOf e=1 then some (.kq e x n) else none
       | _=>none
     | .max,_,some xs=>some (.mm true xs)
     | .min,_,some xs=>some (.mm false xs)
     | _,_,_=>none
 | _=>none
def fZ (C:Cx):Option Tmp->Option cN
 | none=>some .no
 | some t=>if t<C.N then
     match idx t C.ar 0 with
     | some i=>some (.p i)
     | none=>some (.l t)
   else none
def lX (C:Cx)(ops:List Oper):Option (Nat×Bool)->Option (Option (an×Bool))
 | none=>some none
 | some (j,w)=>match ops[j]? with
   | some o=>match o.dst with
     | some t=>(dQ C (.tmp t)).map fun x=>some (x,w)
     | none=>none
   | none=>none
def lY (C:Cx)(ops:List Oper)(o:Oper):Option aw:=
 match fZ C o.dst,fe C o,lX C ops o.guard with
 | some d,some op,some g=>some ⟨d,op,g⟩
 | _,_,_=>none
def fN (C:Cx)(ops:List Oper):List Oper->Option (List aw)
 | []=>some []
 | o::r=>match lY C ops o,fN C ops r with
   | some a,some l=>some (a::l)
   | _,_=>none
def yT (ops:List Oper):List Nat:=
 ops.foldl (fun acc o=>acc++[o.after.toList.foldl (fun s e=>if Region.binds .any e then s ||| 2^e.on ||| acc.getD e.on 0 else s) 0]) []
def fx (bits i:Nat):List Nat:=(List.range i).filter fun j=>!bits.testBit j
def jz (ops:List Oper)(bits:List Nat):Bool:=
 ops.zipIdx.all fun (o,i)=>
  o.after.toList.all (fun e=>!Region.binds .any e || decide (e.on<i)) &&
  (List.range i).all fun j=>!(bits.getD i 0).testBit j || o.after.toList.any fun e=>Region.binds .any e && (e.on == j || (decide (j<e.on) && (bits.getD e.on 0).testBit j))
def jA (l:List aw)(bits:List Nat):Bool:=
 l.zipIdx.all fun (o,i)=>(fx (bits.getD i 0) i).all fun j=>match l[j]? with|some oj=>ju oj o|none=>false
def lZ (C:Cx)(ops:List Oper)(draw:Bool):Option ao:=
 match fN C ops ops with
 | none=>none
 | some l=>
  if draw then
   let bits:=yT ops
   if jz ops bits && jA l bits then some (.draw (l.zipIdx.map fun (o,i)=>(o,fx (bits.getD i 0) i))) else none
  else some (.region l)
def gV (C:Cx):List Tmp->Option (List cN)
 | []=>some []
 | t::r=>match fZ C (some t),gV C r with
   | some d,some l=>some (d::l)
   | _,_=>none
def dA (C:Cx)(rd:Bool):Code->Option ao
 | .skip=>some .skip
 | .region _ ops draw=>some ((lZ C ops.toList draw).getD .bad)
 | .seq a b=>match dA C rd a,dA C rd b with
   | some a,some b=>some (.seq a b)
   | _,_=>none
 | .cond c a b=>match dQ C c,dA C rd a,dA C rd b with
   | some c,some a,some b=>some (.cond c a b)
   | _,_,_=>none
 | .block id c=>(dA C rd c).map (.block id)
 | .loop c=>(dA C rd c).map .loop
 | .exit id=>some (.exit id)
 | .ret=>some .ret
 | .scope c=>(dA C rd c).map fun c=>.seq c .skip
 | .label _=>some .skip
 | .rangeFunc f ps a b=>match dQ C f,gV C ps.toList,dA C true a,dA C true b with
   | some f,some ps,some a,some b=>some (.rangeFunc rd f ps a b)
   | _,_,_,_=>none
 | _=>some .bad
def gC (C:Cx):List ResultVar->Option (List fW)
 | []=>some []
 | .tmp t::r=>match dQ C (.tmp t),gC C r with
   | some x,some l=>some (.var x::l)
   | _,_=>none
 | .cell t ty::r=>match dQ C (.tmp t),shapeOf C.P ty,gC C r with
   | some x,some (n,ag),some l=>some (.cell n ag x::l)
   | _,_,_=>none
def mc (P:Program)(gl:Nat->Option AV)(ar:List Nat)(f:Func):Option bJ:=
 let C:Cx:=⟨P,gl,ar,f.ntmps⟩
 match f.body with
 | none=>none
 | some c=>
  match dA C false c,gC C f.results.toList with
  | some b,some r=>if ar.all (· < f.ntmps) && decide ar.Nodup then some ⟨f.ntmps,ar,r,b⟩ else none
  | _,_=>none
def cY (P:Program)(t:TypeId)(name:String):Option FuncId:=
 match P.info? t,P.underlying t with
 | some i,some u=>match i.methods.toList.find? (·.name == name) with
   | some m=>match m.func,m.path.toList with
     | some (f,ptr),[]=>match u,ptr with
       | .pointer _,true=>some f
       | .pointer _,false=>none
       | _,false=>some f
       | _,true=>none
     | _,_=>none
   | none=>none
 | _,_=>none
end Go.Ab
namespace Go.Ab
def sx (P:Program)(gl:Nat->Option AV)(ar:List (List Nat))(f:FuncId):Option bJ:=
 match P.funcs[f]?,ar[f]? with
 | some fn,some p=>mc P gl p fn
 | _,_=>none
end Go.Ab
namespace Go.Ab
variable {w w':World} {x:AV} {l:List AV} {y v:Value} {m:List Value} {h h':ab} {a:Addr} {n:Nat}
inductive BS where
 | fresh|dead|nil|live (c d:Nat)
structure al where
 at':Nat->BS
 X:Nat->Prop
instance:CoeFun al (fun _=>Nat->BS):=⟨al.at'⟩
def bT (ρ:al)(c:Nat):Prop:=(∀b d,ρ b≠.live c d)/\¬ρ.X c
inductive V (ρ:al) (w:World):AV->Value->Prop
 | bI (v:Value):V ρ w .bI v
 | bool (b:Bool):V ρ w (.bool b) (.bool b)
 | int (k:IntKind) (n:Int):V ρ w (.int k n) (.int k n)
 | str (s:List UInt8):V ρ w (.str s) (.string ⟨s.toArray⟩)
 | cK:V ρ w .cK (.pointer none)
 | ptr {b c d:Nat} (o:Nat) (h:ρ b = .live c d):V ρ w (.ptr b o) (.pointer (some ⟨c,o+d,none⟩))
 | cQ {b:Nat} (o c o':Nat) (h:ρ b = .dead):V ρ w (.ptr b o) (.pointer (some ⟨c,o',none⟩))
 | vp {l:List AV} (c o:Nat) (g:Nat->Value) (hf:l≠[]->bT ρ c) (hc:∀i:Nat,i<l.length->w.cell? ⟨c,o+i,none⟩=some (g i))
     (hg:∀(i:Nat) x,l[i]? = some x->V ρ w x (g i)):V ρ w (.vp l) (.pointer (some ⟨c,o,none⟩))
 | ak:V ρ w .ak (.slice none 0 0)
 | sl {b c d o len esz capC:Nat} {cap:Option Nat} (h:ρ b = .live c d) (hl:len<=capC) (hcap:∀n,cap=some n->capC=n)
     (hb:∃cs e fr,w.heap[c]? = some (.cells cs e fr)/\o+d+capC*esz<=cs.size):V ρ w (.sl b o len esz cap) (.slice (some ⟨c,o+d,none⟩) len capC)
 | dK {b esz:Nat} (h:ρ b = .nil):V ρ w (.sl b 0 0 esz none) (.slice none 0 0)
 | di {b o len esz capC:Nat} {cap:Option Nat} (c o':Nat) (h:ρ b = .dead) (hl:len<=capC) (hcap:∀n,cap=some n->capC=n):V ρ w (.sl b o len esz cap) (.slice (some ⟨c,o',none⟩) len capC)
 | dD {b esz:Nat} (h:ρ b = .dead):V ρ w (.sl b 0 0 esz none) (.slice none 0 0)
 | dL {b esz:Nat} (a:Addr) (h:ρ b = .dead):V ρ w (.sl b 0 0 esz (some 0)) (.slice (some a) 0 0)
 | vs {l:List AV} {len capC:Nat} {cap:Option Nat} (c o:Nat) (g:Nat->Value) (hf:l≠[]->bT ρ c) (hl:len<=capC) (hcap:∀n,cap=some n->capC=n)
     (hc:∀i:Nat,i<l.length->w.cell? ⟨c,o+i,none⟩=some (g i)) (hg:∀(i:Nat) x,l[i]? = some x->V ρ w x (g i)):V ρ w (.vs l len cap) (.slice (some ⟨c,o,none⟩) len capC)
 | dE {cap:Option Nat} (hcap:∀n,cap=some n->n=0):V ρ w (.vs [] 0 cap) (.slice none 0 0)
 | dR {cap:Option Nat} (a:Addr) (hcap:∀n,cap=some n->n=0):V ρ w (.vs [] 0 cap) (.slice (some a) 0 0)
 | bY:V ρ w .bY (.map none)
 | map {b c:Nat} (h:ρ b = .live c 0):V ρ w (.map b) (.map (some c))
 | eU {b:Nat} (c:Nat) (h:ρ b = .dead):V ρ w (.map b) (.map (some c))
 | yield {b c d:Nat} (h:ρ b = .live c d):V ρ w (.fn (.yield b) [] []) (.func (.yield c) #[] #[])
 | fn {f:Fn} {fi ca:List AV} {fi' ca':List Value} (hf:∀l,f≠.yield l) (h1:fi.length=fi'.length) (h2:ca.length=ca'.length)
     (g1:∀(i:Nat) x y,fi[i]? = some x->fi'[i]? = some y->V ρ w x y) (g2:∀(i:Nat) x y,ca[i]? = some x->ca'[i]? = some y->V ρ w x y):V ρ w (.fn f fi ca) (.func f fi'.toArray ca'.toArray)
 | eV {b:Nat} (c:Nat) (h:ρ b = .dead):V ρ w (.fn (.yield b) [] []) (.func (.yield c) #[] #[])
 | cH:V ρ w .cH .nilFunc
 | iface {t:TypeId} {x:AV} {y:Value} (h:V ρ w x y):V ρ w (.iface t x) (.iface t y)
 | bZ:V ρ w .bZ .nilIface
 | agg {l:List AV} {m:List Value} (h:l.length=m.length) (g:∀(i:Nat) x y,l[i]? = some x->m[i]? = some y->V ρ w x y):V ρ w (.agg l) (.agg m.toArray)
 | aq {l:List AV} {m:List Value} (h:l.length=m.length) (g:∀(i:Nat) x y,l[i]? = some x->m[i]? = some y->V ρ w x y):V ρ w (.aq l) (.tuple m.toArray)
def VL (ρ:al)(w:World)(l:List AV)(m:List Value):Prop:=
 l.length=m.length/\∀(i:Nat) x y,l[i]? = some x->m[i]? = some y->V ρ w x y
theorem V.me {ρ:al}(s:ByteArray):V ρ w (.str s.data.toList) (.string s):=by
 have:=V.str (ρ:=ρ) (w:=w) s.data.toList;simpa using this
theorem VL.nil {ρ:al}:VL ρ w [] []:=⟨rfl,by simp⟩
theorem VL.cons {ρ:al}(h:V ρ w x y)(h':VL ρ w l m):VL ρ w (x::l) (y::m):=by
 refine⟨by simp[h'.1],fun i a b ha hb=>?_⟩;cases i with
 | zero=>simp at ha hb;subst ha;subst hb;exact h
 | succ i=>simp at ha hb;exact h'.2 i a b ha hb
theorem VL.head {ρ:al}(h:VL ρ w (x::l) (y::m)):V ρ w x y:=h.2 0 x y rfl rfl
theorem VL.tail {ρ:al}(h:VL ρ w (x::l) (y::m)):VL ρ w l m:=
 ⟨by simpa using h.1,fun i a b ha hb=>h.2 (i+1) a b (by simpa using ha) (by simpa using hb)⟩
theorem VL.cons_inv {ρ:al}(h:VL ρ w (x::l) m):∃y m',m=y::m'/\V ρ w x y/\VL ρ w l m':=by
 cases m with
 | nil=>exact absurd h.1 (by simp)
 | cons y m'=>exact⟨y,m',rfl,h.head,h.tail⟩
theorem VL.fO {ρ:al}(h:VL ρ w [] m):m=[]:=by
 have:=h.1;cases m <;> simp_all
theorem VL.append {ρ:al}:∀{l l':List AV} {m m':List Value},VL ρ w l m->VL ρ w l' m'->VL ρ w (l++l') (m++m')
 | [],_,_,_,h,h'=>by rw[h.fO];exact h'
 | _::_,_,_,_,h,h'=>by
  obtain⟨y,m1,rfl,hv,hl⟩:=h.cons_inv;exact .cons hv (hl.append h')
theorem VL.drop {ρ:al}(h:VL ρ w l m)(n:Nat):VL ρ w (l.drop n) (m.drop n):=
 ⟨by simp[h.1],fun i a b ha hb=>h.2 (n+i) a b (by simpa using ha) (by simpa using hb)⟩
theorem VL.take {ρ:al}(h:VL ρ w l m)(n:Nat):VL ρ w (l.take n) (m.take n):=
 ⟨by simp[h.1],fun i a b ha hb=>by
  rw[List.getElem?_take]at ha hb;split at ha
  . rename_i hlt;rw[if_pos hlt]at hb;exact h.2 i a b ha hb
  . cases ha⟩
structure ER (C:Cx)(ρ:al)(w:World)(pe:List AV)(lo:List (Nat×AV))(tmps:Array Value):Prop where
 size:tmps.size=C.N
 nodup:C.ar.Nodup
 lt:∀t∈C.ar,t<C.N
 ga:pe.length=C.ar.length
 pe:∀(i:Nat) v t,pe[i]? = some v->C.ar[i]? = some t->V ρ w v (tmps.getD t undef)
 lo:∀t v,lo.lookup t=some v->t<C.N/\t∉C.ar/\V ρ w v (tmps.getD t undef)
def iE:Option Ex->Option Code->Prop
 | none,none=>True
 | some .ret,some .ret=>True
 | some (.exit i),some (.exit j)=>i=j
 | _,_=>False
def Fits (P:Program)(e:TypeId)(d n s:Nat):Prop:=d+n<=s/\(fw P e=true->d=0/\n=s)
def BR (P:Program)(gl:Nat->Option AV)(ρ:al)(w:World)(b:Nat):aK->Prop
 | .cells l e=>(∃c d cs fr,ρ b = .live c d/\w.heap[c]? = some (.cells cs e fr)/\Fits P e d l.length cs.size/\(∀i,i<cs.size->w.frozen? ⟨c,i,none⟩=false) /\
     ∀(i:Nat) x y,l[i]? = some x->cs[i+d]? = some y->V ρ w x y)\/(ρ b = .nil/\l=[])
 | .map es=>∃c ms clk,ρ b = .live c 0/\w.heap[c]? = some (.map ms clk)/\es.length=ms.size /\
     ∀(i:Nat) kx vx m,es[i]? = some (kx,vx)->ms[i]? = some m->V ρ w kx m.key/\V ρ w vx m.val
 | .iter s pos=>∃c,ρ b = .live c 0/\w.heap[c]? = some (.stringIter ⟨s.toArray⟩ pos)
 | .cO=>∃c,ρ b = .live c 0/\w.heap[c]? = some (.deferred (some []))
 | .hole=>ρ b = .fresh
 | .loop st pend pe ps a bd=>∃c r ar N,ρ b = .live c 0/\w.heap[c]? = some (.loop r)/\r.state=st/\iE pend r.pending /\
     ER ⟨P,gl,ar,N⟩ ρ w pe [] r.tmps/\gV ⟨P,gl,ar,N⟩ r.params.toList=some ps/\dA ⟨P,gl,ar,N⟩ true r.assign=some a/\dA ⟨P,gl,ar,N⟩ true r.body=some bd
structure Mem (P:Program)(gl:Nat->Option AV)(ρ:al)(h:ab)(w:World):Prop where
 bN:∀b o,h[b]? = some (some o)->BR P gl ρ w b o
 fresh:∀b,h.length<=b->ρ b = .fresh
 inj:∀b b' c d d',ρ b = .live c d->ρ b' = .live c d'->b=b'
 bound:∀b c d,ρ b = .live c d->c<w.heap.size
 xb:∀c,ρ.X c->c<w.heap.size
 xo:∀b c d,ρ b = .live c d->¬ρ.X c
 gl:∀g v,gl g=some v->V ρ w v (.pointer (some ⟨g,0,none⟩))
structure Ext (h h':ab)(ρ ρ':al)(w w':World):Prop where
 os:w'.os=w.os
 tape:w'.tape=w.tape
 output:w'.output=w.output
 size:w.heap.size<=w'.heap.size
 len:h.length<=h'.length
 X:ρ'.X=ρ.X
 bI:∀b:Nat,h[b]? = some none->h'[b]? = some none
 same:∀b:Nat,h[b]? = some none->ρ' b=ρ b
 live:∀b c d,ρ b = .live c d->ρ' b = .live c d\/ρ' b = .dead
 dead:∀b,ρ b = .dead->ρ' b = .dead
 nil:∀b,ρ b = .nil->ρ' b = .nil\/ρ' b = .dead
 bh:∀c,c<w.heap.size->(∀b d,ρ b = .live c d->h[b]? = some none)->w'.heap[c]? = w.heap[c]?
 back:∀b c d,ρ' b = .live c d->c<w.heap.size->ρ b = .live c d\/∃b0 d0,ρ b0 = .live c d0/\h[b0]? ≠ some none
 shape:∀(c:Nat) cs e fr,w.heap[c]? = some (.cells cs e fr)->∃cs' fr',w'.heap[c]? = some (.cells cs' e fr')/\cs'.size=cs.size
theorem Ext.refl (h:ab)(ρ:al)(w:World):Ext h h ρ ρ w w:=
 ⟨rfl,rfl,rfl,Nat.le_refl _,Nat.le_refl _,rfl,fun _ h=>h,fun _ _=>rfl,fun _ _ _ h=>.inl h,fun _ h=>h,fun _ h=>.inl h,fun _ _ _=>rfl,fun _ _ _ h _=>.inl h,
  fun _ cs _ fr h=>⟨cs,fr,h,rfl⟩⟩
theorem Ext.trans {h1 h2:ab}{ρ ρ1 ρ2:al}{w1 w2:World}(x:Ext h h1 ρ ρ1 w w1)(y:Ext h1 h2 ρ1 ρ2 w1 w2):Ext h h2 ρ ρ2 w w2 where
 os:=y.os.trans x.os
 tape:=y.tape.trans x.tape
 output:=y.output.trans x.output
 size:=Nat.le_trans x.size y.size
 len:=Nat.le_trans x.len y.len
 X:=y.X.trans x.X
 bI b hb:=y.bI b (x.bI b hb)
 same b hb:=(y.same b (x.bI b hb)).trans (x.same b hb)
 live b c d hb:=by
  rcases x.live b c d hb with h|h
  . exact y.live b c d h
  . exact .inr (y.dead b h)
 dead b hb:=y.dead b (x.dead b hb)
 nil b hb:=by
  rcases x.nil b hb with h|h
  . exact y.nil b h
  . exact .inr (y.dead b h)
 bh c hc hb:=by
  rw[y.bh c (Nat.lt_of_lt_of_le hc x.size) ?_,x.bh c hc hb];intro b d h1;rcases x.back b c d h1 hc with h|⟨b0,d0,h,hn⟩
  . exact x.bI b (hb b d h)
  . exact absurd (hb b0 d0 h) hn
 back b c d h2 hc:=by
  rcases y.back b c d h2 (Nat.lt_of_lt_of_le hc x.size) with h1|⟨b1,d1,h1,hn1⟩
  . exact x.back b c d h1 hc
  . rcases x.back b1 c d1 h1 hc with h0|h0
    . exact .inr ⟨b1,d1,h0,fun hu=>hn1 (x.bI b1 hu)⟩
    . exact .inr h0
 shape c cs e fr h0:=by
  obtain⟨cs1,fr1,h1,e1⟩:=x.shape c cs e fr h0;obtain⟨cs2,fr2,h2,e2⟩:=y.shape c cs1 e fr1 h1;exact⟨cs2,fr2,h2,e2.trans e1⟩
theorem yU (h:w.cell? a=some v):∃cs e fr,w.heap[a.block]? = some (.cells cs e fr):=by
 unfold World.cell? at h;split at h
 . rename_i cs e fr hc;exact⟨cs,e,fr,hc⟩
 . cases h
theorem oD (h:w.cell? a=some v):a.block<w.heap.size:=by
 obtain⟨cs,e,fr,hc⟩:=yU h;exact(Array.getElem?_eq_some_iff.1 hc).1
theorem yV (h:w'.heap[a.block]? = w.heap[a.block]?):w'.cell? a=w.cell? a:=by
 unfold World.cell?;rw[h]
theorem Ext.free {ρ ρ':al}(x:Ext h h' ρ ρ' w w'){c:Nat}(hc:c<w.heap.size)(hf:bT ρ c):bT ρ' c:=by
 refine⟨fun b d hb=>?_,by rw[x.X];exact hf.2⟩;rcases x.back b c d hb hc with h|⟨b0,d0,h,_⟩
 . exact hf.1 _ _ h
 . exact hf.1 _ _ h
theorem Ext.cell {ρ ρ':al}(x:Ext h h' ρ ρ' w w'){c o:Nat}{v:Value}(hf:bT ρ c)(hc:w.cell? ⟨c,o,none⟩=some v):w'.cell? ⟨c,o,none⟩=some v:=by
 have hlt:=oD hc;rw[yV (w:=w)]
 . exact hc
 . exact x.bh c hlt (fun b d hb=>absurd hb (hf.1 b d))
theorem V.mono {ρ ρ':al}(x:Ext h h' ρ ρ' w w'){a:AV}{v:Value}(hv:V ρ w a v):V ρ' w' a v:=by
 induction hv with
 | bI v=>exact .bI v
 | bool b=>exact .bool b
 | int k n=>exact .int k n
 | str s=>exact .str s
 | cK=>exact .cK
 | ptr o hb=>
               rcases x.live _ _ _ hb with h|h
               . exact .ptr o h
               . exact .cQ o _ _ h
 | cQ o c o' hb=>exact .cQ o c o' (x.dead _ hb)
 | @vp l c o g hf hc _ ih=>
  by_cases hl:l=[]
  . subst hl;exact .vp c o g (fun h=>absurd rfl h) (by simp) (by simp)
  . have h0:=hc 0 (by cases l <;> simp_all);exact .vp c o g (fun _=>x.free (oD h0) (hf hl)) (fun i hi=>x.cell (hf hl) (hc i hi)) ih
 | ak=>exact .ak
 | sl hb hl hcap hs=>
  obtain⟨cs,e,fr,h1,h2⟩:=hs;obtain⟨cs',fr',h3,h4⟩:=x.shape _ _ _ _ h1;rcases x.live _ _ _ hb with h|h
  . exact .sl h hl hcap ⟨cs',e,fr',h3,by omega⟩
  . exact .di _ _ h hl hcap
 | dK hb=>
             rcases x.nil _ hb with h|h
             . exact .dK h
             . exact .dD h
 | di c o' hb hl hcap=>exact .di c o' (x.dead _ hb) hl hcap
 | dD hb=>exact .dD (x.dead _ hb)
 | dL a hb=>exact .dL a (x.dead _ hb)
 | @vs l len capC cap c o g hf hl hcap hc _ ih=>
  by_cases hn:l=[]
  . subst hn;exact .vs c o g (fun h=>absurd rfl h) hl hcap (by simp) (by simp)
  . have h0:=hc 0 (by cases l <;> simp_all);exact .vs c o g (fun _=>x.free (oD h0) (hf hn)) hl hcap (fun i hi=>x.cell (hf hn) (hc i hi)) ih
 | dE hcap=>exact .dE hcap
 | dR a hcap=>exact .dR a hcap
 | bY=>exact .bY
 | map hb=>
             rcases x.live _ _ _ hb with h|h
             . exact .map h
             . exact .eU _ h
 | eU v hb=>exact .eU v (x.dead _ hb)
 | yield hb=>
               rcases x.live _ _ _ hb with h|h
               . exact .yield h
               . exact .eV _ h
 | fn hf h1 h2 _ _ ih1 ih2=>exact .fn hf h1 h2 ih1 ih2
 | eV v hb=>exact .eV v (x.dead _ hb)
 | cH=>exact .cH
 | iface _ ih=>exact .iface ih
 | bZ=>exact .bZ
 | agg h _ ih=>exact .agg h ih
 | aq h _ ih=>exact .aq h ih
theorem VL.mono {ρ ρ':al}(x:Ext h h' ρ ρ' w w'){l:List AV}{m:List Value}(hv:VL ρ w l m):VL ρ' w' l m:=
 ⟨hv.1,fun i a b ha hb=>(hv.2 i a b ha hb).mono x⟩
theorem ER.mono {C:Cx}{ρ ρ':al}(x:Ext h h' ρ ρ' w w'){pe:List AV}{lo:List (Nat×AV)}{t:Array Value}(e:ER C ρ w pe lo t):ER C ρ' w' pe lo t:=
 ⟨e.size,e.nodup,e.lt,e.ga,fun i v t h1 h2=>(e.pe i v t h1 h2).mono x,fun t v h1=>let ⟨a,b,c⟩:=e.lo t v h1;⟨a,b,c.mono x⟩⟩
def ff (n:Nat)(ρ:al):al:=⟨fun b=>if b<n then ρ b else .fresh,ρ.X⟩
theorem bT.cut {ρ:al}{c:Nat}(n:Nat)(h:bT ρ c):bT (ff n ρ) c:=by
 refine⟨fun b d hb=>?_,h.2⟩;simp only[ff]at hb;split at hb
 . exact h.1 b d hb
 . cases hb
theorem dS (h:aY l<=n):∀(i:Nat) x,l[i]? = some x->x.top<=n:=by
 induction l with
 | nil=>intro i x hx;simp at hx
 | cons v r ih=>
  simp only[aY]at h;intro i x hx;cases i with
  | zero=>simp at hx;subst hx;omega
  | succ i=>simp at hx;exact ih (by omega) i x hx
theorem gW (h:∀(i:Nat) x,l[i]? = some x->x.top<=n):aY l<=n:=by
 induction l with
 | nil=>simp[aY]
 | cons v r ih=>
  simp only[aY];have h0:=h 0 v rfl;have h1:=ih (fun i x hx=>h (i+1) x (by simpa using hx));omega
theorem V.dY {ρ ρ':al}(hρ:∀b,b<n->ρ' b=ρ b)(hF:∀c,bT ρ c->bT ρ' c){a:AV}{v:Value}(hv:V ρ w a v):a.top<=n->V ρ' w a v:=by
 induction hv with
 | bI v=>exact fun _=>.bI v
 | bool b=>exact fun _=>.bool b
 | int k n=>exact fun _=>.int k n
 | str s=>exact fun _=>.str s
 | cK=>exact fun _=>.cK
 | ptr o hb=>exact fun h=>.ptr o (by simp only[AV.top]at h;rw[hρ _ (by omega)];exact hb)
 | cQ o c o' hb=>exact fun h=>.cQ o c o' (by simp only[AV.top]at h;rw[hρ _ (by omega)];exact hb)
 | vp c o g hf hc _ ih=>exact fun h=>.vp c o g (fun hl=>hF _ (hf hl)) hc (fun i x hx=>ih i x hx (dS (by simpa only[AV.top] using h) i x hx))
 | ak=>exact fun _=>.ak
 | sl hb hl hcap hs=>exact fun h=>.sl (by simp only[AV.top]at h;rw[hρ _ (by omega)];exact hb) hl hcap hs
 | dK hb=>exact fun h=>.dK (by simp only[AV.top]at h;rw[hρ _ (by omega)];exact hb)
 | di c o' hb hl hcap=>exact fun h=>.di c o' (by simp only[AV.top]at h;rw[hρ _ (by omega)];exact hb) hl hcap
 | dD hb=>exact fun h=>.dD (by simp only[AV.top]at h;rw[hρ _ (by omega)];exact hb)
 | dL a hb=>exact fun h=>.dL a (by simp only[AV.top]at h;rw[hρ _ (by omega)];exact hb)
 | vs c o g hf hl hcap hc _ ih=>exact fun h=>.vs c o g (fun hn=>hF _ (hf hn)) hl hcap hc (fun i x hx=>ih i x hx (dS (by simpa only[AV.top] using h) i x hx))
 | dE hcap=>exact fun _=>.dE hcap
 | dR a hcap=>exact fun _=>.dR a hcap
 | bY=>exact fun _=>.bY
 | map hb=>exact fun h=>.map (by simp only[AV.top]at h;rw[hρ _ (by omega)];exact hb)
 | eU v hb=>exact fun h=>.eU v (by simp only[AV.top]at h;rw[hρ _ (by omega)];exact hb)
 | yield hb=>exact fun h=>.yield (by simp only[AV.top]at h;rw[hρ _ (by omega)];exact hb)
 | @fn f fi ca _ _ hf h1 h2 _ _ ih1 ih2=>
  intro h;have hh:aY fi<=n/\aY ca<=n:=by
   cases f <;> simp only[AV.top]at h <;> exact⟨by omega,by omega⟩
  exact .fn hf h1 h2 (fun i x y a b=>ih1 i x y a b (dS hh.1 i x a)) (fun i x y a b=>ih2 i x y a b (dS hh.2 i x a))
 | eV v hb=>exact fun h=>.eV v (by simp only[AV.top]at h;rw[hρ _ (by omega)];exact hb)
 | cH=>exact fun _=>.cH
 | iface _ ih=>exact fun h=>.iface (ih (by simpa only[AV.top] using h))
 | bZ=>exact fun _=>.bZ
 | agg hl _ ih=>exact fun h=>.agg hl (fun i x y a b=>ih i x y a b (dS (by simpa only[AV.top] using h) i x a))
 | aq hl _ ih=>exact fun h=>.aq hl (fun i x y a b=>ih i x y a b (dS (by simpa only[AV.top] using h) i x a))
theorem V.cut {ρ:al}{a:AV}(hv:V ρ w a v):a.top<=n->V (ff n ρ) w a v:=
 hv.dY (fun b hb=>by simp only[ff];rw[if_pos hb]) (fun _ h=>h.cut n)
theorem V.top {ρ:al}(hn:∀b,n<=b->ρ b = .fresh){a:AV}{v:Value}(hv:V ρ w a v):a.top<=n:=by
 have key:∀b,ρ b≠.fresh->b+1<=n:=fun b hb=>by
  rcases Nat.lt_or_ge b n with h|h
  . omega
  . exact absurd (hn b h) hb
 induction hv with
 | ptr o hb=>exact key _ (by rw[hb];simp)
 | cQ o c o' hb=>exact key _ (by rw[hb];simp)
 | vp c o g hf hc _ ih=>exact gW ih
 | sl hb _ _ _=>exact key _ (by rw[hb];simp)
 | dK hb=>exact key _ (by rw[hb];simp)
 | di c o' hb _ _=>exact key _ (by rw[hb];simp)
 | dD hb=>exact key _ (by rw[hb];simp)
 | dL a hb=>exact key _ (by rw[hb];simp)
 | vs c o g hf hl hcap hc _ ih=>exact gW ih
 | map hb=>exact key _ (by rw[hb];simp)
 | eU v hb=>exact key _ (by rw[hb];simp)
 | @yield b _ _ hb=>have:=key b (by rw[hb];simp);simp only[AV.top,aY];omega
 | @fn f fi ca fi' ca' hf h1 h2 _ _ ih1 ih2=>
  have a1:aY fi<=n:=gW fun i x hx=>by
   have hi:i<fi'.length:=h1 ▸ (List.getElem?_eq_some_iff.1 hx).1;exact ih1 i x fi'[i] hx (List.getElem?_eq_getElem hi)
  have a2:aY ca<=n:=gW fun i x hx=>by
   have hi:i<ca'.length:=h2 ▸ (List.getElem?_eq_some_iff.1 hx).1;exact ih2 i x ca'[i] hx (List.getElem?_eq_getElem hi)
  cases f <;> simp only[AV.top] <;> first|omega|exact absurd rfl (hf _)
 | @eV b v hb=>have:=key b (by rw[hb];simp);simp only[AV.top,aY];omega
 | iface _ ih=>exact ih
 | @agg l m hl _ ih=>
  exact gW fun i x hx=>by
   have hi:i<m.length:=hl ▸ (List.getElem?_eq_some_iff.1 hx).1;exact ih i x m[i] hx (List.getElem?_eq_getElem hi)
 | @aq l m hl _ ih=>
  exact gW fun i x hx=>by
   have hi:i<m.length:=hl ▸ (List.getElem?_eq_some_iff.1 hx).1;exact ih i x m[i] hx (List.getElem?_eq_getElem hi)
 | _=>simp[AV.top,aY]
end Go.Ab
namespace Go.Ab
variable {w w':World} {h:ab} {ρ:al} {b c:Nat} {O:Obj}
variable {P:Program} {gl:Nat->Option AV}
theorem sy {a:Addr}(h:w'.heap[a.block]? = w.heap[a.block]?):w'.frozen? a=w.frozen? a:=by
 unfold World.frozen?;rw[h]
theorem BR.mono {h':ab}{ρ':al}(x:Ext h h' ρ ρ' w w'){b:Nat}(hρ:ρ' b=ρ b)
 (hh:∀c d,ρ b = .live c d->w'.heap[c]? = w.heap[c]?) {o:aK} (hb:BR P gl ρ w b o):BR P gl ρ' w' b o:=by
 cases o with
 | cells l e=>
  rcases hb with ⟨c,d,cs,fr,h1,h2,h3,h4,h5⟩|⟨h1,h2⟩
  . refine .inl ⟨c,d,cs,fr,hρ.trans h1,(hh c d h1).trans h2,h3,fun i hi=>?_,fun i x' y hx hy=>(h5 i x' y hx hy).mono x⟩;rw[sy (w:=w) (hh c d h1)];exact h4 i hi
  . exact .inr ⟨hρ.trans h1,h2⟩
 | map es=>
  obtain⟨c,ms,clk,h1,h2,h3,h4⟩:=hb;exact⟨c,ms,clk,hρ.trans h1,(hh c 0 h1).trans h2,h3,fun i kx vx m hx hm=>let ⟨a,b⟩:=h4 i kx vx m hx hm;⟨a.mono x,b.mono x⟩⟩
 | iter s pos=>obtain⟨c,h1,h2⟩:=hb;exact⟨c,hρ.trans h1,(hh c 0 h1).trans h2⟩
 | cO=>obtain⟨c,h1,h2⟩:=hb;exact⟨c,hρ.trans h1,(hh c 0 h1).trans h2⟩
 | hole=>exact hρ.trans hb
 | loop st pend pe ps a bd=>
  obtain⟨c,r,ar,N,h1,h2,h3,h4,h5,h6⟩:=hb;exact⟨c,r,ar,N,hρ.trans h1,(hh c 0 h1).trans h2,h3,h4,h5.mono x,h6⟩
theorem BR.live {o:aK}(hb:BR P gl ρ w b o):(∃c d,ρ b = .live c d)\/ρ b = .nil\/ρ b = .fresh:=by
 cases o with
 | cells l e=>
                rcases hb with ⟨c,d,_,_,h1,_⟩|⟨h1,_⟩
                . exact .inl ⟨c,d,h1⟩
                . exact .inr (.inl h1)
 | map es=>obtain⟨c,_,_,h1,_⟩:=hb;exact .inl ⟨c,0,h1⟩
 | iter s pos=>obtain⟨c,h1,_⟩:=hb;exact .inl ⟨c,0,h1⟩
 | cO=>obtain⟨c,h1,_⟩:=hb;exact .inl ⟨c,0,h1⟩
 | hole=>exact .inr (.inr hb)
 | loop=>obtain⟨c,_,_,_,h1,_⟩:=hb;exact .inl ⟨c,0,h1⟩
def al.cn (ρ:al)(b:Nat)(s:BS):al:=⟨fun x=>if x=b then s else ρ x,ρ.X⟩
@[simp] theorem al.JZ (ρ:al)(b:Nat)(s:BS):(ρ.cn b s).X=ρ.X:=rfl
@[simp] theorem al.cq (ρ:al)(b:Nat)(s:BS):ρ.cn b s b=s:=by simp[al.cn]
theorem al.bO {x:Nat}{s:BS}(h:x≠b):ρ.cn b s x=ρ x:=by simp[al.cn,h]
theorem oE (hc:c<w.heap.size):(w.heap.push O)[c]? = w.heap[c]? := by
 rw[Array.getElem?_push,if_neg (by omega)]
theorem Ext.alloc (m:Mem P gl ρ h w)(o:Option aK)(O:Obj)(s:BS)(hs:(∃d,s = .live w.heap.size d)\/s = .nil\/s = .dead) :
 Ext h (h++[o]) ρ (ρ.cn h.length s) w { w with heap:=w.heap.push O } where
 os:=rfl
 tape:=rfl
 output:=rfl
 size:=by simp
 len:=by simp
 X:=rfl
 bI b hb:=by
  have hlt:=(List.getElem?_eq_some_iff.1 hb).1;rw[List.getElem?_append_left hlt];exact hb
 same b hb:=by
  have hlt:=(List.getElem?_eq_some_iff.1 hb).1;exact al.bO (by omega)
 live b c d hb:=by
  have:b≠h.length:=fun e=>by rw[m.fresh b (by omega)]at hb;cases hb
  exact .inl ((al.bO this).trans hb)
 dead b hb:=by
  have:b≠h.length:=fun e=>by rw[m.fresh b (by omega)]at hb;cases hb
  exact(al.bO this).trans hb
 nil b hb:=by
  have:b≠h.length:=fun e=>by rw[m.fresh b (by omega)]at hb;cases hb
  exact .inl ((al.bO this).trans hb)
 bh c hc _:=oE hc
 back b c d hb hc:=by
  by_cases e:b=h.length
  . subst e;rw[al.cq]at hb;rcases hs with ⟨d',rfl⟩|rfl|rfl
    . cases hb;omega
    . cases hb
    . cases hb
  . rw[al.bO e]at hb;exact .inl hb
 shape c cs e fr hc:=⟨cs,fr,by rw[oE (Array.getElem?_eq_some_iff.1 hc).1];exact hc,rfl⟩
theorem Ext.drew (h:ab)(ρ:al)(w:World)(n:Nat):Ext h h ρ ρ w { w with drawn:=n }:=
 ⟨rfl,rfl,rfl,Nat.le_refl _,Nat.le_refl _,rfl,fun _ h=>h,fun _ _=>rfl,fun _ _ _ h=>.inl h,fun _ h=>h,fun _ h=>.inl h,fun _ _ _=>rfl,fun _ _ _ h _=>.inl h,
  fun _ cs _ fr h=>⟨cs,fr,h,rfl⟩⟩
theorem Mem.ext {ρ':al}{h':ab}(m:Mem P gl ρ h w)(x:Ext h h' ρ ρ' w w')
 (hb:∀b o,h'[b]? = some (some o)->BR P gl ρ' w' b o) (hf:∀b,h'.length<=b->ρ' b = .fresh)
 (hi:∀b b' c d d',ρ' b = .live c d->ρ' b' = .live c d'->b=b') (hbd:∀b c d,ρ' b = .live c d->c<w'.heap.size):Mem P gl ρ' h' w':=
 ⟨hb,hf,hi,hbd,fun c hc=>Nat.lt_of_lt_of_le (m.xb c (by rw[←x.X];exact hc)) x.size,fun b c d hl hX=>by
  rw[x.X]at hX;have hlt:=m.xb c hX;rcases x.back b c d hl hlt with h1|⟨b0,d0,h1,_⟩
  . exact m.xo _ _ _ h1 hX
  . exact m.xo _ _ _ h1 hX,fun g v hg=>(m.gl g v hg).mono x⟩
theorem Mem.alloc (m:Mem P gl ρ h w)(o:Option aK)(O:Obj)(s:BS)(hs:(∃d,s = .live w.heap.size d)\/s = .nil\/s = .dead)
 (ho:∀o',o=some o'->BR P gl (ρ.cn h.length s) { w with heap:=w.heap.push O } h.length o') :
 Mem P gl (ρ.cn h.length s) (h++[o]) { w with heap:=w.heap.push O }:=by
 have x:=Ext.alloc m o O s hs;refine m.ext x ?_ ?_ ?_ ?_
 . intro b o' hb;rcases Nat.lt_trichotomy b h.length with hlt|heq|hgt
   . rw[List.getElem?_append_left hlt]at hb;refine(m.bN b o' hb).mono x (al.bO (by omega)) (fun c d hl=>oE (m.bound b c d hl))
   . subst heq;rw[List.getElem?_append_right (Nat.le_refl _)]at hb;simp at hb;exact ho o' hb
   . rw[List.getElem?_eq_none (by simp;omega)]at hb;cases hb
 . intro b hb;simp at hb;rw[al.bO (by omega)];exact m.fresh b (by omega)
 . intro b b' c d d' h1 h2;have bd:∀{x c d},ρ x = .live c d->c<w.heap.size:=fun h=>m.bound _ _ _ h
   by_cases e:b=h.length <;> by_cases e':b'=h.length
   . omega
   . subst e;rw[al.cq]at h1;rw[al.bO e']at h2;rcases hs with ⟨d0,rfl⟩|rfl|rfl
     . cases h1;have:=bd h2;omega
     . cases h1
     . cases h1
   . subst e';rw[al.cq]at h2;rw[al.bO e]at h1;rcases hs with ⟨d0,rfl⟩|rfl|rfl
     . cases h2;have:=bd h1;omega
     . cases h2
     . cases h2
   . rw[al.bO e]at h1;rw[al.bO e']at h2;exact m.inj b b' c d d' h1 h2
 . intro b c d hl;show c<(w.heap.push O).size;rw[Array.size_push];by_cases e:b=h.length
   . subst e;rw[al.cq]at hl;rcases hs with ⟨d0,rfl⟩|rfl|rfl
     . cases hl;omega
     . cases hl
     . cases hl
   . rw[al.bO e]at hl;have:=m.bound b c d hl;omega
theorem Mem.drew (m:Mem P gl ρ h w)(n:Nat):Mem P gl ρ h { w with drawn:=n }:=
 m.ext (Ext.drew h ρ w n) (fun b o hb=>(m.bN b o hb).mono (Ext.drew h ρ w n) rfl (fun _ _ _=>rfl)) m.fresh m.inj m.bound
def _root_.Go.World.bP (w:World)(c:Nat)(O:Obj):World:={ w with heap:=w.heap.setIfInBounds c O }
theorem iF (hc:c<w.heap.size):(w.bP c O).heap[c]? = some O:=by
 simp[World.bP,hc]
theorem oF {c':Nat}(hc:c'≠c):(w.bP c O).heap[c']? = w.heap[c']? := by
 simp only[World.bP];rw[Array.getElem?_setIfInBounds];rw[if_neg (by omega)]
theorem oG {o:Option aK}(hb:b<h.length):(h.set b o)[b]? = some o:=by
 rw[List.getElem?_set];simp[hb]
theorem gb {b':Nat}{o:Option aK}(hb:b'≠b):(h.set b o)[b']? = h[b']? := by
 rw[List.getElem?_set];rw[if_neg (by omega)]
theorem Ext.write (m:Mem P gl ρ h w){b c d:Nat}{o0:aK}(h0:h[b]? = some (some o0))(hρ:ρ b = .live c d)(o:Option aK)(O:Obj)
 (hO:∀cs e fr,w.heap[c]? = some (.cells cs e fr)->∃cs' fr',O = .cells cs' e fr'/\cs'.size=cs.size) :
 Ext h (h.set b o) ρ ρ w (w.bP c O) where
 os:=rfl
 tape:=rfl
 output:=rfl
 size:=by simp[World.bP]
 len:=by simp
 X:=rfl
 bI b' hb':=by
  have:b'≠b:=fun e=>by subst e;rw[h0]at hb';cases hb'
  rw[gb this];exact hb'
 same _ _:=rfl
 live _ _ _ h:=.inl h
 dead _ h:=h
 nil _ h:=.inl h
 bh c' hc' hu:=by
  have:c'≠c:=fun e=>by subst e;have:=hu b d hρ;rw[h0]at this;cases this
  exact oF this
 back _ _ _ h _:=.inl h
 shape c' cs e fr hc':=by
  by_cases e':c'=c
  . subst e';obtain⟨cs',fr',rfl,hs⟩:=hO cs e fr hc';exact⟨cs',fr',iF (m.bound _ _ _ hρ),hs⟩
  . exact⟨cs,fr,by rw[oF e'];exact hc',rfl⟩
theorem Mem.write (m:Mem P gl ρ h w){b c d:Nat}{o0:aK}(h0:h[b]? = some (some o0))(hρ:ρ b = .live c d)(o:Option aK)(O:Obj)
 (hO:∀cs e fr,w.heap[c]? = some (.cells cs e fr)->∃cs' fr',O = .cells cs' e fr'/\cs'.size=cs.size)
 (ho:∀o',o=some o'->BR P gl ρ (w.bP c O) b o'):Mem P gl ρ (h.set b o) (w.bP c O):=by
 have x:=Ext.write m h0 hρ o O hO;refine m.ext x ?_ ?_ m.inj ?_
 . intro b' o' hb';by_cases e:b'=b
   . subst e;rw[oG (List.getElem?_eq_some_iff.1 h0).1]at hb';exact ho o' (Option.some.inj hb')
   . rw[gb e]at hb';exact(m.bN b' o' hb').mono x rfl (fun c' d' hl=>oF (fun e'=>e (m.inj b' b c d' d (e' ▸ hl) hρ)))
 . intro b' hb';simp at hb';exact m.fresh b' hb'
 . intro b' c' d' hl;have:=m.bound b' c' d' hl;simpa[World.bP] using this
theorem Ext.forget {o0:aK}(h0:h[b]? = some (some o0))(hl:∀c d,ρ b = .live c d->c<w.heap.size) :
 Ext h (h.set b none) ρ (ρ.cn b .dead) w w where
 os:=rfl
 tape:=rfl
 output:=rfl
 size:=Nat.le_refl _
 len:=by simp
 X:=rfl
 bI b' hb':=by
  have:b'≠b:=fun e=>by subst e;rw[h0]at hb';cases hb'
  rw[gb this];exact hb'
 same b' hb':=by
  have:b'≠b:=fun e=>by subst e;rw[h0]at hb';cases hb'
  exact al.bO this
 live b' c d hb':=by
  by_cases e:b'=b
  . subst e;exact .inr (al.cq _ _ _)
  . exact .inl ((al.bO e).trans hb')
 dead b' hb':=by
  by_cases e:b'=b
  . subst e;exact al.cq _ _ _
  . exact(al.bO e).trans hb'
 nil b' hb':=by
  by_cases e:b'=b
  . subst e;exact .inr (al.cq _ _ _)
  . exact .inl ((al.bO e).trans hb')
 bh _ _ _:=rfl
 back b' c d hb' _:=by
  by_cases e:b'=b
  . subst e;rw[al.cq]at hb';cases hb'
  . rw[al.bO e]at hb';exact .inl hb'
 shape _ cs _ fr h:=⟨cs,fr,h,rfl⟩
theorem Mem.forget (m:Mem P gl ρ h w){b:Nat}{o0:aK}(h0:h[b]? = some (some o0)):Mem P gl (ρ.cn b .dead) (h.set b none) w:=by
 have x:=Ext.forget (w:=w) h0 (fun c d hl=>m.bound b c d hl);have hlt:b<h.length:=(List.getElem?_eq_some_iff.1 h0).1;refine m.ext x ?_ ?_ ?_ ?_
 . intro b' o' hb';by_cases e:b'=b
   . subst e;rw[oG hlt]at hb';cases hb'
   . rw[gb e]at hb';exact(m.bN b' o' hb').mono x (al.bO e) (fun _ _ _=>rfl)
 . intro b' hb';simp at hb';rw[al.bO (by omega)];exact m.fresh b' hb'
 . intro b1 b2 c d d' h1 h2;by_cases e1:b1=b
   . subst e1;rw[al.cq]at h1;cases h1
   . by_cases e2:b2=b
     . subst e2;rw[al.cq]at h2;cases h2
     . rw[al.bO e1]at h1;rw[al.bO e2]at h2;exact m.inj _ _ _ _ _ h1 h2
 . intro b' c d hl;by_cases e:b'=b
   . subst e;rw[al.cq]at hl;cases hl
   . rw[al.bO e]at hl;exact m.bound _ _ _ hl
theorem Ext.move (m:Mem P gl ρ h w){b c d:Nat}{o0:aK}(h0:h[b]? = some (some o0))(hρ:ρ b = .live c d)(o:Option aK)(d':Nat) :
 Ext h (h.set b none++[o]) ρ ((ρ.cn b .dead).cn h.length (.live c d')) w w:=by
 have hlt:b<h.length:=(List.getElem?_eq_some_iff.1 h0).1;have x:=Ext.forget (w:=w) h0 (fun c d hl=>m.bound b c d hl);have bh:∀b',ρ b'≠.fresh->b'≠h.length:=fun b' hb e=>hb (m.fresh b' (by omega))
 refine⟨rfl,rfl,rfl,Nat.le_refl _,by simp,rfl,?_,?_,?_,?_,?_,fun _ _ _=>rfl,?_,fun _ cs _ fr h=>⟨cs,fr,h,rfl⟩⟩
 . intro b' hb';have hlt':=(List.getElem?_eq_some_iff.1 hb').1;rw[List.getElem?_append_left (by simpa using hlt')];exact x.bI b' hb'
 . intro b' hb';have hlt':=(List.getElem?_eq_some_iff.1 hb').1;rw[al.bO (by omega)];exact x.same b' hb'
 . intro b' c' d'' hb';rw[al.bO (bh b' (by rw[hb'];simp))];exact x.live b' c' d'' hb'
 . intro b' hb';rw[al.bO (bh b' (by rw[hb'];simp))];exact x.dead b' hb'
 . intro b' hb';rw[al.bO (bh b' (by rw[hb'];simp))];exact x.nil b' hb'
 . intro b' c' d'' hb' hc;by_cases e:b'=h.length
   . subst e;rw[al.cq]at hb';cases hb';exact .inr ⟨b,d,hρ,by rw[h0];simp⟩
   . rw[al.bO e]at hb';exact x.back b' c' d'' hb' hc
theorem Mem.move (m:Mem P gl ρ h w){b c d:Nat}{o0:aK}(h0:h[b]? = some (some o0))(hρ:ρ b = .live c d)(o:Option aK)(d':Nat)
 (ho:∀o',o=some o'->BR P gl ((ρ.cn b .dead).cn h.length (.live c d')) w h.length o'):Mem P gl ((ρ.cn b .dead).cn h.length (.live c d')) (h.set b none++[o]) w:=by
 have hlt:b<h.length:=(List.getElem?_eq_some_iff.1 h0).1;have x:=Ext.move m h0 hρ o d';have m':=m.forget h0;refine m.ext x ?_ ?_ ?_ ?_
 . intro b' o' hb';rcases Nat.lt_trichotomy b' h.length with hl|he|hg
   . rw[List.getElem?_append_left (by simpa using hl)]at hb';by_cases e:b'=b
     . subst e;rw[oG hlt]at hb';cases hb'
     . rw[gb e]at hb';exact(m.bN b' o' hb').mono x (by rw[al.bO (by omega),al.bO e]) (fun _ _ _=>rfl)
   . subst he;rw[List.getElem?_append_right (by simp)]at hb';simp at hb';exact ho o' hb'
   . rw[List.getElem?_eq_none (by simp;omega)]at hb';cases hb'
 . intro b' hb';simp at hb';rw[al.bO (by omega)];exact m'.fresh b' (by simp;omega)
 . intro b1 b2 c1 d1 d2 h1 h2;have key:∀b1 d1,b1≠h.length->(ρ.cn b .dead) b1 = .live c d1->False:=fun b1 d1 e h1=>by
    by_cases e1:b1=b
    . subst e1;rw[al.cq]at h1;cases h1
    . rw[al.bO e1]at h1;exact e1 (m.inj _ _ _ _ _ h1 hρ)
   by_cases e1:b1=h.length <;> by_cases e2:b2=h.length
   . omega
   . subst e1;rw[al.cq]at h1;cases h1;rw[al.bO e2]at h2;exact(key _ _ e2 h2).elim
   . subst e2;rw[al.cq]at h2;cases h2;rw[al.bO e1]at h1;exact(key _ _ e1 h1).elim
   . rw[al.bO e1]at h1;rw[al.bO e2]at h2;exact m'.inj _ _ _ _ _ h1 h2
 . intro b' c' d'' hl;by_cases e:b'=h.length
   . subst e;rw[al.cq]at hl;cases hl;exact m.bound _ _ _ hρ
   . rw[al.bO e]at hl;exact m'.bound _ _ _ hl
end Go.Ab
namespace Go.Ab
variable {v x':Value} {l:List AV} {m:List Value} {t e:TypeId} {n:Nat}
variable {P:Program} {gl:Nat->Option AV} {ρ:al} {w:World}
theorem V.dT {k:IntKind}{n:Int}(h:V ρ w (.int k n) v):v = .int k n:=by cases h;rfl
theorem V.gX {b:Bool}(h:V ρ w (.bool b) v):v = .bool b:=by cases h;rfl
theorem V.fP {s:List UInt8}(h:V ρ w (.str s) v):v = .string ⟨s.toArray⟩:=by cases h;rfl
theorem V.fg (h:V ρ w (.agg l) v):∃m:List Value,v = .agg m.toArray/\VL ρ w l m:=by
 cases h with|agg h g=>exact⟨_,rfl,h,g⟩
theorem V.sA (h:V ρ w (.aq l) v):∃m:List Value,v = .tuple m.toArray/\VL ρ w l m:=by
 cases h with|aq h g=>exact⟨_,rfl,h,g⟩
theorem V.kE (h:VL ρ w l m):V ρ w (.agg l) (.agg m.toArray):=.agg h.1 h.2
theorem V.eD (h:VL ρ w l m):V ρ w (.aq l) (.tuple m.toArray):=.aq h.1 h.2
theorem V.undef:V ρ w aW undef:=V.eD VL.nil
theorem VL.get (h:VL ρ w l m){i:Nat}{x:AV}(hx:l[i]? = some x):∃y,m[i]? = some y/\V ρ w x y:=by
 have hi:i<m.length:=h.1 ▸ (List.getElem?_eq_some_iff.1 hx).1;exact⟨m[i],List.getElem?_eq_getElem hi,h.2 i x _ hx (List.getElem?_eq_getElem hi)⟩
theorem oH {rec:Value->Option AV}(hr:∀v a,rec v=some a->V ρ w a v):∀(l:List Value) (r:List AV),jx rec l=some r->VL ρ w r l
 | [],r,h=>by simp[jx]at h;subst h;exact .nil
 | v::l,r,h=>by
  simp only[jx]at h;split at h
  . rename_i a r' h1 h2;cases h;exact .cons (hr v a h1) (oH hr l r' h2)
  . cases h
theorem kG:∀(n:Nat) (v:Value) (a:AV),iD n v=some a->V ρ w a v
 | 0,_,_,h=>by simp[iD]at h
 | n+1,v,a,h=>by
  unfold iD at h;split at h
  . cases h;exact .bool _
  . cases h;exact .int _ _
  . cases h;exact V.me _
  . cases h;exact .cK
  . cases h;exact .ak
  . cases h;exact .bY
  . cases h;exact .cH
  . cases h;exact .bZ
  . cases h;exact V.fn (fi':=[]) (ca':=[]) (by simp) rfl rfl (by simp) (by simp)
  . rename_i cs;simp only[Option.map_eq_some_iff]at h;obtain⟨l,h1,rfl⟩:=h;exact V.kE (oH (fun v a=>kG n v a) cs l h1)
  . rename_i cs;simp only[Option.map_eq_some_iff]at h;obtain⟨l,h1,rfl⟩:=h;exact V.eD (oH (fun v a=>kG n v a) cs l h1)
  . cases h
theorem sB {t:Nat}:∀{l:List Nat} {k i:Nat},idx t l k=some i->∃j,i=k+j/\l[j]? = some t
 | [],_,_,h=>by simp[idx]at h
 | u::r,k,i,h=>by
  simp only[idx]at h;split at h
  . rename_i hu;cases h;exact⟨0,rfl,by simp[hu]⟩
  . obtain⟨j,h1,h2⟩:=sB h;exact⟨j+1,by omega,by simpa using h2⟩
theorem mf {t:Nat}{l:List Nat}{i:Nat}(h:idx t l 0=some i):l[i]? = some t:=by
 obtain⟨j,rfl,h2⟩:=sB h;simpa using h2
theorem mg {t:Nat}:∀{l:List Nat} {k:Nat},idx t l k=none->t∉l
 | [],_,_=>by simp
 | u::r,k,h=>by
  simp only[idx]at h;split at h
  . cases h
  . rename_i hu;have:=mg h;simp;exact⟨fun e=>hu e.symm,this⟩
structure Rel (C:Cx)(ρ:al)(s:St)(a:Act)(w:World):Prop where
 er:ER C ρ w s.pe s.lo a.tmps
 mem:Mem C.P C.gl ρ s.hp w
variable {C:Cx} {s:St} {a:Act}
theorem yW (r:ER C ρ w s.pe s.lo a.tmps)(g:∀n v,C.gl n=some v->V ρ w v (.pointer (some ⟨n,0,none⟩))){x:Operand}{y:an}(hc:dQ C x=some y){v:AV}(hv:s.aa y=some v) :
 V ρ w v (a.eval x):=by
 cases x with
 | tmp t=>
  simp only[dQ]at hc;split at hc
  . rename_i i hi;cases hc;exact r.pe i v t hv (mf hi)
  . cases hc;exact(r.lo t v hv).2.2
 | const c=>
  simp only[dQ,Option.map_eq_some_iff]at hc;obtain⟨u,h1,rfl⟩:=hc;simp only[St.aa,Option.some.injEq]at hv;subst hv;exact kG 5 c _ h1
 | global n=>
  simp only[dQ,Option.map_eq_some_iff]at hc;obtain⟨u,h1,rfl⟩:=hc;simp only[St.aa,Option.some.injEq]at hv;subst hv;exact g n _ h1
 | func f=>
  simp only[dQ]at hc;cases hc;simp only[St.aa]at hv;cases hv;exact V.fn (fi':=[]) (ca':=[]) (by simp) rfl rfl (by simp) (by simp)
theorem Rel.aa (r:Rel C ρ s a w){x:Operand}{y:an}(hc:dQ C x=some y){v:AV}(hv:s.aa y=some v):V ρ w v (a.eval x):=
 yW r.er r.mem.gl hc hv
theorem Rel.bp (r:Rel C ρ s a w):∀{xs:List Operand} {ys:List an},ep C xs=some ys->∀{vs:List AV},s.bp ys=some vs->VL ρ w vs (xs.map a.eval)
 | [],ys,hc,vs,hv=>by
  simp[ep]at hc;subst hc;simp[St.bp]at hv;subst hv;exact .nil
 | x::xs,ys,hc,vs,hv=>by
  simp only[ep]at hc;split at hc
  . rename_i y l h1 h2;cases hc;simp only[St.bp]at hv;split at hv
    . rename_i v hv1;split at hv
      . rename_i vs' hv2;cases hv;exact .cons (r.aa h1 hv1) (r.bp h2 hv2)
      . cases hv
    . cases hv
  . cases hc
theorem yX {op:BinOp}{x y v:AV}{y':Value}(hx:V ρ w x x')(hy:V ρ w y y')(h:cf op x y=some v)(t:TypeId) :
 ∃v',(binOp op t x' y').run P w = .ok v' w/\V ρ w v v':=by
 unfold cf at h;split at h
 . rename_i k a k' b;obtain rfl:=hx.dT;obtain rfl:=hy.dT;split at h
   . split at h
     . cases h
     . rename_i hb;cases h;exact⟨_,by simp[binOp,Op.shift,hb] <;> rfl,.int _ _⟩
   . split at h
     . cases h
     . rename_i hb;cases h;exact⟨_,by simp[binOp,Op.shift,hb] <;> rfl,.int _ _⟩
   . rename_i op' h1 h2;split at h
     . rename_i hk;subst hk;split at h <;> first
        | (cases h;exact⟨_,by simp only[binOp];rw[if_neg (by simp)];rfl,.int _ _⟩)
        | (cases h;exact⟨_,by simp only[binOp];rw[if_neg (by simp)];rfl,.bool _⟩)
        | (split at h;cases h;rename_i hb;cases h;exact⟨_,by simp[binOp,Op.intDiv,hb] <;> rfl,.int _ _⟩)
        | cases h
     . cases h
 . rename_i a b;obtain rfl:=hx.fP;obtain rfl:=hy.fP;split at h
   . split at h
     . rename_i hl;cases h;refine⟨.string ⟨(a++b).toArray⟩,?_,.str _⟩;have hs:¬(((ByteArray.mk a.toArray).size+(ByteArray.mk b.toArray).size:Nat):Int) > IntKind.i64.max:=by
        have e1:(ByteArray.mk a.toArray).size=a.length:=by simp[ByteArray.size]
        have e2:(ByteArray.mk b.toArray).size=b.length:=by simp[ByteArray.size]
        rw[e1,e2];have:IntKind.i64.max=9223372036854775807:=by decide
        omega
       have e:(ByteArray.mk a.toArray)++(ByteArray.mk b.toArray)=⟨(a++b).toArray⟩:=by
        apply ByteArray.ext;simp
       simp only[binOp,Op.stringOp];rw[if_neg hs,e];rfl
     . cases h
   all_goals first
    | (cases h;exact⟨_,by simp[binOp,Op.stringOp] <;> rfl,.bool _⟩)
    | cases h
 . cases h
theorem yY {op:UnOp}{x v:AV}(hx:V ρ w x x')(h:lR op x=some v):∃v',(Op.unary op x').run P w = .ok v' w/\V ρ w v v':=by
 unfold lR at h;split at h
 . obtain rfl:=hx.dT;cases h;exact⟨_,by simp[Op.unary,Op.intArith] <;> rfl,.int _ _⟩
 . obtain rfl:=hx.gX;cases h;exact⟨_,by simp[Op.unary] <;> rfl,.bool _⟩
 . obtain rfl:=hx.dT;cases h;exact⟨_,by simp[Op.unary,Op.intBits] <;> rfl,.int _ _⟩
 . cases h
theorem aR {d:TypeDesc}(h:P.underlying t=some d):(underlying t).run P w = .ok d w:=by simp[underlying,h]
theorem mh {i:TypeInfo}(h:P.info? t=some i):(typeInfo t).run P w = .ok i w:=by simp[typeInfo,h]
theorem eg {i:TypeInfo}(h:P.info? t=some i):(sizeOf t).run P w = .ok i.size w:=by simp[sizeOf,typeInfo,h]
theorem sC {d:TypeDesc}(h:P.underlying t=some d):(isAgg t).run P w = .ok (oA d) w:=by
 simp only[isAgg,Sem.run_bind,aR h,Result.andThen_ok];cases d <;> rfl
theorem kH {ag:Bool}(h:shapeOf P t=some (n,ag)):∃i d,P.info? t=some i/\P.underlying t=some d/\i.size=n/\oA d=ag:=by
 unfold shapeOf at h;split at h
 . rename_i i d h1 h2;cases h;exact⟨i,d,h1,h2,rfl,rfl⟩
 . cases h
theorem yZ (h:VL ρ w l m){off n:Nat}{r:List AV}(hc:cut l off n=some r):VL ρ w r ((m.drop off).take n)/\r.length=n:=by
 unfold cut at hc;simp only at hc;split at hc
 . rename_i hl;cases hc;exact⟨(h.drop off).take n,hl⟩
 . cases hc
theorem zh (m:List Value)(off n:Nat):(m.toArray.extract off (off+n))=((m.drop off).take n).toArray:=by
 rw[List.extract_toArray,List.extract_eq_drop_take'];simp[List.drop_take]
theorem jB {ag:Bool}(hs:shapeOf P t=some (n,ag)){l:List AV}{m:List Value}(h:VL ρ w l m){off:Nat}{v:AV}(hv:partOf l off n ag=some v) :
 ∃v',(part t m.toArray off).run P w = .ok v' w/\V ρ w v v':=by
 obtain⟨i,d,h1,h2,rfl,rfl⟩:=kH hs;unfold partOf at hv;simp only[part,Sem.run_bind,sC h2,Result.andThen_ok];split at hv
 . rename_i hag;simp only[Option.map_eq_some_iff]at hv;obtain⟨r,hr,rfl⟩:=hv;obtain⟨hr1,hr2⟩:=yZ h hr;rw[if_pos hag];refine⟨.agg ((m.drop off).take i.size).toArray,?_,V.kE hr1⟩;simp only[Sem.run_bind,eg h1,Result.andThen_ok,zh];rfl
 . rename_i hag;rw[if_neg hag];obtain⟨y,hy1,hy2⟩:=h.get hv;refine⟨y,?_,hy2⟩;have:m.toArray[off]? = some y:=by simpa using hy1
   rw[this];rfl
theorem zj {i:Nat}{x:List AV}(hx:V ρ w (.aq x) x'){v:AV}(h:x[i]? = some v):∃v',(Instr.extract x' i).run P w = .ok v' w/\V ρ w v v':=by
 obtain⟨m,rfl,hl⟩:=hx.sA;obtain⟨y,hy1,hy2⟩:=hl.get h;refine⟨y,?_,hy2⟩;have:m.toArray[i]? = some y:=by simpa using hy1
 simp only[Instr.extract,this];rfl
theorem zk (hd:P.underlying t=some (.pointer e)){x y:AV}{x' y':Value}(hx:V ρ w x x')(hy:V ρ w y y'){r:Bool}
 (h:fq .ptr x y=some r):(Op.equalIn (n+1) t x' y').run P w = .ok r w:=by
 unfold fq at h;split at h
 all_goals first|contradiction|skip
 all_goals (cases h;cases hx <;> cases hy <;> simp[Op.equalIn,aR hd])
theorem zo (hd:P.underlying t=some (.slice e)){x y:AV}{x' y':Value}(hx:V ρ w x x')(hy:V ρ w y y'){r:Bool}
 (h:fq .slice x y=some r):(Op.equalIn (n+1) t x' y').run P w = .ok r w:=by
 unfold fq at h;split at h
 all_goals first|contradiction|skip
 all_goals (cases h;cases hx <;> cases hy <;> simp[Op.equalIn,aR hd])
theorem zy {k:TypeId}(hd:P.underlying t=some (.map k e)){x y:AV}{x' y':Value}(hx:V ρ w x x')(hy:V ρ w y y'){r:Bool}
 (h:fq .map x y=some r):(Op.equalIn (n+1) t x' y').run P w = .ok r w:=by
 unfold fq at h;split at h
 all_goals first|contradiction|skip
 all_goals (cases h;cases hx <;> cases hy <;> simp[Op.equalIn,aR hd])
theorem zz {ps rs:Array TypeId}{vr:Bool}(hd:P.underlying t=some (.func ps rs vr)){x y:AV}{x' y':Value}(hx:V ρ w x x')(hy:V ρ w y y'){r:Bool}
 (h:fq .func x y=some r):(Op.equalIn (n+1) t x' y').run P w = .ok r w:=by
 unfold fq at h;split at h
 all_goals first|contradiction|skip
 all_goals (cases h;cases hx <;> cases hy <;> simp[Op.equalIn,aR hd])
theorem zA {f d:Nat}(ih:∀(g:Bool) (T:TypeId) (t:ed),eu P d g T=some t->∀(x y:AV) (x' y':Value) (r:Bool),V ρ w x x'->V ρ w y y'->cd f t x y=some r ->
 ∀n,f<=n->(Op.equalIn n T x' y').run P w = .ok r w){n:Nat}(hn:f<=n){xs ys:List AV}{xm ym:List Value}(hx:VL ρ w xs xm)(hy:VL ρ w ys ym) :
 ∀(l:List Field) (fs:List (Nat×Nat×Bool×ed)),kB P (fun t=>eu P d true t) l=some fs->∀r,goEq (fun t x y=>cd f t x y) fs xs ys=some r ->
  (Op.eqFields n xm.toArray ym.toArray l).run P w = .ok r w:=by
 intro l;induction l with
 | nil=>
  intro fs hf r h;simp[kB]at hf;subst hf;simp[goEq]at h;subst h;simp[Op.eqFields]
 | cons fd l ihl=>
  intro fs hf r h;simp only[kB]at hf;split at hf
  . rename_i l' hl';split at hf
    . rename_i hname;cases hf;simp only[Op.eqFields];rw[if_neg (by simpa using hname)];exact ihl _ hl' r h
    . rename_i hname;split at hf
      . rename_i k ag e hs he;cases hf;simp only[goEq]at h;split at h
        . rename_i a b ha hb;obtain⟨a',ha1,ha2⟩:=jB hs hx ha;obtain⟨b',hb1,hb2⟩:=jB hs hy hb;simp only[Op.eqFields];rw[if_pos (by simpa using hname)];simp only[Sem.run_bind,ha1,hb1,Result.andThen_ok];split at h
          . rename_i hr;rw[ih true fd.type e he a b a' b' true ha2 hb2 hr n hn];simp only[Result.andThen_ok,Bool.not_true,Bool.false_eq_true,if_false];exact ihl _ hl' r h
          . rename_i hr;cases h;rw[ih true fd.type e he a b a' b' false ha2 hb2 hr n hn];simp
          . cases h
        . cases h
      . cases hf
  . cases hf
theorem zB {f d:Nat}(ih:∀(g:Bool) (T:TypeId) (t:ed),eu P d g T=some t->∀(x y:AV) (x' y':Value) (r:Bool),V ρ w x x'->V ρ w y y'->cd f t x y=some r ->
 ∀n,f<=n->(Op.equalIn n T x' y').run P w = .ok r w){n:Nat}(hn:f<=n){xs ys:List AV}{xm ym:List Value}(hx:VL ρ w xs xm)(hy:VL ρ w ys ym)
 {e:TypeId} {k:Nat} {ag:Bool} {q:ed} (hs:shapeOf P e=some (k,ag)) (hc:P.cellsOf e=k) (he:eu P d true e=some q) :
 ∀(m i:Nat) r,goEq (fun t x y=>cd f t x y) (kC k ag q m i) xs ys=some r ->
  (Op.eqItems n e (P.cellsOf e) xm.toArray ym.toArray (List.range' i m)).run P w = .ok r w:=by
 intro m;induction m with
 | zero=>
  intro i r h;simp[kC,goEq]at h;subst h;simp[Op.eqItems]
 | succ m ihm=>
  intro i r h;simp only[kC,goEq]at h;rw[List.range'_succ];split at h
  . rename_i a b ha hb;obtain⟨a',ha1,ha2⟩:=jB hs hx ha;obtain⟨b',hb1,hb2⟩:=jB hs hy hb;simp only[Op.eqItems,hc];simp only[Sem.run_bind,ha1,hb1,Result.andThen_ok];split at h
    . rename_i hr;rw[ih true e q he a b a' b' true ha2 hb2 hr n hn];simp only[Result.andThen_ok,Bool.not_true,Bool.false_eq_true,if_false];have:=ihm (i+1) r h;rw[hc]at this;exact this
    . rename_i hr;cases h;rw[ih true e q he a b a' b' false ha2 hb2 hr n hn];simp
    . cases h
  . cases h
theorem zC:∀(f d:Nat) (g:Bool) (T:TypeId) (t:ed),eu P d g T=some t->∀(x y:AV) (x' y':Value) (r:Bool),V ρ w x x'->V ρ w y y'->cd f t x y=some r ->
 ∀n,f<=n->(Op.equalIn n T x' y').run P w = .ok r w:=by
 intro f;induction f with
 | zero=>intro d g T t _ x y x' y' r _ _ h;simp[cd]at h
 | succ f ih=>
  intro d g T t ht x y x' y' r hx hy h n hn;obtain⟨n,rfl⟩:∃m,n=m+1:=⟨n-1,by omega⟩;cases d with
  | zero=>simp[eu]at ht
  | succ d=>
   simp only[eu]at ht;cases hu:P.underlying T with
   | none=>simp[hu]at ht
   | some u=>
    simp only[hu]at ht;cases u <;> simp only[Option.some.injEq,reduceCtorEq]at ht
    case bool=>
     subst ht;simp only[cd]at h;split at h <;> simp_all
     obtain rfl:=hx.gX;obtain rfl:=hy.gX;simp[Op.equalIn,aR hu,h]
    case int k=>
     subst ht;simp only[cd]at h;split at h <;> simp_all
     obtain rfl:=hx.dT;obtain rfl:=hy.dT;obtain⟨rfl,h⟩:=h;simp[Op.equalIn,aR hu,h]
    case string=>
     subst ht;simp only[cd]at h;split at h <;> simp_all
     obtain rfl:=hx.fP;obtain rfl:=hy.fP;rw[run_equalIn_string w n T _ _ hu];simp[h]
    case pointer e=>subst ht;exact zk hu hx hy (by simpa[cd] using h)
    case slice e=>subst ht;exact zo hu hx hy (by simpa[cd] using h)
    case map k e=>subst ht;exact zy hu hx hy (by simpa[cd] using h)
    case func ps rs vr=>subst ht;exact zz hu hx hy (by simpa[cd] using h)
    case interface ms=>
     subst ht;simp only[cd]at h;generalize hg:(g && !ms.isEmpty)=g' at h;clear hg;split at h
     all_goals first|(rename_i heq;cases heq;done)|(rename_i heq _ _;cases heq;done)|skip
     all_goals first|(simp at h;done)|skip
     all_goals (cases hx;cases hy;first|(split at h;(cases h);(cases h;simp[Op.equalIn,aR hu]))|(cases h;simp[Op.equalIn,aR hu]))
    case struct fs=>
     split at ht
     . cases ht
     . rename_i hst;simp only[Option.map_eq_some_iff]at ht;obtain⟨l,hl,rfl⟩:=ht;simp only[cd]at h;split at h <;> try (simp_all;done)
       rename_i fs' xs ys heq;cases heq;obtain⟨xm,rfl,hxm⟩:=hx.fg;obtain⟨ym,rfl,hym⟩:=hy.fg;have hfo:P.fieldsOf T=fs:=by simp[Program.fieldsOf,hu]
       rw[run_equalIn_struct w n T _ _ (by rw[hfo];exact hu) (by simpa using hst),hfo];exact zA (fun g T t ht x y x' y' r h1 h2 h3 n hn=>ih d g T t ht x y x' y' r h1 h2 h3 n hn) (by omega) hxm hym _ _ hl r h
    case array m e=>
     split at ht
     . rename_i k ag q hs hq;cases ht;simp only[cd]at h;split at h <;> try (simp_all;done)
       rename_i fs' xs ys heq;cases heq;obtain⟨xm,rfl,hxm⟩:=hx.fg;obtain⟨ym,rfl,hym⟩:=hy.fg;obtain⟨i,dd,hi,_,hk,_⟩:=kH hs;have hc:P.cellsOf e=k:=by simp[Program.cellsOf,hi,hk]
       rw[run_equalIn_array w n _ _ hu hi,List.range_eq_range'];exact zB (fun g T t ht x y x' y' r h1 h2 h3 n hn=>ih d g T t ht x y x' y' r h1 h2 h3 n hn) (by omega) hxm hym hs hc hq m 0 r h
     . cases ht
end Go.Ab
