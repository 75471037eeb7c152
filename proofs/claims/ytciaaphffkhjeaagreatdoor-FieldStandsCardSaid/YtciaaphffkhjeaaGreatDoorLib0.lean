/-
  Own work: an abstract machine for the calls of a translated Go program: values by content, a heap of the blocks that the call itself has made, and an evaluator of resolved code. Definitions only.
-/
import GoSem.Step
import Derived.Laws.Sem
import Derived.CallsIn
import Derived.RangeFuncIn
import Derived.OrdersIn
import Derived.Laws.Strings
import Derived.Laws.StructEq
import Derived.ChangeKeysEq
import Derived.Lib.UnsafeStr
import Derived.IntWalk
import Derived.Laws.BytesString
namespace Go.Ab
inductive AV where
 | unk
 | bool (b:Bool)
 | int (k:IntKind) (n:Int)
 | str (s:List UInt8)
 | nilp
 | ptr (b off:Nat)
 | vp (l:List AV)
 | nilsl
 | sl (b off len esz:Nat) (cap:Option Nat)
 | vs (l:List AV) (len:Nat) (cap:Option Nat)
 | nilmap
 | map (b:Nat)
 | fn (f:Fn) (first captured:List AV)
 | nilfn
 | iface (t:TypeId) (v:AV)
 | niliface
 | agg (l:List AV)
 | tup (l:List AV)
 deriving Inhabited
inductive IOpd where
 | p (i:Nat)
 | l (t:Nat)
 | c (v:AV)
 deriving Inhabited
inductive RefK where
 | ptr|slice|map|func
 deriving Inhabited
inductive EqT where
 | bool|int|str|ref (k:RefK)|iface (guard:Bool)
 | strct (fs:List (Nat×Nat×Bool×EqT))
 deriving Inhabited
inductive SlK where
 | str|sl|arr (n:Nat)
 deriving Inhabited
inductive KeyT where
 | int|str
 deriving Inhabited
inductive IOp where
 | mv (x:IOpd)
 | pick (c a b:IOpd)
 | bin (op:BinOp) (x y:IOpd)
 | eq (neg:Bool) (t:EqT) (x y:IOpd)
 | un (op:UnOp) (x:IOpd)
 | convInt (k:IntKind) (x:IOpd)
 | convRune (x:IOpd)
 | convStr (x:IOpd)
 | convBytes (elem:TypeId) (x:IOpd)
 | bytesStr (x:IOpd)
 -- pointers as package unsafe has them: to unsafe.Pointer (none) and back (the type, its cells); one's own address compared; the row of a slice; the string over a row
 | uptr (u:Option (TypeId×Nat)) (x:IOpd)
 | eqp (neg:Bool) (x y:IOpd)
 | sdata (x:IOpd)
 | ustr (e:TypeId) (x n:IOpd)
 | clr (esz:Nat) (z:List AV) (x:IOpd)
 | nilck (x:IOpd)
 | field (off n:Nat) (agg:Bool) (x:IOpd)
 | faddr (off:Nat) (x:IOpd)
 | iaddr (arr:Option Nat) (esz:Nat) (x i:IOpd)
 | index (x i:IOpd)
 | indexArr (len esz:Nat) (agg:Bool) (x i:IOpd)
 | slice (k:SlK) (esz:Nat) (x:IOpd) (lo hi mx:Option IOpd)
 | extract (i:Nat) (x:IOpd)
 | mkiface (t:TypeId) (x:IOpd)
 | tass (t:TypeId) (z:AV) (ok:Bool) (x:IOpd)
 | mkfn (f:Fn) (first captured:List IOpd)
 | build (zero:List AV) (ps:List (Nat×Nat×IOpd))
 | len (k:SlK) (x:IOpd)
 | cap (x:IOpd)
 | mm (max:Bool) (xs:List IOpd)
 -- these look at the heap
 | alloc (elem:TypeId) (zero:List AV)
 | box (elem:TypeId) (n:Nat) (x:IOpd)
 | bslice (elem:TypeId) (len esz:Nat) (zero:List AV) (ps:List (Nat×Nat×IOpd))
 | load (n:Nat) (agg:Bool) (x:IOpd)
 | store (n:Nat) (x y:IOpd)
 | mkmap
 | mkslice (elem:TypeId) (esz bytes:Nat) (zero:List AV) (l c:IOpd)
 | lookup (k:KeyT) (zero:AV) (x i:IOpd) (ok:Bool)
 | mapset (k:KeyT) (m i x:IOpd)
 | range (x:IOpd)
 | next (x:IOpd)
 | append (elem:TypeId) (esz bytes:Nat) (x y:IOpd)
 | copy (esz:Nat) (x y:IOpd)
 | sliceArr (n esz:Nat) (x:IOpd) (lo hi:Option IOpd)
 | maplen (x:IOpd)
 | call (f:IOpd) (args:List IOpd)
 | invoke (x:IOpd) (name:String) (args:List IOpd)
 deriving Inhabited
inductive Dst where
 | no|p (i:Nat)|l (t:Nat)
 deriving Inhabited
structure IOper where
 dst:Dst
 op:IOp
 guard:Option (IOpd×Bool)
 deriving Inhabited
inductive ICode where
 | skip
 | region (ops:List IOper)
 | draw (ops:List (IOper×List Nat))
 | seq (a b:ICode)
 | cond (c:IOpd) (thn els:ICode)
 | block (id:Nat) (body:ICode)
 | loop (body:ICode)
 | exit (id:Nat)
 | ret
 | rangeFunc (inner:Bool) (f:IOpd) (ps:List Dst) (assign body:ICode)
 | bad
 deriving Inhabited
inductive Ex where
 | normal|exit (id:Nat)|ret
 deriving DecidableEq,Inhabited
inductive Blk where
 | cells (l:List AV) (elem:TypeId)
 | map (es:List (AV×AV))
 | iter (s:List UInt8) (pos:Nat)
 | dfr
 | hole
 | loop (st:LoopState) (pend:Option Ex) (pe:List AV) (ps:List Dst) (assign body:ICode)
 deriving Inhabited
abbrev Heap:=List (Option Blk)
inductive IRes where
 | var (x:IOpd)
 | cell (n:Nat) (agg:Bool) (x:IOpd)
 deriving Inhabited
structure IFunc where
 N:Nat
 pers:List Nat
 results:List IRes
 body:ICode
 deriving Inhabited
structure St where
 pe:List AV
 lo:List (Nat×AV)
 hp:Heap
 dfs:List Nat:=[]
 deriving Inhabited
def St.opd (s:St):IOpd→Option AV
 | .p i=>s.pe[i]?
 | .l t=>s.lo.lookup t
 | .c v=>some v
def St.opds (s:St):List IOpd→Option (List AV)
 | []=>some []
 | x::xs=>match s.opd x with
   | some v=>match s.opds xs with
     | some vs=>some (v::vs)
     | none=>none
   | none=>none
def St.oopd (s:St):Option IOpd→Option (Option AV)
 | none=>some none
 | some x=>(s.opd x).map some
def St.put (s:St) (d:Dst) (v:AV):St:=
 match d with
 | .no=>s
 | .p i=>{ s with pe:=s.pe.set i v }
 | .l t=>{ s with lo:=(t,v)::s.lo }
def AV.cells:AV→Option (List AV)
 | .unk=>none
 | .agg l=>some l
 | v=>some [v]
def oneA:AV→Bool
 | .unk | .agg _ | .tup _=>false
 | _=>true
def cut (l:List AV) (off n:Nat):Option (List AV):=
 let r:=(l.drop off).take n
 if r.length=n then some r else none
def partOf (l:List AV) (off n:Nat) (agg:Bool):Option AV:=
 if agg then (cut l off n).map .agg else l[off]?
def overwrite (l:List AV) (off:Nat) (new:List AV):List AV:=
 l.take off++new++l.drop (off+new.length)
def fillA:List AV→List (Nat×Nat×AV)→Option (List AV)
 | cs,[]=>some cs
 | cs,(off,n,v)::rest=>match v.cells with
   | some l=>if l.length=n∧off+n≤cs.length then fillA (overwrite cs off l) rest else none
   | none=>none
def St.parts (s:St):List (Nat×Nat×IOpd)→Option (List (Nat×Nat×AV))
 | []=>some []
 | (o,n,x)::r=>match s.opd x with
   | some v=>match s.parts r with
     | some vs=>some ((o,n,v)::vs)
     | none=>none
   | none=>none
def asI:AV→Option Int
 | .int _ n=>some n
 | _=>none
def Heap.at (h:Heap) (b:Nat):Option Blk:=(h[b]?).join
def readAt (h:Heap):AV→Option (List AV)
 | .ptr b off=>match h.at b with|some (.cells l _)=>some (l.drop off)|_=>none
 | .vp l=>some l
 | _=>none
def sliceCells (h:Heap):AV→Option (List AV×Nat)
 | .nilsl=>some ([],0)
 | .vs l n _=>some (l,n)
 | .sl b off n esz _=>match h.at b with
   | some (.cells l _)=>(cut l off (n*esz)).map (·,n)
   | _=>if n=0 then some ([],0) else none
 | .str s=>some (s.map fun c=>.int .u8 c.toNat,s.length)
 | _=>none
def eqRef:RefK→AV→AV→Option Bool
 | .ptr,.nilp,.nilp=>some true
 | .ptr,.nilp,.ptr _ _=>some false
 | .ptr,.nilp,.vp _=>some false
 | .ptr,.ptr _ _,.nilp=>some false
 | .ptr,.vp _,.nilp=>some false
 | .slice,.nilsl,.nilsl=>some true
 | .slice,.nilsl,.sl _ _ (_+1) _ _=>some false
 | .slice,.sl _ _ (_+1) _ _,.nilsl=>some false
 | .slice,.nilsl,.sl _ _ 0 _ (some _)=>some false
 | .slice,.sl _ _ 0 _ (some _),.nilsl=>some false
 | .slice,.nilsl,.vs (_::_) _ _=>some false
 | .slice,.vs (_::_) _ _,.nilsl=>some false
 | .map,.nilmap,.nilmap=>some true
 | .map,.nilmap,.map _=>some false
 | .map,.map _,.nilmap=>some false
 | .func,.nilfn,.nilfn=>some true
 | .func,.nilfn,.fn _ _ _=>some false
 | .func,.fn _ _ _,.nilfn=>some false
 | _,_,_=>none
def goEq (rec:EqT→AV→AV→Option Bool):List (Nat×Nat×Bool×EqT)→List AV→List AV→Option Bool
 | [],_,_=>some true
 | (off,n,ag,t)::rest,xs,ys=>
  match partOf xs off n ag,partOf ys off n ag with
  | some x,some y=>match rec t x y with
    | some true=>goEq rec rest xs ys
    | some false=>some false
    | none=>none
  | _,_=>none
def eqA:Nat→EqT→AV→AV→Option Bool
 | 0,_,_,_=>none
 | d+1,t,x,y=>
  match t,x,y with
  | .bool,.bool a,.bool b=>some (a == b)
  | .int,.int k a,.int k' b=>if k=k' then some (a == b) else none
  | .str,.str a,.str b=>some (a == b)
  | .ref k,x,y=>eqRef k x y
  | .iface g,.niliface,.niliface=>if g then none else some true
  | .iface _,.niliface,.iface _ _=>some false
  | .iface _,.iface _ _,.niliface=>some false
  | .strct fs,.agg xs,.agg ys=>goEq (fun t x y=>eqA d t x y) fs xs ys
  | _,_,_=>none
def binA (op:BinOp) (x y:AV):Option AV:=
 match x,y with
 | .int k a,.int k' b=>
  match op with
  | .shl=>if b<0 then none else some (.int k (k.wrap (a*2^(min b.toNat k.bits))))
  | .shr=>if b<0 then none else some (.int k (a.fdiv (2^(min b.toNat k.bits))))
  | op=>if k=k' then
      match op with
      | .add=>some (.int k (k.wrap (a+b)))
      | .sub=>some (.int k (k.wrap (a-b)))
      | .mul=>some (.int k (k.wrap (a*b)))
      | .quo=>if b=0 then none else some (.int k (k.wrap (a.tdiv b)))
      | .rem=>if b=0 then none else some (.int k (a.tmod b))
      | .and=>some (.int k (k.wrap (BitVec.ofInt k.bits a &&& BitVec.ofInt k.bits b).toNat))
      | .or=>some (.int k (k.wrap (BitVec.ofInt k.bits a ||| BitVec.ofInt k.bits b).toNat))
      | .xor=>some (.int k (k.wrap (BitVec.ofInt k.bits a ^^^ BitVec.ofInt k.bits b).toNat))
      | .andNot=>some (.int k (k.wrap (BitVec.ofInt k.bits a &&& ~~~ BitVec.ofInt k.bits b).toNat))
      | .eql=>some (.bool (a == b))
      | .neq=>some (.bool (a != b))
      | .lss=>some (.bool (a<b))
      | .leq=>some (.bool (a≤b))
      | .gtr=>some (.bool (a > b))
      | .geq=>some (.bool (a≥b))
      | _=>none
    else none
 | .str a,.str b=>
  match op with
  | .add=>if a.length+b.length<2^62 then some (.str (a++b)) else none
  | .eql=>some (.bool (a == b))
  | .neq=>some (.bool !(a == b))
  | .lss=>some (.bool (Op.bytesLess a b))
  | .leq=>some (.bool (Op.bytesLess a b || a == b))
  | .gtr=>some (.bool !(Op.bytesLess a b || a == b))
  | .geq=>some (.bool !(Op.bytesLess a b))
  | _=>none
 | _,_=>none
def unA (op:UnOp) (x:AV):Option AV:=
 match op,x with
 | .neg,.int k n=>some (.int k (k.wrap (0-n)))
 | .not,.bool b=>some (.bool !b)
 | .xor,.int k n=>some (.int k (k.wrap (BitVec.ofInt k.bits (if k.signed then -1 else k.max) ^^^ BitVec.ofInt k.bits n).toNat))
 | _,_=>none
def convA (k:IntKind) (x:AV):Option AV:=
 match x with
 | .int _ n=>some (.int k (k.wrap n))
 | _=>none
def faddrA (off:Nat) (x:AV):Option AV:=
 match x with
 | .ptr b o=>some (.ptr b (o+off))
 | .vp l=>some (.vp (l.drop off))
 | _=>none
def iaddrA (arr:Option Nat) (esz:Nat) (x i:AV):Option AV:=
 match i with
 | .int _ n=>
  match arr,x with
  | some len,.ptr b o=>if 0≤n∧n<len then some (.ptr b (o+n.toNat*esz)) else none
  | some len,.vp l=>if 0≤n∧n<len then some (.vp (l.drop (n.toNat*esz))) else none
  | none,.sl b o len e _=>if 0≤n∧n<len∧e=esz then some (.ptr b (o+n.toNat*esz)) else none
  | none,.vs l len _=>if 0≤n∧n<len then some (.vp (l.drop (n.toNat*esz))) else none
  | _,_=>none
 | _=>none
def indexA (x i:AV):Option AV:=
 match x,i with
 | .str s,.int _ n=>if 0≤n then (s[n.toNat]?).map fun c=>.int .u8 c.toNat else none
 | _,_=>none
def boundA (x:Option AV) (dflt most:Nat):Option Nat:=
 match x with
 | none=>some dflt
 | some (.int _ n)=>if 0≤n∧n≤most then some n.toNat else none
 | some _=>none
def sliceA (k:SlK) (esz:Nat) (x:AV) (lo hi mx:Option AV):Option AV:=
 match k,x,mx with
 | .str,.str s,none=>
  match boundA hi s.length s.length with
  | some h=>match boundA lo 0 h with
    | some l=>some (.str ((s.drop l).take (h-l)))
    | none=>none
  | none=>none
 | .sl,.nilsl,none=>
  match boundA hi 0 0,boundA lo 0 0 with
  | some _,some _=>some .nilsl
  | _,_=>none
 | .sl,.nilsl,some m=>
  match boundA (some m) 0 0,boundA hi 0 0,boundA lo 0 0 with
  | some _,some _,some _=>some .nilsl
  | _,_,_=>none
 | .sl,.sl b o len e cap,none=>
  if e=esz then
   match boundA hi len (cap.getD len) with
   | some h=>match boundA lo 0 h with
     | some l=>
      if l<h then some (.sl b (o+l*esz) (h-l) esz (cap.map (· - l)))
      else some (.vs [] 0 (cap.map (· - l)))
     | none=>none
   | none=>none
  else none
 | .sl,.sl b o len e cap,some m=>
  if e=esz then
   match boundA (some m) len (cap.getD len) with
   | some m=>match boundA hi len m with
     | some h=>match boundA lo 0 h with
       | some l=>
        if l<h then some (.sl b (o+l*esz) (h-l) esz (some (m-l)))
        else some (.vs [] 0 (some (m-l)))
       | none=>none
     | none=>none
   | none=>none
  else none
 | .sl,.vs c len cap,none=>
  match boundA hi len len with
  | some h=>match boundA lo 0 h with
    | some l=>some (.vs ((c.drop (l*esz)).take ((h-l)*esz)) (h-l) (cap.map (· - l)))
    | none=>none
  | none=>none
 | .sl,.vs c len _,some m=>
  match boundA (some m) len len with
  | some m=>match boundA hi len m with
    | some h=>match boundA lo 0 h with
      | some l=>some (.vs ((c.drop (l*esz)).take ((h-l)*esz)) (h-l) (some (m-l)))
      | none=>none
    | none=>none
  | none=>none
 | _,_,_=>none
def lenA (k:SlK) (x:AV):Option AV:=
 match k,x with
 | .str,.str s=>some (.int .i64 s.length)
 | .sl,.nilsl=>some (.int .i64 0)
 | .sl,.sl _ _ n _ _=>some (.int .i64 n)
 | .sl,.vs _ n _=>some (.int .i64 n)
 | _,_=>none
def mmA (max:Bool):AV→List AV→Option AV
 | x,[]=>some x
 | .int k a,.int k' b::rest=>
  if k=k' then mmA max (.int k (if max then (if b > a then b else a) else (if b<a then b else a))) rest else none
 | _,_=>none
def nilckA (x:AV):Option AV:=
 match x with
 | .ptr _ _ | .vp _=>some x
 | .fn (.func _) _ _=>some x
 | .fn (.yield _) _ _=>some x
 | _=>none
def pureA (s:St) (io:IOp):Option AV:=
 match io with
 | .mv x=>s.opd x
 | .pick c a b=>match s.opd c,s.opd a,s.opd b with
   | some (.bool t),some a,some b=>some (if t then a else b)
   | some (.bool t),some a,none=>if t then some a else none
   | some (.bool t),none,some b=>if t then none else some b
   | _,_,_=>none
 | .bin op x y=>match s.opd x,s.opd y with
   | some a,some b=>binA op a b
   | _,_=>none
 | .eq neg t x y=>match s.opd x,s.opd y with
   | some a,some b=>match eqA 100 t a b with
     | some r=>some (.bool (if neg then !r else r))
     | none=>none
   | _,_=>none
 | .un op x=>(s.opd x).bind (unA op)
 | .convInt k x=>(s.opd x).bind (convA k)
 | .convRune x=>match s.opd x with
   | some (.int _ n)=>some (.str (Utf8.encode n).data.toList)
   | _=>none
 | .convStr x=>match s.opd x with
   | some (.str t)=>some (.str t)
   | _=>none
 | .nilck x=>(s.opd x).bind nilckA
 | .field off n ag x=>match s.opd x with
   | some (.agg l)=>partOf l off n ag
   | _=>none
 | .faddr off x=>(s.opd x).bind (faddrA off)
 | .iaddr arr esz x i=>match s.opd x,s.opd i with
   | some a,some b=>iaddrA arr esz a b
   | _,_=>none
 | .index x i=>match s.opd x,s.opd i with
   | some a,some b=>indexA a b
   | _,_=>none
 | .indexArr len esz ag x i=>match s.opd x,s.opd i with
   | some (.agg l),some (.int _ n)=>if 0≤n∧n<len then partOf l (n.toNat*esz) esz ag else none
   | _,_=>none
 | .slice k esz x lo hi mx=>match s.opd x with
   | some a=>
    match s.oopd lo,s.oopd hi,s.oopd mx with
    | some l,some h,some m=>if m.isNone || h.isSome then sliceA k esz a l h m else none
    | _,_,_=>none
   | none=>none
 | .extract i x=>match s.opd x with
   | some (.tup l)=>l[i]?
   | _=>none
 | .mkiface t x=>(s.opd x).map (.iface t)
 | .tass t z ok x=>match s.opd x with
   | some (.iface u v)=>if u=t then some (if ok then .tup [v,.bool true] else v) else if ok then some (.tup [z,.bool false]) else none
   | some .niliface=>if ok then some (.tup [z,.bool false]) else none
   | _=>none
 | .mkfn f fi ca=>match s.opds fi,s.opds ca with
   | some a,some b=>some (.fn f a b)
   | _,_=>none
 | .build zero ps=>match s.parts ps with
   | some vs=>(fillA zero vs).map .agg
   | none=>none
 | .len k x=>match k with
   | .arr n=>some (.int .i64 n)
   | k=>(s.opd x).bind (lenA k)
 | .cap x=>match s.opd x with
   | some .nilsl=>some (.int .i64 0)
   | some (.sl _ _ _ _ (some c))=>some (.int .i64 c)
   | some (.vs _ _ (some c))=>some (.int .i64 c)
   | _=>none
 | .mm mx xs=>match s.opds xs with
   | some (.int k a::rest)=>mmA mx (.int k a) rest
   | _=>none
 | .sdata x=>match s.opd x with
   | some .nilsl=>some .nilp
   | some (.sl b o (_+1) _ _)=>some (.ptr b o)
   | _=>none
 | _=>none
def IOp.heapy:IOp→Bool
 | .alloc .. | .box .. | .bslice .. | .load .. | .store .. | .mkmap | .mkslice .. | .lookup .. | .mapset .. | .range .. | .next .. | .append .. | .copy .. | .sliceArr .. | .maplen .. | .call .. | .invoke .. | .bytesStr .. | .convBytes .. | .uptr .. | .eqp .. | .ustr .. | .clr .. => true
 | _=>false
def usesP:List (Nat×Nat×IOpd)→List IOpd
 | []=>[]
 | (_,_,x)::r=>x::usesP r
def IOp.uses:IOp→List IOpd
 | .mv x | .un _ x | .convInt _ x | .convRune x | .convStr x | .convBytes _ x | .bytesStr x | .nilck x | .field _ _ _ x | .faddr _ x | .extract _ x | .mkiface _ x
 | .len _ x | .cap x | .box _ _ x | .load _ _ x | .range x | .next x | .maplen x | .uptr _ x | .sdata x | .tass _ _ _ x | .clr _ _ x=>[x]
 | .pick c a b=>[c,a,b]
 | .bin _ x y | .eq _ _ x y | .iaddr _ _ x y | .index x y | .indexArr _ _ _ x y | .store _ x y | .mkslice _ _ _ _ x y | .lookup _ _ x y _ | .append _ _ _ x y | .copy _ x y | .eqp _ x y | .ustr _ x y=>[x,y]
 | .slice _ _ x lo hi mx=>x::(lo.toList++hi.toList++mx.toList)
 | .sliceArr _ _ x lo hi=>x::(lo.toList++hi.toList)
 | .mkfn _ fi ca=>fi++ca
 | .build _ ps | .bslice _ _ _ _ ps=>usesP ps
 | .mm _ xs=>xs
 | .alloc .. | .mkmap=>[]
 | .mapset _ m i x=>[m,i,x]
 | .call f as | .invoke f _ as=>f::as
def IOper.uses (o:IOper):List IOpd:=(match o.guard with|some (x,_)=>[x]|none=>[])++o.op.uses
def sameSlot:Dst→IOpd→Bool
 | .p i,.p j=>i == j
 | .l t,.l u=>t == u
 | _,_=>false
def sameDst:Dst→Dst→Bool
 | .p i,.p j=>i == j
 | .l t,.l u=>t == u
 | _,_=>false
def apartI (a b:IOper):Bool:=(b.uses.all fun x=>!sameSlot a.dst x) && (a.uses.all fun x=>!sameSlot b.dst x) && !sameDst a.dst b.dst
structure HR where
 v:AV
 h:Heap
 wr:List Nat
def undefA:AV:=.tup []
def Heap.put (h:Heap) (b:Nat) (o:Option Blk):Heap:=h.set b o
def keyEq:AV→AV→Option Bool
 | .int k a,.int k' b=>if k=k' then some (a == b) else none
 | .str a,.str b=>some (a == b)
 | _,_=>none
def findA (k:AV):List (AV×AV)→Nat→Option (Option (Nat×AV))
 | [],_=>some none
 | (k',v)::r,i=>match keyEq k k' with
   | some true=>some (some (i,v))
   | some false=>findA k r (i+1)
   | none=>none
def KeyT.ok:KeyT→AV→Bool
 | .int,.int _ _=>true
 | .str,.str _=>true
 | _,_=>false
def repeatZero (zero:List AV):Nat→List AV
 | 0=>[]
 | n+1=>zero++repeatZero zero n
def bytesOf:List AV→Option (List UInt8)
 | []=>some []
 | .int .u8 n::r=>match bytesOf r with
   | some l=>some (UInt8.ofNat n.toNat::l)
   | none=>none
 | _=>none
def roomLimit:Nat:=2^46
def appendA (elem:TypeId) (esz bytes:Nat) (h:Heap) (x y:AV):Option HR:=
 match sliceCells h y with
 | none=>none
 | some (new,n)=>
  if new.length=n*esz∧0<bytes∧new.all oneA=true then
   match x with
   | .nilsl=>
    if n=0 then some ⟨.nilsl,h,[]⟩
    else if n*bytes≤roomLimit then some ⟨.sl h.length 0 n esz none,h++[some (.cells new elem)],[]⟩ else none
   | .vs l len cap=>
    if n=0 then some ⟨x,h,[]⟩ else
    match cap with
    | some c=>if c<len+n∧(len+n)*bytes≤roomLimit∧l.length=len*esz then some ⟨.sl h.length 0 (len+n) esz none,h++[some (.cells (l++new) elem)],[]⟩ else none
    | none=>none
   | .sl b off len e cap=>
    if n=0 then some ⟨x,h,[]⟩ else
    if e=esz∧(len+n)*bytes≤roomLimit then
     match h.at b with
     | some (.cells l el)=>
      match cap with
      | some c=>
       if len+n≤c then
        if off+(len+n)*esz≤l.length then some ⟨.sl b off (len+n) esz cap,h.put b (some (.cells (overwrite l (off+len*esz) new) el)),[b]⟩ else none
       else match cut l off (len*esz) with
        | some old=>some ⟨.sl h.length 0 (len+n) esz none,h++[some (.cells (old++new) elem)],[]⟩
        | none=>none
      | none=>
       if l.length=off+len*esz∧el=elem then
        some ⟨.sl h.length 0 (len+n) esz none,h.put b none++[some (.cells (l.drop off++new) elem)],[b]⟩
       else none
     | _=>none
    else none
   | _=>none
  else none
def heapA (s:St) (io:IOp) (h:Heap):Option HR:=
 match io with
 | .alloc elem zero=>some ⟨.ptr h.length 0,h++[some (.cells zero elem)],[]⟩
 | .box elem n x=>match (s.opd x).bind AV.cells with
   | some l=>if l.length=n then some ⟨.ptr h.length 0,h++[some (.cells l elem)],[]⟩ else none
   | none=>none
 | .bslice elem len esz zero ps=>match s.parts ps with
   | some vs=>match fillA (repeatZero zero len) vs with
     | some l=>if l.length=len*esz then some ⟨.sl h.length 0 len esz (some len),h++[some (.cells l elem)],[]⟩ else none
     | none=>none
   | none=>none
 | .load n ag x=>match (s.opd x).bind (readAt h) with
   | some l=>match partOf l 0 n ag with
     | some v=>some ⟨v,h,[]⟩
     | none=>none
   | none=>none
 | .store n x y=>match s.opd x,(s.opd y).bind AV.cells with
   | some (.ptr b off),some new=>match h.at b with
     | some (.cells l el)=>if new.length=n∧off+n≤l.length∧new.all oneA=true then some ⟨undefA,h.put b (some (.cells (overwrite l off new) el)),[b]⟩ else none
     | _=>none
   | _,_=>none
 | .mkmap=>some ⟨.map h.length,h++[some (.map [])],[]⟩
 | .mkslice elem esz bytes zero l c=>match (s.opd l).bind asI,(s.opd c).bind asI with
   | some a,some b=>
    if 0≤a∧a≤b∧b.toNat*bytes≤roomLimit∧b≤2^46∧zero.length=esz then some ⟨.sl h.length 0 a.toNat esz (some b.toNat),h++[some (.cells (repeatZero zero b.toNat) elem)],[]⟩ else none
   | _,_=>none
 | .lookup kt zero x i ok=>match s.opd x,s.opd i with
   | some m,some k=>
    if kt.ok k then
     let es? : Option (List (AV×AV)):=match m with
      | .nilmap=>some []
      | .map b=>match h.at b with|some (.map es)=>some es|_=>none
      | _=>none
     match es? with
     | some es=>match findA k es 0 with
       | some r=>
        let v:=match r with|some (_,v)=>v|none=>zero
        some ⟨if ok then .tup [v,.bool r.isSome] else v,h,[]⟩
       | none=>none
     | none=>none
    else none
   | _,_=>none
 | .mapset kt m i x=>match s.opd m,s.opd i,s.opd x with
   | some (.map b),some k,some v=>
    if kt.ok k then
     match h.at b with
     | some (.map es)=>match findA k es 0 with
       | some (some (j,_))=>some ⟨undefA,h.put b (some (.map (es.set j (k,v)))),[b]⟩
       | some none=>some ⟨undefA,h.put b (some (.map (es++[(k,v)]))),[b]⟩
       | none=>none
     | _=>none
    else none
   | _,_,_=>none
 | .range x=>match s.opd x with
   | some (.str t)=>some ⟨.ptr h.length 0,h++[some (.iter t 0)],[]⟩
   | _=>none
 | .next x=>match s.opd x with
   | some (.ptr b 0)=>match h.at b with
     | some (.iter t pos)=>
      if pos<t.length then
       let (c,w):=Utf8.decode ⟨t.toArray⟩ pos
       some ⟨.tup [.bool true,.int .i64 pos,.int .i32 c],h.put b (some (.iter t (pos+w))),[b]⟩
      else some ⟨.tup [.bool false],h,[]⟩
     | _=>none
   | _=>none
 | .append elem esz bytes x y=>match s.opd x,s.opd y with
   | some a,some b=>appendA elem esz bytes h a b
   | _,_=>none
 | .clr esz z x=>match s.opd x with
   | some (.sl b off len e _)=>
    if e=esz∧z.all oneA=true∧z.length=esz∧0<len then
     match h.at b with
     | some (.cells l el)=>if off+len*esz≤l.length then some ⟨.tup [],h.put b (some (.cells (overwrite l off (repeatZero z len)) el)),[b]⟩ else none
     | _=>none
    else none
   | some (.vs [] 0 _)=>some ⟨.tup [],h,[]⟩
   | some .nilsl=>some ⟨.tup [],h,[]⟩
   | _=>none
 | .copy esz x y=>match s.opd x,s.opd y with
   | some (.sl b off len e _),some y=>
    match sliceCells h y with
    | some (src,n)=>
     if e=esz∧src.length=n*esz∧src.all oneA=true then
      let m:=min n len
      match h.at b with
      | some (.cells l el)=>if off+m*esz≤l.length then some ⟨.int .i64 m,h.put b (some (.cells (overwrite l off (src.take (m*esz))) el)),[b]⟩ else none
      | _=>none
     else none
    | none=>none
   | some .nilsl,some y=>match sliceCells h y with
     | some (src,n)=>if src.length=n*esz then some ⟨.int .i64 0,h,[]⟩ else none
     | none=>none
   | _,_=>none
 | .sliceArr n esz x lo hi=>match s.opd x,s.oopd lo,s.oopd hi with
   | some (.ptr b o),some lo,some hi=>match h.at b with
     | some (.cells l _)=>
      if o+n*esz≤l.length then
       match boundA hi n n with
       | some hh=>match boundA lo 0 hh with
         | some ll=>some ⟨if ll<n then .sl b (o+ll*esz) (hh-ll) esz (some (n-ll)) else .vs [] 0 (some 0),h,[]⟩
         | none=>none
       | none=>none
      else none
     | _=>none
   | _,_,_=>none
 | .maplen x=>match s.opd x with
   | some (.map b)=>match h.at b with
     | some (.map es)=>some ⟨.int .i64 es.length,h,[]⟩
     | _=>none
   | some .nilmap=>some ⟨.int .i64 0,h,[]⟩
   | _=>none
 | .convBytes elem x=>match s.opd x with
   | some (.str t)=>some ⟨.sl h.length 0 t.length 1 none,h++[some (.cells (t.map fun c=>.int .u8 c.toNat) elem)],[]⟩
   | _=>none
 | .bytesStr x=>match s.opd x with
   | some (.str _)=>none
   | some y=>match sliceCells h y with
     | some (l,n)=>if l.length=n then
         match bytesOf l with
         | some t=>some ⟨.str t,h,[]⟩
         | none=>none
       else none
     | none=>none
   | none=>none
 | .uptr u x=>match s.opd x with
   | some (.ptr b o)=>match h.at b with
     | some (.cells l e)=>
      if o<l.length∧(match u with|none=>true|some (t,n)=>decide (o=0∧e=t∧l.length=n))=true then some ⟨.ptr b o,h,[]⟩ else none
     | _=>none
   | _=>none
 | .eqp neg x y=>match s.opd x,s.opd y with
   | some (.ptr b o),some (.ptr b' o')=>match h.at b with
     | some (.cells _ _)=>if b=b'∧o=o' then some ⟨.bool !neg,h,[]⟩ else none
     | _=>none
   | _,_=>none
 | .ustr e x n=>match s.opd x,s.opd n with
   | some .nilp,some (.int _ k)=>if k=0 then some ⟨.str [],h,[]⟩ else none
   | some (.ptr b o),some (.int _ k)=>
    if 0<k∧k≤2^46 then
     match h.at b with
     | some (.cells l el)=>
      if el=e then
       match cut l o k.toNat with
       | some c=>match bytesOf c with
         | some t=>some ⟨.str t,h.put b none,[b]⟩
         | none=>none
       | none=>none
      else none
     | _=>none
    else none
   | _,_=>none
 | _=>none
abbrev CallF:=AV→List AV→Heap→Option HR
abbrev InvF:=TypeId→String→Option FuncId
def opA (call:CallF) (inv:InvF) (s:St) (io:IOp):Option HR:=
 match io with
 | .call f args=>match s.opd f,s.opds args with
   | some g,some as=>call g as s.hp
   | _,_=>none
 | .invoke x name args=>match s.opd x,s.opds args with
   | some (.iface t v),some as=>match inv t name with
     | some f=>call (.fn (.func f) [] []) (v::as) s.hp
     | none=>none
   | _,_=>none
 | io=>if io.heapy then heapA s io s.hp else (pureA s io).map fun v=>⟨v,s.hp,[]⟩
def wantedA (s:St) (g:Option (IOpd×Bool)):Option Bool:=
 match g with
 | none=>some true
 | some (x,want)=>match s.opd x with
   | some (.bool b)=>some (b == want)
   | some (.tup _)=>some false
   | _=>none
structure StW where
 s:St
 wr:List Nat
def opersA (call:CallF) (inv:InvF):List IOper→StW→Option StW
 | [],s=>some s
 | o::rest,s=>match wantedA s.s o.guard with
   | some true=>match opA call inv s.s o.op with
     | some r=>opersA call inv rest ⟨{ s.s.put o.dst r.v with hp:=r.h },r.wr++s.wr⟩
     | none=>none
   | some false=>opersA call inv rest ⟨s.s.put o.dst undefA,s.wr⟩
   | none=>none
def mask (h:Heap) (U:List Nat):Heap:=U.foldl (fun h b=>h.set b none) h
def keep (T:List Nat):Heap→Nat→Heap
 | [],_=>[]
 | o::r,i=>(if T.contains i then o else none)::keep T r (i+1)
def mergeW (wr:List Nat):Heap→Heap→Nat→Heap
 | o::h,n::h',i=>(if wr.contains i then n else o)::mergeW wr h h' (i+1)
 | [],h',_=>h'
 | h,[],_=>h
def touchA (s:St) (io:IOp):Option (List Nat):=
 let blk (x:IOpd):List Nat:=match s.opd x with
  | some (.ptr b _)=>[b]
  | some (.sl b _ _ _ _)=>[b]
  | some (.map b)=>[b]
  | _=>[]
 match io with
 | .alloc .. | .box .. | .bslice .. | .mkmap | .mkslice .. | .range _ | .convBytes .. => some []
 | .load _ _ x | .next x | .maplen x | .bytesStr x | .store _ x _ | .lookup _ _ x _ _ | .mapset _ x _ _=>some (blk x)
 | .append _ _ _ x y | .copy _ x y | .eqp _ x y=>some (blk x++blk y)
 | .uptr _ x | .ustr _ x _ | .clr _ _ x=>some (blk x)
 | .sliceArr _ _ x _ _=>some (blk x)
 | .call .. | .invoke .. => none
 | _=>some []
structure Done where
 touch:Option (List Nat)
 wr:List Nat
 lo:Nat
 hi:Nat
def Done.own (d:Done):List Nat:=d.wr++List.range' d.lo (d.hi-d.lo)
def disj (a b:List Nat):Bool:=a.all fun x=>!b.contains x
def drawA (call:CallF) (inv:InvF):List (IOper×List Nat)→StW→List Done→Option StW
 | [],s,_=>some s
 | (o,un)::rest,s,ds=>match wantedA s.s o.guard with
   | some true=>
    if o.op.heapy then
     let U:=un.flatMap fun j=>(ds[j]?).elim [] Done.own
     let t:=touchA s.s o.op
     if (match t with|some T=>disj T U|none=>true) then
      let h0:=match t with|some T=>keep T s.s.hp 0|none=>mask s.s.hp U
      match opA call inv { s.s with hp:=h0 } o.op with
      | some r=>
       if (r.wr.all fun b=>(h0.at b).isSome) && (r.wr.isEmpty || un.all (fun j=>match ds[j]? with|some d=>(match d.touch with|some T=>disj r.wr T|none=>false)|none=>false)) then
        drawA call inv rest ⟨{ s.s.put o.dst r.v with hp:=mergeW r.wr s.s.hp r.h 0 },r.wr++s.wr⟩ (ds++[⟨t,r.wr,s.s.hp.length,r.h.length⟩])
       else none
      | none=>none
     else none
    else match pureA s.s o.op with
     | some v=>drawA call inv rest ⟨s.s.put o.dst v,s.wr⟩ (ds++[⟨some [],[],s.s.hp.length,s.s.hp.length⟩])
     | none=>none
   | some false=>drawA call inv rest ⟨s.s.put o.dst undefA,s.wr⟩ (ds++[⟨some [],[],s.s.hp.length,s.s.hp.length⟩])
   | none=>none
mutual
def AV.top:AV→Nat
 | .ptr b _=>b+1
 | .sl b _ _ _ _=>b+1
 | .map b=>b+1
 | .vp l=>topL l
 | .vs l _ _=>topL l
 | .fn f a b=>max (match f with | .yield l=>l+1|_=>0) (max (topL a) (topL b))
 | .iface _ v=>v.top
 | .agg l=>topL l
 | .tup l=>topL l
 | _=>0
def topL:List AV→Nat
 | []=>0
 | v::r=>max v.top (topL r)
end
def Blk.top:Blk→Nat
 | .cells l _=>topL l
 | .map es=>topE es
 | .iter _ _=>0
 | .dfr=>0
 | .hole=>0
 | .loop _ _ pe _ _ _=>topL pe
where
 topE:List (AV×AV)→Nat
  | []=>0
  | (k,v)::r=>max (max k.top v.top) (topE r)
def tight (h:Heap) (n:Nat) (wr:List Nat):Bool:=
 wr.all fun b=>match h.at b with
  | some o=>b≥n || o.top≤n
  | none=>true
def resultsA (s:St):List IRes→Option (List AV)
 | []=>some []
 | r::rest=>
  let v? : Option AV:=match r with
   | .var x=>s.opd x
   | .cell n ag x=>(s.opd x).bind fun p=>(readAt s.hp p).bind fun l=>partOf l 0 n ag
  match v?,resultsA s rest with
  | some v,some vs=>some (v::vs)
  | _,_=>none
def tupA:List AV→AV
 | [v]=>v
 | vs=>.tup vs
def retA (v:AV) (n:Nat) (s:StW):HR:=
 if v.top≤n && tight s.s.hp n s.wr then ⟨v,s.s.hp.take n,s.wr.filter (· < n)⟩
 else ⟨v,s.s.hp,s.wr.filter (· < n)⟩
def takeDfs:List Nat→StW→Option StW
 | [],s=>some s
 | d::r,s=>match s.s.hp.at d with
   | some .dfr=>takeDfs r ⟨{ s.s with hp:=s.s.hp.put d none },d::s.wr⟩
   | _=>none
def putAll (s:St):List Dst→List AV→Option St
 | [],[]=>some s
 | d::ds,v::vs=>putAll (s.put d v) ds vs
 | _,_=>none
def callFT (run:ICode→StW→Option (Ex×StW)) (FT:FuncId→Option IFunc) (f:FuncId) (all:List AV) (h:Heap):Option HR:=
 match FT f with
 | some fi=>
  if fi.N<all.length then none else
  match run fi.body ⟨⟨fi.pers.map (fun t=>(all[t]?).getD undefA),[],h,[]⟩,[]⟩ with
  | some (e,s)=>
   if e = .normal∨e = .ret then
    match takeDfs s.s.dfs s with
    | some s=>match resultsA s.s fi.results with
      | some vs=>some (retA (tupA vs) h.length s)
      | none=>none
    | none=>none
   else none
  | none=>none
 | none=>none
def callWith (run:ICode→StW→Option (Ex×StW)) (ext:FuncId→List AV→Heap→Option HR) (FT:FuncId→Option IFunc):CallF:=fun g as h=>
 match g with
 | .fn (.func f) first cap=>
  match ext f (first++as++cap) h with
  | some r=>some r
  | none=>callFT run FT f (first++as++cap) h
 | .fn (.yield b) [] []=>
  match h.at b with
  | some (.loop .ready none pe ps a bd)=>
   match putAll ⟨pe,[],h,[]⟩ ps as with
   | some s0=>match run a ⟨s0,[]⟩ with
     | some (.normal,s1)=>match s1.s.hp.at b with
       | some (.loop .ready none pe' ps' a' bd')=>
        match run bd ⟨{ s1.s with hp:=s1.s.hp.put b (some (.loop .busy none pe' ps' a' bd')) },b::s1.wr⟩ with
        | some (e,s2)=>match s2.s.hp.at b,s2.s.dfs with
          | some (.loop .busy none pe' ps' a' bd'),[]=>
           let o:Blk:=if e = .normal then .loop .ready none pe' ps' a' bd' else .loop .done (some e) pe' ps' a' bd'
           some (retA (.bool (decide (e = .normal))) h.length ⟨{ s2.s with hp:=s2.s.hp.put b (some o) },b::s2.wr⟩)
          | _,_=>none
        | none=>none
       | _=>none
     | _=>none
   | none=>none
  | _=>none
 | _=>none
def evalC (ext:FuncId→List AV→Heap→Option HR) (inv:InvF) (FT:FuncId→Option IFunc):Nat→ICode→StW→Option (Ex×StW)
 | 0,_,_=>none
 | n+1,c,s=>
  match c with
  | .skip=>some (.normal,s)
  | .seq a b=>match evalC ext inv FT n a s with
    | some (.normal,s')=>evalC ext inv FT n b s'
    | r=>r
  | .cond x a b=>match s.s.opd x with
    | some (.bool t)=>evalC ext inv FT n (if t then a else b) s
    | _=>none
  | .block id c=>match evalC ext inv FT n c s with
    | some (.exit id',s')=>if id'=id then some (.normal,s') else some (.exit id',s')
    | r=>r
  | .loop c=>match evalC ext inv FT n c s with
    | some (.normal,s')=>evalC ext inv FT n (.loop c) s'
    | r=>r
  | .exit id=>some (.exit id,s)
  | .ret=>some (.ret,s)
  | .region ops=>match opersA (callWith (evalC ext inv FT n) ext FT) inv ops ⟨{ s.s with lo:=[] },s.wr⟩ with
    | some s'=>some (.normal,s')
    | none=>none
  | .draw ops=>match drawA (callWith (evalC ext inv FT n) ext FT) inv ops ⟨{ s.s with lo:=[] },s.wr⟩ [] with
    | some s'=>some (.normal,s')
    | none=>none
  | .rangeFunc inner f ps a b=>
   if inner then none else
   match s.s.opd f with
   | some (.fn (.func g) fi ca)=>
    match callFT (evalC ext inv FT n) FT g (fi++[.fn (.yield (s.s.hp.length+1)) [] []]++ca) (s.s.hp++[some .dfr,some (.loop .ready none s.s.pe ps a b)]) with
    | some r=>match r.h.at (s.s.hp.length+1) with
      | some (.loop st pend pe' ps' a' b')=>
       if st = .busy then none else
       some (pend.getD .normal,⟨{ s.s with hp:=r.h.put (s.s.hp.length+1) (some (.loop .exhausted pend pe' ps' a' b')),dfs:=s.s.hp.length::s.s.dfs },(s.s.hp.length+1)::r.wr++s.wr⟩)
      | _=>none
    | none=>none
   | _=>none
  | .bad=>none
end Go.Ab

/-
  Own work: the resolver: an operation of the translated program becomes one of the abstract machine; whatever is not covered gives none.
-/
namespace Go.Ab
def goConst (rec:Value→Option AV):List Value→Option (List AV)
 | []=>some []
 | v::r=>match rec v,goConst rec r with
   | some a,some l=>some (a::l)
   | _,_=>none
def cConst:Nat→Value→Option AV
 | 0,_=>none
 | n+1,v=>
  match v with
  | .bool b=>some (.bool b)
  | .int k m=>some (.int k m)
  | .string s=>some (.str s.data.toList)
  | .pointer none=>some .nilp
  | .slice none 0 0=>some .nilsl
  | .map none=>some .nilmap
  | .nilFunc=>some .nilfn
  | .nilIface=>some .niliface
  | .func (.func f) ⟨[]⟩ ⟨[]⟩=>some (.fn (.func f) [] [])
  | .agg ⟨cs⟩=>(goConst (fun v=>cConst n v) cs).map .agg
  | .tuple ⟨cs⟩=>(goConst (fun v=>cConst n v) cs).map .tup
  | _=>none
def idx (t:Nat):List Nat→Nat→Option Nat
 | [],_=>none
 | u::r,i=>if u=t then some i else idx t r (i+1)
structure Cx where
 P:Program
 gl:Nat→Option AV
 pers:List Nat
 N:Nat
def cOpd (C:Cx):Operand→Option IOpd
 | .tmp t=>match idx t C.pers 0 with
   | some i=>some (.p i)
   | none=>some (.l t)
 | .const v=>(cConst 5 v).map .c
 | .func f=>some (.c (.fn (.func f) [] []))
 | .global g=>(C.gl g).map .c
def cOpds (C:Cx):List Operand→Option (List IOpd)
 | []=>some []
 | x::xs=>match cOpd C x,cOpds C xs with
   | some a,some l=>some (a::l)
   | _,_=>none
def cOpt (C:Cx):Option Operand→Option (Option IOpd)
 | none=>some none
 | some x=>(cOpd C x).map some
def isAggD:TypeDesc→Bool
 | .struct _ | .array _ _=>true
 | _=>false
def shapeOf (P:Program) (t:TypeId):Option (Nat×Bool):=
 match P.info? t,P.underlying t with
 | some i,some d=>some (i.size,isAggD d)
 | _,_=>none
def zeroOf (P:Program) (t:TypeId):Option AV:=
 match P.info? t with
 | some i=>match i.zero with
   | some v=>cConst 5 v
   | none=>none
 | none=>none
def goEqT (P:Program) (rec:TypeId→Option EqT):List Field→Option (List (Nat×Nat×Bool×EqT))
 | []=>some []
 | f::r=>match goEqT P rec r with
   | some l => if f.name == "_" then some l else
     match shapeOf P f.type,rec f.type with
     | some (n,ag),some e=>some ((f.offset,n,ag,e)::l)
     | _,_=>none
   | none=>none
def arrEqT (sz:Nat) (ag:Bool) (q:EqT):Nat→Nat→List (Nat×Nat×Bool×EqT)
 | 0,_=>[]
 | n+1,i=>(i*sz,sz,ag,q)::arrEqT sz ag q n (i+1)
def eqT (P:Program):Nat→Bool→TypeId→Option EqT
 | 0,_,_=>none
 | d+1,g,t=>
  match P.underlying t with
  | some .bool=>some .bool
  | some (.int _)=>some .int
  | some .string=>some .str
  | some (.pointer _)=>some (.ref .ptr)
  | some (.slice _)=>some (.ref .slice)
  | some (.map _ _)=>some (.ref .map)
  | some (.func _ _ _)=>some (.ref .func)
  | some (.interface ms)=>some (.iface (g && !ms.isEmpty))
  | some (.struct fs)=>if P.stoodInHeld t then none else (goEqT P (fun t=>eqT P d true t) fs.toList).map .strct
  | some (.array n e)=>match shapeOf P e,eqT P d true e with
    | some (sz,ag),some q=>some (.strct (arrEqT sz ag q n 0))
    | _,_=>none
  | _=>none
def isConstO:Operand→Bool
 | .const _=>true
 | _=>false
def cParts (C:Cx) (place:Nat→Option (Nat×Nat)):List (Nat×Operand)→Option (List (Nat×Nat×IOpd))
 | []=>some []
 | (i,x)::r=>match place i,cOpd C x,cParts C place r with
   | some (o,n),some a,some l=>some ((o,n,a)::l)
   | _,_,_=>none
def fieldPlaces (P:Program):List Field→Option (List (Nat×Nat))
 | []=>some []
 | f::r=>match P.info? f.type,fieldPlaces P r with
   | some i,some l=>some ((f.offset,i.size)::l)
   | _,_=>none
def elemOfSlice (P:Program) (t:TypeId):Option (TypeId×Nat×Nat):=
 match P.underlying t with
 | some (.slice e)=>match P.info? e with
   | some i=>some (e,i.size,i.bytes)
   | none=>none
 | _=>none
def keyOf (P:Program) (t:TypeId):Option KeyT:=
 match P.underlying t with
 | some (.int _)=>some .int
 | some .string=>some .str
 | _=>none
def isCmp:BinOp→Bool
 | .eql | .neq=>true
 | _=>false
def scalarT (P:Program) (t:TypeId):Bool:=
 match P.underlying t with
 | some (.int _)|some .string=>true
 | _=>false
def zeroFits (P:Program) (e:TypeId) (n:Nat):Bool:=
 match (zeroOf P e).bind AV.cells with
 | some z=>z.length == n
 | none=>false
def guardT (P:Program) (t:TypeId):Bool:=
 match P.underlying t with
 | some (.struct _)|some (.array _ _)=>P.eqGuardType P.depth t
 | _=>false
def isYield:Fn→Bool
 | .yield _=>true
 | _=>false
def exT (P:Program) (e:TypeId):Bool:=
 match P.info? e with
 | some i=>match i.desc with
   | .named n _ => n == "strings.Builder"
   | _=>false
 | none=>false
def ownPtrT (P:Program) (t:TypeId):Bool:=
 match P.underlying t with
 | some (.pointer e)=>exT P e
 | _=>false
def cOp (C:Cx) (o:Oper):Option IOp:=
 let P:=C.P
 let d:=cOpd C
 match o.op with
 | .move x | .assign x=>(d x).map .mv
 | .pick c a b=>match d c,d a,d b with
   | some c,some a,some b=>some (.pick c a b)
   | _,_,_=>none
 | .alloc e=>match zeroOf P e with
   | some z=>z.cells.map (.alloc e)
   | none=>none
 | .box e x=>match shapeOf P e,d x with
   | some (n,_),some x=>some (.box e n x)
   | _,_=>none
 | .build t ps=>match zeroOf P t with
   | some z=>match z.cells,P.underlying t with
     | some zc,some (.struct fs)=>match fieldPlaces P fs.toList with
       | some pl=>(cParts C (pl[·]?) ps.toList).map (.build zc)
       | none=>none
     | some zc,some (.array _ e)=>match P.info? e with
       | some i=>(cParts C (fun j=>some (j*i.size,i.size)) ps.toList).map (.build zc)
       | none=>none
     | _,_=>none
   | none=>none
 | .buildSlice t len ps=>match elemOfSlice P t with
   | some (e,n,_)=>match (zeroOf P e).bind AV.cells,cParts C (fun j=>some (j*n,n)) ps.toList with
     | some z,some l=>if len*n≤2^24∧z.length=n∧0<n then some (.bslice e len n z l) else none
     | _,_=>none
   | none=>none
 | .load t a=>match shapeOf P t,d a with
   | some (n,ag),some a=>some (.load n ag a)
   | _,_=>none
 | .store t a x=>match shapeOf P t,d a,d x with
   | some (n,_),some a,some x=>some (.store n a x)
   | _,_,_=>none
 | .nilCheck x=>(d x).map .nilck
 | .binOp op t x y _=>match d x,d y with
   | some a,some b=>
    if isCmp op && !scalarT P t then
     if ownPtrT P t && !(isConstO x || isConstO y) then some (.eqp (op == .neq) a b) else
     if guardT P t then none else
     (eqT P 20 (!(isConstO x || isConstO y)) t).map fun e=>.eq (op == .neq) e a b
    else some (.bin op a b)
   | _,_=>none
 | .unOp op _ x=>(d x).map (.un op)
 | .convert src dst x=>match P.underlying src,P.underlying dst,d x with
   | some (.int _),some (.int k),some a=>some (.convInt k a)
   | some (.int _),some .string,some a=>some (.convRune a)
   | some .string,some .string,some a=>some (.convStr a)
   | some .string,some (.slice e),some a=>match P.underlying e with
     | some (.int .u8)=>if exT P e then none else some (.convBytes e a)
     | _=>none
   | some (.slice e),some .string,some a=>match P.underlying e with
     | some (.int .u8)=>some (.bytesStr a)
     | _=>none
   | some (.pointer t),some .unsafePointer,some a=>match P.info? t with
     | some i=>if i.size=0 then none else some (.uptr none a)
     | none=>none
   | some .unsafePointer,some (.pointer u),some a=>match P.info? u with
     | some _=>if exT P u && liesAt P P.depth u (P.cellsOf u/P.cellsOf u) 0 u 1 then some (.uptr (some (u,P.cellsOf u)) a) else none
     | none=>none
   | _,_,_=>none
 | .makeInterface t x=>match P.underlying t with
   | some (.interface _)=>none
   | some _=>(d x).map (.mkiface t)
   | none=>none
 | .typeAssert x _ t ok=>match P.underlying t with
   | some (.interface _)=>none
   | some _=>match d x,zeroOf P t with
     | some x,some z=>some (.tass t z ok x)
     | _,_=>none
   | none=>none
 | .makeFunc f fi ca=>if isYield f then none else match cOpds C fi.toList,cOpds C ca.toList with
   | some a,some b=>some (.mkfn f a b)
   | _,_=>none
 | .makeMap _ none=>some .mkmap
 | .makeSlice t l c=>match elemOfSlice P t,d l,d c with
   | some (e,n,by'),some l,some c=>match (zeroOf P e).bind AV.cells with
     | some z=>if z.length=n∧0<n then some (.mkslice e n by' z l c) else none
     | none=>none
   | _,_,_=>none
 | .slice t x lo hi mx=>match P.underlying t,d x,cOpt C lo,cOpt C hi,cOpt C mx with
   | some .string,some x,some l,some h,some none=>some (.slice .str 1 x l h none)
   | some (.slice e),some x,some l,some h,some m=>match P.info? e with
     | some i=>some (.slice .sl i.size x l h m)
     | none=>none
   | some (.array n e),some x,some l,some h,some none=>match P.info? e with
     | some i=>some (.sliceArr n i.size x l h)
     | none=>none
   | _,_,_,_,_=>none
 | .fieldAddr t x f=>match P.underlying t,d x with
   | some (.struct fs),some x=>match fs[f]? with
     | some f=>match P.info? f.type with
       | some i=>if i.size=0 then none else some (.faddr f.offset x)
       | none=>none
     | none=>none
   | _,_=>none
 | .field t x f=>match P.underlying t,d x with
   | some (.struct fs),some x=>match fs[f]? with
     | some f=>match shapeOf P f.type with
       | some (n,ag)=>some (.field f.offset n ag x)
       | none=>none
     | none=>none
   | _,_=>none
 | .indexAddr t x i=>match P.underlying t,d x,d i with
   | some (.array n e),some x,some i=>match P.info? e with
     | some inf=>some (.iaddr (some n) inf.size x i)
     | none=>none
   | some (.slice e),some x,some i=>match P.info? e with
     | some inf=>some (.iaddr none inf.size x i)
     | none=>none
   | _,_,_=>none
 | .index t x i=>match P.underlying t,d x,d i with
   | some .string,some x,some i=>some (.index x i)
   | some (.array n e),some x,some i=>match shapeOf P e with
     | some (sz,ag)=>some (.indexArr n sz ag x i)
     | none=>none
   | _,_,_=>none
 | .lookup t x i ok=>match P.underlying t,d x,d i with
   | some (.map k e),some x,some i=>match keyOf P k,zeroOf P e with
     | some k,some z=>some (.lookup k z x i ok)
     | _,_=>none
   | _,_,_=>none
 | .mapUpdate t m i x | .insert t m i x=>match P.underlying t,d m,d i,d x with
   | some (.map k _),some m,some i,some x=>(keyOf P k).map fun k=>.mapset k m i x
   | _,_,_,_=>none
 | .range t x=>match P.underlying t,d x with
   | some .string,some x=>some (.range x)
   | _,_=>none
 | .next x true=>(d x).map .next
 | .extract x i=>(d x).map (.extract i)
 | .call c=>match c.callee with
   | .value f=>match d f,cOpds C c.args.toList with
     | some f,some as=>some (.call f as)
     | _,_=>none
   | .invoke r name=>match d r,cOpds C c.args.toList with
     | some r,some as=>some (.invoke r name as)
     | _,_=>none
   | .builtin b=>match b,c.argTypes.toList,cOpds C c.args.toList with
     | .len,[t],some [x]=>match P.underlying t with
       | some (.array n _)=>some (.len (.arr n) x)
       | some (.map _ _)=>some (.maplen x)
       | some .string=>some (.len .str x)
       | some (.slice _)=>some (.len .sl x)
       | _=>none
     | .cap,[t],some [x]=>match P.underlying t with
       | some (.slice _)=>some (.cap x)
       | _=>none
     | .append,[t,u],some [x,y]=>match elemOfSlice P t,P.underlying u with
       | some (e,n,by'),some .string=>if n=1∧zeroFits P e n=true∧exT P e=false then some (.append e n by' x y) else none
       | some (e,n,by'),some (.slice _)=>if 0<n∧zeroFits P e n=true∧exT P e=false then some (.append e n by' x y) else none
       | _,_=>none
     | .copy,[t,_],some [x,y]=>match elemOfSlice P t with
       | some (_,n,_)=>if 0<n then some (.copy n x y) else none
       | none=>none
     | .clear,[t],some [x]=>match elemOfSlice P t with
       | some (e,n,_)=>match (zeroOf P e).bind AV.cells with
         | some z=>if z.length=n∧0<n then some (.clr n z x) else none
         | none=>none
       | none=>none
     | .unsafeSliceData,[t],some [x]=>match P.underlying t with
       | some (.slice _)=>some (.sdata x)
       | _=>none
     | .unsafeString,[t,_],some [x,n]=>match P.underlying t with
       | some (.pointer e)=>if P.cellsOf e=1 then some (.ustr e x n) else none
       | _=>none
     | .max,_,some xs=>some (.mm true xs)
     | .min,_,some xs=>some (.mm false xs)
     | _,_,_=>none
 | _=>none
def cDst (C:Cx):Option Tmp→Option Dst
 | none=>some .no
 | some t=>if t<C.N then
     match idx t C.pers 0 with
     | some i=>some (.p i)
     | none=>some (.l t)
   else none
def cGuard (C:Cx) (ops:List Oper):Option (Nat×Bool)→Option (Option (IOpd×Bool))
 | none=>some none
 | some (j,w)=>match ops[j]? with
   | some o=>match o.dst with
     | some t=>(cOpd C (.tmp t)).map fun x=>some (x,w)
     | none=>none
   | none=>none
def cOper (C:Cx) (ops:List Oper) (o:Oper):Option IOper:=
 match cDst C o.dst,cOp C o,cGuard C ops o.guard with
 | some d,some op,some g=>some ⟨d,op,g⟩
 | _,_,_=>none
def cOpers (C:Cx) (ops:List Oper):List Oper→Option (List IOper)
 | []=>some []
 | o::r=>match cOper C ops o,cOpers C ops r with
   | some a,some l=>some (a::l)
   | _,_=>none
def beforeBits (ops:List Oper):List Nat:=
 ops.foldl (fun acc o=>acc++[o.after.toList.foldl (fun s e=>if Region.binds .any e then s ||| 2^e.on ||| acc.getD e.on 0 else s) 0]) []
def unOf (bits i:Nat):List Nat:=(List.range i).filter fun j=>!bits.testBit j
def bitsOk (ops:List Oper) (bits:List Nat):Bool:=
 ops.zipIdx.all fun (o,i)=>
  o.after.toList.all (fun e=>!Region.binds .any e || decide (e.on<i)) &&
  (List.range i).all fun j=>!(bits.getD i 0).testBit j || o.after.toList.any fun e=>Region.binds .any e && (e.on == j || (decide (j<e.on) && (bits.getD e.on 0).testBit j))
def drawOk (l:List IOper) (bits:List Nat):Bool:=
 l.zipIdx.all fun (o,i)=>(unOf (bits.getD i 0) i).all fun j=>match l[j]? with|some oj=>apartI oj o|none=>false
def cRegion (C:Cx) (ops:List Oper) (draw:Bool):Option ICode:=
 match cOpers C ops ops with
 | none=>none
 | some l=>
  if draw then
   let bits:=beforeBits ops
   if bitsOk ops bits && drawOk l bits then some (.draw (l.zipIdx.map fun (o,i)=>(o,unOf (bits.getD i 0) i))) else none
  else some (.region l)
def cDsts (C:Cx):List Tmp→Option (List Dst)
 | []=>some []
 | t::r=>match cDst C (some t),cDsts C r with
   | some d,some l=>some (d::l)
   | _,_=>none
def cCode (C:Cx) (rd:Bool):Code→Option ICode
 | .skip=>some .skip
 | .region _ ops draw=>some ((cRegion C ops.toList draw).getD .bad)
 | .seq a b=>match cCode C rd a,cCode C rd b with
   | some a,some b=>some (.seq a b)
   | _,_=>none
 | .cond c a b=>match cOpd C c,cCode C rd a,cCode C rd b with
   | some c,some a,some b=>some (.cond c a b)
   | _,_,_=>none
 | .block id c=>(cCode C rd c).map (.block id)
 | .loop c=>(cCode C rd c).map .loop
 | .exit id=>some (.exit id)
 | .ret=>some .ret
 | .scope c=>(cCode C rd c).map fun c=>.seq c .skip
 | .label _=>some .skip
 | .rangeFunc f ps a b=>match cOpd C f,cDsts C ps.toList,cCode C true a,cCode C true b with
   | some f,some ps,some a,some b=>some (.rangeFunc rd f ps a b)
   | _,_,_,_=>none
 | _=>some .bad
def cRes (C:Cx):List ResultVar→Option (List IRes)
 | []=>some []
 | .tmp t::r=>match cOpd C (.tmp t),cRes C r with
   | some x,some l=>some (.var x::l)
   | _,_=>none
 | .cell t ty::r=>match cOpd C (.tmp t),shapeOf C.P ty,cRes C r with
   | some x,some (n,ag),some l=>some (.cell n ag x::l)
   | _,_,_=>none
def cFunc (P:Program) (gl:Nat→Option AV) (pers:List Nat) (f:Func):Option IFunc:=
 let C:Cx:=⟨P,gl,pers,f.ntmps⟩
 match f.body with
 | none=>none
 | some c=>
  match cCode C false c,cRes C f.results.toList with
  | some b,some r=>if pers.all (· < f.ntmps) && decide pers.Nodup then some ⟨f.ntmps,pers,r,b⟩ else none
  | _,_=>none
def invP (P:Program) (t:TypeId) (name:String):Option FuncId:=
 match P.info? t,P.underlying t with
 | some i,some u=>match i.methods.toList.find? (·.name == name) with
   | some m=>match m.func,m.path.toList with
     | some (f,ptr),[]=>match u,ptr with
       | .pointer _,true=>some f
       | .pointer _,false=>none
       | _,false=>some f
       | _,true=>none
     | _,_=>none
   | none=>none
 | _,_=>none
end Go.Ab

/-
  Own work: the functions without a body that the abstract machine knows, and the table of functions.
-/
namespace Go.Ab
def m64:Nat:=2^64
def ftab (P:Program) (gl:Nat→Option AV) (pers:List (List Nat)) (f:FuncId):Option IFunc:=
 match P.funcs[f]?,pers[f]? with
 | some fn,some p=>cFunc P gl p fn
 | _,_=>none
end Go.Ab

/-
  Own work: how the abstract state and the machine's state hang together, and what a step may change.
-/
namespace Go.Ab
variable {w w':World} {x:AV} {l:List AV} {y v:Value} {m:List Value} {h h':Heap} {a:Addr} {n:Nat}
inductive BS where
 | fresh|dead|nil|live (c d:Nat)
structure Own where
 at':Nat→BS
 X:Nat→Prop
instance:CoeFun Own (fun _=>Nat→BS):=⟨Own.at'⟩
def Free (ρ:Own) (c:Nat):Prop:=(∀ b d,ρ b≠.live c d)∧¬ ρ.X c
inductive V (ρ:Own) (w:World):AV→Value→Prop
 | unk (v:Value):V ρ w .unk v
 | bool (b:Bool):V ρ w (.bool b) (.bool b)
 | int (k:IntKind) (n:Int):V ρ w (.int k n) (.int k n)
 | str (s:List UInt8):V ρ w (.str s) (.string ⟨s.toArray⟩)
 | nilp:V ρ w .nilp (.pointer none)
 | ptr {b c d:Nat} (o:Nat) (h:ρ b = .live c d):V ρ w (.ptr b o) (.pointer (some ⟨c,o+d,none⟩))
 | ptrD {b:Nat} (o c o':Nat) (h:ρ b = .dead):V ρ w (.ptr b o) (.pointer (some ⟨c,o',none⟩))
 | vp {l:List AV} (c o:Nat) (g:Nat→Value) (hf:l≠[]→Free ρ c) (hc:∀ i:Nat,i<l.length→w.cell? ⟨c,o+i,none⟩=some (g i))
     (hg:∀ (i:Nat) x,l[i]? = some x→V ρ w x (g i)):V ρ w (.vp l) (.pointer (some ⟨c,o,none⟩))
 | nilsl:V ρ w .nilsl (.slice none 0 0)
 | sl {b c d o len esz capC:Nat} {cap:Option Nat} (h:ρ b = .live c d) (hl:len≤capC) (hcap:∀ n,cap=some n→capC=n)
     (hb:∃ cs e fr,w.heap[c]? = some (.cells cs e fr)∧o+d+capC*esz≤cs.size):V ρ w (.sl b o len esz cap) (.slice (some ⟨c,o+d,none⟩) len capC)
 | slN {b esz:Nat} (h:ρ b = .nil):V ρ w (.sl b 0 0 esz none) (.slice none 0 0)
 | slD {b o len esz capC:Nat} {cap:Option Nat} (c o':Nat) (h:ρ b = .dead) (hl:len≤capC) (hcap:∀ n,cap=some n→capC=n):V ρ w (.sl b o len esz cap) (.slice (some ⟨c,o',none⟩) len capC)
 | slND {b esz:Nat} (h:ρ b = .dead):V ρ w (.sl b 0 0 esz none) (.slice none 0 0)
 | slDE {b esz:Nat} (a:Addr) (h:ρ b = .dead):V ρ w (.sl b 0 0 esz (some 0)) (.slice (some a) 0 0)
 | vs {l:List AV} {len capC:Nat} {cap:Option Nat} (c o:Nat) (g:Nat→Value) (hf:l≠[]→Free ρ c) (hl:len≤capC) (hcap:∀ n,cap=some n→capC=n)
     (hc:∀ i:Nat,i<l.length→w.cell? ⟨c,o+i,none⟩=some (g i)) (hg:∀ (i:Nat) x,l[i]? = some x→V ρ w x (g i)):V ρ w (.vs l len cap) (.slice (some ⟨c,o,none⟩) len capC)
 | vsN {cap:Option Nat} (hcap:∀ n,cap=some n→n=0):V ρ w (.vs [] 0 cap) (.slice none 0 0)
 | vsE {cap:Option Nat} (a:Addr) (hcap:∀ n,cap=some n→n=0):V ρ w (.vs [] 0 cap) (.slice (some a) 0 0)
 | nilmap:V ρ w .nilmap (.map none)
 | map {b c:Nat} (h:ρ b = .live c 0):V ρ w (.map b) (.map (some c))
 | mapD {b:Nat} (c:Nat) (h:ρ b = .dead):V ρ w (.map b) (.map (some c))
 | yield {b c d:Nat} (h:ρ b = .live c d):V ρ w (.fn (.yield b) [] []) (.func (.yield c) #[] #[])
 | fn {f:Fn} {fi ca:List AV} {fi' ca':List Value} (hf:∀ l,f≠.yield l) (h1:fi.length=fi'.length) (h2:ca.length=ca'.length)
     (g1:∀ (i:Nat) x y,fi[i]? = some x→fi'[i]? = some y→V ρ w x y) (g2:∀ (i:Nat) x y,ca[i]? = some x→ca'[i]? = some y→V ρ w x y):V ρ w (.fn f fi ca) (.func f fi'.toArray ca'.toArray)
 | fnD {b:Nat} (c:Nat) (h:ρ b = .dead):V ρ w (.fn (.yield b) [] []) (.func (.yield c) #[] #[])
 | nilfn:V ρ w .nilfn .nilFunc
 | iface {t:TypeId} {x:AV} {y:Value} (h:V ρ w x y):V ρ w (.iface t x) (.iface t y)
 | niliface:V ρ w .niliface .nilIface
 | agg {l:List AV} {m:List Value} (h:l.length=m.length) (g:∀ (i:Nat) x y,l[i]? = some x→m[i]? = some y→V ρ w x y):V ρ w (.agg l) (.agg m.toArray)
 | tup {l:List AV} {m:List Value} (h:l.length=m.length) (g:∀ (i:Nat) x y,l[i]? = some x→m[i]? = some y→V ρ w x y):V ρ w (.tup l) (.tuple m.toArray)
def VL (ρ:Own) (w:World) (l:List AV) (m:List Value):Prop:=
 l.length=m.length∧∀ (i:Nat) x y,l[i]? = some x→m[i]? = some y→V ρ w x y
theorem V.str' {ρ:Own} (s:ByteArray):V ρ w (.str s.data.toList) (.string s):=by
 have:=V.str (ρ:=ρ) (w:=w) s.data.toList
 simpa using this
theorem VL.nil {ρ:Own}:VL ρ w [] []:=⟨rfl,by simp⟩
theorem VL.cons {ρ:Own} (h:V ρ w x y) (h':VL ρ w l m):VL ρ w (x::l) (y::m):=by
 refine ⟨by simp [h'.1],fun i a b ha hb=>?_⟩
 cases i with
 | zero=>simp at ha hb;subst ha;subst hb;exact h
 | succ i=>simp at ha hb;exact h'.2 i a b ha hb
theorem VL.head {ρ:Own} (h:VL ρ w (x::l) (y::m)):V ρ w x y:=h.2 0 x y rfl rfl
theorem VL.tail {ρ:Own} (h:VL ρ w (x::l) (y::m)):VL ρ w l m:=
 ⟨by simpa using h.1,fun i a b ha hb=>h.2 (i+1) a b (by simpa using ha) (by simpa using hb)⟩
theorem VL.cons_inv {ρ:Own} (h:VL ρ w (x::l) m):∃ y m',m=y::m'∧V ρ w x y∧VL ρ w l m':=by
 cases m with
 | nil=>exact absurd h.1 (by simp)
 | cons y m'=>exact ⟨y,m',rfl,h.head,h.tail⟩
theorem VL.nil_inv {ρ:Own} (h:VL ρ w [] m):m=[]:=by
 have:=h.1
 cases m <;> simp_all
theorem VL.append {ρ:Own}:∀ {l l':List AV} {m m':List Value},VL ρ w l m→VL ρ w l' m'→VL ρ w (l++l') (m++m')
 | [],_,_,_,h,h'=>by rw [h.nil_inv];exact h'
 | _::_,_,_,_,h,h'=>by
  obtain ⟨y,m1,rfl,hv,hl⟩:=h.cons_inv
  exact .cons hv (hl.append h')
theorem VL.drop {ρ:Own} (h:VL ρ w l m) (n:Nat):VL ρ w (l.drop n) (m.drop n):=
 ⟨by simp [h.1],fun i a b ha hb=>h.2 (n+i) a b (by simpa using ha) (by simpa using hb)⟩
theorem VL.take {ρ:Own} (h:VL ρ w l m) (n:Nat):VL ρ w (l.take n) (m.take n):=
 ⟨by simp [h.1],fun i a b ha hb=>by
  rw [List.getElem?_take] at ha hb
  split at ha
  · rename_i hlt;rw [if_pos hlt] at hb;exact h.2 i a b ha hb
  · cases ha⟩
structure ER (C:Cx) (ρ:Own) (w:World) (pe:List AV) (lo:List (Nat×AV)) (tmps:Array Value):Prop where
 size:tmps.size=C.N
 nodup:C.pers.Nodup
 lt:∀ t∈C.pers,t<C.N
 plen:pe.length=C.pers.length
 pe:∀ (i:Nat) v t,pe[i]? = some v→C.pers[i]? = some t→V ρ w v (tmps.getD t undef)
 lo:∀ t v,lo.lookup t=some v→t<C.N∧t∉C.pers∧V ρ w v (tmps.getD t undef)
def PendR:Option Ex→Option Code→Prop
 | none,none=>True
 | some .ret,some .ret=>True
 | some (.exit i),some (.exit j)=>i=j
 | _,_=>False
def Fits (P:Program) (e:TypeId) (d n s:Nat):Prop:=d+n≤s∧(exT P e=true→d=0∧n=s)
def BR (P:Program) (gl:Nat→Option AV) (ρ:Own) (w:World) (b:Nat):Blk→Prop
 | .cells l e=>(∃ c d cs fr,ρ b = .live c d∧w.heap[c]? = some (.cells cs e fr)∧Fits P e d l.length cs.size∧(∀ i,i<cs.size→w.frozen? ⟨c,i,none⟩=false) ∧
     ∀ (i:Nat) x y,l[i]? = some x→cs[i+d]? = some y→V ρ w x y)∨(ρ b = .nil∧l=[])
 | .map es=>∃ c ms clk,ρ b = .live c 0∧w.heap[c]? = some (.map ms clk)∧es.length=ms.size ∧
     ∀ (i:Nat) kx vx m,es[i]? = some (kx,vx)→ms[i]? = some m→V ρ w kx m.key∧V ρ w vx m.val
 | .iter s pos=>∃ c,ρ b = .live c 0∧w.heap[c]? = some (.stringIter ⟨s.toArray⟩ pos)
 | .dfr=>∃ c,ρ b = .live c 0∧w.heap[c]? = some (.deferred (some []))
 | .hole=>ρ b = .fresh
 | .loop st pend pe ps a bd=>∃ c r pers N,ρ b = .live c 0∧w.heap[c]? = some (.loop r)∧r.state=st∧PendR pend r.pending ∧
     ER ⟨P,gl,pers,N⟩ ρ w pe [] r.tmps∧cDsts ⟨P,gl,pers,N⟩ r.params.toList=some ps∧cCode ⟨P,gl,pers,N⟩ true r.assign=some a∧cCode ⟨P,gl,pers,N⟩ true r.body=some bd
structure Mem (P:Program) (gl:Nat→Option AV) (ρ:Own) (h:Heap) (w:World):Prop where
 blk:∀ b o,h[b]? = some (some o)→BR P gl ρ w b o
 fresh:∀ b,h.length≤b→ρ b = .fresh
 inj:∀ b b' c d d',ρ b = .live c d→ρ b' = .live c d'→b=b'
 bound:∀ b c d,ρ b = .live c d→c<w.heap.size
 xb:∀ c,ρ.X c→c<w.heap.size
 xo:∀ b c d,ρ b = .live c d→¬ ρ.X c
 gl:∀ g v,gl g=some v→V ρ w v (.pointer (some ⟨g,0,none⟩))
structure Ext (h h':Heap) (ρ ρ':Own) (w w':World):Prop where
 os:w'.os=w.os
 tape:w'.tape=w.tape
 output:w'.output=w.output
 size:w.heap.size≤w'.heap.size
 len:h.length≤h'.length
 X:ρ'.X=ρ.X
 unk:∀ b:Nat,h[b]? = some none→h'[b]? = some none
 same:∀ b:Nat,h[b]? = some none→ρ' b=ρ b
 live:∀ b c d,ρ b = .live c d→ρ' b = .live c d∨ρ' b = .dead
 dead:∀ b,ρ b = .dead→ρ' b = .dead
 nil:∀ b,ρ b = .nil→ρ' b = .nil∨ρ' b = .dead
 old:∀ c,c<w.heap.size→(∀ b d,ρ b = .live c d→h[b]? = some none)→w'.heap[c]? = w.heap[c]?
 back:∀ b c d,ρ' b = .live c d→c<w.heap.size→ρ b = .live c d∨∃ b0 d0,ρ b0 = .live c d0∧h[b0]? ≠ some none
 shape:∀ (c:Nat) cs e fr,w.heap[c]? = some (.cells cs e fr)→∃ cs' fr',w'.heap[c]? = some (.cells cs' e fr')∧cs'.size=cs.size
theorem Ext.refl (h:Heap) (ρ:Own) (w:World):Ext h h ρ ρ w w:=
 ⟨rfl,rfl,rfl,Nat.le_refl _,Nat.le_refl _,rfl,fun _ h=>h,fun _ _=>rfl,fun _ _ _ h=>.inl h,fun _ h=>h,fun _ h=>.inl h,fun _ _ _=>rfl,fun _ _ _ h _=>.inl h,
  fun _ cs _ fr h=>⟨cs,fr,h,rfl⟩⟩
theorem Ext.trans {h1 h2:Heap} {ρ ρ1 ρ2:Own} {w1 w2:World} (x:Ext h h1 ρ ρ1 w w1) (y:Ext h1 h2 ρ1 ρ2 w1 w2):Ext h h2 ρ ρ2 w w2 where
 os:=y.os.trans x.os
 tape:=y.tape.trans x.tape
 output:=y.output.trans x.output
 size:=Nat.le_trans x.size y.size
 len:=Nat.le_trans x.len y.len
 X:=y.X.trans x.X
 unk b hb:=y.unk b (x.unk b hb)
 same b hb:=(y.same b (x.unk b hb)).trans (x.same b hb)
 live b c d hb:=by
  rcases x.live b c d hb with h|h
  · exact y.live b c d h
  · exact .inr (y.dead b h)
 dead b hb:=y.dead b (x.dead b hb)
 nil b hb:=by
  rcases x.nil b hb with h|h
  · exact y.nil b h
  · exact .inr (y.dead b h)
 old c hc hb:=by
  rw [y.old c (Nat.lt_of_lt_of_le hc x.size) ?_,x.old c hc hb]
  intro b d h1
  rcases x.back b c d h1 hc with h|⟨b0,d0,h,hn⟩
  · exact x.unk b (hb b d h)
  · exact absurd (hb b0 d0 h) hn
 back b c d h2 hc:=by
  rcases y.back b c d h2 (Nat.lt_of_lt_of_le hc x.size) with h1|⟨b1,d1,h1,hn1⟩
  · exact x.back b c d h1 hc
  · rcases x.back b1 c d1 h1 hc with h0|h0
    · exact .inr ⟨b1,d1,h0,fun hu=>hn1 (x.unk b1 hu)⟩
    · exact .inr h0
 shape c cs e fr h0:=by
  obtain ⟨cs1,fr1,h1,e1⟩:=x.shape c cs e fr h0
  obtain ⟨cs2,fr2,h2,e2⟩:=y.shape c cs1 e fr1 h1
  exact ⟨cs2,fr2,h2,e2.trans e1⟩
theorem heap_of_cell (h:w.cell? a=some v):∃ cs e fr,w.heap[a.block]? = some (.cells cs e fr):=by
 unfold World.cell? at h
 split at h
 · rename_i cs e fr hc;exact ⟨cs,e,fr,hc⟩
 · cases h
theorem lt_of_cell (h:w.cell? a=some v):a.block<w.heap.size:=by
 obtain ⟨cs,e,fr,hc⟩:=heap_of_cell h
 exact (Array.getElem?_eq_some_iff.1 hc).1
theorem cell_congr (h:w'.heap[a.block]? = w.heap[a.block]?):w'.cell? a=w.cell? a:=by
 unfold World.cell?;rw [h]
theorem Ext.free {ρ ρ':Own} (x:Ext h h' ρ ρ' w w') {c:Nat} (hc:c<w.heap.size) (hf:Free ρ c):Free ρ' c:=by
 refine ⟨fun b d hb=>?_,by rw [x.X];exact hf.2⟩
 rcases x.back b c d hb hc with h|⟨b0,d0,h,_⟩
 · exact hf.1 _ _ h
 · exact hf.1 _ _ h
theorem Ext.cell {ρ ρ':Own} (x:Ext h h' ρ ρ' w w') {c o:Nat} {v:Value} (hf:Free ρ c) (hc:w.cell? ⟨c,o,none⟩=some v):w'.cell? ⟨c,o,none⟩=some v:=by
 have hlt:=lt_of_cell hc
 rw [cell_congr (w:=w)]
 · exact hc
 · exact x.old c hlt (fun b d hb=>absurd hb (hf.1 b d))
theorem V.mono {ρ ρ':Own} (x:Ext h h' ρ ρ' w w') {a:AV} {v:Value} (hv:V ρ w a v):V ρ' w' a v:=by
 induction hv with
 | unk v=>exact .unk v
 | bool b=>exact .bool b
 | int k n=>exact .int k n
 | str s=>exact .str s
 | nilp=>exact .nilp
 | ptr o hb=>
               rcases x.live _ _ _ hb with h|h
               · exact .ptr o h
               · exact .ptrD o _ _ h
 | ptrD o c o' hb=>exact .ptrD o c o' (x.dead _ hb)
 | @vp l c o g hf hc _ ih=>
  by_cases hl:l=[]
  · subst hl;exact .vp c o g (fun h=>absurd rfl h) (by simp) (by simp)
  · have h0:=hc 0 (by cases l <;> simp_all)
    exact .vp c o g (fun _=>x.free (lt_of_cell h0) (hf hl)) (fun i hi=>x.cell (hf hl) (hc i hi)) ih
 | nilsl=>exact .nilsl
 | sl hb hl hcap hs=>
  obtain ⟨cs,e,fr,h1,h2⟩:=hs
  obtain ⟨cs',fr',h3,h4⟩:=x.shape _ _ _ _ h1
  rcases x.live _ _ _ hb with h|h
  · exact .sl h hl hcap ⟨cs',e,fr',h3,by omega⟩
  · exact .slD _ _ h hl hcap
 | slN hb=>
             rcases x.nil _ hb with h|h
             · exact .slN h
             · exact .slND h
 | slD c o' hb hl hcap=>exact .slD c o' (x.dead _ hb) hl hcap
 | slND hb=>exact .slND (x.dead _ hb)
 | slDE a hb=>exact .slDE a (x.dead _ hb)
 | @vs l len capC cap c o g hf hl hcap hc _ ih=>
  by_cases hn:l=[]
  · subst hn;exact .vs c o g (fun h=>absurd rfl h) hl hcap (by simp) (by simp)
  · have h0:=hc 0 (by cases l <;> simp_all)
    exact .vs c o g (fun _=>x.free (lt_of_cell h0) (hf hn)) hl hcap (fun i hi=>x.cell (hf hn) (hc i hi)) ih
 | vsN hcap=>exact .vsN hcap
 | vsE a hcap=>exact .vsE a hcap
 | nilmap=>exact .nilmap
 | map hb=>
             rcases x.live _ _ _ hb with h|h
             · exact .map h
             · exact .mapD _ h
 | mapD v hb=>exact .mapD v (x.dead _ hb)
 | yield hb=>
               rcases x.live _ _ _ hb with h|h
               · exact .yield h
               · exact .fnD _ h
 | fn hf h1 h2 _ _ ih1 ih2=>exact .fn hf h1 h2 ih1 ih2
 | fnD v hb=>exact .fnD v (x.dead _ hb)
 | nilfn=>exact .nilfn
 | iface _ ih=>exact .iface ih
 | niliface=>exact .niliface
 | agg h _ ih=>exact .agg h ih
 | tup h _ ih=>exact .tup h ih
theorem VL.mono {ρ ρ':Own} (x:Ext h h' ρ ρ' w w') {l:List AV} {m:List Value} (hv:VL ρ w l m):VL ρ' w' l m:=
 ⟨hv.1,fun i a b ha hb=>(hv.2 i a b ha hb).mono x⟩
theorem ER.mono {C:Cx} {ρ ρ':Own} (x:Ext h h' ρ ρ' w w') {pe:List AV} {lo:List (Nat×AV)} {t:Array Value} (e:ER C ρ w pe lo t):ER C ρ' w' pe lo t:=
 ⟨e.size,e.nodup,e.lt,e.plen,fun i v t h1 h2=>(e.pe i v t h1 h2).mono x,fun t v h1=>let ⟨a,b,c⟩:=e.lo t v h1;⟨a,b,c.mono x⟩⟩
def cutOwn (n:Nat) (ρ:Own):Own:=⟨fun b=>if b<n then ρ b else .fresh,ρ.X⟩
theorem Free.cut {ρ:Own} {c:Nat} (n:Nat) (h:Free ρ c):Free (cutOwn n ρ) c:=by
 refine ⟨fun b d hb=>?_,h.2⟩
 simp only [cutOwn] at hb
 split at hb
 · exact h.1 b d hb
 · cases hb
theorem topL_le (h:topL l≤n):∀ (i:Nat) x,l[i]? = some x→x.top≤n:=by
 induction l with
 | nil=>intro i x hx;simp at hx
 | cons v r ih=>
  simp only [topL] at h
  intro i x hx
  cases i with
  | zero=>simp at hx;subst hx;omega
  | succ i=>simp at hx;exact ih (by omega) i x hx
theorem topL_of (h:∀ (i:Nat) x,l[i]? = some x→x.top≤n):topL l≤n:=by
 induction l with
 | nil=>simp [topL]
 | cons v r ih=>
  simp only [topL]
  have h0:=h 0 v rfl
  have h1:=ih (fun i x hx=>h (i+1) x (by simpa using hx))
  omega
theorem V.transfer {ρ ρ':Own} (hρ:∀ b,b<n→ρ' b=ρ b) (hF:∀ c,Free ρ c→Free ρ' c) {a:AV} {v:Value} (hv:V ρ w a v):a.top≤n→V ρ' w a v:=by
 induction hv with
 | unk v=>exact fun _=>.unk v
 | bool b=>exact fun _=>.bool b
 | int k n=>exact fun _=>.int k n
 | str s=>exact fun _=>.str s
 | nilp=>exact fun _=>.nilp
 | ptr o hb=>exact fun h=>.ptr o (by simp only [AV.top] at h;rw [hρ _ (by omega)];exact hb)
 | ptrD o c o' hb=>exact fun h=>.ptrD o c o' (by simp only [AV.top] at h;rw [hρ _ (by omega)];exact hb)
 | vp c o g hf hc _ ih=>exact fun h=>.vp c o g (fun hl=>hF _ (hf hl)) hc (fun i x hx=>ih i x hx (topL_le (by simpa only [AV.top] using h) i x hx))
 | nilsl=>exact fun _=>.nilsl
 | sl hb hl hcap hs=>exact fun h=>.sl (by simp only [AV.top] at h;rw [hρ _ (by omega)];exact hb) hl hcap hs
 | slN hb=>exact fun h=>.slN (by simp only [AV.top] at h;rw [hρ _ (by omega)];exact hb)
 | slD c o' hb hl hcap=>exact fun h=>.slD c o' (by simp only [AV.top] at h;rw [hρ _ (by omega)];exact hb) hl hcap
 | slND hb=>exact fun h=>.slND (by simp only [AV.top] at h;rw [hρ _ (by omega)];exact hb)
 | slDE a hb=>exact fun h=>.slDE a (by simp only [AV.top] at h;rw [hρ _ (by omega)];exact hb)
 | vs c o g hf hl hcap hc _ ih=>exact fun h=>.vs c o g (fun hn=>hF _ (hf hn)) hl hcap hc (fun i x hx=>ih i x hx (topL_le (by simpa only [AV.top] using h) i x hx))
 | vsN hcap=>exact fun _=>.vsN hcap
 | vsE a hcap=>exact fun _=>.vsE a hcap
 | nilmap=>exact fun _=>.nilmap
 | map hb=>exact fun h=>.map (by simp only [AV.top] at h;rw [hρ _ (by omega)];exact hb)
 | mapD v hb=>exact fun h=>.mapD v (by simp only [AV.top] at h;rw [hρ _ (by omega)];exact hb)
 | yield hb=>exact fun h=>.yield (by simp only [AV.top] at h;rw [hρ _ (by omega)];exact hb)
 | @fn f fi ca _ _ hf h1 h2 _ _ ih1 ih2=>
  intro h
  have hh:topL fi≤n∧topL ca≤n:=by
   cases f <;> simp only [AV.top] at h <;> exact ⟨by omega,by omega⟩
  exact .fn hf h1 h2 (fun i x y a b=>ih1 i x y a b (topL_le hh.1 i x a)) (fun i x y a b=>ih2 i x y a b (topL_le hh.2 i x a))
 | fnD v hb=>exact fun h=>.fnD v (by simp only [AV.top] at h;rw [hρ _ (by omega)];exact hb)
 | nilfn=>exact fun _=>.nilfn
 | iface _ ih=>exact fun h=>.iface (ih (by simpa only [AV.top] using h))
 | niliface=>exact fun _=>.niliface
 | agg hl _ ih=>exact fun h=>.agg hl (fun i x y a b=>ih i x y a b (topL_le (by simpa only [AV.top] using h) i x a))
 | tup hl _ ih=>exact fun h=>.tup hl (fun i x y a b=>ih i x y a b (topL_le (by simpa only [AV.top] using h) i x a))
theorem V.cut {ρ:Own} {a:AV} (hv:V ρ w a v):a.top≤n→V (cutOwn n ρ) w a v:=
 hv.transfer (fun b hb=>by simp only [cutOwn];rw [if_pos hb]) (fun _ h=>h.cut n)
theorem V.top {ρ:Own} (hn:∀ b,n≤b→ρ b = .fresh) {a:AV} {v:Value} (hv:V ρ w a v):a.top≤n:=by
 have key:∀ b,ρ b≠.fresh→b+1≤n:=fun b hb=>by
  rcases Nat.lt_or_ge b n with h|h
  · omega
  · exact absurd (hn b h) hb
 induction hv with
 | ptr o hb=>exact key _ (by rw [hb];simp)
 | ptrD o c o' hb=>exact key _ (by rw [hb];simp)
 | vp c o g hf hc _ ih=>exact topL_of ih
 | sl hb _ _ _=>exact key _ (by rw [hb];simp)
 | slN hb=>exact key _ (by rw [hb];simp)
 | slD c o' hb _ _=>exact key _ (by rw [hb];simp)
 | slND hb=>exact key _ (by rw [hb];simp)
 | slDE a hb=>exact key _ (by rw [hb];simp)
 | vs c o g hf hl hcap hc _ ih=>exact topL_of ih
 | map hb=>exact key _ (by rw [hb];simp)
 | mapD v hb=>exact key _ (by rw [hb];simp)
 | @yield b _ _ hb=>have:=key b (by rw [hb];simp);simp only [AV.top,topL];omega
 | @fn f fi ca fi' ca' hf h1 h2 _ _ ih1 ih2=>
  have a1:topL fi≤n:=topL_of fun i x hx=>by
   have hi:i<fi'.length:=h1 ▸ (List.getElem?_eq_some_iff.1 hx).1
   exact ih1 i x fi'[i] hx (List.getElem?_eq_getElem hi)
  have a2:topL ca≤n:=topL_of fun i x hx=>by
   have hi:i<ca'.length:=h2 ▸ (List.getElem?_eq_some_iff.1 hx).1
   exact ih2 i x ca'[i] hx (List.getElem?_eq_getElem hi)
  cases f <;> simp only [AV.top] <;> first|omega|exact absurd rfl (hf _)
 | @fnD b v hb=>have:=key b (by rw [hb];simp);simp only [AV.top,topL];omega
 | iface _ ih=>exact ih
 | @agg l m hl _ ih=>
  exact topL_of fun i x hx=>by
   have hi:i<m.length:=hl ▸ (List.getElem?_eq_some_iff.1 hx).1
   exact ih i x m[i] hx (List.getElem?_eq_getElem hi)
 | @tup l m hl _ ih=>
  exact topL_of fun i x hx=>by
   have hi:i<m.length:=hl ▸ (List.getElem?_eq_some_iff.1 hx).1
   exact ih i x m[i] hx (List.getElem?_eq_getElem hi)
 | _=>simp [AV.top,topL]
end Go.Ab

/-
  Own work: the memory relation behind a new block, a store, an append in place.
-/
namespace Go.Ab
variable {w w':World} {h:Heap} {ρ:Own} {b c:Nat} {O:Obj}
variable {P:Program} {gl:Nat→Option AV}
theorem frozen_congr {a:Addr} (h:w'.heap[a.block]? = w.heap[a.block]?):w'.frozen? a=w.frozen? a:=by
 unfold World.frozen?;rw [h]
theorem BR.mono {h':Heap} {ρ':Own} (x:Ext h h' ρ ρ' w w') {b:Nat} (hρ:ρ' b=ρ b)
 (hh:∀ c d,ρ b = .live c d→w'.heap[c]? = w.heap[c]?) {o:Blk} (hb:BR P gl ρ w b o):BR P gl ρ' w' b o:=by
 cases o with
 | cells l e=>
  rcases hb with ⟨c,d,cs,fr,h1,h2,h3,h4,h5⟩|⟨h1,h2⟩
  · refine .inl ⟨c,d,cs,fr,hρ.trans h1,(hh c d h1).trans h2,h3,fun i hi=>?_,fun i x' y hx hy=>(h5 i x' y hx hy).mono x⟩
    rw [frozen_congr (w:=w) (hh c d h1)];exact h4 i hi
  · exact .inr ⟨hρ.trans h1,h2⟩
 | map es=>
  obtain ⟨c,ms,clk,h1,h2,h3,h4⟩:=hb
  exact ⟨c,ms,clk,hρ.trans h1,(hh c 0 h1).trans h2,h3,fun i kx vx m hx hm=>let ⟨a,b⟩:=h4 i kx vx m hx hm;⟨a.mono x,b.mono x⟩⟩
 | iter s pos=>obtain ⟨c,h1,h2⟩:=hb;exact ⟨c,hρ.trans h1,(hh c 0 h1).trans h2⟩
 | dfr=>obtain ⟨c,h1,h2⟩:=hb;exact ⟨c,hρ.trans h1,(hh c 0 h1).trans h2⟩
 | hole=>exact hρ.trans hb
 | loop st pend pe ps a bd=>
  obtain ⟨c,r,pers,N,h1,h2,h3,h4,h5,h6⟩:=hb
  exact ⟨c,r,pers,N,hρ.trans h1,(hh c 0 h1).trans h2,h3,h4,h5.mono x,h6⟩
theorem BR.live {o:Blk} (hb:BR P gl ρ w b o):(∃ c d,ρ b = .live c d)∨ρ b = .nil∨ρ b = .fresh:=by
 cases o with
 | cells l e=>
                rcases hb with ⟨c,d,_,_,h1,_⟩|⟨h1,_⟩
                · exact .inl ⟨c,d,h1⟩
                · exact .inr (.inl h1)
 | map es=>obtain ⟨c,_,_,h1,_⟩:=hb;exact .inl ⟨c,0,h1⟩
 | iter s pos=>obtain ⟨c,h1,_⟩:=hb;exact .inl ⟨c,0,h1⟩
 | dfr=>obtain ⟨c,h1,_⟩:=hb;exact .inl ⟨c,0,h1⟩
 | hole=>exact .inr (.inr hb)
 | loop=>obtain ⟨c,_,_,_,h1,_⟩:=hb;exact .inl ⟨c,0,h1⟩
def Own.upd (ρ:Own) (b:Nat) (s:BS):Own:=⟨fun x=>if x=b then s else ρ x,ρ.X⟩
@[simp] theorem Own.upd_X (ρ:Own) (b:Nat) (s:BS):(ρ.upd b s).X=ρ.X:=rfl
@[simp] theorem Own.upd_self (ρ:Own) (b:Nat) (s:BS):ρ.upd b s b=s:=by simp [Own.upd]
theorem Own.upd_ne {x:Nat} {s:BS} (h:x≠b):ρ.upd b s x=ρ x:=by simp [Own.upd,h]
theorem heap_push_lt (hc:c<w.heap.size):(w.heap.push O)[c]? = w.heap[c]? := by
 rw [Array.getElem?_push,if_neg (by omega)]
theorem Ext.alloc (m:Mem P gl ρ h w) (o:Option Blk) (O:Obj) (s:BS) (hs:(∃ d,s = .live w.heap.size d)∨s = .nil∨s = .dead) :
 Ext h (h++[o]) ρ (ρ.upd h.length s) w { w with heap:=w.heap.push O } where
 os:=rfl
 tape:=rfl
 output:=rfl
 size:=by simp
 len:=by simp
 X:=rfl
 unk b hb:=by
  have hlt:=(List.getElem?_eq_some_iff.1 hb).1
  rw [List.getElem?_append_left hlt];exact hb
 same b hb:=by
  have hlt:=(List.getElem?_eq_some_iff.1 hb).1
  exact Own.upd_ne (by omega)
 live b c d hb:=by
  have:b≠h.length:=fun e=>by rw [m.fresh b (by omega)] at hb;cases hb
  exact .inl ((Own.upd_ne this).trans hb)
 dead b hb:=by
  have:b≠h.length:=fun e=>by rw [m.fresh b (by omega)] at hb;cases hb
  exact (Own.upd_ne this).trans hb
 nil b hb:=by
  have:b≠h.length:=fun e=>by rw [m.fresh b (by omega)] at hb;cases hb
  exact .inl ((Own.upd_ne this).trans hb)
 old c hc _:=heap_push_lt hc
 back b c d hb hc:=by
  by_cases e:b=h.length
  · subst e
    rw [Own.upd_self] at hb
    rcases hs with ⟨d',rfl⟩|rfl|rfl
    · cases hb;omega
    · cases hb
    · cases hb
  · rw [Own.upd_ne e] at hb;exact .inl hb
 shape c cs e fr hc:=⟨cs,fr,by rw [heap_push_lt (Array.getElem?_eq_some_iff.1 hc).1];exact hc,rfl⟩
theorem Ext.drew (h:Heap) (ρ:Own) (w:World) (n:Nat):Ext h h ρ ρ w { w with drawn:=n }:=
 ⟨rfl,rfl,rfl,Nat.le_refl _,Nat.le_refl _,rfl,fun _ h=>h,fun _ _=>rfl,fun _ _ _ h=>.inl h,fun _ h=>h,fun _ h=>.inl h,fun _ _ _=>rfl,fun _ _ _ h _=>.inl h,
  fun _ cs _ fr h=>⟨cs,fr,h,rfl⟩⟩
theorem Mem.ext {ρ':Own} {h':Heap} (m:Mem P gl ρ h w) (x:Ext h h' ρ ρ' w w')
 (hb:∀ b o,h'[b]? = some (some o)→BR P gl ρ' w' b o) (hf:∀ b,h'.length≤b→ρ' b = .fresh)
 (hi:∀ b b' c d d',ρ' b = .live c d→ρ' b' = .live c d'→b=b') (hbd:∀ b c d,ρ' b = .live c d→c<w'.heap.size):Mem P gl ρ' h' w':=
 ⟨hb,hf,hi,hbd,fun c hc=>Nat.lt_of_lt_of_le (m.xb c (by rw [← x.X];exact hc)) x.size,fun b c d hl hX=>by
  rw [x.X] at hX
  have hlt:=m.xb c hX
  rcases x.back b c d hl hlt with h1|⟨b0,d0,h1,_⟩
  · exact m.xo _ _ _ h1 hX
  · exact m.xo _ _ _ h1 hX,fun g v hg=>(m.gl g v hg).mono x⟩
theorem Mem.alloc (m:Mem P gl ρ h w) (o:Option Blk) (O:Obj) (s:BS) (hs:(∃ d,s = .live w.heap.size d)∨s = .nil∨s = .dead)
 (ho:∀ o',o=some o'→BR P gl (ρ.upd h.length s) { w with heap:=w.heap.push O } h.length o') :
 Mem P gl (ρ.upd h.length s) (h++[o]) { w with heap:=w.heap.push O }:=by
 have x:=Ext.alloc m o O s hs
 refine m.ext x ?_ ?_ ?_ ?_
 · intro b o' hb
   rcases Nat.lt_trichotomy b h.length with hlt|heq|hgt
   · rw [List.getElem?_append_left hlt] at hb
     refine (m.blk b o' hb).mono x (Own.upd_ne (by omega)) (fun c d hl=>heap_push_lt (m.bound b c d hl))
   · subst heq
     rw [List.getElem?_append_right (Nat.le_refl _)] at hb
     simp at hb
     exact ho o' hb
   · rw [List.getElem?_eq_none (by simp;omega)] at hb;cases hb
 · intro b hb
   simp at hb
   rw [Own.upd_ne (by omega)]
   exact m.fresh b (by omega)
 · intro b b' c d d' h1 h2
   have bd:∀ {x c d},ρ x = .live c d→c<w.heap.size:=fun h=>m.bound _ _ _ h
   by_cases e:b=h.length <;> by_cases e':b'=h.length
   · omega
   · subst e;rw [Own.upd_self] at h1;rw [Own.upd_ne e'] at h2
     rcases hs with ⟨d0,rfl⟩|rfl|rfl
     · cases h1;have:=bd h2;omega
     · cases h1
     · cases h1
   · subst e';rw [Own.upd_self] at h2;rw [Own.upd_ne e] at h1
     rcases hs with ⟨d0,rfl⟩|rfl|rfl
     · cases h2;have:=bd h1;omega
     · cases h2
     · cases h2
   · rw [Own.upd_ne e] at h1;rw [Own.upd_ne e'] at h2;exact m.inj b b' c d d' h1 h2
 · intro b c d hl
   show c<(w.heap.push O).size
   rw [Array.size_push]
   by_cases e:b=h.length
   · subst e;rw [Own.upd_self] at hl
     rcases hs with ⟨d0,rfl⟩|rfl|rfl
     · cases hl;omega
     · cases hl
     · cases hl
   · rw [Own.upd_ne e] at hl;have:=m.bound b c d hl;omega
theorem Mem.drew (m:Mem P gl ρ h w) (n:Nat):Mem P gl ρ h { w with drawn:=n }:=
 m.ext (Ext.drew h ρ w n) (fun b o hb=>(m.blk b o hb).mono (Ext.drew h ρ w n) rfl (fun _ _ _=>rfl)) m.fresh m.inj m.bound
def _root_.Go.World.withBlock (w:World) (c:Nat) (O:Obj):World:={ w with heap:=w.heap.setIfInBounds c O }
theorem withBlock_self (hc:c<w.heap.size):(w.withBlock c O).heap[c]? = some O:=by
 simp [World.withBlock,hc]
theorem withBlock_ne {c':Nat} (hc:c'≠c):(w.withBlock c O).heap[c']? = w.heap[c']? := by
 simp only [World.withBlock];rw [Array.getElem?_setIfInBounds];rw [if_neg (by omega)]
theorem get_set_self {o:Option Blk} (hb:b<h.length):(h.set b o)[b]? = some o:=by
 rw [List.getElem?_set];simp [hb]
theorem get_set_ne {b':Nat} {o:Option Blk} (hb:b'≠b):(h.set b o)[b']? = h[b']? := by
 rw [List.getElem?_set];rw [if_neg (by omega)]
theorem Ext.write (m:Mem P gl ρ h w) {b c d:Nat} {o0:Blk} (h0:h[b]? = some (some o0)) (hρ:ρ b = .live c d) (o:Option Blk) (O:Obj)
 (hO:∀ cs e fr,w.heap[c]? = some (.cells cs e fr)→∃ cs' fr',O = .cells cs' e fr'∧cs'.size=cs.size) :
 Ext h (h.set b o) ρ ρ w (w.withBlock c O) where
 os:=rfl
 tape:=rfl
 output:=rfl
 size:=by simp [World.withBlock]
 len:=by simp
 X:=rfl
 unk b' hb':=by
  have:b'≠b:=fun e=>by subst e;rw [h0] at hb';cases hb'
  rw [get_set_ne this];exact hb'
 same _ _:=rfl
 live _ _ _ h:=.inl h
 dead _ h:=h
 nil _ h:=.inl h
 old c' hc' hu:=by
  have:c'≠c:=fun e=>by subst e;have:=hu b d hρ;rw [h0] at this;cases this
  exact withBlock_ne this
 back _ _ _ h _:=.inl h
 shape c' cs e fr hc':=by
  by_cases e':c'=c
  · subst e'
    obtain ⟨cs',fr',rfl,hs⟩:=hO cs e fr hc'
    exact ⟨cs',fr',withBlock_self (m.bound _ _ _ hρ),hs⟩
  · exact ⟨cs,fr,by rw [withBlock_ne e'];exact hc',rfl⟩
theorem Mem.write (m:Mem P gl ρ h w) {b c d:Nat} {o0:Blk} (h0:h[b]? = some (some o0)) (hρ:ρ b = .live c d) (o:Option Blk) (O:Obj)
 (hO:∀ cs e fr,w.heap[c]? = some (.cells cs e fr)→∃ cs' fr',O = .cells cs' e fr'∧cs'.size=cs.size)
 (ho:∀ o',o=some o'→BR P gl ρ (w.withBlock c O) b o'):Mem P gl ρ (h.set b o) (w.withBlock c O):=by
 have x:=Ext.write m h0 hρ o O hO
 refine m.ext x ?_ ?_ m.inj ?_
 · intro b' o' hb'
   by_cases e:b'=b
   · subst e
     rw [get_set_self (List.getElem?_eq_some_iff.1 h0).1] at hb'
     exact ho o' (Option.some.inj hb')
   · rw [get_set_ne e] at hb'
     exact (m.blk b' o' hb').mono x rfl (fun c' d' hl=>withBlock_ne (fun e'=>e (m.inj b' b c d' d (e' ▸ hl) hρ)))
 · intro b' hb';simp at hb';exact m.fresh b' hb'
 · intro b' c' d' hl;have:=m.bound b' c' d' hl;simpa [World.withBlock] using this
theorem Ext.forget {o0:Blk} (h0:h[b]? = some (some o0)) (hl:∀ c d,ρ b = .live c d→c<w.heap.size) :
 Ext h (h.set b none) ρ (ρ.upd b .dead) w w where
 os:=rfl
 tape:=rfl
 output:=rfl
 size:=Nat.le_refl _
 len:=by simp
 X:=rfl
 unk b' hb':=by
  have:b'≠b:=fun e=>by subst e;rw [h0] at hb';cases hb'
  rw [get_set_ne this];exact hb'
 same b' hb':=by
  have:b'≠b:=fun e=>by subst e;rw [h0] at hb';cases hb'
  exact Own.upd_ne this
 live b' c d hb':=by
  by_cases e:b'=b
  · subst e;exact .inr (Own.upd_self _ _ _)
  · exact .inl ((Own.upd_ne e).trans hb')
 dead b' hb':=by
  by_cases e:b'=b
  · subst e;exact Own.upd_self _ _ _
  · exact (Own.upd_ne e).trans hb'
 nil b' hb':=by
  by_cases e:b'=b
  · subst e;exact .inr (Own.upd_self _ _ _)
  · exact .inl ((Own.upd_ne e).trans hb')
 old _ _ _:=rfl
 back b' c d hb' _:=by
  by_cases e:b'=b
  · subst e;rw [Own.upd_self] at hb';cases hb'
  · rw [Own.upd_ne e] at hb';exact .inl hb'
 shape _ cs _ fr h:=⟨cs,fr,h,rfl⟩
theorem Mem.forget (m:Mem P gl ρ h w) {b:Nat} {o0:Blk} (h0:h[b]? = some (some o0)):Mem P gl (ρ.upd b .dead) (h.set b none) w:=by
 have x:=Ext.forget (w:=w) h0 (fun c d hl=>m.bound b c d hl)
 have hlt:b<h.length:=(List.getElem?_eq_some_iff.1 h0).1
 refine m.ext x ?_ ?_ ?_ ?_
 · intro b' o' hb'
   by_cases e:b'=b
   · subst e;rw [get_set_self hlt] at hb';cases hb'
   · rw [get_set_ne e] at hb'
     exact (m.blk b' o' hb').mono x (Own.upd_ne e) (fun _ _ _=>rfl)
 · intro b' hb';simp at hb';rw [Own.upd_ne (by omega)];exact m.fresh b' hb'
 · intro b1 b2 c d d' h1 h2
   by_cases e1:b1=b
   · subst e1;rw [Own.upd_self] at h1;cases h1
   · by_cases e2:b2=b
     · subst e2;rw [Own.upd_self] at h2;cases h2
     · rw [Own.upd_ne e1] at h1;rw [Own.upd_ne e2] at h2;exact m.inj _ _ _ _ _ h1 h2
 · intro b' c d hl
   by_cases e:b'=b
   · subst e;rw [Own.upd_self] at hl;cases hl
   · rw [Own.upd_ne e] at hl;exact m.bound _ _ _ hl
theorem Ext.move (m:Mem P gl ρ h w) {b c d:Nat} {o0:Blk} (h0:h[b]? = some (some o0)) (hρ:ρ b = .live c d) (o:Option Blk) (d':Nat) :
 Ext h (h.set b none++[o]) ρ ((ρ.upd b .dead).upd h.length (.live c d')) w w:=by
 have hlt:b<h.length:=(List.getElem?_eq_some_iff.1 h0).1
 have x:=Ext.forget (w:=w) h0 (fun c d hl=>m.bound b c d hl)
 have old:∀ b',ρ b'≠.fresh→b'≠h.length:=fun b' hb e=>hb (m.fresh b' (by omega))
 refine ⟨rfl,rfl,rfl,Nat.le_refl _,by simp,rfl,?_,?_,?_,?_,?_,fun _ _ _=>rfl,?_,fun _ cs _ fr h=>⟨cs,fr,h,rfl⟩⟩
 · intro b' hb'
   have hlt':=(List.getElem?_eq_some_iff.1 hb').1
   rw [List.getElem?_append_left (by simpa using hlt')]
   exact x.unk b' hb'
 · intro b' hb'
   have hlt':=(List.getElem?_eq_some_iff.1 hb').1
   rw [Own.upd_ne (by omega)];exact x.same b' hb'
 · intro b' c' d'' hb'
   rw [Own.upd_ne (old b' (by rw [hb'];simp))];exact x.live b' c' d'' hb'
 · intro b' hb'
   rw [Own.upd_ne (old b' (by rw [hb'];simp))];exact x.dead b' hb'
 · intro b' hb'
   rw [Own.upd_ne (old b' (by rw [hb'];simp))];exact x.nil b' hb'
 · intro b' c' d'' hb' hc
   by_cases e:b'=h.length
   · subst e;rw [Own.upd_self] at hb';cases hb'
     exact .inr ⟨b,d,hρ,by rw [h0];simp⟩
   · rw [Own.upd_ne e] at hb';exact x.back b' c' d'' hb' hc
theorem Mem.move (m:Mem P gl ρ h w) {b c d:Nat} {o0:Blk} (h0:h[b]? = some (some o0)) (hρ:ρ b = .live c d) (o:Option Blk) (d':Nat)
 (ho:∀ o',o=some o'→BR P gl ((ρ.upd b .dead).upd h.length (.live c d')) w h.length o'):Mem P gl ((ρ.upd b .dead).upd h.length (.live c d')) (h.set b none++[o]) w:=by
 have hlt:b<h.length:=(List.getElem?_eq_some_iff.1 h0).1
 have x:=Ext.move m h0 hρ o d'
 have m':=m.forget h0
 refine m.ext x ?_ ?_ ?_ ?_
 · intro b' o' hb'
   rcases Nat.lt_trichotomy b' h.length with hl|he|hg
   · rw [List.getElem?_append_left (by simpa using hl)] at hb'
     by_cases e:b'=b
     · subst e;rw [get_set_self hlt] at hb';cases hb'
     · rw [get_set_ne e] at hb'
       exact (m.blk b' o' hb').mono x (by rw [Own.upd_ne (by omega),Own.upd_ne e]) (fun _ _ _=>rfl)
   · subst he
     rw [List.getElem?_append_right (by simp)] at hb'
     simp at hb'
     exact ho o' hb'
   · rw [List.getElem?_eq_none (by simp;omega)] at hb';cases hb'
 · intro b' hb';simp at hb';rw [Own.upd_ne (by omega)];exact m'.fresh b' (by simp;omega)
 · intro b1 b2 c1 d1 d2 h1 h2
   have key:∀ b1 d1,b1≠h.length→(ρ.upd b .dead) b1 = .live c d1→False:=fun b1 d1 e h1=>by
    by_cases e1:b1=b
    · subst e1;rw [Own.upd_self] at h1;cases h1
    · rw [Own.upd_ne e1] at h1;exact e1 (m.inj _ _ _ _ _ h1 hρ)
   by_cases e1:b1=h.length <;> by_cases e2:b2=h.length
   · omega
   · subst e1;rw [Own.upd_self] at h1;cases h1;rw [Own.upd_ne e2] at h2;exact (key _ _ e2 h2).elim
   · subst e2;rw [Own.upd_self] at h2;cases h2;rw [Own.upd_ne e1] at h1;exact (key _ _ e1 h1).elim
   · rw [Own.upd_ne e1] at h1;rw [Own.upd_ne e2] at h2;exact m'.inj _ _ _ _ _ h1 h2
 · intro b' c' d'' hl
   by_cases e:b'=h.length
   · subst e;rw [Own.upd_self] at hl;cases hl;exact m.bound _ _ _ hρ
   · rw [Own.upd_ne e] at hl;exact m'.bound _ _ _ hl
end Go.Ab

/-
  Own work: the operations that do not look at the heap: what the abstract machine reckons is what the model gives.
-/
namespace Go.Ab
variable {v x':Value} {l:List AV} {m:List Value} {t e:TypeId} {n:Nat}
variable {P:Program} {gl:Nat→Option AV} {ρ:Own} {w:World}
theorem V.int_inv {k:IntKind} {n:Int} (h:V ρ w (.int k n) v):v = .int k n:=by cases h;rfl
theorem V.bool_inv {b:Bool} (h:V ρ w (.bool b) v):v = .bool b:=by cases h;rfl
theorem V.str_inv {s:List UInt8} (h:V ρ w (.str s) v):v = .string ⟨s.toArray⟩:=by cases h;rfl
theorem V.agg_inv (h:V ρ w (.agg l) v):∃ m:List Value,v = .agg m.toArray∧VL ρ w l m:=by
 cases h with|agg h g=>exact ⟨_,rfl,h,g⟩
theorem V.tup_inv (h:V ρ w (.tup l) v):∃ m:List Value,v = .tuple m.toArray∧VL ρ w l m:=by
 cases h with|tup h g=>exact ⟨_,rfl,h,g⟩
theorem V.mkAgg (h:VL ρ w l m):V ρ w (.agg l) (.agg m.toArray):=.agg h.1 h.2
theorem V.mkTup (h:VL ρ w l m):V ρ w (.tup l) (.tuple m.toArray):=.tup h.1 h.2
theorem V.undef:V ρ w undefA undef:=V.mkTup VL.nil
theorem VL.get (h:VL ρ w l m) {i:Nat} {x:AV} (hx:l[i]? = some x):∃ y,m[i]? = some y∧V ρ w x y:=by
 have hi:i<m.length:=h.1 ▸ (List.getElem?_eq_some_iff.1 hx).1
 exact ⟨m[i],List.getElem?_eq_getElem hi,h.2 i x _ hx (List.getElem?_eq_getElem hi)⟩
theorem goConst_V {rec:Value→Option AV} (hr:∀ v a,rec v=some a→V ρ w a v):∀ (l:List Value) (r:List AV),goConst rec l=some r→VL ρ w r l
 | [],r,h=>by simp [goConst] at h;subst h;exact .nil
 | v::l,r,h=>by
  simp only [goConst] at h
  split at h
  · rename_i a r' h1 h2
    cases h
    exact .cons (hr v a h1) (goConst_V hr l r' h2)
  · cases h
theorem cConst_V:∀ (n:Nat) (v:Value) (a:AV),cConst n v=some a→V ρ w a v
 | 0,_,_,h=>by simp [cConst] at h
 | n+1,v,a,h=>by
  unfold cConst at h
  split at h
  · cases h;exact .bool _
  · cases h;exact .int _ _
  · cases h;exact V.str' _
  · cases h;exact .nilp
  · cases h;exact .nilsl
  · cases h;exact .nilmap
  · cases h;exact .nilfn
  · cases h;exact .niliface
  · cases h
    exact V.fn (fi':=[]) (ca':=[]) (by simp) rfl rfl (by simp) (by simp)
  · rename_i cs
    simp only [Option.map_eq_some_iff] at h
    obtain ⟨l,h1,rfl⟩:=h
    exact V.mkAgg (goConst_V (fun v a=>cConst_V n v a) cs l h1)
  · rename_i cs
    simp only [Option.map_eq_some_iff] at h
    obtain ⟨l,h1,rfl⟩:=h
    exact V.mkTup (goConst_V (fun v a=>cConst_V n v a) cs l h1)
  · cases h
theorem idx_some {t:Nat}:∀ {l:List Nat} {k i:Nat},idx t l k=some i→∃ j,i=k+j∧l[j]? = some t
 | [],_,_,h=>by simp [idx] at h
 | u::r,k,i,h=>by
  simp only [idx] at h
  split at h
  · rename_i hu;cases h;exact ⟨0,rfl,by simp [hu]⟩
  · obtain ⟨j,h1,h2⟩:=idx_some h
    exact ⟨j+1,by omega,by simpa using h2⟩
theorem idx_some0 {t:Nat} {l:List Nat} {i:Nat} (h:idx t l 0=some i):l[i]? = some t:=by
 obtain ⟨j,rfl,h2⟩:=idx_some h;simpa using h2
theorem idx_none {t:Nat}:∀ {l:List Nat} {k:Nat},idx t l k=none→t∉l
 | [],_,_=>by simp
 | u::r,k,h=>by
  simp only [idx] at h
  split at h
  · cases h
  · rename_i hu;have:=idx_none h;simp;exact ⟨fun e=>hu e.symm,this⟩
structure Rel (C:Cx) (ρ:Own) (s:St) (a:Act) (w:World):Prop where
 er:ER C ρ w s.pe s.lo a.tmps
 mem:Mem C.P C.gl ρ s.hp w
variable {C:Cx} {s:St} {a:Act}
theorem opd_sound (r:ER C ρ w s.pe s.lo a.tmps) (g:∀ n v,C.gl n=some v→V ρ w v (.pointer (some ⟨n,0,none⟩))) {x:Operand} {y:IOpd} (hc:cOpd C x=some y) {v:AV} (hv:s.opd y=some v) :
 V ρ w v (a.eval x):=by
 cases x with
 | tmp t=>
  simp only [cOpd] at hc
  split at hc
  · rename_i i hi
    cases hc
    exact r.pe i v t hv (idx_some0 hi)
  · cases hc
    exact (r.lo t v hv).2.2
 | const c=>
  simp only [cOpd,Option.map_eq_some_iff] at hc
  obtain ⟨u,h1,rfl⟩:=hc
  simp only [St.opd,Option.some.injEq] at hv
  subst hv
  exact cConst_V 5 c _ h1
 | global n=>
  simp only [cOpd,Option.map_eq_some_iff] at hc
  obtain ⟨u,h1,rfl⟩:=hc
  simp only [St.opd,Option.some.injEq] at hv
  subst hv
  exact g n _ h1
 | func f=>
  simp only [cOpd] at hc
  cases hc
  simp only [St.opd] at hv
  cases hv
  exact V.fn (fi':=[]) (ca':=[]) (by simp) rfl rfl (by simp) (by simp)
theorem Rel.opd (r:Rel C ρ s a w) {x:Operand} {y:IOpd} (hc:cOpd C x=some y) {v:AV} (hv:s.opd y=some v):V ρ w v (a.eval x):=
 opd_sound r.er r.mem.gl hc hv
theorem Rel.opds (r:Rel C ρ s a w):∀ {xs:List Operand} {ys:List IOpd},cOpds C xs=some ys→∀ {vs:List AV},s.opds ys=some vs→VL ρ w vs (xs.map a.eval)
 | [],ys,hc,vs,hv=>by
  simp [cOpds] at hc;subst hc;simp [St.opds] at hv;subst hv;exact .nil
 | x::xs,ys,hc,vs,hv=>by
  simp only [cOpds] at hc
  split at hc
  · rename_i y l h1 h2
    cases hc
    simp only [St.opds] at hv
    split at hv
    · rename_i v hv1
      split at hv
      · rename_i vs' hv2
        cases hv
        exact .cons (r.opd h1 hv1) (r.opds h2 hv2)
      · cases hv
    · cases hv
  · cases hc
theorem bin_sound {op:BinOp} {x y v:AV} {y':Value} (hx:V ρ w x x') (hy:V ρ w y y') (h:binA op x y=some v) (t:TypeId) :
 ∃ v',(binOp op t x' y').run P w = .ok v' w∧V ρ w v v':=by
 unfold binA at h
 split at h
 · rename_i k a k' b
   obtain rfl:=hx.int_inv
   obtain rfl:=hy.int_inv
   split at h
   · split at h
     · cases h
     · rename_i hb;cases h;exact ⟨_,by simp [binOp,Op.shift,hb] <;> rfl,.int _ _⟩
   · split at h
     · cases h
     · rename_i hb;cases h;exact ⟨_,by simp [binOp,Op.shift,hb] <;> rfl,.int _ _⟩
   · rename_i op' h1 h2
     split at h
     · rename_i hk
       subst hk
       split at h <;> first
        | (cases h;exact ⟨_,by simp only [binOp];rw [if_neg (by simp)];rfl,.int _ _⟩)
        | (cases h;exact ⟨_,by simp only [binOp];rw [if_neg (by simp)];rfl,.bool _⟩)
        | (split at h;cases h;rename_i hb;cases h;exact ⟨_,by simp [binOp,Op.intDiv,hb] <;> rfl,.int _ _⟩)
        | cases h
     · cases h
 · rename_i a b
   obtain rfl:=hx.str_inv
   obtain rfl:=hy.str_inv
   split at h
   · split at h
     · rename_i hl
       cases h
       refine ⟨.string ⟨(a++b).toArray⟩,?_,.str _⟩
       have hs:¬ (((ByteArray.mk a.toArray).size+(ByteArray.mk b.toArray).size:Nat):Int) > IntKind.i64.max:=by
        have e1:(ByteArray.mk a.toArray).size=a.length:=by simp [ByteArray.size]
        have e2:(ByteArray.mk b.toArray).size=b.length:=by simp [ByteArray.size]
        rw [e1,e2]
        have:IntKind.i64.max=9223372036854775807:=by decide
        omega
       have e:(ByteArray.mk a.toArray)++(ByteArray.mk b.toArray)=⟨(a++b).toArray⟩:=by
        apply ByteArray.ext
        simp
       simp only [binOp,Op.stringOp]
       rw [if_neg hs,e];rfl
     · cases h
   all_goals first
    | (cases h;exact ⟨_,by simp [binOp,Op.stringOp] <;> rfl,.bool _⟩)
    | cases h
 · cases h
theorem un_sound {op:UnOp} {x v:AV} (hx:V ρ w x x') (h:unA op x=some v):∃ v',(Op.unary op x').run P w = .ok v' w∧V ρ w v v':=by
 unfold unA at h
 split at h
 · obtain rfl:=hx.int_inv;cases h;exact ⟨_,by simp [Op.unary,Op.intArith] <;> rfl,.int _ _⟩
 · obtain rfl:=hx.bool_inv;cases h;exact ⟨_,by simp [Op.unary] <;> rfl,.bool _⟩
 · obtain rfl:=hx.int_inv;cases h;exact ⟨_,by simp [Op.unary,Op.intBits] <;> rfl,.int _ _⟩
 · cases h
theorem run_underlying' {d:TypeDesc} (h:P.underlying t=some d):(underlying t).run P w = .ok d w:=by simp [underlying,h]
theorem run_typeInfo' {i:TypeInfo} (h:P.info? t=some i):(typeInfo t).run P w = .ok i w:=by simp [typeInfo,h]
theorem run_sizeOf' {i:TypeInfo} (h:P.info? t=some i):(sizeOf t).run P w = .ok i.size w:=by simp [sizeOf,typeInfo,h]
theorem run_isAgg' {d:TypeDesc} (h:P.underlying t=some d):(isAgg t).run P w = .ok (isAggD d) w:=by
 simp only [isAgg,Sem.run_bind,run_underlying' h,Result.andThen_ok]
 cases d <;> rfl
theorem shapeOf_inv {ag:Bool} (h:shapeOf P t=some (n,ag)):∃ i d,P.info? t=some i∧P.underlying t=some d∧i.size=n∧isAggD d=ag:=by
 unfold shapeOf at h
 split at h
 · rename_i i d h1 h2;cases h;exact ⟨i,d,h1,h2,rfl,rfl⟩
 · cases h
theorem cut_VL (h:VL ρ w l m) {off n:Nat} {r:List AV} (hc:cut l off n=some r):VL ρ w r ((m.drop off).take n)∧r.length=n:=by
 unfold cut at hc
 simp only at hc
 split at hc
 · rename_i hl;cases hc;exact ⟨(h.drop off).take n,hl⟩
 · cases hc
theorem extract_list (m:List Value) (off n:Nat):(m.toArray.extract off (off+n))=((m.drop off).take n).toArray:=by
 rw [List.extract_toArray,List.extract_eq_drop_take']
 simp [List.drop_take]
theorem part_sound {ag:Bool} (hs:shapeOf P t=some (n,ag)) {l:List AV} {m:List Value} (h:VL ρ w l m) {off:Nat} {v:AV} (hv:partOf l off n ag=some v) :
 ∃ v',(part t m.toArray off).run P w = .ok v' w∧V ρ w v v':=by
 obtain ⟨i,d,h1,h2,rfl,rfl⟩:=shapeOf_inv hs
 unfold partOf at hv
 simp only [part,Sem.run_bind,run_isAgg' h2,Result.andThen_ok]
 split at hv
 · rename_i hag
   simp only [Option.map_eq_some_iff] at hv
   obtain ⟨r,hr,rfl⟩:=hv
   obtain ⟨hr1,hr2⟩:=cut_VL h hr
   rw [if_pos hag]
   refine ⟨.agg ((m.drop off).take i.size).toArray,?_,V.mkAgg hr1⟩
   simp only [Sem.run_bind,run_sizeOf' h1,Result.andThen_ok,extract_list]
   rfl
 · rename_i hag
   rw [if_neg hag]
   obtain ⟨y,hy1,hy2⟩:=h.get hv
   refine ⟨y,?_,hy2⟩
   have:m.toArray[off]? = some y:=by simpa using hy1
   rw [this];rfl
theorem extract_sound {i:Nat} {x:List AV} (hx:V ρ w (.tup x) x') {v:AV} (h:x[i]? = some v):∃ v',(Instr.extract x' i).run P w = .ok v' w∧V ρ w v v':=by
 obtain ⟨m,rfl,hl⟩:=hx.tup_inv
 obtain ⟨y,hy1,hy2⟩:=hl.get h
 refine ⟨y,?_,hy2⟩
 have:m.toArray[i]? = some y:=by simpa using hy1
 simp only [Instr.extract,this];rfl
theorem eqRef_ptr (hd:P.underlying t=some (.pointer e)) {x y:AV} {x' y':Value} (hx:V ρ w x x') (hy:V ρ w y y') {r:Bool}
 (h:eqRef .ptr x y=some r):(Op.equalIn (n+1) t x' y').run P w = .ok r w:=by
 unfold eqRef at h
 split at h
 all_goals first|contradiction|skip
 all_goals (cases h;cases hx <;> cases hy <;> simp [Op.equalIn,run_underlying' hd])
theorem eqRef_slice (hd:P.underlying t=some (.slice e)) {x y:AV} {x' y':Value} (hx:V ρ w x x') (hy:V ρ w y y') {r:Bool}
 (h:eqRef .slice x y=some r):(Op.equalIn (n+1) t x' y').run P w = .ok r w:=by
 unfold eqRef at h
 split at h
 all_goals first|contradiction|skip
 all_goals (cases h;cases hx <;> cases hy <;> simp [Op.equalIn,run_underlying' hd])
theorem eqRef_map {k:TypeId} (hd:P.underlying t=some (.map k e)) {x y:AV} {x' y':Value} (hx:V ρ w x x') (hy:V ρ w y y') {r:Bool}
 (h:eqRef .map x y=some r):(Op.equalIn (n+1) t x' y').run P w = .ok r w:=by
 unfold eqRef at h
 split at h
 all_goals first|contradiction|skip
 all_goals (cases h;cases hx <;> cases hy <;> simp [Op.equalIn,run_underlying' hd])
theorem eqRef_func {ps rs:Array TypeId} {vr:Bool} (hd:P.underlying t=some (.func ps rs vr)) {x y:AV} {x' y':Value} (hx:V ρ w x x') (hy:V ρ w y y') {r:Bool}
 (h:eqRef .func x y=some r):(Op.equalIn (n+1) t x' y').run P w = .ok r w:=by
 unfold eqRef at h
 split at h
 all_goals first|contradiction|skip
 all_goals (cases h;cases hx <;> cases hy <;> simp [Op.equalIn,run_underlying' hd])
theorem goEq_sound {f d:Nat} (ih:∀ (g:Bool) (T:TypeId) (t:EqT),eqT P d g T=some t→∀ (x y:AV) (x' y':Value) (r:Bool),V ρ w x x'→V ρ w y y'→eqA f t x y=some r →
 ∀ n,f≤n→(Op.equalIn n T x' y').run P w = .ok r w) {n:Nat} (hn:f≤n) {xs ys:List AV} {xm ym:List Value} (hx:VL ρ w xs xm) (hy:VL ρ w ys ym) :
 ∀ (l:List Field) (fs:List (Nat×Nat×Bool×EqT)),goEqT P (fun t=>eqT P d true t) l=some fs→∀ r,goEq (fun t x y=>eqA f t x y) fs xs ys=some r →
  (Op.eqFields n xm.toArray ym.toArray l).run P w = .ok r w:=by
 intro l
 induction l with
 | nil=>
  intro fs hf r h
  simp [goEqT] at hf;subst hf
  simp [goEq] at h;subst h
  simp [Op.eqFields]
 | cons fd l ihl=>
  intro fs hf r h
  simp only [goEqT] at hf
  split at hf
  · rename_i l' hl'
    split at hf
    · rename_i hname
      cases hf
      simp only [Op.eqFields]
      rw [if_neg (by simpa using hname)]
      exact ihl _ hl' r h
    · rename_i hname
      split at hf
      · rename_i k ag e hs he
        cases hf
        simp only [goEq] at h
        split at h
        · rename_i a b ha hb
          obtain ⟨a',ha1,ha2⟩:=part_sound hs hx ha
          obtain ⟨b',hb1,hb2⟩:=part_sound hs hy hb
          simp only [Op.eqFields]
          rw [if_pos (by simpa using hname)]
          simp only [Sem.run_bind,ha1,hb1,Result.andThen_ok]
          split at h
          · rename_i hr
            rw [ih true fd.type e he a b a' b' true ha2 hb2 hr n hn]
            simp only [Result.andThen_ok,Bool.not_true,Bool.false_eq_true,if_false]
            exact ihl _ hl' r h
          · rename_i hr
            cases h
            rw [ih true fd.type e he a b a' b' false ha2 hb2 hr n hn]
            simp
          · cases h
        · cases h
      · cases hf
  · cases hf
theorem goArr_sound {f d:Nat} (ih:∀ (g:Bool) (T:TypeId) (t:EqT),eqT P d g T=some t→∀ (x y:AV) (x' y':Value) (r:Bool),V ρ w x x'→V ρ w y y'→eqA f t x y=some r →
 ∀ n,f≤n→(Op.equalIn n T x' y').run P w = .ok r w) {n:Nat} (hn:f≤n) {xs ys:List AV} {xm ym:List Value} (hx:VL ρ w xs xm) (hy:VL ρ w ys ym)
 {e:TypeId} {k:Nat} {ag:Bool} {q:EqT} (hs:shapeOf P e=some (k,ag)) (hc:P.cellsOf e=k) (he:eqT P d true e=some q) :
 ∀ (m i:Nat) r,goEq (fun t x y=>eqA f t x y) (arrEqT k ag q m i) xs ys=some r →
  (Op.eqItems n e (P.cellsOf e) xm.toArray ym.toArray (List.range' i m)).run P w = .ok r w:=by
 intro m
 induction m with
 | zero=>
  intro i r h
  simp [arrEqT,goEq] at h;subst h
  simp [Op.eqItems]
 | succ m ihm=>
  intro i r h
  simp only [arrEqT,goEq] at h
  rw [List.range'_succ]
  split at h
  · rename_i a b ha hb
    obtain ⟨a',ha1,ha2⟩:=part_sound hs hx ha
    obtain ⟨b',hb1,hb2⟩:=part_sound hs hy hb
    simp only [Op.eqItems,hc]
    simp only [Sem.run_bind,ha1,hb1,Result.andThen_ok]
    split at h
    · rename_i hr
      rw [ih true e q he a b a' b' true ha2 hb2 hr n hn]
      simp only [Result.andThen_ok,Bool.not_true,Bool.false_eq_true,if_false]
      have:=ihm (i+1) r h
      rw [hc] at this
      exact this
    · rename_i hr
      cases h
      rw [ih true e q he a b a' b' false ha2 hb2 hr n hn]
      simp
    · cases h
  · cases h
theorem eqA_sound:∀ (f d:Nat) (g:Bool) (T:TypeId) (t:EqT),eqT P d g T=some t→∀ (x y:AV) (x' y':Value) (r:Bool),V ρ w x x'→V ρ w y y'→eqA f t x y=some r →
 ∀ n,f≤n→(Op.equalIn n T x' y').run P w = .ok r w:=by
 intro f
 induction f with
 | zero=>intro d g T t _ x y x' y' r _ _ h;simp [eqA] at h
 | succ f ih=>
  intro d g T t ht x y x' y' r hx hy h n hn
  obtain ⟨n,rfl⟩:∃ m,n=m+1:=⟨n-1,by omega⟩
  cases d with
  | zero=>simp [eqT] at ht
  | succ d=>
   simp only [eqT] at ht
   cases hu:P.underlying T with
   | none=>simp [hu] at ht
   | some u=>
    simp only [hu] at ht
    cases u <;> simp only [Option.some.injEq,reduceCtorEq] at ht
    case bool=>
     subst ht
     simp only [eqA] at h
     split at h <;> simp_all
     obtain rfl:=hx.bool_inv
     obtain rfl:=hy.bool_inv
     simp [Op.equalIn,run_underlying' hu,h]
    case int k=>
     subst ht
     simp only [eqA] at h
     split at h <;> simp_all
     obtain rfl:=hx.int_inv
     obtain rfl:=hy.int_inv
     obtain ⟨rfl,h⟩:=h
     simp [Op.equalIn,run_underlying' hu,h]
    case string=>
     subst ht
     simp only [eqA] at h
     split at h <;> simp_all
     obtain rfl:=hx.str_inv
     obtain rfl:=hy.str_inv
     rw [run_equalIn_string w n T _ _ hu]
     simp [h]
    case pointer e=>subst ht;exact eqRef_ptr hu hx hy (by simpa [eqA] using h)
    case slice e=>subst ht;exact eqRef_slice hu hx hy (by simpa [eqA] using h)
    case map k e=>subst ht;exact eqRef_map hu hx hy (by simpa [eqA] using h)
    case func ps rs vr=>subst ht;exact eqRef_func hu hx hy (by simpa [eqA] using h)
    case interface ms=>
     subst ht
     simp only [eqA] at h
     generalize hg:(g && !ms.isEmpty)=g' at h
     clear hg
     split at h
     all_goals first|(rename_i heq;cases heq;done)|(rename_i heq _ _;cases heq;done)|skip
     all_goals first|(simp at h;done)|skip
     all_goals (cases hx;cases hy;first|(split at h;(cases h);(cases h;simp [Op.equalIn,run_underlying' hu]))|(cases h;simp [Op.equalIn,run_underlying' hu]))
    case struct fs=>
     split at ht
     · cases ht
     · rename_i hst
       simp only [Option.map_eq_some_iff] at ht
       obtain ⟨l,hl,rfl⟩:=ht
       simp only [eqA] at h
       split at h <;> try (simp_all;done)
       rename_i fs' xs ys heq
       cases heq
       obtain ⟨xm,rfl,hxm⟩:=hx.agg_inv
       obtain ⟨ym,rfl,hym⟩:=hy.agg_inv
       have hfo:P.fieldsOf T=fs:=by simp [Program.fieldsOf,hu]
       rw [run_equalIn_struct w n T _ _ (by rw [hfo];exact hu) (by simpa using hst),hfo]
       exact goEq_sound (fun g T t ht x y x' y' r h1 h2 h3 n hn=>ih d g T t ht x y x' y' r h1 h2 h3 n hn) (by omega) hxm hym _ _ hl r h
    case array m e=>
     split at ht
     · rename_i k ag q hs hq
       cases ht
       simp only [eqA] at h
       split at h <;> try (simp_all;done)
       rename_i fs' xs ys heq
       cases heq
       obtain ⟨xm,rfl,hxm⟩:=hx.agg_inv
       obtain ⟨ym,rfl,hym⟩:=hy.agg_inv
       obtain ⟨i,dd,hi,_,hk,_⟩:=shapeOf_inv hs
       have hc:P.cellsOf e=k:=by simp [Program.cellsOf,hi,hk]
       rw [run_equalIn_array w n _ _ hu hi,List.range_eq_range']
       exact goArr_sound (fun g T t ht x y x' y' r h1 h2 h3 n hn=>ih d g T t ht x y x' y' r h1 h2 h3 n hn) (by omega) hxm hym hs hc hq m 0 r h
     · cases ht
end Go.Ab

/-
  Own work: the operations that do not look at the heap, continued: addresses, slices, composites; all of them together.
-/
namespace Go.Ab
variable {l o n len esz dflt most r capC:Nat} {f:Field} {i:TypeInfo} {t e:TypeId} {cap:Option Nat} {x:Option AV} {a:Option Addr}
variable {P:Program} {gl:Nat→Option AV} {ρ:Own} {w:World}
theorem conv_sound {src dst:TypeId} {k k':IntKind} (hs:P.underlying src=some (.int k')) (hd:P.underlying dst=some (.int k)) {x v:AV} {x':Value} (hx:V ρ w x x')
 (h:convA k x=some v):∃ v',(convert src dst x').run P w = .ok v' w∧V ρ w v v':=by
 unfold convA at h
 split at h
 · cases h
   obtain rfl:=hx.int_inv
   exact ⟨_,by simp [convert,run_underlying' hs,run_underlying' hd,Conv.intToInt] <;> rfl,.int _ _⟩
 · cases h
theorem nilck_sound {x v:AV} {x':Value} (hx:V ρ w x x') (h:nilckA x=some v) (t:TypeId) (pos:String) (dst:Option Tmp) (af:Array Edge) (g:Option (Nat×Bool)) (e:Operand→Value) (X:Operand) (hX:e X=x') :
 ∃ v',(execOp e ⟨dst,.nilCheck X,t,pos,af,g⟩).run P w = .ok (.value v') w∧V ρ w v v':=by
 unfold nilckA at h
 simp only [execOp,hX]
 split at h <;> cases h
 · cases hx with
   | ptr _ hb=>exact ⟨_,rfl,.ptr _ hb⟩
   | ptrD _ _ _ hb=>exact ⟨_,rfl,.ptrD _ _ _ hb⟩
 · cases hx with
   | vp c o g hf hc hg=>exact ⟨_,rfl,.vp c o g hf hc hg⟩
 · cases hx with
   | fn hf h1 h2 g1 g2=>exact ⟨_,rfl,.fn hf h1 h2 g1 g2⟩
 · cases hx with
   | yield hb=>exact ⟨_,rfl,.yield hb⟩
   | fn hf h1 h2 g1 g2=>exact absurd rfl (hf _)
   | fnD c hb=>exact ⟨_,rfl,.fnD c hb⟩
theorem Addr.add_none (c o n:Nat):(⟨c,o,none⟩:Addr).add n=⟨c,o+n,none⟩:=by
 unfold Addr.add
 split
 · rename_i h;subst h;rfl
 · rfl
theorem vp_drop {l:List AV} {c:Nat} (h:V ρ w (.vp l) (.pointer (some ⟨c,o,none⟩))) (n:Nat):V ρ w (.vp (l.drop n)) (.pointer (some ⟨c,o+n,none⟩)):=by
 cases h with
 | vp c o g hf hc hg=>
  refine .vp c (o+n) (fun i=>g (n+i)) (fun hn=>hf (fun e=>hn (by rw [e];simp))) (fun i hi=>?_) (fun i x hx=>?_)
  · rw [show o+n+i=o+(n+i) from by omega]
    exact hc (n+i) (by simp at hi;omega)
  · exact hg (n+i) x (by simpa using hx)
theorem vp_inv {l:List AV} {v:Value} (h:V ρ w (.vp l) v):∃ c o,v = .pointer (some ⟨c,o,none⟩):=by
 cases h with|vp c o g hf hc hg=>exact ⟨c,o,rfl⟩
theorem fieldPlace_run {a:Addr} (hi:P.info? f.type=some i) (h0:i.size≠0):(fieldPlace a f).run P w = .ok (a.add f.offset) w:=by
 simp [fieldPlace,run_sizeOf' hi,h0]
theorem faddr_sound {fs:Array Field} (hu:P.underlying t=some (.struct fs)) (hf:fs[n]? = some f) (hi:P.info? f.type=some i) (h0:i.size≠0)
 {x v:AV} {x':Value} (hx:V ρ w x x') (h:faddrA f.offset x=some v):∃ v',(Instr.fieldAt t x' n).run P w = .ok v' w∧V ρ w v v':=by
 have key:∀ a,x' = .pointer (some a)→(Instr.fieldAt t x' n).run P w = .ok (.pointer (some (a.add f.offset))) w:=by
  rintro a rfl
  simp [Instr.fieldAt,run_underlying' hu,hf,Instr.sureAddr,fieldPlace_run hi h0]
 unfold faddrA at h
 split at h <;> cases h
 · cases hx with
   | ptr _ hb=>
    refine ⟨_,key _ rfl,?_⟩
    rw [Addr.add_none,Nat.add_right_comm]
    exact .ptr _ hb
   | ptrD _ _ _ hb=>exact ⟨_,key _ rfl,by rw [Addr.add_none];exact .ptrD _ _ _ hb⟩
 · obtain ⟨c,o,rfl⟩:=vp_inv hx
   refine ⟨_,key _ rfl,?_⟩
   rw [Addr.add_none]
   exact vp_drop hx _
theorem run_asIntOf (k:IntKind) (n:Int):(asIntOf (.int k n)).run P w = .ok (k,n) w:=rfl
theorem vs_addr {l:List AV} {v:Value} (h:V ρ w (.vs l len cap) v) (hn:0<len):∃ c o capC,v = .slice (some ⟨c,o,none⟩) len capC∧V ρ w (.vp l) (.pointer (some ⟨c,o,none⟩)):=by
 cases h with
 | vs c o g hf hl hcap hc hg=>exact ⟨c,o,_,rfl,.vp c o g hf hc hg⟩
 | vsN hcap=>omega
 | vsE a hcap=>omega
theorem indexAt_slice (hu:P.underlying t=some (.slice e)) (hi:P.info? e=some i) {k:IntKind} {n:Int} {a:Addr} {len capC:Nat} (h0:0≤n) (h1:n<len) :
 (Instr.indexAt t (.slice (some a) len capC) (.int k n)).run P w = .ok (.pointer (some (a.add (n.toNat*i.size)))) w:=by
 simp [Instr.indexAt,run_asIntOf,run_underlying' hu,run_sizeOf' hi,h0,h1]
theorem indexAt_array (hu:P.underlying t=some (.array len e)) (hi:P.info? e=some i) {k:IntKind} {n:Int} {a:Addr} (h0:0≤n) (h1:n<len) :
 (Instr.indexAt t (.pointer (some a)) (.int k n)).run P w = .ok (.pointer (some (a.add (n.toNat*i.size)))) w:=by
 simp [Instr.indexAt,run_asIntOf,run_underlying' hu,run_sizeOf' hi,h0,h1,Instr.sureAddr]
theorem iaddr_sound {arr:Option Nat} (hu:P.underlying t=some (match arr with|some len=>.array len e|none=>.slice e)) (hi:P.info? e=some i)
 {x y v:AV} {x' y':Value} (hx:V ρ w x x') (hy:V ρ w y y') (h:iaddrA arr i.size x y=some v):∃ v',(Instr.indexAt t x' y').run P w = .ok v' w∧V ρ w v v':=by
 unfold iaddrA at h
 split at h
 · rename_i k n
   obtain rfl:=hy.int_inv
   split at h
   · split at h
     · rename_i hb;cases h
       cases hx with
       | ptr _ hr=>
        refine ⟨_,indexAt_array hu hi hb.1 hb.2,?_⟩
        rw [Addr.add_none,Nat.add_right_comm]
        exact .ptr _ hr
       | ptrD _ _ _ hr=>exact ⟨_,indexAt_array hu hi hb.1 hb.2,by rw [Addr.add_none];exact .ptrD _ _ _ hr⟩
     · cases h
   · split at h
     · rename_i hb;cases h
       obtain ⟨c,o,rfl⟩:=vp_inv hx
       refine ⟨_,indexAt_array hu hi hb.1 hb.2,?_⟩
       rw [Addr.add_none];exact vp_drop hx _
     · cases h
   · split at h
     · rename_i hb;cases h
       obtain ⟨h0,h1,rfl⟩:=hb
       cases hx with
       | sl hr hl hcap hs=>
        refine ⟨_,indexAt_slice hu hi h0 h1,?_⟩
        rw [Addr.add_none,Nat.add_right_comm]
        exact .ptr _ hr
       | slN hr=>simp at h1;omega
       | slD _ _ hr hl hcap=>exact ⟨_,indexAt_slice hu hi h0 h1,by rw [Addr.add_none];exact .ptrD _ _ _ hr⟩
       | slND hr=>simp at h1;omega
       | slDE a hr=>simp at h1;omega
     · cases h
   · split at h
     · rename_i hb;cases h
       obtain ⟨h0,h1⟩:=hb
       obtain ⟨c,o,capC,rfl,hv⟩:=vs_addr hx (by omega)
       refine ⟨_,indexAt_slice hu hi h0 h1,?_⟩
       rw [Addr.add_none];exact vp_drop hv _
     · cases h
   · cases h
 · cases h
theorem index_sound (hu:P.underlying t=some .string) {x y v:AV} {x' y':Value} (hx:V ρ w x x') (hy:V ρ w y y') (h:indexA x y=some v) :
 ∃ v',(Instr.index t x' y').run P w = .ok v' w∧V ρ w v v':=by
 unfold indexA at h
 split at h
 · rename_i s k n
   obtain rfl:=hx.str_inv
   obtain rfl:=hy.int_inv
   split at h
   · rename_i h0
     simp only [Option.map_eq_some_iff] at h
     obtain ⟨c,hc,rfl⟩:=h
     refine ⟨.int .u8 c.toNat,?_,.int _ _⟩
     have e:(ByteArray.mk s.toArray)[n.toNat]? = some c:=by
      have hlt:=(List.getElem?_eq_some_iff.1 hc).1
      have:n.toNat<(ByteArray.mk s.toArray).size:=by simpa [ByteArray.size] using hlt
      rw [getElem?_pos (ByteArray.mk s.toArray) n.toNat this]
      have h2:=(List.getElem?_eq_some_iff.1 hc).2
      congr 1
     simp [Instr.index,run_asIntOf,run_underlying' hu,h0,e]
   · cases h
 · cases h
theorem indexArr_sound {ag:Bool} (hu:P.underlying t=some (.array len e)) (hs:shapeOf P e=some (esz,ag)) {l:List AV} {x':Value} (hx:V ρ w (.agg l) x')
 {k:IntKind} {n:Int} (h0:0≤n) (h1:n<len) {v:AV} (h:partOf l (n.toNat*esz) esz ag=some v):∃ v',(Instr.index t x' (.int k n)).run P w = .ok v' w∧V ρ w v v':=by
 obtain ⟨m,rfl,hm⟩:=hx.agg_inv
 obtain ⟨i,d,hi,hd,rfl,rfl⟩:=shapeOf_inv hs
 obtain ⟨v',h2,h3⟩:=part_sound hs hm h
 refine ⟨v',?_,h3⟩
 simp [Instr.index,run_asIntOf,run_underlying' hu,run_sizeOf' hi,h0,h1,h2]
theorem field_sound {fs:Array Field} {sz:Nat} {ag:Bool} (hu:P.underlying t=some (.struct fs)) (hf:fs[n]? = some f) (hs:shapeOf P f.type=some (sz,ag))
 {l:List AV} {x':Value} (hx:V ρ w (.agg l) x') {v:AV} (h:partOf l f.offset sz ag=some v):∃ v',(Instr.field t x' n).run P w = .ok v' w∧V ρ w v v':=by
 obtain ⟨m,rfl,hm⟩:=hx.agg_inv
 obtain ⟨v',h2,h3⟩:=part_sound hs hm h
 refine ⟨v',?_,h3⟩
 simp [Instr.field,run_underlying' hu,hf,asAgg,h2]
theorem bound_some {a:AV} {b:Value} (hx:V ρ w a b) {dflt most r:Nat} (h:boundA (some a) dflt most=some r) :
 (∀ code,(Instr.sliceBound b most code).run P w = .ok r w)∧r≤most:=by
 unfold boundA at h
 split at h
 · rename_i heq;cases heq
 · rename_i k n heq
   cases heq
   split at h
   · rename_i hb
     cases h
     obtain rfl:=hx.int_inv
     exact ⟨fun code=>by simp [Instr.sliceBound,run_asIntOf,hb.1,hb.2],by omega⟩
   · cases h
 · cases h
theorem bound_none (h:boundA none dflt most=some r):r=dflt:=by
 simp [boundA] at h;exact h.symm
def VO (ρ:Own) (w:World):Option AV→Option Value→Prop
 | none,none=>True
 | some a,some b=>V ρ w a b
 | _,_=>False
theorem bounds_run {isS:Bool} {cap:Nat} {lo hi mx:Option AV} {lo' hi' mx':Option Value} (hl:VO ρ w lo lo') (hh:VO ρ w hi hi') (hm:VO ρ w mx mx')
 {m h l:Nat} (h1:boundA mx cap cap=some m) (h2:boundA hi len m=some h) (h3:boundA lo 0 h=some l) (hmh:mx=none∨hi≠none) :
 (Instr.sliceBounds isS len cap lo' hi' mx').run P w = .ok (l,h,m) w:=by
 unfold Instr.sliceBounds
 cases mx with
 | none=>
  cases mx' with
  | some _=>exact hm.elim
  | none=>
   obtain rfl:=bound_none h1
   cases hi with
   | none=>
    cases hi' with
    | some _=>exact hh.elim
    | none=>
     obtain rfl:=bound_none h2
     cases lo with
     | none=>
      cases lo' with
      | some _=>exact hl.elim
      | none=>obtain rfl:=bound_none h3;simp
     | some a=>
      cases lo' with
      | none=>exact hl.elim
      | some b=>simp [(bound_some (P:=P) hl h3).1]
   | some c=>
    cases hi' with
    | none=>exact hh.elim
    | some d=>
     have e2:=(bound_some (P:=P) hh h2).1
     cases lo with
     | none=>
      cases lo' with
      | some _=>exact hl.elim
      | none=>obtain rfl:=bound_none h3;simp [e2]
     | some a=>
      cases lo' with
      | none=>exact hl.elim
      | some b=>simp [e2,(bound_some (P:=P) hl h3).1]
 | some x=>
  cases mx' with
  | none=>exact hm.elim
  | some y=>
   have e1:=(bound_some (P:=P) hm h1).1
   cases hi with
   | none=>
             rcases hmh with h|h
             · cases h
             · exact absurd rfl h
   | some c=>
    cases hi' with
    | none=>exact hh.elim
    | some d=>
     have e2:=(bound_some (P:=P) hh h2).1
     cases lo with
     | none=>
      cases lo' with
      | some _=>exact hl.elim
      | none=>obtain rfl:=bound_none h3;simp [e1,e2]
     | some a=>
      cases lo' with
      | none=>exact hl.elim
      | some b=>simp [e1,e2,(bound_some (P:=P) hl h3).1]
theorem bound_le (h:boundA x dflt most=some r):r≤max dflt most:=by
 unfold boundA at h
 split at h
 · cases h;omega
 · split at h
   · cases h;omega
   · cases h
 · cases h
theorem bound_le' (hd:dflt≤most) (h:boundA x dflt most=some r):r≤most:=by
 have:=bound_le h;omega
theorem bound_weak {most':Nat} (hm:most≤most') (h:boundA x dflt most=some r):boundA x dflt most'=some r:=by
 unfold boundA at *
 split at h
 · exact h
 · split at h
   · rename_i hb;rw [if_pos ⟨hb.1,by omega⟩];exact h
   · cases h
 · cases h
theorem extract_str (s:List UInt8) (l h:Nat):(ByteArray.mk s.toArray).extract l h=⟨((s.drop l).take (h-l)).toArray⟩:=by
 apply ByteArray.ext
 rw [ByteArray.data_extract]
 simp
theorem sl_sub {b h:Nat} (hx:V ρ w (.sl b o len esz cap) (.slice a len capC)) (hlh:l<h) (hhc:h≤capC) (m:Nat) (hm:m≤capC) (hhm:h≤m) (cap':Option Nat)
 (hc':∀ n,cap'=some n→m-l=n):V ρ w (.sl b (o+l*esz) (h-l) esz cap') (.slice (if m=l then a else a.map (·.add (l*esz))) (h-l) (m-l)):=by
 have hne:m≠l:=by omega
 rw [if_neg hne]
 cases hx with
 | sl hr hl hcap hs=>
  obtain ⟨cs,e,fr,h1,h2⟩:=hs
  simp only [Option.map_some]
  rw [Addr.add_none,Nat.add_right_comm]
  refine .sl hr (by omega) hc' ⟨cs,e,fr,h1,?_⟩
  have e1:l*esz+(m-l)*esz=m*esz:=by rw [← Nat.add_mul];congr 1;omega
  have e2:m*esz≤capC*esz:=Nat.mul_le_mul_right _ hm
  omega
 | slN hr=>omega
 | slD _ _ hr hl hcap=>simp only [Option.map_some];rw [Addr.add_none];exact .slD _ _ hr (by omega) hc'
 | slND hr=>omega
 | slDE a hr=>omega
theorem vs_sub {c:List AV} {h:Nat} (hx:V ρ w (.vs c len cap) (.slice a len capC)) (hlh:l≤h) (m:Nat) (hhm:h≤m) (cap':Option Nat)
 (hc':∀ n,cap'=some n→m-l=n) (hm:m≤capC):V ρ w (.vs ((c.drop (l*esz)).take ((h-l)*esz)) (h-l) cap') (.slice (if m=l then a else a.map (·.add (l*esz))) (h-l) (m-l)):=by
 cases hx with
 | vs c' o g hf hl hcap hcc hg=>
  by_cases hne:m=l
  · rw [if_pos hne]
    have e1:h-l=0:=by omega
    rw [e1]
    simp only [Nat.zero_mul,List.take_zero]
    exact .vs c' o g (fun h=>absurd rfl h) (by omega) hc' (by simp) (by simp)
  · rw [if_neg hne]
    simp only [Option.map_some]
    rw [Addr.add_none]
    refine .vs c' (o+l*esz) (fun i=>g (l*esz+i)) (fun hn=>hf (fun e=>hn (by rw [e];simp))) (by omega) hc' (fun i hi=>?_) (fun i x hx=>?_)
    · rw [Nat.add_assoc]
      refine hcc _ ?_
      simp at hi;omega
    · rw [List.getElem?_take] at hx
      split at hx
      · exact hg _ x (by simpa using hx)
      · cases hx
 | vsN hcap=>
  have:m=0:=by omega
  subst this
  have:l=0:=by omega
  subst this
  have:h=0:=by omega
  subst this
  simp
  exact .vsN (fun n hn=>(hc' n hn).symm)
 | vsE a hcap=>
  have:m=0:=by omega
  subst this
  have:l=0:=by omega
  subst this
  have:h=0:=by omega
  subst this
  simp
  exact .vsE a (fun n hn=>(hc' n hn).symm)
theorem V.empty {c:Nat} (ha:a=none→c=0) (hs:∀ x,a=some x→x.spot=none∨c=0) (hc:∀ n,cap=some n→c=n):V ρ w (.vs [] 0 cap) (.slice a 0 c):=by
 cases a with
 | none=>obtain rfl:=ha rfl;exact .vsN (fun n hn=>(hc n hn).symm)
 | some x=>
  obtain ⟨b,o,sp⟩:=x
  rcases hs _ rfl with h|rfl
  · obtain rfl:sp=none:=h
    exact .vs b o (fun _=>Go.undef) (fun h=>absurd rfl h) (Nat.zero_le _) hc (by simp) (by simp)
  · exact .vsE _ (fun n hn=>(hc n hn).symm)
theorem sliceAt_str (hu:P.underlying t=some .string) {s:List UInt8} {lo hi:Option AV} {lo' hi':Option Value} (hl:VO ρ w lo lo') (hh:VO ρ w hi hi')
 {h l:Nat} (h2:boundA hi s.length s.length=some h) (h3:boundA lo 0 h=some l) :
 (Instr.sliceAt t (.string ⟨s.toArray⟩) lo' hi' none).run P w = .ok (.string ⟨((s.drop l).take (h-l)).toArray⟩) w:=by
 have e:(ByteArray.mk s.toArray).size=s.length:=by simp [ByteArray.size]
 have b:=bounds_run (P:=P) (isS:=false) (len:=s.length) (cap:=s.length) hl hh (show VO ρ w none none from trivial) (m:=s.length) (by simp [boundA]) h2 h3 (.inl rfl)
 simp only [Instr.sliceAt,Instr.slice,Sem.run_bind,run_underlying' hu,Result.andThen_ok]
 simp [e,b,extract_str]
theorem sliceAt_sl (hu:P.underlying t=some (.slice e)) (hi:P.info? e=some i) {a:Option Addr} {len capC:Nat} {lo hi' mx:Option AV} {lo' hi'' mx':Option Value}
 (hl:VO ρ w lo lo') (hh:VO ρ w hi' hi'') (hm:VO ρ w mx mx') {h l m:Nat} (h1:boundA mx capC capC=some m) (h2:boundA hi' len m=some h) (h3:boundA lo 0 h=some l) (hmh:mx=none∨hi'≠none) :
 (Instr.sliceAt t (.slice a len capC) lo' hi'' mx').run P w = .ok (.slice (if m=l then a else a.map (·.add (l*i.size))) (h-l) (m-l)) w:=by
 have b:=bounds_run (P:=P) (isS:=true) hl hh hm h1 h2 h3 hmh
 simp only [Instr.sliceAt,Instr.slice,Sem.run_bind,run_underlying' hu,Result.andThen_ok]
 simp [b,run_sizeOf' hi]
theorem sliceAt_arr (hu:P.underlying t=some (.array n e)) (hi:P.info? e=some i) {a:Addr} {lo hi':Option AV} {lo' hi'':Option Value}
 (hl:VO ρ w lo lo') (hh:VO ρ w hi' hi'') {h l:Nat} (h2:boundA hi' n n=some h) (h3:boundA lo 0 h=some l) :
 (Instr.sliceAt t (.pointer (some a)) lo' hi'' none).run P w = .ok (.slice (some (if n=l then a else a.add (l*i.size))) (h-l) (n-l)) w:=by
 have b:=bounds_run (P:=P) (isS:=false) (len:=n) (cap:=n) hl hh (show VO ρ w none none from trivial) (m:=n) (by simp [boundA]) h2 h3 (.inl rfl)
 simp only [Instr.sliceAt,Sem.run_bind,run_underlying' hu,Result.andThen_ok]
 simp [b,run_sizeOf' hi,Instr.sureAddr]
theorem spot_add {m:Nat} (hm:m≤capC) (ha:∀ x,a=some x→x.spot=none∨capC=0) (n:Nat) (c:Prop) [Decidable c]:∀ x,(if c then a else a.map (·.add n))=some x→x.spot=none∨m-l=0:=by
 intro x hx
 split at hx
 · rcases ha x hx with h|h
   · exact .inl h
   · exact .inr (by omega)
 · simp only [Option.map_eq_some_iff] at hx
   obtain ⟨y,hy,rfl⟩:=hx
   rcases ha y hy with this|h
   · refine .inl ?_
     unfold Addr.add
     split
     · exact this
     · rfl
   · exact .inr (by omega)
theorem slice_parts {x:AV} {x':Value} (hx:V ρ w x x') (hk:match x with | .nilsl | .sl .. | .vs .. => True|_=>False) :
 ∃ a len capC,x' = .slice a len capC∧len≤capC∧(∀ y,a=some y→y.spot=none∨capC=0)∧(a=none→capC=0):=by
 cases hx <;> simp at hk
 case nilsl=>exact ⟨none,0,0,rfl,Nat.le_refl _,by simp,fun _=>rfl⟩
 case sl hr hl hcap hs=>exact ⟨_,_,_,rfl,hl,by rintro y ⟨⟩;exact .inl rfl,by simp⟩
 case slN=>exact ⟨none,0,0,rfl,Nat.le_refl _,by simp,fun _=>rfl⟩
 case slD hr hl hcap=>exact ⟨_,_,_,rfl,hl,by rintro y ⟨⟩;exact .inl rfl,by simp⟩
 case slND=>exact ⟨none,0,0,rfl,Nat.le_refl _,by simp,fun _=>rfl⟩
 case vs hf hl hcap hc hg=>exact ⟨_,_,_,rfl,hl,by rintro y ⟨⟩;exact .inl rfl,by simp⟩
 case vsN hcap=>exact ⟨none,0,0,rfl,Nat.le_refl _,by simp,fun _=>rfl⟩
 case vsE a hcap=>exact ⟨some a,0,0,rfl,Nat.le_refl _,fun _ _=>.inr rfl,fun h=>by cases h⟩
 case slDE a h=>exact ⟨some a,0,0,rfl,Nat.le_refl _,fun _ _=>.inr rfl,fun h=>by cases h⟩
theorem sl_len {b len':Nat} (hx:V ρ w (.sl b o len esz cap) (.slice a len' capC)):len'=len∧∀ n,cap=some n→capC=n:=by
 cases hx with
 | sl hr hl hcap hs=>exact ⟨rfl,hcap⟩
 | slN hr=>exact ⟨rfl,by simp⟩
 | slD _ _ hr hl hcap=>exact ⟨rfl,hcap⟩
 | slND hr=>exact ⟨rfl,by simp⟩
 | slDE a hr=>exact ⟨rfl,fun n hn=>by cases hn;rfl⟩
theorem vs_len {c:List AV} {len':Nat} (hx:V ρ w (.vs c len cap) (.slice a len' capC)):len'=len∧∀ n,cap=some n→capC=n:=by
 cases hx with
 | vs c o g hf hl hcap hc hg=>exact ⟨rfl,hcap⟩
 | vsN hcap=>exact ⟨rfl,fun n hn=>(hcap n hn).symm⟩
 | vsE a hcap=>exact ⟨rfl,fun n hn=>(hcap n hn).symm⟩
theorem cap_le (hl:len≤capC) (hc:∀ n,cap=some n→capC=n):cap.getD len≤capC:=by
 cases cap with
 | none=>exact hl
 | some n=>rw [hc n rfl];exact Nat.le_refl _
theorem cap_sub (hc:∀ n,cap=some n→capC=n):∀ n,cap.map (· - l)=some n→capC-l=n:=by
 intro n hn
 simp only [Option.map_eq_some_iff] at hn
 obtain ⟨c,hc',rfl⟩:=hn
 rw [hc c hc']
theorem slice_own (hu:P.underlying t=some (.slice e)) (hi:P.info? e=some i) {b o len:Nat} {cap:Option Nat} {a:Option Addr} {len' capC:Nat} (hx:V ρ w (.sl b o len i.size cap) (.slice a len' capC))
 {lo hi' mx:Option AV} {lo' hi'' mx':Option Value} (hl:VO ρ w lo lo') (hh:VO ρ w hi' hi'') (hm:VO ρ w mx mx') {h l m:Nat}
 (h1:boundA mx capC capC=some m) (h2:boundA hi' len m=some h) (h3:boundA lo 0 h=some l) (hmh:mx=none∨hi'≠none) (hhm:h≤m) (hmc:m≤capC) (cap':Option Nat) (hc':∀ n,cap'=some n→m-l=n) :
 ∃ v',(Instr.sliceAt t (.slice a len' capC) lo' hi'' mx').run P w = .ok v' w∧V ρ w (if l<h then .sl b (o+l*i.size) (h-l) i.size cap' else .vs [] 0 cap') v':=by
 obtain ⟨_,_,_,he,hlc,hsp,hnil⟩:=slice_parts hx trivial
 cases he
 obtain ⟨rfl,hcap⟩:=sl_len hx
 refine ⟨_,sliceAt_sl (P:=P) hu hi hl hh hm h1 h2 h3 hmh,?_⟩
 have hlh:=bound_le' (Nat.zero_le _) h3
 split
 · rename_i hlt
   exact sl_sub hx hlt (by omega) m hmc hhm _ hc'
 · rename_i hlt
   have e0:h-l=0:=by omega
   rw [e0]
   refine V.empty (fun e=>?_) (spot_add hmc hsp _ _) hc'
   split at e
   · omega
   · rw [Option.map_eq_none_iff] at e;have:=hnil e;omega
theorem slice_vs (hu:P.underlying t=some (.slice e)) (hi:P.info? e=some i) {l0:List AV} {len:Nat} {cap:Option Nat} {a:Option Addr} {len' capC:Nat} (hx:V ρ w (.vs l0 len cap) (.slice a len' capC))
 {lo hi' mx:Option AV} {lo' hi'' mx':Option Value} (hl:VO ρ w lo lo') (hh:VO ρ w hi' hi'') (hm:VO ρ w mx mx') {h l m:Nat}
 (h1:boundA mx capC capC=some m) (h2:boundA hi' len m=some h) (h3:boundA lo 0 h=some l) (hmh:mx=none∨hi'≠none) (hhm:h≤m) (hmc:m≤capC) (cap':Option Nat) (hc':∀ n,cap'=some n→m-l=n) :
 ∃ v',(Instr.sliceAt t (.slice a len' capC) lo' hi'' mx').run P w = .ok v' w∧V ρ w (.vs ((l0.drop (l*i.size)).take ((h-l)*i.size)) (h-l) cap') v':=by
 obtain ⟨_,_,_,he,hlc,hsp,hnil⟩:=slice_parts hx trivial
 cases he
 obtain ⟨rfl,hcap⟩:=vs_len hx
 exact ⟨_,sliceAt_sl (P:=P) hu hi hl hh hm h1 h2 h3 hmh,vs_sub hx (bound_le' (Nat.zero_le _) h3) m hhm _ hc' hmc⟩
theorem slice_nil (hu:P.underlying t=some (.slice e)) (hi:P.info? e=some i) {x':Value} (hx:V ρ w .nilsl x')
 {lo hi' mx:Option AV} {lo' hi'' mx':Option Value} (hl:VO ρ w lo lo') (hh:VO ρ w hi' hi'') (hm:VO ρ w mx mx') {h l m:Nat}
 (h1:boundA mx 0 0=some m) (h2:boundA hi' 0 0=some h) (h3:boundA lo 0 0=some l) (hmh:mx=none∨hi'≠none) :
 ∃ v',(Instr.sliceAt t x' lo' hi'' mx').run P w = .ok v' w∧V ρ w .nilsl v':=by
 cases hx
 have e0:=bound_le' (Nat.le_refl _) h1
 obtain rfl:m=0:=by omega
 have e1:=bound_le' (Nat.le_refl _) h2
 obtain rfl:h=0:=by omega
 have e2:=bound_le' (Nat.le_refl _) h3
 obtain rfl:l=0:=by omega
 exact ⟨_,sliceAt_sl (P:=P) (a:=none) hu hi hl hh hm h1 h2 h3 hmh,by simpa using V.nilsl⟩
theorem bound_dflt {d d':Nat} (hx:x≠none) (h:boundA x d most=some r):boundA x d' most=some r:=by
 cases x with
 | none=>exact absurd rfl hx
 | some a=>cases a <;> exact h
theorem slice_sound {k:SlK} 
 (hk:match k with | .str=>P.underlying t=some .string | .sl=>∃ e i,P.underlying t=some (.slice e)∧P.info? e=some i∧i.size=esz | .arr n=>∃ e i,P.underlying t=some (.array n e)∧P.info? e=some i∧i.size=esz)
 {x v:AV} {x':Value} (hx:V ρ w x x') {lo hi mx:Option AV} {lo' hi' mx':Option Value} (hl:VO ρ w lo lo') (hh:VO ρ w hi hi') (hm:VO ρ w mx mx') (hmh:mx=none∨hi≠none)
 (h:sliceA k esz x lo hi mx=some v):∃ v',(Instr.sliceAt t x' lo' hi' mx').run P w = .ok v' w∧V ρ w v v':=by
 cases k with
 | str=>
  cases x <;> cases mx <;> simp only [sliceA,reduceCtorEq] at h
  cases mx' with
  | some _=>exact hm.elim
  | none=>
   obtain rfl:=hx.str_inv
   split at h
   · rename_i hb
     split at h
     · rename_i lb;cases h
       exact ⟨_,sliceAt_str hk hl hh hb lb,.str _⟩
     · cases h
   · cases h
 | sl=>
  obtain ⟨e,i,hu,hinf,rfl⟩:=hk
  cases x <;> simp only [sliceA,reduceCtorEq] at h
  case nilsl=>
   cases mx with
   | none=>
    simp only at h
    split at h
    · rename_i hb lb;cases h
      exact slice_nil hu hinf hx hl hh hm (m:=0) (by simp [boundA]) hb lb hmh
    · cases h
   | some m0=>
    simp only at h
    split at h
    · rename_i mb hb lb;cases h
      exact slice_nil hu hinf hx hl hh hm mb hb lb hmh
    · cases h
  case sl b o len e' cap=>
   obtain ⟨a,len',capC,rfl,hlc,hsp,hnil⟩:=slice_parts hx trivial
   obtain ⟨rfl,hcap⟩:=sl_len hx
   have hcc:=cap_le hlc hcap
   cases mx with
   | none=>
    simp only at h
    split at h
    · rename_i he;subst he
      split at h
      · rename_i h' hb
        split at h
        · rename_i l' lb
          have hhc:h'≤capC:=by
           have h1:=bound_le hb
           have h2:=Nat.max_le.2 ⟨hlc,hcc⟩
           omega
          have:=slice_own (P:=P) hu hinf hx hl hh hm (m:=capC) (by simp [boundA]) (bound_weak hcc hb) lb hmh hhc (Nat.le_refl _) (cap.map (· - l')) (cap_sub hcap)
          split at h <;> (rename_i hlt;cases h;simpa [hlt] using this)
        · cases h
      · cases h
    · cases h
   | some m0=>
    simp only at h
    split at h
    · rename_i he;subst he
      split at h
      · rename_i m' mb
        split at h
        · rename_i h' hb
          split at h
          · rename_i l' lb
            have hmc:m'≤capC:=by
             have h1:=bound_le mb
             have h2:=Nat.max_le.2 ⟨hlc,hcc⟩
             omega
            have hhi:hi≠none:=by rcases hmh with h|h;cases h;exact h
            have hhm:h'≤m':=by
             cases hi with
             | none=>exact absurd rfl hhi
             | some c=>
              cases hi' with
              | none=>exact hh.elim
              | some d=>exact (bound_some (P:=P) hh hb).2
            have:=slice_own (P:=P) hu hinf hx hl hh hm (bound_dflt (by simp) (bound_weak hcc mb)) hb lb hmh hhm hmc (some (m'-l')) (by intro n hn;cases hn;rfl)
            split at h <;> (rename_i hlt;cases h;simpa [hlt] using this)
          · cases h
        · cases h
      · cases h
    · cases h
  case vs l0 len cap=>
   obtain ⟨a,len',capC,rfl,hlc,hsp,hnil⟩:=slice_parts hx trivial
   obtain ⟨rfl,hcap⟩:=vs_len hx
   cases mx with
   | none=>
    simp only at h
    split at h
    · rename_i h' hb
      split at h
      · rename_i l' lb;cases h
        have hhc:h'≤len':=bound_le' (Nat.le_refl _) hb
        exact slice_vs (P:=P) hu hinf hx hl hh hm (m:=capC) (by simp [boundA]) (bound_weak hlc hb) lb hmh (by omega) (Nat.le_refl _) (cap.map (· - l')) (cap_sub hcap)
      · cases h
    · cases h
   | some m0=>
    simp only at h
    split at h
    · rename_i m' mb
      split at h
      · rename_i h' hb
        split at h
        · rename_i l' lb;cases h
          have hmc:m'≤len':=bound_le' (Nat.le_refl _) mb
          have hhi:hi≠none:=by rcases hmh with h|h;cases h;exact h
          have hhm:h'≤m':=by
           cases hi with
           | none=>exact absurd rfl hhi
           | some c=>
            cases hi' with
            | none=>exact hh.elim
            | some d=>exact (bound_some (P:=P) hh hb).2
          exact slice_vs (P:=P) hu hinf hx hl hh hm (bound_dflt (by simp) (bound_weak hlc mb)) hb lb hmh hhm (by omega) (some (m'-l')) (by intro n hn;cases hn;rfl)
        · cases h
      · cases h
    · cases h
 | arr n=>cases x <;> cases mx <;> simp only [sliceA,reduceCtorEq] at h
end Go.Ab

/-
  Own work: composites, and all operations that do not look at the heap together.
-/
namespace Go.Ab
variable {m:List Value} {t ty:TypeId} {op:BinOp} {x y:Operand} {x' y':Value}
variable {P:Program} {gl:Nat→Option AV} {ρ:Own} {w:World}
def ow (m:List Value) (off:Nat) (new:List Value):List Value:=m.take off++new++m.drop (off+new.length)
theorem VL.length {l:List AV} (h:VL ρ w l m):l.length=m.length:=h.1
theorem overwrite_VL {l new:List AV} {newm:List Value} (h:VL ρ w l m) (h':VL ρ w new newm) (off:Nat):VL ρ w (overwrite l off new) (ow m off newm):=by
 unfold overwrite ow
 rw [h'.length]
 exact ((h.take off).append h').append (h.drop _)
theorem ow_length {new:List Value} {off:Nat} (h:off+new.length≤m.length):(ow m off new).length=m.length:=by
 simp [ow];omega
theorem ow_cons {off:Nat} {x:Value} {r:List Value} (h:off+(r.length+1)≤m.length):ow m off (x::r)=ow (m.set off x) (off+1) r:=by
 apply List.ext_getElem?
 intro i
 unfold ow
 simp only [List.getElem?_append,List.length_append,List.length_take,List.length_cons,List.length_set,List.getElem?_take,List.getElem?_drop,List.getElem?_set,List.getElem?_cons]
 have e1:min off m.length=off:=by omega
 have e2:min (off+1) m.length=off+1:=by omega
 rw [e1,e2]
 by_cases h1:i<off
 · rw [if_pos (by omega),if_pos (by omega),if_pos (by omega),if_pos (by omega),if_pos (by omega),if_pos (by omega),if_neg (by omega)]
 · by_cases h2:i=off
   · subst h2
     rw [if_pos (by omega),if_neg (by omega),if_pos (by omega),if_pos (by omega),if_pos (by omega),if_pos (by omega),if_pos rfl,if_pos (by omega)]
   · by_cases h3:i<off+(r.length+1)
     · rw [if_pos (by omega),if_neg (by omega),if_neg (by omega),if_pos (by omega),if_neg (by omega)]
       congr 1
     · rw [if_neg (by omega),if_neg (by omega),if_neg (by omega)]
       congr 1
       omega
theorem fold_set (off:Nat):∀ (r:List Value) (k:Nat) (m:List Value),off+k+r.length≤m.length →
 ((r.zipIdx k).foldl (fun (cs:Array Value) (p:Value×Nat)=>cs.setIfInBounds (off+p.2) p.1) m.toArray)=(ow m (off+k) r).toArray
 | [],k,m,_=>by simp [ow]
 | x::r,k,m,h=>by
  simp only [List.length_cons] at h
  simp only [List.zipIdx_cons,List.foldl_cons]
  rw [List.setIfInBounds_toArray,fold_set off r (k+1) (m.set (off+k) x) (by simp;omega),ow_cons (by omega)]
  rfl
theorem V.one {x:AV} {v:Value} (h:V ρ w x v) (h1:x≠.unk) (h2:∀ l,x≠.agg l):v.cells = #[v]:=by
 cases h <;> first|rfl|exact absurd rfl h1|exact absurd rfl (h2 _)
theorem cells_VL {x:AV} {v:Value} (h:V ρ w x v) {l:List AV} (hl:x.cells=some l):VL ρ w l v.cells.toList:=by
 by_cases h2:∃ l0,x = .agg l0
 · obtain ⟨l0,rfl⟩:=h2
   simp only [AV.cells,Option.some.injEq] at hl
   subst hl;obtain ⟨m,rfl,hm⟩:=h.agg_inv;simpa [Value.cells] using hm
 · have h1:x≠.unk:=fun e=>by subst e;simp [AV.cells] at hl
   have h2':∀ l0,x≠.agg l0:=fun l0 e=>h2 ⟨l0,e⟩
   have hl':l=[x]:=by
    cases x <;> simp only [AV.cells,Option.some.injEq,reduceCtorEq] at hl <;> first|exact hl.symm|exact absurd rfl h1|exact absurd rfl (h2' _)
   rw [hl',h.one h1 h2']
   exact VL.cons h VL.nil
theorem fill_sound {place:Nat→Option (Nat×Nat)}:∀ (vs:List (Nat×Nat×AV)) (ps:List (Nat×Value)) (l:List AV) (m:List Value) (l':List AV),
 vs.length=ps.length→(∀ (i:Nat) o n v p,vs[i]? = some (o,n,v)→ps[i]? = some p→place p.1=some (o,n)∧V ρ w v p.2) →
 VL ρ w l m→fillA l vs=some l'→∃ m':List Value,Instr.fill place m.toArray ps=some m'.toArray∧VL ρ w l' m'
 | [],[],l,m,l',_,_,hl,h=>by simp [fillA] at h;subst h;exact ⟨m,rfl,hl⟩
 | [],_::_,_,_,_,hlen,_,_,_=>by simp at hlen
 | _::_,[],_,_,_,hlen,_,_,_=>by simp at hlen
 | (o,n,v)::vs,(j,y)::ps,l,m,l',hlen,hall,hl,h=>by
  obtain ⟨hp,hv⟩:=hall 0 o n v (j,y) rfl rfl
  simp only [fillA] at h
  split at h
  · rename_i c hc
    split at h
    · rename_i hb
      have hcv:=cells_VL hv hc
      have hsz:y.cells.size=n:=by rw [← hb.1,hcv.length];simp
      have hfold:=fold_set o y.cells.toList 0 m (by rw [← hcv.length,hb.1,← hl.length];omega)
      obtain ⟨m',h1,h2⟩:=fill_sound vs ps (overwrite l o c) (ow m o y.cells.toList) l' (by simpa using hlen)
        (fun i o' n' v' p' hi hp'=>hall (i+1) o' n' v' p' (by simpa using hi) (by simpa using hp')) (overwrite_VL hl hcv o) h
      refine ⟨m',?_,h2⟩
      have hp':place j=some (o,n):=hp
      simp only [Instr.fill,hp']
      have hcond:¬ ((decide (y.cells.size≠n) || decide (o+y.cells.size > m.toArray.size))=true):=by
       have h1:m.toArray.size=m.length:=by simp
       have h2:=hl.length
       rw [h1]
       simp;omega
      rw [if_neg hcond]
      rw [← Array.foldl_toList,Array.toList_zipIdx]
      simp only [Nat.add_zero] at hfold
      rw [hfold]
      exact h1
    · cases h
  · cases h
theorem parts_sound {C:Cx} {s:St} {a:Act} (r:Rel C ρ s a w) {place:Nat→Option (Nat×Nat)}:∀ {ps:List (Nat×Operand)} {cps:List (Nat×Nat×IOpd)},cParts C place ps=some cps →
 ∀ {vs:List (Nat×Nat×AV)},s.parts cps=some vs→vs.length=(ps.map fun p=>(p.1,a.eval p.2)).length ∧
  ∀ (i:Nat) o n v p,vs[i]? = some (o,n,v)→(ps.map fun p=>(p.1,a.eval p.2))[i]? = some p→place p.1=some (o,n)∧V ρ w v p.2
 | [],cps,hc,vs,hv=>by
  simp [cParts] at hc;subst hc;simp [St.parts] at hv;subst hv;simp
 | (j,x)::ps,cps,hc,vs,hv=>by
  simp only [cParts] at hc
  split at hc
  · rename_i o n y l h1 h2 h3
    cases hc
    simp only [St.parts] at hv
    split at hv
    · rename_i v hv1
      split at hv
      · rename_i vs' hv2
        cases hv
        obtain ⟨e1,e2⟩:=parts_sound r h3 hv2
        refine ⟨by simpa using e1,fun i o' n' v' p' hi hp=>?_⟩
        cases i with
        | zero=>simp at hi hp;obtain ⟨rfl,rfl,rfl⟩:=hi;subst hp;exact ⟨h1,r.opd h2 hv1⟩
        | succ i=>simp at hi;exact e2 i o' n' v' p' hi (by simpa using hp)
      · cases hv
    · cases hv
  · cases hc
theorem zeroOf_sound {z:AV} (h:zeroOf P t=some z):∃ v,(zeroValue t).run P w = .ok v w∧V ρ w z v:=by
 unfold zeroOf at h
 split at h
 · rename_i i hi
   split at h
   · rename_i v hv
     exact ⟨v,by simp [zeroValue,run_typeInfo' hi,hv],cConst_V 5 v z h⟩
   · cases h
 · cases h
theorem run_places:∀ (fs:List Field) (pl:List (Nat×Nat)),fieldPlaces P fs=some pl →
 (fs.mapM fun f=>do pure (f.offset,← sizeOf f.type):Sem (List (Nat×Nat))).run P w = .ok pl w
 | [],pl,h=>by simp [fieldPlaces] at h;subst h;simp
 | f::fs,pl,h=>by
  simp only [fieldPlaces] at h
  split at h
  · rename_i i l h1 h2
    cases h
    simp only [List.mapM_cons,Sem.run_bind,run_sizeOf' h1,Result.andThen_ok,Sem.run_pure]
    rw [run_places fs l h2]
    simp
  · cases h
theorem build_struct {C:Cx} {s:St} {a:Act} (r:Rel C ρ s a w) {t:TypeId} {z:AV} {zc:List AV} {fs:Array Field} {pl:List (Nat×Nat)} (hz:zeroOf C.P t=some z) (hzc:z.cells=some zc) (hu:C.P.underlying t=some (.struct fs))
 (hpl:fieldPlaces C.P fs.toList=some pl) {ps:Array (Nat×Operand)} {cps:List (Nat×Nat×IOpd)} (hc:cParts C (pl[·]?) ps.toList=some cps) {vs:List (Nat×Nat×AV)} (hv:s.parts cps=some vs)
 {l:List AV} (hf:fillA zc vs=some l):∃ v',(Instr.build t (ps.map fun p=>(p.1,a.eval p.2))).run C.P w = .ok v' w∧V ρ w (.agg l) v':=by
 obtain ⟨zv,hz1,hz2⟩:=zeroOf_sound (P:=C.P) (ρ:=ρ) (w:=w) hz
 have hzl:=cells_VL hz2 hzc
 obtain ⟨e1,e2⟩:=parts_sound r hc hv
 obtain ⟨m',h1,h2⟩:=fill_sound vs _ zc _ l e1 e2 hzl hf
 refine ⟨.agg m'.toArray,?_,V.mkAgg h2⟩
 have hpl':=run_places (w:=w) fs.toList pl hpl
 have hm:(fs.mapM fun f=>do pure (f.offset,← sizeOf f.type):Sem (Array (Nat×Nat))).run C.P w = .ok pl.toArray w:=by
  rw [Array.mapM_eq_mapM_toList,Sem.run_map,hpl'];rfl
 simp only [Instr.build,Sem.run_bind,hz1,Result.andThen_ok,run_underlying' hu,hm]
 have hfill:Instr.fill (fun x=>pl.toArray[x]?) zv.cells (ps.map fun p=>(p.1,a.eval p.2)).toList=some m'.toArray:=by
  rw [Array.toList_map]
  simpa using h1
 rw [hfill]
 rfl
theorem build_array {C:Cx} {s:St} {a:Act} (r:Rel C ρ s a w) {t e:TypeId} {n:Nat} {i:TypeInfo} {z:AV} {zc:List AV} (hz:zeroOf C.P t=some z) (hzc:z.cells=some zc) (hu:C.P.underlying t=some (.array n e))
 (hi:C.P.info? e=some i) {ps:Array (Nat×Operand)} {cps:List (Nat×Nat×IOpd)} (hc:cParts C (fun j=>some (j*i.size,i.size)) ps.toList=some cps) {vs:List (Nat×Nat×AV)} (hv:s.parts cps=some vs)
 {l:List AV} (hf:fillA zc vs=some l):∃ v',(Instr.build t (ps.map fun p=>(p.1,a.eval p.2))).run C.P w = .ok v' w∧V ρ w (.agg l) v':=by
 obtain ⟨zv,hz1,hz2⟩:=zeroOf_sound (P:=C.P) (ρ:=ρ) (w:=w) hz
 have hzl:=cells_VL hz2 hzc
 obtain ⟨e1,e2⟩:=parts_sound r hc hv
 obtain ⟨m',h1,h2⟩:=fill_sound (place:=fun j=>some (j*i.size,i.size)) vs _ zc _ l e1 e2 hzl hf
 refine ⟨.agg m'.toArray,?_,V.mkAgg h2⟩
 simp only [Instr.build,Sem.run_bind,hz1,Result.andThen_ok,run_underlying' hu,run_sizeOf' hi]
 have hfill:Instr.fill (fun j=>some (j*i.size,i.size)) zv.cells (ps.map fun p=>(p.1,a.eval p.2)).toList=some m'.toArray:=by
  rw [Array.toList_map]
  simpa using h1
 rw [hfill]
 rfl
theorem mm_sound (mx:Bool):∀ (l:List AV) (m:List Value) (k:IntKind) (a:Int) (v:AV),VL ρ w l m→mmA mx (.int k a) l=some v →
 ∃ v',(m.foldlM (if mx then Builtin.max2 else Builtin.min2) (.int k a)).run P w = .ok v' w∧V ρ w v v'
 | [],m,k,a,v,hl,h=>by
  rw [hl.nil_inv]
  simp [mmA] at h;subst h
  exact ⟨_,rfl,.int _ _⟩
 | x::l,m,k,a,v,hl,h=>by
  obtain ⟨y,m',rfl,hy,hl'⟩:=hl.cons_inv
  unfold mmA at h
  split at h
  · cases ‹_::_=[]›
  · rename_i heq1 heq2
    cases heq1;cases heq2
    obtain rfl:=hy.int_inv
    split at h
    · rename_i hk;subst hk
      obtain ⟨v',h1,h2⟩:=mm_sound mx l m' _ _ v hl' h
      refine ⟨v',?_,h2⟩
      cases mx
      · simp only [List.foldlM_cons,Sem.run_bind,Bool.false_eq_true,if_false,Builtin.min2,Sem.run_pure,Result.andThen_ok] at h1 ⊢
        exact h1
      · simp only [List.foldlM_cons,Sem.run_bind,if_true,Builtin.max2,Sem.run_pure,Result.andThen_ok] at h1 ⊢
        exact h1
    · cases h
  · cases h
variable {C:Cx} {s:St} {a:Act}
theorem VO_of (r:Rel C ρ s a w) {x:Option Operand} {y:Option IOpd} (hc:cOpt C x=some y) {v:Option AV} (hv:s.oopd y=some v):VO ρ w v (x.map a.eval):=by
 cases x with
 | none=>simp [cOpt] at hc;subst hc;simp [St.oopd] at hv;subst hv;trivial
 | some x0=>
  simp only [cOpt,Option.map_eq_some_iff] at hc
  obtain ⟨y0,h1,rfl⟩:=hc
  simp only [St.oopd,Option.map_eq_some_iff] at hv
  obtain ⟨u,h2,rfl⟩:=hv
  exact r.opd h1 h2
theorem eqGuard_other (h1:¬ (x' = .nilIface∧y' = .nilIface)) (h2:∀ a b,¬ (x' = .agg a∧y' = .agg b)):(eqGuard op t x y x' y').run P w = .ok () w:=by
 have key:∀ op:BinOp,(op = .eql∨op = .neq)→(eqGuard op t x y x' y').run P w = .ok () w:=by
  intro op hop
  unfold eqGuard
  rcases hop with rfl|rfl
  all_goals
   simp only [Bool.not_true,Bool.false_eq_true,if_false]
   split
   · exact absurd ⟨rfl,rfl⟩ h1
   · exact absurd ⟨rfl,rfl⟩ (h2 _ _)
   · rfl
 cases op
 case eql=>exact key _ (.inl rfl)
 case neq=>exact key _ (.inr rfl)
 all_goals rfl
theorem eqGuard_nil {ms:Array (String×TypeId)} (hu:P.underlying t=some (.interface ms)) (hg:((!(isConstO x || isConstO y)) && !ms.isEmpty)=false) :
 (eqGuard op t x y .nilIface .nilIface).run P w = .ok () w:=by
 obtain ⟨k,hk⟩:∃ k,Op.maxDepth=k+1:=⟨9999,rfl⟩
 have h3:(Op.eqGuardIn Op.maxDepth t .nilIface .nilIface).run P w = .ok (!ms.isEmpty) w:=by
  rw [hk]
  simp only [Op.eqGuardIn,Sem.run_bind,run_underlying' hu,Result.andThen_ok]
  rfl
 have key:∀ op:BinOp,(op = .eql∨op = .neq)→(eqGuard op t x y .nilIface .nilIface).run P w = .ok () w:=by
  intro op hop
  unfold eqGuard
  rcases hop with rfl|rfl
  all_goals
   simp only [Bool.not_true,Bool.false_eq_true,if_false]
   cases x <;> cases y <;> simp only [isConstO,Bool.or_self,Bool.or_true,Bool.or_false,Bool.not_true,Bool.not_false,Bool.true_and,Bool.false_and,if_true,if_false,Bool.false_eq_true] at hg ⊢
   all_goals first
    | rfl
    | (simp only [Sem.run_bind,h3,Result.andThen_ok,hg,Bool.false_eq_true,if_false];rfl)
 cases op
 case eql=>exact key _ (.inl rfl)
 case neq=>exact key _ (.inr rfl)
 all_goals rfl
theorem eqGuard_run {f n:Nat} {e:EqT} {xa ya:AV} {r:Bool} 
 (hst:guardT P t=false)
 (he:eqT P f (!(isConstO x || isConstO y)) t=some e) (hx:V ρ w xa x') (hy:V ρ w ya y') (hr:eqA (n+1) e xa ya=some r):(eqGuard op t x y x' y').run P w = .ok () w:=by
 cases f with
 | zero=>simp [eqT] at he
 | succ f=>
 simp only [eqT] at he
 cases hu:P.underlying t with
 | none=>simp [hu] at he
 | some u=>
  simp only [guardT,hu] at he hst
  cases u <;> simp only [Option.some.injEq,reduceCtorEq] at he
  case struct fs=>
   split at he
   · cases he
   · simp only [Option.map_eq_some_iff] at he
     obtain ⟨l,hl,rfl⟩:=he
     cases xa <;> cases ya <;> simp only [eqA,reduceCtorEq] at hr
     obtain ⟨xm,rfl,_⟩:=hx.agg_inv
     obtain ⟨ym,rfl,_⟩:=hy.agg_inv
     exact run_eqGuard_agg w op t x y _ _ hst
  case array m e'=>
   split at he
   · cases he
     cases xa <;> cases ya <;> simp only [eqA,reduceCtorEq] at hr
     obtain ⟨xm,rfl,_⟩:=hx.agg_inv
     obtain ⟨ym,rfl,_⟩:=hy.agg_inv
     exact run_eqGuard_agg w op t x y _ _ hst
   · cases he
  case interface ms=>
   subst he
   cases xa <;> cases ya <;> simp only [eqA,reduceCtorEq] at hr
   · cases hx;cases hy;exact eqGuard_other (by simp) (by simp)
   · cases hx;cases hy;exact eqGuard_other (by simp) (by simp)
   · split at hr
     · cases hr
     · rename_i hg
       cases hx;cases hy
       exact eqGuard_nil hu (by simpa using hg)
  all_goals
   subst he
   refine eqGuard_other ?_ ?_
   · rintro ⟨rfl,rfl⟩
     cases hx <;> cases hy <;> simp [eqA,eqRef] at hr
   · rintro a b ⟨rfl,rfl⟩
     cases hx <;> cases hy <;> simp [eqA,eqRef] at hr
def numV:Value→Bool
 | .int _ _ | .float _ _ | .complex _ _ _ | .string _=>true
 | _=>false
theorem binOp_eql (h:numV x'=false):binOp .eql t x' y'=(do pure (.bool (← Op.equal t x' y'))):=by
 cases x' <;> simp only [numV,reduceCtorEq] at h <;> rfl
theorem binOp_neq (h:numV x'=false):binOp .neq t x' y'=(do pure (.bool (!(← Op.equal t x' y')))):=by
 cases x' <;> simp only [numV,reduceCtorEq] at h <;> rfl
theorem eq_notNum {d n:Nat} {g:Bool} {e:EqT} (hs:scalarT P t=false) (he:eqT P d g t=some e) {xa ya:AV} {x':Value} (hx:V ρ w xa x') {b:Bool} (hb:eqA (n+1) e xa ya=some b):numV x'=false:=by
 cases d with
 | zero=>simp [eqT] at he
 | succ d=>
 simp only [eqT] at he
 cases hu:P.underlying t with
 | none=>simp [hu] at he
 | some u=>
  simp only [hu] at he
  simp only [scalarT,hu] at hs
  cases u <;> simp only [Option.some.injEq,reduceCtorEq] at he hs
  case struct fs=>
   split at he
   · cases he
   · simp only [Option.map_eq_some_iff] at he
     obtain ⟨l,hl,rfl⟩:=he
     cases xa <;> cases ya <;> simp only [eqA,reduceCtorEq] at hb
     obtain ⟨xm,rfl,_⟩:=hx.agg_inv
     rfl
  case array m e'=>
   split at he
   · cases he
     cases xa <;> cases ya <;> simp only [eqA,reduceCtorEq] at hb
     obtain ⟨xm,rfl,_⟩:=hx.agg_inv
     rfl
   · cases he
  all_goals
   subst he
   cases hx <;> first|rfl|(cases ya <;> simp [eqA,eqRef] at hb)
theorem exec_builtin {e:Operand→Value} {dst:Option Tmp} {b:Builtin} {args:Array Operand} {ats:Array TypeId} {pos:String} {af:Array Edge} {gd:Option (Nat×Bool)} :
 (execOp e ⟨dst,.call ⟨.builtin b,args,ats⟩,ty,pos,af,gd⟩).run P w=(builtin b ats ty (args.map fun | .const _=>true|_=>false) (args.map e)).run P w:=by
 simp [execOp,resolve,invoke]
 rfl
theorem toList_arr {α:Type} {x:Array α} {l:List α} (h:x.toList=l):x=l.toArray:=by
 rw [← h]
theorem cOpds_one {x:List Operand} {y:IOpd} (h:cOpds C x=some [y]):∃ x0,x=[x0]∧cOpd C x0=some y:=by
 match x,h with
 | [],h=>simp [cOpds] at h
 | [x0],h=>
  simp only [cOpds] at h
  split at h
  · rename_i a l h1 h2
    simp at h2
    cases h
    exact ⟨x0,rfl,h1⟩
  · cases h
 | x0::x1::r,h=>
  simp only [cOpds] at h
  split at h
  · rename_i a l h1 h2
    cases h
    split at h2
    · cases h2
    · cases h2
  · cases h
theorem cOpds_two {x:List Operand} {y z:IOpd} (h:cOpds C x=some [y,z]):∃ x0 x1,x=[x0,x1]∧cOpd C x0=some y∧cOpd C x1=some z:=by
 match x,h with
 | [],h=>simp [cOpds] at h
 | x0::r,h=>
  simp only [cOpds] at h
  split at h
  · rename_i a l h1 h2
    cases h
    obtain ⟨x1,rfl,h3⟩:=cOpds_one h2
    exact ⟨x0,x1,rfl,h1,h3⟩
  · cases h
def lenT (P:Program) (t:TypeId):SlK→Prop
 | .str=>P.underlying t=some .string
 | .sl=>∃ e,P.underlying t=some (.slice e)
 | .arr n=>∃ e,P.underlying t=some (.array n e)
def lenS:SlK→AV→Option AV
 | .arr n,_=>some (.int .i64 n)
 | k,x=>lenA k x
theorem len_sound {k:SlK} (hk:lenT P t k) {x v:AV} {x':Value} (hx:V ρ w x x')
 (h:lenS k x=some v):∃ v',(Builtin.len_ #[t] ty #[x']).run P w = .ok v' w∧V ρ w v v':=by
 cases k with
 | arr n=>
  obtain ⟨e,hu⟩:=hk
  simp only [lenS,Option.some.injEq] at h
  subst h
  refine ⟨goInt n,?_,.int _ _⟩
  simp [Builtin.len_,run_underlying' hu]
 | str=>
  cases x <;> simp only [lenS,lenA,reduceCtorEq,Option.some.injEq] at h
  subst h
  obtain rfl:=hx.str_inv
  refine ⟨.int .i64 _,?_,.int _ _⟩
  have hk':P.underlying t=some .string:=hk
  simp only [Builtin.len_,List.getElem?_toArray,List.getElem?_cons_zero,Sem.run_bind,run_underlying' hk',Result.andThen_ok]
  rfl
 | sl=>
  obtain ⟨e,hu⟩:=hk
  have hnil:∀ l,(x = .nilsl∧l=0)∨(∃ b o es c,x = .sl b o l es c)∨(∃ q c,x = .vs q l c)→∃ v',(Builtin.len_ #[t] ty #[x']).run P w = .ok v' w∧V ρ w (.int .i64 l) v':=by
   intro l hl
   have:∃ a c,x' = .slice a l c:=by
    rcases hl with ⟨rfl,rfl⟩|⟨b,o,es,c,rfl⟩|⟨q,c,rfl⟩
    · cases hx;exact ⟨_,_,rfl⟩
    · obtain ⟨a,l',c',rfl,_⟩:=slice_parts hx trivial
      obtain ⟨rfl,_⟩:=sl_len hx;exact ⟨_,_,rfl⟩
    · obtain ⟨a,l',c',rfl,_⟩:=slice_parts hx trivial
      obtain ⟨rfl,_⟩:=vs_len hx;exact ⟨_,_,rfl⟩
   obtain ⟨a,c,rfl⟩:=this
   exact ⟨goInt l,by simp [Builtin.len_,run_underlying' hu],.int _ _⟩
  cases x <;> simp only [lenS,lenA,reduceCtorEq,Option.some.injEq] at h <;> subst h
  · exact hnil 0 (.inl ⟨rfl,rfl⟩)
  · exact hnil _ (.inr (.inl ⟨_,_,_,_,rfl⟩))
  · exact hnil _ (.inr (.inr ⟨_,_,rfl⟩))
theorem cap_sound {e:TypeId} (hu:P.underlying t=some (.slice e)) {x:AV} {x':Value} (hx:V ρ w x x') {n:Nat} (h:x = .nilsl∧n=0∨(∃ b o l es,x = .sl b o l es (some n))∨∃ q l,x = .vs q l (some n)) :
 (Builtin.cap_ #[t] ty #[x']).run P w = .ok (.int .i64 n) w:=by
 have:∃ a l,x' = .slice a l n:=by
  rcases h with ⟨rfl,rfl⟩|⟨b,o,l,es,rfl⟩|⟨q,l,rfl⟩
  · cases hx;exact ⟨_,_,rfl⟩
  · obtain ⟨a,l',c',rfl,_⟩:=slice_parts hx trivial
    obtain ⟨rfl,hc⟩:=sl_len hx;rw [hc n rfl];exact ⟨_,_,rfl⟩
  · obtain ⟨a,l',c',rfl,_⟩:=slice_parts hx trivial
    obtain ⟨rfl,hc⟩:=vs_len hx;rw [hc n rfl];exact ⟨_,_,rfl⟩
 obtain ⟨a,l,rfl⟩:=this
 simp [Builtin.cap_,run_underlying' hu,goInt]
theorem pure_sound (r:Rel C ρ s a w) {o:Oper} {io:IOp} (hc:cOp C o=some io) (hh:io.heapy=false) {v:AV} (hv:pureA s io=some v) :
 ∃ v',(execOp a.eval o).run C.P w = .ok (.value v') w∧V ρ w v v':=by
 obtain ⟨dst,op,ty,pos,af,gd⟩:=o
 cases op <;> simp only [cOp] at hc
 case move x=>
  simp only [Option.map_eq_some_iff] at hc
  obtain ⟨y,h1,rfl⟩:=hc
  exact ⟨_,by simp [execOp],r.opd h1 hv⟩
 case assign x=>
  simp only [Option.map_eq_some_iff] at hc
  obtain ⟨y,h1,rfl⟩:=hc
  exact ⟨_,by simp [execOp],r.opd h1 hv⟩
 case pick c x y=>
  split at hc
  · rename_i c' x' y' h1 h2 h3
    cases hc
    simp only [pureA] at hv
    split at hv
    · rename_i t av bv hc' ha' hb'
      have e1:=(r.opd h1 hc').bool_inv
      cases hv
      refine ⟨_,by simp [execOp,e1,asBool] <;> rfl,?_⟩
      cases t
      · exact r.opd h3 hb'
      · exact r.opd h2 ha'
    · rename_i t av hc' ha' hb'
      have e1:=(r.opd h1 hc').bool_inv
      split at hv
      · rename_i ht;subst ht;cases hv
        exact ⟨_,by simp [execOp,e1,asBool] <;> rfl,r.opd h2 ha'⟩
      · cases hv
    · rename_i t bv hc' ha' hb'
      have e1:=(r.opd h1 hc').bool_inv
      split at hv
      · cases hv
      · rename_i ht
        obtain rfl:t=false:=by simpa using ht
        cases hv
        exact ⟨_,by simp [execOp,e1,asBool] <;> rfl,r.opd h3 hb'⟩
    · cases hv
  · cases hc
 case build t ps=>
  split at hc
  · rename_i z hz
    split at hc
    · rename_i zc fs hzc hu
      split at hc
      · rename_i pl hpl
        simp only [Option.map_eq_some_iff] at hc
        obtain ⟨cps,h1,rfl⟩:=hc
        simp only [pureA] at hv
        split at hv
        · rename_i vs hvs
          simp only [Option.map_eq_some_iff] at hv
          obtain ⟨l,hl,rfl⟩:=hv
          obtain ⟨v',h2,h3⟩:=build_struct r hz hzc hu hpl h1 hvs hl
          exact ⟨v',by simp [execOp,h2],h3⟩
        · cases hv
      · cases hc
    · rename_i zc n e hzc hu
      split at hc
      · rename_i i hi
        simp only [Option.map_eq_some_iff] at hc
        obtain ⟨cps,h1,rfl⟩:=hc
        simp only [pureA] at hv
        split at hv
        · rename_i vs hvs
          simp only [Option.map_eq_some_iff] at hv
          obtain ⟨l,hl,rfl⟩:=hv
          obtain ⟨v',h2,h3⟩:=build_array r hz hzc hu hi h1 hvs hl
          exact ⟨v',by simp [execOp,h2],h3⟩
        · cases hv
      · cases hc
    · cases hc
  · cases hc
 case nilCheck x=>
  simp only [Option.map_eq_some_iff] at hc
  obtain ⟨y,h1,rfl⟩:=hc
  simp only [pureA,Option.bind_eq_some_iff] at hv
  obtain ⟨u,h2,h3⟩:=hv
  exact nilck_sound (r.opd h1 h2) h3 _ _ _ _ _ _ _ rfl
 case binOp op t x y u=>
  split at hc
  · rename_i x' y' h1 h2
    split at hc
    · rename_i hcmp
      split at hc
      · cases hc;simp [IOp.heapy] at hh
      split at hc
      · cases hc
      · rename_i hst
        simp only [Option.map_eq_some_iff] at hc
        obtain ⟨e,he,rfl⟩:=hc
        simp only [pureA] at hv
        split at hv
        · rename_i xa ya hx hy
          split at hv
          · rename_i b hb
            cases hv
            have gx:=r.opd h1 hx
            have gy:=r.opd h2 hy
            have hg:=eqGuard_run (w:=w) (op:=op) (n:=99) (by simpa using hst) he gx gy hb
            have hE:=eqA_sound 100 20 _ t e he xa ya _ _ b gx gy hb 10000 (by omega)
            have hE':(Op.equal t (a.eval x) (a.eval y)).run C.P w = .ok b w:=hE
            have hns:scalarT C.P t=false:=by
             simp only [Bool.and_eq_true,Bool.not_eq_true'] at hcmp;exact hcmp.2
            have hcm:isCmp op=true:=by
             simp only [Bool.and_eq_true] at hcmp;exact hcmp.1
            have hnum:=eq_notNum hns he gx hb
            refine ⟨_,?_,.bool _⟩
            cases op <;> simp only [isCmp,Bool.false_eq_true] at hcm
            · simp [execOp,hg,binOp_eql hnum,hE']
            · simp [execOp,hg,binOp_neq hnum,hE']
          · cases hv
        · cases hv
    · rename_i hcmp
      cases hc
      simp only [pureA] at hv
      split at hv
      · rename_i xa ya hx hy
        have gx:=r.opd h1 hx
        have gy:=r.opd h2 hy
        obtain ⟨v',h3,h4⟩:=bin_sound (P:=C.P) gx gy hv t
        have hg:(eqGuard op t x y (a.eval x) (a.eval y)).run C.P w = .ok () w:=by
         refine eqGuard_other ?_ ?_
         · rintro ⟨e1,e2⟩
           rw [e1] at gx;rw [e2] at gy
           cases gx <;> cases gy <;> simp [binA] at hv
         · rintro p q ⟨e1,e2⟩
           rw [e1] at gx;rw [e2] at gy
           cases gx <;> cases gy <;> simp [binA] at hv
        exact ⟨v',by simp [execOp,hg,h3],h4⟩
      · cases hv
  · cases hc
 case unOp op t x=>
  simp only [Option.map_eq_some_iff] at hc
  obtain ⟨y,h1,rfl⟩:=hc
  simp only [pureA,Option.bind_eq_some_iff] at hv
  obtain ⟨u,h2,h3⟩:=hv
  obtain ⟨v',h4,h5⟩:=un_sound (P:=C.P) (r.opd h1 h2) h3
  exact ⟨v',by simp [execOp,h4],h5⟩
 case convert src dst x=>
  split at hc <;> try (cases hc;done)
  · rename_i k' k y hs hd h1
    cases hc
    simp only [pureA,Option.bind_eq_some_iff] at hv
    obtain ⟨u,h2,h3⟩:=hv
    obtain ⟨v',h4,h5⟩:=conv_sound hs hd (r.opd h1 h2) h3
    exact ⟨v',by simp [execOp,h4],h5⟩
  · rename_i k y hs hd h1
    cases hc
    simp only [pureA] at hv
    split at hv
    · rename_i k0 n h2
      cases hv
      have e:=(r.opd h1 h2).int_inv
      refine ⟨.string (Utf8.encode n),?_,V.str' _⟩
      simp [execOp,e,convert,run_underlying' hs,run_underlying' hd,Conv.intToString]
    · cases hv
  · rename_i y hs hd h1
    cases hc
    simp only [pureA] at hv
    split at hv
    · rename_i st h2
      cases hv
      have e:=(r.opd h1 h2).str_inv
      refine ⟨_,?_,V.str _⟩
      simp [execOp,e,convert,run_underlying' hs,run_underlying' hd]
    · cases hv
  · split at hc
    · split at hc
      · cases hc
      · cases hc;simp [IOp.heapy] at hh
    · cases hc
  · split at hc
    · cases hc;simp [IOp.heapy] at hh
    · cases hc
  · split at hc
    · split at hc
      · cases hc
      · cases hc;simp [IOp.heapy] at hh
    · cases hc
  · split at hc
    · split at hc
      · cases hc;simp [IOp.heapy] at hh
      · cases hc
    · cases hc
 case makeInterface t x=>
  split at hc
  · cases hc
  · rename_i u hni hu
    simp only [Option.map_eq_some_iff] at hc
    obtain ⟨y,h1,rfl⟩:=hc
    simp only [pureA,Option.map_eq_some_iff] at hv
    obtain ⟨xa,h2,rfl⟩:=hv
    refine ⟨_,?_,.iface (r.opd h1 h2)⟩
    cases u <;> first|(exact absurd rfl (hni _))|simp [execOp,Instr.makeInterface,run_underlying' hu]
  · cases hc
 case typeAssert x xt t ok=>
  split at hc
  · cases hc
  · rename_i u hni hu
    split at hc
    · rename_i x' z h1 h2
      cases hc
      obtain ⟨zv,hz1,hz2⟩:=zeroOf_sound (P:=C.P) (w:=w) (ρ:=ρ) h2
      simp only [pureA] at hv
      split at hv
      · rename_i u0 va h3
        have e0:=r.opd h1 h3
        generalize hxv:a.eval x=xv at e0
        cases e0 with
        | @iface _ _ v' hin=>
         split at hv
         · rename_i e
           subst e
           cases ok
           · cases hv
             exact ⟨v',by cases u <;> first|(exact absurd rfl (hni _))|simp [execOp,hxv,Instr.typeAssert,run_underlying' hu],hin⟩
           · cases hv
             exact ⟨.tuple #[v',.bool true],by cases u <;> first|(exact absurd rfl (hni _))|simp [execOp,hxv,Instr.typeAssert,run_underlying' hu],.mkTup (.cons hin (.cons (.bool _) .nil))⟩
         · rename_i e
           cases ok
           · cases hv
           · cases hv
             exact ⟨.tuple #[zv,.bool false],by cases u <;> first|(exact absurd rfl (hni _))|simp [execOp,hxv,Instr.typeAssert,run_underlying' hu,e,hz1],.mkTup (.cons hz2 (.cons (.bool _) .nil))⟩
      · rename_i h3
        have e0:=r.opd h1 h3
        generalize hxv:a.eval x=xv at e0
        cases e0 with
        | niliface=>
         cases ok
         · cases hv
         · cases hv
           exact ⟨.tuple #[zv,.bool false],by cases u <;> first|(exact absurd rfl (hni _))|simp [execOp,hxv,Instr.typeAssert,run_underlying' hu,hz1],.mkTup (.cons hz2 (.cons (.bool _) .nil))⟩
      · cases hv
    · cases hc
  · cases hc
 case makeFunc f fi ca=>
  split at hc
  · cases hc
  · rename_i hy
    split at hc
    · rename_i fi' ca' h1 h2
      cases hc
      simp only [pureA] at hv
      split at hv
      · rename_i va vb h3 h4
        cases hv
        have g1:=r.opds h1 h3
        have g2:=r.opds h2 h4
        refine ⟨_,by simp [execOp,Instr.makeFunc] <;> rfl,?_⟩
        have e1:fi.map a.eval=(fi.toList.map a.eval).toArray:=by rw [← Array.toList_map,Array.toArray_toList]
        have e2:ca.map a.eval=(ca.toList.map a.eval).toArray:=by rw [← Array.toList_map,Array.toArray_toList]
        rw [e1,e2]
        refine .fn (fun l e=>hy (by subst e;rfl)) g1.1 g2.1 g1.2 g2.2
      · cases hv
    · cases hc
 case slice t x lo hi mx=>
  split at hc <;> try (cases hc;done)
  · rename_i x' l h hu h1 h2 h3 h4
    cases hc
    simp only [pureA] at hv
    split at hv
    · rename_i xa hx
      split at hv
      · rename_i la ha ma hl hh' hm
        split at hv
        · rename_i hmh
          have e4:mx=none:=by cases mx with
            | none=>rfl
            | some m=>simp [cOpt] at h4
          subst e4
          simp only [St.oopd,Option.some.injEq] at hm
          subst hm
          obtain ⟨v',h5,h6⟩:=slice_sound (P:=C.P) (t:=t) (k:=.str) (esz:=1) hu (r.opd h1 hx) (VO_of r h2 hl) (VO_of r h3 hh') (mx':=none) (show VO ρ w none none from trivial) (.inl rfl) hv
          exact ⟨v',by simp [execOp,h5],h6⟩
        · cases hv
      · cases hv
    · cases hv
  · rename_i e x' l h m hu h1 h2 h3 h4
    split at hc
    · rename_i i hi'
      cases hc
      simp only [pureA] at hv
      split at hv
      · rename_i xa hx
        split at hv
        · rename_i la ha ma hl hh' hm
          split at hv
          · rename_i hmh
            obtain ⟨v',h5,h6⟩:=slice_sound (P:=C.P) (t:=t) (k:=.sl) (esz:=i.size) ⟨e,i,hu,hi',rfl⟩ (r.opd h1 hx) (VO_of r h2 hl) (VO_of r h3 hh') (VO_of r h4 hm) (by cases ma <;> cases ha <;> simp at hmh ⊢) hv
            exact ⟨v',by simp [execOp,h5],h6⟩
          · cases hv
        · cases hv
      · cases hv
    · cases hc
  · split at hc
    · cases hc;simp [IOp.heapy] at hh
    · cases hc
 case fieldAddr t x f=>
  split at hc <;> try (cases hc;done)
  rename_i fs x' hu h1
  split at hc <;> try (cases hc;done)
  rename_i fd hf
  split at hc <;> try (cases hc;done)
  rename_i i hi'
  split at hc
  · cases hc
  · rename_i h0
    cases hc
    simp only [pureA,Option.bind_eq_some_iff] at hv
    obtain ⟨u,h2,h3⟩:=hv
    obtain ⟨v',h4,h5⟩:=faddr_sound hu hf hi' h0 (r.opd h1 h2) h3
    exact ⟨v',by simp [execOp,h4],h5⟩
 case field t x f=>
  split at hc <;> try (cases hc;done)
  rename_i fs x' hu h1
  split at hc <;> try (cases hc;done)
  rename_i fd hf
  split at hc <;> try (cases hc;done)
  rename_i n ag hs
  cases hc
  simp only [pureA] at hv
  split at hv
  · rename_i l hx
    obtain ⟨v',h4,h5⟩:=field_sound hu hf hs (r.opd h1 hx) hv
    exact ⟨v',by simp [execOp,h4],h5⟩
  · cases hv
 case indexAddr t x i=>
  split at hc <;> try (cases hc;done)
  · rename_i n e x' i' hu h1 h2
    split at hc <;> try (cases hc;done)
    rename_i inf hinf
    cases hc
    simp only [pureA] at hv
    split at hv
    · rename_i xa ia hx hi'
      obtain ⟨v',h4,h5⟩:=iaddr_sound (P:=C.P) (t:=t) (arr:=some n) hu hinf (r.opd h1 hx) (r.opd h2 hi') hv
      exact ⟨v',by simp [execOp,h4],h5⟩
    · cases hv
  · rename_i e x' i' hu h1 h2
    split at hc <;> try (cases hc;done)
    rename_i inf hinf
    cases hc
    simp only [pureA] at hv
    split at hv
    · rename_i xa ia hx hi'
      obtain ⟨v',h4,h5⟩:=iaddr_sound (P:=C.P) (t:=t) (arr:=none) hu hinf (r.opd h1 hx) (r.opd h2 hi') hv
      exact ⟨v',by simp [execOp,h4],h5⟩
    · cases hv
 case index t x i=>
  split at hc <;> try (cases hc;done)
  · rename_i x' i' hu h1 h2
    cases hc
    simp only [pureA] at hv
    split at hv
    · rename_i xa ia hx hi'
      obtain ⟨v',h4,h5⟩:=index_sound hu (r.opd h1 hx) (r.opd h2 hi') hv
      exact ⟨v',by simp [execOp,h4],h5⟩
    · cases hv
  · rename_i n e x' i' hu h1 h2
    split at hc <;> try (cases hc;done)
    rename_i sz ag hs
    cases hc
    simp only [pureA] at hv
    split at hv
    · rename_i l k m hx hi'
      split at hv
      · rename_i hb
        have ei:=(r.opd h2 hi').int_inv
        obtain ⟨v',h4,h5⟩:=indexArr_sound hu hs (r.opd h1 hx) (k:=k) hb.1 hb.2 hv
        exact ⟨v',by simp [execOp,ei,h4],h5⟩
      · cases hv
    · cases hv
 case extract x i=>
  simp only [Option.map_eq_some_iff] at hc
  obtain ⟨y,h1,rfl⟩:=hc
  simp only [pureA] at hv
  split at hv
  · rename_i l hx
    obtain ⟨v',h4,h5⟩:=extract_sound (P:=C.P) (r.opd h1 hx) hv
    exact ⟨v',by simp [execOp,h4],h5⟩
  · cases hv
 case call c=>
  obtain ⟨callee,args,ats⟩:=c
  cases callee with
  | value f=>
   simp only at hc
   split at hc
   · cases hc;simp [IOp.heapy] at hh
   · cases hc
  | invoke x name=>
   simp only at hc
   split at hc
   · cases hc;simp [IOp.heapy] at hh
   · cases hc
  | builtin b=>
   simp only at hc
   split at hc <;> try (cases hc;done)
   · -- len
     rename_i t x h1 h2
     obtain rfl:=toList_arr h1
     obtain ⟨x0,hx0,h3⟩:=cOpds_one h2
     obtain rfl:=toList_arr hx0
     have fin:∀ k,lenT C.P t k→io = .len k x →
      ∃ v',(execOp a.eval ⟨dst,.call ⟨.builtin .len,[x0].toArray,[t].toArray⟩,ty,pos,af,gd⟩).run C.P w = .ok (.value v') w∧V ρ w v v':=by
      rintro k hk rfl
      simp only [pureA] at hv
      have:∃ xa,V ρ w xa (a.eval x0)∧lenS k xa=some v:=by
       cases k with
       | arr n=>exact ⟨.unk,.unk _,hv⟩
       | str=>simp only [Option.bind_eq_some_iff] at hv;obtain ⟨u,h4,h5⟩:=hv;exact ⟨u,r.opd h3 h4,h5⟩
       | sl=>simp only [Option.bind_eq_some_iff] at hv;obtain ⟨u,h4,h5⟩:=hv;exact ⟨u,r.opd h3 h4,h5⟩
      obtain ⟨xa,h4,h5⟩:=this
      obtain ⟨v',h6,h7⟩:=len_sound (ty:=ty) hk h4 h5
      refine ⟨v',?_,h7⟩
      rw [exec_builtin]
      simp [builtin,h6]
     split at hc
     · rename_i n e hu;cases hc;exact fin (.arr n) ⟨e,hu⟩ rfl
     · cases hc;simp [IOp.heapy] at hh
     · rename_i hu;cases hc;exact fin .str hu rfl
     · rename_i e hu;cases hc;exact fin .sl ⟨e,hu⟩ rfl
     · cases hc
   · -- cap
     rename_i t x h1 h2
     obtain rfl:=toList_arr h1
     obtain ⟨x0,hx0,h3⟩:=cOpds_one h2
     obtain rfl:=toList_arr hx0
     split at hc <;> try (cases hc;done)
     rename_i e hu
     cases hc
     have fin:∀ n,(∃ xa,V ρ w xa (a.eval x0)∧(xa = .nilsl∧n=0∨(∃ b o l es,xa = .sl b o l es (some n))∨∃ q l,xa = .vs q l (some n)))→v = .int .i64 n →
      ∃ v',(execOp a.eval ⟨dst,.call ⟨.builtin .cap,[x0].toArray,[t].toArray⟩,ty,pos,af,gd⟩).run C.P w = .ok (.value v') w∧V ρ w v v':=by
      rintro n ⟨xa,h4,h5⟩ rfl
      have h6:=cap_sound (ty:=ty) hu h4 h5
      refine ⟨_,?_,.int _ _⟩
      rw [exec_builtin]
      simp [builtin,h6]
     simp only [pureA] at hv
     split at hv <;> try (cases hv;done)
     · rename_i h4;cases hv;exact fin 0 ⟨_,r.opd h3 h4,.inl ⟨rfl,rfl⟩⟩ rfl
     · rename_i h4;cases hv;exact fin _ ⟨_,r.opd h3 h4,.inr (.inl ⟨_,_,_,_,rfl⟩)⟩ rfl
     · rename_i h4;cases hv;exact fin _ ⟨_,r.opd h3 h4,.inr (.inr ⟨_,_,rfl⟩)⟩ rfl
   · -- append
     split at hc
     · split at hc
       · cases hc;simp [IOp.heapy] at hh
       · cases hc
     · split at hc
       · cases hc;simp [IOp.heapy] at hh
       · cases hc
     · cases hc
   · -- copy
     split at hc
     · split at hc
       · cases hc;simp [IOp.heapy] at hh
       · cases hc
     · cases hc
   · -- clear
     split at hc
     · split at hc
       · split at hc
         · cases hc;simp [IOp.heapy] at hh
         · cases hc
       · cases hc
     · cases hc
   · -- unsafe.SliceData
     rename_i t x h1 h2
     obtain rfl:=toList_arr h1
     obtain ⟨x0,hx0,h3⟩:=cOpds_one h2
     obtain rfl:=toList_arr hx0
     split at hc <;> try (cases hc;done)
     rename_i e hu
     cases hc
     simp only [pureA] at hv
     split at hv <;> try (cases hv;done)
     · rename_i h4
       cases hv
       have e0:=r.opd h3 h4
       generalize hxv:a.eval x0=xv at e0
       cases e0
       refine ⟨.pointer none,?_,.nilp⟩
       rw [exec_builtin]
       simp [builtin,hxv,Lib.run_unsafeSliceData_nil]
     · rename_i b o len es cap h4
       cases hv
       have e0:=r.opd h3 h4
       generalize hxv:a.eval x0=xv at e0
       cases e0 with
       | @sl _ c d _ _ _ capC _ h hl hcap hb=>
        have hc0:capC≠0:=by omega
        refine ⟨_,?_,.ptr o h⟩
        rw [exec_builtin]
        simp [builtin,hxv,Lib.run_unsafeSliceData_row (P:=C.P) w _ _ _ _ _ hc0]
       | @slD _ _ _ _ capC _ c o' h hl hcap=>
        have hc0:capC≠0:=by omega
        refine ⟨_,?_,.ptrD o c o' h⟩
        rw [exec_builtin]
        simp [builtin,hxv,Lib.run_unsafeSliceData_row (P:=C.P) w _ _ _ _ _ hc0]
   · -- unsafe.String
     split at hc
     · split at hc
       · cases hc;simp [IOp.heapy] at hh
       · cases hc
     · cases hc
   · -- max
     rename_i xs h2
     cases hc
     simp only [pureA] at hv
     split at hv <;> try (cases hv;done)
     rename_i k n rest h4
     obtain ⟨y,m',he,hy,hl⟩:=(r.opds h2 h4).cons_inv
     obtain rfl:=hy.int_inv
     obtain ⟨v',h5,h6⟩:=mm_sound (P:=C.P) true rest m' k n v hl hv
     refine ⟨v',?_,h6⟩
     rw [exec_builtin]
     simp only [if_true] at h5
     simp [builtin,Builtin.max_,he,h5]
   · rename_i xs h2
     cases hc
     simp only [pureA] at hv
     split at hv <;> try (cases hv;done)
     rename_i k n rest h4
     obtain ⟨y,m',he,hy,hl⟩:=(r.opds h2 h4).cons_inv
     obtain rfl:=hy.int_inv
     obtain ⟨v',h5,h6⟩:=mm_sound (P:=C.P) false rest m' k n v hl hv
     refine ⟨v',?_,h6⟩
     rw [exec_builtin]
     simp only [Bool.false_eq_true,if_false] at h5
     simp [builtin,Builtin.min_,he,h5]
 all_goals exfalso
 case next x b=>cases b <;> simp at hc;obtain ⟨_,_,rfl⟩:=hc;simp [IOp.heapy] at hh
 case makeMap t r=>cases r <;> simp at hc;subst hc;simp [IOp.heapy] at hh
 all_goals first
  | (cases hc;done)
  | (simp only [Option.map_eq_some_iff] at hc;obtain ⟨_,_,rfl⟩:=hc;simp [IOp.heapy] at hh;done)
  | (cases hc;simp [IOp.heapy] at hh;done)
  | (
     repeat' (split at hc)
     all_goals first
      | (cases hc;done)
      | (cases hc;simp [IOp.heapy] at hh;done)
      | (simp only [Option.map_eq_some_iff] at hc;obtain ⟨_,_,rfl⟩:=hc;simp [IOp.heapy] at hh;done))
end Go.Ab

/-
  Own work: the operations that look at the heap: what the abstract machine reckons is what the model gives.
-/
namespace Go.Ab
variable {c:Nat} {cs:Array Value} {e:TypeId} {O:Obj} {fr:Nat×Nat}
variable {P:Program} {gl:Nat→Option AV} {ρ:Own} {w:World} {h:Heap}
def Did (P:Program) (gl:Nat→Option AV) (ρ:Own) (h:Heap) (w:World) (r:HR) (v':Value) (w':World):Prop:=
 ∃ ρ',V ρ' w' r.v v'∧Mem P gl ρ' r.h w'∧Ext h r.h ρ ρ' w w'
theorem VL.toList {l:List AV} {m:Array Value} (hl:VL ρ w l m.toList):l.length=m.size:=by rw [hl.length];simp
theorem cellsFrozen {i:Nat} (h:w.heap[c]? = some (.cells cs e (0,0))):w.frozen? ⟨c,i,none⟩=false:=by
 unfold World.frozen?;rw [h];simp
theorem new_cells (m:Mem P gl ρ h w) {l:List AV} {cs:Array Value} (e:TypeId) (hl:VL ρ w l (cs.toList.take l.length)) (hlen:l.length≤cs.size) (hex:exT P e=true→l.length=cs.size) :
 Mem P gl (ρ.upd h.length (.live w.heap.size 0)) (h++[some (.cells l e)]) { w with heap:=w.heap.push (.cells cs e) } ∧
 Ext h (h++[some (.cells l e)]) ρ (ρ.upd h.length (.live w.heap.size 0)) w { w with heap:=w.heap.push (.cells cs e) }:=by
 have x:=Ext.alloc m (some (.cells l e)) (.cells cs e) (.live w.heap.size 0) (.inl ⟨0,rfl⟩)
 refine ⟨Mem.alloc m _ _ _ (.inl ⟨0,rfl⟩) ?_,x⟩
 intro o' ho
 cases ho
 refine .inl ⟨w.heap.size,0,cs,(0,0),Own.upd_self _ _ _,by simp,⟨by omega,fun he=>⟨rfl,hex he⟩⟩,fun i _=>cellsFrozen (cs:=cs) (e:=e) (by simp),fun i a y hx hy=>?_⟩
 have hi:i<l.length:=(List.getElem?_eq_some_iff.1 hx).1
 refine (hl.2 i a y hx ?_).mono x
 rw [List.getElem?_take,if_pos hi]
 simpa using hy
theorem new_cells_eq (m:Mem P gl ρ h w) {l:List AV} {cs:Array Value} (e:TypeId) (hl:VL ρ w l cs.toList) :
 Mem P gl (ρ.upd h.length (.live w.heap.size 0)) (h++[some (.cells l e)]) { w with heap:=w.heap.push (.cells cs e) } ∧
 Ext h (h++[some (.cells l e)]) ρ (ρ.upd h.length (.live w.heap.size 0)) w { w with heap:=w.heap.push (.cells cs e) }:=
 new_cells m e (by rw [hl.length,List.take_length];exact hl) (by rw [hl.toList];exact Nat.le_refl _) (fun _=>hl.toList)
theorem new_sl {len esz capC:Nat} {cap:Option Nat} (hl:len≤capC) (hcap:∀ n,cap=some n→capC=n) (hb:capC*esz≤cs.size) :
 V (ρ.upd h.length (.live w.heap.size 0)) { w with heap:=w.heap.push (.cells cs e) } (.sl h.length 0 len esz cap) (.slice (some ⟨w.heap.size,0,none⟩) len capC):=
 V.sl (d:=0) (Own.upd_self _ _ _) hl hcap ⟨cs,e,(0,0),by simp,by omega⟩
theorem new_ptr:V (ρ.upd h.length (.live w.heap.size 0)) { w with heap:=w.heap.push O } (.ptr h.length 0) (.pointer (some ⟨w.heap.size,0,none⟩)):=
 V.ptr (d:=0) 0 (Own.upd_self _ _ _)
theorem readable (m:Mem P gl ρ h w) {x:AV} {x':Value} (hx:V ρ w x x') {l:List AV} (hr:readAt h x=some l) :
 ∃ (c o:Nat) (g:Nat→Value),x' = .pointer (some ⟨c,o,none⟩)∧∀ (i:Nat) y,l[i]? = some y→w.cell? ⟨c,o+i,none⟩=some (g i)∧V ρ w y (g i):=by
 cases x <;> simp only [readAt,reduceCtorEq] at hr
 case ptr b off=>
  obtain ⟨l0,e,hb',rfl⟩:∃ l0 e,h[b]? = some (some (.cells l0 e))∧l0.drop off=l:=by
   unfold Heap.at at hr
   cases hq:h[b]? with
   | none=>simp [hq] at hr
   | some q=>
    cases q with
    | none=>simp [hq] at hr
    | some o=>cases o <;> simp [hq] at hr;exact ⟨_,_,rfl,hr⟩
  rcases m.blk b _ hb' with ⟨c,d,cs,fr,h1,h2,h3,h4,h5⟩|⟨h1,h2⟩
  · cases hx with
    | ptr _ hρ=>
     rw [h1] at hρ;cases hρ
     refine ⟨c,off+d,fun i=>cs.getD (off+d+i) undef,rfl,fun i y hy=>?_⟩
     have hy':l0[off+i]? = some y:=by simpa using hy
     have hlt:off+i<l0.length:=(List.getElem?_eq_some_iff.1 hy').1
     have hcs:cs[off+i+d]? = some (cs.getD (off+d+i) undef):=by
      have:off+d+i=off+i+d:=by omega
      rw [this]
      have hlt':off+i+d<cs.size:=by have:=h3.1;omega
      simp [hlt']
     refine ⟨?_,h5 (off+i) y _ hy' hcs⟩
     unfold World.cell?
     simp only [h2]
     rw [if_neg (by simp),show off+d+i=off+i+d from by omega]
     rw [show off+d+i=off+i+d from by omega] at hcs
     exact hcs
    | ptrD _ _ _ hρ=>rw [h1] at hρ;cases hρ
  · subst h2
    cases hx with
    | ptr _ hρ=>rw [h1] at hρ;cases hρ
    | ptrD _ _ _ hρ=>rw [h1] at hρ;cases hρ
 case vp l0=>
  cases hr
  cases hx with
  | vp c o g hf hc hg=>
   exact ⟨c,o,g,rfl,fun i y hy=>⟨hc i (List.getElem?_eq_some_iff.1 hy).1,hg i y hy⟩⟩
theorem run_loadCellsFrom {c o:Nat} {g:Nat→Value}:∀ (n i:Nat) (acc:Array Value),(∀ j,i≤j→j<i+n→w.cell? ⟨c,o+j,none⟩=some (g j)) →
 (loadCellsFrom ⟨c,o,none⟩ i n acc).run P w = .ok (acc++((List.range' i n).map g).toArray) w
 | 0,i,acc,_=>by simp [loadCellsFrom]
 | n+1,i,acc,hc=>by
  have h0:=hc i (Nat.le_refl _) (by omega)
  simp only [loadCellsFrom,Sem.run_bind,Addr.add_none,run_load,h0,Result.andThen_ok]
  rw [run_loadCellsFrom n (i+1) _ (fun j h1 h2=>hc j (by omega) (by omega))]
  simp [List.range'_succ]
theorem loadVar_sound {t:TypeId} {n:Nat} {ag:Bool} (hs:shapeOf P t=some (n,ag)) {c o:Nat} {g:Nat→Value} {l:List AV}
 (hr:∀ (i:Nat) y,l[i]? = some y→w.cell? ⟨c,o+i,none⟩=some (g i)∧V ρ w y (g i)) {v:AV} (hv:partOf l 0 n ag=some v) :
 ∃ v',(loadVar t ⟨c,o,none⟩).run P w = .ok v' w∧V ρ w v v':=by
 obtain ⟨i,d,h1,h2,rfl,rfl⟩:=shapeOf_inv hs
 unfold partOf at hv
 simp only [loadVar,Sem.run_bind,run_isAgg' h2,Result.andThen_ok]
 split at hv
 · rename_i hag
   simp only [Option.map_eq_some_iff] at hv
   obtain ⟨r,hr',rfl⟩:=hv
   unfold cut at hr'
   simp only [List.drop_zero] at hr'
   split at hr'
   · rename_i hl
     cases hr'
     have hl':i.size≤l.length:=by simp at hl;omega
     rw [if_pos hag]
     have hrun:=run_loadCellsFrom (P:=P) (w:=w) (c:=c) (o:=o) (g:=g) i.size 0 #[] (fun j _ hj=>by
      have hj':j<l.length:=by omega
      exact (hr j l[j] (List.getElem?_eq_getElem hj')).1)
     refine ⟨.agg ((List.range' 0 i.size).map g).toArray,?_,V.mkAgg ⟨by simp;omega,fun j x y hx hy=>?_⟩⟩
     · simp only [Sem.run_bind,run_sizeOf' h1,Result.andThen_ok,loadCells,hrun]
       simp
     · rw [List.getElem?_take] at hx
       split at hx
       · rename_i hj
         have:=(hr j x hx).2
         rw [List.getElem?_map,List.getElem?_range' hj] at hy
         simp at hy
         subst hy
         exact this
       · cases hx
   · cases hr'
 · rename_i hag
   rw [if_neg hag]
   obtain ⟨h3,h4⟩:=hr 0 v hv
   refine ⟨g 0,?_,h4⟩
   simp only [Nat.add_zero] at h3
   simp only [run_load,h3]
theorem oneA_cell {x:AV} {v:Value} (hx:V ρ w x v) (h:oneA x=true):v.oneCell'=true:=by
 cases hx <;> first|rfl|(simp [oneA] at h)
theorem cell_of_block {o:Nat} (h:w.heap[c]? = some (.cells cs e fr)):w.cell? ⟨c,o,none⟩=cs[o]? := by
 unfold World.cell?;simp [h]
theorem setCell_block {o:Nat} (h:w.heap[c]? = some (.cells cs e fr)) (v:Value) :
 w.setCell ⟨c,o,none⟩ v=w.withBlock c (.cells (cs.setIfInBounds o v) e fr):=by
 have hlt:=(Array.getElem?_eq_some_iff.1 h).1
 have hg:=(Array.getElem?_eq_some_iff.1 h).2
 unfold World.setCell World.withBlock
 congr 1
 apply Array.ext_getElem?
 intro i
 rw [Array.getElem?_modify,Array.getElem?_setIfInBounds]
 by_cases hi:c=i
 · subst hi
   simp [hlt,hg]
 · rw [if_neg hi,if_neg hi]
theorem withBlock_twice {O':Obj}:(w.withBlock c O).withBlock c O'=w.withBlock c O':=by
 unfold World.withBlock
 simp
theorem withBlock_same (h:w.heap[c]? = some O):w.withBlock c O=w:=by
 have hlt:=(Array.getElem?_eq_some_iff.1 h).1
 have hg:=(Array.getElem?_eq_some_iff.1 h).2
 unfold World.withBlock
 have:w.heap.setIfInBounds c O=w.heap:=by
  apply Array.ext_getElem?
  intro i
  rw [Array.getElem?_setIfInBounds]
  by_cases hi:c=i
  · subst hi;simp [hlt,hg]
  · rw [if_neg hi]
 rw [this]
theorem frozen_block {i:Nat} {cs':Array Value} (h:w.heap[c]? = some (.cells cs e fr)) :
 (w.withBlock c (.cells cs' e fr)).frozen? ⟨c,i,none⟩=w.frozen? ⟨c,i,none⟩:=by
 unfold World.frozen?
 rw [withBlock_self (Array.getElem?_eq_some_iff.1 h).1,h]
theorem run_storeCells {c o:Nat} {e:TypeId} {fr:Nat×Nat}:∀ (vs:List Value) (i:Nat) (w:World) (cs:Array Value),w.heap[c]? = some (.cells cs e fr)→o+i+vs.length≤cs.size →
 (∀ j,j<cs.size→w.frozen? ⟨c,j,none⟩=false)→(∀ v∈vs,v.oneCell'=true) →
 (storeCells ⟨c,o,none⟩ vs i).run P w = .ok () (w.withBlock c (.cells (ow cs.toList (o+i) vs).toArray e fr))
 | [],i,w,cs,h,_,_,_=>by
  simp only [storeCells,Sem.run_pure]
  have:ow cs.toList (o+i) []=cs.toList:=by simp [ow]
  rw [this,Array.toArray_toList,withBlock_same h]
 | v::vs,i,w,cs,h,hl,hf,hv=>by
  simp only [List.length_cons] at hl
  simp only [storeCells,Sem.run_bind,Addr.add_none]
  have hlt:o+i<cs.size:=by omega
  rw [run_store P w _ v .plain (hv v (by simp)),cell_of_block h]
  rw [show cs[o+i]? = some cs[o+i] from by simp [hlt]]
  simp only [hf _ hlt,Bool.false_eq_true,if_false,Result.andThen_ok]
  rw [setCell_block h]
  have hc:=(Array.getElem?_eq_some_iff.1 h).1
  have hf':∀ j,j<cs.size→(w.withBlock c (.cells (cs.setIfInBounds (o+i) v) e fr)).frozen? ⟨c,j,none⟩=false:=fun j hj=>by rw [frozen_block h];exact hf j hj
  rw [run_storeCells vs (i+1) _ (cs.setIfInBounds (o+i) v) (withBlock_self hc) (by simp;omega) (by simpa using hf') (fun u hu=>hv u (by simp [hu]))]
  rw [withBlock_twice]
  have e1:(ow (cs.setIfInBounds (o+i) v).toList (o+(i+1)) vs)=ow cs.toList (o+i) (v::vs):=by
   rw [ow_cons (by simp;omega),Array.toList_setIfInBounds]
   rfl
  rw [e1]
theorem blk_cells (m:Mem P gl ρ h w) {b:Nat} {l:List AV} {e:TypeId} (hb:h.at b=some (.cells l e)) :
 h[b]? = some (some (.cells l e))∧BR P gl ρ w b (.cells l e):=by
 have:h[b]? = some (some (.cells l e)):=by
  unfold Heap.at at hb
  cases hq:h[b]? with
  | none=>simp [hq] at hb
  | some q=>simp [hq] at hb;rw [hb]
 exact ⟨this,m.blk b _ this⟩
theorem at_some {b:Nat} {o:Blk} (hb:h.at b=some o):h[b]? = some (some o):=by
 unfold Heap.at at hb
 cases hq:h[b]? with
 | none=>simp [hq] at hb
 | some q=>simp [hq] at hb;rw [hb]
theorem write_sound (m:Mem P gl ρ h w) {b:Nat} {l:List AV} {e:TypeId} (hb:h.at b=some (.cells l e)) {c d:Nat} (hρ:ρ b = .live c d) {off:Nat} {new:List AV} {nv:List Value} (hn:VL ρ w new nv)
 (hoff:off≤l.length) (hlen:∀ cs e' fr,w.heap[c]? = some (.cells cs e' fr)→off+d+new.length≤cs.size) (hone:new.all oneA=true) :
 ∃ w',(storeCells ⟨c,off+d,none⟩ nv).run P w = .ok () w'∧Mem P gl ρ (h.put b (some (.cells (overwrite l off new) e))) w'∧Ext h (h.put b (some (.cells (overwrite l off new) e))) ρ ρ w w':=by
 obtain ⟨h0,hbr⟩:=blk_cells m hb
 rcases hbr with ⟨c',d',cs,fr,h1,h2,h3,h4,h5⟩|⟨h1,_⟩
 · rw [hρ] at h1;cases h1
   have hone':∀ v∈nv,v.oneCell'=true:=by
    intro v hv
    obtain ⟨i,hi,rfl⟩:=List.mem_iff_getElem.1 hv
    have hi':i<new.length:=by rw [hn.length];exact hi
    have ho:oneA new[i]=true:=List.all_eq_true.1 hone _ (List.getElem_mem hi')
    exact oneA_cell (hn.2 i new[i] nv[i] (List.getElem?_eq_getElem hi') (List.getElem?_eq_getElem hi)) ho
   have hlen':off+d+nv.length≤cs.size:=by rw [← hn.length];exact hlen cs e fr h2
   have hrun:=run_storeCells (P:=P) (c:=c) (o:=off+d) (e:=e) (fr:=fr) nv 0 w cs h2 (by omega) h4 hone'
   simp only [Nat.add_zero] at hrun
   have hsz:(ow cs.toList (off+d) nv).toArray.size=cs.size:=by
    have:=ow_length (m:=cs.toList) (new:=nv) (off:=off+d) (by simpa using hlen')
    simpa using this
   have hO:∀ cs0 e0 fr0,w.heap[c]? = some (.cells cs0 e0 fr0)→∃ cs' fr',Obj.cells (ow cs.toList (off+d) nv).toArray e fr = .cells cs' e0 fr'∧cs'.size=cs0.size:=by
    intro cs0 e0 fr0 hq
    rw [h2] at hq;cases hq
    exact ⟨_,_,rfl,hsz⟩
   have x:=Ext.write m h0 hρ (some (.cells (overwrite l off new) e)) (.cells (ow cs.toList (off+d) nv).toArray e fr) hO
   refine ⟨_,hrun,?_,x⟩
   refine Mem.write m h0 hρ _ _ hO ?_
   intro o' ho;cases ho
   have hc:=m.bound _ _ _ hρ
   have hle:Fits P e d (overwrite l off new).length cs.size:=by
    have h9:=hn.length
    have h10:=h3.1
    refine ⟨by simp [overwrite];omega,fun he=>?_⟩
    have h11:=h3.2 he
    refine ⟨h11.1,?_⟩
    simp [overwrite];omega
   refine .inl ⟨c,d,_,fr,hρ,withBlock_self hc,by rw [hsz];exact hle,fun i hi=>by rw [frozen_block h2];exact h4 i (by rw [hsz] at hi;exact hi),fun i x' y hx hy=>?_⟩
   refine V.mono x ?_
   have hy':(ow cs.toList (off+d) nv)[i+d]? = some y:=by simpa using hy
   unfold overwrite at hx
   unfold ow at hy'
   have hnl:=hn.length
   simp only [List.getElem?_append,List.length_append,List.length_take,List.getElem?_take,List.getElem?_drop] at hx hy'
   have t1:min off l.length=off:=by omega
   have t2:min (off+d) cs.toList.length=off+d:=by simp;omega
   rw [t1] at hx
   rw [t2] at hy'
   by_cases k1:i<off
   · rw [if_pos (by omega),if_pos k1,if_pos k1] at hx
     rw [if_pos (by omega),if_pos (by omega),if_pos (by omega)] at hy'
     exact h5 i x' y hx (by simpa using hy')
   · by_cases k2:i<off+new.length
     · rw [if_pos (by omega),if_neg k1] at hx
       rw [if_pos (by omega),if_neg (by omega)] at hy'
       rw [show i+d-(off+d)=i-off from by omega] at hy'
       exact hn.2 _ x' y hx hy'
     · rw [if_neg (by omega)] at hx
       rw [if_neg (by omega)] at hy'
       rw [show off+new.length+(i-(off+new.length))=i from by omega] at hx
       rw [show off+d+nv.length+(i+d-(off+d+nv.length))=i+d from by omega] at hy'
       exact h5 i x' y hx (by simpa using hy')
 · rw [hρ] at h1;cases h1
end Go.Ab

/-
  Own work: append.
-/
namespace Go.Ab
variable {P:Program} {gl:Nat→Option AV} {ρ:Own} {w:World} {h:Heap}
theorem run_loadCells {c o:Nat} {g:Nat→Value} {l:List AV} (hr:∀ (i:Nat) y,l[i]? = some y→w.cell? ⟨c,o+i,none⟩=some (g i)∧V ρ w y (g i)) {k:Nat} (hk:k≤l.length) :
 ∃ cs:List Value,(loadCells ⟨c,o,none⟩ k).run P w = .ok cs.toArray w∧VL ρ w (l.take k) cs:=by
 have hrun:=run_loadCellsFrom (P:=P) (w:=w) (c:=c) (o:=o) (g:=g) k 0 #[] (fun j _ hj=>by
  have hj':j<l.length:=by omega
  exact (hr j l[j] (List.getElem?_eq_getElem hj')).1)
 refine ⟨(List.range' 0 k).map g,by simpa [loadCells] using hrun,by simp;omega,fun j x y hx hy=>?_⟩
 rw [List.getElem?_take] at hx
 split at hx
 · rename_i hj
   have:=(hr j x hx).2
   rw [List.getElem?_map,List.getElem?_range' hj] at hy
   simp at hy
   subst hy
   exact this
 · cases hx
theorem own_readable (m:Mem P gl ρ h w) {b:Nat} {l:List AV} {e:TypeId} (hb:h.at b=some (.cells l e)) {c d:Nat} (hρ:ρ b = .live c d) (off:Nat) :
 ∃ g:Nat→Value,∀ (i:Nat) y,(l.drop off)[i]? = some y→w.cell? ⟨c,off+d+i,none⟩=some (g i)∧V ρ w y (g i):=by
 have hx:V ρ w (.ptr b off) (.pointer (some ⟨c,off+d,none⟩)):=.ptr off hρ
 have hr:readAt h (.ptr b off)=some (l.drop off):=by simp [readAt,hb]
 obtain ⟨c',o',g,he,hg⟩:=readable m hx hr
 cases he
 exact ⟨g,hg⟩
theorem ints_VL:∀ (s:List UInt8),VL ρ w (s.map fun c=>AV.int .u8 c.toNat) (s.map fun c=>Value.int .u8 c.toNat)
 | []=>.nil
 | _::s=>.cons (.int _ _) (ints_VL s)
theorem sliceCells_sound (m:Mem P gl ρ h w) {x:AV} {x':Value} (hx:V ρ w x x') {l:List AV} {n:Nat} (hs:sliceCells h x=some (l,n)) {size:Nat} (hl:l.length=n*size) :
 (Builtin.lenOf x').run P w = .ok n w∧∀ k,k≤n→∃ cs:List Value,(Builtin.firstCells size k x').run P w = .ok cs.toArray w∧VL ρ w (l.take (k*size)) cs:=by
 cases x <;> simp only [sliceCells,reduceCtorEq,Option.some.injEq,Prod.mk.injEq] at hs
 case str s=>
  obtain ⟨rfl,rfl⟩:=hs
  obtain rfl:=hx.str_inv
  by_cases hs0:s=[]
  · subst hs0
    exact ⟨rfl,fun k hk=>⟨[],by simp only [Builtin.firstCells,Sem.run_pure];rw [extract_str];simp,by simpa using VL.nil⟩⟩
  obtain rfl:size=1:=by
   have h1:0<s.length:=List.length_pos_iff.2 hs0
   have h2:s.length*1=s.length*size:=by simpa using hl
   exact (Nat.eq_of_mul_eq_mul_left h1 h2).symm
  refine ⟨by simp [Builtin.lenOf,ByteArray.size],fun k hk=>⟨(s.take k).map fun c=>Value.int .u8 c.toNat,?_,?_⟩⟩
  · simp only [Builtin.firstCells,Sem.run_pure]
    congr 1
    rw [extract_str]
    simp
  · rw [Nat.mul_one,← List.map_take]
    exact ints_VL _
 case nilsl=>
  obtain ⟨rfl,rfl⟩:=hs
  cases hx
  exact ⟨rfl,fun k _=>⟨[],rfl,by simpa using VL.nil⟩⟩
 case vs l0 len cap=>
  obtain ⟨rfl,rfl⟩:=hs
  cases hx with
  | vs c o g hf hlc hcap hc hg=>
   refine ⟨rfl,fun k hk=>?_⟩
   have hk':k*size≤l0.length:=by rw [hl];exact Nat.mul_le_mul_right _ hk
   exact run_loadCells (P:=P) (fun i y hy=>⟨hc i (List.getElem?_eq_some_iff.1 hy).1,hg i y hy⟩) hk'
  | vsN hcap=>exact ⟨rfl,fun k _=>⟨[],rfl,by simpa using VL.nil⟩⟩
  | vsE a hcap=>exact ⟨rfl,fun k hk=>⟨[],by rw [Nat.le_zero.1 hk];(simp only [Builtin.firstCells,loadCells,Nat.zero_mul];rfl),by simpa using VL.nil⟩⟩
 case sl b off len esz cap=>
  split at hs
  · rename_i l0 e hb
    simp only [Option.map_eq_some_iff,Prod.mk.injEq] at hs
    obtain ⟨r,hcut,rfl,rfl⟩:=hs
    unfold cut at hcut
    simp only at hcut
    split at hcut
    · rename_i hlen
      cases hcut
      obtain ⟨h0,hbr⟩:=blk_cells m hb
      have hln:len*esz=len*size:=by rw [← hlen,hl]
      cases hx with
      | @sl _ c d _ _ _ capC _ hρ hlc hcap hs=>
       refine ⟨rfl,fun k hk=>?_⟩
       obtain ⟨g,hg⟩:=own_readable m hb hρ off
       have hk':k*size≤(l0.drop off).length:=by
        have:(List.take (len*esz) (List.drop off l0)).length≤(l0.drop off).length:=by rw [List.length_take];omega
        have h3:k*size≤len*size:=Nat.mul_le_mul_right _ hk
        omega
       obtain ⟨cs,h1,h2⟩:=run_loadCells (P:=P) hg hk'
       refine ⟨cs,h1,?_⟩
       rw [List.take_take,Nat.min_eq_left (by rw [hln];exact Nat.mul_le_mul_right _ hk)]
       exact h2
      | slN hρ=>exact ⟨rfl,fun k _=>⟨[],rfl,by simp at hlen ⊢;exact VL.nil⟩⟩
      | slD _ _ hρ _ _=>rcases hbr.live with ⟨c,d,hl'⟩|hl'|hl' <;> (rw [hρ] at hl';cases hl')
      | slND hρ=>rcases hbr.live with ⟨c,d,hl'⟩|hl'|hl' <;> (rw [hρ] at hl';cases hl')
      | slDE a hρ=>rcases hbr.live with ⟨c,d,hl'⟩|hl'|hl' <;> (rw [hρ] at hl';cases hl')
    · cases hcut
  · split at hs
    · rename_i hn
      subst hn
      cases hs
      cases hx with
      | sl hρ hlc hcap hs=>exact ⟨rfl,fun k hk=>run_loadCells (P:=P) (g:=fun _=>.bool false) (l:=[]) (fun i y hy=>by simp at hy) (by rw [Nat.le_zero.1 hk];simp)⟩
      | slN hρ=>exact ⟨rfl,fun k _=>⟨[],rfl,by simpa using VL.nil⟩⟩
      | slD _ _ hρ _ _=>exact ⟨rfl,fun k hk=>run_loadCells (P:=P) (g:=fun _=>.bool false) (l:=[]) (fun i y hy=>by simp at hy) (by rw [Nat.le_zero.1 hk];simp)⟩
      | slND hρ=>exact ⟨rfl,fun k _=>⟨[],rfl,by simpa using VL.nil⟩⟩
      | slDE a hρ=>exact ⟨rfl,fun k hk=>⟨[],by rw [Nat.le_zero.1 hk];(simp only [Builtin.firstCells,loadCells,Nat.zero_mul];rfl),by simpa using VL.nil⟩⟩
    · cases hs
theorem growBy_le (n:Nat):∀ (k c:Nat),256≤c→c≤2*n→Builtin.growBy n k c≤2*n
 | 0,c,_,h=>h
 | k+1,c,h0,h=>by
  simp only [Builtin.growBy]
  split
  · exact h
  · exact growBy_le n k _ (by omega) (by omega)
theorem nextcap_le {n c:Nat} (h:c<n):Builtin.nextslicecap n c≤2*n:=by
 unfold Builtin.nextslicecap
 split
 · omega
 · split
   · omega
   · exact growBy_le n 4 c (by omega) (by omega)
theorem zeroCells_size (z:Array Value) (n:Nat):(Builtin.zeroCells z n).size=n*z.size:=by simp [Builtin.zeroCells]
structure AppT (P:Program) (t u elem:TypeId) (i:TypeInfo) (z:Value):Prop where
 ht:P.underlying t=some (.slice elem)
 hu:(∃ e,P.underlying u=some (.slice e))∨P.underlying u=some .string
 hi:P.info? elem=some i
 hz:i.zero=some z
 hs:z.cells.size=i.size
theorem append_in {t u ty elem:TypeId} {i:TypeInfo} {z:Value} (ht:AppT P t u elem i z) {base:Option Addr} {len capC n:Nat} {y':Value} {new:Array Value} {w':World}
 (hn:(Builtin.lenOf y').run P w = .ok n w) (hf:(Builtin.firstCells i.size n y').run P w = .ok new w) (hle:len+n≤capC)
 (hs:(match base with|some a=>storeCells (a.add (len*i.size)) new.toList|none=>pure ():Sem Unit).run P w = .ok () w') :
 (Builtin.append_ #[t,u] ty #[.slice base len capC,y']).run P w = .ok (.slice base (len+n) capC) w':=by
 obtain ⟨h1,h2,h3,h4,h5⟩:=ht
 rcases h2 with ⟨e,h2⟩|h2
 all_goals
  cases base with
  | none=>
   simp only [Sem.run_pure,Result.ok.injEq,true_and] at hs
   subst hs
   simp [Builtin.append_,run_underlying' h1,run_underlying' h2,sizeOf,typeInfo,h3,hn,hf,hle]
  | some a=>
   simp only at hs
   simp [Builtin.append_,run_underlying' h1,run_underlying' h2,sizeOf,typeInfo,h3,hn,hf,hle,hs]
theorem append_out {t u ty elem:TypeId} {i:TypeInfo} {z:Value} (ht:AppT P t u elem i z) {base:Option Addr} {len capC n:Nat} {y':Value} {old new:Array Value}
 (hn:(Builtin.lenOf y').run P w = .ok n w) (hlt:capC<len+n) (hb:0<i.bytes) (hr:(len+n)*i.bytes≤roomLimit)
 (ho:(Builtin.firstCells i.size len (.slice base len capC)).run P { w with drawn:=w.drawn+1 } = .ok old { w with drawn:=w.drawn+1 })
 (hf:(Builtin.firstCells i.size n y').run P { w with drawn:=w.drawn+1 } = .ok new { w with drawn:=w.drawn+1 }) :
 ∃ cap,len+n≤cap∧(Builtin.append_ #[t,u] ty #[.slice base len capC,y']).run P w =
  .ok (.slice (some ⟨w.heap.size,0,none⟩) (len+n) cap) { w with drawn:=w.drawn+1,heap:=w.heap.push (.cells (old++new++Builtin.zeroCells z.cells (cap-(len+n))) elem) }:=by
 obtain ⟨h1,h2,h3,h4,h5⟩:=ht
 have hle:¬ (len+n≤capC):=by omega
 have hroom:roomLimit=70368744177664:=by decide
 have hN:len+n≤roomLimit:=Nat.le_trans (Nat.le_mul_of_pos_right _ hb) hr
 have h48:¬ (281474976710656<Builtin.nextslicecap (len+n) capC*i.bytes):=by
  have:=Nat.mul_le_mul_right i.bytes (nextcap_le hlt)
  rw [Nat.mul_assoc] at this
  omega
 have hb':i.bytes≠0:=by omega
 refine ⟨(Question.appendCap (len+n) capC elem).cut (w.tape w.drawn (.appendCap (len+n) capC elem)),by simp [Question.cut],?_⟩
 have ho':(Builtin.firstCells i.size len (.slice base len capC)).run P w.drew = .ok old w.drew:=ho
 have hf':(Builtin.firstCells i.size n y').run P w.drew = .ok new w.drew:=hf
 rcases h2 with ⟨e,h2⟩|h2
 all_goals
  simp [Builtin.append_,run_underlying' h1,run_underlying' h2,sizeOf,typeInfo,zeroValue,h3,h4,hn,hle,h48,hb',Question.forced,newRow,ho',hf']
  rfl
theorem VL.of_zero {l:List AV} {m m':List Value} (h:VL ρ w l (m.take l.length)):VL ρ w l ((m++m').take l.length):=by
 rw [List.take_append_of_le_length]
 · exact h
 · have:=h.length
   simp at this
   omega
theorem put_end {h0:List (Option Blk)} {n:Nat} (hn:h0.length=n) (x y:Option Blk):Heap.put (h0++[x]) n y=h0++[y]:=by
 subst hn
 unfold Heap.put
 rw [List.set_append_right _ _ (Nat.le_refl _)]
 simp
theorem append_sound (m:Mem P gl ρ h w) {t u ty elem:TypeId} {i:TypeInfo} {z:Value} (ht:AppT P t u elem i z) {x y:AV} {x' y':Value} (hx:V ρ w x x') (hy:V ρ w y y')
 (hne:exT P elem=false) {r:HR} (ha:appendA elem i.size i.bytes h x y=some r) :
 ∃ v' w',(Builtin.append_ #[t,u] ty #[x',y']).run P w = .ok v' w'∧Did P gl ρ h w r v' w':=by
 unfold appendA at ha
 split at ha
 · cases ha
 · rename_i new n hsc
   split at ha
   · rename_i hcond
     obtain ⟨hnl,hb,hone⟩:=hcond
     obtain ⟨hlen,hfirst⟩:=sliceCells_sound m hy hsc hnl
     obtain ⟨hlen',hfirst'⟩:=sliceCells_sound (m.drew (w.drawn+1)) (hy.mono (Ext.drew h ρ w _)) hsc hnl
     obtain ⟨nv,hf,hnv⟩:=hfirst n (Nat.le_refl _)
     obtain ⟨nv',hf',hnv'⟩:=hfirst' n (Nat.le_refl _)
     rw [← hnl,List.take_length] at hnv hnv'
     -- nothing is appended
     have none_case:n=0→(∃ base len capC,x' = .slice base len capC∧len≤capC)→r=⟨x,h,[]⟩→∃ v' w',(Builtin.append_ #[t,u] ty #[x',y']).run P w = .ok v' w'∧Did P gl ρ h w r v' w':=by
      rintro rfl ⟨base,len,capC,rfl,hlc⟩ rfl
      have hnv0:nv=[]:=by
       have:=hnv.length;rw [hnl,Nat.zero_mul] at this;exact List.length_eq_zero_iff.1 this.symm
      subst hnv0
      refine ⟨_,w,append_in ht hlen hf (by omega) ?_,ρ,by simpa using hx,m,Ext.refl _ _ _⟩
      cases base <;> simp [storeCells]
     -- a new array
     have new_case:∀ (base:Option Addr) (len capC:Nat) (oldl:List AV) (old:List Value) (h0:Heap) (ρ0:Own),x' = .slice base len capC→capC<len+n→(len+n)*i.bytes≤roomLimit→oldl.length=len*i.size →
      (Builtin.firstCells i.size len x').run P { w with drawn:=w.drawn+1 } = .ok old.toArray { w with drawn:=w.drawn+1 } →
      Mem P gl ρ0 h0 { w with drawn:=w.drawn+1 }→Ext h h0 ρ ρ0 w { w with drawn:=w.drawn+1 }→VL ρ0 { w with drawn:=w.drawn+1 } oldl old→VL ρ0 { w with drawn:=w.drawn+1 } new nv'→h0.length=h.length →
      ∀ wr,r=⟨.sl h.length 0 (len+n) i.size none,h0++[some (.cells (oldl++new) elem)],wr⟩ →
      ∃ v' w',(Builtin.append_ #[t,u] ty #[x',y']).run P w = .ok v' w'∧Did P gl ρ h w r v' w':=by
      rintro base len capC oldl old h0 ρ0 rfl hlt hroom hol hfo m0 x0 ho hn0 hl0 wr rfl
      obtain ⟨cap,hcap,hrun⟩:=append_out (ty:=ty) ht hlen hlt hb hroom hfo hf'
      refine ⟨_,_,hrun,?_⟩
      have e1:=ho.length
      have e2:=hn0.length
      have hcs:(old.toArray++nv'.toArray++Builtin.zeroCells z.cells (cap-(len+n))).size=(oldl++new).length+(cap-(len+n))*i.size:=by
       rw [Array.size_append,zeroCells_size,ht.hs]
       simp;omega
      have hvl:VL ρ0 { w with drawn:=w.drawn+1 } (oldl++new) ((old.toArray++nv'.toArray++Builtin.zeroCells z.cells (cap-(len+n))).toList.take (oldl++new).length):=by
       have h9:=ho.append hn0
       have e9:=h9.length
       rw [show (old.toArray++nv'.toArray++Builtin.zeroCells z.cells (cap-(len+n))).toList=(old++nv')++(Builtin.zeroCells z.cells (cap-(len+n))).toList from by simp]
       refine VL.of_zero ?_
       rw [e9,List.take_length]
       exact h9
      obtain ⟨m1,x1⟩:=new_cells m0 (l:=oldl++new) (cs:=old.toArray++nv'.toArray++Builtin.zeroCells z.cells (cap-(len+n))) elem hvl (by rw [hcs];omega) (fun he=>by rw [hne] at he;cases he)
      rw [← hl0]
      refine ⟨_,new_sl hcap (by simp) ?_,m1,x0.trans x1⟩
      rw [hcs,List.length_append,hol,hnl,← Nat.add_mul,← Nat.add_mul]
      have:len+n+(cap-(len+n))=cap:=by omega
      rw [this]
      exact Nat.le_refl _
     have md:=m.drew (w.drawn+1)
     have xd:=Ext.drew h ρ w (w.drawn+1)
     split at ha
     · -- nil
       cases hx
       split at ha
       · rename_i h0;cases ha
         exact none_case h0 ⟨_,_,_,rfl,Nat.le_refl _⟩ rfl
       · rename_i h0
         split at ha
         · rename_i hroom;cases ha
           exact new_case none 0 0 [] [] h ρ rfl (by omega) (by simpa using hroom) (by simp) rfl md xd VL.nil hnv' rfl [] (by simp)
         · cases ha
     · -- by its content
       rename_i l len cap
       obtain ⟨base,len',capC,rfl,hlc,hsp,hnil⟩:=slice_parts hx trivial
       obtain ⟨rfl,hcap⟩:=vs_len hx
       split at ha
       · rename_i h0;cases ha
         exact none_case h0 ⟨_,_,_,rfl,hlc⟩ rfl
       · rename_i h0
         split at ha
         · rename_i c
           split at ha
           · rename_i hc;cases ha
             obtain ⟨h1,hroom,hll⟩:=hc
             have hcc:=hcap c rfl
             obtain ⟨_,ho⟩:=sliceCells_sound md (hx.mono xd) (l:=l) (n:=len') (by simp [sliceCells]) hll
             obtain ⟨old,ho1,ho2⟩:=ho len' (Nat.le_refl _)
             rw [← hll,List.take_length] at ho2
             exact new_case base len' capC l old h ρ rfl (by omega) hroom hll ho1 md xd ho2 hnv' rfl [] rfl
           · cases ha
         · cases ha
     · -- into a block of the call's own
       rename_i b off len e cap
       obtain ⟨base,len',capC,rfl,hlc,hsp,hnil⟩:=slice_parts hx trivial
       obtain ⟨rfl,hcap⟩:=sl_len hx
       split at ha
       · rename_i h0;cases ha
         exact none_case h0 ⟨_,_,_,rfl,hlc⟩ rfl
       · rename_i h0
         split at ha <;> try (cases ha;done)
         rename_i hc
         obtain ⟨he,hroom⟩:=hc
         subst he
         split at ha <;> try (cases ha;done)
         rename_i l el hat
         obtain ⟨hb0,hbr⟩:=blk_cells m hat
         have hρl:ρ b≠.dead:=fun hd=>by rcases hbr.live with ⟨_,_,hl'⟩|hl'|hl' <;> (rw [hd] at hl';cases hl')
         split at ha
         · -- the capacity is known
           rename_i c
           have hcc:=hcap c rfl
           split at ha
           · rename_i hle
             split at ha
             · rename_i hin;cases ha
               cases hx with
               | @sl _ cb d _ _ _ _ _ hρ _ _ hs=>
                obtain ⟨cs,e',fr,h5,h6⟩:=hs
                have hoff:off+len'*i.size≤l.length:=by
                 have:len'*i.size≤(len'+n)*i.size:=Nat.mul_le_mul_right _ (by omega)
                 omega
                obtain ⟨w',hst,m1,x1⟩:=write_sound (off:=off+len'*i.size) m hat hρ hnv hoff (fun cs0 e0 fr0 hq=>by
                 rw [h5] at hq;cases hq
                 rw [hnl]
                 have:(len'+n)*i.size≤capC*i.size:=Nat.mul_le_mul_right _ (by omega)
                 rw [Nat.add_mul] at this
                 omega) hone
                refine ⟨_,w',append_in ht hlen hf (by omega) (by
                 show Sem.run P (storeCells ((⟨cb,off+d,none⟩:Addr).add (len'*i.size)) nv) w=_
                 rw [Addr.add_none,show off+d+len'*i.size=off+len'*i.size+d from by omega];exact hst),ρ,?_,m1,x1⟩
                obtain ⟨cs',fr',h7,h8⟩:=x1.shape _ _ _ _ h5
                exact .sl hρ (by omega) hcap ⟨cs',e',fr',h7,by omega⟩
               | slD _ _ hρ _ _=>exact absurd hρ hρl
               | slDE a hρ=>exact absurd hρ hρl
             · cases ha
           · rename_i hgt
             split at ha
             · rename_i old' hcut;cases ha
               have hcut':=hcut
               unfold cut at hcut'
               simp only at hcut'
               split at hcut'
               · rename_i hcl
                 cases hcut'
                 obtain ⟨_,ho⟩:=sliceCells_sound md (hx.mono xd) (l:=List.take (len'*i.size) (List.drop off l)) (n:=len') (by simp [sliceCells,hat,hcut]) hcl
                 obtain ⟨old,ho1,ho2⟩:=ho len' (Nat.le_refl _)
                 rw [List.take_take,Nat.min_self] at ho2
                 exact new_case base len' capC _ old h ρ rfl (by omega) hroom hcl ho1 md xd ho2 hnv' rfl [] rfl
               · cases hcut'
             · cases ha
         · -- the capacity is not known
           split at ha
           · rename_i hend;cases ha
             obtain ⟨hend,rfl⟩:=hend
             have hcl:(List.take (len'*i.size) (List.drop off l)).length=len'*i.size:=by simp;omega
             have hdrop:List.take (len'*i.size) (List.drop off l)=List.drop off l:=List.take_of_length_le (by simp;omega)
             by_cases hfit:len'+n≤capC
             · -- there is room
               cases hx with
               | @sl _ cb d _ _ _ _ _ hρ _ _ hs=>
                obtain ⟨cs,e',fr,h5,h6⟩:=hs
                have hroomc:off+d+(len'+n)*i.size≤cs.size:=by
                 have:(len'+n)*i.size≤capC*i.size:=Nat.mul_le_mul_right _ hfit
                 omega
                have hbr':BR P gl ((ρ.upd b .dead).upd h.length (.live cb (off+d))) w h.length (.cells (l.drop off) el):=by
                 rcases hbr with ⟨c',d',cs',fr',g1,g2,g3,g4,g5⟩|⟨g1,g2⟩
                 · rw [hρ] at g1;cases g1
                   rw [h5] at g2;cases g2
                   refine .inl ⟨cb,off+d,cs,fr,Own.upd_self _ _ _,h5,⟨by have:=g3.1;simp;omega,fun he=>by rw [hne] at he;cases he⟩,g4,fun j a v' ha hv=>?_⟩
                   refine (g5 (off+j) a v' (by simpa using ha) (by rw [show off+j+d=j+(off+d) from by omega];exact hv)).mono (Ext.move m hb0 hρ (some (.cells (l.drop off) el)) (off+d))
                 · rw [hρ] at g1;cases g1
                have m1:=Mem.move m hb0 hρ (some (.cells (l.drop off) el)) (off+d) (fun o' ho=>by cases ho;exact hbr')
                have x1:=Ext.move m hb0 hρ (some (.cells (l.drop off) el)) (off+d)
                have hat':(h.set b none++[some (.cells (l.drop off) el)]:Heap).at h.length=some (.cells (l.drop off) el):=by
                 unfold Heap.at;rw [List.getElem?_append_right (by simp)];simp
                have hρ':((ρ.upd b .dead).upd h.length (.live cb (off+d))) h.length = .live cb (off+d):=Own.upd_self _ _ _
                obtain ⟨w',hst,m2,x2⟩:=write_sound (off:=len'*i.size) m1 hat' hρ' (hnv.mono x1) (by simp;omega) (fun cs0 e0 fr0 hq=>by
                 rw [h5] at hq;cases hq
                 rw [hnl];rw [Nat.add_mul] at hroomc
                 omega) hone
                have hh:(h.set b none++[some (.cells (l.drop off) el)]:Heap).put h.length (some (.cells (overwrite (l.drop off) (len'*i.size) new) el))=h.put b none++[some (.cells (l.drop off++new) el)]:=by
                 have:overwrite (l.drop off) (len'*i.size) new=l.drop off++new:=by
                  unfold overwrite
                  have e2:(l.drop off).drop (len'*i.size+new.length)=[]:=List.drop_of_length_le (by rw [List.length_drop];omega)
                  rw [hdrop,e2,List.append_nil]
                 rw [this]
                 exact put_end (List.length_set) _ _
                rw [hh] at m2 x2
                refine ⟨_,w',append_in ht hlen hf hfit (by
                 show Sem.run P (storeCells ((⟨cb,off+d,none⟩:Addr).add (len'*i.size)) nv) w=_
                 rw [Addr.add_none,show off+d+len'*i.size=len'*i.size+(off+d) from by omega];exact hst),_,?_,m2,x1.trans x2⟩
                obtain ⟨cs',fr',h7,h8⟩:=(x1.trans x2).shape _ _ _ _ h5
                have:=V.sl (w:=w') (o:=0) (len:=len'+n) (esz:=i.size) (capC:=capC) (cap:=none) hρ' hfit (by simp) ⟨cs',e',fr',h7,by rw [Nat.zero_add];omega⟩
                simpa using this
               | slN hρ=>omega
               | slD _ _ hρ _ _=>exact absurd hρ hρl
               | slND hρ=>exact absurd hρ hρl
             · have hsc':sliceCells h (.sl b off len' i.size none)=some (List.take (len'*i.size) (List.drop off l),len'):=by
                simp [sliceCells,hat,cut];omega
               obtain ⟨_,ho⟩:=sliceCells_sound md (hx.mono xd) hsc' hcl
               obtain ⟨old,ho1,ho2⟩:=ho len' (Nat.le_refl _)
               rw [List.take_take,Nat.min_self,hdrop] at ho2
               have m1:=md.forget hb0
               have x1:=xd.trans (Ext.forget (w:={ w with drawn:=w.drawn+1 }) hb0 (fun c d hl=>m.bound b c d hl))
               exact new_case base len' capC _ old (h.set b none) _ rfl (by omega) hroom (by simp;omega) ho1 m1 x1 (ho2.mono (Ext.forget (w:={ w with drawn:=w.drawn+1 }) hb0 (fun c d hl=>m.bound b c d hl))) (hnv'.mono (Ext.forget (w:={ w with drawn:=w.drawn+1 }) hb0 (fun c d hl=>m.bound b c d hl))) (by simp) [b] rfl
           · cases ha
     · cases ha
   · cases ha
end Go.Ab

/-
  Own work: the operations that look at the heap, all of them together.
-/
namespace Go.Ab
variable {P:Program} {gl:Nat→Option AV} {ρ:Own} {w:World} {h:Heap} {C:Cx} {s:St} {a:Act}
def Done1 (C:Cx) (e:Operand→Value) (o:Oper) (ρ:Own) (h:Heap) (w:World) (r:HR):Prop:=
 ∃ v' w',((execOp e o).run C.P w = .ok (.value v') w'∨((execOp e o).run C.P w = .ok .skip w'∧v'=undef))∧Did C.P C.gl ρ h w r v' w'
theorem Done1.val {o:Oper} {r:HR} {v':Value} {w':World} (h1:(execOp a.eval o).run C.P w = .ok (.value v') w') (h2:Did C.P C.gl ρ h w r v' w'):Done1 C a.eval o ρ h w r:=⟨v',w',.inl h1,h2⟩
theorem Done1.skip {o:Oper} {r:HR} {w':World} (h1:(execOp a.eval o).run C.P w = .ok .skip w') (h2:Did C.P C.gl ρ h w r undef w'):Done1 C a.eval o ρ h w r:=⟨undef,w',.inr ⟨h1,rfl⟩,h2⟩
theorem did_same (m:Mem P gl ρ h w) {x:AV} {v':Value} (hv:V ρ w x v'):Did P gl ρ h w ⟨x,h,[]⟩ v' w:=⟨ρ,hv,m,Ext.refl _ _ _⟩
theorem did_cells (m:Mem P gl ρ h w) {l:List AV} {cs:Array Value} (e:TypeId) (hl:VL ρ w l cs.toList) {x:AV} {v':Value} (hv:V (ρ.upd h.length (.live w.heap.size 0)) { w with heap:=w.heap.push (.cells cs e) } x v') :
 Did P gl ρ h w ⟨x,h++[some (.cells l e)],[]⟩ v' { w with heap:=w.heap.push (.cells cs e) }:=
 let ⟨m1,x1⟩:=new_cells_eq m e hl
 ⟨_,hv,m1,x1⟩
theorem repeat_VL {z:List AV} {zv:Array Value} (hz:VL ρ w z zv.toList):∀ n,VL ρ w (repeatZero z n) ((Array.range (n*zv.size)).map (zv[· % zv.size]!)).toList:=by
 intro n
 have key:∀ n,((Array.range (n*zv.size)).map (zv[· % zv.size]!)).toList=(List.replicate n zv.toList).flatten:=by
  intro n
  by_cases h0:zv.size=0
  · have hz0:zv.toList=[]:=by simpa using h0
    simp [h0,hz0]
  · induction n with
    | zero=>simp
    | succ n ih=>
     rw [List.replicate_succ',List.flatten_append,← ih]
     simp only [Array.toList_map,Array.toList_range]
     rw [Nat.succ_mul,List.range_add,List.map_append]
     congr 1
     simp only [List.map_map,List.flatten_cons,List.flatten_nil,List.append_nil]
     apply List.ext_getElem
     · simp
     · intro i h1 h2
       simp at h1
       simp [Nat.add_comm,Nat.mod_eq_of_lt h1,h1]
 rw [key]
 induction n with
 | zero=>exact .nil
 | succ n ih=>
  simp only [repeatZero,List.replicate_succ,List.flatten_cons]
  exact hz.append ih
theorem repeat_length (z:List AV):∀ n,(repeatZero z n).length=n*z.length
 | 0=>by simp [repeatZero]
 | n+1=>by simp [repeatZero,repeat_length z n,Nat.succ_mul];omega
theorem elemOfSlice_inv {t e:TypeId} {n b:Nat} (h:elemOfSlice P t=some (e,n,b)):∃ i,P.underlying t=some (.slice e)∧P.info? e=some i∧i.size=n∧i.bytes=b:=by
 unfold elemOfSlice at h
 split at h
 · rename_i e' hu
   split at h
   · rename_i i hi;cases h;exact ⟨i,hu,hi,rfl,rfl⟩
   · cases h
 · cases h
theorem zeroCellsOf {e:TypeId} {z:List AV} (h:(zeroOf P e).bind AV.cells=some z):∃ (i:TypeInfo) (v:Value),P.info? e=some i∧i.zero=some v∧(∀ (ρ:Own) (w:World),VL ρ w z v.cells.toList)∧∀ w:World,(zeroValue e).run P w = .ok v w:=by
 simp only [Option.bind_eq_some_iff] at h
 obtain ⟨u,h1,h2⟩:=h
 unfold zeroOf at h1
 split at h1
 · rename_i i hi
   split at h1
   · rename_i v hv
     exact ⟨i,v,hi,hv,fun ρ w=>cells_VL (cConst_V 5 v u h1) h2,fun w=>by simp [zeroValue,run_typeInfo' hi,hv]⟩
   · cases h1
 · cases h1
theorem bslice_sound (r:Rel C ρ s a w) {t elem:TypeId} {n bb len:Nat} {ps:Array (Nat×Operand)} {z:List AV} {cps:List (Nat×Nat×IOpd)} (he:elemOfSlice C.P t=some (elem,n,bb)) (hz:(zeroOf C.P elem).bind AV.cells=some z)
 (hc:cParts C (fun j=>some (j*n,n)) ps.toList=some cps) (hn0:0<n) (hzn:z.length=n) (hroom:len*n≤2^24) {vs:List (Nat×Nat×AV)} (hv:s.parts cps=some vs) {l:List AV} (hf:fillA (repeatZero z len) vs=some l) (hll:l.length=len*n)
 {o:Oper} (ho:o.op = .buildSlice t len ps):Done1 C a.eval o ρ s.hp w ⟨.sl s.hp.length 0 len n (some len),s.hp++[some (.cells l elem)],[]⟩:=by
 obtain ⟨i,hu,hi,rfl,rfl⟩:=elemOfSlice_inv he
 obtain ⟨i',zv,hi',hzv,hzl,hzrun⟩:=zeroCellsOf hz
 rw [hi] at hi';cases hi'
 have hzs:zv.cells.size=i.size:=by rw [← hzn,(hzl ρ w).toList]
 have hrep:=repeat_VL (hzl ρ w) len
 obtain ⟨e1,e2⟩:=parts_sound r hc hv
 obtain ⟨m',h1,h2⟩:=fill_sound (place:=fun j=>some (j*i.size,i.size)) vs _ _ _ l e1 e2 hrep hf
 have hms:m'.length=len*i.size:=by rw [← h2.length,hll]
 refine Done1.val (v':=.slice (some ⟨w.heap.size,0,none⟩) len len) (w':={ w with heap:=w.heap.push (.cells m'.toArray elem) }) ?_ (did_cells r.mem elem (by simpa using h2) (new_sl (Nat.le_refl _) (by simp) (by simp [hms])))
 obtain ⟨dst,op,ty,pos,af,gd⟩:=o
 simp only at ho
 subst ho
 have hroom':¬ (16777216<len*i.size):=by omega
 have hfill:Instr.fill (fun j=>some (j*i.size,i.size)) ((Array.range (len*i.size)).map (zv.cells[· % zv.cells.size]!)) (ps.map fun p=>(p.1,a.eval p.2)).toList=some m'.toArray:=by
  rw [Array.toList_map]
  rw [hzs] at h1
  rw [hzs]
  have e3:((Array.range (len*i.size)).map (zv.cells[· % i.size]!)).toList.toArray=(Array.range (len*i.size)).map (zv.cells[· % i.size]!):=Array.toArray_toList
  rw [e3] at h1
  exact h1
 have hr0:(Array.range 0:Array Nat) = #[]:=rfl
 rw [Array.toList_map] at hfill
 by_cases hl0:len*i.size=0
 · have hfill0:Instr.fill (fun j=>some (j*i.size,i.size)) #[] (List.map (fun p=>(p.1,a.eval p.2)) ps.toList)=some m'.toArray:=by
    rw [hl0,hr0] at hfill;simpa using hfill
   simp only [execOp,Instr.buildSlice,Sem.run_bind,run_underlying' hu,Result.andThen_ok,run_sizeOf' hi,hl0,hr0]
   simp [hfill0,newRow]
 · simp only [execOp,Instr.buildSlice,Sem.run_bind,run_underlying' hu,Result.andThen_ok,run_sizeOf' hi]
   have hl00:¬ (len=0∨i.size=0):=by rwa [← Nat.mul_eq_zero]
   simp [hroom',hzrun,hfill,newRow]
   exact fun h=>absurd h hl0
theorem mkslice_sound (r:Rel C ρ s a w) {t elem:TypeId} {n bb:Nat} {lo co:Operand} {z:List AV} (he:elemOfSlice C.P t=some (elem,n,bb)) (hz:(zeroOf C.P elem).bind AV.cells=some z) (hzn:z.length=n) (hn0:0<n)
 {k k':IntKind} {x y:Int} (hl:a.eval lo = .int k x) (hc:a.eval co = .int k' y) (h0:0≤x) (h1:x≤y) (h2:y.toNat*bb≤roomLimit) (h3:y≤2^46) {o:Oper} (ho:o.op = .makeSlice t lo co) :
 Done1 C a.eval o ρ s.hp w ⟨.sl s.hp.length 0 x.toNat n (some y.toNat),s.hp++[some (.cells (repeatZero z y.toNat) elem)],[]⟩:=by
 obtain ⟨i,hu,hi,rfl,rfl⟩:=elemOfSlice_inv he
 obtain ⟨i',zv,hi',hzv,hzl,hzrun⟩:=zeroCellsOf hz
 rw [hi] at hi';cases hi'
 have hzs:zv.cells.size=i.size:=by rw [← hzn,(hzl ρ w).toList]
 have hrep:=repeat_VL (hzl ρ w) y.toNat
 have hlen:=repeat_length z y.toNat
 refine Done1.val (v':=.slice (some ⟨w.heap.size,0,none⟩) x.toNat y.toNat) (w':={ w with heap:=w.heap.push (.cells ((Array.range (y.toNat*zv.cells.size)).map (zv.cells[· % zv.cells.size]!)) elem) }) ?_
  (did_cells r.mem elem hrep (new_sl (by omega) (by simp) (by simp [hzs])))
 obtain ⟨dst,op,ty,pos,af,gd⟩:=o
 simp only at ho
 subst ho
 have hroom:roomLimit=70368744177664:=by decide
 have w1:IntKind.i64.wrap x=x:=IntWalk.i64_in x (by omega)
 have w2:IntKind.i64.wrap y=y:=IntWalk.i64_in y (by omega)
 have hy:(y.toNat:Int)=y:=by omega
 have hb:¬ ((281474976710656:Int)<(i.bytes:Int)*y):=by
  have:((y.toNat*i.bytes:Nat):Int)≤70368744177664:=by omega
  rw [Int.natCast_mul,hy,Int.mul_comm] at this
  omega
 have hcond:¬ (((y<0∨(281474976710656:Int)<(i.bytes:Int)*y)∨x<0)∨y<x):=by omega
 have hr0:(Array.range 0:Array Nat) = #[]:=rfl
 simp [execOp,Instr.makeSlice,run_underlying' hu,hl,hc,asInt,run_asIntOf,run_typeInfo' hi,run_sizeOf' hi,w1,w2,hcond,newRow,hzrun,hzs]
 by_cases hy0:y.toNat*i.size=0
 · simp [hy0,hr0]
 · simp [hy0]
theorem box_sound (r:Rel C ρ s a w) {e:TypeId} {xo:Operand} {x:AV} {l:List AV} (hx:V ρ w x (a.eval xo)) (hl:x.cells=some l) {o:Oper} (ho:o.op = .box e xo) :
 Done1 C a.eval o ρ s.hp w ⟨.ptr s.hp.length 0,s.hp++[some (.cells l e)],[]⟩:=by
 refine Done1.val (v':=.pointer (some ⟨w.heap.size,0,none⟩)) (w':={ w with heap:=w.heap.push (.cells (a.eval xo).cells e) }) ?_ (did_cells r.mem e (cells_VL hx hl) new_ptr)
 obtain ⟨dst,op,ty,pos,af,gd⟩:=o
 simp only at ho
 subst ho
 simp [execOp,Instr.box,newVar,newRow]
theorem alloc_sound (r:Rel C ρ s a w) {e:TypeId} {z:List AV} (hz:(zeroOf C.P e).bind AV.cells=some z) {o:Oper} (ho:o.op = .alloc e) :
 Done1 C a.eval o ρ s.hp w ⟨.ptr s.hp.length 0,s.hp++[some (.cells z e)],[]⟩:=by
 obtain ⟨i,zv,hi,hzv,hzl,hzrun⟩:=zeroCellsOf hz
 refine Done1.val (v':=.pointer (some ⟨w.heap.size,0,none⟩)) (w':={ w with heap:=w.heap.push (.cells zv.cells e) }) ?_ (did_cells r.mem e (hzl ρ w) new_ptr)
 obtain ⟨dst,op,ty,pos,af,gd⟩:=o
 simp only at ho
 subst ho
 simp [execOp,Instr.alloc,hzrun,newVar,newRow]
theorem load_sound (r:Rel C ρ s a w) {t:TypeId} {n:Nat} {ag:Bool} {xo:Operand} {x:AV} (hs:shapeOf C.P t=some (n,ag)) (hx:V ρ w x (a.eval xo)) {l:List AV} (hl:readAt s.hp x=some l) {v:AV} (hv:partOf l 0 n ag=some v)
 {o:Oper} (ho:o.op = .load t xo):Done1 C a.eval o ρ s.hp w ⟨v,s.hp,[]⟩:=by
 obtain ⟨c,off,g,he,hg⟩:=readable r.mem hx hl
 obtain ⟨v',h1,h2⟩:=loadVar_sound hs hg hv
 refine Done1.val (v':=v') (w':=w) ?_ (did_same r.mem h2)
 obtain ⟨dst,op,ty,pos,af,gd⟩:=o
 simp only at ho
 subst ho
 simp [execOp,Instr.loadAt,he,Instr.sureAddr,h1]
theorem store_sound (r:Rel C ρ s a w) {t:TypeId} {n:Nat} {ag:Bool} {xo yo:Operand} {b off:Nat} {y:AV} {new l:List AV} {el:TypeId} (hs:shapeOf C.P t=some (n,ag)) (hx:V ρ w (.ptr b off) (a.eval xo)) (hy:V ρ w y (a.eval yo))
 (hn:y.cells=some new) (hb:s.hp.at b=some (.cells l el)) (hnn:new.length=n) (hin:off+n≤l.length) (hone:new.all oneA=true) {o:Oper} (ho:o.op = .store t xo yo) :
 Done1 C a.eval o ρ s.hp w ⟨undefA,s.hp.put b (some (.cells (overwrite l off new) el)),[b]⟩:=by
 obtain ⟨i,d0,hi,hd0,rfl,rfl⟩:=shapeOf_inv hs
 obtain ⟨h0,hbr⟩:=blk_cells r.mem hb
 have hyv:=cells_VL hy hn
 generalize hxv:a.eval xo=xv at hx
 cases hx with
 | ptr _ hρ=>
  rename_i c d
  obtain ⟨w',h1,m1,x1⟩:=write_sound (off:=off) r.mem hb hρ hyv (by omega) (fun cs e fr hq=>by
   rcases hbr with ⟨c',d',cs',fr',g1,g2,g3,_⟩|⟨g1,_⟩
   · rw [hρ] at g1;cases g1;rw [hq] at g2;cases g2;have:=g3.1;omega
   · rw [hρ] at g1;cases g1) hone
  refine Done1.skip (w':=w') ?_ ⟨ρ,V.undef,m1,x1⟩
  obtain ⟨dst,op,ty,pos,af,gd⟩:=o
  simp only at ho
  subst ho
  have hsz:(a.eval yo).cells.size=i.size:=by rw [← hyv.toList,hnn]
  simp [execOp,Instr.storeAt,hxv,Instr.sureAddr,storeVar,run_sizeOf' hi,hsz,h1]
 | ptrD _ _ _ hρ=>rcases hbr.live with ⟨_,_,hl'⟩|hl'|hl' <;> (rw [hρ] at hl';cases hl')
end Go.Ab

/-
  Own work: maps, ranges over strings, append, copy, slices of arrays, bytes to string.
-/
namespace Go.Ab
variable {t:TypeId}
variable {P:Program} {gl:Nat→Option AV} {ρ:Own} {w:World} {h:Heap} {C:Cx} {s:St} {a:Act}
theorem bytes_beq (x y:List UInt8):((ByteArray.mk x.toArray) == (ByteArray.mk y.toArray))=(x == y):=by
 have e:∀ x y:ByteArray,(x == y)=(x.data == y.data):=fun _ _=>rfl
 rw [e];simp
theorem run_getObjM {c:Nat} {o:Obj} (h:w.heap[c]? = some o) (ho:∀ cs e fr,o≠.cells cs e fr):(getObj c).run P w = .ok o w:=by
 cases o <;> first|exact absurd rfl (ho _ _ _)|simp [getObj,Sem.run,h]
theorem run_setObjM {c:Nat} {o o':Obj} (h:w.heap[c]? = some o) (ho:∀ cs e fr,o≠.cells cs e fr):(setObj c o').run P w = .ok () (w.withBlock c o'):=by
 cases o <;> first|exact absurd rfl (ho _ _ _)|simp [setObj,Sem.run,h,World.withBlock]
theorem at_map (m:Mem P gl ρ h w) {b:Nat} {es:List (AV×AV)} (hb:h.at b=some (.map es)):h[b]? = some (some (.map es))∧∃ c ms clk,ρ b = .live c 0∧w.heap[c]? = some (.map ms clk)∧es.length=ms.size ∧
      ∀ (i:Nat) kx vx m,es[i]? = some (kx,vx)→ms[i]? = some m→V ρ w kx m.key∧V ρ w vx m.val:=
 ⟨at_some hb,m.blk b _ (at_some hb)⟩
def keyD:KeyT→TypeDesc→Prop
 | .int,d=>∃ k,d = .int k
 | .str,d=>d = .string
theorem keyOf_inv {k:KeyT} (hk:keyOf P t=some k):∃ d,P.underlying t=some d∧keyD k d:=by
 unfold keyOf at hk
 split at hk
 · rename_i kk hu;cases hk;exact ⟨_,hu,_,rfl⟩
 · rename_i hu;cases hk;exact ⟨_,hu,rfl⟩
 · cases hk
theorem checkKey_run {k:KeyT} (hk:keyOf P t=some k) (e:Bool) (v:Value):(Instr.checkKey e 10000 t v).run P w = .ok () w:=by
 obtain ⟨d,hu,hd⟩:=keyOf_inv hk
 unfold Instr.checkKey
 rw [Sem.run_bind,run_underlying' hu,Result.andThen_ok]
 cases k
 · obtain ⟨kk,rfl⟩:=hd;simp
 · cases hd;simp
theorem key_eq {kt:KeyT} {d:TypeDesc} (hd:keyD kt d) {k kx:AV} (hk:kt.ok k=true) {k' kx':Value} (h1:V ρ w k k') (h2:V ρ w kx kx') {r:Bool} (he:keyEq k kx=some r) :
 Instr.sameNow d k' kx'=some r∧(r=true→kx'=k'∧Instr.sameBits 10000 kx' k'=true):=by
 cases kt
 · obtain ⟨kk,rfl⟩:=hd
   cases k <;> simp only [KeyT.ok,Bool.false_eq_true] at hk
   cases kx <;> simp only [keyEq,reduceCtorEq,Option.ite_none_right_eq_some,Option.some.injEq] at he
   obtain ⟨rfl,rfl⟩:=he
   cases h1;cases h2
   refine ⟨by simp [Instr.sameNow],fun hr=>?_⟩
   simp only [beq_iff_eq] at hr
   subst hr
   exact ⟨rfl,by simp [Instr.sameBits]⟩
 · cases hd
   cases k <;> simp only [KeyT.ok,Bool.false_eq_true] at hk
   cases kx <;> simp only [keyEq,reduceCtorEq,Option.some.injEq] at he
   subst he
   cases h1;cases h2
   refine ⟨by simp only [Instr.sameNow,bytes_beq],fun hr=>?_⟩
   simp only [beq_iff_eq] at hr
   subst hr
   exact ⟨rfl,by simp only [Instr.sameBits,bytes_beq,beq_self_eq_true]⟩
def FoundR (ρ:Own) (w:World) (ms:List MapEntry) (k':Value) (i:Nat):Option (Nat×AV)→Option (Nat×Value)→Prop
 | none,none=>True
 | some (j,v),some (j',v')=>j=j'∧i≤j∧V ρ w v v'∧∃ e,ms[j-i]? = some e∧e.key=k'∧Instr.sameBits 10000 e.key k'=true
 | _,_=>False
theorem find_sound {kt:KeyT} {d:TypeDesc} (hd:keyD kt d) {k:AV} (hk:kt.ok k=true) {k':Value} (h1:V ρ w k k') :
 ∀ (es:List (AV×AV)) (ms:List MapEntry) (i:Nat) (r:Option (Nat×AV)),es.length=ms.length →
  (∀ (i:Nat) kx vx m,es[i]? = some (kx,vx)→ms[i]? = some m→V ρ w kx m.key∧V ρ w vx m.val)→findA k es i=some r →
  ∃ r',Instr.findNow d k' ms i=some r'∧FoundR ρ w ms k' i r r'
 | [],ms,i,r,hl,_,hf=>by
  cases ms with
  | nil=>simp only [findA,Option.some.injEq] at hf;subst hf;exact ⟨none,rfl,trivial⟩
  | cons _ _=>simp at hl
 | (kx,vx)::es,ms,i,r,hl,hv,hf=>by
  cases ms with
  | nil=>simp at hl
  | cons m ms=>
   obtain ⟨e1,e2⟩:=hv 0 kx vx m rfl rfl
   simp only [findA] at hf
   cases he:keyEq k kx with
   | none=>simp [he] at hf
   | some b=>
    obtain ⟨g1,g2⟩:=key_eq hd hk h1 e1 he
    cases b with
    | true=>
     simp only [he,Option.some.injEq] at hf
     subst hf
     exact ⟨some (i,m.val),by simp [Instr.findNow,g1],rfl,Nat.le_refl _,e2,m,by simp,g2 rfl⟩
    | false=>
     simp only [he] at hf
     obtain ⟨r',h3,h4⟩:=find_sound hd hk h1 es ms (i+1) r (by simpa using hl) (fun i kx vx m hx hm=>hv (i+1) kx vx m (by simpa using hx) (by simpa using hm)) hf
     refine ⟨r',by simp [Instr.findNow,g1,h3],?_⟩
     cases r with
     | none=>cases r' with
       | none=>trivial
       | some _=>exact h4
     | some q=>
      cases r' with
      | none=>exact h4
      | some q'=>
       obtain ⟨a1,a2,a3,e,a4,a5⟩:=h4
       refine ⟨a1,by omega,a3,e,?_,a5⟩
       rw [show q.1-i=q.1-(i+1)+1 from by omega]
       simpa using a4
theorem findKey_run {kt:KeyT} (hk:keyOf P t=some kt) {k:AV} (hok:kt.ok k=true) {k':Value} (h1:V ρ w k k') {es:List (AV×AV)} {ms:List MapEntry} (hl:es.length=ms.length)
 (hv:∀ (i:Nat) kx vx m,es[i]? = some (kx,vx)→ms[i]? = some m→V ρ w kx m.key∧V ρ w vx m.val) {r:Option (Nat×AV)} (hf:findA k es 0=some r) :
 ∃ r',(Instr.findKey t k' ms).run P w = .ok r' w∧FoundR ρ w ms k' 0 r r':=by
 obtain ⟨d,hu,hd⟩:=keyOf_inv hk
 obtain ⟨r',h2,h3⟩:=find_sound hd hok h1 es ms 0 r hl hv hf
 refine ⟨r',?_,h3⟩
 unfold Instr.findKey
 simp [run_underlying' hu,h2]
def foundV (z:AV) (q:Option (Nat×AV)):AV:=match q with|some (_,v)=>v|none=>z
theorem lookup_sound (r:Rel C ρ s a w) {t kt' et:TypeId} {kt:KeyT} {z:AV} {xo io:Operand} {ok:Bool} (hu:C.P.underlying t=some (.map kt' et)) (hk:keyOf C.P kt'=some kt) (hz:zeroOf C.P et=some z)
 {m k:AV} (hm:V ρ w m (a.eval xo)) (hkv:V ρ w k (a.eval io)) (hok:kt.ok k=true) {es:List (AV×AV)} (hes:m = .nilmap∧es=[]∨∃ b,m = .map b∧s.hp.at b=some (.map es))
 {q:Option (Nat×AV)} (hf:findA k es 0=some q) {o:Oper} (ho:o.op = .lookup t xo io ok) :
 Done1 C a.eval o ρ s.hp w ⟨if ok then .tup [foundV z q,.bool q.isSome] else foundV z q,s.hp,[]⟩:=by
 obtain ⟨dst,op,ty,pos,af,gd⟩:=o
 simp only at ho
 subst ho
 obtain ⟨zv,hz1,hz2⟩:=zeroOf_sound (w:=w) (ρ:=ρ) hz
 have hrun:∃ v',(Instr.lookup t (a.eval xo) (a.eval io) ok).run C.P w = .ok v' w∧V ρ w (if ok then .tup [foundV z q,.bool q.isSome] else foundV z q) v':=by
  have tail:∀ (q':Option (Nat×Value)) (ms:List MapEntry),FoundR ρ w ms (a.eval io) 0 q q'→∃ v',((match q' with
   | some (_,v)=>do let p ← (pure (v,true):Sem (Value×Bool));pure (if ok then .tuple #[p.1,.bool p.2] else p.1)
   | none=>do let z ← zeroValue et;let p ← (pure (z,false):Sem (Value×Bool));pure (if ok then .tuple #[p.1,.bool p.2] else p.1):Sem Value)).run C.P w = .ok (if ok then .tuple #[v',.bool q.isSome] else v') w∧V ρ w (foundV z q) v':=by
   intro q' ms h2
   cases q with
   | none=>
    cases q' with
    | some _=>exact h2.elim
    | none=>exact ⟨zv,by simp [hz1],hz2⟩
   | some p=>
    cases q' with
    | none=>exact h2.elim
    | some p'=>exact ⟨p'.2,by simp,h2.2.2.1⟩
  have fin:∀ (v':Value),V ρ w (foundV z q) v'→V ρ w (if ok then .tup [foundV z q,.bool q.isSome] else foundV z q) (if ok then .tuple #[v',.bool q.isSome] else v'):=by
   intro v' hv
   cases ok
   · exact hv
   · exact V.mkTup (VL.cons hv (VL.cons (.bool _) .nil))
  unfold Instr.lookup
  rcases hes with ⟨rfl,rfl⟩|⟨b,rfl,hb⟩
  · generalize hxv:a.eval xo=xv at hm
    cases hm
    obtain ⟨q',h1,h2⟩:=findKey_run (P:=C.P) (es:=[]) (ms:=[]) hk hok hkv rfl (by simp) hf
    obtain ⟨v',t1,t2⟩:=tail q' _ h2
    refine ⟨_,?_,fin v' t2⟩
    simp only [Sem.run_bind,run_underlying' hu,Result.andThen_ok,Sem.run_pure,checkKey_run hk,h1]
    exact t1
  · obtain ⟨_,c,ms,clk,g1,g2,g3,g4⟩:=at_map r.mem hb
    generalize hxv:a.eval xo=xv at hm
    cases hm with
    | map hρ=>
     rw [hρ] at g1;cases g1
     obtain ⟨q',h1,h2⟩:=findKey_run (P:=C.P) (ms:=ms.toList) hk hok hkv (by simpa using g3) (by simpa using g4) hf
     obtain ⟨v',t1,t2⟩:=tail q' _ h2
     refine ⟨_,?_,fin v' t2⟩
     simp only [Sem.run_bind,run_underlying' hu,Result.andThen_ok,Sem.run_pure,checkKey_run hk,h1,run_getObjM g2 (by simp)]
     exact t1
    | mapD _ hρ=>rw [hρ] at g1;cases g1
 obtain ⟨v',h3,h4⟩:=hrun
 refine Done1.val (v':=v') (w':=w) ?_ (did_same r.mem h4)
 simp [execOp,h3]
def setE (es:List (AV×AV)) (k v:AV) (q:Option (Nat×AV)):List (AV×AV):=match q with|some (j,_)=>es.set j (k,v)|none=>es++[(k,v)]
theorem mapset_sound (r:Rel C ρ s a w) {t kt' et:TypeId} {kt:KeyT} {mo io xo:Operand} (hu:C.P.underlying t=some (.map kt' et)) (hk:keyOf C.P kt'=some kt)
 {k v:AV} {b:Nat} (hm:V ρ w (.map b) (a.eval mo)) (hkv:V ρ w k (a.eval io)) (hv:V ρ w v (a.eval xo)) (hok:kt.ok k=true) {es:List (AV×AV)} (hb:s.hp.at b=some (.map es))
 {q:Option (Nat×AV)} (hf:findA k es 0=some q) {o:Oper} (ho:o.op = .mapUpdate t mo io xo∨o.op = .insert t mo io xo) :
 Done1 C a.eval o ρ s.hp w ⟨undefA,s.hp.put b (some (.map (setE es k v q))),[b]⟩:=by
 obtain ⟨h0,c,ms,clk,g1,g2,g3,g4⟩:=at_map r.mem hb
 have hrun:∃ ms' clk',(Instr.mapUpdate t (a.eval mo) (a.eval io) (a.eval xo)).run C.P w = .ok () (w.withBlock c (.map ms' clk'))∧(setE es k v q).length=ms'.size ∧
  ∀ (i:Nat) kx vx m,(setE es k v q)[i]? = some (kx,vx)→ms'[i]? = some m→V ρ w kx m.key∧V ρ w vx m.val:=by
  unfold Instr.mapUpdate
  generalize hxv:a.eval mo=xv at hm
  cases hm with
  | map hρ=>
   rw [hρ] at g1;cases g1
   obtain ⟨q',h1,h2⟩:=findKey_run (P:=C.P) (ms:=ms.toList) hk hok hkv (by simpa using g3) (by simpa using g4) hf
   cases q with
   | none=>
    cases q' with
    | some _=>exact h2.elim
    | none=>
     refine ⟨ms.push { key:=a.eval io,val:=a.eval xo,born:=clk },clk+1,?_,by simp [setE,g3],?_⟩
     · simp only [Sem.run_bind,run_underlying' hu,Result.andThen_ok,checkKey_run hk,h1,run_getObjM g2 (by simp)]
       exact run_setObjM g2 (by simp)
     · intro i kx vx m hx hm
       simp only [setE] at hx
       rw [List.getElem?_append] at hx
       rw [Array.getElem?_push] at hm
       split at hx
       · rw [if_neg (by omega)] at hm;exact g4 i kx vx m hx hm
       · have:i<es.length+1:=by
          have:=(List.getElem?_eq_some_iff.1 hx).1
          simp at this;omega
         rw [if_pos (by omega)] at hm
         cases hm
         rw [show i-es.length=0 from by omega] at hx
         simp at hx
         obtain ⟨rfl,rfl⟩:=hx
         exact ⟨hkv,hv⟩
   | some p=>
    cases q' with
    | none=>exact h2.elim
    | some p'=>
     obtain ⟨j,pv⟩:=p
     obtain ⟨j',pv'⟩:=p'
     obtain ⟨e1,_,_,e,e3,e4,e5⟩:=h2
     have e1:j=j':=e1
     subst e1
     have e3:ms[j]? = some e:=by simpa using e3
     have hj:j<ms.size:=(Array.getElem?_eq_some_iff.1 e3).1
     refine ⟨ms.modify j fun e=>{ e with key:=a.eval io,val:=a.eval xo },clk,?_,by simp [setE,g3],?_⟩
     · simp only [Sem.run_bind,run_underlying' hu,Result.andThen_ok,checkKey_run hk,h1,run_getObjM g2 (by simp)]
       simp only [e3,Option.map_some,Option.getD_some,Instr.keyThatStays,e5,if_true,Sem.run_pure,Result.andThen_ok]
       exact run_setObjM g2 (by simp)
     · intro i kx vx m hx hm
       rw [Array.getElem?_modify] at hm
       simp only [setE] at hx
       rw [List.getElem?_set] at hx
       by_cases hij:j=i
       · subst hij
         rw [if_pos rfl] at hx hm
         rw [if_pos (by omega)] at hx
         simp only [e3,Option.map_some,Option.some.injEq] at hm
         cases hx;subst hm
         exact ⟨hkv,hv⟩
       · rw [if_neg hij] at hx hm
         exact g4 i kx vx m hx hm
  | mapD _ hρ=>rw [hρ] at g1;cases g1
 obtain ⟨ms',clk',h1,h2,h3⟩:=hrun
 have hO:∀ cs0 e0 fr0,w.heap[c]? = some (.cells cs0 e0 fr0)→∃ cs' fr',Obj.map ms' clk' = .cells cs' e0 fr'∧cs'.size=cs0.size:=by
  intro _ _ _ hq;rw [g2] at hq;cases hq
 have x:=Ext.write r.mem h0 g1 (some (.map (setE es k v q))) (.map ms' clk') hO
 refine Done1.skip (w':=w.withBlock c (.map ms' clk')) ?_ ⟨ρ,V.undef,Mem.write r.mem h0 g1 _ _ hO ?_,x⟩
 · obtain ⟨dst,op,ty,pos,af,gd⟩:=o
   simp only at ho
   rcases ho with rfl|rfl <;> simp [execOp,h1]
 · intro o' ho';cases ho'
   exact ⟨c,ms',clk',g1,withBlock_self (r.mem.bound _ _ _ g1),h2,fun i kx vx m hx hm=>let ⟨a1,a2⟩:=h3 i kx vx m hx hm;⟨a1.mono x,a2.mono x⟩⟩
theorem mkmap_sound (r:Rel C ρ s a w) {t:TypeId} {o:Oper} (ho:o.op = .makeMap t none):Done1 C a.eval o ρ s.hp w ⟨.map s.hp.length,s.hp++[some (.map [])],[]⟩:=by
 have x:=Ext.alloc r.mem (some (.map [])) (.map #[] 0) (.live w.heap.size 0) (.inl ⟨0,rfl⟩)
 refine Done1.val (v':=.map (some w.heap.size)) (w':={ w with heap:=w.heap.push (.map #[] 0) }) ?_ ⟨_,.map (Own.upd_self _ _ _),Mem.alloc r.mem _ _ _ (.inl ⟨0,rfl⟩) ?_,x⟩
 · obtain ⟨dst,op,ty,pos,af,gd⟩:=o
   simp only at ho
   subst ho
   simp [execOp,Instr.makeMap]
 · intro o' ho';cases ho'
   exact ⟨w.heap.size,#[],0,Own.upd_self _ _ _,by simp,rfl,by simp⟩
theorem range_sound (r:Rel C ρ s a w) {t:TypeId} {xo:Operand} (hu:C.P.underlying t=some .string) {u:List UInt8} (hx:V ρ w (.str u) (a.eval xo)) {o:Oper} (ho:o.op = .range t xo) :
 Done1 C a.eval o ρ s.hp w ⟨.ptr s.hp.length 0,s.hp++[some (.iter u 0)],[]⟩:=by
 have x:=Ext.alloc r.mem (some (.iter u 0)) (.stringIter ⟨u.toArray⟩ 0) (.live w.heap.size 0) (.inl ⟨0,rfl⟩)
 refine Done1.val (v':=.pointer (some ⟨w.heap.size,0,none⟩)) (w':={ w with heap:=w.heap.push (.stringIter ⟨u.toArray⟩ 0) }) ?_ ⟨_,new_ptr,Mem.alloc r.mem _ _ _ (.inl ⟨0,rfl⟩) ?_,x⟩
 · obtain ⟨dst,op,ty,pos,af,gd⟩:=o
   simp only at ho
   subst ho
   simp [execOp,Instr.range,run_underlying' hu,hx.str_inv]
 · intro o' ho';cases ho'
   exact ⟨w.heap.size,Own.upd_self _ _ _,by simp⟩
theorem next_sound (r:Rel C ρ s a w) {xo:Operand} {b pos:Nat} {t:List UInt8} (hx:V ρ w (.ptr b 0) (a.eval xo)) (hb:s.hp.at b=some (.iter t pos)) {o:Oper} (ho:o.op = .next xo true) :
 Done1 C a.eval o ρ s.hp w (if pos<t.length then ⟨.tup [.bool true,.int .i64 pos,.int .i32 (Utf8.decode ⟨t.toArray⟩ pos).1],s.hp.put b (some (.iter t (pos+(Utf8.decode ⟨t.toArray⟩ pos).2))),[b]⟩ else ⟨.tup [.bool false],s.hp,[]⟩):=by
 have h0:=at_some hb
 obtain ⟨c,g1,g2⟩:=r.mem.blk b _ h0
 obtain ⟨dst,op,ty,ps,af,gd⟩:=o
 simp only at ho
 subst ho
 generalize hxv:a.eval xo=xv at hx
 cases hx with
 | ptr _ hρ=>
  rw [hρ] at g1;cases g1
  have hsz:(ByteArray.mk t.toArray).size=t.length:=by simp [ByteArray.size]
  by_cases hp:pos<t.length
  · rw [if_pos hp]
    have hO:∀ cs0 e0 fr0,w.heap[c]? = some (.cells cs0 e0 fr0)→∃ cs' fr',Obj.stringIter ⟨t.toArray⟩ (pos+(Utf8.decode ⟨t.toArray⟩ pos).2) = .cells cs' e0 fr'∧cs'.size=cs0.size:=by
     intro _ _ _ hq;rw [g2] at hq;cases hq
    have x:=Ext.write r.mem h0 hρ (some (.iter t (pos+(Utf8.decode ⟨t.toArray⟩ pos).2))) (.stringIter ⟨t.toArray⟩ (pos+(Utf8.decode ⟨t.toArray⟩ pos).2)) hO
    refine Done1.val (v':=.tuple #[.bool true,goInt pos,.int .i32 (Utf8.decode ⟨t.toArray⟩ pos).1]) (w':=w.withBlock c (.stringIter ⟨t.toArray⟩ (pos+(Utf8.decode ⟨t.toArray⟩ pos).2))) ?_
     ⟨ρ,V.mkTup (.cons (.bool _) (.cons (.int _ _) (.cons (.int _ _) .nil))),Mem.write r.mem h0 hρ _ _ hO ?_,x⟩
    · simp [execOp,Instr.next,hxv,run_getObjM g2,hsz,hp,run_setObjM g2]
    · intro o' ho';cases ho'
      exact ⟨c,hρ,withBlock_self (r.mem.bound _ _ _ hρ)⟩
  · rw [if_neg hp]
    refine Done1.val (v':=.tuple #[.bool false]) (w':=w) ?_ (did_same r.mem (V.mkTup (.cons (.bool _) .nil)))
    simp [execOp,Instr.next,hxv,run_getObjM g2,hsz,hp]
 | ptrD _ _ _ hρ=>rw [hρ] at g1;cases g1
end Go.Ab
